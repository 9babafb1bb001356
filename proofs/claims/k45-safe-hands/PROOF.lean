import PyProof.Rows.All
import Wide.All
import OpenK.AllK
import Wide.FinOn
import PySem.Challenge.RW_everyfire_k45_whole_no_fire_meets_safe_h
import KE.KStateDown
import HandS.ForMost
import HandS.ForExc
import HandS.Defaults
import HandS.Property
import HandS.MakeKwOnly
import HandS.Head0
import HandS.Head1
import HandS.Head2
import HandS.HeadEnd
import HandS.HeadHook1
import HandS.HeadHook2
import HandS.Walk
import HandS.Zip
import HandS.Flow
import HandS.Style
import HandS.Strs
import HandS.SortKw
import HandS.Deep
import HandS.DictComp
import KE.DatumOrd
import KE.GoesEnum
import PyProof.Rows.RowBridgeK
set_option Elab.async false
set_option linter.all false
set_option maxRecDepth 100000
set_option maxHeartbeats 4000000
/-! The text by places, the defs as data, what is told of the top. -/
namespace Ef
open PySem PySem.Spec PyProof.Rows L2
def topS (i : Nat) : Stmt := PySem.Challenge.pw_everyfire_k45_whole_no_fire_meets_safe_h.main.body.getD i (.Pass ⟨0, 0, 0, 0⟩)
abbrev s_check_winds : Stmt := topS 11
abbrev s_check_changes : Stmt := topS 12
abbrev s_blowing : Stmt := topS 13
abbrev s_chances : Stmt := topS 14
abbrev s_least_numbers : Stmt := topS 16
abbrev s_is_number : Stmt := topS 17
abbrev s_check_numbers : Stmt := topS 18
abbrev s_check_rows : Stmt := topS 19
abbrev s_least_minutes : Stmt := topS 20
abbrev s_caught : Stmt := topS 21
abbrev s_spread : Stmt := topS 22
abbrev s_check_fire : Stmt := topS 23
abbrev s_told : Stmt := topS 24
abbrev s_burning : Stmt := topS 25
abbrev s_fastest : Stmt := topS 26
abbrev s_is_name : Stmt := topS 35
abbrev s_are_different : Stmt := topS 36
abbrev s_require : Stmt := topS 37
abbrev s_checked_times : Stmt := topS 38
abbrev s_Land_init : Stmt := inClass (topS 39) 0
abbrev s_Land_are_ends : Stmt := inClass (topS 39) 1
abbrev s_Land_checked_link : Stmt := inClass (topS 39) 2
abbrev s_Land_checked_path : Stmt := inClass (topS 39) 3
abbrev s_Land_check_place : Stmt := inClass (topS 39) 5
abbrev s_Land_check_wind : Stmt := inClass (topS 39) 6
abbrev s_Land_walks_from : Stmt := inClass (topS 39) 11
abbrev s_Land_minutes_between : Stmt := inClass (topS 39) 12
abbrev s_check_hands : Stmt := topS 44
abbrev s_Course_init : Stmt := inClass (topS 45) 0
abbrev s_stays : Stmt := topS 46
abbrev s_breaks_of : Stmt := topS 47
abbrev s_is_danger : Stmt := topS 48
abbrev s_dangers : Stmt := topS 49
abbrev s_is_safe : Stmt := topS 50
abbrev s_keeps : Stmt := topS 51
abbrev s_l_row : Stmt := topS 53
abbrev s_l_numbers : Stmt := topS 54
abbrev s_l_names : Stmt := topS 55
abbrev s_l_parts : Stmt := topS 56
abbrev s_l_weather : Stmt := topS 57
abbrev s_l_wind : Stmt := topS 58
abbrev s_l_caught : Stmt := topS 59
abbrev s_l_fire : Stmt := topS 60
abbrev s_l_rows : Stmt := topS 61
abbrev s_l_make : Stmt := topS 62
abbrev s_l_walks : Stmt := topS 63
abbrev s_l_hands : Stmt := topS 64
abbrev s_l_course : Stmt := topS 65
abbrev s_l_cut : Stmt := topS 66
abbrev s_l_met : Stmt := topS 67
abbrev s_l_any_fire : Stmt := topS 68
abbrev s_law : Stmt := topS 69
abbrev s_Land_link_names : Stmt := inClass (topS 39) 4
def d_check_winds : He.DefD := ⟨("check_winds", none), "check_winds", "check_winds", defArgs s_check_winds, defBody s_check_winds, defScope s_check_winds, [], []⟩
def d_check_changes : He.DefD := ⟨("check_changes", none), "check_changes", "check_changes", defArgs s_check_changes, defBody s_check_changes, defScope s_check_changes, [], []⟩
def d_blowing : He.DefD := ⟨("blowing", none), "blowing", "blowing", defArgs s_blowing, defBody s_blowing, defScope s_blowing, [], []⟩
def d_chances : He.DefD := ⟨("chances", none), "chances", "chances", defArgs s_chances, defBody s_chances, defScope s_chances, [], []⟩
def d_least_numbers : He.DefD := ⟨("least_numbers", none), "least_numbers", "least_numbers", defArgs s_least_numbers, defBody s_least_numbers, defScope s_least_numbers, [], []⟩
def d_is_number : He.DefD := ⟨("is_number", none), "is_number", "is_number", defArgs s_is_number, defBody s_is_number, defScope s_is_number, [], []⟩
def d_check_numbers : He.DefD := ⟨("check_numbers", none), "check_numbers", "check_numbers", defArgs s_check_numbers, defBody s_check_numbers, defScope s_check_numbers, [], []⟩
def d_check_rows : He.DefD := ⟨("check_rows", none), "check_rows", "check_rows", defArgs s_check_rows, defBody s_check_rows, defScope s_check_rows, [], []⟩
def d_least_minutes : He.DefD := ⟨("least_minutes", none), "least_minutes", "least_minutes", defArgs s_least_minutes, defBody s_least_minutes, defScope s_least_minutes, [], []⟩
def d_caught : He.DefD := ⟨("caught", none), "caught", "caught", defArgs s_caught, defBody s_caught, defScope s_caught, [], []⟩
def d_spread : He.DefD := ⟨("spread", none), "spread", "spread", defArgs s_spread, defBody s_spread, defScope s_spread, [], []⟩
def d_check_fire : He.DefD := ⟨("check_fire", none), "check_fire", "check_fire", defArgs s_check_fire, defBody s_check_fire, defScope s_check_fire, [], []⟩
def d_told : He.DefD := ⟨("told", none), "told", "told", defArgs s_told, defBody s_told, defScope s_told, [], []⟩
def d_burning : He.DefD := ⟨("burning", none), "burning", "burning", defArgs s_burning, defBody s_burning, defScope s_burning, [], []⟩
def d_fastest : He.DefD := ⟨("fastest", none), "fastest", "fastest", defArgs s_fastest, defBody s_fastest, defScope s_fastest, [], []⟩
def d_is_name : He.DefD := ⟨("is_name", none), "is_name", "is_name", defArgs s_is_name, defBody s_is_name, defScope s_is_name, [], []⟩
def d_are_different : He.DefD := ⟨("are_different", none), "are_different", "are_different", defArgs s_are_different, defBody s_are_different, defScope s_are_different, [], []⟩
def d_require : He.DefD := ⟨("require", none), "require", "require", defArgs s_require, defBody s_require, defScope s_require, [], []⟩
def d_checked_times : He.DefD := ⟨("checked_times", none), "checked_times", "checked_times", defArgs s_checked_times, defBody s_checked_times, defScope s_checked_times, [], []⟩
def d_Land_init : He.DefD := ⟨("Land", some "__init__"), "__init__", "Land.__init__", defArgs s_Land_init, defBody s_Land_init, defScope s_Land_init, [], []⟩
def d_Land_are_ends : He.DefD := ⟨("Land", some "are_ends"), "are_ends", "Land.are_ends", defArgs s_Land_are_ends, defBody s_Land_are_ends, defScope s_Land_are_ends, [], []⟩
def d_Land_checked_link : He.DefD := ⟨("Land", some "checked_link"), "checked_link", "Land.checked_link", defArgs s_Land_checked_link, defBody s_Land_checked_link, defScope s_Land_checked_link, [], []⟩
def d_Land_checked_path : He.DefD := ⟨("Land", some "checked_path"), "checked_path", "Land.checked_path", defArgs s_Land_checked_path, defBody s_Land_checked_path, defScope s_Land_checked_path, [], []⟩
def d_Land_check_place : He.DefD := ⟨("Land", some "check_place"), "check_place", "Land.check_place", defArgs s_Land_check_place, defBody s_Land_check_place, defScope s_Land_check_place, [], []⟩
def d_Land_check_wind : He.DefD := ⟨("Land", some "check_wind"), "check_wind", "Land.check_wind", defArgs s_Land_check_wind, defBody s_Land_check_wind, defScope s_Land_check_wind, [], []⟩
def d_Land_walks_from : He.DefD := ⟨("Land", some "walks_from"), "walks_from", "Land.walks_from", defArgs s_Land_walks_from, defBody s_Land_walks_from, defScope s_Land_walks_from, [], []⟩
def d_Land_minutes_between : He.DefD := ⟨("Land", some "minutes_between"), "minutes_between", "Land.minutes_between", defArgs s_Land_minutes_between, defBody s_Land_minutes_between, defScope s_Land_minutes_between, [], []⟩
def d_check_hands : He.DefD := ⟨("check_hands", none), "check_hands", "check_hands", defArgs s_check_hands, defBody s_check_hands, defScope s_check_hands, [], []⟩
def d_Course_init : He.DefD := ⟨("Course", some "__init__"), "__init__", "Course.__init__", defArgs s_Course_init, defBody s_Course_init, defScope s_Course_init, [], []⟩
def d_stays : He.DefD := ⟨("stays", none), "stays", "stays", defArgs s_stays, defBody s_stays, defScope s_stays, [], []⟩
def d_breaks_of : He.DefD := ⟨("breaks_of", none), "breaks_of", "breaks_of", defArgs s_breaks_of, defBody s_breaks_of, defScope s_breaks_of, [], []⟩
def d_is_danger : He.DefD := ⟨("is_danger", none), "is_danger", "is_danger", defArgs s_is_danger, defBody s_is_danger, defScope s_is_danger, [], []⟩
def d_dangers : He.DefD := ⟨("dangers", none), "dangers", "dangers", defArgs s_dangers, defBody s_dangers, defScope s_dangers, [], []⟩
def d_is_safe : He.DefD := ⟨("is_safe", none), "is_safe", "is_safe", defArgs s_is_safe, defBody s_is_safe, defScope s_is_safe, [], []⟩
def d_keeps : He.DefD := ⟨("keeps", none), "keeps", "keeps", defArgs s_keeps, defBody s_keeps, defScope s_keeps, [], []⟩
def d_l_row : He.DefD := ⟨("_law_row", none), "_law_row", "_law_row", defArgs s_l_row, defBody s_l_row, defScope s_l_row, [], []⟩
def d_l_numbers : He.DefD := ⟨("_law_numbers", none), "_law_numbers", "_law_numbers", defArgs s_l_numbers, defBody s_l_numbers, defScope s_l_numbers, [], []⟩
def d_l_names : He.DefD := ⟨("_law_names", none), "_law_names", "_law_names", defArgs s_l_names, defBody s_l_names, defScope s_l_names, [], []⟩
def d_l_parts : He.DefD := ⟨("_law_parts", none), "_law_parts", "_law_parts", defArgs s_l_parts, defBody s_l_parts, defScope s_l_parts, [], []⟩
def d_l_weather : He.DefD := ⟨("_law_weather", none), "_law_weather", "_law_weather", defArgs s_l_weather, defBody s_l_weather, defScope s_l_weather, [], []⟩
def d_l_wind : He.DefD := ⟨("_law_wind", none), "_law_wind", "_law_wind", defArgs s_l_wind, defBody s_l_wind, defScope s_l_wind, [], []⟩
def d_l_caught : He.DefD := ⟨("_law_caught", none), "_law_caught", "_law_caught", defArgs s_l_caught, defBody s_l_caught, defScope s_l_caught, [], []⟩
def d_l_fire : He.DefD := ⟨("_law_fire", none), "_law_fire", "_law_fire", defArgs s_l_fire, defBody s_l_fire, defScope s_l_fire, [], []⟩
def d_l_rows : He.DefD := ⟨("_law_rows", none), "_law_rows", "_law_rows", defArgs s_l_rows, defBody s_l_rows, defScope s_l_rows, [], []⟩
def d_l_make : He.DefD := ⟨("_law_make", none), "_law_make", "_law_make", defArgs s_l_make, defBody s_l_make, defScope s_l_make, [], []⟩
def d_l_walks : He.DefD := ⟨("_law_walks", none), "_law_walks", "_law_walks", defArgs s_l_walks, defBody s_l_walks, defScope s_l_walks, [], []⟩
def d_l_hands : He.DefD := ⟨("_law_hands", none), "_law_hands", "_law_hands", defArgs s_l_hands, defBody s_l_hands, defScope s_l_hands, [], []⟩
def d_l_course : He.DefD := ⟨("_law_course", none), "_law_course", "_law_course", defArgs s_l_course, defBody s_l_course, defScope s_l_course, [], []⟩
def d_l_cut : He.DefD := ⟨("_law_cut", none), "_law_cut", "_law_cut", defArgs s_l_cut, defBody s_l_cut, defScope s_l_cut, [], []⟩
def d_l_met : He.DefD := ⟨("_law_met", none), "_law_met", "_law_met", defArgs s_l_met, defBody s_l_met, defScope s_l_met, [], []⟩
def d_l_any_fire : He.DefD := ⟨("_law_any_fire", none), "_law_any_fire", "_law_any_fire", defArgs s_l_any_fire, defBody s_l_any_fire, defScope s_l_any_fire, [], []⟩
def d_law : He.DefD := ⟨("law", none), "law", "law", defArgs s_law, defBody s_law, defScope s_law, [], []⟩
def fnL : List He.DefD := [d_check_winds, d_check_changes, d_blowing, d_chances, d_least_numbers, d_is_number, d_check_numbers, d_check_rows, d_least_minutes, d_caught, d_spread, d_check_fire, d_told, d_burning, d_fastest, d_is_name, d_are_different, d_require, d_checked_times, d_Land_init, d_Land_are_ends, d_Land_checked_link, d_Land_checked_path, d_Land_check_place, d_Land_check_wind, d_Land_walks_from, d_Land_minutes_between, d_check_hands, d_Course_init, d_stays, d_breaks_of, d_is_danger, d_dangers, d_is_safe, d_keeps, d_l_row, d_l_numbers, d_l_names, d_l_parts, d_l_weather, d_l_wind, d_l_caught, d_l_fire, d_l_rows, d_l_make, d_l_walks, d_l_hands, d_l_course, d_l_cut, d_l_met, d_l_any_fire, d_law]
def faL : List He.Fa := [.glo "check_winds", .glo "check_changes", .glo "blowing", .glo "chances", .glo "least_numbers", .glo "is_number", .glo "check_numbers", .glo "check_rows", .glo "least_minutes", .glo "caught", .glo "spread", .glo "check_fire", .glo "told", .glo "burning", .glo "fastest", .glo "is_name", .glo "are_different", .glo "require", .glo "checked_times", .glo "check_hands", .glo "stays", .glo "breaks_of", .glo "is_danger", .glo "dangers", .glo "is_safe", .glo "keeps", .glo "_law_row", .glo "_law_numbers", .glo "_law_names", .glo "_law_parts", .glo "_law_weather", .glo "_law_wind", .glo "_law_caught", .glo "_law_fire", .glo "_law_rows", .glo "_law_make", .glo "_law_walks", .glo "_law_hands", .glo "_law_course", .glo "_law_cut", .glo "_law_met", .glo "_law_any_fire", .glo "law", .glo "Land", .glo "Course", .free "all", .free "any", .free "min", .free "max", .free "len", .free "tuple", .free "list", .free "dict", .free "set", .free "zip", .free "enumerate", .free "range", .free "sorted", .free "int", .free "abs", .int "MOST_CHANGES" 40, .int "MOST_MINUTE" 100000, .int "MOST_NAME_CHARS" 12, .int "MOST_WINDS" 4, .int "MOST_PLACES" 24, .int "MOST_LINKS" 60, .int "MOST_PATHS" 60, .int "MOST_MINUTES_lands" 1000, .int "MOST_HANDS" 5, .int "MOST_DEEDS" 30, .int "MOST_MINUTES_hands" 1000, .str "NAME_CHARS" "abcdefghijklmnopqrstuvwxyz0123456789", .cls "Land", .cls "Course", .mkr "Land", .mkr "Course", .noat "Land" "winds", .noat "Land" "places", .noat "Land" "links", .noat "Land" "paths", .noat "Course" "stays", .noat "Course" "cuts", .noat "Course" "end", .meth "Land" "are_ends", .meth "Land" "checked_link", .meth "Land" "checked_path", .meth "Land" "check_place", .meth "Land" "check_wind", .meth "Land" "walks_from", .meth "Land" "minutes_between"]
/-! ### the property link_names -/
def pA (K : PySem.W.Frag) : Addr := He.ma K (He.ga K "Land") "link_names"
def gA (K : PySem.W.Frag) : Addr := match PySem.W.recIn K (pA K) "property" with
  | some (.ref g :: _) => g
  | _ => 0
def fnWa (K : PySem.W.Frag) (a : Addr) : He.FnW := match K.lookup a with
  | some ⟨_, _, .func fd, _⟩ => some (fd.name, fd.qualname, fd.params, fd.body, fd.scope, fd.globals, fd.closure, fd.builtins)
  | _ => none
def okA (K : PySem.W.Frag) (a : Addr) (q : Str) : Bool := PySem.W.keepIn K (.ref a) && (match K.lookup a with
  | some ⟨_, _, .func fd, _⟩ => PySem.W.codeIn K fd.code q && He.dflB K fd.defaults []
  | _ => false)
def valA : He.FnW := some ("link_names", "Land.link_names", defArgs s_Land_link_names, .stmts (defBody s_Land_link_names), defScope s_Land_link_names, mainGlobals, [], builtinsNs)
theorem funA {K : PySem.W.Frag} {a : Addr} (e : fnWa K a = valA) (c : okA K a "Land.link_names" = true) :
    ∃ fd, FunD K "link_names" "Land.link_names" (defArgs s_Land_link_names) (defBody s_Land_link_names) (defScope s_Land_link_names) [] [] a fd := by
  obtain ⟨kp, c2⟩ := He.ba c
  unfold fnWa at e
  cases q : K.lookup a with
  | none =>
    rw [q] at c2
    cases c2
  | some o =>
    obtain ⟨oc, od, dt, osl⟩ := o
    rw [q] at c2 e
    cases dt with
    | func fd =>
      obtain ⟨n1, n2, n3, n4, n5, n6, n7, n8, n9, n10, n11, n12, n13, n14, n15⟩ := fd
      have e2 : (some (n1, n2, n3, n4, n5, n6, n7, n15) : He.FnW) = (some (("link_names" : Str), ("Land.link_names" : Str), defArgs s_Land_link_names, FuncBody.stmts (defBody s_Land_link_names), defScope s_Land_link_names, mainGlobals, ([] : List (Str × Addr)), builtinsNs) : He.FnW) := e
      simp only [Option.some.injEq, Prod.mk.injEq] at e2
      obtain ⟨h1, h2, h3, h4, h5, h6, h7, h8⟩ := e2
      subst h1 h2 h3 h4 h5 h6 h7 h8
      have c3 : (PySem.W.codeIn K n13 "Land.link_names" && He.dflB K n8 []) = true := c2
      obtain ⟨k1, k2⟩ := He.ba c3
      exact ⟨_, ⟨oc, od, n8, n9, n10, n11, n12, n13, n14, osl, rfl, q, k1, He.dflB_ok (dvs := []) k2, .inl rfl⟩, kp⟩
    | _ => cases c2
/-- the property's facts -/
def exL (K : PySem.W.Frag) : Bool := He.eqO (PySem.W.findIn K (.ref (He.ga K "Land")) "link_names") (some (some (.ref (pA K)))) && (He.eqO (PySem.W.specialIn K (.ref (pA K)) "__get__") (some (some (.builtin "property.__get__"))) &&
  (decide (PySem.W.takesIn K (.ref (pA K)) = some true) && ((match PySem.W.recIn K (pA K) "property" with
    | some (.ref _ :: _) => true
    | _ => false) && okA K (gA K) "Land.link_names")))
theorem exL_prop {K : PySem.W.Frag} (h : exL K = true) : PropOf K (He.ga K "Land") "link_names" (pA K) (gA K) ∧ okA K (gA K) "Land.link_names" = true := by
  obtain ⟨h1, h⟩ := He.ba h
  obtain ⟨h2, h⟩ := He.ba h
  obtain ⟨h3, h⟩ := He.ba h
  obtain ⟨h4, h5⟩ := He.ba h
  refine ⟨⟨He.eqO_ok h1, He.eqO_ok h2, of_decide_eq_true h3, ?_⟩, h5⟩
  unfold gA
  cases q : PySem.W.recIn K (pA K) "property" with
  | none =>
    rw [q] at h4
    cases h4
  | some l =>
    rw [q] at h4
    match l, h4 with
    | .ref g :: r, _ => exact ⟨r, rfl⟩
/-! ### the Hook -/
abbrev AlM : Type := He.AlD × (Bool × He.FnW)
def obsM (K : PySem.W.Frag) : AlM := (He.obsD faL fnL K, (exL K, fnWa K (gA K)))
def valM : AlM := (He.valD fnL, (true, valA))
def SaysM (K : PySem.W.Frag) : Prop := obsM K = valM
def obsMG (n : Nat) (g : Addr → Option Obj) : AlM := obsM (He.frG g (He.asD g n))
def hookM (n : Nat) : PySem.W.Hook where
  α := AlM
  obs := fun s => obsMG n s.heap.get?
  val := fun _ => valM
  says := fun _ h => ∃ K : PySem.W.Frag, K.In h ∧ SaysM K
  of := fun _ _ e => ⟨_, He.frG_in, e⟩
  keeps := fun _ _ _ ⟨K, hK, c⟩ k => ⟨K, PySem.W.Frag.In.keeps hK k, c⟩
theorem obsMG_eq {n : Nat} {g : Addr → Option Obj} {s : Shared} (h : ∀ a, g a = s.heap.get? a) : obsMG n g = (hookM n).obs s := by
  have e : g = s.heap.get? := funext h
  rw [e] <;> rfl
theorem SaysM.d {K : PySem.W.Frag} (c : SaysM K) : He.SaysD faL fnL K := congrArg (fun z : AlM => z.1) c
theorem SaysM.ex {K : PySem.W.Frag} (c : SaysM K) : exL K = true := congrArg (fun z : AlM => z.2.1) c
theorem SaysM.fn {K : PySem.W.Frag} (c : SaysM K) : fnWa K (gA K) = valA := congrArg (fun z : AlM => z.2.2) c
end Ef
set_option maxHeartbeats 0
namespace Ef
open PySem PySem.Spec PyProof.Rows L2
abbrev RR : PySem.W.OpenRow := PySem.W.OpenLaw.row PySem.Challenge.rw_everyfire_k45_whole_no_fire_meets_safe_h
def obR (s : PySem.W.SharedT) : AlM := obsMG 7 (HandSHeadRun.getT s)
theorem obR_eq (s : PySem.W.SharedT) : obR s = (hookM 7).obs s.abs := obsMG_eq (HandSHeadRun.getT_eq s)
def loose0 : List Str := ["_wall", "EveryfireError", "InvalidLand", "UnknownName", "InvalidWeather", "InvalidPlan", "InvalidQuestion", "MOST_CHANGES", "MOST_MINUTE", "check_winds", "check_changes", "blowing", "chances", "least_numbers", "is_number"]
def loose1 : List Str := ["check_numbers", "check_rows", "least_minutes", "caught", "spread", "check_fire", "told", "burning", "fastest", "NAME_CHARS", "MOST_NAME_CHARS", "MOST_WINDS", "MOST_PLACES", "MOST_LINKS", "MOST_PATHS"]
def loose2 : List Str := ["MOST_MINUTES_lands", "is_name", "are_different", "require", "checked_times", "Land", "MOST_HANDS", "MOST_DEEDS", "MOST_MINUTES_hands", "check_hands", "Course", "stays", "breaks_of", "is_danger", "dangers"]
def loose3 : List Str := ["is_safe", "keeps", "_law_row", "_law_numbers", "_law_names", "_law_parts", "_law_weather", "_law_wind", "_law_caught", "_law_fire", "_law_rows", "_law_make", "_law_walks", "_law_hands", "_law_course"]
def loose4 : List Str := ["_law_cut", "_law_met", "_law_any_fire"]
def loo : List Str := loose0 ++ (loose1 ++ (loose2 ++ (loose3 ++ (loose4))))
theorem run (w : World) : HandSHeadRun.RunEq RR (PySem.W.view RR.prog [69]) (hookM 7) obR 6000 loo w := by
  intro os
  kernel_rfl
end Ef
set_option autoImplicit false
set_option maxHeartbeats 4000000
/-! Data that stands still, names' contents by value, what evaluates to what. -/
namespace Ef
open PySem PySem.Spec PyProof.Rows L2
/-! ### data over the abstract heap -/
mutual
inductive Dq (F : Hp) : V → PyData → Prop
  | non : Dq F .non .none
  | bl (b : Bool) : Dq F (.bl b) (.bool b)
  | int (i : Int) : Dq F (.int i) (.int i)
  | str (x : Str) : Dq F (.str x) (.str x)
  | lst {a : Addr} {xs : List V} {ds : List PyData} : F a = some (.lst xs) → DqA F xs ds → Dq F (.ref a) (.list ds)
  | tup {a : Addr} {o : Obj} {xs : List V} {ds : List PyData} : F a = some (.frz o (.tup xs)) → o.dict = none → DqA F xs ds → Dq F (.ref a) (.tuple ds)
inductive DqA (F : Hp) : List V → List PyData → Prop
  | nil : DqA F [] []
  | cons {v : V} {vs : List V} {d : PyData} {ds : List PyData} : Dq F v d → DqA F vs ds → DqA F (v :: vs) (d :: ds)
end
theorem rd_mono {F F' : Hp} (e : Same F F') {a : Addr} {u : HO} (h : Rd F a u) : Rd F' a u := by
  rcases h with h | ⟨o, h⟩
  · exact .inl (e _ _ h)
  · exact .inr ⟨o, e _ _ h⟩
mutual
theorem Dq.mono {F F' : Hp} (e : Same F F') : ∀ (d : PyData) (v : V), Dq F v d → Dq F' v d
  | .none, _, h => by cases h; exact .non
  | .bool b, _, h => by cases h; exact .bl b
  | .int i, _, h => by cases h; exact .int i
  | .str x, _, h => by cases h; exact .str x
  | .list ds, _, h => by
    cases h with
    | lst h1 h2 => exact .lst (e _ _ h1) (DqA.mono e ds _ h2)
  | .tuple ds, _, h => by
    cases h with
    | tup h1 h3 h2 => exact .tup (e _ _ h1) h3 (DqA.mono e ds _ h2)
  | .dict _, _, h => by cases h
theorem DqA.mono {F F' : Hp} (e : Same F F') : ∀ (ds : List PyData) (vs : List V), DqA F vs ds → DqA F' vs ds
  | [], _, h => by cases h; exact .nil
  | d :: ds, _, h => by
    cases h with
    | cons h1 h2 => exact .cons (Dq.mono e d _ h1) (DqA.mono e ds _ h2)
end
mutual
theorem Dq.dp {F : Hp} {K : PySem.W.Frag} : ∀ (d : PyData) (v : V), Dq F v d → Dp K F v d
  | .none, _, h => by cases h; exact .non
  | .bool b, _, h => by cases h; exact .bl b
  | .int i, _, h => by cases h; exact .int i
  | .str x, _, h => by cases h; exact .str x
  | .list ds, _, h => by
    cases h with
    | lst h1 h2 => exact .lst (.inl (.inl h1)) (DqA.dp ds _ h2)
  | .tuple ds, _, h => by
    cases h with
    | tup h1 h3 h2 => exact .tup (.inl (.inr ⟨_, h1⟩)) (DqA.dp ds _ h2)
  | .dict _, _, h => by cases h
theorem DqA.dp {F : Hp} {K : PySem.W.Frag} : ∀ (ds : List PyData) (vs : List V), DqA F vs ds → DpAll K F vs ds
  | [], _, h => by cases h; exact .nil
  | d :: ds, _, h => by
    cases h with
    | cons h1 h2 => exact .cons (Dq.dp d _ h1) (DqA.dp ds _ h2)
end
section
variable {F F' : Hp} {v : V} {vs : List V} {d : PyData} {ds : List PyData}
theorem Dq.up (h : Dq F v d) (e : Same F F') : Dq F' v d := Dq.mono e d v h
theorem DqA.up (h : DqA F vs ds) (e : Same F F') : DqA F' vs ds := DqA.mono e ds vs h
theorem DqA.len : ∀ {vs : List V} {ds : List PyData}, DqA F vs ds → vs.length = ds.length
  | _, _, .nil => rfl
  | _, _, .cons _ t => congrArg (· + 1) (DqA.len t)
theorem DqA.get : ∀ {vs : List V} {ds : List PyData}, DqA F vs ds → ∀ {i : Nat} {d : PyData}, ds[i]? = some d → ∃ v, vs[i]? = some v ∧ Dq F v d
  | _, _, .nil, _, _, h => by simp at h
  | _, _, .cons h1 t, 0, d, h => by
    simp only [List.getElem?_cons_zero, Option.some.injEq] at h
    subst h
    exact ⟨_, rfl, h1⟩
  | _, _, .cons h1 t, i + 1, d, h => by
    simp only [List.getElem?_cons_succ] at h ⊢
    exact DqA.get t h
theorem DqA.getV : ∀ {vs : List V} {ds : List PyData}, DqA F vs ds → ∀ {i : Nat} {v : V}, vs[i]? = some v → ∃ d, ds[i]? = some d ∧ Dq F v d
  | _, _, .nil, _, _, h => by simp at h
  | _, _, .cons h1 t, 0, d, h => by
    simp only [List.getElem?_cons_zero, Option.some.injEq] at h
    subst h
    exact ⟨_, rfl, h1⟩
  | _, _, .cons h1 t, i + 1, d, h => by
    simp only [List.getElem?_cons_succ] at h ⊢
    exact DqA.getV t h
theorem DqA.append : ∀ {vs ws : List V} {ds es : List PyData}, DqA F vs ds → DqA F ws es → DqA F (vs ++ ws) (ds ++ es)
  | _, _, _, _, .nil, h => h
  | _, _, _, _, .cons h1 t, h => .cons h1 (DqA.append t h)
theorem DqA.take : ∀ {vs : List V} {ds : List PyData} (n : Nat), DqA F vs ds → DqA F (vs.take n) (ds.take n)
  | _, _, 0, _ => .nil
  | _, _, _ + 1, .nil => .nil
  | _, _, n + 1, .cons h t => .cons h (DqA.take n t)
theorem DqA.drop : ∀ {vs : List V} {ds : List PyData} (n : Nat), DqA F vs ds → DqA F (vs.drop n) (ds.drop n)
  | _, _, 0, h => h
  | _, _, _ + 1, .nil => .nil
  | _, _, n + 1, .cons h t => DqA.drop n t
theorem DqA.ints : ∀ {ns : List Int} {vs : List V}, DqA F vs (ns.map PyData.int) → vs = ns.map V.int
  | [], _, h => by cases h; rfl
  | n :: ns, _, h => by
    cases h with
    | cons h1 h2 =>
      cases h1
      rw [DqA.ints h2]
      rfl
theorem DqA.ofInts : ∀ {ns : List Int}, DqA F (ns.map V.int) (ns.map PyData.int)
  | [] => .nil
  | n :: ns => .cons (.int n) (DqA.ofInts (ns := ns))
theorem DqA.strs : ∀ {xs : List Str} {vs : List V}, DqA F vs (xs.map PyData.str) → vs = xs.map V.str
  | [], _, h => by cases h; rfl
  | n :: ns, _, h => by
    cases h with
    | cons h1 h2 =>
      cases h1
      rw [DqA.strs h2]
      rfl
theorem DqA.ofStrs : ∀ {xs : List Str}, DqA F (xs.map V.str) (xs.map PyData.str)
  | [] => .nil
  | n :: ns => .cons (.str n) (DqA.ofStrs (xs := ns))
theorem DqA.bools : ∀ {bs : List Bool} {vs : List V}, DqA F vs (bs.map PyData.bool) → vs = bs.map V.bl
  | [], _, h => by cases h; rfl
  | n :: ns, _, h => by
    cases h with
    | cons h1 h2 =>
      cases h1
      rw [DqA.bools h2]
      rfl
end
/-- text keys -/
abbrev KVq (F : Hp) : List (Key × V) → List (Str × PyData) → Prop := Paired fun p q => p.1 = Sum.inr q.1 ∧ Dq F p.2 q.2
abbrev FSq (F : Hp) : List (Str × V) → List (Str × PyData) → Prop := Paired fun p q => p.1 = q.1 ∧ Dq F p.2 q.2
theorem KVq.up {F F' : Hp} (e : Same F F') {vs : List (Key × V)} {ks : List (Str × PyData)} (h : KVq F vs ks) : KVq F' vs ks := Paired.mapP h fun _ _ ⟨a, b⟩ => ⟨a, b.up e⟩
theorem FSq.up {F F' : Hp} (e : Same F F') {vs : List (Str × V)} {ks : List (Str × PyData)} (h : FSq F vs ks) : FSq F' vs ks := Paired.mapP h fun _ _ ⟨a, b⟩ => ⟨a, b.up e⟩
theorem FSq.look {F : Hp} : ∀ {vs : List (Str × V)} {fs : List (Str × PyData)}, FSq F vs fs → ∀ {f : Str} {d : PyData}, fs.lookup f = some d → ∃ v, vs.lookup f = some v ∧ Dq F v d
  | _, _, .nil, _, _, h => by simp at h
  | _, _, .cons (a := ⟨x, v⟩) (b := ⟨y, d⟩) h1 t, f, e, h => by
    obtain ⟨e1, e2⟩ := h1
    (try dsimp only at e1 e2)
    subst e1
    simp only [List.lookup_cons] at h ⊢
    cases hf : (f == x) with
    | true =>
      rw [hf] at h
      (try dsimp only at h ⊢)
      cases h
      exact ⟨_, rfl, e2⟩
    | false =>
      rw [hf] at h
      (try dsimp only at h ⊢)
      exact FSq.look t h
theorem FSq.lookN {F : Hp} : ∀ {vs : List (Str × V)} {fs : List (Str × PyData)}, FSq F vs fs → ∀ {f : Str}, fs.lookup f = none → vs.lookup f = none
  | _, _, .nil, _, h => by simp
  | _, _, .cons (a := ⟨x, v⟩) (b := ⟨y, d⟩) h1 t, f, h => by
    obtain ⟨e1, e2⟩ := h1
    (try dsimp only at e1 e2)
    subst e1
    simp only [List.lookup_cons] at h ⊢
    cases hf : (f == x) with
    | true =>
      rw [hf] at h
      cases h
    | false =>
      rw [hf] at h
      (try dsimp only at h ⊢)
      exact FSq.lookN t h
/-! ### what a name holds -/
inductive SV where
  | u
  | d (x : PyData)
  | dic (kvs : List (Str × PyData))
  | obj (C : Addr) (fs : List (Str × PyData))
  | ml (ds : List PyData)
  | md (kvs : List (Str × PyData))
  | lk (kvs : List (Str × PyData))
/-- it is one's own, to be changed -/
def SV.mu : SV → Bool
  | .ml _ => true
  | .md _ => true
  | .lk _ => true
  | _ => false
def SlotOk (H0 F H : Hp) (s : SV) (c : Option (Option V)) : Prop := match s with
  | .u => True
  | .d x => ∃ v, c = some (some v) ∧ Dq F v x
  | .dic kvs => ∃ a vs, c = some (some (.ref a)) ∧ F a = some (.dK vs) ∧ KVq F vs kvs
  | .obj C fs => ∃ a dx vfs, c = some (some (.ref a)) ∧ H a = some (.ins C dx vfs) ∧ FSq F vfs fs
  | .ml ds => ∃ a vs, c = some (some (.ref a)) ∧ F a = none ∧ H0 a = none ∧ H a = some (.lst vs) ∧ DqA F vs ds
  | .md kvs => ∃ a vs, c = some (some (.ref a)) ∧ F a = none ∧ H0 a = none ∧ H a = some (.dK vs) ∧ KVq F vs kvs
  | .lk kvs => ∃ a vs o, c = some (some (.ref a)) ∧ F a = none ∧ H0 a = none ∧ H a = some (.frz o (.dK vs)) ∧ KVq F vs kvs
def MuAt (Γ : List SV) (i : Nat) : Prop := ∃ s, Γ[i]? = some s ∧ s.mu = true
structure SatF (H0 F : Hp) (Γ : List SV) (σ : L2.St) (H : Hp) : Prop where
  len : σ.length = Γ.length
  ex : Same F H
  ex0 : Same H0 H
  slot : ∀ (i : Nat) (s : SV), Γ[i]? = some s → SlotOk H0 F H s σ[i]?
  sep : ∀ (i j : Nat) (a : Addr), MuAt Γ i → MuAt Γ j → σ[i]? = some (some (.ref a)) → σ[j]? = some (some (.ref a)) → i = j
/-- facts and heap have grown -/
structure Gr (F H F' H' : Hp) : Prop where
  f : Same F F'
  h : Same H H'
  ex : Same F' H'
  new : ∀ b, F' b ≠ none → F b ≠ none ∨ H b = none
theorem Gr.refl {F H : Hp} (e : Same F H) : Gr F H F H := ⟨Same.refl _, Same.refl _, e, fun _ h => .inl h⟩
theorem Gr.trans {F H F1 H1 F2 H2 : Hp} (a : Gr F H F1 H1) (b : Gr F1 H1 F2 H2) : Gr F H F2 H2 := ⟨a.f.trans b.f, a.h.trans b.h, b.ex, fun x hx => by
  rcases b.new x hx with h | h
  · exact a.new x h
  · exact .inr (a.h.free h)⟩
theorem same_upd {H : Hp} {p : Addr} {o : HO} (h : H p = none) : Same H (upd H p o) := fun b x e => by
  rw [upd_ne (ne_of_none e h)]
  exact e
theorem same_upd2 {F H : Hp} {p : Addr} {o : HO} (e : Same F H) : Same (upd F p o) (upd H p o) := fun b x q => by
  by_cases hb : b = p
  · subst hb
    rw [upd_same] at q ⊢
    exact q
  · rw [upd_ne hb] at q ⊢
    exact e _ _ q
theorem Gr.new1 {F H : Hp} {p : Addr} {o : HO} (e : Same F H) (h : H p = none) : Gr F H (upd F p o) (upd H p o) :=
  ⟨same_upd (e.free h), same_upd h, same_upd2 e, fun b hb => by
    by_cases q : b = p
    · subst q
      exact .inr h
    · rw [upd_ne q] at hb
      exact .inl hb⟩
/-- a new object of one's own: the facts do not know it -/
theorem Gr.newM {F H : Hp} {p : Addr} {o : HO} (e : Same F H) (h : H p = none) : Gr F H F (upd H p o) := ⟨Same.refl _, same_upd h, e.trans (same_upd h), fun _ hb => .inl hb⟩
theorem Gr.no {F H F' H' : Hp} (g : Gr F H F' H') {a : Addr} {o : HO} (h1 : F a = Option.none) (h2 : H a = some o) : F' a = Option.none := by
  cases q : F' a with
  | none => rfl
  | some x =>
    rcases g.new a (by rw [q]; intro z; cases z) with h | h
    · exact absurd h1 h
    · rw [h2] at h
      cases h
theorem SlotOk.grow {H0 F H F' H' : Hp} (g : Gr F H F' H') {s : SV} {c : Option (Option V)} (h : SlotOk H0 F H s c) : SlotOk H0 F' H' s c := by
  cases s with
  | u => trivial
  | d x =>
    obtain ⟨v, h1, h2⟩ := h
    exact ⟨v, h1, h2.up g.f⟩
  | dic kvs =>
    obtain ⟨a, vs, h1, h2, h3⟩ := h
    exact ⟨a, vs, h1, g.f _ _ h2, KVq.up g.f h3⟩
  | obj C fs =>
    obtain ⟨a, dx, vfs, h1, h2, h3⟩ := h
    exact ⟨a, dx, vfs, h1, g.h _ _ h2, FSq.up g.f h3⟩
  | ml ds =>
    obtain ⟨a, vs, h1, h2, h3, h4, h5⟩ := h
    exact ⟨a, vs, h1, g.no h2 h4, h3, g.h _ _ h4, h5.up g.f⟩
  | md ds =>
    obtain ⟨a, vs, h1, h2, h3, h4, h5⟩ := h
    exact ⟨a, vs, h1, g.no h2 h4, h3, g.h _ _ h4, KVq.up g.f h5⟩
  | lk ds =>
    obtain ⟨a, vs, o, h1, h2, h3, h4, h5⟩ := h
    exact ⟨a, vs, o, h1, g.no h2 h4, h3, g.h _ _ h4, KVq.up g.f h5⟩
theorem SatF.grow {H0 F H F' H' : Hp} {Γ : List SV} {σ : L2.St} (s : SatF H0 F Γ σ H) (g : Gr F H F' H') : SatF H0 F' Γ σ H' :=
  ⟨s.len, g.ex, s.ex0.trans g.h, fun i x hx => (s.slot i x hx).grow g, s.sep⟩
/-- what a value is, made on the way from F, H (a new one's own object is not among F') -/
def VOk (H F' H' : Hp) (s : SV) (v : V) : Prop := match s with
  | .u => True
  | .d x => Dq F' v x
  | .dic kvs => ∃ a vs, v = .ref a ∧ F' a = some (.dK vs) ∧ KVq F' vs kvs
  | .obj C fs => ∃ a dx vfs, v = .ref a ∧ H' a = some (.ins C dx vfs) ∧ FSq F' vfs fs
  | .ml ds => ∃ a vs, v = .ref a ∧ H a = none ∧ F' a = none ∧ H' a = some (.lst vs) ∧ DqA F' vs ds
  | .md kvs => ∃ a vs, v = .ref a ∧ H a = none ∧ F' a = none ∧ H' a = some (.dK vs) ∧ KVq F' vs kvs
  | .lk kvs => False
theorem VOk.grow {H0 F H F' H' : Hp} (g : Gr F H F' H') {s : SV} {v : V} (h : VOk H0 F H s v) : VOk H0 F' H' s v := by
  cases s with
  | u => trivial
  | d x => exact Dq.up h g.f
  | dic kvs =>
    obtain ⟨a, vs, h1, h2, h3⟩ := h
    exact ⟨a, vs, h1, g.f _ _ h2, KVq.up g.f h3⟩
  | obj C fs =>
    obtain ⟨a, dx, vfs, h1, h2, h3⟩ := h
    exact ⟨a, dx, vfs, h1, g.h _ _ h2, FSq.up g.f h3⟩
  | ml ds =>
    obtain ⟨a, vs, h1, h2, h3, h4, h5⟩ := h
    exact ⟨a, vs, h1, h2, g.no h3 h4, g.h _ _ h4, h5.up g.f⟩
  | md ds =>
    obtain ⟨a, vs, h1, h2, h3, h4, h5⟩ := h
    exact ⟨a, vs, h1, h2, g.no h3 h4, g.h _ _ h4, KVq.up g.f h5⟩
  | lk ds => exact h
theorem VOk.back {H H1 F H' : Hp} (e : Same H H1) {s : SV} {v : V} (h : VOk H1 F H' s v) : VOk H F H' s v := by
  cases s with
  | u => trivial
  | d x => exact h
  | dic kvs => exact h
  | obj C fs => exact h
  | ml ds =>
    obtain ⟨a, vs, h1, h2, h3⟩ := h
    exact ⟨a, vs, h1, e.free h2, h3⟩
  | md ds =>
    obtain ⟨a, vs, h1, h2, h3⟩ := h
    exact ⟨a, vs, h1, e.free h2, h3⟩
  | lk ds => exact h
/-- a name is given a value -/
theorem SatF.set {H0 F H F' H' : Hp} {Γ : List SV} {σ : L2.St} {i : Nat} {s : SV} {v : V} (S : SatF H0 F Γ σ H) (g : Gr F H F' H') (h : VOk H F' H' s v) (hi : i < Γ.length) : SatF H0 F' (Γ.set i s) (σ.set i (some v)) H' := by
  have hil : i < σ.length := by rw [S.len]; exact hi
  have fresh : ∀ j a, j ≠ i → MuAt (Γ.set i s) j → σ[j]? = some (some (.ref a)) → s.mu = true → v = .ref a → False := by
    rintro j a hj ⟨s', hs', hm'⟩ hc hm hv
    rw [List.getElem?_set_ne hj.symm] at hs'
    have q := S.slot j s' hs'
    have key : ∃ o, H a = some o := by
      cases s' with
      | ml ds =>
        obtain ⟨b, vs, e1, _, _, e4, _⟩ := q
        rw [hc] at e1
        cases e1
        exact ⟨_, e4⟩
      | md ds =>
        obtain ⟨b, vs, e1, _, _, e4, _⟩ := q
        rw [hc] at e1
        cases e1
        exact ⟨_, e4⟩
      | lk ds =>
        obtain ⟨b, vs, o, e1, _, _, e4, _⟩ := q
        rw [hc] at e1
        cases e1
        exact ⟨_, e4⟩
      | _ => cases hm'
    obtain ⟨o, ho⟩ := key
    subst hv
    cases s with
    | ml ds =>
      obtain ⟨b, vs, e1, e2, _⟩ := h
      cases e1
      rw [ho] at e2
      cases e2
    | md ds =>
      obtain ⟨b, vs, e1, e2, _⟩ := h
      cases e1
      rw [ho] at e2
      cases e2
    | lk ds => exact h
    | _ => cases hm
  refine ⟨by rw [List.length_set, List.length_set, S.len], g.ex, S.ex0.trans g.h, fun j x hx => ?_, fun j k a hj hk cj ck => ?_⟩
  · by_cases q : j = i
    · subst q
      rw [List.getElem?_set_self hi] at hx
      rw [List.getElem?_set_self hil]
      cases hx
      cases s with
      | u => trivial
      | d x => exact ⟨v, rfl, h⟩
      | dic kvs =>
        obtain ⟨a, vs, rfl, h2, h3⟩ := h
        exact ⟨a, vs, rfl, h2, h3⟩
      | obj C fs =>
        obtain ⟨a, dx, vfs, rfl, h2, h3⟩ := h
        exact ⟨a, dx, vfs, rfl, h2, h3⟩
      | ml ds =>
        obtain ⟨a, vs, rfl, h2, h3, h4, h5⟩ := h
        exact ⟨a, vs, rfl, h3, S.ex0.free h2, h4, h5⟩
      | md ds =>
        obtain ⟨a, vs, rfl, h2, h3, h4, h5⟩ := h
        exact ⟨a, vs, rfl, h3, S.ex0.free h2, h4, h5⟩
      | lk ds => exact h.elim
    · rw [List.getElem?_set_ne (fun e => q e.symm)] at hx ⊢
      exact (S.slot j x hx).grow g
  · by_cases qj : j = i
    · by_cases qk : k = i
      · rw [qj, qk]
      · exfalso
        subst qj
        obtain ⟨s', hs', hm'⟩ := hj
        rw [List.getElem?_set_self hi] at hs'
        cases hs'
        rw [List.getElem?_set_self hil] at cj
        rw [List.getElem?_set_ne (fun e => qk e.symm)] at ck
        exact fresh k a qk hk ck hm' (Option.some.inj (Option.some.inj cj))
    · by_cases qk : k = i
      · exfalso
        subst qk
        obtain ⟨s', hs', hm'⟩ := hk
        rw [List.getElem?_set_self hi] at hs'
        cases hs'
        rw [List.getElem?_set_self hil] at ck
        rw [List.getElem?_set_ne (fun e => qj e.symm)] at cj
        exact fresh j a qj hj cj hm' (Option.some.inj (Option.some.inj ck))
      · rw [List.getElem?_set_ne (fun e => qj e.symm)] at cj
        rw [List.getElem?_set_ne (fun e => qk e.symm)] at ck
        refine S.sep j k a ?_ ?_ cj ck
        · obtain ⟨s', hs', hm'⟩ := hj
          rw [List.getElem?_set_ne (fun e => qj e.symm)] at hs'
          exact ⟨s', hs', hm'⟩
        · obtain ⟨s', hs', hm'⟩ := hk
          rw [List.getElem?_set_ne (fun e => qk e.symm)] at hs'
          exact ⟨s', hs', hm'⟩
/-- less is known -/
inductive Le : List SV → List SV → Prop
  | nil : Le [] []
  | u {s : SV} {Γ Γ' : List SV} : Le Γ Γ' → Le (s :: Γ) (.u :: Γ')
  | eq {s : SV} {Γ Γ' : List SV} : Le Γ Γ' → Le (s :: Γ) (s :: Γ')
theorem Le.len : ∀ {Γ Γ' : List SV}, Le Γ Γ' → Γ.length = Γ'.length
  | _, _, .nil => rfl
  | _, _, .u h => congrArg (· + 1) h.len
  | _, _, .eq h => congrArg (· + 1) h.len
theorem Le.get : ∀ {Γ Γ' : List SV}, Le Γ Γ' → ∀ {i : Nat} {s : SV}, Γ'[i]? = some s → s = .u ∨ Γ[i]? = some s
  | _, _, .nil, _, _, h => by simp at h
  | _, _, .u t, 0, s, h => by
    simp only [List.getElem?_cons_zero, Option.some.injEq] at h
    exact .inl h.symm
  | _, _, .eq t, 0, s, h => .inr h
  | _, _, .u t, i + 1, s, h => by
    simp only [List.getElem?_cons_succ] at h ⊢
    exact t.get h
  | _, _, .eq t, i + 1, s, h => by
    simp only [List.getElem?_cons_succ] at h ⊢
    exact t.get h
theorem Le.refl : ∀ Γ : List SV, Le Γ Γ
  | [] => .nil
  | _ :: Γ => .eq (Le.refl Γ)
theorem SatF.weak {H0 F H : Hp} {Γ Γ' : List SV} {σ : L2.St} (S : SatF H0 F Γ σ H) (l : Le Γ Γ') : SatF H0 F Γ' σ H := by
  have mu : ∀ i, MuAt Γ' i → MuAt Γ i := fun i ⟨s, hs, hm⟩ => by
    rcases l.get hs with h | h
    · subst h
      cases hm
    · exact ⟨s, h, hm⟩
  refine ⟨by rw [S.len, l.len], S.ex, S.ex0, fun i s hs => ?_, fun i j a hi hj => S.sep i j a (mu i hi) (mu j hj)⟩
  rcases l.get hs with h | h
  · subst h
    trivial
  · exact S.slot i s h
/-- one's own list stands still from now on -/
theorem SatF.freeze {H0 F H : Hp} {Γ : List SV} {σ : L2.St} {i : Nat} {ds : List PyData} (S : SatF H0 F Γ σ H) (hi : Γ[i]? = some (.ml ds)) :
    ∃ F', SatF H0 F' (Γ.set i (.d (.list ds))) σ H ∧ Same F F' ∧ ∀ b, F' b ≠ none → F b ≠ none ∨ H0 b = none := by
  obtain ⟨a, vs, h1, h2, h3, h4, h5⟩ := S.slot i _ hi
  have il : i < Γ.length := (List.getElem?_eq_some_iff.mp hi).1
  have sF : Same F (upd F a (.lst vs)) := same_upd h2
  have sH : Same (upd F a (.lst vs)) H := fun b x q => by
    by_cases hb : b = a
    · subst hb
      rw [upd_same] at q
      rw [h4]
      exact q
    · rw [upd_ne hb] at q
      exact S.ex _ _ q
  have other : ∀ j s, j ≠ i → Γ[j]? = some s → SlotOk H0 (upd F a (.lst vs)) H s σ[j]? := fun j s hj hs => by
    have q := S.slot j s hs
    have nea : ∀ b, σ[j]? = some (some (.ref b)) → s.mu = true → b ≠ a := fun b hb hm e => by
      subst e
      exact hj (S.sep j i b ⟨s, hs, hm⟩ ⟨_, hi, rfl⟩ hb h1)
    cases s with
    | u => trivial
    | d x =>
      obtain ⟨v, e1, e2⟩ := q
      exact ⟨v, e1, e2.up sF⟩
    | dic kvs =>
      obtain ⟨b, ws, e1, e2, e3⟩ := q
      exact ⟨b, ws, e1, sF _ _ e2, KVq.up sF e3⟩
    | obj C fs =>
      obtain ⟨b, dx, vfs, e1, e2, e3⟩ := q
      exact ⟨b, dx, vfs, e1, e2, FSq.up sF e3⟩
    | ml es =>
      obtain ⟨b, ws, e1, e2, e3, e4, e5⟩ := q
      exact ⟨b, ws, e1, by rw [upd_ne (nea b e1 rfl)]; exact e2, e3, e4, e5.up sF⟩
    | md es =>
      obtain ⟨b, ws, e1, e2, e3, e4, e5⟩ := q
      exact ⟨b, ws, e1, by rw [upd_ne (nea b e1 rfl)]; exact e2, e3, e4, KVq.up sF e5⟩
    | lk es =>
      obtain ⟨b, ws, o, e1, e2, e3, e4, e5⟩ := q
      exact ⟨b, ws, o, e1, by rw [upd_ne (nea b e1 rfl)]; exact e2, e3, e4, KVq.up sF e5⟩
  refine ⟨upd F a (.lst vs), ⟨by rw [List.length_set, S.len], sH, S.ex0, fun j s hs => ?_, fun j k b hj hk cj ck => ?_⟩, sF, fun b hb => ?_⟩
  · by_cases q : j = i
    · subst q
      rw [List.getElem?_set_self il] at hs
      cases hs
      exact ⟨.ref a, h1, .lst upd_same (h5.up sF)⟩
    · rw [List.getElem?_set_ne (fun e => q e.symm)] at hs
      exact other j s q hs
  · have mu : ∀ k, MuAt (Γ.set i (.d (.list ds))) k → MuAt Γ k := fun k ⟨s, hs, hm⟩ => by
      by_cases q : k = i
      · subst q
        rw [List.getElem?_set_self il] at hs
        cases hs
        cases hm
      · rw [List.getElem?_set_ne (fun e => q e.symm)] at hs
        exact ⟨s, hs, hm⟩
    exact S.sep j k b (mu j hj) (mu k hk) cj ck
  · by_cases q : b = a
    · subst q
      exact .inr h3
    · rw [upd_ne q] at hb
      exact .inl hb
end Ef
/-! What evaluates to what. -/
namespace Ef
open PySem PySem.Spec PyProof.Rows L2
abbrev Frag := PySem.W.Frag
/-! ### tuples whose object is known: it has no dict -/
def tTupN (t : TA) : TE := fun σ H Q => t σ H fun xs H1 => xs.length ≤ sizeLine ∧ ∀ p o, H1 p = none → o.dict = none → Q (.ref p) (upd H1 p (.frz o (.tup xs)))
section
variable {X : Cx} {es : List Expr} {t : TA} {pos : Pos}
theorem laidN {pins : List (Addr × Obj)} {σ : L2.St} {H : Hp} {s : Shared} {xs : List V} {us : List Value} (I : Inv X pins σ H s) (r : Vals xs us) (z : xs.length ≤ sizeLine) :
    Inv X pins σ (upd H s.heap.objs.size (.frz { cls := .type "tuple", data := .seq us.toArray } (.tup xs))) { s with heap := s.heap.push { cls := .type "tuple", data := .seq us.toArray } } :=
  I.laid (t' := s.toks) (o := .frz _ (.tup xs)) (fun _ _ e => Heap.get?_push_of_some _ e) (Nat.le_refl _) ⟨Heap.get?_push_size _ rfl, z, us, r, IsTup.new _ _⟩
theorem pe_tupN {x1 : Nat} (h : PA X es t) : PE X (.Tuple es x1 pos) (tTupN t) :=
  ⟨fun pins s σ H Q I hq => wpAny_Tuple_spliced (thn (h.run pos pins s σ H _ I hq) fun us s1 ⟨xs, H1, I1, r, z, q⟩ => ⟨by rw [← r.length]; exact z, .ref s1.heap.objs.size, _, laidN I1 r z, rfl, q _ _ (I1.hok.fresh (Nat.le_refl _)) rfl⟩)⟩
def rTupN (K : PySem.W.Frag) : List V → Hp → VK → Prop := fun xs H Q => ∃ p ys, xs = [.ref p] ∧ ((SqL K H p ys ∧ ∀ l o, H l = none → o.dict = none → Q (.ref l) (upd H l (.frz o (.tup ys)))) ∨ (SqT K H p ys ∧ Q (.ref p) H))
theorem call_tupN : CallR X (.type "tuple") (rTupN X.K) := by
  intro pins s σ H xs us Q I r h
  obtain ⟨p, ys, rfl, h⟩ := h
  obtain ⟨u, rfl, rx⟩ := vals1 r
  cases rx
  rcases h with ⟨hq, q⟩ | ⟨hq, q⟩
  · obtain ⟨its, r', pl, hz⟩ := I.list hq
    have e := r'.length
    refine call_tuple_list pl.isList (fun h' kp => ?_) (by rw [List.size_toArray, ← e]; exact hz)
    have I1 : Inv X pins σ H { s with heap := h' } := I.kept (t' := s.toks) kp
    exact ⟨.ref h'.objs.size, _, laidN I1 r' hz, rfl, q _ _ (I1.hok.fresh (Nat.le_refl _)) rfl⟩
  · obtain ⟨its, r', pl, hz⟩ := I.tuple hq
    exact call_tuple_same pl ⟨.ref p, H, I, rfl, q⟩
def rSlTN (K : PySem.W.Frag) : V → Option Int → Option Int → Hp → VK → Prop := fun x lo hi H Q => ∃ a xs, x = .ref a ∧ SqT K H a xs ∧
  ¬ (HT.sIx xs.length 0 lo = 0 ∧ HT.sIx xs.length xs.length hi = xs.length) ∧ ∀ p o, H p = none → o.dict = none → Q (.ref p) (upd H p (.frz o (.tup (cutV xs lo hi))))
theorem sl_tupN : SlR X (rSlTN X.K) := by
  intro pins s σ H x v vl vu lo hi sl Q I rx hs pl pu h
  obtain ⟨a, xs, rfl, hx, hw, q⟩ := h
  cases rx
  obtain ⟨its, r, ht, hz⟩ := I.tuple hx
  have e : its.toArray.size = xs.length := by rw [List.size_toArray]; exact r.length.symm
  refine ⟨"tuple", _, PyProof.Rows.slot_tuple_getitem.lookup, ht.typeIs, HT.getItem_tuple_cut ht hs pl pu (by rw [e]; exact hw) ?_ (by rw [e]; exact hz)⟩
  rw [e]
  exact ⟨.ref s.heap.objs.size, _, laidN I ((r.drop _).take _) (Nat.le_trans (cutV_length xs lo hi) hz), rfl, q _ _ (I.hok.fresh (Nat.le_refl _)) rfl⟩
end
/-- len of a list, of a tuple -/
def rLenQ (K : Frag) : List V → Hp → VK → Prop := fun xs H Q => ∃ p ys, xs = [.ref p] ∧ (SqL K H p ys ∨ SqT K H p ys) ∧ Q (.int ys.length) H
theorem call_lenQ {X : Cx} : CallR X (.builtin "len") (rLenQ X.K) := call_len_seq
theorem hu65 {A : Around} {k : Nat} (hr : Room k A) : A.units + 65 < cLine := by
  have := hr.un
  omega
/-! ### the judgements -/
def Ev (te : TE) (Γ : List SV) (r : SV) : Prop := ∀ (H0 F : Hp) (σ : L2.St) (H : Hp) (Q : VK), SatF H0 F Γ σ H → (∀ v F' H', Gr F H F' H' → VOk H F' H' r v → Q v H') → te σ H Q
def EvT (tt : TT) (Γ : List SV) (b : Bool) : Prop := ∀ (H0 F : Hp) (σ : L2.St) (H : Hp) (Q : Bool → Hp → Prop), SatF H0 F Γ σ H → (∀ F' H', Gr F H F' H' → Q b H') → tt σ H Q
/-- an argument: nothing of one's own -/
def AOk (F H : Hp) (s : SV) (v : V) : Prop := s.mu = false ∧ VOk H F H s v
theorem VOk.any {H H1 F H' : Hp} {s : SV} {v : V} (hm : s.mu = false) (h : VOk H F H' s v) : VOk H1 F H' s v := by
  cases s <;> first | exact h | cases hm
theorem AOk.grow {F H F' H' : Hp} (g : Gr F H F' H') {s : SV} {v : V} (h : AOk F H s v) : AOk F' H' s v := ⟨h.1, VOk.any h.1 (VOk.grow g h.2)⟩
abbrev AOkL (F H : Hp) : List SV → List V → Prop := Paired (AOk F H)
theorem AOkL.grow {F H F' H' : Hp} (g : Gr F H F' H') : ∀ {rs : List SV} {vs : List V}, AOkL F H rs vs → AOkL F' H' rs vs
  | _, _, .nil => .nil
  | _, _, .cons h t => .cons (h.grow g) (AOkL.grow g t)
def EvA (ta : TA) (Γ : List SV) (rs : List SV) : Prop := ∀ (H0 F : Hp) (σ : L2.St) (H : Hp) (Q : List V → Hp → Prop), SatF H0 F Γ σ H → (∀ vs F' H', Gr F H F' H' → AOkL F' H' rs vs → Q vs H') → ta σ H Q
def EvD (ta : TA) (Γ : List SV) (ds : List PyData) : Prop := ∀ (H0 F : Hp) (σ : L2.St) (H : Hp) (Q : List V → Hp → Prop), SatF H0 F Γ σ H → (∀ vs F' H', Gr F H F' H' → DqA F' vs ds → Q vs H') → ta σ H Q
def EvO (to : TO) (Γ : List SV) (o : Option Int) : Prop := ∀ (H0 F : Hp) (σ : L2.St) (H : Hp) (Q : Option Int → Hp → Prop), SatF H0 F Γ σ H → (∀ F' H', Gr F H F' H' → Q o H') → to σ H Q
/-- on values -/
def Rq (r : R2) (x y : PyData) (z : SV) : Prop := ∀ (F H : Hp) (vx vy : V) (Q : VK), Same F H → Dq F vx x → Dq F vy y → (∀ v F' H', Gr F H F' H' → VOk H F' H' z v → Q v H') → r vx vy H Q
def Cq (r : List V → Hp → VK → Prop) (ds : List PyData) (z : SV) : Prop := ∀ (F H : Hp) (vs : List V) (Q : VK), Same F H → DqA F vs ds → (∀ v F' H', Gr F H F' H' → VOk H F' H' z v → Q v H') → r vs H Q
/-! ### scalars -/
def scV : PyData → Option V
  | .none => some .non
  | .bool b => some (.bl b)
  | .int i => some (.int i)
  | .str x => some (.str x)
  | _ => none
theorem dq_sc {F : Hp} {d : PyData} {v : V} (h : scV d = some v) : Dq F v d := by
  cases d with
  | none => cases h; exact .non
  | bool b => cases h; exact .bl b
  | int i => cases h; exact .int i
  | str x => cases h; exact .str x
  | _ => cases h
def isNone : PyData → Bool
  | .none => true
  | _ => false
theorem dq_non {F : Hp} {d : PyData} {v : V} (h : Dq F v d) : decide (v = .non) = isNone d := by
  cases h <;> rfl
theorem dq_int {F : Hp} {i : Int} {v : V} (h : Dq F v (.int i)) : v = .int i := by cases h; rfl
theorem dq_str {F : Hp} {i : Str} {v : V} (h : Dq F v (.str i)) : v = .str i := by cases h; rfl
theorem dq_bool {F : Hp} {i : Bool} {v : V} (h : Dq F v (.bool i)) : v = .bl i := by cases h; rfl
theorem dq_lst {F : Hp} {ds : List PyData} {v : V} (h : Dq F v (.list ds)) : ∃ a xs, v = .ref a ∧ Rd F a (.lst xs) ∧ DqA F xs ds := by
  cases h with
  | lst h1 h2 => exact ⟨_, _, rfl, .inl h1, h2⟩
theorem dq_lstP {F : Hp} {ds : List PyData} {v : V} (h : Dq F v (.list ds)) : ∃ a xs, v = .ref a ∧ F a = some (.lst xs) ∧ DqA F xs ds := by
  cases h with
  | lst h1 h2 => exact ⟨_, _, rfl, h1, h2⟩
theorem dq_tup {F : Hp} {ds : List PyData} {v : V} (h : Dq F v (.tuple ds)) : ∃ a xs, v = .ref a ∧ Rd F a (.tup xs) ∧ DqA F xs ds := by
  cases h with
  | tup h1 h3 h2 => exact ⟨_, _, rfl, .inr ⟨_, h1⟩, h2⟩
theorem sql {K : Frag} {F H : Hp} (e : Same F H) {a : Addr} {xs : List V} (h : Rd F a (.lst xs)) : SqL K H a xs := .inl (rd_mono e h)
theorem sqt {K : Frag} {F H : Hp} (e : Same F H) {a : Addr} {xs : List V} (h : Rd F a (.tup xs)) : SqT K H a xs := .inl (rd_mono e h)
def SV.pl : SV → Bool
  | .d _ => true
  | .dic _ => true
  | .obj _ _ => true
  | _ => false
section
variable {K : Frag} {Γ : List SV} {ta tb tc te : TE} {t u : TT} {x y z w : PyData} {r s : SV} {i j : Int} {b b' : Bool}
theorem e_var {n : Nat} (h : Γ[n]? = some r) (hp : r.pl = true := by rfl) : Ev (tVar n) Γ r := fun H0 F σ H Q S q => by
  have k := S.slot n r h
  cases r with
  | d x =>
    obtain ⟨v, h1, h2⟩ := k
    exact ⟨v, h1, q v F H (Gr.refl S.ex) h2⟩
  | dic kvs =>
    obtain ⟨a, vs, h1, h2, h3⟩ := k
    exact ⟨_, h1, q _ F H (Gr.refl S.ex) ⟨a, vs, rfl, h2, h3⟩⟩
  | obj C fs =>
    obtain ⟨a, dx, vs, h1, h2, h3⟩ := k
    exact ⟨_, h1, q _ F H (Gr.refl S.ex) ⟨a, dx, vs, rfl, h2, h3⟩⟩
  | _ => cases hp
theorem e_sc {v : V} (h : scV x = some v) : Ev (tC v) Γ (.d x) := fun H0 F σ H Q S q => q v F H (Gr.refl S.ex) (dq_sc h)
theorem e_int : Ev (tC (.int i)) Γ (.d (.int i)) := e_sc rfl
theorem e_str {c : Str} : Ev (tC (.str c)) Γ (.d (.str c)) := e_sc rfl
theorem e_bl : Ev (tC (.bl b)) Γ (.d (.bool b)) := e_sc rfl
theorem e_non : Ev (tC .non) Γ (.d .none) := e_sc rfl
theorem e_op {r2 : R2} (ha : Ev ta Γ (.d x)) (hb : Ev tb Γ (.d y)) (hr : Rq r2 x y s) : Ev (tOp r2 ta tb) Γ s := fun H0 F σ H Q S q =>
  ha H0 F σ H _ S fun v F1 H1 g1 d1 => hb H0 F1 σ H1 _ (S.grow g1) fun w F2 H2 g2 d2 => hr F2 H2 v w Q g2.ex (Dq.up d1 g2.f) d2 fun z F3 H3 g3 o3 => q z F3 H3 ((g1.trans g2).trans g3) (VOk.back (g1.h.trans g2.h) o3)
theorem e_freeze {ds : List PyData} (h : Ev te Γ (.ml ds)) : Ev te Γ (.d (.list ds)) := fun H0 F σ H Q S q => h H0 F σ H Q S fun v F1 H1 g ⟨a, vs, e, h1, h2, h3, h4⟩ => by
  subst e
  have e1 : Same F1 (upd F1 a (.lst vs)) := same_upd h2
  refine q _ (upd F1 a (.lst vs)) H1 ⟨g.f.trans e1, g.h, fun b o hb => ?_, fun b hb => ?_⟩ (.lst upd_same (h4.up e1))
  · by_cases k : b = a
    · subst k
      rw [upd_same] at hb
      rw [h3]
      exact hb
    · rw [upd_ne k] at hb
      exact g.ex _ _ hb
  · by_cases k : b = a
    · subst k
      exact .inr h1
    · rw [upd_ne k] at hb
      exact g.new b hb
theorem e_freezeD {kvs : List (Str × PyData)} (h : Ev te Γ (.md kvs)) : Ev te Γ (.dic kvs) := fun H0 F σ H Q S q => h H0 F σ H Q S fun v F1 H1 g ⟨a, vs, e, h1, h2, h3, h4⟩ => by
  subst e
  have e1 : Same F1 (upd F1 a (.dK vs)) := same_upd h2
  refine q _ (upd F1 a (.dK vs)) H1 ⟨g.f.trans e1, g.h, fun b o hb => ?_, fun b hb => ?_⟩ ⟨a, vs, rfl, upd_same, KVq.up e1 h4⟩
  · by_cases k : b = a
    · subst k
      rw [upd_same] at hb
      rw [h3]
      exact hb
    · rw [upd_ne k] at hb
      exact g.ex _ _ hb
  · by_cases k : b = a
    · subst k
      exact .inr h1
    · rw [upd_ne k] at hb
      exact g.new b hb
theorem e_eq (h : Ev te Γ (.d x)) (e : x = y) : Ev te Γ (.d y) := e ▸ h
theorem e_eqm {xs ys : List PyData} (h : Ev te Γ (.ml xs)) (e : xs = ys) : Ev te Γ (.ml ys) := e ▸ h
theorem et_eq (h : EvT t Γ b) (e : b = b') : EvT t Γ b' := e ▸ h
/-! ### values: numbers, texts -/
theorem rq_I0 {g : Int → Int → V} (hz : scV z = some (g i j)) : Rq (rI0 g) (.int i) (.int j) (.d z) := fun F H vx vy Q e dx dy q => by
  cases dx
  cases dy
  exact ⟨i, j, rfl, rfl, q _ F H (Gr.refl e) (dq_sc hz)⟩
theorem rq_I {C : Int → Int → Prop} {g : Int → Int → V} (hc : C i j) (hz : scV z = some (g i j)) : Rq (rI C g) (.int i) (.int j) (.d z) := fun F H vx vy Q e dx dy q => by
  cases dx
  cases dy
  exact ⟨i, j, rfl, rfl, hc, q _ F H (Gr.refl e) (dq_sc hz)⟩
theorem e_add (ha : Ev ta Γ (.d (.int i))) (hb : Ev tb Γ (.d (.int j))) : Ev (tOp (rI0 fun i j => .int (i + j)) ta tb) Γ (.d (.int (i + j))) := e_op ha hb (rq_I0 rfl)
theorem e_sub (ha : Ev ta Γ (.d (.int i))) (hb : Ev tb Γ (.d (.int j))) : Ev (tOp (rI0 fun i j => .int (i - j)) ta tb) Γ (.d (.int (i - j))) := e_op ha hb (rq_I0 rfl)
theorem e_mul (ha : Ev ta Γ (.d (.int i))) (hb : Ev tb Γ (.d (.int j))) (hc : CMul i j) : Ev (tOp (rI CMul fun i j => .int (i * j)) ta tb) Γ (.d (.int (i * j))) := e_op ha hb (rq_I hc rfl)
theorem e_mod (ha : Ev ta Γ (.d (.int i))) (hb : Ev tb Γ (.d (.int j))) (hc : 0 < j) : Ev (tOp (rI (fun _ j => 0 < j) fun i j => .int (i % j)) ta tb) Γ (.d (.int (i % j))) := e_op ha hb (rq_I hc rfl)
theorem e_fdiv (ha : Ev ta Γ (.d (.int i))) (hb : Ev tb Γ (.d (.int j))) (hc : CDiv i j) : Ev (tOp (rI CDiv fun i j => .int (i / j)) ta tb) Γ (.d (.int (i / j))) := e_op ha hb (rq_I hc rfl)
theorem e_pow (ha : Ev ta Γ (.d (.int i))) (hb : Ev tb Γ (.d (.int j))) (hc : CPow i j) : Ev (tOp (rI CPow fun i j => .int (i ^ j.toNat)) ta tb) Γ (.d (.int (i ^ j.toNat))) := e_op ha hb (rq_I hc rfl)
theorem e_neg (ha : Ev ta Γ (.d (.int i))) : Ev (tUn (rU fun i => .int (-i)) ta) Γ (.d (.int (-i))) := fun H0 F σ H Q S q => ha H0 F σ H _ S fun v F1 H1 g d => by
  cases d
  exact ⟨i, rfl, q _ F1 H1 g (dq_sc rfl)⟩
theorem e_lt (ha : Ev ta Γ (.d (.int i))) (hb : Ev tb Γ (.d (.int j))) : Ev (tOp (rI0 fun i j => .bl (decide (i < j))) ta tb) Γ (.d (.bool (decide (i < j)))) := e_op ha hb (rq_I0 rfl)
theorem e_le (ha : Ev ta Γ (.d (.int i))) (hb : Ev tb Γ (.d (.int j))) : Ev (tOp (rI0 fun i j => .bl (decide (i ≤ j))) ta tb) Γ (.d (.bool (decide (i ≤ j)))) := e_op ha hb (rq_I0 rfl)
theorem e_gt (ha : Ev ta Γ (.d (.int i))) (hb : Ev tb Γ (.d (.int j))) : Ev (tOp (rI0 fun i j => .bl (decide (j < i))) ta tb) Γ (.d (.bool (decide (j < i)))) := e_op ha hb (rq_I0 rfl)
theorem e_ge (ha : Ev ta Γ (.d (.int i))) (hb : Ev tb Γ (.d (.int j))) : Ev (tOp (rI0 fun i j => .bl (decide (j ≤ i))) ta tb) Γ (.d (.bool (decide (j ≤ i)))) := e_op ha hb (rq_I0 rfl)
theorem rq_eqI : Rq rEq (.int i) (.int j) (.d (.bool (decide (i = j)))) := fun F H vx vy Q e dx dy q => by
  cases dx
  cases dy
  exact ⟨rfl, q _ F H (Gr.refl e) (dq_sc (by rw [dec_int]; show some (V.bl (decide (i = j))) = some (V.bl (i == j)); congr 2))⟩
theorem rq_eqS {c d : Str} : Rq rEq (.str c) (.str d) (.d (.bool (decide (c = d)))) := fun F H vx vy Q e dx dy q => by
  cases dx
  cases dy
  refine ⟨rfl, q _ F H (Gr.refl e) (dq_sc ?_)⟩
  show some (V.bl (decide (c = d))) = some (V.bl (decide (V.str c = V.str d)))
  congr 2
  simp
theorem rq_neI : Rq rNe (.int i) (.int j) (.d (.bool (!decide (i = j)))) := fun F H vx vy Q e dx dy q => by
  cases dx
  cases dy
  refine ⟨rfl, q _ F H (Gr.refl e) (dq_sc ?_)⟩
  show some (V.bl (!decide (i = j))) = some (V.bl (!decide (V.int i = V.int j)))
  congr 3
  simp
theorem rq_neS {c d : Str} : Rq rNe (.str c) (.str d) (.d (.bool (!decide (c = d)))) := fun F H vx vy Q e dx dy q => by
  cases dx
  cases dy
  refine ⟨rfl, q _ F H (Gr.refl e) (dq_sc ?_)⟩
  show some (V.bl (!decide (c = d))) = some (V.bl (!decide (V.str c = V.str d)))
  congr 3
  simp
theorem rq_neB : Rq rNe (.bool b) (.bool b') (.d (.bool (!decide (b = b')))) := fun F H vx vy Q e dx dy q => by
  cases dx
  cases dy
  refine ⟨rfl, q _ F H (Gr.refl e) (dq_sc ?_)⟩
  show some (V.bl (!decide (b = b'))) = some (V.bl (!decide (V.bl b = V.bl b')))
  congr 3
  simp
theorem e_eqI (ha : Ev ta Γ (.d (.int i))) (hb : Ev tb Γ (.d (.int j))) : Ev (tOp rEq ta tb) Γ (.d (.bool (decide (i = j)))) := e_op ha hb rq_eqI
theorem e_eqS {c d : Str} (ha : Ev ta Γ (.d (.str c))) (hb : Ev tb Γ (.d (.str d))) : Ev (tOp rEq ta tb) Γ (.d (.bool (decide (c = d)))) := e_op ha hb rq_eqS
theorem e_neI (ha : Ev ta Γ (.d (.int i))) (hb : Ev tb Γ (.d (.int j))) : Ev (tOp rNe ta tb) Γ (.d (.bool (!decide (i = j)))) := e_op ha hb rq_neI
theorem e_neS {c d : Str} (ha : Ev ta Γ (.d (.str c))) (hb : Ev tb Γ (.d (.str d))) : Ev (tOp rNe ta tb) Γ (.d (.bool (!decide (c = d)))) := e_op ha hb rq_neS
theorem e_neB (ha : Ev ta Γ (.d (.bool b))) (hb : Ev tb Γ (.d (.bool b'))) : Ev (tOp rNe ta tb) Γ (.d (.bool (!decide (b = b')))) := e_op ha hb rq_neB
theorem e_isN (ha : Ev ta Γ (.d x)) : Ev (tIsN ta) Γ (.d (.bool (isNone x))) := fun H0 F σ H Q S q => ha H0 F σ H _ S fun v F1 H1 g d => q _ F1 H1 g (dq_sc (by rw [dq_non d]; rfl))
theorem e_notN (ha : Ev ta Γ (.d x)) : Ev (tNotN ta) Γ (.d (.bool (!isNone x))) := fun H0 F σ H Q S q => ha H0 F σ H _ S fun v F1 H1 g d => q _ F1 H1 g (dq_sc (by rw [dq_non d]; rfl))
/-! ### tests -/
theorem et_test (h : Ev te Γ (.d (.bool b))) : EvT (tTest te) Γ b := fun H0 F σ H Q S q => h H0 F σ H _ S fun v F1 H1 g d => ⟨b, dq_bool d, q F1 H1 g⟩
theorem et_B (h : Ev te Γ (.d (.bool b))) : EvT (tB te) Γ b := fun H0 F σ H Q S q => h H0 F σ H _ S fun v F1 H1 g d => ⟨b, dq_bool d, q F1 H1 g⟩
theorem et_and (h1 : EvT t Γ b) (h2 : b = true → EvT u Γ b') : EvT (tAnd t u) Γ (b && b') := fun H0 F σ H Q S q => h1 H0 F σ H _ S fun F1 H1 g => by
  cases b with
  | true =>
    show u σ H1 Q
    exact h2 rfl H0 F1 σ H1 Q (S.grow g) fun F2 H2 g2 => q F2 H2 (g.trans g2)
  | false =>
    show Q false H1
    exact q F1 H1 g
theorem et_or (h1 : EvT t Γ b) (h2 : b = false → EvT u Γ b') : EvT (tOr t u) Γ (b || b') := fun H0 F σ H Q S q => h1 H0 F σ H _ S fun F1 H1 g => by
  cases b with
  | true =>
    show Q true H1
    exact q F1 H1 g
  | false =>
    show u σ H1 Q
    exact h2 rfl H0 F1 σ H1 Q (S.grow g) fun F2 H2 g2 => q F2 H2 (g.trans g2)
theorem et_not (h1 : EvT t Γ b) : EvT (tNot t) Γ (!b) := fun H0 F σ H Q S q => h1 H0 F σ H _ S fun F1 H1 g => q F1 H1 g
theorem e_andV (h1 : Ev ta Γ (.d (.bool b))) (h2 : b = true → Ev tb Γ (.d (.bool b'))) : Ev (tAndV ta tb) Γ (.d (.bool (b && b'))) := fun H0 F σ H Q S q => h1 H0 F σ H _ S fun v F1 H1 g d => ⟨b, dq_bool d, by
  cases b with
  | true =>
    show tb σ H1 Q
    exact h2 rfl H0 F1 σ H1 Q (S.grow g) fun v F2 H2 g2 d2 => q v F2 H2 (g.trans g2) d2
  | false =>
    show Q (.bl false) H1
    exact q _ F1 H1 g (dq_sc rfl)⟩
theorem e_orV (h1 : Ev ta Γ (.d (.bool b))) (h2 : b = false → Ev tb Γ (.d (.bool b'))) : Ev (tOrV ta tb) Γ (.d (.bool (b || b'))) := fun H0 F σ H Q S q => h1 H0 F σ H _ S fun v F1 H1 g d => ⟨b, dq_bool d, by
  cases b with
  | true =>
    show Q (.bl true) H1
    exact q _ F1 H1 g (dq_sc rfl)
  | false =>
    show tb σ H1 Q
    exact h2 rfl H0 F1 σ H1 Q (S.grow g) fun v F2 H2 g2 d2 => q v F2 H2 (g.trans g2) d2⟩
theorem e_notV (h1 : Ev ta Γ (.d (.bool b))) : Ev (tNotV ta) Γ (.d (.bool (!b))) := fun H0 F σ H Q S q => h1 H0 F σ H _ S fun v F1 H1 g d => ⟨b, dq_bool d, q _ F1 H1 g (dq_sc rfl)⟩
theorem e_if (h : EvT t Γ b) (h1 : b = true → Ev ta Γ r) (h2 : b = false → Ev tb Γ r) : Ev (tIf t ta tb) Γ r := fun H0 F σ H Q S q => h H0 F σ H _ S fun F1 H1 g => by
  cases b with
  | true =>
    show ta σ H1 Q
    exact h1 rfl H0 F1 σ H1 Q (S.grow g) fun v F2 H2 g2 d2 => q v F2 H2 (g.trans g2) (VOk.back g.h d2)
  | false =>
    show tb σ H1 Q
    exact h2 rfl H0 F1 σ H1 Q (S.grow g) fun v F2 H2 g2 d2 => q v F2 H2 (g.trans g2) (VOk.back g.h d2)
theorem e_chain {r2 r3 : R2} (ha : Ev ta Γ (.d x)) (hb : Ev tb Γ (.d y)) (hr : Rq r2 x y (.d (.bool b))) (hc : b = true → Ev tc Γ (.d z)) (hr' : b = true → Rq r3 y z (.d (.bool b'))) : Ev (tChain r2 r3 ta tb tc) Γ (.d (.bool (b && b'))) := fun H0 F σ H Q S q =>
  ha H0 F σ H _ S fun v F1 H1 g1 d1 => hb H0 F1 σ H1 _ (S.grow g1) fun w F2 H2 g2 d2 => hr F2 H2 v w _ g2.ex (Dq.up d1 g2.f) d2 fun k F3 H3 g3 d3 => ⟨b, dq_bool d3, by
    have g := (g1.trans g2).trans g3
    cases b with
    | true =>
      show tc σ H3 _
      exact hc rfl H0 F3 σ H3 _ (S.grow g) fun p F4 H4 g4 d4 => hr' rfl F4 H4 w p Q g4.ex (Dq.up d2 (g3.trans g4).f) d4 fun k F5 H5 g5 d5 => q k F5 H5 ((g.trans g4).trans g5) d5
    | false =>
      show Q (.bl false) H3
      exact q _ F3 H3 g (dq_sc rfl)⟩
/-- a truth of a list -/
theorem et_truthL {ds : List PyData} (h : Ev te Γ (.d (.list ds))) : EvT (fun σ H Q => te σ H fun x H' => ∃ k, TruV K x H' k ∧ Q k H') Γ (!ds.isEmpty) := fun H0 F σ H Q S q => h H0 F σ H _ S fun v F1 H1 g d => by
  obtain ⟨a, xs, rfl, h1, h2⟩ := dq_lst d
  refine ⟨!xs.isEmpty, .inl ⟨xs, sql g.ex h1, rfl⟩, ?_⟩
  have e : xs.isEmpty = ds.isEmpty := by
    cases h2 <;> rfl
  rw [e]
  exact q F1 H1 g
/-! ### argument lists, displays -/
theorem d_nil : EvD tNil Γ [] := fun H0 F σ H Q S q => q [] F H (Gr.refl S.ex) .nil
theorem d_cons {tr : TA} {ds : List PyData} (h : Ev te Γ (.d x)) (hr : EvD tr Γ ds) : EvD (tCons te tr) Γ (x :: ds) := fun H0 F σ H Q S q =>
  h H0 F σ H _ S fun v F1 H1 g1 d1 => hr H0 F1 σ H1 _ (S.grow g1) fun vs F2 H2 g2 d2 => q (v :: vs) F2 H2 (g1.trans g2) (.cons (Dq.up d1 g2.f) d2)
theorem a_nil : EvA tNil Γ [] := fun H0 F σ H Q S q => q [] F H (Gr.refl S.ex) .nil
theorem a_cons {tr : TA} {rs : List SV} (h : Ev te Γ r) (hr : EvA tr Γ rs) (hm : r.mu = false := by rfl) : EvA (tCons te tr) Γ (r :: rs) := fun H0 F σ H Q S q =>
  h H0 F σ H _ S fun v F1 H1 g1 d1 => hr H0 F1 σ H1 _ (S.grow g1) fun vs F2 H2 g2 d2 => q (v :: vs) F2 H2 (g1.trans g2) (.cons (AOk.grow g2 ⟨hm, VOk.any hm d1⟩) d2)
theorem e_tup {tl : TA} {ds : List PyData} (h : EvD tl Γ ds) (hl : ds.length ≤ sizeLine := by decide) : Ev (tTupN tl) Γ (.d (.tuple ds)) := fun H0 F σ H Q S q =>
  h H0 F σ H _ S fun vs F1 H1 g1 d1 => ⟨by rw [d1.len]; exact hl, fun p o hp ho => q _ (upd F1 p (.frz o (.tup vs))) _ (g1.trans (Gr.new1 g1.ex hp)) (.tup upd_same ho (d1.up (same_upd (g1.ex.free hp))))⟩
theorem e_lst {tl : TA} {ds : List PyData} (h : EvD tl Γ ds) (hl : ds.length ≤ sizeLine := by decide) : Ev (tLst tl) Γ (.ml ds) := fun H0 F σ H Q S q =>
  h H0 F σ H _ S fun vs F1 H1 g1 d1 => ⟨by rw [d1.len]; exact hl, fun p hp => q _ F1 _ (g1.trans (Gr.newM g1.ex hp)) ⟨p, vs, rfl, g1.h.free hp, g1.ex.free hp, upd_same, d1⟩⟩
theorem e_dnew : Ev tDNewK Γ (.md []) := fun H0 F σ H Q S q p hp => q _ F _ (Gr.newM S.ex hp) ⟨p, [], rfl, hp, S.ex.free hp, upd_same, .nil⟩
/-! ### places -/
theorem at_nat {ds : List PyData} {vs : List V} {F : Hp} (h : DqA F vs ds) {i : Int} (h0 : 0 ≤ i) (hd : ds[i.toNat]? = some x) : ∃ v, atI vs i = some v ∧ Dq F v x := by
  obtain ⟨v, h1, h2⟩ := h.get hd
  refine ⟨v, ?_, h2⟩
  have e : i = ((i.toNat : Nat) : Int) := by omega
  rw [e]
  exact atI_nat h1
theorem rq_ixL {ds : List PyData} (h0 : 0 ≤ i) (hd : ds[i.toNat]? = some x) : Rq (rIxL K) (.list ds) (.int i) (.d x) := fun F H vx vy Q e dx dy q => by
  cases dy
  obtain ⟨a, xs, rfl, h1, h2⟩ := dq_lst dx
  obtain ⟨v, h3, h4⟩ := at_nat h2 h0 hd
  exact ⟨a, xs, i, v, rfl, rfl, sql e h1, h3, q v F H (Gr.refl e) h4⟩
theorem rq_ixT {ds : List PyData} (h0 : 0 ≤ i) (hd : ds[i.toNat]? = some x) : Rq (rIxT K) (.tuple ds) (.int i) (.d x) := fun F H vx vy Q e dx dy q => by
  cases dy
  obtain ⟨a, xs, rfl, h1, h2⟩ := dq_tup dx
  obtain ⟨v, h3, h4⟩ := at_nat h2 h0 hd
  exact ⟨a, xs, i, v, rfl, rfl, sqt e h1, h3, q v F H (Gr.refl e) h4⟩
theorem e_ixL {ds : List PyData} (ha : Ev ta Γ (.d (.list ds))) (hb : Ev tb Γ (.d (.int i))) (h0 : 0 ≤ i) (hd : ds[i.toNat]? = some x) : Ev (tOp (rIxL K) ta tb) Γ (.d x) := e_op ha hb (rq_ixL h0 hd)
theorem e_ixT {ds : List PyData} (ha : Ev ta Γ (.d (.tuple ds))) (hb : Ev tb Γ (.d (.int i))) (h0 : 0 ≤ i) (hd : ds[i.toNat]? = some x) : Ev (tOp (rIxT K) ta tb) Γ (.d x) := e_op ha hb (rq_ixT h0 hd)
/-- the last -/
theorem e_ixLast {ds : List PyData} (ha : Ev ta Γ (.d (.list ds))) (hb : Ev tb Γ (.d (.int (-1)))) (hd : ds.getLast? = some x) : Ev (tOp (rIxL K) ta tb) Γ (.d x) := e_op ha hb fun F H vx vy Q e dx dy q => by
  cases dy
  obtain ⟨a, xs, rfl, h1, h2⟩ := dq_lst dx
  have hl := h2.len
  rw [List.getLast?_eq_getElem?] at hd
  obtain ⟨v, h3, h4⟩ := h2.get hd
  have hlt := (List.getElem?_eq_some_iff.mp hd).1
  refine ⟨a, xs, -1, v, rfl, rfl, sql e h1, ?_, q v F H (Gr.refl e) h4⟩
  have e0 : ixN xs.length (-1) = some (ds.length - 1) := by
    unfold ixN
    rw [if_neg (by omega), if_pos (by omega)]
    congr 1
    omega
  unfold atI
  rw [e0]
  exact h3
/-- one's own list is read -/
theorem e_ixM {n : Nat} {ds : List PyData} (hn : Γ[n]? = some (.ml ds)) (hb : Ev tb Γ (.d (.int i))) (h0 : 0 ≤ i) (hd : ds[i.toNat]? = some x) : Ev (tOp (rIxL K) (tVar n) tb) Γ (.d x) := fun H0 F σ H Q S q => by
  obtain ⟨a, vs, h1, h2, h3, h4, h5⟩ := S.slot n _ hn
  refine ⟨_, h1, hb H0 F σ H _ S fun v F1 H1 g d => ?_⟩
  cases d
  obtain ⟨v, h6, h7⟩ := at_nat h5 h0 hd
  exact ⟨a, vs, i, v, rfl, rfl, .inl (.inl (g.h _ _ h4)), h6, q v F1 H1 g (Dq.up h7 g.f)⟩
theorem e_ixS {c : Str} {k : Nat} (ha : Ev ta Γ (.d (.str c))) (hb : Ev tb Γ (.d (.int i))) (hl : c.length ≤ sizeLine) (h0 : 0 ≤ i) (hd : c.cps.toList[i.toNat]? = some k) : Ev (tOp rIxS ta tb) Γ (.d (.str ⟨#[k]⟩)) := e_op ha hb fun F H vx vy Q e dx dy q => by
  cases dx
  cases dy
  refine ⟨c, i, k, rfl, rfl, hl, ?_, q _ F H (Gr.refl e) (dq_sc rfl)⟩
  have e : i = ((i.toNat : Nat) : Int) := by omega
  rw [e]
  exact atI_nat hd
/-! ### slices -/
theorem o_none : EvO tNoPart Γ none := fun H0 F σ H Q S q => q F H (Gr.refl S.ex)
theorem o_some (h : Ev te Γ (.d (.int i))) : EvO (tPart te) Γ (some i) := fun H0 F σ H Q S q => h H0 F σ H _ S fun v F1 H1 g d => ⟨i, dq_int d, q F1 H1 g⟩
def cutD (xs : List PyData) (lo hi : Option Int) : List PyData := (xs.drop (HT.sIx xs.length 0 lo)).take (HT.sIx xs.length xs.length hi - HT.sIx xs.length 0 lo)
theorem cut_dq {F : Hp} {vs : List V} {ds : List PyData} {lo hi : Option Int} (h : DqA F vs ds) : DqA F (cutV vs lo hi) (cutD ds lo hi) := by
  unfold cutV cutD
  rw [h.len]
  exact (h.drop _).take _
theorem e_slL {tl th : TO} {ds : List PyData} {lo hi : Option Int} (h : Ev te Γ (.d (.list ds))) (h1 : EvO tl Γ lo) (h2 : EvO th Γ hi) : Ev (tSl (rSlL K) te tl th) Γ (.ml (cutD ds lo hi)) := fun H0 F σ H Q S q =>
  h H0 F σ H _ S fun v F1 H1 g1 d1 => h1 H0 F1 σ H1 _ (S.grow g1) fun F2 H2 g2 => h2 H0 F2 σ H2 _ (S.grow (g1.trans g2)) fun F3 H3 g3 => by
    have g23 := g2.trans g3
    have g := g1.trans g23
    obtain ⟨a, xs, rfl, k1, k2⟩ := dq_lst (Dq.up d1 g23.f)
    exact ⟨a, xs, rfl, sql g3.ex k1, fun p hp => q _ F3 _ (g.trans (Gr.newM g.ex hp)) ⟨p, _, rfl, g.h.free hp, g.ex.free hp, upd_same, cut_dq k2⟩⟩
theorem e_slT {tl th : TO} {ds : List PyData} {lo hi : Option Int} (h : Ev te Γ (.d (.tuple ds))) (h1 : EvO tl Γ lo) (h2 : EvO th Γ hi) (hw : ¬ (HT.sIx ds.length 0 lo = 0 ∧ HT.sIx ds.length ds.length hi = ds.length)) : Ev (tSl (rSlTN K) te tl th) Γ (.d (.tuple (cutD ds lo hi))) := fun H0 F σ H Q S q =>
  h H0 F σ H _ S fun v F1 H1 g1 d1 => h1 H0 F1 σ H1 _ (S.grow g1) fun F2 H2 g2 => h2 H0 F2 σ H2 _ (S.grow (g1.trans g2)) fun F3 H3 g3 => by
    have g23 := g2.trans g3
    have g := g1.trans g23
    obtain ⟨a, xs, rfl, k1, k2⟩ := dq_tup (Dq.up d1 g23.f)
    exact ⟨a, xs, rfl, sqt g3.ex k1, by rw [k2.len]; exact hw, fun p o hp ho => q _ (upd F3 p (.frz o (.tup (cutV xs lo hi)))) _ (g.trans (Gr.new1 g.ex hp)) (.tup upd_same ho ((cut_dq k2).up (same_upd (g.ex.free hp))))⟩
/-! ### calls of built-ins -/
theorem e_cb {rr : List V → Hp → VK → Prop} {tl : TA} {ds : List PyData} (h : EvD tl Γ ds) (hr : Cq rr ds s) : Ev (tCB rr tl) Γ s := fun H0 F σ H Q S q =>
  h H0 F σ H _ S fun vs F1 H1 g1 d1 => hr F1 H1 vs Q g1.ex d1 fun v F2 H2 g2 d2 => q v F2 H2 (g1.trans g2) (VOk.back g1.h d2)
theorem dqa1 {F : Hp} {vs : List V} (h : DqA F vs [x]) : ∃ v, vs = [v] ∧ Dq F v x := by
  cases h with
  | cons h1 h2 =>
    cases h2
    exact ⟨_, rfl, h1⟩
theorem dqa2 {F : Hp} {vs : List V} (h : DqA F vs [x, y]) : ∃ v w, vs = [v, w] ∧ Dq F v x ∧ Dq F w y := by
  cases h with
  | cons h1 h2 =>
    obtain ⟨w, rfl, h3⟩ := dqa1 h2
    exact ⟨_, _, rfl, h1, h3⟩
/-- len -/
theorem cq_len {ds : List PyData} : Cq (rLenQ K) [.list ds] (.d (.int ds.length)) := fun F H vs Q e h q => by
  obtain ⟨v, rfl, h1⟩ := dqa1 h
  obtain ⟨a, xs, rfl, h2, h3⟩ := dq_lst h1
  exact ⟨a, xs, rfl, .inl (sql e h2), q _ F H (Gr.refl e) (by rw [h3.len]; exact .int _)⟩
theorem cq_lenT {ds : List PyData} : Cq (rLenQ K) [.tuple ds] (.d (.int ds.length)) := fun F H vs Q e h q => by
  obtain ⟨v, rfl, h1⟩ := dqa1 h
  obtain ⟨a, xs, rfl, h2, h3⟩ := dq_tup h1
  exact ⟨a, xs, rfl, .inr (sqt e h2), q _ F H (Gr.refl e) (by rw [h3.len]; exact .int _)⟩
theorem cq_lenS {c : Str} (hl : c.length ≤ sizeLine) : Cq (fun xs H Q => ∃ z, xs = [.str z] ∧ z.length ≤ sizeLine ∧ Q (.int z.length) H) [.str c] (.d (.int c.length)) := fun F H vs Q e h q => by
  obtain ⟨v, rfl, h1⟩ := dqa1 h
  cases h1
  exact ⟨c, rfl, hl, q _ F H (Gr.refl e) (.int _)⟩
/-- len of one's own list -/
theorem e_lenM {n : Nat} {ds : List PyData} (hn : Γ[n]? = some (.ml ds)) : Ev (tCB (rLenQ K) (tCons (tVar n) tNil)) Γ (.d (.int ds.length)) := fun H0 F σ H Q S q => by
  obtain ⟨a, vs, h1, h2, h3, h4, h5⟩ := S.slot n _ hn
  exact ⟨_, h1, a, vs, rfl, .inl (.inl (.inl h4)), q _ F H (Gr.refl S.ex) (by rw [h5.len]; exact .int _)⟩
theorem cq_tupleL {ds : List PyData} : Cq (rTupN K) [.list ds] (.d (.tuple ds)) := fun F H vs Q e h q => by
  obtain ⟨v, rfl, h1⟩ := dqa1 h
  obtain ⟨a, xs, rfl, h2, h3⟩ := dq_lst h1
  exact ⟨a, xs, rfl, .inl ⟨sql e h2, fun p o hp ho => q _ (upd F p (.frz o (.tup xs))) _ (Gr.new1 e hp) (.tup upd_same ho (h3.up (same_upd (e.free hp))))⟩⟩
theorem cq_tupleT {ds : List PyData} : Cq (rTupN K) [.tuple ds] (.d (.tuple ds)) := fun F H vs Q e h q => by
  obtain ⟨v, rfl, h1⟩ := dqa1 h
  have h0 := h1
  obtain ⟨a, xs, rfl, h2, h3⟩ := dq_tup h1
  exact ⟨a, xs, rfl, .inr ⟨sqt e h2, q _ F H (Gr.refl e) h0⟩⟩
theorem cq_listT {ds : List PyData} : Cq (fun xs H Q => ∃ p ys, xs = [.ref p] ∧ (SqL K H p ys ∨ SqT K H p ys) ∧ ∀ l, H l = none → Q (.ref l) (upd H l (.lst ys))) [.tuple ds] (.ml ds) := fun F H vs Q e h q => by
  obtain ⟨v, rfl, h1⟩ := dqa1 h
  obtain ⟨a, xs, rfl, h2, h3⟩ := dq_tup h1
  exact ⟨a, xs, rfl, .inr (sqt e h2), fun p hp => q _ F _ (Gr.newM e hp) ⟨p, xs, rfl, hp, e.free hp, upd_same, h3⟩⟩
theorem cq_abs : Cq (fun xs H Q => ∃ i, xs = [.int i] ∧ Q (.int (if i < 0 then -i else i)) H) [.int i] (.d (.int (if i < 0 then -i else i))) := fun F H vs Q e h q => by
  obtain ⟨v, rfl, h1⟩ := dqa1 h
  cases h1
  exact ⟨i, rfl, q _ F H (Gr.refl e) (.int _)⟩
theorem cq_int1 : Cq (fun xs H Q => (∃ i, xs = [.int i] ∧ Q (.int i) H) ∨ ∃ k, xs = [.bl k] ∧ Q (.int (if k then 1 else 0)) H) [.int i] (.d (.int i)) := fun F H vs Q e h q => by
  obtain ⟨v, rfl, h1⟩ := dqa1 h
  cases h1
  exact .inl ⟨i, rfl, q _ F H (Gr.refl e) (.int _)⟩
theorem cq_max2 : Cq (fun xs H Q => ∃ i j, xs = [.int i, .int j] ∧ Q (.int (if j > i then j else i)) H) [.int i, .int j] (.d (.int (if j > i then j else i))) := fun F H vs Q e h q => by
  obtain ⟨v, w, rfl, h1, h2⟩ := dqa2 h
  cases h1
  cases h2
  exact ⟨i, j, rfl, q _ F H (Gr.refl e) (.int _)⟩
theorem cq_min2 : Cq (fun xs H Q => ∃ i j, xs = [.int i, .int j] ∧ Q (.int (if j < i then j else i)) H) [.int i, .int j] (.d (.int (if j < i then j else i))) := fun F H vs Q e h q => by
  obtain ⟨v, w, rfl, h1, h2⟩ := dqa2 h
  cases h1
  cases h2
  exact ⟨i, j, rfl, q _ F H (Gr.refl e) (.int _)⟩
theorem cq_all {bs : List Bool} : Cq (rAll K) [.list (bs.map .bool)] (.d (.bool (bs.all id))) := fun F H vs Q e h q => by
  obtain ⟨v, rfl, h1⟩ := dqa1 h
  obtain ⟨a, xs, rfl, h2, h3⟩ := dq_lst h1
  have h4 := h3.bools
  subst h4
  exact ⟨a, bs, rfl, sql e h2, q _ F H (Gr.refl e) (.bl _)⟩
theorem cq_any {bs : List Bool} : Cq (rAny K) [.list (bs.map .bool)] (.d (.bool (bs.any id))) := fun F H vs Q e h q => by
  obtain ⟨v, rfl, h1⟩ := dqa1 h
  obtain ⟨a, xs, rfl, h2, h3⟩ := dq_lst h1
  have h4 := h3.bools
  subst h4
  exact ⟨a, bs, rfl, sql e h2, q _ F H (Gr.refl e) (.bl _)⟩
theorem cq_min {ns : List Int} {m : Int} (h0 : 0 < ns.length) (hm : m ∈ ns) (hle : ∀ y ∈ ns, m ≤ y) : Cq (rMin K) [.list (ns.map .int)] (.d (.int m)) := fun F H vs Q e h q => by
  obtain ⟨v, rfl, h1⟩ := dqa1 h
  obtain ⟨a, xs, rfl, h2, h3⟩ := dq_lst h1
  have h4 := h3.ints
  subst h4
  refine ⟨a, ns, rfl, sql e h2, h0, fun k hk hkle => ?_⟩
  have e1 : k = m := Int.le_antisymm (hkle m hm) (hle k hk)
  rw [e1]
  exact q _ F H (Gr.refl e) (.int _)
end
/-! ### calls of the text's own defs -/
/-- the promise: arguments args, the answer r -/
def spQ (R : List SV → SV → Prop) : Sp := fun vs H Q _ => ∃ F args r, Same F H ∧ AOkL F H args vs ∧ R args r ∧ ∀ v F' H', Gr F H F' H' → VOk H F' H' r v → Q v H'
theorem paired_len {α β : Type} {G : α → β → Prop} : ∀ {l : List α} {m : List β}, Paired G l m → l.length = m.length
  | _, _, .nil => rfl
  | _, _, .cons _ t => congrArg (· + 1) (paired_len t)
section
variable {Γ : List SV} {te : TE} {t : TA} {args : List SV} {r : SV} {R : List SV → SV → Prop} {C : Addr} {m : Str} {fs : List (Str × PyData)}
theorem e_call (h : EvA t Γ args) (hR : R args r) : Ev (tCall (spQ R) [] E0 t) Γ r := fun H0 F σ H Q S q =>
  h H0 F σ H _ S fun vs F1 H1 g1 d1 => ⟨F1, args, r, g1.ex, by rw [List.append_nil]; exact d1, hR, fun v F2 H2 g2 d2 => q v F2 H2 (g1.trans g2) (VOk.back g1.h d2)⟩
theorem e_meth (ho : Ev te Γ (.obj C fs)) (hm : fs.lookup m = none) (h : EvA t Γ args) (hR : R (.obj C fs :: args) r) : Ev (tMeth C m (spQ R) [] E0 te t) Γ r := fun H0 F σ H Q S q =>
  ho H0 F σ H _ S fun v F1 H1 g1 d1 => by
    obtain ⟨a, dx, vfs, rfl, h1, h2⟩ := d1
    refine ⟨a, dx, vfs, rfl, h1, h2.lookN hm, h H0 F1 σ H1 _ (S.grow g1) fun vs F2 H2 g2 d2 => ?_⟩
    refine ⟨F2, .obj C fs :: args, r, g2.ex, .cons ⟨rfl, a, dx, vfs, rfl, g2.h _ _ h1, h2.up g2.f⟩ (by rw [List.append_nil]; exact d2), hR, fun v F3 H3 g3 d3 => q v F3 H3 ((g1.trans g2).trans g3) (VOk.back (g1.trans g2).h d3)⟩
theorem e_prop (ho : Ev te Γ (.obj C fs)) (hR : R [.obj C fs] r) : Ev (tProp C (spQ R) [] E0 te) Γ r := fun H0 F σ H Q S q =>
  ho H0 F σ H _ S fun v F1 H1 g1 d1 => by
    obtain ⟨a, dx, vfs, rfl, h1, h2⟩ := d1
    refine ⟨a, dx, vfs, rfl, h1, F1, [.obj C fs], r, g1.ex, .cons ⟨rfl, a, dx, vfs, rfl, h1, h2⟩ .nil, hR, fun v F2 H2 g2 d2 => q v F2 H2 (g1.trans g2) (VOk.back g1.h d2)⟩
theorem e_fld {K : Frag} {f : Str} {d : PyData} (c : Cls K C) (n : NoAttr K C f) (ho : Ev te Γ (.obj C fs)) (hf : fs.lookup f = some d) : Ev (tFld K te f) Γ (.d d) := fun H0 F σ H Q S q =>
  ho H0 F σ H _ S fun v F1 H1 g1 d1 => by
    obtain ⟨a, dx, vfs, rfl, h1, h2⟩ := d1
    obtain ⟨v, h3, h4⟩ := h2.look hf
    exact ⟨a, C, dx, vfs, v, rfl, h1, c, n, h3, q v F1 H1 g1 h4⟩
end
end Ef
/-! What is walked, comprehensions, statements, defs. -/
namespace Ef
open PySem PySem.Spec PyProof.Rows L2
/-! ### what is walked -/
/-- a pair just made by an iterator: a tuple of which only the items are known -/
def Dl (F : Hp) (v : V) (d : PyData) : Prop := ∃ a vs ds, v = .ref a ∧ d = .tuple ds ∧ F a = some (.tup vs) ∧ DqA F vs ds
/-- from the facts F1 and the heap H1 on -/
structure ItD (Y : Hp → V → PyData → Prop) (J : It) (F1 : Hp) (ds : List PyData) : Prop where
  goes : ∀ (i : Nat) (F H : Hp), Same F1 F → Same F H → i < ds.length → J.go i H
  stops : ∀ (F H : Hp), Same F1 F → Same F H → J.stop ds.length H
  yields : ∀ (i : Nat) (F H : Hp) (x : V) (H' : Hp) (d : PyData), Same F1 F → Same F H → ds[i]? = some d → J.yld i H x H' → ∃ F', Gr F H F' H' ∧ Y F' x d
def Wk (Y : Hp → V → PyData → Prop) (wi : TI) (Γ : List SV) (ds : List PyData) : Prop := ∀ (H0 F : Hp) (σ : L2.St) (H : Hp) (R : It → Hp → Prop), SatF H0 F Γ σ H → (∀ J F' H', Gr F H F' H' → ItD Y J F' ds → R J H') → wi σ H R
/-- a walk whose thing is not changed meanwhile: for comprehensions -/
structure ItC (Y : Hp → V → PyData → Prop) (J : It) (F1 H1 : Hp) (ds : List PyData) : Prop where
  goes : ∀ (i : Nat) (F H : Hp), Same F1 F → Same H1 H → Same F H → i < ds.length → J.go i H
  stops : ∀ (F H : Hp), Same F1 F → Same H1 H → Same F H → J.stop ds.length H
  yields : ∀ (i : Nat) (F H : Hp) (x : V) (H' : Hp) (d : PyData), Same F1 F → Same H1 H → Same F H → ds[i]? = some d → J.yld i H x H' → ∃ F', Gr F H F' H' ∧ Y F' x d
def WkC (Y : Hp → V → PyData → Prop) (wi : TI) (Γ : List SV) (ds : List PyData) : Prop := ∀ (H0 F : Hp) (σ : L2.St) (H : Hp) (R : It → Hp → Prop), SatF H0 F Γ σ H → (∀ J F' H', Gr F H F' H' → ItC Y J F' H' ds → R J H') → wi σ H R
theorem Wk.c {Y : Hp → V → PyData → Prop} {wi : TI} {Γ : List SV} {ds : List PyData} (h : Wk Y wi Γ ds) : WkC Y wi Γ ds := fun H0 F σ H R S q => h H0 F σ H R S fun J F' H' g i =>
  q J F' H' g ⟨fun k F H a _ b c => i.goes k F H a b c, fun F H a _ b => i.stops F H a b, fun k F H x H' d a _ b c e => i.yields k F H x H' d a b c e⟩
section
variable {K : Frag} {Γ : List SV} {te : TE} {ta : TA} {ds es : List PyData}
theorem wk_list (h : Ev te Γ (.d (.list ds))) : Wk Dq (iList K te) Γ ds := fun H0 F σ H R S q => h H0 F σ H _ S fun v F1 H1 g1 d1 => by
  obtain ⟨a, xs, rfl, h1, h2⟩ := dq_lst d1
  refine ⟨a, rfl, ⟨xs, sql g1.ex h1⟩, q _ F1 H1 g1 ⟨fun i F H e1 e2 hi => ?_, fun F H e1 e2 => ⟨xs, sql e2 (rd_mono e1 h1), Nat.le_of_eq h2.len⟩, fun i F H x H' d e1 e2 hd hy => ?_⟩⟩
  · obtain ⟨v, hv, _⟩ := h2.get (List.getElem?_eq_getElem hi)
    exact ⟨xs, v, sql e2 (rd_mono e1 h1), hv⟩
  · obtain ⟨rfl, h3⟩ := hy
    obtain ⟨v, hv, hq⟩ := h2.get hd
    have e := h3 xs (sql e2 (rd_mono e1 h1))
    rw [hv] at e
    cases e
    exact ⟨F, Gr.refl e2, hq.up e1⟩
theorem wk_tup (h : Ev te Γ (.d (.tuple ds))) : Wk Dq (iTup K te) Γ ds := fun H0 F σ H R S q => h H0 F σ H _ S fun v F1 H1 g1 d1 => by
  obtain ⟨a, xs, rfl, h1, h2⟩ := dq_tup d1
  refine ⟨a, rfl, ⟨xs, sqt g1.ex h1⟩, q _ F1 H1 g1 ⟨fun i F H e1 e2 hi => ?_, fun F H e1 e2 => ⟨xs, sqt e2 (rd_mono e1 h1), Nat.le_of_eq h2.len⟩, fun i F H x H' d e1 e2 hd hy => ?_⟩⟩
  · obtain ⟨v, hv, _⟩ := h2.get (List.getElem?_eq_getElem hi)
    exact ⟨xs, v, sqt e2 (rd_mono e1 h1), hv⟩
  · obtain ⟨rfl, h3⟩ := hy
    obtain ⟨v, hv, hq⟩ := h2.get hd
    have e := h3 xs (sqt e2 (rd_mono e1 h1))
    rw [hv] at e
    cases e
    exact ⟨F, Gr.refl e2, hq.up e1⟩
/-- one's own list, in a comprehension -/
theorem wk_listM {n : Nat} (hn : Γ[n]? = some (.ml ds)) : WkC Dq (iList K (tVar n)) Γ ds := fun H0 F σ H R S q => by
  obtain ⟨a, xs, h1, h2, h3, h4, h5⟩ := S.slot n _ hn
  refine ⟨_, h1, a, rfl, ⟨xs, .inl (.inl h4)⟩, q _ F H (Gr.refl S.ex) ⟨fun i F' H' e1 e2 e3 hi => ?_, fun F' H' e1 e2 e3 => ⟨xs, .inl (.inl (e2 _ _ h4)), Nat.le_of_eq h5.len⟩, fun i F' H' x H'' d e1 e2 e3 hd hy => ?_⟩⟩
  · obtain ⟨v, hv, _⟩ := h5.get (List.getElem?_eq_getElem hi)
    exact ⟨xs, v, .inl (.inl (e2 _ _ h4)), hv⟩
  · obtain ⟨rfl, h3⟩ := hy
    obtain ⟨v, hv, hq⟩ := h5.get hd
    have e := h3 xs (.inl (.inl (e2 _ _ h4)))
    rw [hv] at e
    cases e
    exact ⟨F', Gr.refl e3, hq.up e1⟩
/-- 0, 1, .. -/
def rangeD (n : Nat) : List PyData := (List.range n).map fun k => .int (k : Nat)
theorem rangeD_len (n : Nat) : (rangeD n).length = n := by
  unfold rangeD
  rw [List.length_map, List.length_range]
theorem rangeD_at {n i : Nat} {d : PyData} (h : (rangeD n)[i]? = some d) : i < n ∧ d = .int (i : Nat) := by
  have hi : i < n := by
    have := (List.getElem?_eq_some_iff.mp h).1
    rw [rangeD_len] at this
    exact this
  refine ⟨hi, ?_⟩
  unfold rangeD at h
  rw [List.getElem?_map, List.getElem?_range hi] at h
  exact (Option.some.inj h).symm
theorem wk_range {n : Int} (h : EvD ta Γ [.int n]) (h2 : n < 2 ^ 62) (h1 : 0 ≤ n) : Wk Dq (iRng1 ta) Γ (rangeD n.toNat) := fun H0 F σ H R S q => h H0 F σ H _ S fun vs F1 H1 g1 d1 => by
  obtain ⟨v, rfl, d2⟩ := dqa1 d1
  cases d2
  refine ⟨n, rfl, by omega, h2, q _ F1 H1 g1 ⟨fun i F H e1 e2 hi => by rw [rangeD_len] at hi; exact hi, fun F H e1 e2 => by rw [rangeD_len]; exact Nat.le_refl _, fun i F H x H' d e1 e2 hd hy => ?_⟩⟩
  obtain ⟨rfl, rfl⟩ := hy
  obtain ⟨_, rfl⟩ := rangeD_at hd
  exact ⟨F, Gr.refl e2, dq_sc (by simp [scV])⟩
/-- a text's signs -/
def signsD (z : Str) : List PyData := z.cps.toList.map fun c => .str ⟨#[c]⟩
theorem wk_str {z : Str} (h : Ev te Γ (.d (.str z))) : Wk Dq (iStr te) Γ (signsD z) := fun H0 F σ H R S q => h H0 F σ H _ S fun v F1 H1 g1 d1 => by
  cases d1
  have hl : (signsD z).length = z.cps.size := by
    unfold signsD
    rw [List.length_map, Array.length_toList]
  refine ⟨z, rfl, q _ F1 H1 g1 ⟨fun i F H e1 e2 hi => by rw [hl] at hi; exact hi, fun F H e1 e2 => Nat.le_of_eq hl.symm, fun i F H x H' d e1 e2 hd hy => ?_⟩⟩
  obtain ⟨rfl, c, hc, rfl⟩ := hy
  unfold signsD at hd
  rw [List.getElem?_map, Array.getElem?_toList, hc] at hd
  cases hd
  exact ⟨F, Gr.refl e2, .str _⟩
/-- pairs, each a new tuple -/
def zipD (ds es : List PyData) : List PyData := (ds.zip es).map fun p => .tuple [p.1, p.2]
theorem zipD_len : (zipD ds es).length = min ds.length es.length := by
  unfold zipD
  rw [List.length_map, List.length_zip]
theorem zipD_at {i : Nat} {d : PyData} (h : (zipD ds es)[i]? = some d) : ∃ a b, ds[i]? = some a ∧ es[i]? = some b ∧ d = .tuple [a, b] := by
  unfold zipD at h
  rw [List.getElem?_map] at h
  cases hz : (ds.zip es)[i]? with
  | none =>
    rw [hz] at h
    cases h
  | some p =>
    rw [hz] at h
    cases h
    obtain ⟨h1, h2⟩ := List.getElem?_zip_eq_some.mp hz
    exact ⟨p.1, p.2, h1, h2, rfl⟩
theorem pair_new {F H : Hp} {T : Addr} {x y : V} {a b : PyData} (e : Same F H) (hT : H T = none) (hx : Dq F x a) (hy : Dq F y b) : ∃ F', Gr F H F' (upd H T (.tup [x, y])) ∧ Dl F' (.ref T) (.tuple [a, b]) :=
  have e1 : Same F (upd F T (.tup [x, y])) := same_upd (e.free hT)
  ⟨_, Gr.new1 e hT, _, _, _, rfl, rfl, upd_same, .cons (hx.up e1) (.cons (hy.up e1) .nil)⟩
theorem wk_zipL (h : EvD ta Γ [.list ds, .list es]) : Wk Dl (iZip K ta) Γ (zipD ds es) := fun H0 F σ H R S q => h H0 F σ H _ S fun vs F1 H1 g1 d1 => by
  obtain ⟨v, w, rfl, d2, d3⟩ := dqa2 d1
  obtain ⟨a, xs, rfl, h1, h2⟩ := dq_lst d2
  obtain ⟨b, ys, rfl, k1, k2⟩ := dq_lst d3
  refine ⟨a, b, xs, ys, rfl, sql g1.ex h1, sql g1.ex k1, q _ F1 H1 g1 ⟨fun i F H e1 e2 hi => ?_, fun F H e1 e2 => ⟨xs, ys, sql e2 (rd_mono e1 h1), sql e2 (rd_mono e1 k1), ?_⟩, fun i F H x H' d e1 e2 hd hy => ?_⟩⟩
  · rw [zipD_len] at hi
    obtain ⟨v, hv, _⟩ := h2.get (List.getElem?_eq_getElem (show i < ds.length by omega))
    obtain ⟨w, hw, _⟩ := k2.get (List.getElem?_eq_getElem (show i < es.length by omega))
    exact ⟨xs, ys, v, w, sql e2 (rd_mono e1 h1), sql e2 (rd_mono e1 k1), hv, hw⟩
  · rw [zipD_len, h2.len, k2.len]
    omega
  · obtain ⟨c, d', hc, hd', rfl⟩ := zipD_at hd
    obtain ⟨T, x, y, rfl, hT, rfl, f1, f2⟩ := hy
    obtain ⟨v, hv, hq⟩ := h2.get hc
    obtain ⟨w, hw, hr⟩ := k2.get hd'
    have q1 := f1 xs (sql e2 (rd_mono e1 h1))
    have q2 := f2 ys (sql e2 (rd_mono e1 k1))
    rw [hv] at q1
    rw [hw] at q2
    cases q1
    cases q2
    exact pair_new e2 hT (hq.up e1) (hr.up e1)
theorem wk_zipLA (h : EvD ta Γ [.list ds, .list es]) : Wk Dl (RZ.iZipA K ta) Γ (zipD ds es) := fun H0 F σ H R S q => by
  refine h H0 F σ H _ S fun vs F1 H1 g1 d1 => ?_
  obtain ⟨v, w, rfl, d2, d3⟩ := dqa2 d1
  obtain ⟨a, xs, rfl, h1, h2⟩ := dq_lst d2
  obtain ⟨b, ys, rfl, k1, k2⟩ := dq_lst d3
  refine ⟨a, b, xs, ys, rfl, .inl ⟨sql g1.ex h1, sql g1.ex k1, q _ F1 H1 g1 ⟨fun i F H e1 e2 hi => ?_, fun F H e1 e2 => ⟨xs, ys, sql e2 (rd_mono e1 h1), sql e2 (rd_mono e1 k1), ?_⟩, fun i F H x H' d e1 e2 hd hy => ?_⟩⟩⟩
  · rw [zipD_len] at hi
    obtain ⟨v, hv, _⟩ := h2.get (List.getElem?_eq_getElem (show i < ds.length by omega))
    obtain ⟨w, hw, _⟩ := k2.get (List.getElem?_eq_getElem (show i < es.length by omega))
    exact ⟨xs, ys, v, w, sql e2 (rd_mono e1 h1), sql e2 (rd_mono e1 k1), hv, hw⟩
  · rw [zipD_len, h2.len, k2.len]
    omega
  · obtain ⟨c, d', hc, hd', rfl⟩ := zipD_at hd
    obtain ⟨T, x, y, rfl, hT, rfl, f1, f2⟩ := hy
    obtain ⟨v, hv, hq⟩ := h2.get hc
    obtain ⟨w, hw, hr⟩ := k2.get hd'
    have q1 := f1 xs (sql e2 (rd_mono e1 h1))
    have q2 := f2 ys (sql e2 (rd_mono e1 k1))
    rw [hv] at q1
    rw [hw] at q2
    cases q1
    cases q2
    exact pair_new e2 hT (hq.up e1) (hr.up e1)
theorem wk_zipT (h : EvD ta Γ [.tuple ds, .tuple es]) : Wk Dl (RZ.iZipA K ta) Γ (zipD ds es) := fun H0 F σ H R S q => by
  refine h H0 F σ H _ S fun vs F1 H1 g1 d1 => ?_
  obtain ⟨v, w, rfl, d2, d3⟩ := dqa2 d1
  obtain ⟨a, xs, rfl, h1, h2⟩ := dq_tup d2
  obtain ⟨b, ys, rfl, k1, k2⟩ := dq_tup d3
  refine ⟨a, b, xs, ys, rfl, .inr ⟨sqt g1.ex h1, sqt g1.ex k1, q _ F1 H1 g1 ⟨fun i F H e1 e2 hi => ?_, fun F H e1 e2 => ⟨xs, ys, sqt e2 (rd_mono e1 h1), sqt e2 (rd_mono e1 k1), ?_⟩, fun i F H x H' d e1 e2 hd hy => ?_⟩⟩⟩
  · rw [zipD_len] at hi
    obtain ⟨v, hv, _⟩ := h2.get (List.getElem?_eq_getElem (show i < ds.length by omega))
    obtain ⟨w, hw, _⟩ := k2.get (List.getElem?_eq_getElem (show i < es.length by omega))
    exact ⟨xs, ys, v, w, sqt e2 (rd_mono e1 h1), sqt e2 (rd_mono e1 k1), hv, hw⟩
  · rw [zipD_len, h2.len, k2.len]
    omega
  · obtain ⟨c, d', hc, hd', rfl⟩ := zipD_at hd
    obtain ⟨T, x, y, rfl, hT, rfl, f1, f2⟩ := hy
    obtain ⟨v, hv, hq⟩ := h2.get hc
    obtain ⟨w, hw, hr⟩ := k2.get hd'
    have q1 := f1 xs (sqt e2 (rd_mono e1 h1))
    have q2 := f2 ys (sqt e2 (rd_mono e1 k1))
    rw [hv] at q1
    rw [hw] at q2
    cases q1
    cases q2
    exact pair_new e2 hT (hq.up e1) (hr.up e1)
/-- numbered -/
def enumD (ds : List PyData) : List PyData := zipD (rangeD ds.length) ds
theorem enumD_len : (enumD ds).length = ds.length := by
  unfold enumD
  rw [zipD_len, rangeD_len]
  omega
theorem enumD_at {i : Nat} {d : PyData} (h : (enumD ds)[i]? = some d) : ∃ b, ds[i]? = some b ∧ d = .tuple [.int (i : Nat), b] := by
  obtain ⟨a, b, h1, h2, rfl⟩ := zipD_at h
  obtain ⟨_, rfl⟩ := rangeD_at h1
  exact ⟨b, h2, rfl⟩
theorem wk_enum (h : EvD ta Γ [.list ds]) : Wk Dl (iEnum K ta) Γ (enumD ds) := fun H0 F σ H R S q => h H0 F σ H _ S fun vs F1 H1 g1 d1 => by
  obtain ⟨v, rfl, d2⟩ := dqa1 d1
  obtain ⟨a, xs, rfl, h1, h2⟩ := dq_lst d2
  refine ⟨a, xs, rfl, sql g1.ex h1, q _ F1 H1 g1 ⟨fun i F H e1 e2 hi => ?_, fun F H e1 e2 => ⟨xs, sql e2 (rd_mono e1 h1), ?_⟩, fun i F H x H' d e1 e2 hd hy => ?_⟩⟩
  · rw [enumD_len] at hi
    obtain ⟨v, hv, _⟩ := h2.get (List.getElem?_eq_getElem hi)
    exact ⟨xs, v, sql e2 (rd_mono e1 h1), hv⟩
  · rw [enumD_len, h2.len]
    exact Nat.le_refl _
  · obtain ⟨b, hb, rfl⟩ := enumD_at hd
    obtain ⟨T, x, rfl, hT, rfl, f1⟩ := hy
    obtain ⟨v, hv, hq⟩ := h2.get hb
    have q1 := f1 xs (sql e2 (rd_mono e1 h1))
    rw [hv] at q1
    cases q1
    exact pair_new e2 hT (.int _) (hq.up e1)
end
/-! ### targets -/
def GD (Y : Hp → V → PyData → Prop) (g : TG) (d : PyData) (Γ Γ' : List SV) : Prop := ∀ (H0 F : Hp) (σ : L2.St) (H : Hp) (v : V) (Q : L2.St → Hp → Prop), SatF H0 F Γ σ H → Y F v d → (∀ σ', SatF H0 F Γ' σ' H → Q σ' H) → g v σ H Q
def GDs (g : TGs) (ds : List PyData) (Γ Γ' : List SV) : Prop := ∀ (H0 F : Hp) (σ : L2.St) (H : Hp) (vs : List V) (Q : L2.St → Hp → Prop), SatF H0 F Γ σ H → DqA F vs ds → (∀ σ', SatF H0 F Γ' σ' H → Q σ' H) → g vs σ H Q
section
variable {K : Frag} {Γ Γ' Γ'' : List SV} {d : PyData} {ds : List PyData}
theorem gd_name {i : Nat} (hi : i < Γ.length) : GD Dq (gName i) d Γ (Γ.set i (.d d)) := fun H0 F σ H v Q S hd q => q _ (S.set (s := .d d) (Gr.refl S.ex) hd hi)
theorem gds_nil : GDs gNil [] Γ Γ := fun H0 F σ H vs Q S hd q => by
  cases hd
  exact ⟨rfl, q σ S⟩
theorem gds_cons {g : TG} {gs : TGs} (h1 : GD Dq g d Γ Γ') (h2 : GDs gs ds Γ' Γ'') : GDs (gCons g gs) (d :: ds) Γ Γ'' := fun H0 F σ H vs Q S hd q => by
  cases hd with
  | cons a b => exact ⟨_, _, rfl, h1 H0 F σ H _ _ S a fun σ1 S1 => h2 H0 F σ1 H _ Q S1 b q⟩
theorem gd_tup {gs : TGs} {n : Nat} (h : GDs gs ds Γ Γ') (hn : ds.length = n := by rfl) : GD Dq (gTup K n gs) (.tuple ds) Γ Γ' := fun H0 F σ H v Q S hd q => by
  obtain ⟨a, xs, rfl, h1, h2⟩ := dq_tup hd
  exact ⟨a, xs, rfl, sqt S.ex h1, by rw [h2.len]; exact hn, h H0 F σ H xs Q S h2 q⟩
theorem gd_tupL {gs : TGs} {n : Nat} (h : GDs gs ds Γ Γ') (hn : ds.length = n := by rfl) : GD Dl (gTup K n gs) (.tuple ds) Γ Γ' := fun H0 F σ H v Q S hd q => by
  obtain ⟨a, xs, es, rfl, e, h1, h2⟩ := hd
  cases e
  exact ⟨a, xs, rfl, .inl (.inl (S.ex _ _ h1)), by rw [h2.len]; exact hn, h H0 F σ H xs Q S h2 q⟩
/-- the same, the names but at vs as they were -/
def GV (Y : Hp → V → PyData → Prop) (g : TG) (d : PyData) (Γ Γ' : List SV) (vs : List Nat) : Prop := ∀ (H0 F : Hp) (σ : L2.St) (H : Hp) (v : V) (Q : L2.St → Hp → Prop), SatF H0 F Γ σ H → Y F v d → (∀ σ', SatF H0 F Γ' σ' H → wipe σ' vs = wipe σ vs → Q σ' H) → g v σ H Q
def GVs (g : TGs) (ds : List PyData) (Γ Γ' : List SV) (vs : List Nat) : Prop := ∀ (H0 F : Hp) (σ : L2.St) (H : Hp) (xs : List V) (Q : L2.St → Hp → Prop), SatF H0 F Γ σ H → DqA F xs ds → (∀ σ', SatF H0 F Γ' σ' H → wipe σ' vs = wipe σ vs → Q σ' H) → g xs σ H Q
theorem wipe_set {σ : L2.St} {i : Nat} {x : Option V} : ∀ {vs : List Nat}, i ∈ vs → wipe (σ.set i x) vs = wipe σ vs := by
  have comm : ∀ {vs : List Nat}, i ∉ vs → wipe (σ.set i x) vs = (wipe σ vs).set i x := by
    intro vs
    induction vs with
    | nil => exact fun _ => rfl
    | cons v vs ih =>
      intro h
      have h1 : i ≠ v := fun e => h (by rw [e]; exact List.mem_cons_self)
      have h2 : i ∉ vs := fun m => h (List.mem_cons_of_mem _ m)
      show (wipe (σ.set i x) vs).set v none = ((wipe σ vs).set v none).set i x
      rw [ih h2, List.set_comm _ _ h1]
  intro vs
  induction vs with
  | nil => exact fun h => nomatch h
  | cons v vs ih =>
    intro h
    show (wipe (σ.set i x) vs).set v none = (wipe σ vs).set v none
    by_cases m : i ∈ vs
    · rw [ih m]
    · have e : i = v := by
        rcases List.mem_cons.mp h with h | h
        · exact h
        · exact absurd h m
      subst e
      rw [comm m, List.set_set]
theorem gv_name {i : Nat} {vs : List Nat} (hi : i < Γ.length) (hm : i ∈ vs := by decide) : GV Dq (gName i) d Γ (Γ.set i (.d d)) vs := fun H0 F σ H v Q S hd q => q _ (S.set (s := .d d) (Gr.refl S.ex) hd hi) (wipe_set hm)
theorem gvs_nil {vs : List Nat} : GVs gNil [] Γ Γ vs := fun H0 F σ H xs Q S hd q => by
  cases hd
  exact ⟨rfl, q σ S rfl⟩
theorem gvs_cons {g : TG} {gs : TGs} {vs : List Nat} (h1 : GV Dq g d Γ Γ' vs) (h2 : GVs gs ds Γ' Γ'' vs) : GVs (gCons g gs) (d :: ds) Γ Γ'' vs := fun H0 F σ H xs Q S hd q => by
  cases hd with
  | cons a b => exact ⟨_, _, rfl, h1 H0 F σ H _ _ S a fun σ1 S1 w1 => h2 H0 F σ1 H _ Q S1 b fun σ2 S2 w2 => q σ2 S2 (w2.trans w1)⟩
theorem gv_tup {gs : TGs} {n : Nat} {vs : List Nat} (h : GVs gs ds Γ Γ' vs) (hn : ds.length = n := by rfl) : GV Dq (gTup K n gs) (.tuple ds) Γ Γ' vs := fun H0 F σ H v Q S hd q => by
  obtain ⟨a, xs, rfl, h1, h2⟩ := dq_tup hd
  exact ⟨a, xs, rfl, sqt S.ex h1, by rw [h2.len]; exact hn, h H0 F σ H xs Q S h2 q⟩
theorem gv_tupL {gs : TGs} {n : Nat} {vs : List Nat} (h : GVs gs ds Γ Γ' vs) (hn : ds.length = n := by rfl) : GV Dl (gTup K n gs) (.tuple ds) Γ Γ' vs := fun H0 F σ H v Q S hd q => by
  obtain ⟨a, xs, es, rfl, e, h1, h2⟩ := hd
  cases e
  exact ⟨a, xs, rfl, .inl (.inl (S.ex _ _ h1)), by rw [h2.len]; exact hn, h H0 F σ H xs Q S h2 q⟩
end
/-! ### comprehensions -/
def wipeG (Γ : List SV) : List Nat → List SV
  | [] => Γ
  | v :: vs => (wipeG Γ vs).set v .u
theorem SatF.unset {H0 F H : Hp} {Γ : List SV} {σ : L2.St} {i : Nat} (S : SatF H0 F Γ σ H) : SatF H0 F (Γ.set i .u) (σ.set i none) H := by
  have mu : ∀ k, MuAt (Γ.set i .u) k → MuAt Γ k ∧ k ≠ i := fun k ⟨s, hs, hm⟩ => by
    by_cases q : k = i
    · subst q
      by_cases il : k < Γ.length
      · rw [List.getElem?_set_self il] at hs
        cases hs
        cases hm
      · rw [List.getElem?_eq_none (by rw [List.length_set]; omega)] at hs
        cases hs
    · rw [List.getElem?_set_ne (fun e => q e.symm)] at hs
      exact ⟨⟨s, hs, hm⟩, q⟩
  refine ⟨by rw [List.length_set, List.length_set, S.len], S.ex, S.ex0, fun j s hs => ?_, fun j k a hj hk cj ck => ?_⟩
  · by_cases q : j = i
    · subst q
      by_cases il : j < Γ.length
      · rw [List.getElem?_set_self il] at hs
        cases hs
        trivial
      · rw [List.getElem?_eq_none (by rw [List.length_set]; omega)] at hs
        cases hs
    · rw [List.getElem?_set_ne (fun e => q e.symm)] at hs ⊢
      exact S.slot j s hs
  · obtain ⟨m1, n1⟩ := mu j hj
    obtain ⟨m2, n2⟩ := mu k hk
    rw [List.getElem?_set_ne (fun e => n1 e.symm)] at cj
    rw [List.getElem?_set_ne (fun e => n2 e.symm)] at ck
    exact S.sep j k a m1 m2 cj ck
theorem SatF.wipe {H0 F H : Hp} {Γ : List SV} {σ : L2.St} (S : SatF H0 F Γ σ H) : ∀ vs : List Nat, SatF H0 F (wipeG Γ vs) (L2.wipe σ vs) H
  | [] => S
  | v :: vs => SatF.unset (SatF.wipe S vs)
theorem take_snoc {α : Type} {l : List α} {i : Nat} {x : α} (h : l[i]? = some x) : l.take (i + 1) = l.take i ++ [x] := by
  obtain ⟨hl, e⟩ := List.getElem?_eq_some_iff.mp h
  rw [List.take_add_one, h]
  rfl
section
variable {Γ : List SV} {ds : List PyData} {Y : Hp → V → PyData → Prop}
/-- [e for target in it if test]: f d is the element, none where the test fails -/
theorem e_lcF {α : Type} {wi : TI} {g : TG} {tt : TT} {te : TE} {vs : List Nat} (xs : List α) (e0 : α → PyData) (f : α → Option PyData) (hw : WkC Y wi Γ (xs.map e0)) (hl : xs.length < sizeLine)
    (h : ∀ (i : Nat) (d : α), xs[i]? = some d → ∃ Γ2 b, GV Y g (e0 d) (wipeG Γ vs) Γ2 vs ∧ EvT tt Γ2 b ∧ b = (f d).isSome ∧ ∀ y, f d = some y → Ev te Γ2 (.d y)) : Ev (tLc wi g tt te vs) Γ (.ml (xs.filterMap f)) := fun H0 F σ H Q S q =>
  hw H0 F σ H _ S fun J F1 H1 g1 W D hD => by
    have S1 := S.grow g1
    have nF : F1 D = none := g1.ex.free hD
    refine ⟨fun i m H' => i + m = xs.length ∧ ∃ F', Gr F1 H1 F' H' ∧ F' D = none ∧ ∃ acc, H' D = some (.lst acc) ∧ DqA F' acc ((xs.take i).filterMap f) , ⟨xs.length, by omega, F1, Gr.newM g1.ex hD, nF, [], upd_same, .nil⟩, ?_⟩
    rintro i m H' ⟨him, F', g2, hFD, acc, hacc, hq⟩
    by_cases hi : i < xs.length
    · refine .inr ⟨W.goes i F' H' g2.f g2.h g2.ex (by rw [List.length_map]; exact hi), fun H'' => ∃ F'', Gr F1 H1 F'' H'' ∧ F'' D = none ∧ ∃ acc, H'' D = some (.lst acc) ∧ DqA F'' acc ((xs.take (i + 1)).filterMap f), fun H'' ⟨F'', k1, k2, k3⟩ => ⟨m - 1, by omega, by omega, F'', k1, k2, k3⟩, fun x H2 hy => ?_⟩
      have hd : xs[i]? = some xs[i] := List.getElem?_eq_getElem hi
      obtain ⟨F2, g3, dq⟩ := W.yields i F' H' x H2 (e0 xs[i]) g2.f g2.h g2.ex (by rw [List.getElem?_map, hd]; rfl) hy
      obtain ⟨Γ2, b, hg, ht, hb, he⟩ := h i _ hd
      have hacc2 : H2 D = some (.lst acc) := g3.h _ _ hacc
      have gg := g2.trans g3
      have S2 : SatF H0 F2 (wipeG Γ vs) (wipe σ vs) H2 := (S1.grow gg).wipe vs
      have hF2 : F2 D = none := g3.no hFD hacc
      refine hg H0 F2 (wipe σ vs) H2 x _ S2 dq fun σ' S3 w3 => ⟨?_, ht H0 F2 σ' H2 _ S3 fun F3 H3 g4 => ?_⟩
      · rw [w3]
        clear w3 S3 S2
        have : ∀ vs : List Nat, wipe (wipe σ vs) vs = wipe σ vs := by
          intro vs
          have key : ∀ us : List Nat, (∀ u ∈ us, u ∈ vs) → wipe (wipe σ vs) us = wipe σ vs := by
            intro us
            induction us with
            | nil => exact fun _ => rfl
            | cons u us ih =>
              intro hu
              show (wipe (wipe σ vs) us).set u none = _
              rw [ih fun w hw => hu w (List.mem_cons_of_mem _ hw)]
              refine List.ext_getElem? fun j => ?_
              by_cases q : j = u
              · subst q
                by_cases jl : j < (wipe σ vs).length
                · rw [List.getElem?_set_self jl]
                  have m := hu j List.mem_cons_self
                  cases hc : (wipe σ vs)[j]? with
                  | none =>
                    rw [List.getElem?_eq_none_iff] at hc
                    omega
                  | some o =>
                    cases o with
                    | none => rfl
                    | some v => exact absurd m (wipe_some hc).2
                · rw [List.getElem?_eq_none (by rw [List.length_set]; omega), List.getElem?_eq_none (by omega)]
              · rw [List.getElem?_set_ne (fun e => q e.symm)]
          exact key vs fun _ h => h
        exact this vs
      · have e1 : (xs.take (i + 1)).filterMap f = (xs.take i).filterMap f ++ (f xs[i]).toList := by
          rw [take_snoc hd, List.filterMap_append]
          congr 1
        have hF3 : F3 D = none := g4.no hF2 hacc2
        have hacc3 := g4.h _ _ hacc2
        cases hf : f xs[i] with
        | none =>
          rw [hf] at hb
          cases hb
          show ∃ F'', _
          refine ⟨F3, gg.trans g4, hF3, acc, hacc3, ?_⟩
          rw [e1, hf, Option.toList_none, List.append_nil]
          exact (hq.up g3.f).up g4.f
        | some y =>
          rw [hf] at hb
          cases hb
          show te σ' H3 _
          refine he y hf H0 F3 σ' H3 _ (S3.grow g4) fun v F4 H4 g5 d5 => ⟨acc, g5.h _ _ hacc3, ?_, F4, ?_, ?_, acc ++ [v], upd_same, ?_⟩
          · rw [hq.len]
            refine Nat.lt_of_le_of_lt (List.length_filterMap_le _ _) (Nat.lt_of_le_of_lt ?_ hl)
            rw [List.length_take]
            exact Nat.min_le_right _ _
          · have gx := (gg.trans g4).trans g5
            have hF4 : F4 D = none := g5.no hF3 hacc3
            refine ⟨gx.f, fun b o hb => ?_, fun b o hb => ?_, gx.new⟩
            · rw [upd_ne (ne_of_none hb hD)]
              exact gx.h _ _ hb
            · rw [upd_ne (ne_of_none hb hF4)]
              exact gx.ex _ _ hb
          · exact g5.no hF3 hacc3
          · rw [e1, hf]
            exact DqA.append (((hq.up g3.f).up g4.f).up g5.f) (.cons d5 .nil)
    · have e : i = xs.length := by omega
      subst e
      rw [List.take_length] at hq
      refine .inl ⟨by have := W.stops F' H' g2.f g2.h g2.ex; rw [List.length_map] at this; exact this, q _ F' H' (g1.trans g2) ⟨D, acc, rfl, g1.h.free hD, hFD, hacc, hq⟩⟩
theorem e_lc {wi : TI} {g : TG} {tt : TT} {te : TE} {vs : List Nat} (f : PyData → Option PyData) (hw : WkC Y wi Γ ds) (hl : ds.length < sizeLine)
    (h : ∀ (i : Nat) (d : PyData), ds[i]? = some d → ∃ Γ2 b, GV Y g d (wipeG Γ vs) Γ2 vs ∧ EvT tt Γ2 b ∧ b = (f d).isSome ∧ ∀ y, f d = some y → Ev te Γ2 (.d y)) : Ev (tLc wi g tt te vs) Γ (.ml (ds.filterMap f)) := e_lcF ds id f (by rw [List.map_id]; exact hw) hl h
theorem et_yes : EvT tYes Γ true := fun H0 F σ H Q S q => q F H (Gr.refl S.ex)
theorem filterMap_some {α β : Type} (f : α → β) (l : List α) : l.filterMap (fun x => some (f x)) = l.map f := by
  induction l with
  | nil => rfl
  | cons a l ih => simp [ih]
/-- without a test -/
theorem e_lc0 {wi : TI} {g : TG} {te : TE} {vs : List Nat} (f : PyData → PyData) (hw : WkC Y wi Γ ds) (hl : ds.length < sizeLine)
    (h : ∀ (i : Nat) (d : PyData), ds[i]? = some d → ∃ Γ2, GV Y g d (wipeG Γ vs) Γ2 vs ∧ Ev te Γ2 (.d (f d))) : Ev (tLc wi g tYes te vs) Γ (.ml (ds.map f)) := by
  have k := e_lc (tt := tYes) (te := te) (vs := vs) (g := g) (fun d => some (f d)) hw hl fun i d hd => by
    obtain ⟨Γ2, h1, h2⟩ := h i d hd
    exact ⟨Γ2, true, h1, et_yes, rfl, fun y hy => by cases hy; exact h2⟩
  rw [filterMap_some] at k
  exact k
theorem e_lcM {α : Type} {wi : TI} {g : TG} {te : TE} {vs : List Nat} (xs : List α) (e0 : α → PyData) (f : α → PyData) (hw : WkC Y wi Γ (xs.map e0)) (hl : xs.length < sizeLine)
    (h : ∀ (i : Nat) (d : α), xs[i]? = some d → ∃ Γ2, GV Y g (e0 d) (wipeG Γ vs) Γ2 vs ∧ Ev te Γ2 (.d (f d))) : Ev (tLc wi g tYes te vs) Γ (.ml (xs.map f)) := by
  have k := e_lcF (tt := tYes) (te := te) (vs := vs) (g := g) xs e0 (fun d => some (f d)) hw hl fun i d hd => by
    obtain ⟨Γ2, h1, h2⟩ := h i d hd
    exact ⟨Γ2, true, h1, et_yes, rfl, fun y hy => by cases hy; exact h2⟩
  rw [filterMap_some] at k
  exact k
end
end Ef
/-! Statements and defs. -/
namespace Ef
open PySem PySem.Spec PyProof.Rows L2
def Sat (F0 H0 : Hp) (Γ : List SV) (σ : L2.St) (H : Hp) : Prop := ∃ F, Gr F0 H0 F H ∧ SatF H0 F Γ σ H
def SR (F0 H0 : Hp) (t : TS) (Γ : List SV) (D : Ends) : Prop := ∀ (σ : L2.St) (H : Hp), Sat F0 H0 Γ σ H → t D σ H
def Nx (F0 H0 : Hp) (Γ : List SV) (D : Ends) : Prop := ∀ (σ : L2.St) (H : Hp), Sat F0 H0 Γ σ H → D.nx σ H
/-- what is handed back -/
def RT (F0 H0 : Hp) (r : SV) (v : V) (H' : Hp) : Prop := ∃ F', Gr F0 H0 F' H' ∧ VOk H0 F' H' r v
/-- facts that have grown within the call -/
def Gx (F0 H0 F1 : Hp) : Prop := Same F0 F1 ∧ ∀ b, F1 b ≠ none → F0 b ≠ none ∨ H0 b = none
theorem Gr.gx {F0 H0 F H : Hp} (g : Gr F0 H0 F H) : Gx F0 H0 F := ⟨g.f, g.new⟩
theorem Gx.gr {F0 H0 F1 F H : Hp} (x : Gx F0 H0 F1) (g : Gr F1 H0 F H) : Gr F0 H0 F H := ⟨x.1.trans g.f, g.h, g.ex, fun b hb => by
  rcases g.new b hb with h | h
  · exact x.2 b h
  · exact .inr h⟩
theorem Gr.from {F0 H0 F1 H1 F2 H2 : Hp} (a : Gr F0 H0 F1 H1) (b : Gr F1 H1 F2 H2) : Gr F1 H0 F2 H2 := ⟨b.f, a.h.trans b.h, b.ex, fun x hx => by
  rcases b.new x hx with h | h
  · exact .inl h
  · exact .inr (a.h.free h)⟩
theorem RT.up {F0 H0 F1 : Hp} (x : Gx F0 H0 F1) {r : SV} {v : V} {H' : Hp} (h : RT F1 H0 r v H') : RT F0 H0 r v H' := by
  obtain ⟨F', g, o⟩ := h
  exact ⟨F', x.gr g, o⟩
theorem Sat.up {F0 H0 F1 : Hp} (x : Gx F0 H0 F1) {Γ : List SV} {σ : L2.St} {H : Hp} (h : Sat F1 H0 Γ σ H) : Sat F0 H0 Γ σ H := by
  obtain ⟨F', g, o⟩ := h
  exact ⟨F', x.gr g, o⟩
theorem Gx.refl {F0 H0 : Hp} : Gx F0 H0 F0 := ⟨Same.refl _, fun _ h => .inl h⟩
theorem Gx.trans {F0 H0 F1 F2 : Hp} (a : Gx F0 H0 F1) (b : Gx F1 H0 F2) : Gx F0 H0 F2 := ⟨a.1.trans b.1, fun x hx => by
  rcases b.2 x hx with h | h
  · exact a.2 x h
  · exact .inr h⟩
def NXP (F0 H0 : Hp) (P : List SV → Prop) : L2.St → Hp → Prop := fun σ H => ∃ Γ, P Γ ∧ Sat F0 H0 Γ σ H
section
variable {F0 H0 : Hp} {Γ Γ' : List SV} {D : Ends} {t u : TS} {te ta td tk : TE} {r : SV} {x y : PyData} {b : Bool} {i : Nat}
theorem sr_seq (h : SR F0 H0 t Γ { D with nx := u D }) : SR F0 H0 (tSeq t u) Γ D := h
theorem nx_go (h : SR F0 H0 u Γ D) : Nx F0 H0 Γ { D with nx := u D } := h
theorem sr_next (h : Nx F0 H0 Γ D) : SR F0 H0 tNext Γ D := h
theorem nx_is {P : List SV → Prop} (h : P Γ) (hD : ∀ σ H, NXP F0 H0 P σ H → D.nx σ H) : Nx F0 H0 Γ D := fun σ H S => hD σ H ⟨Γ, h, S⟩
theorem sr_weak (h : SR F0 H0 t Γ' D) (l : Le Γ Γ') : SR F0 H0 t Γ D := fun σ H ⟨F, g, S⟩ => h σ H ⟨F, g, S.weak l⟩
theorem nx_weak (h : Nx F0 H0 Γ' D) (l : Le Γ Γ') : Nx F0 H0 Γ D := fun σ H ⟨F, g, S⟩ => h σ H ⟨F, g, S.weak l⟩
theorem sr_freeze {ds : List PyData} (hi : Γ[i]? = some (.ml ds)) (h : SR F0 H0 t (Γ.set i (.d (.list ds))) D) : SR F0 H0 t Γ D := fun σ H ⟨F, g, S⟩ => by
  obtain ⟨F', S', e, n⟩ := S.freeze hi
  exact h σ H ⟨F', ⟨g.f.trans e, g.h, S'.ex, fun b hb => by
    rcases n b hb with h | h
    · exact g.new b h
    · exact .inr h⟩, S'⟩
theorem sr_asg (he : Ev te Γ r) (hi : i < Γ.length) (h : Nx F0 H0 (Γ.set i r) D) : SR F0 H0 (tAsg te (gName i)) Γ D := fun σ H ⟨F, g, S⟩ =>
  he H0 F σ H _ S fun v F1 H1 g1 d1 => h _ _ ⟨F1, g.trans g1, S.set g1 d1 hi⟩
/-- a, b, .. = e -/
theorem sr_unp {gt : TG} (he : Ev te Γ (.d x)) (hg : GD Dq gt x Γ Γ') (h : Nx F0 H0 Γ' D) : SR F0 H0 (tAsg te gt) Γ D := fun σ H ⟨F, g, S⟩ =>
  he H0 F σ H _ S fun v F1 H1 g1 d1 => hg H0 F1 σ H1 v _ (S.grow g1) d1 fun σ' S' => h _ _ ⟨F1, g.trans g1, S'⟩
theorem sr_ret (he : Ev te Γ r) (h : ∀ v H, RT F0 H0 r v H → D.rt v H) : SR F0 H0 (tRet te) Γ D := fun σ H ⟨F, g, S⟩ =>
  he H0 F σ H _ S fun v F1 H1 g1 d1 => h v H1 ⟨F1, g.trans g1, VOk.back g.h d1⟩
/-- one's own list handed back -/
theorem sr_retM {ds : List PyData} (hi : Γ[i]? = some (.ml ds)) (h : ∀ v H, RT F0 H0 (.ml ds) v H → D.rt v H) : SR F0 H0 (tRet (tVar i)) Γ D := fun σ H ⟨F, g, S⟩ => by
  obtain ⟨a, vs, h1, h2, h3, h4, h5⟩ := S.slot i _ hi
  exact ⟨_, h1, h _ _ ⟨F, g, a, vs, rfl, h3, h2, h4, h5⟩⟩
theorem sr_retMD {kvs : List (Str × PyData)} (hi : Γ[i]? = some (.md kvs)) (h : ∀ v H, RT F0 H0 (.md kvs) v H → D.rt v H) : SR F0 H0 (tRet (tVar i)) Γ D := fun σ H ⟨F, g, S⟩ => by
  obtain ⟨a, vs, h1, h2, h3, h4, h5⟩ := S.slot i _ hi
  exact ⟨_, h1, h _ _ ⟨F, g, a, vs, rfl, h3, h2, h4, h5⟩⟩
theorem sr_retN (h : ∀ v H, RT F0 H0 (.d .none) v H → D.rt v H) : SR F0 H0 tRetN Γ D := fun σ H ⟨F, g, S⟩ => h _ _ ⟨F, g, .non⟩
theorem sr_if {c : TT} (hc : EvT c Γ b) (h1 : b = true → SR F0 H0 t Γ D) (h2 : b = false → SR F0 H0 u Γ D) : SR F0 H0 (tIfS c t u) Γ D := fun σ H ⟨F, g, S⟩ =>
  hc H0 F σ H _ S fun F1 H1 g1 => by
    cases b with
    | true =>
      show t D σ H1
      exact h1 rfl σ H1 ⟨F1, g.trans g1, S.grow g1⟩
    | false =>
      show u D σ H1
      exact h2 rfl σ H1 ⟨F1, g.trans g1, S.grow g1⟩
theorem sr_ifT {c : TT} (hc : EvT c Γ true) (h1 : SR F0 H0 t Γ D) : SR F0 H0 (tIfS c t u) Γ D := sr_if hc (fun _ => h1) (fun h => nomatch h)
theorem sr_ifF {c : TT} (hc : EvT c Γ false) (h1 : SR F0 H0 u Γ D) : SR F0 H0 (tIfS c t u) Γ D := sr_if hc (fun h => nomatch h) (fun _ => h1)
/-- an expression for nothing -/
theorem sr_drop (he : Ev te Γ r) (h : Nx F0 H0 Γ D) : SR F0 H0 (tDrop te) Γ D := fun σ H ⟨F, g, S⟩ =>
  he H0 F σ H _ S fun v F1 H1 g1 d1 => h _ _ ⟨F1, g.trans g1, S.grow g1⟩
/-- one's own object is changed -/
theorem SatF.write {F H : Hp} {σ : L2.St} {a : Addr} {o o' : HO} {s : SV} (S : SatF H0 F Γ σ H) (hm : MuAt Γ i) (hc : σ[i]? = some (some (.ref a))) (ho : H a = some o) (hno : ∀ C dx fs, o ≠ .ins C dx fs) (hF : F a = none) (h0 : H0 a = none) (hs : s.mu = true) (hn : SlotOk H0 F (upd H a o') s (some (some (.ref a)))) :
    SatF H0 F (Γ.set i s) σ (upd H a o') := by
  obtain ⟨s0, hs0, hm0⟩ := hm
  have il : i < Γ.length := (List.getElem?_eq_some_iff.mp hs0).1
  have mu : ∀ k, MuAt (Γ.set i s) k → MuAt Γ k := fun k ⟨z, hz, hmz⟩ => by
    by_cases q : k = i
    · subst q
      exact ⟨s0, hs0, hm0⟩
    · rw [List.getElem?_set_ne (fun e => q e.symm)] at hz
      exact ⟨z, hz, hmz⟩
  refine ⟨by rw [List.length_set, S.len], fun b q hb => ?_, fun b q hb => ?_, fun j z hz => ?_, fun j k b hj hk cj ck => S.sep j k b (mu j hj) (mu k hk) cj ck⟩
  · rw [upd_ne (ne_of_none hb hF)]
    exact S.ex _ _ hb
  · rw [upd_ne (ne_of_none hb h0)]
    exact S.ex0 _ _ hb
  · by_cases q : j = i
    · subst q
      rw [List.getElem?_set_self il] at hz
      cases hz
      rw [hc]
      exact hn
    · rw [List.getElem?_set_ne (fun e => q e.symm)] at hz
      have k := S.slot j z hz
      have ne : z.mu = true → ∀ b, σ[j]? = some (some (.ref b)) → b ≠ a := fun hmz b hb e => by
        subst e
        exact q (S.sep j i b ⟨z, hz, hmz⟩ ⟨s0, hs0, hm0⟩ hb hc)
      cases z with
      | u => trivial
      | d x => exact k
      | dic kvs => exact k
      | obj C fs =>
        obtain ⟨b, dx, vfs, e1, e2, e3⟩ := k
        refine ⟨b, dx, vfs, e1, ?_, e3⟩
        rw [upd_ne (fun e => ?_)]
        · exact e2
        · subst e
          rw [ho] at e2
          exact hno _ _ _ (Option.some.inj e2)
      | ml es =>
        obtain ⟨b, ws, e1, e2, e3, e4, e5⟩ := k
        exact ⟨b, ws, e1, e2, e3, by rw [upd_ne (ne rfl b e1)]; exact e4, e5⟩
      | md es =>
        obtain ⟨b, ws, e1, e2, e3, e4, e5⟩ := k
        exact ⟨b, ws, e1, e2, e3, by rw [upd_ne (ne rfl b e1)]; exact e4, e5⟩
      | lk es =>
        obtain ⟨b, ws, o, e1, e2, e3, e4, e5⟩ := k
        exact ⟨b, ws, o, e1, e2, e3, by rw [upd_ne (ne rfl b e1)]; exact e4, e5⟩
theorem Gr.write {F H : Hp} {a : Addr} {o' : HO} (g : Gr F0 H0 F H) (hF : F a = none) (h0 : H0 a = none) : Gr F0 H0 F (upd H a o') := ⟨g.f, fun b q hb => by
  rw [upd_ne (ne_of_none hb h0)]
  exact g.h _ _ hb, fun b q hb => by
  rw [upd_ne (ne_of_none hb hF)]
  exact g.ex _ _ hb, g.new⟩
/-- xs.append(e) -/
theorem sr_app {K : Frag} {ds : List PyData} (hi : Γ[i]? = some (.ml ds)) (he : Ev te Γ (.d x)) (hl : ds.length < sizeLine) (h : Nx F0 H0 (Γ.set i (.ml (ds ++ [x]))) D) : SR F0 H0 (tDrop (tBM K "list" rAppend (tVar i) (tCons te tNil))) Γ D := fun σ H ⟨F, g, S⟩ => by
  obtain ⟨a, vs, h1, h2, h3, h4, h5⟩ := S.slot i _ hi
  refine ⟨_, h1, .inl ⟨rfl, vs, .inl (.inl h4)⟩, he H0 F σ H _ S fun v F1 H1 g1 d1 => ?_⟩
  have S1 := S.grow g1
  obtain ⟨a', ws, k1, k2, k3, k4, k5⟩ := S1.slot i _ hi
  rw [h1] at k1
  cases k1
  refine ⟨a, ws, v, rfl, rfl, k4, by rw [k5.len]; exact hl, h σ _ ⟨F1, (g.trans g1).write k2 k3, S1.write (s := .ml (ds ++ [x])) ⟨_, hi, rfl⟩ h1 k4 (fun _ _ _ e => nomatch e) k2 k3 rfl ⟨a, _, rfl, k2, k3, upd_same, k5.append (.cons d1 .nil)⟩⟩⟩
/-! ### loops -/
theorem sr_for {Y : Hp → V → PyData → Prop} {wi : TI} {g : TG} {tb : TS} {ds : List PyData} (hw : Wk Y wi Γ ds) (I : Nat → List SV → Prop) (h0 : I 0 Γ)
    (ht : ∀ (F1 : Hp) (i : Nat) (d : PyData) (Γi : List SV), Gx F0 H0 F1 → ds[i]? = some d → I i Γi → ∃ Γ2, GD Y g d Γi Γ2 ∧ SR F1 H0 tb Γ2 { D with nx := NXP F1 H0 (I (i + 1)), ct := NXP F1 H0 (I (i + 1)), bk := D.nx })
    (hx : ∀ Γn, I ds.length Γn → Nx F0 H0 Γn D) : SR F0 H0 (tFor wi g tb) Γ D := fun σ H ⟨F, g0, S⟩ => hw H0 F σ H _ S fun J F1 H1 g1 W => by
  have x1 : Gx F0 H0 F1 := (g0.trans g1).gx
  have start : Sat F1 H0 Γ σ H1 := ⟨F1, Gr.from g0 g1 |> fun k => ⟨Same.refl _, k.h, k.ex, fun _ h => .inl h⟩, S.grow g1⟩
  refine ⟨fun i m σ H => i + m = ds.length ∧ NXP F1 H0 (I i) σ H, ⟨ds.length, by omega, Γ, h0, start⟩, ?_⟩
  rintro i m σ H ⟨him, Γi, hI, F', g2, S2⟩
  by_cases hi : i < ds.length
  · have hd : ds[i]? = some ds[i] := List.getElem?_eq_getElem hi
    refine .inr ⟨W.goes i F' H g2.f S2.ex hi, NXP F1 H0 (I (i + 1)), fun σ' H' hN => ⟨m - 1, by omega, by omega, hN⟩, fun x H' hy => ?_⟩
    obtain ⟨F2, g3, dq⟩ := W.yields i F' H x H' _ g2.f S2.ex hd hy
    obtain ⟨Γ2, hg, hb⟩ := ht F1 i _ Γi x1 hd hI
    exact hg H0 F2 σ H' x _ (S2.grow g3) dq fun σ' S3 => hb σ' H' ⟨F2, g2.trans g3, S3⟩
  · have e : i = ds.length := by omega
    subst e
    exact .inl ⟨W.stops F' H g2.f S2.ex, hx Γi hI σ H ⟨F', x1.gr g2, S2⟩⟩
theorem sr_while {c : TT} {tb : TS} (I : Nat → List SV → Prop) (h0 : ∃ m, I m Γ)
    (ht : ∀ (m : Nat) (Γi : List SV), I m Γi → ∃ b, EvT c Γi b ∧ (b = true → SR F0 H0 tb Γi { D with nx := NXP F0 H0 (fun Γ' => ∃ m', m' < m ∧ I m' Γ'), ct := NXP F0 H0 (fun Γ' => ∃ m', m' < m ∧ I m' Γ'), bk := D.nx }) ∧ (b = false → Nx F0 H0 Γi D)) :
    SR F0 H0 (tWhile c tb) Γ D := fun σ H S => by
  refine ⟨fun m σ H => NXP F0 H0 (I m) σ H, ?_, ?_⟩
  · obtain ⟨m, hm⟩ := h0
    exact ⟨m, Γ, hm, S⟩
  · rintro m σ H ⟨Γi, hI, F, g, S⟩
    obtain ⟨b, h1, h2, h3⟩ := ht m Γi hI
    refine h1 H0 F σ H _ S fun F1 H1 g1 => ?_
    cases b with
    | true =>
      show ∃ N : L2.St → Hp → Prop, _
      exact ⟨NXP F0 H0 (fun Γ' => ∃ m', m' < m ∧ I m' Γ'), fun σ' H' ⟨Γ', ⟨m', hm, hI'⟩, S'⟩ => ⟨m', hm, Γ', hI', S'⟩, h2 rfl σ H1 ⟨F1, g.trans g1, S.grow g1⟩⟩
    | false =>
      show D.nx σ H1
      exact h3 rfl σ H1 ⟨F1, g.trans g1, S.grow g1⟩
/-- name += e -/
theorem sr_augI {f : Int → Int → Int} {k j : Int} (hi : Γ[i]? = some (.d (.int k))) (he : Ev te Γ (.d (.int j))) (h : Nx F0 H0 (Γ.set i (.d (.int (f k j)))) D) : SR F0 H0 (tAug i te (ipI f)) Γ D := fun σ H ⟨F, g, S⟩ => by
  obtain ⟨v, h1, h2⟩ := S.slot i _ hi
  cases h2
  refine ⟨_, h1, he H0 F σ H _ S fun v F1 H1 g1 d1 => ?_⟩
  cases d1
  exact ⟨k, j, rfl, rfl, h _ _ ⟨F1, g.trans g1, S.set (s := .d (.int (f k j))) g1 (.int _) (List.getElem?_eq_some_iff.mp hi).1⟩⟩
/-- xs += ys, ys a new list -/
theorem sr_ext {ds es : List PyData} (hi : Γ[i]? = some (.ml ds)) (he : Ev te Γ (.ml es)) (hl : ds.length + es.length ≤ sizeLine) (h : Nx F0 H0 (Γ.set i (.ml (ds ++ es))) D) : SR F0 H0 (tAug i te rExt2) Γ D := fun σ H ⟨F, g, S⟩ => by
  obtain ⟨a, vs, h1, h2, h3, h4, h5⟩ := S.slot i _ hi
  refine ⟨_, h1, he H0 F σ H _ S fun v F1 H1 g1 d1 => ?_⟩
  have S1 := S.grow g1
  obtain ⟨a', ws, k1, k2, k3, k4, k5⟩ := S1.slot i _ hi
  rw [h1] at k1
  cases k1
  obtain ⟨c, us, rfl, l1, l2, l3, l4⟩ := d1
  refine ⟨a, c, ws, us, rfl, rfl, k4, l3, by rw [k5.len, l4.len]; exact hl, ?_⟩
  have il : i < σ.length := (List.getElem?_eq_some_iff.mp h1).1
  have e : σ.set i (some (.ref a)) = σ := by
    refine List.ext_getElem? fun j => ?_
    by_cases q : j = i
    · subst q
      rw [List.getElem?_set_self il, h1]
    · rw [List.getElem?_set_ne (fun e => q e.symm)]
  show D.nx (σ.set i (some (.ref a))) _
  rw [e]
  exact h σ _ ⟨F1, (g.trans g1).write k2 k3, S1.write (s := .ml (ds ++ es)) ⟨_, hi, rfl⟩ h1 k4 (fun _ _ _ e => nomatch e) k2 k3 rfl ⟨a, _, rfl, k2, k3, upd_same, k5.append l4⟩⟩
end
/-! ### defs -/
def padU (args : List SV) (n : Nat) : List SV := args ++ List.replicate (n - args.length) .u
theorem sat_start {F H : Hp} {args : List SV} {vs : List V} {N : List Str} (e : Same F H) (h : AOkL F H args vs) (hl : args.length ≤ N.length) : Sat F H (padU args N.length) (L2.start N vs) H := by
  have lv := paired_len h
  refine ⟨F, Gr.refl e, ⟨?_, e, Same.refl _, fun i s hs => ?_, fun i j a hi _ _ _ => ?_⟩⟩
  · unfold L2.start padU
    rw [List.length_append, List.length_append, List.length_map, List.length_replicate, List.length_replicate, lv]
  · unfold padU at hs
    by_cases hi : i < args.length
    · rw [List.getElem?_append_left hi] at hs
      have key : ∀ {args : List SV} {vs : List V}, AOkL F H args vs → ∀ {i : Nat} {s : SV}, args[i]? = some s → ∃ v, vs[i]? = some v ∧ AOk F H s v := by
        intro args vs hh
        induction hh with
        | nil => intro i s h; simp at h
        | cons h1 h2 ih =>
          intro i s h
          cases i with
          | zero =>
            simp only [List.getElem?_cons_zero, Option.some.injEq] at h
            subst h
            exact ⟨_, rfl, h1⟩
          | succ i =>
            simp only [List.getElem?_cons_succ] at h ⊢
            exact ih h
      obtain ⟨v, hv, hm, hok⟩ := key h hs
      have e2 : (L2.start N vs)[i]? = some (some v) := by
        unfold L2.start
        rw [List.getElem?_append_left (by rw [List.length_map]; omega), List.getElem?_map, hv]
        rfl
      rw [e2]
      cases s with
      | u => trivial
      | d x => exact ⟨v, rfl, hok⟩
      | dic kvs =>
        obtain ⟨a, ws, rfl, k1, k2⟩ := hok
        exact ⟨a, ws, rfl, k1, k2⟩
      | obj C fs =>
        obtain ⟨a, dx, ws, rfl, k1, k2⟩ := hok
        exact ⟨a, dx, ws, rfl, k1, k2⟩
      | ml ds => cases hm
      | md ds => cases hm
      | lk ds => cases hm
    · rw [List.getElem?_append_right (by omega)] at hs
      have : s = .u := by
        have := List.mem_of_getElem? hs
        exact (List.mem_replicate.mp this).2
      subst this
      trivial
  · exfalso
    obtain ⟨s, hs, hm⟩ := hi
    unfold padU at hs
    have : s ∈ args ++ List.replicate (N.length - args.length) SV.u := List.mem_of_getElem? hs
    rcases List.mem_append.mp this with m | m
    · have key : ∀ {args : List SV} {vs : List V}, AOkL F H args vs → ∀ s ∈ args, s.mu = false := by
        intro args vs hh
        induction hh with
        | nil => intro s h; cases h
        | cons h1 h2 ih =>
          intro s h
          rcases List.mem_cons.mp h with h | h
          · subst h
            exact h1.1
          · exact ih s h
      rw [key h s m] at hm
      cases hm
    · have := (List.mem_replicate.mp m).2
      subst this
      cases hm
/-- what a body must do for the answer r -/
def BodyOk (t : TS) (N : List Str) (args : List SV) (r : SV) : Prop := ∀ (F0 H0 : Hp) (D : Ends), (∀ v H, RT F0 H0 r v H → D.rt v H) → (r = .d .none → ∀ σ H Γ, Sat F0 H0 Γ σ H → D.nx σ H) → SR F0 H0 t (padU args N.length) D
section
variable {P : Program} {w : World} {K : Frag} {mg : Str → Option Value} {base : Heap} {x qual : Str} {params : Arguments} {body : List Stmt} {scope : Scope} {f : Addr} {fd : FuncData} {N ps : List Str} {k : Nat} {R : List SV → SV → Prop}
theorem okQ (F : FunD K x qual params body scope [] [] f fd) (S : FnScope N ps scope) (hl : ∀ args r, R args r → args.length = ps.length) (hps : ps.length ≤ N.length)
    (h : ∀ (X : Cx), (∃ cdv A outer s H, X = (cxOf CX0 P w K mg base N qual scope f cdv A outer s H E0).nox ∧ Room k (A.deeper (envOfC qual scope s.heap.objs.size f cdv))) → ∀ args r, R args r → ∃ t, PSs X body t ∧ BodyOk t N args r) :
    FnOk P w K mg base CX0 (k + 1) f fd ps (spQ R) := by
  refine F.ok S (fun vs H Q E ⟨F0, args, r, _, h1, h2, _⟩ => ?_) (fun cdv A outer s H vs Q E hr ⟨F0, args, r, e, h1, h2, q⟩ => ?_)
  · rw [← paired_len h1]
    exact hl args r h2
  · obtain ⟨t, h3, h4⟩ := h _ ⟨cdv, A, outer, s, H, rfl, hr⟩ args r h2
    have h3' : PSs (cxOf CX0 P w K mg base N qual scope f cdv A outer s H E).nox body t := h3
    refine ⟨t, PSs.nox h3', ?_⟩
    refine h4 F0 H { nx := fun _ H' => Q .non H', rt := Q } (fun v H' ⟨F', g, o⟩ => q v F' H' g o) (fun er σ H' Γ ⟨F', g, _⟩ => ?_) _ _ (sat_start e h1 (by rw [hl args r h2]; exact hps))
    subst er
    exact q .non F' H' g .non
end
end Ef
/-! Rules that the layer lacks. -/
namespace Ef
open PySem PySem.Spec PyProof.Rows L2
section
variable {X : Cx} {a b c d : Expr} {ta tb tc td : TE} {pos : Pos}
/-! ### a op1 b op2 c op3 d -/
def tChain3 (r r' r'' : R2) (ta tb tc td : TE) : TE := fun σ H Q => ta σ H fun x H1 => tb σ H1 fun y H2 => r x y H2 fun z H3 => ∃ k, z = .bl k ∧
  (if k = true then tc σ H3 fun w H4 => r' y w H4 fun z' H5 => ∃ k', z' = .bl k' ∧ (if k' = true then td σ H5 fun u H6 => r'' w u H6 Q else Q (.bl false) H5) else Q (.bl false) H3)
theorem pe_chain3 {o1 o2 o3 : CmpOp} {r r' r'' : R2} (h1 : OpR X (compareOp o1) r) (h2 : OpR X (compareOp o2) r') (h3 : OpR X (compareOp o3) r'') (ha : PE X a ta) (hb : PE X b tb) (hc : PE X c tc) (hd : PE X d td)
    (hm : lastMarks [o1, o2, o3] [b, c, d] = false := by with_unfolding_all rfl) : PE X (.Compare a [o1, o2, o3] [b, c, d] pos) (tChain3 r r' r'' ta tb tc td) := by
  refine ⟨fun pins s σ H Q I h => Compare_chain (thn (ha.run pins s σ H _ I h) fun v s1 ⟨x, H1, I1, r1, q1⟩ => ?_) hm⟩
  refine chain_link (thn (hb.run pins s1 σ H1 _ I1 q1) fun u s2 ⟨y, H2, I2, r2, q2⟩ => thn (h1 pins s2 σ H2 x y v u _ I2 r1 r2 q2) fun g s3 ⟨z, H3, I3, r3, k, e, q3⟩ => ?_)
  subst e
  cases r3
  refine wpAny_truthy_bool ?_
  cases k with
  | false => exact ite_ff ⟨.bl false, _, I3, rfl, q3⟩
  | true =>
    refine ite_tt (chain_link (thn (hc.run pins s3 σ H3 _ I3 q3) fun p s4 ⟨w, H4, I4, r4, q4⟩ => thn (h2 pins s4 σ H4 y w u p _ I4 r2 r4 q4) fun g' s5 ⟨z', H5, I5, r5, k', e', q5⟩ => ?_))
    subst e'
    cases r5
    refine wpAny_truthy_bool ?_
    cases k' with
    | false => exact ite_ff ⟨.bl false, _, I5, rfl, q5⟩
    | true => exact ite_tt (chain_last (thn (hd.run pins s5 σ H5 _ I5 q5) fun m s6 ⟨n, H6, I6, r6, q6⟩ => h3 pins s6 σ H6 w n p m Q I6 r4 r6 q6))
/-! ### a method of a tuple that is tracked -/
def tBMT (r : V → List V → Hp → VK → Prop) (to : TE) (t : TA) : TE := fun σ H Q => to σ H fun x H1 => (∃ p o xs, x = .ref p ∧ H1 p = some (.frz o (.tup xs)) ∧ o.dict = none) ∧ t σ H1 fun vs H2 => r x vs H2 Q
theorem pe_bmT {o e : Expr} {es : List Expr} {to : TE} {t : TA} {name : Str} {apos cpos : Pos} {id : String} {r : V → List V → Hp → VK → Prop} (pa : PlainAttrs "tuple") (slot : Slot "tuple" name id) (hty : typeOf (.builtin id) = pure (.type "method_descriptor")) (hm : MtR X id r) (ho : PE X o to) (ha : PA X (e :: es) t)
    (hbase : attributeBase o name X.env (eval o X.env) = eval o X.env := by rfl)
    (hfew : ((backTo cpos (starEach (e :: es) X.env)).all (fun x => !x.1) && (backToKw cpos (keywordEach [] X.env)).all (fun x => x.1.isSome) && decide ((e :: es).length + ([] : List Keyword).length + (if ([] : List Keyword).isEmpty then 0 else 1) < 30)) = true := by rfl)
    (hline : (apos.endLine == cpos.line) = true := by rfl) (hs : starEach (e :: es) X.env = (false, eval e X.env) :: starEach es X.env := by rfl) (hplain : (backTo cpos (starEach es X.env)).any (·.1) = false := by rfl) :
    PE X (.Call (.Attribute o name apos) (e :: es) [] cpos) (tBMT r to t) :=
  ⟨fun pins s σ H Q I h => wpAny_Call_method_late hbase hfew hline rfl (thn (ho.run pins s σ H _ I h) fun v s1 ⟨x, H1, I1, r1, ⟨p, o, xs, ex, hp, hd⟩, q1⟩ => by
    have hx := I1.hok p _ hp
    obtain ⟨k1, k2, us, k3, k4⟩ := hx
    have rx := r1
    subst ex
    obtain rfl : v = Value.ref p := r1
    refine ⟨"tuple", id, pa, slot, hty, Heap.IsTuple.typeIs k4, fun a ea => by cases ea; exact ⟨o, k1, hd⟩, ?_⟩
    have hA := ha.run cpos pins s1 σ H1 _ I1 q1
    rw [hs] at hA ⊢
    exact Calls.callWith_builtin (by show (false || (backTo cpos (starEach es X.env)).any (·.1)) = false; rw [hplain] <;> rfl) (Calls.evalArgs_plain (thn hA fun us s2 ⟨vs, H2, I2, r2, q2⟩ => hm pins s2 σ H2 _ vs _ us Q I2 rx r2 q2)))⟩
/-! ### d.items() of a new dict: it stays locked -/
def tLockR (td : TE) : TE := fun σ H Q => td σ H fun x H1 => ∃ d kvs, x = .ref d ∧ H1 d = some (.dK kvs) ∧ ∀ o, Q x (upd H1 d (.frz o (.dK kvs)))
theorem pe_lockR {e : Expr} {te : TE} (he : PE X e te) : PE X e (tLockR te) :=
  ⟨fun pins s σ H Q I h => thn (he.run pins s σ H _ I h) fun v s1 ⟨x, H1, I1, r1, d, kvs, ex, hd, q⟩ => by
    obtain ⟨od, I2⟩ := I1.lock hd trivial
    exact ⟨x, _, I2, r1, q od⟩⟩
end
/-! ### enumerate(tuple) -/
section
theorem meets_enumT {v : Value} {o : Obj} {H : Heap → Prop} (B : Begins v o H) :
    Meets (Builtin.«enumerate.__new__» ⟨[.type "enumerate", v], []⟩) (fun _ R s => H s.heap ∧
      R (.ok (.ret (.ref (s.heap.push o).objs.size))) { s with heap := (s.heap.push o).push { cls := .type "enumerate", data := .fields #[.none, .bool false, .ref s.heap.objs.size, rawInt 0, .none, .none] } }) :=
  .of_wp fun prog w A R s h => by
    obtain ⟨hp, g, d, tk, os⟩ := s
    obtain ⟨h1, h⟩ := h
    have k1 := sub_enumerate
    have it : ∀ {A' : Around} {E : Value → Shared → Prop} {Q : Value → Shared → Prop}, Q (.ref hp.objs.size) ⟨hp.push o, g, d, tk, os⟩ → wpAny (model prog w) A' (pyIter v) Q E ⟨hp, g, d, tk, os⟩ := fun q => B.iter _ _ _ _ _ _ h1 q
    wp_walk using it
    refine wpAny_stack_any fun st => wpAny_pure ?_
    split
    · rename_i c _ _ _ _ _
      cases (c == Value.type "enumerate") <;> (wp_walk using it) <;> exact ⟨_, rfl, h⟩
    · wp_walk using it
      exact ⟨_, rfl, h⟩
theorem call_enumT {prog : Program} {w : World} {A : Around} {E : Value → Shared → Prop} {s : Shared} {t : Addr} {items : Array Value} {Q : Value → Shared → Prop} (hL : s.heap.IsTuple t items)
    (h : ∀ h', IsEnum h' (s.heap.objs.size + 1) s.heap.objs.size 0 .none → h'.IsTupleIter s.heap.objs.size t 0 → (∀ b o, s.heap.get? b = some o → h'.get? b = some o) → Q (.ref (s.heap.objs.size + 1)) { s with heap := h' }) :
    wpAny (model prog w) A (call (.type "enumerate") [.ref t]) Q E s := by
  refine callType_new F.called_enumerate (by decide) (F.typeCall_enumerate_1 _) (F.newCall_enumerate_1 _) (fun obj => F.args_object_init_2 obj _) F.entry_enumerate_new (meets_enumT (begins_tuple t items)) ⟨hL, ?_⟩
  generalize ho : ({ cls := .type "tuple_iterator", data := .fields #[.ref t, .int 0 0] } : Obj) = o
  have fo : o.isFreed = false := by rw [← ho]; rfl
  have hz : (s.heap.push o).objs.size = s.heap.objs.size + 1 := Heap.size_push ..
  show _ ∧ _
  rw [hz]
  have he : IsEnum ((s.heap.push o).push { cls := .type "enumerate", data := .fields #[.none, .bool false, .ref s.heap.objs.size, rawInt 0, .none, .none] }) (s.heap.objs.size + 1) s.heap.objs.size 0 .none := by
    have k := Heap.get?_push_size (s.heap.push o) (o := { cls := .type "enumerate", data := .fields #[.none, .bool false, .ref s.heap.objs.size, rawInt 0, .none, .none] }) rfl
    rw [hz] at k
    exact k
  refine ⟨⟨_, he, rfl⟩, h _ he ⟨o, Heap.get?_push_of_some _ (Heap.get?_push_size _ fo), by rw [← ho], by rw [← ho]; rfl⟩ fun b u x => Heap.get?_push_of_some _ (Heap.get?_push_of_some _ x)⟩
/-- the tuple at a, each item in a new pair -/
def IteT (a : Addr) : It :=
  ⟨fun i H => ∃ (xs : List V) (x : V), Rd H a (.tup xs) ∧ xs[i]? = some x, fun i H v H' => ∃ T x, v = .ref T ∧ H T = none ∧ H' = upd H T (.tup [.int (i : Nat), x]) ∧ ∀ xs, Rd H a (.tup xs) → xs[i]? = some x, fun i H => ∃ xs : List V, Rd H a (.tup xs) ∧ xs.length ≤ i⟩
theorem rd_some {H : Hp} {a : Addr} {u : HO} (h : Rd H a u) : H a ≠ none := by
  rcases h with h | ⟨o, h⟩ <;> (rw [h]; intro z; cases z)
theorem turn_enumT {P : Program} {w : World} {K : Frag} {elts : List Expr} {kk : Nat} {tpos : Pos} (a e it : Addr) :
    Turn P w K (.Tuple elts kk tpos) (IteT a) [e, it] e (fun i h => (∃ old, IsEnum h e it ((i : Nat) : Int) old) ∧ h.IsTupleIter it a i ∧ e ≠ it) where
  mem := List.mem_cons_self
  obj := fun i h st b hb => by
    obtain ⟨⟨old, he⟩, ⟨o, ho, hc, hd⟩, _⟩ := st
    rcases List.mem_cons.mp hb with z | z
    · subst z
      exact ⟨_, he, fun v q => nomatch q⟩
    · cases List.mem_singleton.mp z
      exact ⟨o, ho, fun v q => by rw [hd] at q; cases q⟩
  keep := fun i h h' st k => ⟨let ⟨old, he⟩ := st.1; ⟨old, k e List.mem_cons_self _ he⟩, st.2.1.at fun o q => k it (List.mem_cons_of_mem _ List.mem_cons_self) o q, st.2.2⟩
  item := by
    rintro X rfl rfl rfl hc i pins s σ H E I hf ⟨⟨old, he⟩, hit, hne⟩ ⟨xs, x, hq, hx⟩
    obtain ⟨its, rv, p, hz⟩ := I.tuple (.inl hq)
    obtain ⟨u, hu, ru⟩ := rv.get hx
    have le := Heap.lt_size he
    have li : it < s.heap.objs.size := by
      obtain ⟨_, q, _⟩ := hit
      exact Heap.lt_size q
    have fe := hf e List.mem_cons_self
    have fi := hf it (List.mem_cons_of_mem _ List.mem_cons_self)
    have ne1 : a ≠ it := fun z => rd_some hq (z ▸ fi.1)
    have ne2 : a ≠ e := fun z => rd_some hq (z ▸ fe.1)
    have hi : i < its.toArray.size := by
      have := (List.getElem?_eq_some_iff.mp hu).1
      simpa using this
    have D := Draws.tuple (prog := X.prog) (w := X.w) (A := X.A.in1) (by show X.A.handled = none; exact I.ok.hd hc) it a ne1 its.toArray
    refine wpAny_pyNext_enum_itemD D he ⟨hit, p⟩ hi hne (fun z => by
      rcases List.mem_cons.mp z with z | z
      · exact hne z
      · exact ne2 (List.mem_singleton.mp z).symm) fun y h' tk hy ho hs' hT hsz hk => ?_
    have ey : y = u := by
      have h1 : its.toArray[i]? = some u := by simpa using hu
      rw [h1] at hy
      exact (Option.some.inj hy).symm
    subst ey
    refine ⟨_, rfl, wpAny_letOwnedTupleGo_enum (s := { s with heap := h', toks := tk + 1 }) ho fun h2 he2 sb => ?_⟩
    have hT2 : h2.get? s.heap.objs.size = some { cls := .type "tuple", data := .seq #[.int i tk, y] } := (sb.2 _ (Nat.ne_of_gt le)).trans hT
    have new : ObjOk X.prog X.w (upd H s.heap.objs.size (.tup [.int (i : Nat), x])) h2 s.heap.objs.size (.tup [.int (i : Nat), x]) :=
      ⟨by show 2 ≤ sizeLine; decide, [.int i tk, y], .cons ⟨_, rfl⟩ (.cons ru .nil), ⟨_, hT2, rfl, _, rfl⟩⟩
    have I1 := I.turnedNew (ch := [e, it]) (t' := tk + 1) (fun b ob hb q => (sb.2 b (fun z => hb (z ▸ List.mem_cons_self))).trans (hk b ob (fun z => hb (z ▸ List.mem_cons_self)) (fun z => hb (z ▸ List.mem_cons_of_mem _ List.mem_cons_self)) q)) hf (Nat.le_refl _) new
    refine ⟨.ref s.heap.objs.size, _, I1, rfl, ⟨_, x, rfl, I.hok.fresh (Nat.le_refl _), rfl, fun ys hy' => ?_⟩, ⟨⟨y, ?_⟩, hs'.1.at fun o q => (sb.2 it (Ne.symm hne)).trans q, hne⟩, fun b hb => ?_⟩
    · rw [I.tuple_inj (.inl hy') (.inl hq)]
      exact hx
    · have e1 : ((i + 1 : Nat) : Int) = (i : Int) + 1 := by omega
      rw [e1]
      exact he2
    · have hb' : b < s.heap.objs.size := by
        rcases List.mem_cons.mp hb with z | z
        · rw [z]; exact le
        · rw [List.mem_singleton.mp z]; exact li
      rw [upd_ne (Nat.ne_of_lt hb')]
      exact (hf b hb).1
  done := by
    rintro X rfl rfl rfl hc i pins s σ H E I hf ⟨⟨old, he⟩, hit, hne⟩ ⟨xs, hq, hx⟩
    obtain ⟨its, rv, p, hz⟩ := I.tuple (.inl hq)
    have fi := hf it (List.mem_cons_of_mem _ List.mem_cons_self)
    have ne1 : a ≠ it := fun z => rd_some hq (z ▸ fi.1)
    obtain ⟨f0, f1, f2, f3, f4, f5⟩ := fi
    have hl := rv.length
    have hT : s.TypeIs (.ref e) "enumerate" := ⟨_, he, rfl⟩
    unfold pyNext
    refine wpAny_bind (wpAny_attempt (wpAny_callSpecial?_slot (name := Str.ofString "__next__") hT F.slot_enumerate_next (wpAny_call_entry F.slot_enumerate_next hT F.entry_enumerate_next ?_ (F.args_enumerate_next_1 _))))
    show wpAny _ _ (field (.ref e) 2 >>= _) _ _ _
    refine wpAny_bind (wpAny_field he rfl (x := .ref it) rfl (wpAny_bind (wpAny_nextOf_tuple_end (by show X.A.handled = none; exact I.ok.hd hc) hit (show s.heap.IsTuple a its.toArray from p) (by simp; omega) fun h' x he' hx' => ?_)))
    obtain ⟨o, ho, hcl⟩ := hx'
    exact wpAny_bind (wpAny_isInstance (T := "StopIteration") (b := true) ⟨o, ho, hcl⟩ isSubtype_stop (wpAny_pure ⟨rfl, I.turned (t' := s.toks) (fun b o hb q => he' b o hb q) f0 f1 f3 f4 f5⟩))
  self := fun A i s Q E st h => let ⟨⟨_, he⟩, _⟩ := st; wpAny_pyIter_enum he h
def iEnumT (ta : TA) : TI := fun σ H R => ta σ H fun vs H1 => ∃ a xs, vs = [.ref a] ∧ Rd H1 a (.tup xs) ∧ R (IteT a) H1
theorem pi_enumT {X : Cx} {e : Expr} {ta : TA} {p pos tpos : Pos} {elts : List Expr} {kk : Nat} (hg : Gl X "enumerate") (hm : X.mg "enumerate" = none) (ha : PA X [e] ta) (hs : starEach [e] X.env = [(false, eval e X.env)] := by rfl) :
    PI X (.Tuple elts kk tpos) (.Call (.Name "enumerate" p) [e] [] pos) (iEnumT ta) :=
  ⟨fun pins s σ H R I h => Call_ (ld_blt I hg hm boot_enumerate (PyProof.Rows.callWith_type1 (thn (ha.run pos pins s σ H _ I h) fun us s1 ⟨vs, H1, I1, r1, a, xs, ex, hq, q⟩ => by
    subst ex
    obtain ⟨u, rfl, r⟩ := vals1 r1
    cases r
    obtain ⟨its, rv, p', hz⟩ := I1.tuple (.inl hq)
    refine call_enumT p' fun h' he hit hk => wpAny_pyIter_enum he ?_
    have I2 : Inv X pins σ H1 { s1 with heap := h' } := I1.kept (t' := s1.toks) hk
    refine ⟨s1.heap.objs.size + 1, [s1.heap.objs.size + 1, s1.heap.objs.size], _, _, H1, rfl, I2, turn_enumT a (s1.heap.objs.size + 1) s1.heap.objs.size, ⟨⟨.none, he⟩, hit, Nat.succ_ne_self _⟩, fun b hb => ?_, q⟩
    have hle : s1.heap.objs.size ≤ b := by
      rcases List.mem_cons.mp hb with z | z
      · rw [z]; exact Nat.le_add_right _ _
      · rw [List.mem_singleton.mp z]; exact Nat.le_refl _
    exact I1.fpOk hle (I1.hok.fresh hle)) hs rfl))⟩
theorem wk_enumT {Γ : List SV} {ta : TA} {ds : List PyData} (h : EvD ta Γ [.tuple ds]) : Wk Dl (iEnumT ta) Γ (enumD ds) := fun H0 F σ H R S q => h H0 F σ H _ S fun vs F1 H1 g1 d1 => by
  obtain ⟨v, rfl, d2⟩ := dqa1 d1
  obtain ⟨a, xs, rfl, h1, h2⟩ := dq_tup d2
  refine ⟨a, xs, rfl, rd_mono g1.ex h1, q _ F1 H1 g1 ⟨fun i F H e1 e2 hi => ?_, fun F H e1 e2 => ⟨xs, rd_mono e2 (rd_mono e1 h1), ?_⟩, fun i F H x H' d e1 e2 hd hy => ?_⟩⟩
  · rw [enumD_len] at hi
    obtain ⟨v, hv, _⟩ := h2.get (List.getElem?_eq_getElem hi)
    exact ⟨xs, v, rd_mono e2 (rd_mono e1 h1), hv⟩
  · rw [enumD_len, h2.len]
    exact Nat.le_refl _
  · obtain ⟨b, hb, rfl⟩ := enumD_at hd
    obtain ⟨T, x, rfl, hT, rfl, f1⟩ := hy
    obtain ⟨v, hv, hq⟩ := h2.get hb
    have q1 := f1 xs (rd_mono e2 (rd_mono e1 h1))
    rw [hv] at q1
    cases q1
    exact pair_new e2 hT (.int _) (hq.up e1)
end
end Ef
/-! Rules that the layer lacks: least items, a sorted tuple, sets of texts. -/
namespace Ef
open PySem PySem.Spec PyProof.Rows L2 PySem.W
/-! ### min of data -/
theorem readsAll_at {h : Heap} : ∀ {us : List Value} {ds : List PyData} {as : List Addr}, ReadsAll h us ds as → ∀ {i : Nat} {u : Value}, us[i]? = some u → ∃ d bs, ds[i]? = some d ∧ Reads h u d bs
  | _, _, _, .nil, i, u, e => by simp at e
  | _, _, _, .cons h1 t, 0, u, e => by
    simp only [List.getElem?_cons_zero, Option.some.injEq] at e
    subst e
    exact ⟨_, _, rfl, h1⟩
  | _, _, _, .cons h1 t, i + 1, u, e => by
    simp only [List.getElem?_cons_succ] at e ⊢
    exact readsAll_at t e
theorem vals_back : ∀ {xs : List V} {us : List Value}, Vals xs us → ∀ {i : Nat} {u : Value}, us[i]? = some u → ∃ x, xs[i]? = some x ∧ RelV x u
  | _, _, .nil, i, u, e => by simp at e
  | _, _, .cons h1 t, 0, u, e => by
    simp only [List.getElem?_cons_zero, Option.some.injEq] at e
    subst e
    exact ⟨_, rfl, h1⟩
  | _, _, .cons h1 t, i + 1, u, e => by
    simp only [List.getElem?_cons_succ] at e ⊢
    exact vals_back t e
def rMinD (K : Frag) : List V → Hp → VK → Prop := fun vs H Q => ∃ a xs d ds, vs = [.ref a] ∧ SqL K H a xs ∧ DpAll K H xs (d :: ds) ∧ AlikeAll (d :: ds) ∧ PyData.depthAll (d :: ds) ≤ 50 ∧ ∀ (i : Nat) x, xs[i]? = some x → (d :: ds)[i]? = some (minD d ds) → Q x H
def rMinDef (K : Frag) : List V → List V → Hp → VK → Prop := fun vs zs H Q => ∃ a xs ds z, vs = [.ref a] ∧ zs = [z] ∧ SqL K H a xs ∧ DpAll K H xs ds ∧ AlikeAll ds ∧ PyData.depthAll ds ≤ 50 ∧ (ds = [] → Q z H) ∧ ∀ (y : PyData) (ys : List PyData) (i : Nat) x, ds = y :: ys → xs[i]? = some x → ds[i]? = some (minD y ys) → Q x H
section
variable {X : Cx}
theorem cr_minD (hc : X.calm = true) (hu : X.A.units + 64 < cLine) : CallR X (.builtin "min") (rMinD X.K) := by
  rintro pins s σ H vs us Q I r ⟨a, xs, d, ds, rfl, hs, hd, ha, hz, q⟩
  obtain ⟨u, rfl, rx⟩ := vals1 r
  cases rx
  obtain ⟨its, rv, pl, _⟩ := I.list hs
  obtain ⟨as, hr⟩ := Dp.readsAll I _ _ _ hd rv
  refine min_list_data (I.ok.hd hc) pl.isList (by simpa using hr) ha (by omega) fun i v h' tk bs hi hrd hk => ?_
  have hi' : its[i]? = some v := by simpa using hi
  obtain ⟨x, hx, rvx⟩ := vals_back rv hi'
  obtain ⟨e, cs, he, hre⟩ := readsAll_at hr hi'
  obtain ⟨e2, _⟩ := reads_det (fun b o q _ => hk b o q) hre hrd
  exact ⟨x, H, I.kept hk, rvx, q i x hx (by rw [he, e2])⟩
theorem cr_minDef (hc : X.calm = true) (hu : X.A.units + 64 < cLine) : CallRK X (.builtin "min") [Str.ofString "default"] (rMinDef X.K) := by
  rintro pins s σ H vs zs us ws Q I r rz ⟨a, xs, ds, z, rfl, rfl, hs, hd, ha, hz, q0, q1⟩
  obtain ⟨u, rfl, rx⟩ := vals1 r
  obtain ⟨w, rfl, rw'⟩ := vals1 rz
  cases rx
  obtain ⟨its, rv, pl, _⟩ := I.list hs
  obtain ⟨as, hr⟩ := Dp.readsAll I _ _ _ hd rv
  refine min_list_default (I.ok.hd hc) pl.isList (by simpa using hr) ha (by omega) (fun e h' tk hk => ⟨z, H, I.kept hk, rw', q0 e⟩) fun y ys i v h' tk bs e hi hrd hk => ?_
  have hi' : its[i]? = some v := by simpa using hi
  obtain ⟨x, hx, rvx⟩ := vals_back rv hi'
  obtain ⟨f, cs, hf, hre⟩ := readsAll_at hr hi'
  obtain ⟨e2, _⟩ := reads_det (fun b o q _ => hk b o q) hre hrd
  exact ⟨x, H, I.kept hk, rvx, q1 y ys i x e hx (by rw [hf, e2])⟩
end
/-! ### sorted of a tuple of texts -/
section
variable {prog : Program} {w : World} {A : Around} {E : Value → Shared → Prop} {s : Shared}
theorem gatherT {l : Addr} {vs : List Value} {Q : List Value → Shared → Prop} (hh : A.handled = none) (hl : s.heap.IsTuple l vs.toArray) (hsz : vs.length ≤ sizeLine)
    (h : Q vs { s with heap := (s.heap.push (seqObj "list" #[] 0)).update s.heap.objs.size (Obj.mapSeq (· ++ vs.toArray)) }) : wpAny (model prog w) A (collect (.ref l)) Q E s := by
  obtain ⟨o, ho, hc, n, hd⟩ := hl
  have hn := Heap.get?_push_of_some (seqObj "list" #[] 0) ho
  unfold collect
  refine wpAny_bind (wpAny_runValue (codeAny_builtin entry_proto_collect' ?_))
  show wpAny _ _ (do again (.builtin "list.__iadd__" ⟨[← newList [], .ref l], []⟩)) _ _ s
  refine wpAny_bind (wpAny_newList (wpAny_pure ⟨Code.quiet_builtin _ (by decide +kernel), codeAny_builtin entry_list_iadd' ?_⟩))
  show wpAny _ _ (Builtin.List.listExtendWith (.ref s.heap.objs.size) (.ref l) (.ref s.heap.objs.size)) _ _ { s with heap := s.heap.push (seqObj "list" #[] 0) }
  unfold Builtin.List.listExtendWith
  refine wpAny_bind (wpAny_typeOf (T := "tuple") ⟨o, hn, hc⟩ ?_)
  rw [if_pos (by rw [show (Value.type "tuple" == Value.type "tuple") = true from rfl, Bool.or_true])]
  have hD : (s.heap.push (seqObj "list" #[] 0)).get? s.heap.objs.size = some (seqObj "list" #[] 0) := Heap.get?_push_size _ rfl
  refine wpAny_bind (listItems_at hn hd (wpAny_bind (listItems_at (xs := #[]) (n := 0) hD rfl ?_)))
  rw [if_neg (by simp)]
  refine wpAny_bind (listUpdate_at (xs := #[]) (n := 0) hD rfl (wpAny_pure ?_) (Nat.zero_le _) (by simp only [Array.size_append, List.size_toArray, List.length_nil]; omega))
  show wpAny (model prog w) A (load s.heap.objs.size >>= _) Q E _
  refine wpAny_bind (wpAny_load (get?_update_seq hD _) ?_)
  show wpAny _ _ (pure ((#[] : Array Value) ++ vs.toArray).toList) Q E _
  refine wpAny_pure ?_
  have e : ((#[] : Array Value) ++ vs.toArray).toList = vs := by simp
  rw [e]
  exact h
theorem sortedT {l : Addr} {vs : List Value} {ss : List Str} {Q : Value → Shared → Prop} (hh : A.handled = none) (hl : s.heap.IsTuple l vs.toArray) (hS : StrsAre vs ss) (h64 : vs.length < 64)
    (h : ∀ (out : Array Value) (ss' : List Str), StrsAre out.toList ss' → ss'.Perm ss → sortedS ss' = true → Q (.ref (s.heap.objs.size + 1)) { s with heap := sortedAll s.heap vs out }) :
    wpAny (model prog w) A (call (.builtin "sorted") [.ref l]) Q E s := by
  have hz : vs.length ≤ sizeLine := Nat.le_trans (Nat.le_of_lt h64) (by decide)
  refine Calls.call_function_entry kind_sorted plain_sorted entry_sorted (args_sorted1 _) ?_
  unfold Builtin.«sorted»
  refine wpAny_bind (m := checkCount "sorted" 1 1 _) (wpAny_pure (wpAny_bind (gatherT (by simpa using hh) hl hz (wpAny_bind (wpAny_newList ?_ hz)))))
  have e1 : ((s.heap.push (seqObj "list" #[] 0)).update s.heap.objs.size (Obj.mapSeq (· ++ vs.toArray))).objs.size = s.heap.objs.size + 1 := by rw [Heap.size_update, size_push']
  generalize hg : (s.heap.push (seqObj "list" #[] 0)).update s.heap.objs.size (Obj.mapSeq (· ++ vs.toArray)) = g at e1
  have e2 : (g.push (seqObj "list" vs.toArray 0)).get? (s.heap.objs.size + 1) = some (seqObj "list" vs.toArray 0) := by
    rw [← e1]
    exact Heap.get?_push_size _ rfl
  show wpAny _ _ _ _ _ { s with heap := g.push (seqObj "list" vs.toArray 0) }
  rw [e1]
  refine wpAny_bind (wpAny_holding (wpAny_call_entry slot_list_sort ⟨_, e2, rfl⟩ entry_list_sort (list_sort_treeK strKind_oneLt e2 hS.keysOf (fun v₁ v₂ rest e => keyKind_strs (by rw [← e]; exact hS)) h64 fun st' hp hs => ⟨_, rfl, ?_⟩) (args_list_sort _)))
  obtain ⟨ss', k1, k2, k3⟩ := sorted_out_str hS hp hs
  have hq := h _ ss' k1 k2 k3
  unfold sortedAll at hq
  rw [hg] at hq
  exact wpAny_pure ⟨_, rfl, hq⟩
end
def rSortedT (K : Frag) : List V → Hp → VK → Prop := fun vs H Q => ∃ (a : Addr) (xs : List Str), vs = [V.ref a] ∧ SqT K H a (xs.map V.str) ∧ xs.length < 64 ∧ ∀ (ys : List Str) (p : Addr), ys.Perm xs → sortedS ys = true → H p = none → Q (.ref p) (upd H p (.lst (ys.map V.str)))
theorem cr_sortedT {X : Cx} (hc : X.calm = true) : CallR X (.builtin "sorted") (rSortedT X.K) := by
  rintro pins s σ H vs us Q I r ⟨a, xs, rfl, hs, h64, q⟩
  obtain ⟨u, rfl, rx⟩ := vals1 r
  cases rx
  obtain ⟨its, rv, hl, _⟩ := I.tuple hs
  have e0 := rv.length
  rw [List.length_map] at e0
  refine sortedT (I.ok.hd hc) hl rv.strs (by omega) fun out ys h1 h2 h3 => ?_
  obtain ⟨ep, he'⟩ := sortedAll_at s.heap its out
  have e1 : (ys.map V.str).length ≤ sizeLine := by rw [List.length_map, h2.length_eq]; exact small64 h64
  exact ⟨.ref _, _, I.laid (t' := s.toks) (o := .lst (ys.map V.str)) (fun _ _ => sortedAll_old) (Nat.le_succ _) ⟨e1, out.toList, ep, vals_of_strs h1, he'⟩, rfl, q ys _ h2 h3 (I.hok.fresh (Nat.le_succ _))⟩
end Ef
set_option maxHeartbeats 8000000
/-! len(set(xs)), xs a list of texts that differ. -/
namespace Ef
open PySem PySem.Spec PyProof.Rows L2
def inTake (xs : List Str) (i : Nat) (k : Str) : Bool := (xs.take i).any (· == k)
theorem inTake_new {xs : List Str} (nd : xs.Nodup) {i : Nat} {x : Str} (h : xs[i]? = some x) : inTake xs i x = false := by
  unfold inTake
  rw [Bool.eq_false_iff]
  intro h1
  obtain ⟨y, hy, he⟩ := List.any_eq_true.mp h1
  have e : y = x := by simpa using he
  subst e
  obtain ⟨j, hj⟩ := List.mem_iff_getElem?.mp hy
  rw [List.getElem?_take] at hj
  split at hj
  · rename_i hlt
    have := nd_ix nd hj h
    omega
  · cases hj
theorem inTake_succ {xs : List Str} {i : Nat} {x : Str} (h : xs[i]? = some x) (k : Str) : inTake xs (i + 1) k = (inTake xs i k || decide (k = x)) := by
  unfold inTake
  rw [take_snoc h, List.any_append]
  congr 1
  simp only [List.any_cons, List.any_nil, Bool.or_false]
  by_cases e : k = x
  · subst e; simp
  · have : (x == k) = false := by simpa [beq_iff_eq] using fun z : x = k => e z.symm
    rw [this, decide_eq_false e]
section
variable {prog : Program} {w : World} {A : Around} {R : Result → Shared → Prop} {I : Addr} {fp wr : List Addr} {G : Array GenState → Array GenState → Prop} {n : Nat} {P : Nat → Value → Prop} {St : Nat → Shared → Prop}
theorem set_turns (W : WalksS prog w A.in1 I fp wr G n P St) (D : Addr) (hD : D ∉ fp) (xs : List Str) (hn : xs.length = n) (nd : xs.Nodup) (hb : n < scanBound) (hP : ∀ i v, P i v → ∃ t x, v = .str x t ∧ xs[i]? = some x) :
    ∀ (k i : Nat) (s : Shared), i + k = n → St i s → s.heap.SetOf (PySem.strKind prog w) D (inTake xs i) i →
      (∀ s', Moved (D :: wr) G s s' → s'.heap.SetOf (PySem.strKind prog w) D (inTake xs n) n → R (.ok (.ret .none)) s') → codeAny (model prog w) A (.builtin "set.update.loop" ⟨[.ref D, .ref I], []⟩) R s := by
  have hDw : D ∉ wr := fun h => hD (W.sub _ h)
  have up : ∀ b ∈ wr, b ∈ D :: wr := fun b h => List.mem_cons_of_mem _ h
  intro k
  induction k with
  | zero =>
    intro i s hk hst hS hR
    cases (show i = n by omega)
    refine codeAny_builtin PyProof.Rows.F.entry_set_update_loop ?_
    rw [Around.under_plainId PyProof.Rows.F.plain_set_update_loop _]
    show wpAny _ A.in1 (pyNext (.ref I) >>= _) _ _ s
    refine wpAny_bind (W.done s _ _ hst fun s' hm => ?_)
    show wpAny _ A.in1 (ret Value.none) _ _ s'
    obtain ⟨o, es, ep, t, ho, r⟩ := hS
    exact wpAny_pure (hR s' (hm.mono up) ⟨o, es, ep, t, hm.heap D _ hDw ho, r⟩)
  | succ k ih =>
    intro i s hk hst hS hR
    refine codeAny_builtin PyProof.Rows.F.entry_set_update_loop ?_
    rw [Around.under_plainId PyProof.Rows.F.plain_set_update_loop _]
    show wpAny _ A.in1 (pyNext (.ref I) >>= _) _ _ s
    refine wpAny_bind (W.item i s _ _ (by omega) hst fun v s' hv hst' hm => ?_)
    obtain ⟨t, x, rfl, hx⟩ := hP i v hv
    have hS' : s'.heap.SetOf (PySem.strKind prog w) D (inTake xs i) i := by
      obtain ⟨o, es, ep, tb, ho, r⟩ := hS
      exact ⟨o, es, ep, tb, hm.heap D _ hDw ho, r⟩
    show wpAny _ A.in1 (holding [Value.str x t] (setAdd D (.str x t)) >>= _) _ _ s'
    unfold setAdd
    refine wpAny_bind (wpAny_holding (wpAny_holding (wpAny_bind ((PySem.strKind prog w).pyHash (k := x) (strKind_is _ _ _ _) ?_))))
    refine wpAny_setAddHashed_of (knd := PySem.strKind prog w) (s := { s' with toks := s'.toks + 1 }) (strKind_is _ _ _ _) rfl hS' (by omega) fun h' sb hS2 => ?_
    rw [inTake_new nd hx, if_neg Bool.false_ne_true] at hS2
    have hS3 : h'.SetOf (PySem.strKind prog w) D (inTake xs (i + 1)) (i + 1) := SetOf_congr hS2 (fun k' => (inTake_succ hx k').symm) rfl
    refine wpAny_pure ⟨plainId_quiet PyProof.Rows.F.plain_set_update_loop _, ih (i + 1) _ (by omega) (W.frame _ s' _ _ hst' (Nat.le_succ _) fun b hb' o e => (sb.2 b (fun z => hD (z ▸ hb'))).trans e) hS3 fun s2 hm2 hS4 => hR s2 (Moved.trans W.gtrans ((hm.mono up).then_heap (Nat.le_succ _) fun b o hb' e => (sb.2 b (fun z => hb' (z ▸ List.mem_cons_self))).trans e) hm2) hS4⟩
end
section
variable {prog : Program} {w : World} {A : Around} {E : Value → Shared → Prop} {s : Shared}
theorem call_setS {l : Addr} {items : Array Value} {xs : List Str} {Q : Value → Shared → Prop} (hh : A.handled = none) (hl : s.heap.IsList l items) (hi : StrsAre items.toList xs) (nd : xs.Nodup) (hb : xs.length < scanBound)
    (h : ∀ (h' : Heap) (tk : Nat), h'.SetOf (PySem.strKind prog w) s.heap.objs.size (inTake xs items.size) items.size → (∀ b o, s.heap.get? b = some o → h'.get? b = some o) → Q (.ref s.heap.objs.size) { s with heap := h', toks := tk }) :
    wpAny (model prog w) A (call (.type "set") [.ref l]) Q E s := by
  have hlt : l < s.heap.objs.size := by
    obtain ⟨o, ho, _⟩ := hl
    exact Heap.lt_size ho
  obtain ⟨c, tl, hmro⟩ := PySem.F.called_set.mro
  have f1 := PySem.F.called_set.made
  have f2 := PySem.F.called_set.sub
  have f3 := PySem.F.called_set.notType
  have f4 := PySem.F.called_set.canCreate
  have f5 := PySem.F.typeCall_set_1 (.ref l)
  refine wpAny_call (codeAny_of_tree ?_)
  show wpAny _ _ (callAny (.type "set") _) _ _ _
  refine wpAny_pure ⟨Code.quiet_builtin _ (by decide +kernel), codeAny_builtin PySem.F.entry_type_call ?_⟩
  rw [Around.under_plain (weight_type_call_type "set" [.ref l] []) rfl]
  repeat (any_goals (first | assumption | wp_step))
  refine codeAny_mono (code_set_new_1 (.ref l) (E := E) (Q₁ := fun obj s₁ => ∃ led : Bool, obj = .ref s.heap.objs.size ∧ s₁ = { s with heap := s.heap.push { cls := .type "set", dict := none, data := .set #[] 0 (.fresh 0 0 led) } }) fun led => ⟨led, rfl, rfl⟩) fun r s₁ hr => ?_
  match r, hr with
  | .error e, hr => exact hr
  | .ok (.ret obj), hr =>
    obtain ⟨led, rfl, rfl⟩ := hr
    generalize hso : ({ cls := .type "set", dict := none, data := .set #[] 0 (.fresh 0 0 led) } : Obj) = so
    have fso : so.isFreed = false := by rw [← hso]; rfl
    have hget : (s.heap.push so).get? s.heap.objs.size = some so := Heap.get?_push_size _ fso
    have hT : Shared.TypeIs { s with heap := s.heap.push so } (.ref s.heap.objs.size) "set" := ⟨_, hget, by rw [← hso]⟩
    have f6 := PySem.F.called_set.init.lookup
    have f7 := PySem.F.called_set.init.bind (.ref s.heap.objs.size)
    repeat (any_goals (first | assumption | wp_step))
    refine codeAny_mono (codeAny_call_builtin (R := wants (fun r s₂ => r = .none ∧ ∃ h' tk, s₂ = { s with heap := h', toks := tk } ∧ h'.SetOf (PySem.strKind prog w) s.heap.objs.size (inTake xs items.size) items.size ∧ (∀ b o, s.heap.get? b = some o → h'.get? b = some o)) E) PySem.F.called_set.init.plain PySem.F.entry_set_init (check_set_init_1 hT ?_)) fun r₂ s₂ hr₂ => ?_
    · obtain ⟨⟨ocls, odict, odata, oslots⟩, hol, hcl, nl, hdl⟩ := hl
      have hcl' : ocls = .type "list" := hcl
      have hdl' : odata = .seq items nl := hdl
      subst hcl' hdl'
      have hol' := Heap.get?_push_of_some so hol
      have g1 := PySem.F.sub_list_set
      have g2 := PySem.F.sub_list_frozenset
      have g3 : (Value.type "list" == Value.type "dict") = false := by decide
      have hl1 : (s.heap.push so).IsList l items := ⟨_, hol', rfl, nl, rfl⟩
      have hsz : (s.heap.push so).objs.size = s.heap.objs.size + 1 := Heap.size_push ..
      subst hso
      unfold Builtin.«set.__init__» noKeywords Builtin.Frozenset.updateFrom
      generalize hPI : pyIter = PI
      wp_walk
      subst hPI
      refine wpAny_pyIter_list (l := l) (items := items) ?_ ?_
      · exact hl1
      refine wpAny_bind (wpAny_runValue ?_)
      refine set_turns ((Walks.list (by simp [hh]) _ l (by rw [hsz]; exact Nat.ne_of_lt (Nat.lt_succ_of_lt hlt)) items).toS) s.heap.objs.size ?nm xs ?xs nd ?sb ?vv items.size 0 _ (by omega) ⟨⟨_, Heap.get?_push_size _ rfl, rfl, rfl⟩, hl1.push _⟩ ?_ fun s' hm hS' => ?_
      case nm =>
        rw [hsz]
        intro hm
        rcases List.mem_cons.mp hm with e | e
        · exact absurd e (Nat.ne_of_lt (Nat.lt_succ_self _))
        · exact absurd (List.mem_singleton.mp e) (Nat.ne_of_gt hlt)
      case xs => rw [← StrsAre.len_eq hi, Array.length_toList]
      case sb => rw [← Array.length_toList, StrsAre.len_eq hi]; exact hb
      case vv =>
        intro i v hv
        have hv' : items.toList[i]? = some v := by rw [Array.getElem?_toList]; exact hv
        obtain ⟨x, hx, hr⟩ := vals_back (vals_of_strs hi) hv'
        rw [List.getElem?_map] at hx
        cases hxi : xs[i]? with
        | none =>
          rw [hxi] at hx
          cases hx
        | some y =>
          rw [hxi] at hx
          cases hx
          obtain ⟨t, ht⟩ := hr
          exact ⟨t, y, ht, rfl⟩
      · have := Heap.get?_push_of_some ({ cls := .type "list_iterator", data := .fields #[.ref l, .int 0 0] } : Obj) hget
        exact SetOf_congr ((setObjOf_fresh (knd := PySem.strKind prog w) led).setOf this (by unfold scanBound; omega)) (fun _ => rfl) rfl
      · obtain ⟨h', g', d', tk', os'⟩ := s'
        cases (show g' = s.gens from hm.gens)
        cases (show d' = s.drawn from hm.drawn)
        cases (show os' = s.os from hm.os)
        show wpAny _ _ _ _ _ _
        refine wpAny_pure ?_
        show wpAny _ _ (ret Value.none) _ _ _
        refine wpAny_pure ⟨rfl, h', tk', rfl, hS', fun b o e => ?_⟩
        have hbl := Heap.lt_size e
        refine hm.heap b o (fun hm' => ?_) (Heap.get?_push_of_some _ (Heap.get?_push_of_some _ e))
        rcases List.mem_cons.mp hm' with z | z
        · exact absurd z (Nat.ne_of_lt hbl)
        · have z2 := List.mem_singleton.mp z
          rw [hsz] at z2
          exact absurd z2 (Nat.ne_of_lt (Nat.lt_succ_of_lt hbl))
    · match r₂, hr₂ with
      | .error e, hr₂ => exact hr₂
      | .ok (.ret r), hr₂ =>
        obtain ⟨rfl, h', tk, rfl, hS', hk'⟩ := hr₂
        repeat (any_goals (first | assumption | wp_step))
        exact h _ _ hS' hk'
end
/-- len(set(xs)) -/
def tLenSetN (K : Frag) (ta : TE) : TE := fun σ H Q => ta σ H fun x H1 => ∃ l, ∃ xs : List Str, x = .ref l ∧ SqL K H1 l (xs.map V.str) ∧ xs.Nodup ∧ xs.length ≤ 1000 ∧ Q (.int xs.length) H1
theorem pe_lenSetN {X : Cx} {a : Expr} {ta : TE} {p p2 q pos : Pos} (hc : X.calm = true) (hg : Gl X "len") (hm : X.mg "len" = none) (hg2 : Gl X "set") (hm2 : X.mg "set" = none) (ha : PE X a ta)
    (na : starEach [a] X.env = (false, eval a X.env) :: starEach [] X.env := by rfl) : PE X (.Call (.Name "len" p) [.Call (.Name "set" p2) [a] [] q] [] pos) (tLenSetN X.K ta) :=
  ⟨fun pins s σ H Q I h => Call_ (ld_blt I hg hm boot_len (PyProof.Rows.callWith_builtin1 (PyProof.Rows.args_cons (Call_ (ld_blt I hg2 hm2 boot_set (PyProof.Rows.callWith_type1 (PyProof.Rows.args_cons (thn (ha.run pins s σ H _ I h) fun v s1 ⟨x, H1, I1, r1, l, xs, ex, hq, nd, hl, q1⟩ => PyProof.Rows.args_nil (by
    subst ex
    cases r1
    obtain ⟨its, r, pl, hz⟩ := I1.list hq
    have e0 : its.toArray.size = xs.length := by rw [List.size_toArray, ← r.length, List.length_map]
    refine call_setS (I1.ok.hd hc) pl.isList (by simpa using r.strs) nd (by unfold scanBound; omega) fun h' tk hS hk => PyProof.Rows.args_nil ?_
    rw [e0] at hS
    obtain ⟨o, es, ep, t, ho, hex, hd, _, _, _, hf, hn⟩ := hS
    have I2 : Inv X pins σ H1 { s1 with heap := h', toks := tk } := I1.kept hk
    exact call_len_set ho hex hd hf (by rw [hn]; omega) ⟨.int xs.length, H1, I2.tok _, ⟨_, by rw [hn]⟩, q1⟩)) na) na rfl))) rfl) rfl rfl))⟩
theorem e_lenSetN {K : Frag} {Γ : List SV} {ta : TE} {xs : List Str} (h : Ev ta Γ (.d (.list (xs.map .str)))) (nd : xs.Nodup) (hl : xs.length ≤ 1000) : Ev (tLenSetN K ta) Γ (.d (.int xs.length)) := fun H0 F σ H Q S q => h H0 F σ H _ S fun v F1 H1 g d => by
  obtain ⟨a, vs, rfl, h1, h2⟩ := dq_lst d
  have e := h2.strs
  subst e
  exact ⟨a, xs, rfl, sql g.ex h1, nd, hl, q _ F1 H1 g (.int _)⟩
end Ef
set_option maxHeartbeats 4000000
/-! Dicts, texts, more of what evaluates to what. -/
namespace Ef
open PySem PySem.Spec PyProof.Rows L2
/-! ### tables with text keys -/
section
variable {β γ : Type}
def valG (kvs : List (Str × β)) (s : Str) : Option β := (kvs.find? fun kv => decide (kv.1 = s)).map (·.2)
def putG (kvs : List (Str × β)) (s : Str) (d : β) : List (Str × β) := if (kvs.any fun kv => decide (kv.1 = s)) = true then kvs.map (fun kv => if kv.1 = s then (kv.1, d) else kv) else kvs ++ [(s, d)]
def dropG (kvs : List (Str × β)) (s : Str) : List (Str × β) := kvs.filter fun kv => decide (kv.1 ≠ s)
def mapG (f : β → γ) (kvs : List (Str × β)) : List (Str × γ) := kvs.map fun p => (p.1, f p.2)
@[simp] theorem valG_nil {s : Str} : valG ([] : List (Str × β)) s = none := rfl
theorem valG_cons {p : Str × β} {r : List (Str × β)} {s : Str} : valG (p :: r) s = if p.1 = s then some p.2 else valG r s := by
  unfold valG
  rw [List.find?_cons]
  by_cases h : p.1 = s <;> simp [h]
theorem valG_map (f : β → γ) (s : Str) : ∀ kvs : List (Str × β), valG (mapG f kvs) s = (valG kvs s).map f
  | [] => rfl
  | p :: r => by
    show valG ((p.1, f p.2) :: mapG f r) s = _
    rw [valG_cons, valG_cons, valG_map f s r]
    by_cases h : p.1 = s <;> simp [h]
theorem putG_map (f : β → γ) (s : Str) (d : β) (kvs : List (Str × β)) : putG (mapG f kvs) s (f d) = mapG f (putG kvs s d) := by
  unfold putG mapG
  rw [List.any_map]
  have e : ((fun kv : Str × γ => decide (kv.1 = s)) ∘ fun p : Str × β => (p.1, f p.2)) = fun kv : Str × β => decide (kv.1 = s) := rfl
  rw [e]
  split
  · rw [List.map_map, List.map_map]
    refine List.map_congr_left fun p _ => ?_
    by_cases h : p.1 = s <;> simp [h]
  · rw [List.map_append]
    rfl
theorem dropG_map (f : β → γ) (s : Str) : ∀ kvs : List (Str × β), dropG (mapG f kvs) s = mapG f (dropG kvs s)
  | [] => rfl
  | p :: r => by
    have ih := dropG_map f s r
    unfold dropG mapG at ih ⊢
    rw [List.map_cons, List.filter_cons, List.filter_cons, ih]
    by_cases h : p.1 = s <;> simp [h]
theorem valG_put {kvs : List (Str × β)} {s : Str} {d : β} (t : Str) : valG (putG kvs s d) t = if s = t then some d else valG kvs t := by
  have none_of : ∀ {kvs : List (Str × β)}, (kvs.any fun kv => decide (kv.1 = s)) = false → valG kvs s = none := by
    intro kvs h
    induction kvs with
    | nil => rfl
    | cons p r ih =>
      rw [List.any_cons, Bool.or_eq_false_iff] at h
      rw [valG_cons, if_neg (by simpa using h.1), ih h.2]
  unfold putG
  split
  · rename_i h
    induction kvs with
    | nil => simp at h
    | cons p r ih =>
      rw [List.map_cons, valG_cons, valG_cons]
      by_cases hp : p.1 = s
      · simp only [hp, if_true]
        by_cases hst : s = t
        · simp [hst]
        · simp only [hst, if_false]
          by_cases ha : (r.any fun kv => decide (kv.1 = s)) = true
          · have := ih ha
            rw [if_neg hst] at this
            exact this
          · have e : r.map (fun kv => if kv.1 = s then (kv.1, d) else kv) = r := by
              refine (List.map_congr_left (g := id) fun q hq => ?_).trans (List.map_id _)
              by_cases hq1 : q.1 = s
              · exact absurd (List.any_eq_true.mpr ⟨q, hq, by simpa using hq1⟩) ha
              · simp [hq1]
            rw [e]
      · simp only [hp, if_false]
        have ha : (r.any fun kv => decide (kv.1 = s)) = true := by
          rw [List.any_cons] at h
          simpa [hp] using h
        rw [ih ha]
        by_cases hpt : p.1 = t
        · have : ¬ s = t := fun e => hp (by rw [hpt, e])
          simp [hpt, this]
        · simp [hpt]
  · rename_i h
    have h' : (kvs.any fun kv => decide (kv.1 = s)) = false := eq_false_of_ne_true h
    have hn := none_of h'
    clear h h'
    induction kvs with
    | nil =>
      rw [List.nil_append, valG_cons]
    | cons p r ih =>
      rw [valG_cons] at hn
      by_cases hp : p.1 = s
      · rw [if_pos hp] at hn
        cases hn
      · rw [if_neg hp] at hn
        rw [List.cons_append, valG_cons, valG_cons, ih hn]
        by_cases hpt : p.1 = t
        · have : ¬ s = t := fun e => hp (by rw [hpt, e])
          simp [hpt, this]
        · simp [hpt]
theorem valG_drop {kvs : List (Str × β)} {s : Str} (t : Str) : valG (dropG kvs s) t = if s = t then none else valG kvs t := by
  induction kvs with
  | nil => simp [dropG]
  | cons p r ih =>
    unfold dropG at ih ⊢
    rw [List.filter_cons]
    by_cases hp : p.1 = s
    · simp only [hp, ne_eq, not_true_eq_false, decide_false, Bool.false_eq_true, if_false]
      rw [ih, valG_cons]
      by_cases hst : s = t <;> simp [hst, hp]
    · simp only [hp, ne_eq, not_false_eq_true, decide_true, if_true]
      rw [valG_cons, valG_cons, ih]
      by_cases hpt : p.1 = t
      · have : ¬ s = t := fun e => hp (by rw [hpt, e])
        simp [hpt, this]
      · simp [hpt]
theorem putG_len {kvs : List (Str × β)} {s : Str} {d : β} : (putG kvs s d).length ≤ kvs.length + 1 := by
  unfold putG
  split
  · rw [List.length_map]; omega
  · rw [List.length_append]; exact Nat.le_refl _
end
/-! ### the tables of the heap -/
theorem kvq_val {F : Hp} {s : Str} : ∀ {vs : List (Key × V)} {ks : List (Str × PyData)}, KVq F vs ks → (∀ d, valG ks s = some d → ∃ v, valV vs (.inr s) = some v ∧ Dq F v d) ∧ (valG ks s = none → valV vs (.inr s) = none)
  | _, _, .nil => ⟨fun d h => by simp at h, fun _ => rfl⟩
  | _, _, .cons (a := ⟨x, v⟩) (b := ⟨y, e⟩) h1 t => by
    obtain ⟨e1, e2⟩ := h1
    (try dsimp only at e1 e2)
    subst e1
    have ih := kvq_val (s := s) t
    rw [valG_cons]
    by_cases hy : y = s
    · subst hy
      rw [if_pos rfl]
      refine ⟨fun d h => ⟨v, valV_pos rfl, ?_⟩, fun h => by cases h⟩
      cases h
      exact e2
    · rw [if_neg hy, valV_neg (by intro z; exact hy (Sum.inr.inj z))]
      exact ih
theorem kvq_any {F : Hp} {s : Str} : ∀ {vs : List (Key × V)} {ks : List (Str × PyData)}, KVq F vs ks → (vs.any fun kv => decide (kv.1 = Sum.inr s)) = (ks.any fun kv => decide (kv.1 = s))
  | _, _, .nil => rfl
  | _, _, .cons (a := ⟨x, v⟩) (b := ⟨y, e⟩) h1 t => by
    obtain ⟨e1, e2⟩ := h1
    (try dsimp only at e1 e2)
    subst e1
    rw [List.any_cons, List.any_cons, kvq_any t]
    congr 1
    by_cases hy : y = s
    · simp [hy]
    · have hy' : ¬ ((Sum.inr y : Key) = Sum.inr s) := fun z => hy (Sum.inr.inj z)
      show decide ((Sum.inr y : Key) = Sum.inr s) = decide (y = s)
      rw [decide_eq_false hy', decide_eq_false hy]
theorem kvq_snoc {F : Hp} {s : Str} {v : V} {d : PyData} (hd : Dq F v d) : ∀ {vs : List (Key × V)} {ks : List (Str × PyData)}, KVq F vs ks → KVq F (vs ++ [(.inr s, v)]) (ks ++ [(s, d)])
  | _, _, .nil => .cons ⟨rfl, hd⟩ .nil
  | _, _, .cons h t => .cons h (kvq_snoc hd t)
theorem kvq_map {F : Hp} {s : Str} {v : V} {d : PyData} (hd : Dq F v d) : ∀ {vs : List (Key × V)} {ks : List (Str × PyData)}, KVq F vs ks → KVq F (vs.map fun kv => if kv.1 = Sum.inr s then (kv.1, v) else kv) (ks.map fun kv => if kv.1 = s then (kv.1, d) else kv)
  | _, _, .nil => .nil
  | _, _, .cons (a := ⟨x, u⟩) (b := ⟨y, e⟩) h1 t => by
    obtain ⟨e1, e2⟩ := h1
    (try dsimp only at e1 e2)
    subst e1
    refine .cons ?_ (kvq_map hd t)
    by_cases hy : y = s
    · subst hy
      show (if (Sum.inr y : Key) = Sum.inr y then ((Sum.inr y : Key), v) else (Sum.inr y, u)).1 = Sum.inr (if y = y then (y, d) else (y, e)).1 ∧ Dq F (if (Sum.inr y : Key) = Sum.inr y then ((Sum.inr y : Key), v) else (Sum.inr y, u)).2 (if y = y then (y, d) else (y, e)).2
      rw [if_pos rfl, if_pos rfl]
      exact ⟨rfl, hd⟩
    · have hy' : ¬ ((Sum.inr y : Key) = Sum.inr s) := fun z => hy (Sum.inr.inj z)
      show (if (Sum.inr y : Key) = Sum.inr s then ((Sum.inr y : Key), v) else (Sum.inr y, u)).1 = Sum.inr (if y = s then (y, d) else (y, e)).1 ∧ Dq F (if (Sum.inr y : Key) = Sum.inr s then ((Sum.inr y : Key), v) else (Sum.inr y, u)).2 (if y = s then (y, d) else (y, e)).2
      rw [if_neg hy', if_neg hy]
      exact ⟨rfl, e2⟩
theorem kvq_put {F : Hp} {s : Str} {v : V} {d : PyData} {vs : List (Key × V)} {ks : List (Str × PyData)} (h : KVq F vs ks) (hd : Dq F v d) : KVq F (putK vs (.inr s) v) (putG ks s d) := by
  unfold putK putG
  rw [kvq_any h]
  split
  · exact kvq_map hd h
  · exact kvq_snoc hd h
theorem kvq_drop {F : Hp} {s : Str} : ∀ {vs : List (Key × V)} {ks : List (Str × PyData)}, KVq F vs ks → KVq F (dropK vs (.inr s)) (dropG ks s)
  | _, _, .nil => .nil
  | _, _, .cons (a := ⟨x, u⟩) (b := ⟨y, e⟩) h1 t => by
    obtain ⟨e1, e2⟩ := h1
    (try dsimp only at e1 e2)
    subst e1
    have ih := kvq_drop (s := s) t
    unfold dropK dropG at ih ⊢
    rw [List.filter_cons, List.filter_cons]
    by_cases hy : y = s
    · subst hy
      rw [if_neg (by simp), if_neg (by simp)]
      exact ih
    · have hy' : ¬ ((Sum.inr y : Key) = Sum.inr s) := fun z => hy (Sum.inr.inj z)
      rw [if_pos (by simpa using hy'), if_pos (by simpa using hy)]
      exact .cons ⟨rfl, e2⟩ ih
/-! ### dicts read -/
def EvK (te : TE) (Γ : List SV) (kvs : List (Str × PyData)) : Prop := ∀ (H0 F : Hp) (σ : L2.St) (H : Hp) (Q : VK), SatF H0 F Γ σ H → (∀ a vs F' H', Gr F H F' H' → H' a = some (.dK vs) → KVq F' vs kvs → Q (.ref a) H') → te σ H Q
section
variable {K : Frag} {Γ : List SV} {ta tb tc td te ty tx : TE} {x y z d : PyData} {s : Str} {kvs : List (Str × PyData)}
theorem k_own {n : Nat} (h : Γ[n]? = some (.md kvs)) : EvK (tVar n) Γ kvs := fun H0 F σ H Q S q => by
  obtain ⟨a, vs, h1, h2, h3, h4, h5⟩ := S.slot n _ h
  exact ⟨_, h1, q a vs F H (Gr.refl S.ex) h4 h5⟩
theorem k_dic (h : Ev te Γ (.dic kvs)) : EvK te Γ kvs := fun H0 F σ H Q S q => h H0 F σ H _ S fun v F1 H1 g ⟨a, vs, e, h1, h2⟩ => by
  subst e
  exact q a vs F1 H1 g (g.ex _ _ h1) h2
theorem k_md (h : Ev te Γ (.md kvs)) : EvK te Γ kvs := fun H0 F σ H Q S q => h H0 F σ H _ S fun v F1 H1 g ⟨a, vs, e, h1, h2, h3, h4⟩ => by
  subst e
  exact q a vs F1 H1 g h3 h4
theorem e_dget (hd : EvK td Γ kvs) (hy : Ev ty Γ (.d (.str s))) (hv : valG kvs s = some d) : Ev (tDGet td ty) Γ (.d d) := fun H0 F σ H Q S q => hd H0 F σ H _ S fun a vs F1 H1 g1 ha hk => hy H0 F1 σ H1 _ (S.grow g1) fun v F2 H2 g2 d2 => by
  cases d2
  obtain ⟨v, h1, h2⟩ := (kvq_val (s := s) (KVq.up g2.f hk)).1 d hv
  exact ⟨a, v, rfl, .inl ⟨vs, .inr s, .inl (g2.h _ _ ha), rfl, h1.symm⟩, q v F2 H2 (g1.trans g2) h2⟩
theorem din_core {vs : List (Key × V)} {F : Hp} (hk : KVq F vs kvs) : (valV vs (.inr s)).isSome = (valG kvs s).isSome := by
  cases h : valG kvs s with
  | none => rw [(kvq_val hk).2 h]; rfl
  | some d =>
    obtain ⟨v, h1, _⟩ := (kvq_val (s := s) hk).1 d h
    rw [h1]
    rfl
theorem e_din (hy : Ev ty Γ (.d (.str s))) (hd : EvK td Γ kvs) : Ev (tDIn ty td) Γ (.d (.bool (valG kvs s).isSome)) := fun H0 F σ H Q S q => hy H0 F σ H _ S fun v F1 H1 g1 d1 => hd H0 F1 σ H1 _ (S.grow g1) fun a vs F2 H2 g2 ha hk => by
  cases d1
  refine ⟨a, _, rfl, .inl ⟨vs, .inr s, .inl ha, rfl, rfl⟩, ?_⟩
  rw [din_core hk]
  exact q _ F2 H2 (g1.trans g2) (.bl _)
theorem e_dnotin (hy : Ev ty Γ (.d (.str s))) (hd : EvK td Γ kvs) : Ev (tDNotIn ty td) Γ (.d (.bool (!(valG kvs s).isSome))) := fun H0 F σ H Q S q => hy H0 F σ H _ S fun v F1 H1 g1 d1 => hd H0 F1 σ H1 _ (S.grow g1) fun a vs F2 H2 g2 ha hk => by
  cases d1
  refine ⟨a, _, rfl, .inl ⟨vs, .inr s, .inl ha, rfl, rfl⟩, ?_⟩
  rw [din_core hk]
  exact q _ F2 H2 (g1.trans g2) (.bl _)
theorem e_dget1 (hd : EvK td Γ kvs) (hy : Ev ty Γ (.d (.str s))) : Ev (tDGet1 td ty) Γ (.d ((valG kvs s).getD .none)) := fun H0 F σ H Q S q => hd H0 F σ H _ S fun a vs F1 H1 g1 ha hk => ⟨a, rfl, .inl ⟨vs, .inl ha⟩, hy H0 F1 σ H1 _ (S.grow g1) fun v F2 H2 g2 d2 => by
  cases d2
  refine ⟨_, .inl ⟨vs, .inr s, .inl (g2.h _ _ ha), rfl, rfl⟩, q _ F2 H2 (g1.trans g2) ?_⟩
  have hk2 := KVq.up g2.f hk
  cases h : valG kvs s with
  | none =>
    rw [(kvq_val hk2).2 h]
    exact .non
  | some e =>
    obtain ⟨v, h1, h2⟩ := (kvq_val (s := s) hk2).1 e h
    rw [h1]
    exact h2⟩
theorem e_dget2 (hd : EvK td Γ kvs) (hy : Ev ty Γ (.d (.str s))) (hx : Ev tx Γ (.d x)) : Ev (tDGet2 td ty tx) Γ (.d ((valG kvs s).getD x)) := fun H0 F σ H Q S q => hd H0 F σ H _ S fun a vs F1 H1 g1 ha hk => ⟨a, rfl, .inl ⟨vs, .inl ha⟩, hy H0 F1 σ H1 _ (S.grow g1) fun v F2 H2 g2 d2 => by
  cases d2
  refine hx H0 F2 σ H2 _ ((S.grow g1).grow g2) fun w F3 H3 g3 d3 => ?_
  have g23 := g2.trans g3
  refine ⟨_, .inl ⟨vs, .inr s, .inl (g23.h _ _ ha), rfl, rfl⟩, q _ F3 H3 (g1.trans g23) ?_⟩
  have hk2 := KVq.up g23.f hk
  cases h : valG kvs s with
  | none =>
    rw [(kvq_val hk2).2 h]
    exact d3
  | some e =>
    obtain ⟨v, h1, h2⟩ := (kvq_val (s := s) hk2).1 e h
    rw [h1]
    exact h2⟩
theorem et_truthK {n : Nat} (hn : Γ[n]? = some (.md kvs)) : EvT (fun σ H Q => tVar n σ H fun x H' => ∃ k, TruV K x H' k ∧ Q k H') Γ (!kvs.isEmpty) := fun H0 F σ H Q S q => by
  obtain ⟨a, vs, h1, h2, h3, h4, h5⟩ := S.slot n _ hn
  refine ⟨_, h1, !vs.isEmpty, .inr (.inr ⟨vs, h4, rfl⟩), ?_⟩
  have e : vs.isEmpty = kvs.isEmpty := by cases h5 <;> rfl
  rw [e]
  exact q F H (Gr.refl S.ex)
/-! ### texts -/
theorem rq_adds {r1 r2 : Str} (hl : r1.length + r2.length ≤ sizeLine) : Rq (fun x y H Q => ∃ i j, x = .str i ∧ y = .str j ∧ i.length + j.length ≤ sizeLine ∧ Q (.str (i ++ j)) H) (.str r1) (.str r2) (.d (.str (r1 ++ r2))) := fun F H vx vy Q e dx dy q => by
  cases dx
  cases dy
  exact ⟨r1, r2, rfl, rfl, hl, q _ F H (Gr.refl e) (.str _)⟩
theorem e_adds {r1 r2 : Str} (ha : Ev ta Γ (.d (.str r1))) (hb : Ev tb Γ (.d (.str r2))) (hl : r1.length + r2.length ≤ sizeLine) : Ev (tOp (fun x y H Q => ∃ i j, x = .str i ∧ y = .str j ∧ i.length + j.length ≤ sizeLine ∧ Q (.str (i ++ j)) H) ta tb) Γ (.d (.str (r1 ++ r2))) := e_op ha hb (rq_adds hl)
theorem e_slS {tl th : TO} {lo hi : Option Int} (h : Ev te Γ (.d (.str s))) (h1 : EvO tl Γ lo) (h2 : EvO th Γ hi) (hl : s.length ≤ sizeLine) : Ev (tSl rSlS te tl th) Γ (.d (.str (cutS s lo hi))) := fun H0 F σ H Q S q =>
  h H0 F σ H _ S fun v F1 H1 g1 d1 => h1 H0 F1 σ H1 _ (S.grow g1) fun F2 H2 g2 => h2 H0 F2 σ H2 _ (S.grow (g1.trans g2)) fun F3 H3 g3 => by
    cases d1
    exact ⟨s, rfl, hl, q _ F3 H3 (g1.trans (g2.trans g3)) (.str _)⟩
theorem e_join {s : Str} {ys : List Str} (h : Ev ta Γ (.d (.str s))) (hy : Ev tb Γ (.d (.list (ys.map .str)))) (hl : (ys.map (·.length)).sum + ys.length * s.length ≤ 16777216) : Ev (tM1 (fun x xs H Q => ∃ a p, ∃ ys : List Str, x = .str a ∧ xs = [.ref p] ∧ (SqL K H p (ys.map V.str) ∨ SqT K H p (ys.map V.str)) ∧
      (ys.map (·.length)).sum + ys.length * a.length ≤ 16777216 ∧ Q (.str (Txt.join a ys)) H) ta tb) Γ (.d (.str (Txt.join s ys))) := fun H0 F σ H Q S q =>
  h H0 F σ H _ S fun v F1 H1 g1 d1 => ⟨⟨s, dq_str d1⟩, hy H0 F1 σ H1 _ (S.grow g1) fun w F2 H2 g2 d2 => by
    cases d1
    obtain ⟨a, xs, rfl, h1, h2⟩ := dq_lst d2
    have := h2.strs
    subst this
    exact ⟨s, a, ys, rfl, rfl, .inl (sql g2.ex h1), hl, q _ F2 H2 (g1.trans g2) (.str _)⟩⟩
theorem e_inSign {c : Nat} {w : Str} (ha : Ev ta Γ (.d (.str ⟨#[c]⟩))) (hb : Ev tb Γ (.d (.str w))) : Ev (tOp (fun x y H Q => ∃ (c : Nat) (z : Str), x = .str ⟨#[c]⟩ ∧ y = .str z ∧ Q (.bl (decide (c ∈ z.cps.toList))) H) ta tb) Γ (.d (.bool (decide (c ∈ w.cps.toList)))) := e_op ha hb fun F H vx vy Q e dx dy q => by
  cases dx
  cases dy
  exact ⟨c, w, rfl, rfl, q _ F H (Gr.refl e) (.bl _)⟩
theorem inV_strs {s : Str} : ∀ xs : List Str, inV (.str s) (xs.map V.str) = decide (s ∈ xs)
  | [] => rfl
  | x :: xs => by
    show ((x == s) || inV (.str s) (xs.map V.str)) = _
    rw [inV_strs xs]
    by_cases h : x = s
    · subst h; simp
    · have : ¬ s = x := fun e => h e.symm
      by_cases h2 : s ∈ xs <;> simp [h, this, h2]
theorem flat_strs (xs : List Str) : (xs.map V.str).all flatV = true := by
  rw [List.all_map]
  exact List.all_eq_true.mpr fun _ _ => rfl
theorem e_inT {s : Str} {xs : List Str} (ha : Ev ta Γ (.d (.str s))) (hb : Ev tb Γ (.d (.tuple (xs.map .str)))) : Ev (tOp (rIn K false) ta tb) Γ (.d (.bool (decide (s ∈ xs)))) := e_op ha hb fun F H vx vy Q e dx dy q => by
  cases dx
  obtain ⟨a, ys, rfl, h1, h2⟩ := dq_tup dy
  have := h2.strs
  subst this
  exact ⟨a, _, rfl, .inr (sqt e h1), rfl, flat_strs xs, q _ F H (Gr.refl e) (by rw [if_neg (by simp), inV_strs]; exact .bl _)⟩
theorem e_notInT {s : Str} {xs : List Str} (ha : Ev ta Γ (.d (.str s))) (hb : Ev tb Γ (.d (.tuple (xs.map .str)))) : Ev (tOp (rIn K true) ta tb) Γ (.d (.bool (!decide (s ∈ xs)))) := e_op ha hb fun F H vx vy Q e dx dy q => by
  cases dx
  obtain ⟨a, ys, rfl, h1, h2⟩ := dq_tup dy
  have := h2.strs
  subst this
  exact ⟨a, _, rfl, .inr (sqt e h1), rfl, flat_strs xs, q _ F H (Gr.refl e) (by rw [if_pos rfl, inV_strs]; exact .bl _)⟩
theorem e_inL {s : Str} {xs : List Str} (ha : Ev ta Γ (.d (.str s))) (hb : Ev tb Γ (.d (.list (xs.map .str)))) : Ev (tOp (rIn K false) ta tb) Γ (.d (.bool (decide (s ∈ xs)))) := e_op ha hb fun F H vx vy Q e dx dy q => by
  cases dx
  obtain ⟨a, ys, rfl, h1, h2⟩ := dq_lst dy
  have := h2.strs
  subst this
  exact ⟨a, _, rfl, .inl (sql e h1), rfl, flat_strs xs, q _ F H (Gr.refl e) (by rw [if_neg (by simp), inV_strs]; exact .bl _)⟩
/-! ### == of data -/
theorem e_inD {ds : List PyData} (ha : Ev ta Γ (.d x)) (hb : Ev tb Γ (.d (.list ds))) (h1 : SeqAt.shaped x = true) (h2 : SeqAt.shaped (.list ds) = true) : Ev (tOp (rInD K) ta tb) Γ (.d (.bool (ds.any fun z => PyData.eqv z x))) := e_op ha hb fun F H vx vy Q e dx dy q =>
  ⟨x, ds, (dx.up e).dp, (dy.up e).dp, h1, h2, q _ F H (Gr.refl e) (.bl _)⟩
theorem e_notInD {ds : List PyData} (ha : Ev ta Γ (.d x)) (hb : Ev tb Γ (.d (.list ds))) (h1 : SeqAt.shaped x = true) (h2 : SeqAt.shaped (.list ds) = true) : Ev (tOp (rNotInD K) ta tb) Γ (.d (.bool (!ds.any fun z => PyData.eqv z x))) := e_op ha hb fun F H vx vy Q e dx dy q =>
  ⟨x, ds, (dx.up e).dp, (dy.up e).dp, h1, h2, q _ F H (Gr.refl e) (.bl _)⟩
theorem e_neD (ha : Ev ta Γ (.d x)) (hb : Ev tb Γ (.d y)) (h1 : SeqAt.shaped x = true) (h2 : SeqAt.shaped y = true) : Ev (tOp (rNeD K) ta tb) Γ (.d (.bool (!PyData.eqv x y))) := e_op ha hb fun F H vx vy Q e dx dy q =>
  ⟨x, y, (dx.up e).dp, (dy.up e).dp, h1, h2, q _ F H (Gr.refl e) (.bl _)⟩
/-! ### list + list -/
/-- a new list and one's own or a new one -/
theorem e_cat {ds es : List PyData} (ha : Ev ta Γ (.ml ds)) (hb : Ev tb Γ (.ml es)) (hl : ds.length + es.length ≤ sizeLine) : Ev (tOp rCat ta tb) Γ (.ml (ds ++ es)) := fun H0 F σ H Q S q =>
  ha H0 F σ H _ S fun v F1 H1 g1 ⟨a, vs, e1, h1, h2, h3, h4⟩ => hb H0 F1 σ H1 _ (S.grow g1) fun w F2 H2 g2 ⟨b, ws, e2, k1, k2, k3, k4⟩ => by
    have g := g1.trans g2
    refine ⟨a, b, vs, ws, e1, e2, g2.h _ _ h3, k3, by rw [h4.len, k4.len]; exact hl, fun p hp => q _ F2 _ (g.trans (Gr.newM g.ex hp)) ⟨p, _, rfl, g.h.free hp, g.ex.free hp, upd_same, (h4.up g2.f).append k4⟩⟩
/-- one's own list and a new one -/
theorem e_catO {n : Nat} {ds es : List PyData} (hn : Γ[n]? = some (.ml ds)) (hb : Ev tb Γ (.ml es)) (hl : ds.length + es.length ≤ sizeLine) : Ev (tOp rCat (tVar n) tb) Γ (.ml (ds ++ es)) := fun H0 F σ H Q S q => by
  obtain ⟨a, vs, h1, h2, h3, h4, h5⟩ := S.slot n _ hn
  refine ⟨_, h1, hb H0 F σ H _ S fun w F2 H2 g ⟨b, ws, e2, k1, k2, k3, k4⟩ => ?_⟩
  exact ⟨a, b, vs, ws, rfl, e2, g.h _ _ h4, k3, by rw [h5.len, k4.len]; exact hl, fun p hp => q _ F2 _ (g.trans (Gr.newM g.ex hp)) ⟨p, _, rfl, g.h.free hp, g.ex.free hp, upd_same, (h5.up g.f).append k4⟩⟩
/-- one's own list and a datum -/
theorem e_catD {n : Nat} {ds es : List PyData} (hn : Γ[n]? = some (.ml ds)) (hb : Ev tb Γ (.d (.list es))) (hl : ds.length + es.length ≤ sizeLine) : Ev (tOp rCat (tVar n) tb) Γ (.ml (ds ++ es)) := fun H0 F σ H Q S q => by
  obtain ⟨a, vs, h1, h2, h3, h4, h5⟩ := S.slot n _ hn
  refine ⟨_, h1, hb H0 F σ H _ S fun w F2 H2 g d2 => ?_⟩
  obtain ⟨b, ws, e2, k3, k4⟩ := dq_lstP d2
  exact ⟨a, b, vs, ws, rfl, e2, g.h _ _ h4, g.ex _ _ k3, by rw [h5.len, k4.len]; exact hl, fun p hp => q _ F2 _ (g.trans (Gr.newM g.ex hp)) ⟨p, _, rfl, g.h.free hp, g.ex.free hp, upd_same, (h5.up g.f).append k4⟩⟩
/-- a new list and a new list that is known no more as new -/
theorem e_catDD {ds es : List PyData} (ha : Ev ta Γ (.d (.list ds))) (hb : Ev tb Γ (.d (.list es))) (hl : ds.length + es.length ≤ sizeLine) : Ev (tOp rCat ta tb) Γ (.ml (ds ++ es)) := fun H0 F σ H Q S q =>
  ha H0 F σ H _ S fun v F1 H1 g1 d1 => hb H0 F1 σ H1 _ (S.grow g1) fun w F2 H2 g2 d2 => by
    obtain ⟨a, vs, e1, h3, h4⟩ := dq_lstP (Dq.up d1 g2.f)
    obtain ⟨b, ws, e2, k3, k4⟩ := dq_lstP d2
    have g := g1.trans g2
    exact ⟨a, b, vs, ws, e1, e2, g2.ex _ _ h3, g2.ex _ _ k3, by rw [h4.len, k4.len]; exact hl, fun p hp => q _ F2 _ (g.trans (Gr.newM g.ex hp)) ⟨p, _, rfl, g.h.free hp, g.ex.free hp, upd_same, h4.append k4⟩⟩
/-- not xs -/
theorem e_notTL {ds : List PyData} (h : Ev te Γ (.d (.list ds))) : Ev (tNotT K te) Γ (.d (.bool ds.isEmpty)) := fun H0 F σ H Q S q => h H0 F σ H _ S fun v F1 H1 g d => by
  obtain ⟨a, xs, rfl, h1, h2⟩ := dq_lst d
  refine ⟨!xs.isEmpty, .inl ⟨xs, sql g.ex h1, rfl⟩, ?_⟩
  have e : (!(!xs.isEmpty)) = ds.isEmpty := by
    cases h2 <;> rfl
  rw [e]
  exact q _ F1 H1 g (.bl _)
end
end Ef
/-! Items of dicts, dicts changed, nested comprehensions, new objects, folds. -/
namespace Ef
open PySem PySem.Spec PyProof.Rows L2
section
variable {K : Frag} {Γ Γ' : List SV} {ta tb tc td te ty tx : TE} {x y z d : PyData} {s : Str} {kvs : List (Str × PyData)} {F0 H0 : Hp} {D : Ends}
/-! ### a dict's items -/
def itemsD (kvs : List (Str × PyData)) : List PyData := kvs.map fun p => .tuple [.str p.1, p.2]
theorem kvq_at {F : Hp} : ∀ {vs : List (Key × V)} {ks : List (Str × PyData)}, KVq F vs ks → ∀ {i : Nat} {k : Key} {v : V}, vs[i]? = some (k, v) → ∃ s d, ks[i]? = some (s, d) ∧ k = .inr s ∧ Dq F v d
  | _, _, .nil, i, k, v, h => by simp at h
  | _, _, .cons (a := ⟨x, u⟩) (b := ⟨y, e⟩) h1 t, 0, k, v, h => by
    simp only [List.getElem?_cons_zero, Option.some.injEq, Prod.mk.injEq] at h
    obtain ⟨rfl, rfl⟩ := h
    exact ⟨_, _, rfl, h1.1, h1.2⟩
  | _, _, .cons h1 t, i + 1, k, v, h => by
    simp only [List.getElem?_cons_succ] at h ⊢
    exact kvq_at t h
theorem kvq_len {F : Hp} : ∀ {vs : List (Key × V)} {ks : List (Str × PyData)}, KVq F vs ks → vs.length = ks.length
  | _, _, .nil => rfl
  | _, _, .cons _ t => congrArg (· + 1) (kvq_len t)
theorem items_len {kvs : List (Str × PyData)} : (itemsD kvs).length = kvs.length := List.length_map _
theorem items_yield {F H : Hp} {dd : Addr} {o : Obj} {vs : List (Key × V)} {i : Nat} {x : V} {H' : Hp} {d : PyData} (hk : KVq F vs kvs) (e : Same F H) (hd : (itemsD kvs)[i]? = some d) (hy : (Iti dd o vs).yld i H x H') : ∃ F', Gr F H F' H' ∧ Dl F' x d := by
  obtain ⟨T, k, v, h1, rfl, hT, rfl⟩ := hy
  obtain ⟨s, e1, h2, rfl, h3⟩ := kvq_at hk h1
  have : d = .tuple [.str s, e1] := by
    unfold itemsD at hd
    rw [List.getElem?_map, h2] at hd
    exact (Option.some.inj hd).symm
  subst this
  exact pair_new e hT (.str s) h3
/-- of a dict just made -/
theorem wk_itemsR (h : Ev te Γ (.md kvs)) : Wk Dl (iItems (tLockR te)) Γ (itemsD kvs) := fun H0 F σ H R S q => h H0 F σ H _ S fun v F1 H1 g ⟨a, vs, e, h1, h2, h3, h4⟩ => by
  subst e
  refine ⟨a, vs, rfl, h3, fun o => ⟨a, o, vs, rfl, upd_same, ?_⟩⟩
  have e1 : Same F1 (upd F1 a (.frz o (.dK vs))) := same_upd h2
  have hk : KVq (upd F1 a (.frz o (.dK vs))) vs kvs := KVq.up e1 h4
  refine q _ (upd F1 a (.frz o (.dK vs))) (upd H1 a (.frz o (.dK vs))) ⟨g.f.trans e1, fun b o' hb => ?_, same_upd2 g.ex, fun b hb => ?_⟩ ⟨fun i F' H' k1 k2 hi => ?_, fun F' H' k1 k2 => ?_, fun i F' H' x H'' d k1 k2 hd hy => items_yield (KVq.up k1 hk) k2 hd hy⟩
  · rw [upd_ne (ne_of_none hb h1)]
    exact g.h _ _ hb
  · by_cases k : b = a
    · subst k
      exact .inr h1
    · rw [upd_ne k] at hb
      exact g.new b hb
  · rw [items_len, ← kvq_len h4] at hi
    exact ⟨k2 _ _ (k1 _ _ upd_same), hi⟩
  · exact ⟨k2 _ _ (k1 _ _ upd_same), by rw [items_len, kvq_len h4]; exact Nat.le_refl _⟩
/-- one's own dict's items under lock -/
theorem wk_itemsL {n : Nat} (hn : Γ[n]? = some (.lk kvs)) : WkC Dl (iItems (tVar n)) Γ (itemsD kvs) := fun H0 F σ H R S q => by
  obtain ⟨a, vs, o, h1, h2, h3, h4, h5⟩ := S.slot n _ hn
  exact ⟨_, h1, a, o, vs, rfl, h4, q _ F H (Gr.refl S.ex) ⟨fun i F' H' k1 k2 k3 hi => ⟨k2 _ _ h4, by rw [items_len, ← kvq_len h5] at hi; exact hi⟩, fun F' H' k1 k2 k3 => ⟨k2 _ _ h4, by rw [items_len, kvq_len h5]; exact Nat.le_refl _⟩,
    fun i F' H' x H'' d k1 k2 k3 hd hy => items_yield (KVq.up k1 h5) k3 hd hy⟩⟩
theorem e_lock {n : Nat} {es : List PyData} (hn : Γ[n]? = some (.md kvs)) (h : Ev te (Γ.set n (.lk kvs)) (.ml es)) : Ev (tLockE te) Γ (.ml es) := fun H0 F σ H Q S q => by
  obtain ⟨a, vs', h1, h2, h3, h4, h5⟩ := S.slot n _ hn
  refine ⟨a, .dK vs', h4, trivial, fun od => ?_⟩
  have hil : n < Γ.length := (List.getElem?_eq_some_iff.mp hn).1
  have S1 : SatF H0 F (Γ.set n (.lk kvs)) σ (upd H a (.frz od (.dK vs'))) :=
    S.write (i := n) (s := .lk kvs) ⟨_, hn, rfl⟩ h1 h4 (fun _ _ _ e => nomatch e) h2 h3 rfl ⟨a, vs', od, rfl, h2, h3, upd_same, h5⟩
  refine h H0 F σ _ _ S1 fun v F1 H1 g ⟨b, vs, e, k1, k2, k3, k4⟩ => ?_
  subst e
  have hl : H1 a = some (.frz od (.dK vs')) := g.h _ _ upd_same
  have hb : b ≠ a := fun e => by
    subst e
    rw [upd_same] at k1
    cases k1
  have hFa : F1 a = none := g.no h2 upd_same
  refine ⟨hl, q (.ref b) F1 (upd H1 a (.dK vs')) ⟨g.f, fun c o hc => ?_, fun c o hc => ?_, fun c hc => ?_⟩ ⟨b, vs, rfl, ?_, k2, by rw [upd_ne hb]; exact k3, k4⟩⟩
  · by_cases e : c = a
    · subst e
      rw [upd_same, ← h4]
      exact hc
    · rw [upd_ne e]
      exact g.h _ _ (by rw [upd_ne e]; exact hc)
  · rw [upd_ne (ne_of_none hc hFa)]
    exact g.ex _ _ hc
  · rcases g.new c hc with h | h
    · exact .inl h
    · refine .inr ?_
      by_cases e : c = a
      · subst e
        rw [upd_same] at h
        cases h
      · rw [upd_ne e] at h
        exact h
  · rw [upd_ne hb] at k1
    exact k1
/-! ### dicts changed -/
theorem sr_dput {n : Nat} (hn : Γ[n]? = some (.md kvs)) (hy : Ev ty Γ (.d (.str s))) (hx : Ev tx Γ (.d x)) (hl : kvs.length < sizeLine) (h : Nx F0 H0 (Γ.set n (.md (putG kvs s x))) D) : SR F0 H0 (sDPut (tVar n) ty tx) Γ D := fun σ H ⟨F, g, S⟩ =>
  hx H0 F σ H _ S fun v F1 H1 g1 d1 => by
    have S1 := S.grow g1
    obtain ⟨a0, _, e0, _⟩ := S1.slot n _ hn
    refine ⟨_, e0, hy H0 F1 σ H1 _ S1 fun u F2 H2 g2 d2 => ?_⟩
    have S2 := S1.grow g2
    obtain ⟨a, vs, h1, h2, h3, h4, h5⟩ := S2.slot n _ hn
    rw [e0] at h1
    cases h1
    cases d2
    refine ⟨a0, _, rfl, .inl ⟨vs, .inr s, h4, rfl, by rw [kvq_len h5]; exact hl, rfl⟩, h σ _ ⟨F2, (g.trans (g1.trans g2)).write h2 h3, ?_⟩⟩
    exact S2.write (s := .md (putG kvs s x)) ⟨_, hn, rfl⟩ e0 h4 (fun _ _ _ e => nomatch e) h2 h3 rfl ⟨a0, _, rfl, h2, h3, upd_same, kvq_put h5 (d1.up g2.f)⟩
/-- d.pop(k) for nothing -/
theorem sr_dpop {n : Nat} (hn : Γ[n]? = some (.md kvs)) (hy : Ev ty Γ (.d (.str s))) (hv : (valG kvs s).isSome = true) (h : Nx F0 H0 (Γ.set n (.md (dropG kvs s))) D) : SR F0 H0 (tDrop (tDPop1 (tVar n) ty)) Γ D := fun σ H ⟨F, g, S⟩ => by
  obtain ⟨a0, vs0, e0, _, _, hh, _⟩ := S.slot n _ hn
  refine ⟨_, e0, a0, rfl, .inl ⟨vs0, .inl hh⟩, hy H0 F σ H _ S fun u F2 H2 g2 d2 => ?_⟩
  have S2 := S.grow g2
  obtain ⟨a, vs, h1, h2, h3, h4, h5⟩ := S2.slot n _ hn
  rw [e0] at h1
  cases h1
  cases d2
  obtain ⟨d, hd⟩ := Option.isSome_iff_exists.mp hv
  obtain ⟨v, hv', _⟩ := (kvq_val (s := s) h5).1 d hd
  refine ⟨vs, .inr s, v, h4, rfl, hv', h σ _ ⟨F2, (g.trans g2).write h2 h3, ?_⟩⟩
  exact S2.write (s := .md (dropG kvs s)) ⟨_, hn, rfl⟩ e0 h4 (fun _ _ _ e => nomatch e) h2 h3 rfl ⟨a0, _, rfl, h2, h3, upd_same, kvq_drop h5⟩
/-! ### dict comprehension, keys are texts -/
theorem wipe_wipe {σ : L2.St} (vs : List Nat) : wipe (wipe σ vs) vs = wipe σ vs := by
  have key : ∀ us : List Nat, (∀ u ∈ us, u ∈ vs) → wipe (wipe σ vs) us = wipe σ vs := by
    intro us
    induction us with
    | nil => exact fun _ => rfl
    | cons u us ih =>
      intro hu
      show (wipe (wipe σ vs) us).set u none = _
      rw [ih fun w hw => hu w (List.mem_cons_of_mem _ hw)]
      refine List.ext_getElem? fun j => ?_
      by_cases q : j = u
      · subst q
        by_cases jl : j < (wipe σ vs).length
        · rw [List.getElem?_set_self jl]
          have m := hu j List.mem_cons_self
          cases hc : (wipe σ vs)[j]? with
          | none =>
            rw [List.getElem?_eq_none_iff] at hc
            omega
          | some o =>
            cases o with
            | none => rfl
            | some v => exact absurd m (wipe_some hc).2
        · rw [List.getElem?_eq_none (by rw [List.length_set]; omega), List.getElem?_eq_none (by omega)]
      · rw [List.getElem?_set_ne (fun e => q e.symm)]
  exact key vs fun _ h => h
theorem gr_upd {F H F' H' : Hp} {a : Addr} {o : HO} (g : Gr F H F' H') (h0 : H a = none) (hF : F' a = none) : Gr F H F' (upd H' a o) := ⟨g.f, fun b u hb => by
  rw [upd_ne (ne_of_none hb h0)]
  exact g.h _ _ hb, fun b u hb => by
  rw [upd_ne (ne_of_none hb hF)]
  exact g.ex _ _ hb, g.new⟩
theorem e_dcM {α : Type} {Y : Hp → V → PyData → Prop} {wi : TI} {g : TG} {tk tv : TE} {vs : List Nat} (xs : List α) (e0 : α → PyData) (fk : α → Str) (fv : α → PyData) (hw : WkC Y wi Γ (xs.map e0)) (hl : xs.length < sizeLine)
    (h : ∀ (i : Nat) (d : α), xs[i]? = some d → ∃ Γ2, GV Y g (e0 d) (wipeG Γ vs) Γ2 vs ∧ Ev tk Γ2 (.d (.str (fk d))) ∧ Ev tv Γ2 (.d (fv d))) : Ev (tDc wi g tYes tk tv vs) Γ (.md (xs.foldl (fun acc d => putG acc (fk d) (fv d)) [])) := fun H0 F σ H Q S q =>
  hw H0 F σ H _ S fun J F1 H1 g1 W D hD => by
    have S1 := S.grow g1
    have nF : F1 D = none := g1.ex.free hD
    refine ⟨fun i m H' => i + m = xs.length ∧ ∃ F', Gr F1 H1 F' H' ∧ F' D = none ∧ ∃ acc, H' D = some (.dK acc) ∧ acc.length ≤ i ∧ KVq F' acc ((xs.take i).foldl (fun acc d => putG acc (fk d) (fv d)) []), ⟨xs.length, by omega, F1, Gr.newM g1.ex hD, nF, [], upd_same, Nat.le_refl _, .nil⟩, ?_⟩
    rintro i m H' ⟨him, F', g2, hFD, acc, hacc, hal, hq⟩
    by_cases hi : i < xs.length
    · refine .inr ⟨W.goes i F' H' g2.f g2.h g2.ex (by rw [List.length_map]; exact hi), fun H'' => ∃ F'', Gr F1 H1 F'' H'' ∧ F'' D = none ∧ ∃ acc, H'' D = some (.dK acc) ∧ acc.length ≤ i + 1 ∧ KVq F'' acc ((xs.take (i + 1)).foldl (fun acc d => putG acc (fk d) (fv d)) []), fun H'' ⟨F'', k1, k2, k3⟩ => ⟨m - 1, by omega, by omega, F'', k1, k2, k3⟩, fun x H2 hy => ?_⟩
      have hd : xs[i]? = some xs[i] := List.getElem?_eq_getElem hi
      obtain ⟨F2, g3, dq⟩ := W.yields i F' H' x H2 (e0 xs[i]) g2.f g2.h g2.ex (by rw [List.getElem?_map, hd]; rfl) hy
      obtain ⟨Γ2, hg, hk, he⟩ := h i _ hd
      have hacc2 : H2 D = some (.dK acc) := g3.h _ _ hacc
      have gg := g2.trans g3
      have S2 : SatF H0 F2 (wipeG Γ vs) (wipe σ vs) H2 := (S1.grow gg).wipe vs
      have hF2 : F2 D = none := g3.no hFD hacc
      refine hg H0 F2 (wipe σ vs) H2 x _ S2 dq fun σ' S3 w3 => ⟨by rw [w3]; exact wipe_wipe vs, ?_⟩
      show tk σ' H2 _
      refine hk H0 F2 σ' H2 _ S3 fun u F3 H3 g4 d4 => he H0 F3 σ' H3 _ (S3.grow g4) fun v F4 H4 g5 d5 => ?_
      have g45 := g4.trans g5
      have hF4 : F4 D = none := g45.no hF2 hacc2
      have hacc4 := g45.h _ _ hacc2
      cases d4
      have e1 : (xs.take (i + 1)).foldl (fun acc d => putG acc (fk d) (fv d)) [] = putG ((xs.take i).foldl (fun acc d => putG acc (fk d) (fv d)) []) (fk xs[i]) (fv xs[i]) := by
        rw [take_snoc hd, List.foldl_append]
        rfl
      refine ⟨acc, .inr (fk xs[i]), rfl, hacc4, by omega, F4, gr_upd (gg.trans g45) hD hF4, hF4, _, upd_same, ?_, ?_⟩
      · have : ∀ (l : List (Key × V)) (k : Key) (v : V), (putK l k v).length ≤ l.length + 1 := fun l k v => by
          unfold putK
          split
          · rw [List.length_map]; omega
          · rw [List.length_append]; exact Nat.le_refl _
        exact Nat.le_trans (this _ _ _) (by omega)
      · rw [e1]
        exact kvq_put (KVq.up (g3.trans g45).f hq) d5
    · have e : i = xs.length := by omega
      subst e
      rw [List.take_length] at hq
      exact .inl ⟨by have := W.stops F' H' g2.f g2.h g2.ex; rw [List.length_map] at this; exact this, q _ F' H' (g1.trans g2) ⟨D, acc, rfl, g1.h.free hD, hFD, hacc, hq⟩⟩
/-! ### two clauses -/
theorem e_lc2M {α : Type} {Y Y1 : Hp → V → PyData → Prop} {wi wi1 : TI} {g g1 : TG} {vs vs1 : List Nat} (xs : List α) (e0 : α → PyData) (f : α → List PyData) (f1 : α → PyData → PyData) (hw : WkC Y wi Γ (xs.map e0)) (hl : ((xs.map fun d => (f d).map (f1 d)).flatten).length < sizeLine)
    (h : ∀ (i : Nat) (d : α), xs[i]? = some d → ∃ Γ2, GV Y g (e0 d) (wipeG Γ vs) Γ2 vs ∧ (∀ s ∈ Γ2, s.mu = false) ∧ Wk Y1 wi1 Γ2 (f d) ∧ ∀ (j : Nat) (e : PyData), (f d)[j]? = some e → ∃ Γ3, GV Y1 g1 e (wipeG Γ2 vs1) Γ3 vs1 ∧ Ev te Γ3 (.d (f1 d e))) :
    Ev (tLc2 wi g tYes wi1 g1 tYes te vs vs1) Γ (.ml ((xs.map fun d => (f d).map (f1 d)).flatten)) := fun H0 F σ H Q S q =>
  hw H0 F σ H _ S fun J F1 H1 g1' W D hD => by
    have S1 := S.grow g1'
    have nF : F1 D = none := g1'.ex.free hD
    refine ⟨fun i m H' => i + m = xs.length ∧ ∃ F', Gr F1 H1 F' H' ∧ F' D = none ∧ ∃ acc, H' D = some (.lst acc) ∧ DqA F' acc (((xs.take i).map fun d => (f d).map (f1 d)).flatten), ⟨xs.length, by omega, F1, Gr.newM g1'.ex hD, nF, [], upd_same, .nil⟩, ?_⟩
    rintro i m H' ⟨him, F', g2, hFD, acc, hacc, hq⟩
    by_cases hi : i < xs.length
    · refine .inr ⟨W.goes i F' H' g2.f g2.h g2.ex (by rw [List.length_map]; exact hi), fun H'' => ∃ F'', Gr F1 H1 F'' H'' ∧ F'' D = none ∧ ∃ acc, H'' D = some (.lst acc) ∧ DqA F'' acc (((xs.take (i + 1)).map fun d => (f d).map (f1 d)).flatten), fun H'' ⟨F'', k1, k2, k3⟩ => ⟨m - 1, by omega, by omega, F'', k1, k2, k3⟩, fun x H2 hy => ?_⟩
      have hd : xs[i]? = some xs[i] := List.getElem?_eq_getElem hi
      obtain ⟨F2, g3, dq⟩ := W.yields i F' H' x H2 (e0 xs[i]) g2.f g2.h g2.ex (by rw [List.getElem?_map, hd]; rfl) hy
      obtain ⟨Γ2, hg, hmu, hw1, he⟩ := h i _ hd
      have hacc2 : H2 D = some (.lst acc) := g3.h _ _ hacc
      have gg := g2.trans g3
      have S2 : SatF H0 F2 (wipeG Γ vs) (wipe σ vs) H2 := (S1.grow gg).wipe vs
      have hF2 : F2 D = none := g3.no hFD hacc
      have e1 : ((xs.take (i + 1)).map fun d => (f d).map (f1 d)).flatten = ((xs.take i).map fun d => (f d).map (f1 d)).flatten ++ (f xs[i]).map (f1 xs[i]) := by
        rw [take_snoc hd, List.map_append, List.flatten_append]
        simp
      have e2 : ∀ j, j ≤ (f xs[i]).length → (((xs.take i).map fun d => (f d).map (f1 d)).flatten ++ ((f xs[i]).take j).map (f1 xs[i])).length ≤ ((xs.map fun d => (f d).map (f1 d)).flatten).length := by
        intro j hj
        have e3 : xs = xs.take i ++ xs[i] :: xs.drop (i + 1) := by
          rw [← List.drop_eq_getElem_cons hi, List.take_append_drop]
        rw [show ((xs.map fun d => (f d).map (f1 d)).flatten).length = (((xs.take i ++ xs[i] :: xs.drop (i + 1)).map fun d => (f d).map (f1 d)).flatten).length from by rw [← e3]]
        rw [List.map_append, List.map_cons, List.flatten_append, List.flatten_cons, List.length_append, List.length_append, List.length_append, List.length_map, List.length_map, List.length_take]
        omega
      refine hg H0 F2 (wipe σ vs) H2 x _ S2 dq fun σ' S3 w3 => ⟨by rw [w3]; exact wipe_wipe vs, ?_⟩
      show wi1 σ' H2 _
      refine hw1 H0 F2 σ' H2 _ S3 fun J1 F3 H3 g4 W1 => ?_
      have g24 := gg.trans g4
      have hF3 : F3 D = none := g4.no hF2 hacc2
      have hacc3 := g4.h _ _ hacc2
      have hq3 := hq.up (g3.trans g4).f
      refine ⟨fun j k H'' => j + k = (f xs[i]).length ∧ ∃ F'', Same F3 F'' ∧ (∀ b o, b ≠ D → H3 b = some o → H'' b = some o) ∧ Gr F1 H1 F'' H'' ∧ F'' D = none ∧ ∃ acc, H'' D = some (.lst acc) ∧ DqA F'' acc (((xs.take i).map fun d => (f d).map (f1 d)).flatten ++ ((f xs[i]).take j).map (f1 xs[i])), ⟨(f xs[i]).length, by omega, F3, Same.refl _, fun _ _ _ h => h, g24, hF3, acc, hacc3, by simpa using hq3⟩, ?_⟩
      rintro j k H4 ⟨hjk, F4, sf, hold, g5, hF4, acc4, hacc4, hq4⟩
      by_cases hj : j < (f xs[i]).length
      · refine .inr ⟨W1.goes j F4 H4 sf g5.ex hj, fun H'' => ∃ F'', Same F3 F'' ∧ (∀ b o, b ≠ D → H3 b = some o → H'' b = some o) ∧ Gr F1 H1 F'' H'' ∧ F'' D = none ∧ ∃ acc, H'' D = some (.lst acc) ∧ DqA F'' acc (((xs.take i).map fun d => (f d).map (f1 d)).flatten ++ ((f xs[i]).take (j + 1)).map (f1 xs[i])), fun H'' ⟨F'', k0, k00, k1, k2, k3⟩ => ⟨k - 1, by omega, by omega, F'', k0, k00, k1, k2, k3⟩, fun x1 H5 hy1 => ?_⟩
        have hd1 : (f xs[i])[j]? = some (f xs[i])[j] := List.getElem?_eq_getElem hj
        obtain ⟨F5, g6, dq1⟩ := W1.yields j F4 H4 x1 H5 _ sf g5.ex hd1 hy1
        obtain ⟨Γ3, hg1, he1⟩ := he j _ hd1
        have g16 := g5.trans g6
        have hF5 : F5 D = none := g6.no hF4 hacc4
        have hacc5 : H5 D = some (.lst acc4) := g6.h _ _ hacc4
        have S5 : SatF H0 F5 (wipeG Γ2 vs1) (wipe σ' vs1) H5 := by
          have S4 : SatF H0 F5 Γ2 σ' H5 := by
            have ff : Same F2 F5 := (g4.f.trans sf).trans g6.f
            refine ⟨S3.len, g6.ex, ?_, fun k s hs => ?_, fun k l b hk hl' ck cl => ?_⟩
            · exact S.ex0.trans ((g1'.h.trans g5.h).trans g6.h)
            · have hm := hmu s (List.mem_of_getElem? hs)
              have kk := S3.slot k s hs
              cases s with
              | u => trivial
              | d x =>
                obtain ⟨v, k1, k2⟩ := kk
                exact ⟨v, k1, k2.up ff⟩
              | dic kvs =>
                obtain ⟨b, ws, k1, k2, k3⟩ := kk
                exact ⟨b, ws, k1, ff _ _ k2, KVq.up ff k3⟩
              | obj C fs =>
                obtain ⟨b, dx, vfs, k1, k2, k3⟩ := kk
                refine ⟨b, dx, vfs, k1, g6.h _ _ (hold _ _ (fun e => ?_) (g4.h _ _ k2)), FSq.up ff k3⟩
                subst e
                rw [hacc2] at k2
                cases k2
              | ml _ => cases hm
              | md _ => cases hm
              | lk _ => cases hm
            · obtain ⟨s, hs, hm⟩ := hk
              rw [hmu s (List.mem_of_getElem? hs)] at hm
              cases hm
          exact S4.wipe vs1
        refine hg1 H0 F5 (wipe σ' vs1) H5 x1 _ S5 dq1 fun σ6 S6 w6 => ⟨by rw [w6]; exact wipe_wipe vs1, ?_⟩
        show te σ6 H5 _
        refine he1 H0 F5 σ6 H5 _ S6 fun v F6 H6 g7 d7 => ⟨acc4, g7.h _ _ hacc5, ?_, F6, (sf.trans g6.f).trans g7.f, (fun b o hb hh => by rw [upd_ne hb]; exact g7.h _ _ (g6.h _ _ (hold b o hb hh))), gr_upd (g16.trans g7) hD (g7.no hF5 hacc5), g7.no hF5 hacc5, _, upd_same, ?_⟩
        · rw [hq4.len]
          refine Nat.lt_of_le_of_lt (e2 j (by omega)) hl
        · rw [take_snoc hd1, List.map_append, ← List.append_assoc]
          exact ((hq4.up g6.f).up g7.f).append (.cons d7 .nil)
      · have e : j = (f xs[i]).length := by omega
        subst e
        rw [List.take_length] at hq4
        exact .inl ⟨W1.stops F4 H4 sf g5.ex, F4, g5, hF4, acc4, hacc4, by rw [e1]; exact hq4⟩
    · have e : i = xs.length := by omega
      subst e
      rw [List.take_length] at hq
      exact .inl ⟨by have := W.stops F' H' g2.f g2.h g2.ex; rw [List.length_map] at this; exact this, q _ F' H' (g1'.trans g2) ⟨D, acc, rfl, g1'.h.free hD, hFD, hacc, hq⟩⟩
end
end Ef
/-! Folds, and what else evaluates. -/
namespace Ef
open PySem PySem.Spec PyProof.Rows L2
open PySem.W (AlikeAll minD dataLt alike)
section
variable {K : Frag} {Γ Γ' : List SV} {ta tb tc td te ty tx : TE} {x y z d : PyData} {s : Str} {kvs : List (Str × PyData)} {F0 H0 : Hp} {D : Ends} {i j : Int}
theorem wk_eq {Y : Hp → V → PyData → Prop} {wi : TI} {ds es : List PyData} (h : Wk Y wi Γ ds) (e : ds = es) : Wk Y wi Γ es := e ▸ h
theorem wkc_eq {Y : Hp → V → PyData → Prop} {wi : TI} {ds es : List PyData} (h : WkC Y wi Γ ds) (e : ds = es) : WkC Y wi Γ es := e ▸ h
theorem zipD_map {α β : Type} (f : α → PyData) (g : β → PyData) (xs : List α) (ys : List β) : zipD (xs.map f) (ys.map g) = (xs.zip ys).map fun p => .tuple [f p.1, g p.2] := by
  unfold zipD
  rw [List.zip_map, List.map_map]
  rfl
/-- a loop that folds -/
theorem sr_fold {α S : Type} {Y : Hp → V → PyData → Prop} {wi : TI} {g : TG} {tb : TS} (xs : List α) (e : α → PyData) (step : S → α → S) (enc : S → List SV) (I : Nat → S → Prop) (s0 : S)
    (hw : Wk Y wi Γ (xs.map e)) (l0 : Le Γ (enc s0)) (h0 : I 0 s0)
    (ht : ∀ (F1 : Hp) (i : Nat) (x : α) (s : S), Gx F0 H0 F1 → xs[i]? = some x → I i s → s = (xs.take i).foldl step s0 → I (i + 1) (step s x) ∧ ∃ Γ2, GD Y g (e x) (enc s) Γ2 ∧ SR F1 H0 tb Γ2 { D with nx := NXP F1 H0 (fun Γ' => Le Γ' (enc (step s x))), ct := NXP F1 H0 (fun Γ' => Le Γ' (enc (step s x))), bk := D.nx })
    (hx : I xs.length (xs.foldl step s0) → Nx F0 H0 (enc (xs.foldl step s0)) D) : SR F0 H0 (tFor wi g tb) Γ D := by
  refine sr_for hw (fun i Γi => i ≤ xs.length ∧ I i ((xs.take i).foldl step s0) ∧ Le Γi (enc ((xs.take i).foldl step s0))) ⟨Nat.zero_le _, h0, l0⟩ (fun F1 i d Γi gx hd ⟨hi, hI, hl⟩ => ?_) (fun Γn ⟨_, hI, hl⟩ => ?_)
  · rw [List.getElem?_map] at hd
    cases hx1 : xs[i]? with
    | none => rw [hx1] at hd; cases hd
    | some x =>
      rw [hx1] at hd
      cases hd
      obtain ⟨h1, Γ2, h2, h3⟩ := ht F1 i x _ gx hx1 hI rfl
      refine ⟨Γ2, fun H0 F σ H v Q S hd q => h2 H0 F σ H v Q (S.weak hl) hd q, ?_⟩
      have e1 : (xs.take (i + 1)).foldl step s0 = step ((xs.take i).foldl step s0) x := by
        rw [take_snoc hx1, List.foldl_append]
        rfl
      have hlt : i + 1 ≤ xs.length := (List.getElem?_eq_some_iff.mp hx1).1
      have hh : ∀ σ H, NXP F1 H0 (fun Γ' => Le Γ' (enc (step ((xs.take i).foldl step s0) x))) σ H → NXP F1 H0 (fun Γi => i + 1 ≤ xs.length ∧ I (i + 1) ((xs.take (i + 1)).foldl step s0) ∧ Le Γi (enc ((xs.take (i + 1)).foldl step s0))) σ H := fun σ H ⟨Γ', l, S⟩ => ⟨Γ', ⟨hlt, by rw [e1]; exact h1, by rw [e1]; exact l⟩, S⟩
      have e2 : (fun Γi : List SV => i + 1 ≤ xs.length ∧ I (i + 1) ((xs.take (i + 1)).foldl step s0) ∧ Le Γi (enc ((xs.take (i + 1)).foldl step s0))) = fun Γ' => Le Γ' (enc (step ((xs.take i).foldl step s0) x)) := by
        funext Γ'
        rw [e1]
        exact propext ⟨fun h => h.2.2, fun h => ⟨hlt, h1, h⟩⟩
      rw [e2]
      exact h3
  · rw [List.length_map, List.take_length] at hI hl
    exact nx_weak (hx hI) hl
/-- a loop that changes nothing -/
theorem sr_const {Y : Hp → V → PyData → Prop} {wi : TI} {g : TG} {tb : TS} {ds : List PyData} (Γc : List SV) (hw : Wk Y wi Γ ds) (l0 : Le Γ Γc)
    (ht : ∀ (F1 : Hp) (i : Nat) (d : PyData), ds[i]? = some d → ∃ Γ2, GD Y g d Γc Γ2 ∧ SR F1 H0 tb Γ2 { D with nx := NXP F1 H0 (fun Γ' => Le Γ' Γc), ct := NXP F1 H0 (fun Γ' => Le Γ' Γc), bk := D.nx })
    (hx : Nx F0 H0 Γc D) : SR F0 H0 (tFor wi g tb) Γ D :=
  sr_for hw (fun _ Γi => Le Γi Γc) l0 (fun F1 i d Γi gx hd hl => by
    obtain ⟨Γ2, h2, h3⟩ := ht F1 i d hd
    exact ⟨Γ2, fun H0 F σ H v Q S hd q => h2 H0 F σ H v Q (S.weak hl) hd q, h3⟩) fun Γn hl => nx_weak hx hl
/-- at the end of a turn -/
theorem nx_end {Γe : List SV} (h : D.nx = NXP F0 H0 (fun Γ' => Le Γ' Γe)) (l : Le Γ Γe) : Nx F0 H0 Γ D := nx_is l fun _ _ k => by rw [h]; exact k
/-! ### set, by form -/
inductive SetAt : List SV → Nat → SV → List SV → Prop
  | z {s r : SV} {Γ : List SV} : SetAt (s :: Γ) 0 r (r :: Γ)
  | s {s r : SV} {Γ Γ' : List SV} {i : Nat} : SetAt Γ i r Γ' → SetAt (s :: Γ) (i + 1) r (s :: Γ')
theorem SetAt.eq : ∀ {Γ Γ' : List SV} {i : Nat} {r : SV}, SetAt Γ i r Γ' → Γ.set i r = Γ' ∧ i < Γ.length
  | _, _, _, _, .z => ⟨rfl, Nat.zero_lt_succ _⟩
  | _, _, _, _, .s h => ⟨congrArg _ h.eq.1, Nat.succ_lt_succ h.eq.2⟩
variable {Γ2 : List SV} {n : Nat} {r : SV}
theorem r_asg (he : Ev te Γ r) (hs : SetAt Γ n r Γ2) (h : Nx F0 H0 Γ2 D) : SR F0 H0 (tAsg te (gName n)) Γ D := sr_asg he hs.eq.2 (by rw [hs.eq.1]; exact h)
theorem r_app {ds : List PyData} (hn : Γ[n]? = some (.ml ds)) (he : Ev te Γ (.d x)) (hl : ds.length < sizeLine) (hs : SetAt Γ n (.ml (ds ++ [x])) Γ2) (h : Nx F0 H0 Γ2 D) : SR F0 H0 (tDrop (tBM K "list" rAppend (tVar n) (tCons te tNil))) Γ D := sr_app hn he hl (by rw [hs.eq.1]; exact h)
theorem r_augI {f : Int → Int → Int} {k j : Int} (hn : Γ[n]? = some (.d (.int k))) (he : Ev te Γ (.d (.int j))) (hs : SetAt Γ n (.d (.int (f k j))) Γ2) (h : Nx F0 H0 Γ2 D) : SR F0 H0 (tAug n te (ipI f)) Γ D := sr_augI hn he (by rw [hs.eq.1]; exact h)
theorem r_ext {ds es : List PyData} (hn : Γ[n]? = some (.ml ds)) (he : Ev te Γ (.ml es)) (hl : ds.length + es.length ≤ sizeLine) (hs : SetAt Γ n (.ml (ds ++ es)) Γ2) (h : Nx F0 H0 Γ2 D) : SR F0 H0 (tAug n te rExt2) Γ D := sr_ext hn he hl (by rw [hs.eq.1]; exact h)
theorem r_dput (hn : Γ[n]? = some (.md kvs)) (hy : Ev ty Γ (.d (.str s))) (hx : Ev tx Γ (.d x)) (hl : kvs.length < sizeLine) (hs : SetAt Γ n (.md (putG kvs s x)) Γ2) (h : Nx F0 H0 Γ2 D) : SR F0 H0 (sDPut (tVar n) ty tx) Γ D := sr_dput hn hy hx hl (by rw [hs.eq.1]; exact h)
theorem r_dpop (hn : Γ[n]? = some (.md kvs)) (hy : Ev ty Γ (.d (.str s))) (hv : (valG kvs s).isSome = true) (hs : SetAt Γ n (.md (dropG kvs s)) Γ2) (h : Nx F0 H0 Γ2 D) : SR F0 H0 (tDrop (tDPop1 (tVar n) ty)) Γ D := sr_dpop hn hy hv (by rw [hs.eq.1]; exact h)
theorem r_freeze {ds : List PyData} {t : TS} (hn : Γ[n]? = some (.ml ds)) (hs : SetAt Γ n (.d (.list ds)) Γ2) (h : SR F0 H0 t Γ2 D) : SR F0 H0 t Γ D := sr_freeze hn (by rw [hs.eq.1]; exact h)
theorem GD.weak {Y : Hp → V → PyData → Prop} {g : TG} (l : Le Γ Γ') (h : GD Y g d Γ' Γ2) : GD Y g d Γ Γ2 := fun H0 F σ H v Q S hd q => h H0 F σ H v Q (S.weak l) hd q
theorem g_name (hs : SetAt Γ n (.d d) Γ2) : GD Dq (gName n) d Γ Γ2 := by
  have := gd_name (d := d) hs.eq.2
  rw [hs.eq.1] at this
  exact this
theorem v_name {vs : List Nat} (hs : SetAt Γ n (.d d) Γ2) (hm : n ∈ vs := by decide) : GV Dq (gName n) d Γ Γ2 vs := by
  have := gv_name (d := d) hs.eq.2 hm
  rw [hs.eq.1] at this
  exact this
theorem r_ifT {c : TT} {t u : TS} {b : Bool} (hc : EvT c Γ b) (hb : b = true) (h1 : SR F0 H0 t Γ D) : SR F0 H0 (tIfS c t u) Γ D := sr_ifT (hb ▸ hc) h1
theorem r_ifF {c : TT} {t u : TS} {b : Bool} (hc : EvT c Γ b) (hb : b = false) (h1 : SR F0 H0 u Γ D) : SR F0 H0 (tIfS c t u) Γ D := sr_ifF (hb ▸ hc) h1
theorem r_if {c : TT} {t u : TS} {b b' : Bool} (hc : EvT c Γ b) (hb : b = b') (h1 : b' = true → SR F0 H0 t Γ D) (h2 : b' = false → SR F0 H0 u Γ D) : SR F0 H0 (tIfS c t u) Γ D := sr_if (hb ▸ hc) h1 h2
theorem r_ret {r' : SV} (he : Ev te Γ r') (e : r' = r) (h : ∀ v H, RT F0 H0 r v H → D.rt v H) : SR F0 H0 (tRet te) Γ D := sr_ret (e ▸ he) h
theorem e_as {r' : SV} (he : Ev te Γ r') (e : r' = r) : Ev te Γ r := e ▸ he
theorem et_and2 {t u : TT} {b b' : Bool} (h1 : EvT t Γ b) (h2 : EvT u Γ b') : EvT (tAnd t u) Γ (b && b') := et_and h1 fun _ => h2
theorem et_or2 {t u : TT} {b b' : Bool} (h1 : EvT t Γ b) (h2 : EvT u Γ b') : EvT (tOr t u) Γ (b || b') := et_or h1 fun _ => h2
theorem e_andV2 {b b' : Bool} (h1 : Ev ta Γ (.d (.bool b))) (h2 : Ev tb Γ (.d (.bool b'))) : Ev (tAndV ta tb) Γ (.d (.bool (b && b'))) := e_andV h1 fun _ => h2
theorem e_orV2 {b b' : Bool} (h1 : Ev ta Γ (.d (.bool b))) (h2 : Ev tb Γ (.d (.bool b'))) : Ev (tOrV ta tb) Γ (.d (.bool (b || b'))) := e_orV h1 fun _ => h2
theorem pe3 {u : PyData} {r1 r2 r3 : R2} {b1 b2 b3 : Bool} (ha : Ev ta Γ (.d x)) (hb : Ev tb Γ (.d y)) (hc : Ev tc Γ (.d z)) (hd : Ev td Γ (.d u)) (h1 : Rq r1 x y (.d (.bool b1))) (h2 : Rq r2 y z (.d (.bool b2))) (h3 : Rq r3 z u (.d (.bool b3))) :
    Ev (tChain3 r1 r2 r3 ta tb tc td) Γ (.d (.bool (b1 && (b2 && b3)))) := fun H0 F σ H Q S q =>
  ha H0 F σ H _ S fun v F1 H1 g1 d1 => hb H0 F1 σ H1 _ (S.grow g1) fun w F2 H2 g2 d2 => h1 F2 H2 v w _ g2.ex (Dq.up d1 g2.f) d2 fun k F3 H3 g3 d3 => ⟨b1, dq_bool d3, by
    have g := (g1.trans g2).trans g3
    cases b1 with
    | true =>
      rw [if_pos rfl]
      exact hc H0 F3 σ H3 _ (S.grow g) fun p F4 H4 g4 d4 => h2 F4 H4 w p _ g4.ex (Dq.up d2 (g3.trans g4).f) d4 fun k F5 H5 g5 d5 => ⟨b2, dq_bool d5, by
        have g' := (g.trans g4).trans g5
        cases b2 with
        | true =>
          rw [if_pos rfl]
          exact hd H0 F5 σ H5 _ (S.grow g') fun m F6 H6 g6 d6 => h3 F6 H6 p m Q g6.ex (Dq.up d4 (g5.trans g6).f) d6 fun k F7 H7 g7 d7 => q k F7 H7 ((g'.trans g6).trans g7) d7
        | false =>
          rw [if_neg (by simp)]
          exact q _ F5 H5 g' (dq_sc rfl)⟩
    | false =>
      rw [if_neg (by simp)]
      exact q _ F3 H3 g (dq_sc rfl)⟩
theorem Le.as {s s' : SV} (e : s = s') (h : Le Γ Γ') : Le (s :: Γ) (s' :: Γ') := e ▸ .eq h
def smallL {α : Type} : List α → Bool
  | [] => true
  | [_] => true
  | [_, _] => true
  | [_, _, _] => true
  | [_, _, _, _] => true
  | _ => false
theorem smallL_len {α : Type} {l : List α} (h : smallL l = true) : l.length ≤ sizeLine := by
  refine Nat.le_trans (m := 4) ?_ (by decide)
  match l, h with
  | [], _ => simp
  | [_], _ => simp
  | [_, _], _ => simp
  | [_, _, _], _ => simp
  | [_, _, _, _], _ => simp
theorem e_tupS {tl : TA} {ds : List PyData} (h : EvD tl Γ ds) (hl : smallL ds = true := by rfl) : Ev (tTupN tl) Γ (.d (.tuple ds)) := e_tup h (smallL_len hl)
theorem e_lstS {tl : TA} {ds : List PyData} (h : EvD tl Γ ds) (hl : smallL ds = true := by rfl) : Ev (tLst tl) Γ (.ml ds) := e_lst h (smallL_len hl)
/-! ### == by kind -/
def eqF : PyData → PyData → Bool
  | .int i, .int j => decide (i = j)
  | .str a, .str b => decide (a = b)
  | .bool a, .bool b => decide (a = b)
  | _, _ => false
def eqK : PyData → PyData → Bool
  | .int _, .int _ => true
  | .str _, .str _ => true
  | .bool _, .bool _ => true
  | .none, .str _ => true
  | .str _, .none => true
  | _, _ => false
theorem e_eqA (ha : Ev ta Γ (.d x)) (hb : Ev tb Γ (.d y)) (h : eqK x y = true) : Ev (tOp rEq ta tb) Γ (.d (.bool (eqF x y))) := e_op ha hb fun F H vx vy Q e dx dy q => by
  cases dx <;> cases dy <;> first
    | (cases h; done)
    | exact ⟨rfl, q _ F H (Gr.refl e) (dq_sc (by show some (V.bl (decide _)) = some (V.bl (decide _)); congr 2; simp))⟩
    | exact ⟨rfl, q _ F H (Gr.refl e) (dq_sc (by show some (V.bl false) = some (V.bl (decide _)); simp))⟩
theorem e_neA (ha : Ev ta Γ (.d x)) (hb : Ev tb Γ (.d y)) (h : eqK x y = true) : Ev (tOp rNe ta tb) Γ (.d (.bool (!eqF x y))) := e_op ha hb fun F H vx vy Q e dx dy q => by
  cases dx <;> cases dy <;> first
    | (cases h; done)
    | exact ⟨rfl, q _ F H (Gr.refl e) (dq_sc (by show some (V.bl (!decide _)) = some (V.bl (!decide _)); congr 3; simp))⟩
    | exact ⟨rfl, q _ F H (Gr.refl e) (dq_sc (by show some (V.bl (!false)) = some (V.bl (!decide _)); simp))⟩
/-! ### len by kind -/
def lenF : PyData → Nat
  | .list xs => xs.length
  | .tuple xs => xs.length
  | _ => 0
def lenK : PyData → Bool
  | .list _ => true
  | .tuple _ => true
  | _ => false
theorem e_lenA (h : Ev te Γ (.d x)) (hk : lenK x = true) : Ev (tCB (rLenQ K) (tCons te tNil)) Γ (.d (.int (lenF x))) := by
  cases x with
  | list xs => exact e_cb (d_cons h d_nil) cq_len
  | tuple xs => exact e_cb (d_cons h d_nil) cq_lenT
  | _ => cases hk
/-! ### items of lists given by a function -/
theorem e_ixI {ns : List Int} (ha : Ev ta Γ (.d (.list (ns.map .int)))) (hb : Ev tb Γ (.d (.int i))) (h0 : 0 ≤ i) (h1 : i.toNat < ns.length) : Ev (tOp (rIxL K) ta tb) Γ (.d (.int (ns.getD i.toNat 0))) := e_ixL ha hb h0 (by
  rw [List.getElem?_map, List.getElem?_eq_getElem h1, List.getD_eq_getElem?_getD, List.getElem?_eq_getElem h1]
  rfl)
theorem e_ixF {α : Type} {f : α → PyData} {xs : List α} {a : α} (ha : Ev ta Γ (.d (.list (xs.map f)))) (hb : Ev tb Γ (.d (.int i))) (h0 : 0 ≤ i) (h1 : xs[i.toNat]? = some a) : Ev (tOp (rIxL K) ta tb) Γ (.d (f a)) := e_ixL ha hb h0 (by
  rw [List.getElem?_map, h1]
  rfl)
theorem e_ixFT {α : Type} {f : α → PyData} {xs : List α} {a : α} (ha : Ev ta Γ (.d (.tuple (xs.map f)))) (hb : Ev tb Γ (.d (.int i))) (h0 : 0 ≤ i) (h1 : xs[i.toNat]? = some a) : Ev (tOp (rIxT K) ta tb) Γ (.d (f a)) := e_ixT ha hb h0 (by
  rw [List.getElem?_map, h1]
  rfl)
theorem e_ixMF {α : Type} {f : α → PyData} {xs : List α} {a : α} (hn : Γ[n]? = some (.ml (xs.map f))) (hb : Ev tb Γ (.d (.int i))) (h0 : 0 ≤ i) (h1 : xs[i.toNat]? = some a) : Ev (tOp (rIxL K) (tVar n) tb) Γ (.d (f a)) := e_ixM hn hb h0 (by
  rw [List.getElem?_map, h1]
  rfl)
/-- tuple.index of texts -/
theorem e_index {xs : List Str} {c : Str} {k : Nat} (ha : Ev ta Γ (.d (.tuple (xs.map .str)))) (hb : Ev tb Γ (.d (.str c))) (h1 : xs[k]? = some c) (h2 : ∀ m, m < k → xs[m]? ≠ some c) : Ev (tBMT (fun x ys H Q => ∃ p, ∃ zs : List Str, ∃ z j, x = .ref p ∧ ys = [.str z] ∧ SqT K H p (zs.map V.str) ∧ zs[j]? = some z ∧ (∀ m, m < j → zs[m]? ≠ some z) ∧ Q (.int (j : Nat)) H) ta (tCons tb tNil)) Γ (.d (.int k)) := fun H0 F σ H Q S q =>
  ha H0 F σ H _ S fun v F1 H1 g1 d1 => by
    cases d1 with
    | tup k1 k3 k2 =>
      have := k2.strs
      subst this
      refine ⟨⟨_, _, _, rfl, g1.ex _ _ k1, k3⟩, hb H0 F1 σ H1 _ (S.grow g1) fun w F2 H2 g2 d2 => ?_⟩
      cases d2
      exact ⟨_, xs, c, k, rfl, rfl, .inl (.inr ⟨_, g2.ex _ _ (g2.f _ _ k1)⟩), h1, h2, q _ F2 H2 (g1.trans g2) (.int _)⟩
/-- least datum -/
theorem dqa_at2 {F : Hp} {vs : List V} {ds : List PyData} (h : DqA F vs ds) {i : Nat} {v : V} {d : PyData} (h1 : vs[i]? = some v) (h2 : ds[i]? = some d) : Dq F v d := by
  obtain ⟨w, k1, k2⟩ := h.get h2
  rw [h1] at k1
  cases k1
  exact k2
theorem cq_minD {ds : List PyData} (ha : AlikeAll (d :: ds)) (hz : PyData.depthAll (d :: ds) ≤ 50) : Cq (rMinD K) [.list (d :: ds)] (.d (minD d ds)) := fun F H vs Q e h q => by
  obtain ⟨v, rfl, h1⟩ := dqa1 h
  obtain ⟨a, xs, rfl, h2, h3⟩ := dq_lst h1
  exact ⟨a, xs, d, ds, rfl, sql e h2, (h3.up e).dp, ha, hz, fun i x hx hd => q x F H (Gr.refl e) (dqa_at2 h3 hx hd)⟩
def minDf (z : PyData) : List PyData → PyData
  | [] => z
  | y :: ys => minD y ys
/-- min(xs, default = x) -/
theorem e_minDef {ds : List PyData} (h : Ev te Γ (.d (.list ds))) (hd : Ev ta Γ (.d z)) (ha : AlikeAll ds) (hz : PyData.depthAll ds ≤ 50) : Ev (tCKw (rMinDef K) (tCons te tNil) (tCons ta tNil)) Γ (.d (minDf z ds)) := fun H0 F σ H Q S q =>
  h H0 F σ H _ S fun v F1 H1 g1 d1 => hd H0 F1 σ H1 _ (S.grow g1) fun w F2 H2 g2 d2 => by
    obtain ⟨a, xs, rfl, h2, h3⟩ := dq_lst (Dq.up d1 g2.f)
    refine ⟨a, xs, ds, w, rfl, rfl, sql g2.ex h2, (h3.up g2.ex).dp, ha, hz, fun e => ?_, fun y ys i x e hx hd => ?_⟩
    · subst e
      exact q _ F2 H2 (g1.trans g2) d2
    · subst e
      exact q _ F2 H2 (g1.trans g2) (dqa_at2 h3 hx hd)
/-- sorted -/
theorem cq_sortedT {xs : List Str} {r : SV} (hl : xs.length < 64) (h : ∀ ys : List Str, ys.Perm xs → sortedS ys = true → r = .ml (ys.map .str)) : Cq (rSortedT K) [.tuple (xs.map .str)] r := fun F H vs Q e h' q => by
  obtain ⟨v, rfl, h1⟩ := dqa1 h'
  obtain ⟨a, ws, rfl, h2, h3⟩ := dq_tup h1
  have := h3.strs
  subst this
  refine ⟨a, xs, rfl, sqt e h2, hl, fun ys p k1 k2 hp => ?_⟩
  rw [h ys k1 k2] at q
  exact q _ F _ (Gr.newM e hp) ⟨p, _, rfl, hp, e.free hp, upd_same, .ofStrs⟩
/-- dict(pairs) -/
def pairsD (kvs : List (Str × PyData)) : List PyData := kvs.map fun p => .tuple [.str p.1, p.2]
theorem pairs_split {F : Hp} : ∀ {kvs : List (Str × PyData)} {vs : List V}, DqA F vs (pairsD kvs) → ∃ (ps : List Addr) (ws : List (Key × V)), vs = ps.map V.ref ∧ Paired (fun p kv => Rd F p (.tup [kV kv.1, kv.2])) ps ws ∧ KVq F ws kvs
  | [], _, h => by cases h; exact ⟨[], [], rfl, .nil, .nil⟩
  | (s, d) :: r, _, h => by
    cases h with
    | cons h1 h2 =>
      obtain ⟨ps, ws, e1, e2, e3⟩ := pairs_split h2
      obtain ⟨a, xs, rfl, k1, k2⟩ := dq_tup h1
      obtain ⟨u, w, rfl, m1, m2⟩ := dqa2 k2
      cases m1
      exact ⟨a :: ps, (.inr s, w) :: ws, by rw [e1]; rfl, .cons k1 e2, .cons ⟨rfl, m2⟩ e3⟩
def mergeG {β : Type} (kvs : List (Str × β)) : List (Str × β) := kvs.foldl (fun acc kv => putG acc kv.1 kv.2) []
theorem kvq_merge {F : Hp} : ∀ {ws : List (Key × V)} {kvs : List (Str × PyData)} {as : List (Key × V)} {acc : List (Str × PyData)}, KVq F ws kvs → KVq F as acc → KVq F (mergeK as ws) (kvs.foldl (fun acc kv => putG acc kv.1 kv.2) acc)
  | _, _, _, _, .nil, h => h
  | _, _, _, _, .cons (a := ⟨x, u⟩) (b := ⟨y, e⟩) h1 t, h => by
    obtain ⟨e1, e2⟩ := h1
    (try dsimp only at e1 e2)
    subst e1
    have k := kvq_put (s := y) h e2
    have := kvq_merge (F := F) t k
    exact this
theorem cq_dict {kvs : List (Str × PyData)} : Cq (fun xs H Q => ∃ (a : Addr) (ps : List Addr) (kvs : List (Key × V)), xs = [.ref a] ∧ SqL K H a (ps.map V.ref) ∧ Paired (fun p kv => SqT K H p [kV kv.1, kv.2]) ps kvs ∧
    ∀ p, H p = none → Q (.ref p) (upd H p (.dK (mergeK [] kvs)))) [.list (pairsD kvs)] (.md (mergeG kvs)) := fun F H vs Q e h q => by
  obtain ⟨v, rfl, h1⟩ := dqa1 h
  obtain ⟨a, ws, rfl, h2, h3⟩ := dq_lst h1
  obtain ⟨ps, us, rfl, h4, h5⟩ := pairs_split h3
  exact ⟨a, ps, us, rfl, sql e h2, Paired.mapP h4 fun _ _ k => sqt e k, fun p hp => q _ F _ (Gr.newM e hp) ⟨p, _, rfl, hp, e.free hp, upd_same, kvq_merge h5 .nil⟩⟩
theorem valG_merge {β : Type} (s : Str) : ∀ (kvs acc : List (Str × β)), (kvs.map (·.1)).Nodup → (∀ p ∈ kvs, valG acc p.1 = none) → valG (kvs.foldl (fun acc kv => putG acc kv.1 kv.2) acc) s = (valG kvs s).or (valG acc s)
  | [], acc, _, _ => rfl
  | p :: r, acc, nd, h => by
    rw [List.map_cons, List.nodup_cons] at nd
    rw [List.foldl_cons, valG_merge s r _ nd.2 (fun q hq => ?_), valG_put, valG_cons]
    · by_cases hs : p.1 = s
      · have : valG r s = none := by
          rw [← hs]
          unfold valG
          rw [List.find?_eq_none.mpr fun q hq => ?_]
          · rfl
          · have : q.1 ≠ p.1 := fun e => nd.1 (by rw [← e]; exact List.mem_map_of_mem hq)
            simpa using this
        simp [hs, this]
      · simp [hs]
    · rw [valG_put, if_neg (fun e => nd.1 (by rw [e]; exact List.mem_map_of_mem hq))]
      exact h q (List.mem_cons_of_mem _ hq)
end
end Ef
/-! What the top has written, by names; short words for derivations; each def's names and how it is called. -/
namespace Ef
open PySem PySem.Spec PyProof.Rows L2
section
variable {X : Cx} {x : Str} {e : Expr} {te : TE} {pos pos' : Pos}
theorem pgn (i : Nat) (hN : X.N.Nodup) (hi : X.N[i]? = some x := by rfl) (hx : Loc X.env.scope x := by first | exact Or.inl rfl | exact Or.inr rfl) (hf : X.fn x = true ∨ X.env.scope.names.lookup x = some .local := by first | exact Or.inl rfl | exact Or.inr rfl) : PG X (.Name x pos) (gName i) := pg_name hN hi hx hf
theorem pset (i : Nat) (hN : X.N.Nodup) (he : PE X e te) (hi : X.N[i]? = some x := by rfl) (hx : Loc X.env.scope x := by first | exact Or.inl rfl | exact Or.inr rfl) (hs : swapsWith e (some (.Name x pos')) pos.line X.env = pure false := by rfl) (hf : X.fn x = true ∨ X.env.scope.names.lookup x = some .local := by first | exact Or.inl rfl | exact Or.inr rfl) :
    PS X (.Assign [.Name x pos'] e pos) (tAsg te (gName i)) := ps_set hN hi hx he hs hf
theorem paug (i : Nat) {op : Operator} {ti : TIp} (hN : X.N.Nodup) (he : PE X e te) (ho : PIp X op ti) (hi : X.N[i]? = some x := by rfl) (hx : Loc X.env.scope x := by first | exact Or.inl rfl | exact Or.inr rfl) (hf : X.fn x = true ∨ X.env.scope.names.lookup x = some .local := by first | exact Or.inl rfl | exact Or.inr rfl) :
    PS X (.AugAssign (.Name x pos') op e pos) (tAug i te ti) := ps_aug hN hi hx he ho hf
end
structure Tx (K : Frag) (mg : Str → Option Value) where
  fd_check_winds : FuncData
  F_check_winds : FunD K "check_winds" "check_winds" (defArgs s_check_winds) (defBody s_check_winds) (defScope s_check_winds) [] [] (He.fAd K ("check_winds", none)) fd_check_winds
  g_check_winds : mg "check_winds" = some (.ref (He.fAd K ("check_winds", none)))
  fd_check_changes : FuncData
  F_check_changes : FunD K "check_changes" "check_changes" (defArgs s_check_changes) (defBody s_check_changes) (defScope s_check_changes) [] [] (He.fAd K ("check_changes", none)) fd_check_changes
  g_check_changes : mg "check_changes" = some (.ref (He.fAd K ("check_changes", none)))
  fd_blowing : FuncData
  F_blowing : FunD K "blowing" "blowing" (defArgs s_blowing) (defBody s_blowing) (defScope s_blowing) [] [] (He.fAd K ("blowing", none)) fd_blowing
  g_blowing : mg "blowing" = some (.ref (He.fAd K ("blowing", none)))
  fd_chances : FuncData
  F_chances : FunD K "chances" "chances" (defArgs s_chances) (defBody s_chances) (defScope s_chances) [] [] (He.fAd K ("chances", none)) fd_chances
  g_chances : mg "chances" = some (.ref (He.fAd K ("chances", none)))
  fd_least_numbers : FuncData
  F_least_numbers : FunD K "least_numbers" "least_numbers" (defArgs s_least_numbers) (defBody s_least_numbers) (defScope s_least_numbers) [] [] (He.fAd K ("least_numbers", none)) fd_least_numbers
  g_least_numbers : mg "least_numbers" = some (.ref (He.fAd K ("least_numbers", none)))
  fd_is_number : FuncData
  F_is_number : FunD K "is_number" "is_number" (defArgs s_is_number) (defBody s_is_number) (defScope s_is_number) [] [] (He.fAd K ("is_number", none)) fd_is_number
  g_is_number : mg "is_number" = some (.ref (He.fAd K ("is_number", none)))
  fd_check_numbers : FuncData
  F_check_numbers : FunD K "check_numbers" "check_numbers" (defArgs s_check_numbers) (defBody s_check_numbers) (defScope s_check_numbers) [] [] (He.fAd K ("check_numbers", none)) fd_check_numbers
  g_check_numbers : mg "check_numbers" = some (.ref (He.fAd K ("check_numbers", none)))
  fd_check_rows : FuncData
  F_check_rows : FunD K "check_rows" "check_rows" (defArgs s_check_rows) (defBody s_check_rows) (defScope s_check_rows) [] [] (He.fAd K ("check_rows", none)) fd_check_rows
  g_check_rows : mg "check_rows" = some (.ref (He.fAd K ("check_rows", none)))
  fd_least_minutes : FuncData
  F_least_minutes : FunD K "least_minutes" "least_minutes" (defArgs s_least_minutes) (defBody s_least_minutes) (defScope s_least_minutes) [] [] (He.fAd K ("least_minutes", none)) fd_least_minutes
  g_least_minutes : mg "least_minutes" = some (.ref (He.fAd K ("least_minutes", none)))
  fd_caught : FuncData
  F_caught : FunD K "caught" "caught" (defArgs s_caught) (defBody s_caught) (defScope s_caught) [] [] (He.fAd K ("caught", none)) fd_caught
  g_caught : mg "caught" = some (.ref (He.fAd K ("caught", none)))
  fd_spread : FuncData
  F_spread : FunD K "spread" "spread" (defArgs s_spread) (defBody s_spread) (defScope s_spread) [] [] (He.fAd K ("spread", none)) fd_spread
  g_spread : mg "spread" = some (.ref (He.fAd K ("spread", none)))
  fd_check_fire : FuncData
  F_check_fire : FunD K "check_fire" "check_fire" (defArgs s_check_fire) (defBody s_check_fire) (defScope s_check_fire) [] [] (He.fAd K ("check_fire", none)) fd_check_fire
  g_check_fire : mg "check_fire" = some (.ref (He.fAd K ("check_fire", none)))
  fd_told : FuncData
  F_told : FunD K "told" "told" (defArgs s_told) (defBody s_told) (defScope s_told) [] [] (He.fAd K ("told", none)) fd_told
  g_told : mg "told" = some (.ref (He.fAd K ("told", none)))
  fd_burning : FuncData
  F_burning : FunD K "burning" "burning" (defArgs s_burning) (defBody s_burning) (defScope s_burning) [] [] (He.fAd K ("burning", none)) fd_burning
  g_burning : mg "burning" = some (.ref (He.fAd K ("burning", none)))
  fd_fastest : FuncData
  F_fastest : FunD K "fastest" "fastest" (defArgs s_fastest) (defBody s_fastest) (defScope s_fastest) [] [] (He.fAd K ("fastest", none)) fd_fastest
  g_fastest : mg "fastest" = some (.ref (He.fAd K ("fastest", none)))
  fd_is_name : FuncData
  F_is_name : FunD K "is_name" "is_name" (defArgs s_is_name) (defBody s_is_name) (defScope s_is_name) [] [] (He.fAd K ("is_name", none)) fd_is_name
  g_is_name : mg "is_name" = some (.ref (He.fAd K ("is_name", none)))
  fd_are_different : FuncData
  F_are_different : FunD K "are_different" "are_different" (defArgs s_are_different) (defBody s_are_different) (defScope s_are_different) [] [] (He.fAd K ("are_different", none)) fd_are_different
  g_are_different : mg "are_different" = some (.ref (He.fAd K ("are_different", none)))
  fd_require : FuncData
  F_require : FunD K "require" "require" (defArgs s_require) (defBody s_require) (defScope s_require) [] [] (He.fAd K ("require", none)) fd_require
  g_require : mg "require" = some (.ref (He.fAd K ("require", none)))
  fd_checked_times : FuncData
  F_checked_times : FunD K "checked_times" "checked_times" (defArgs s_checked_times) (defBody s_checked_times) (defScope s_checked_times) [] [] (He.fAd K ("checked_times", none)) fd_checked_times
  g_checked_times : mg "checked_times" = some (.ref (He.fAd K ("checked_times", none)))
  fd_Land_init : FuncData
  F_Land_init : FunD K "__init__" "Land.__init__" (defArgs s_Land_init) (defBody s_Land_init) (defScope s_Land_init) [] [] (He.fAd K ("Land", some "__init__")) fd_Land_init
  fd_Land_are_ends : FuncData
  F_Land_are_ends : FunD K "are_ends" "Land.are_ends" (defArgs s_Land_are_ends) (defBody s_Land_are_ends) (defScope s_Land_are_ends) [] [] (He.fAd K ("Land", some "are_ends")) fd_Land_are_ends
  fd_Land_checked_link : FuncData
  F_Land_checked_link : FunD K "checked_link" "Land.checked_link" (defArgs s_Land_checked_link) (defBody s_Land_checked_link) (defScope s_Land_checked_link) [] [] (He.fAd K ("Land", some "checked_link")) fd_Land_checked_link
  fd_Land_checked_path : FuncData
  F_Land_checked_path : FunD K "checked_path" "Land.checked_path" (defArgs s_Land_checked_path) (defBody s_Land_checked_path) (defScope s_Land_checked_path) [] [] (He.fAd K ("Land", some "checked_path")) fd_Land_checked_path
  fd_Land_check_place : FuncData
  F_Land_check_place : FunD K "check_place" "Land.check_place" (defArgs s_Land_check_place) (defBody s_Land_check_place) (defScope s_Land_check_place) [] [] (He.fAd K ("Land", some "check_place")) fd_Land_check_place
  fd_Land_check_wind : FuncData
  F_Land_check_wind : FunD K "check_wind" "Land.check_wind" (defArgs s_Land_check_wind) (defBody s_Land_check_wind) (defScope s_Land_check_wind) [] [] (He.fAd K ("Land", some "check_wind")) fd_Land_check_wind
  fd_Land_walks_from : FuncData
  F_Land_walks_from : FunD K "walks_from" "Land.walks_from" (defArgs s_Land_walks_from) (defBody s_Land_walks_from) (defScope s_Land_walks_from) [] [] (He.fAd K ("Land", some "walks_from")) fd_Land_walks_from
  fd_Land_minutes_between : FuncData
  F_Land_minutes_between : FunD K "minutes_between" "Land.minutes_between" (defArgs s_Land_minutes_between) (defBody s_Land_minutes_between) (defScope s_Land_minutes_between) [] [] (He.fAd K ("Land", some "minutes_between")) fd_Land_minutes_between
  fd_check_hands : FuncData
  F_check_hands : FunD K "check_hands" "check_hands" (defArgs s_check_hands) (defBody s_check_hands) (defScope s_check_hands) [] [] (He.fAd K ("check_hands", none)) fd_check_hands
  g_check_hands : mg "check_hands" = some (.ref (He.fAd K ("check_hands", none)))
  fd_Course_init : FuncData
  F_Course_init : FunD K "__init__" "Course.__init__" (defArgs s_Course_init) (defBody s_Course_init) (defScope s_Course_init) [] [] (He.fAd K ("Course", some "__init__")) fd_Course_init
  fd_stays : FuncData
  F_stays : FunD K "stays" "stays" (defArgs s_stays) (defBody s_stays) (defScope s_stays) [] [] (He.fAd K ("stays", none)) fd_stays
  g_stays : mg "stays" = some (.ref (He.fAd K ("stays", none)))
  fd_breaks_of : FuncData
  F_breaks_of : FunD K "breaks_of" "breaks_of" (defArgs s_breaks_of) (defBody s_breaks_of) (defScope s_breaks_of) [] [] (He.fAd K ("breaks_of", none)) fd_breaks_of
  g_breaks_of : mg "breaks_of" = some (.ref (He.fAd K ("breaks_of", none)))
  fd_is_danger : FuncData
  F_is_danger : FunD K "is_danger" "is_danger" (defArgs s_is_danger) (defBody s_is_danger) (defScope s_is_danger) [] [] (He.fAd K ("is_danger", none)) fd_is_danger
  g_is_danger : mg "is_danger" = some (.ref (He.fAd K ("is_danger", none)))
  fd_dangers : FuncData
  F_dangers : FunD K "dangers" "dangers" (defArgs s_dangers) (defBody s_dangers) (defScope s_dangers) [] [] (He.fAd K ("dangers", none)) fd_dangers
  g_dangers : mg "dangers" = some (.ref (He.fAd K ("dangers", none)))
  fd_is_safe : FuncData
  F_is_safe : FunD K "is_safe" "is_safe" (defArgs s_is_safe) (defBody s_is_safe) (defScope s_is_safe) [] [] (He.fAd K ("is_safe", none)) fd_is_safe
  g_is_safe : mg "is_safe" = some (.ref (He.fAd K ("is_safe", none)))
  fd_keeps : FuncData
  F_keeps : FunD K "keeps" "keeps" (defArgs s_keeps) (defBody s_keeps) (defScope s_keeps) [] [] (He.fAd K ("keeps", none)) fd_keeps
  g_keeps : mg "keeps" = some (.ref (He.fAd K ("keeps", none)))
  fd_l_row : FuncData
  F_l_row : FunD K "_law_row" "_law_row" (defArgs s_l_row) (defBody s_l_row) (defScope s_l_row) [] [] (He.fAd K ("_law_row", none)) fd_l_row
  g_l_row : mg "_law_row" = some (.ref (He.fAd K ("_law_row", none)))
  fd_l_numbers : FuncData
  F_l_numbers : FunD K "_law_numbers" "_law_numbers" (defArgs s_l_numbers) (defBody s_l_numbers) (defScope s_l_numbers) [] [] (He.fAd K ("_law_numbers", none)) fd_l_numbers
  g_l_numbers : mg "_law_numbers" = some (.ref (He.fAd K ("_law_numbers", none)))
  fd_l_names : FuncData
  F_l_names : FunD K "_law_names" "_law_names" (defArgs s_l_names) (defBody s_l_names) (defScope s_l_names) [] [] (He.fAd K ("_law_names", none)) fd_l_names
  g_l_names : mg "_law_names" = some (.ref (He.fAd K ("_law_names", none)))
  fd_l_parts : FuncData
  F_l_parts : FunD K "_law_parts" "_law_parts" (defArgs s_l_parts) (defBody s_l_parts) (defScope s_l_parts) [] [] (He.fAd K ("_law_parts", none)) fd_l_parts
  g_l_parts : mg "_law_parts" = some (.ref (He.fAd K ("_law_parts", none)))
  fd_l_weather : FuncData
  F_l_weather : FunD K "_law_weather" "_law_weather" (defArgs s_l_weather) (defBody s_l_weather) (defScope s_l_weather) [] [] (He.fAd K ("_law_weather", none)) fd_l_weather
  g_l_weather : mg "_law_weather" = some (.ref (He.fAd K ("_law_weather", none)))
  fd_l_wind : FuncData
  F_l_wind : FunD K "_law_wind" "_law_wind" (defArgs s_l_wind) (defBody s_l_wind) (defScope s_l_wind) [] [] (He.fAd K ("_law_wind", none)) fd_l_wind
  g_l_wind : mg "_law_wind" = some (.ref (He.fAd K ("_law_wind", none)))
  fd_l_caught : FuncData
  F_l_caught : FunD K "_law_caught" "_law_caught" (defArgs s_l_caught) (defBody s_l_caught) (defScope s_l_caught) [] [] (He.fAd K ("_law_caught", none)) fd_l_caught
  g_l_caught : mg "_law_caught" = some (.ref (He.fAd K ("_law_caught", none)))
  fd_l_fire : FuncData
  F_l_fire : FunD K "_law_fire" "_law_fire" (defArgs s_l_fire) (defBody s_l_fire) (defScope s_l_fire) [] [] (He.fAd K ("_law_fire", none)) fd_l_fire
  g_l_fire : mg "_law_fire" = some (.ref (He.fAd K ("_law_fire", none)))
  fd_l_rows : FuncData
  F_l_rows : FunD K "_law_rows" "_law_rows" (defArgs s_l_rows) (defBody s_l_rows) (defScope s_l_rows) [] [] (He.fAd K ("_law_rows", none)) fd_l_rows
  g_l_rows : mg "_law_rows" = some (.ref (He.fAd K ("_law_rows", none)))
  fd_l_make : FuncData
  F_l_make : FunD K "_law_make" "_law_make" (defArgs s_l_make) (defBody s_l_make) (defScope s_l_make) [] [] (He.fAd K ("_law_make", none)) fd_l_make
  g_l_make : mg "_law_make" = some (.ref (He.fAd K ("_law_make", none)))
  fd_l_walks : FuncData
  F_l_walks : FunD K "_law_walks" "_law_walks" (defArgs s_l_walks) (defBody s_l_walks) (defScope s_l_walks) [] [] (He.fAd K ("_law_walks", none)) fd_l_walks
  g_l_walks : mg "_law_walks" = some (.ref (He.fAd K ("_law_walks", none)))
  fd_l_hands : FuncData
  F_l_hands : FunD K "_law_hands" "_law_hands" (defArgs s_l_hands) (defBody s_l_hands) (defScope s_l_hands) [] [] (He.fAd K ("_law_hands", none)) fd_l_hands
  g_l_hands : mg "_law_hands" = some (.ref (He.fAd K ("_law_hands", none)))
  fd_l_course : FuncData
  F_l_course : FunD K "_law_course" "_law_course" (defArgs s_l_course) (defBody s_l_course) (defScope s_l_course) [] [] (He.fAd K ("_law_course", none)) fd_l_course
  g_l_course : mg "_law_course" = some (.ref (He.fAd K ("_law_course", none)))
  fd_l_cut : FuncData
  F_l_cut : FunD K "_law_cut" "_law_cut" (defArgs s_l_cut) (defBody s_l_cut) (defScope s_l_cut) [] [] (He.fAd K ("_law_cut", none)) fd_l_cut
  g_l_cut : mg "_law_cut" = some (.ref (He.fAd K ("_law_cut", none)))
  fd_l_met : FuncData
  F_l_met : FunD K "_law_met" "_law_met" (defArgs s_l_met) (defBody s_l_met) (defScope s_l_met) [] [] (He.fAd K ("_law_met", none)) fd_l_met
  g_l_met : mg "_law_met" = some (.ref (He.fAd K ("_law_met", none)))
  fd_l_any_fire : FuncData
  F_l_any_fire : FunD K "_law_any_fire" "_law_any_fire" (defArgs s_l_any_fire) (defBody s_l_any_fire) (defScope s_l_any_fire) [] [] (He.fAd K ("_law_any_fire", none)) fd_l_any_fire
  g_l_any_fire : mg "_law_any_fire" = some (.ref (He.fAd K ("_law_any_fire", none)))
  fd_law : FuncData
  F_law : FunD K "law" "law" (defArgs s_law) (defBody s_law) (defScope s_law) [] [] (He.fAd K ("law", none)) fd_law
  g_law : mg "law" = some (.ref (He.fAd K ("law", none)))
  fd_Land_link_names : FuncData
  F_Land_link_names : FunD K "link_names" "Land.link_names" (defArgs s_Land_link_names) (defBody s_Land_link_names) (defScope s_Land_link_names) [] [] (gA K) fd_Land_link_names
  m_all : mg "all" = none
  m_any : mg "any" = none
  m_min : mg "min" = none
  m_max : mg "max" = none
  m_len : mg "len" = none
  m_tuple : mg "tuple" = none
  m_list : mg "list" = none
  m_dict : mg "dict" = none
  m_set : mg "set" = none
  m_zip : mg "zip" = none
  m_enumerate : mg "enumerate" = none
  m_range : mg "range" = none
  m_sorted : mg "sorted" = none
  m_int : mg "int" = none
  m_abs : mg "abs" = none
  tk_MOST_CHANGES : Tok
  i_MOST_CHANGES : mg "MOST_CHANGES" = some (.int 40 tk_MOST_CHANGES)
  tk_MOST_MINUTE : Tok
  i_MOST_MINUTE : mg "MOST_MINUTE" = some (.int 100000 tk_MOST_MINUTE)
  tk_MOST_NAME_CHARS : Tok
  i_MOST_NAME_CHARS : mg "MOST_NAME_CHARS" = some (.int 12 tk_MOST_NAME_CHARS)
  tk_MOST_WINDS : Tok
  i_MOST_WINDS : mg "MOST_WINDS" = some (.int 4 tk_MOST_WINDS)
  tk_MOST_PLACES : Tok
  i_MOST_PLACES : mg "MOST_PLACES" = some (.int 24 tk_MOST_PLACES)
  tk_MOST_LINKS : Tok
  i_MOST_LINKS : mg "MOST_LINKS" = some (.int 60 tk_MOST_LINKS)
  tk_MOST_PATHS : Tok
  i_MOST_PATHS : mg "MOST_PATHS" = some (.int 60 tk_MOST_PATHS)
  tk_MOST_MINUTES_lands : Tok
  i_MOST_MINUTES_lands : mg "MOST_MINUTES_lands" = some (.int 1000 tk_MOST_MINUTES_lands)
  tk_MOST_HANDS : Tok
  i_MOST_HANDS : mg "MOST_HANDS" = some (.int 5 tk_MOST_HANDS)
  tk_MOST_DEEDS : Tok
  i_MOST_DEEDS : mg "MOST_DEEDS" = some (.int 30 tk_MOST_DEEDS)
  tk_MOST_MINUTES_hands : Tok
  i_MOST_MINUTES_hands : mg "MOST_MINUTES_hands" = some (.int 1000 tk_MOST_MINUTES_hands)
  tk_NAME_CHARS : Tok
  i_NAME_CHARS : mg "NAME_CHARS" = some (.str "abcdefghijklmnopqrstuvwxyz0123456789" tk_NAME_CHARS)
  cLand : Cls K (He.ga K "Land")
  mkLand : Mk K (He.ga K "Land") (He.fAd K ("Land", some "__init__"))
  g_Land : mg "Land" = some (.ref (He.ga K "Land"))
  cCourse : Cls K (He.ga K "Course")
  mkCourse : Mk K (He.ga K "Course") (He.fAd K ("Course", some "__init__"))
  g_Course : mg "Course" = some (.ref (He.ga K "Course"))
  n_winds : NoAttr K (He.ga K "Land") "winds"
  n_places : NoAttr K (He.ga K "Land") "places"
  n_links : NoAttr K (He.ga K "Land") "links"
  n_paths : NoAttr K (He.ga K "Land") "paths"
  n_stays : NoAttr K (He.ga K "Course") "stays"
  n_cuts : NoAttr K (He.ga K "Course") "cuts"
  n_end : NoAttr K (He.ga K "Course") "end"
  me_are_ends : Meth K (He.ga K "Land") "are_ends" (He.fAd K ("Land", some "are_ends"))
  me_checked_link : Meth K (He.ga K "Land") "checked_link" (He.fAd K ("Land", some "checked_link"))
  me_checked_path : Meth K (He.ga K "Land") "checked_path" (He.fAd K ("Land", some "checked_path"))
  me_check_place : Meth K (He.ga K "Land") "check_place" (He.fAd K ("Land", some "check_place"))
  me_check_wind : Meth K (He.ga K "Land") "check_wind" (He.fAd K ("Land", some "check_wind"))
  me_walks_from : Meth K (He.ga K "Land") "walks_from" (He.fAd K ("Land", some "walks_from"))
  me_minutes_between : Meth K (He.ga K "Land") "minutes_between" (He.fAd K ("Land", some "minutes_between"))
  prop : PropOf K (He.ga K "Land") "link_names" (pA K) (gA K)
abbrev N_check_winds : List Str := ["land", "weather", "_", "wind"]
theorem sc_check_winds : FnScope N_check_winds ["land", "weather"] (defScope s_check_winds) := ⟨rfl, rfl, rfl, by decide +kernel, rfl, by decide +kernel, by decide +kernel⟩
theorem b_check_winds {K : Frag} {mg : Str → Option Value} (T : Tx K mg) : Binds K T.fd_check_winds ["land", "weather"] [] := T.F_check_winds.bindsN fun _ _ _ _ _ _ us hl => match us, hl with | [_, _], _ => rfl
abbrev N_check_changes : List Str := ["weather", "minutes", "minute", "_", "later"]
theorem sc_check_changes : FnScope N_check_changes ["weather"] (defScope s_check_changes) := ⟨rfl, rfl, rfl, by decide +kernel, rfl, by decide +kernel, by decide +kernel⟩
theorem b_check_changes {K : Frag} {mg : Str → Option Value} (T : Tx K mg) : Binds K T.fd_check_changes ["weather"] [] := T.F_check_changes.bindsN fun _ _ _ _ _ _ us hl => match us, hl with | [_], _ => rfl
abbrev N_blowing : List Str := ["weather", "minute", "start", "wind"]
theorem sc_blowing : FnScope N_blowing ["weather", "minute"] (defScope s_blowing) := ⟨rfl, rfl, rfl, by decide +kernel, rfl, by decide +kernel, by decide +kernel⟩
theorem b_blowing {K : Frag} {mg : Str → Option Value} (T : Tx K mg) : Binds K T.fd_blowing ["weather", "minute"] [] := T.F_blowing.bindsN fun _ _ _ _ _ _ us hl => match us, hl with | [_, _], _ => rfl
abbrev N_chances : List Str := ["weather", "minute", "start", "_"]
theorem sc_chances : FnScope N_chances ["weather", "minute"] (defScope s_chances) := ⟨rfl, rfl, rfl, by decide +kernel, rfl, by decide +kernel, by decide +kernel⟩
theorem b_chances {K : Frag} {mg : Str → Option Value} (T : Tx K mg) : Binds K T.fd_chances ["weather", "minute"] [] := T.F_chances.bindsN fun _ _ _ _ _ _ us hl => match us, hl with | [_, _], _ => rfl
abbrev N_least_numbers : List Str := ["land", "pair", "link"]
theorem sc_least_numbers : FnScope N_least_numbers ["land"] (defScope s_least_numbers) := ⟨rfl, rfl, rfl, by decide +kernel, rfl, by decide +kernel, by decide +kernel⟩
theorem b_least_numbers {K : Frag} {mg : Str → Option Value} (T : Tx K mg) : Binds K T.fd_least_numbers ["land"] [] := T.F_least_numbers.bindsN fun _ _ _ _ _ _ us hl => match us, hl with | [_], _ => rfl
abbrev N_is_number : List Str := ["number", "pair"]
theorem sc_is_number : FnScope N_is_number ["number", "pair"] (defScope s_is_number) := ⟨rfl, rfl, rfl, by decide +kernel, rfl, by decide +kernel, by decide +kernel⟩
theorem b_is_number {K : Frag} {mg : Str → Option Value} (T : Tx K mg) : Binds K T.fd_is_number ["number", "pair"] [] := T.F_is_number.bindsN fun _ _ _ _ _ _ us hl => match us, hl with | [_, _], _ => rfl
abbrev N_check_numbers : List Str := ["land", "numbers", "row", "link", "number", "pair"]
theorem sc_check_numbers : FnScope N_check_numbers ["land", "numbers"] (defScope s_check_numbers) := ⟨rfl, rfl, rfl, by decide +kernel, rfl, by decide +kernel, by decide +kernel⟩
theorem b_check_numbers {K : Frag} {mg : Str → Option Value} (T : Tx K mg) : Binds K T.fd_check_numbers ["land", "numbers"] [] := T.F_check_numbers.bindsN fun _ _ _ _ _ _ us hl => match us, hl with | [_, _], _ => rfl
abbrev N_check_rows : List Str := ["land", "rows", "place", "_"]
theorem sc_check_rows : FnScope N_check_rows ["land", "rows"] (defScope s_check_rows) := ⟨rfl, rfl, rfl, by decide +kernel, rfl, by decide +kernel, by decide +kernel⟩
theorem b_check_rows {K : Frag} {mg : Str → Option Value} (T : Tx K mg) : Binds K T.fd_check_rows ["land", "rows"] [] := T.F_check_rows.bindsN fun _ _ _ _ _ _ us hl => match us, hl with | [_, _], _ => rfl
abbrev N_least_minutes : List Str := ["rows", "found", "place", "minute"]
theorem sc_least_minutes : FnScope N_least_minutes ["rows"] (defScope s_least_minutes) := ⟨rfl, rfl, rfl, by decide +kernel, rfl, by decide +kernel, by decide +kernel⟩
theorem b_least_minutes {K : Frag} {mg : Str → Option Value} (T : Tx K mg) : Binds K T.fd_least_minutes ["rows"] [] := T.F_least_minutes.bindsN fun _ _ _ _ _ _ us hl => match us, hl with | [_], _ => rfl
abbrev N_caught : List Str := ["land", "weather", "row", "minute", "ends", "start", "number"]
theorem sc_caught : FnScope N_caught ["land", "weather", "row", "minute"] (defScope s_caught) := ⟨rfl, rfl, rfl, by decide +kernel, rfl, by decide +kernel, by decide +kernel⟩
theorem b_caught {K : Frag} {mg : Str → Option Value} (T : Tx K mg) : Binds K T.fd_caught ["land", "weather", "row", "minute"] [] := T.F_caught.bindsN fun _ _ _ _ _ _ us hl => match us, hl with | [_, _, _, _], _ => rfl
abbrev N_spread : List Str := ["land", "weather", "starts", "breaks", "numbers", "broken", "waiting", "place", "minute", "found", "link", "row", "end"]
theorem sc_spread : FnScope N_spread ["land", "weather", "starts", "breaks", "numbers"] (defScope s_spread) := ⟨rfl, rfl, rfl, by decide +kernel, rfl, by decide +kernel, by decide +kernel⟩
theorem b_spread {K : Frag} {mg : Str → Option Value} (T : Tx K mg) : Binds K T.fd_spread ["land", "weather", "starts", "breaks", "numbers"] [] := T.F_spread.bindsN fun _ _ _ _ _ _ us hl => match us, hl with | [_, _, _, _, _], _ => rfl
abbrev N_check_fire : List Str := ["land", "weather", "starts", "breaks"]
theorem sc_check_fire : FnScope N_check_fire ["land", "weather", "starts", "breaks"] (defScope s_check_fire) := ⟨rfl, rfl, rfl, by decide +kernel, rfl, by decide +kernel, by decide +kernel⟩
theorem b_check_fire {K : Frag} {mg : Str → Option Value} (T : Tx K mg) : Binds K T.fd_check_fire ["land", "weather", "starts", "breaks"] [] := T.F_check_fire.bindsN fun _ _ _ _ _ _ us hl => match us, hl with | [_, _, _, _], _ => rfl
abbrev N_told : List Str := ["land", "found", "place"]
theorem sc_told : FnScope N_told ["land", "found"] (defScope s_told) := ⟨rfl, rfl, rfl, by decide +kernel, rfl, by decide +kernel, by decide +kernel⟩
theorem b_told {K : Frag} {mg : Str → Option Value} (T : Tx K mg) : Binds K T.fd_told ["land", "found"] [] := T.F_told.bindsN fun _ _ _ _ _ _ us hl => match us, hl with | [_, _], _ => rfl
abbrev N_burning : List Str := ["land", "weather", "starts", "breaks", "numbers"]
theorem sc_burning : FnScope N_burning ["land", "weather", "starts", "breaks", "numbers"] (defScope s_burning) := ⟨rfl, rfl, rfl, by decide +kernel, rfl, by decide +kernel, by decide +kernel⟩
theorem b_burning {K : Frag} {mg : Str → Option Value} (T : Tx K mg) : Binds K T.fd_burning ["land", "weather", "starts", "breaks", "numbers"] [] := T.F_burning.bindsN fun _ _ _ _ _ _ us hl => match us, hl with | [_, _, _, _, _], _ => rfl
abbrev N_fastest : List Str := ["land", "weather", "starts", "breaks"]
theorem sc_fastest : FnScope N_fastest ["land", "weather", "starts", "breaks"] (defScope s_fastest) := ⟨rfl, rfl, rfl, by decide +kernel, rfl, by decide +kernel, by decide +kernel⟩
theorem b_fastest {K : Frag} {mg : Str → Option Value} (T : Tx K mg) : Binds K T.fd_fastest ["land", "weather", "starts", "breaks"] [] := T.F_fastest.bindsN fun _ _ _ _ _ _ us hl => match us, hl with | [_, _, _, _], _ => rfl
abbrev N_is_name : List Str := ["text", "char"]
theorem sc_is_name : FnScope N_is_name ["text"] (defScope s_is_name) := ⟨rfl, rfl, rfl, by decide +kernel, rfl, by decide +kernel, by decide +kernel⟩
theorem b_is_name {K : Frag} {mg : Str → Option Value} (T : Tx K mg) : Binds K T.fd_is_name ["text"] [] := T.F_is_name.bindsN fun _ _ _ _ _ _ us hl => match us, hl with | [_], _ => rfl
abbrev N_are_different : List Str := ["parts", "number", "part"]
theorem sc_are_different : FnScope N_are_different ["parts"] (defScope s_are_different) := ⟨rfl, rfl, rfl, by decide +kernel, rfl, by decide +kernel, by decide +kernel⟩
theorem b_are_different {K : Frag} {mg : Str → Option Value} (T : Tx K mg) : Binds K T.fd_are_different ["parts"] [] := T.F_are_different.bindsN fun _ _ _ _ _ _ us hl => match us, hl with | [_], _ => rfl
abbrev N_require : List Str := ["holds"]
theorem sc_require : FnScope N_require ["holds"] (defScope s_require) := ⟨rfl, rfl, rfl, by decide +kernel, rfl, by decide +kernel, by decide +kernel⟩
theorem b_require {K : Frag} {mg : Str → Option Value} (T : Tx K mg) : Binds K T.fd_require ["holds"] [] := T.F_require.bindsN fun _ _ _ _ _ _ us hl => match us, hl with | [_], _ => rfl
abbrev N_checked_times : List Str := ["times", "many", "found", "pair"]
theorem sc_checked_times : FnScope N_checked_times ["times", "many"] (defScope s_checked_times) := ⟨rfl, rfl, rfl, by decide +kernel, rfl, by decide +kernel, by decide +kernel⟩
theorem b_checked_times {K : Frag} {mg : Str → Option Value} (T : Tx K mg) : Binds K T.fd_checked_times ["times", "many"] [] := T.F_checked_times.bindsN fun _ _ _ _ _ _ us hl => match us, hl with | [_, _], _ => rfl
abbrev N_check_hands : List Str := ["land", "hands", "names", "hand", "name", "_", "place", "deeds", "word", "part", "number"]
theorem sc_check_hands : FnScope N_check_hands ["land", "hands"] (defScope s_check_hands) := ⟨rfl, rfl, rfl, by decide +kernel, rfl, by decide +kernel, by decide +kernel⟩
theorem b_check_hands {K : Frag} {mg : Str → Option Value} (T : Tx K mg) : Binds K T.fd_check_hands ["land", "hands"] [] := T.F_check_hands.bindsN fun _ _ _ _ _ _ us hl => match us, hl with | [_, _], _ => rfl
abbrev N_stays : List Str := ["land", "hands", "found", "hand", "place", "since", "until"]
theorem sc_stays : FnScope N_stays ["land", "hands"] (defScope s_stays) := ⟨rfl, rfl, rfl, by decide +kernel, rfl, by decide +kernel, by decide +kernel⟩
theorem b_stays {K : Frag} {mg : Str → Option Value} (T : Tx K mg) : Binds K T.fd_stays ["land", "hands"] [] := T.F_stays.bindsN fun _ _ _ _ _ _ us hl => match us, hl with | [_, _], _ => rfl
abbrev N_breaks_of : List Str := ["land", "hands", "cuts", "hand", "cut", "minutes", "other", "minute", "place"]
theorem sc_breaks_of : FnScope N_breaks_of ["land", "hands"] (defScope s_breaks_of) := ⟨rfl, rfl, rfl, by decide +kernel, rfl, by decide +kernel, by decide +kernel⟩
theorem b_breaks_of {K : Frag} {mg : Str → Option Value} (T : Tx K mg) : Binds K T.fd_breaks_of ["land", "hands"] [] := T.F_breaks_of.bindsN fun _ _ _ _ _ _ us hl => match us, hl with | [_, _], _ => rfl
abbrev N_is_danger : List Str := ["since", "until", "burns"]
theorem sc_is_danger : FnScope N_is_danger ["since", "until", "burns"] (defScope s_is_danger) := ⟨rfl, rfl, rfl, by decide +kernel, rfl, by decide +kernel, by decide +kernel⟩
theorem b_is_danger {K : Frag} {mg : Str → Option Value} (T : Tx K mg) : Binds K T.fd_is_danger ["since", "until", "burns"] [] := T.F_is_danger.bindsN fun _ _ _ _ _ _ us hl => match us, hl with | [_, _, _], _ => rfl
abbrev N_dangers : List Str := ["land", "weather", "starts", "hands", "burns", "found", "name", "place", "since", "until"]
theorem sc_dangers : FnScope N_dangers ["land", "weather", "starts", "hands"] (defScope s_dangers) := ⟨rfl, rfl, rfl, by decide +kernel, rfl, by decide +kernel, by decide +kernel⟩
theorem b_dangers {K : Frag} {mg : Str → Option Value} (T : Tx K mg) : Binds K T.fd_dangers ["land", "weather", "starts", "hands"] [] := T.F_dangers.bindsN fun _ _ _ _ _ _ us hl => match us, hl with | [_, _, _, _], _ => rfl
abbrev N_is_safe : List Str := ["land", "weather", "starts", "hands"]
theorem sc_is_safe : FnScope N_is_safe ["land", "weather", "starts", "hands"] (defScope s_is_safe) := ⟨rfl, rfl, rfl, by decide +kernel, rfl, by decide +kernel, by decide +kernel⟩
theorem b_is_safe {K : Frag} {mg : Str → Option Value} (T : Tx K mg) : Binds K T.fd_is_safe ["land", "weather", "starts", "hands"] [] := T.F_is_safe.bindsN fun _ _ _ _ _ _ us hl => match us, hl with | [_, _, _, _], _ => rfl
abbrev N_keeps : List Str := ["land", "weather", "starts", "hands", "place"]
theorem sc_keeps : FnScope N_keeps ["land", "weather", "starts", "hands", "place"] (defScope s_keeps) := ⟨rfl, rfl, rfl, by decide +kernel, rfl, by decide +kernel, by decide +kernel⟩
theorem b_keeps {K : Frag} {mg : Str → Option Value} (T : Tx K mg) : Binds K T.fd_keeps ["land", "weather", "starts", "hands", "place"] [] := T.F_keeps.bindsN fun _ _ _ _ _ _ us hl => match us, hl with | [_, _, _, _, _], _ => rfl
abbrev N_l_row : List Str := ["_law_cell", "_law_many", "_law_row_here", "_law_rest", "_law_mixed", "_law_k"]
theorem sc_l_row : FnScope N_l_row ["_law_cell", "_law_many"] (defScope s_l_row) := ⟨rfl, rfl, rfl, by decide +kernel, rfl, by decide +kernel, by decide +kernel⟩
theorem b_l_row {K : Frag} {mg : Str → Option Value} (T : Tx K mg) : Binds K T.fd_l_row ["_law_cell", "_law_many"] [] := T.F_l_row.bindsN fun _ _ _ _ _ _ us hl => match us, hl with | [_, _], _ => rfl
abbrev N_l_numbers : List Str := ["_law_script", "_law_many", "_law_cells", "_law_each", "_law_numbers_here", "_law_cell", "_law_number"]
theorem sc_l_numbers : FnScope N_l_numbers ["_law_script", "_law_many"] (defScope s_l_numbers) := ⟨rfl, rfl, rfl, by decide +kernel, rfl, by decide +kernel, by decide +kernel⟩
theorem b_l_numbers {K : Frag} {mg : Str → Option Value} (T : Tx K mg) : Binds K T.fd_l_numbers ["_law_script", "_law_many"] [] := T.F_l_numbers.bindsN fun _ _ _ _ _ _ us hl => match us, hl with | [_, _], _ => rfl
abbrev N_l_names : List Str := ["_law_number", "_law_many", "_law_letters", "_law_size", "_law_rest", "_law_k", "_law_place", "_law_names_here", "_law_own", "_law_spot", "_law_step"]
theorem sc_l_names : FnScope N_l_names ["_law_number", "_law_many"] (defScope s_l_names) := ⟨rfl, rfl, rfl, by decide +kernel, rfl, by decide +kernel, by decide +kernel⟩
theorem b_l_names {K : Frag} {mg : Str → Option Value} (T : Tx K mg) : Binds K T.fd_l_names ["_law_number", "_law_many"] [] := T.F_l_names.bindsN fun _ _ _ _ _ _ us hl => match us, hl with | [_, _], _ => rfl
abbrev N_l_parts : List Str := ["_law_numbers_here", "_law_at", "_law_winds", "_law_places", "_law_names_here", "_law_links", "_law_k", "_law_spot", "_law_one", "_law_other", "_law_times", "_law_j", "_law_least", "_law_paths", "_law_known", "_law_path"]
theorem sc_l_parts : FnScope N_l_parts ["_law_numbers_here", "_law_at"] (defScope s_l_parts) := ⟨rfl, rfl, rfl, by decide +kernel, rfl, by decide +kernel, by decide +kernel⟩
theorem b_l_parts {K : Frag} {mg : Str → Option Value} (T : Tx K mg) : Binds K T.fd_l_parts ["_law_numbers_here", "_law_at"] [] := T.F_l_parts.bindsN fun _ _ _ _ _ _ us hl => match us, hl with | [_, _], _ => rfl
abbrev N_l_weather : List Str := ["_law_numbers_here", "_law_at", "_law_parts_here", "_law_weather_here", "_law_k"]
theorem sc_l_weather : FnScope N_l_weather ["_law_numbers_here", "_law_at", "_law_parts_here"] (defScope s_l_weather) := ⟨rfl, rfl, rfl, by decide +kernel, rfl, by decide +kernel, by decide +kernel⟩
theorem b_l_weather {K : Frag} {mg : Str → Option Value} (T : Tx K mg) : Binds K T.fd_l_weather ["_law_numbers_here", "_law_at", "_law_parts_here"] [] := T.F_l_weather.bindsN fun _ _ _ _ _ _ us hl => match us, hl with | [_, _, _], _ => rfl
abbrev N_l_wind : List Str := ["_law_parts_here", "_law_weather_here", "_law_minute", "_law_wind_here", "_law_row_here"]
theorem sc_l_wind : FnScope N_l_wind ["_law_parts_here", "_law_weather_here", "_law_minute"] (defScope s_l_wind) := ⟨rfl, rfl, rfl, by decide +kernel, rfl, by decide +kernel, by decide +kernel⟩
theorem b_l_wind {K : Frag} {mg : Str → Option Value} (T : Tx K mg) : Binds K T.fd_l_wind ["_law_parts_here", "_law_weather_here", "_law_minute"] [] := T.F_l_wind.bindsN fun _ _ _ _ _ _ us hl => match us, hl with | [_, _, _], _ => rfl
abbrev N_l_caught : List Str := ["_law_parts_here", "_law_weather_here", "_law_link", "_law_minute", "_law_side", "_law_caught_here", "_law_start", "_law_row_here", "_law_bounds"]
theorem sc_l_caught : FnScope N_l_caught ["_law_parts_here", "_law_weather_here", "_law_link", "_law_minute", "_law_side"] (defScope s_l_caught) := ⟨rfl, rfl, rfl, by decide +kernel, rfl, by decide +kernel, by decide +kernel⟩
theorem b_l_caught {K : Frag} {mg : Str → Option Value} (T : Tx K mg) : Binds K T.fd_l_caught ["_law_parts_here", "_law_weather_here", "_law_link", "_law_minute", "_law_side"] [] := T.F_l_caught.bindsN fun _ _ _ _ _ _ us hl => match us, hl with | [_, _, _, _, _], _ => rfl
abbrev N_l_fire : List Str := ["_law_parts_here", "_law_weather_here", "_law_starts", "_law_breaks", "_law_side", "_law_ends", "_law_place", "_law_minute", "_law_burns", "_law_turn", "_law_link", "_law_caught_here"]
theorem sc_l_fire : FnScope N_l_fire ["_law_parts_here", "_law_weather_here", "_law_starts", "_law_breaks", "_law_side"] (defScope s_l_fire) := ⟨rfl, rfl, rfl, by decide +kernel, rfl, by decide +kernel, by decide +kernel⟩
theorem b_l_fire {K : Frag} {mg : Str → Option Value} (T : Tx K mg) : Binds K T.fd_l_fire ["_law_parts_here", "_law_weather_here", "_law_starts", "_law_breaks", "_law_side"] [] := T.F_l_fire.bindsN fun _ _ _ _ _ _ us hl => match us, hl with | [_, _, _, _, _], _ => rfl
abbrev N_l_rows : List Str := ["_law_numbers_here", "_law_at", "_law_many", "_law_parts_here", "_law_most", "_law_k"]
theorem sc_l_rows : FnScope N_l_rows ["_law_numbers_here", "_law_at", "_law_many", "_law_parts_here", "_law_most"] (defScope s_l_rows) := ⟨rfl, rfl, rfl, by decide +kernel, rfl, by decide +kernel, by decide +kernel⟩
theorem b_l_rows {K : Frag} {mg : Str → Option Value} (T : Tx K mg) : Binds K T.fd_l_rows ["_law_numbers_here", "_law_at", "_law_many", "_law_parts_here", "_law_most"] [] := T.F_l_rows.bindsN fun _ _ _ _ _ _ us hl => match us, hl with | [_, _, _, _, _], _ => rfl
abbrev N_l_make : List Str := ["_law_parts_here"]
theorem sc_l_make : FnScope N_l_make ["_law_parts_here"] (defScope s_l_make) := ⟨rfl, rfl, rfl, by decide +kernel, rfl, by decide +kernel, by decide +kernel⟩
theorem b_l_make {K : Frag} {mg : Str → Option Value} (T : Tx K mg) : Binds K T.fd_l_make ["_law_parts_here"] [] := T.F_l_make.bindsN fun _ _ _ _ _ _ us hl => match us, hl with | [_], _ => rfl
abbrev N_l_walks : List Str := ["_law_parts_here", "_law_place", "_law_found", "_law_one", "_law_other", "_law_minutes"]
theorem sc_l_walks : FnScope N_l_walks ["_law_parts_here", "_law_place"] (defScope s_l_walks) := ⟨rfl, rfl, rfl, by decide +kernel, rfl, by decide +kernel, by decide +kernel⟩
theorem b_l_walks {K : Frag} {mg : Str → Option Value} (T : Tx K mg) : Binds K T.fd_l_walks ["_law_parts_here", "_law_place"] [] := T.F_l_walks.bindsN fun _ _ _ _ _ _ us hl => match us, hl with | [_, _], _ => rfl
abbrev N_l_hands : List Str := ["_law_numbers_here", "_law_at", "_law_parts_here", "_law_names_here", "_law_hands_here", "_law_k", "_law_spot", "_law_start", "_law_here", "_law_deeds", "_law_j", "_law_walks_here", "_law_kind", "_law_part"]
theorem sc_l_hands : FnScope N_l_hands ["_law_numbers_here", "_law_at", "_law_parts_here"] (defScope s_l_hands) := ⟨rfl, rfl, rfl, by decide +kernel, rfl, by decide +kernel, by decide +kernel⟩
theorem b_l_hands {K : Frag} {mg : Str → Option Value} (T : Tx K mg) : Binds K T.fd_l_hands ["_law_numbers_here", "_law_at", "_law_parts_here"] [] := T.F_l_hands.bindsN fun _ _ _ _ _ _ us hl => match us, hl with | [_, _, _], _ => rfl
abbrev N_l_course : List Str := ["_law_parts_here", "_law_hand", "_law_name", "_law_here", "_law_deeds", "_law_rows_here", "_law_cuts", "_law_now", "_law_since", "_law_word", "_law_part", "_law_minutes", "_law_walk"]
theorem sc_l_course : FnScope N_l_course ["_law_parts_here", "_law_hand"] (defScope s_l_course) := ⟨rfl, rfl, rfl, by decide +kernel, rfl, by decide +kernel, by decide +kernel⟩
theorem b_l_course {K : Frag} {mg : Str → Option Value} (T : Tx K mg) : Binds K T.fd_l_course ["_law_parts_here", "_law_hand"] [] := T.F_l_course.bindsN fun _ _ _ _ _ _ us hl => match us, hl with | [_, _], _ => rfl
abbrev N_l_cut : List Str := ["_law_parts_here", "_law_hands_here", "_law_cuts", "_law_hand", "_law_found", "_law_place", "_law_minutes", "_law_cut_here"]
theorem sc_l_cut : FnScope N_l_cut ["_law_parts_here", "_law_hands_here"] (defScope s_l_cut) := ⟨rfl, rfl, rfl, by decide +kernel, rfl, by decide +kernel, by decide +kernel⟩
theorem b_l_cut {K : Frag} {mg : Str → Option Value} (T : Tx K mg) : Binds K T.fd_l_cut ["_law_parts_here", "_law_hands_here"] [] := T.F_l_cut.bindsN fun _ _ _ _ _ _ us hl => match us, hl with | [_, _], _ => rfl
abbrev N_l_met : List Str := ["_law_rows_here", "_law_burns", "_law_found", "_law_name", "_law_place", "_law_since", "_law_until"]
theorem sc_l_met : FnScope N_l_met ["_law_rows_here", "_law_burns"] (defScope s_l_met) := ⟨rfl, rfl, rfl, by decide +kernel, rfl, by decide +kernel, by decide +kernel⟩
theorem b_l_met {K : Frag} {mg : Str → Option Value} (T : Tx K mg) : Binds K T.fd_l_met ["_law_rows_here", "_law_burns"] [] := T.F_l_met.bindsN fun _ _ _ _ _ _ us hl => match us, hl with | [_, _], _ => rfl
abbrev N_l_any_fire : List Str := ["_law_numbers_here", "_law_at", "_law_parts_here", "_law_weather_here", "_law_starts", "_law_breaks", "_law_links", "_law_k", "_law_link", "_law_times", "_law_j", "_law_pair", "_law_number"]
theorem sc_l_any_fire : FnScope N_l_any_fire ["_law_numbers_here", "_law_at", "_law_parts_here", "_law_weather_here", "_law_starts", "_law_breaks"] (defScope s_l_any_fire) := ⟨rfl, rfl, rfl, by decide +kernel, rfl, by decide +kernel, by decide +kernel⟩
theorem b_l_any_fire {K : Frag} {mg : Str → Option Value} (T : Tx K mg) : Binds K T.fd_l_any_fire ["_law_numbers_here", "_law_at", "_law_parts_here", "_law_weather_here", "_law_starts", "_law_breaks"] [] := T.F_l_any_fire.bindsN fun _ _ _ _ _ _ us hl => match us, hl with | [_, _, _, _, _, _], _ => rfl
abbrev N_law : List Str := ["_law_script", "_law_numbers_here", "_law_parts_here", "_law_hands_here", "_law_weather_here", "_law_starts", "_law_land", "_law_cuts", "_law_burns", "_law_rows_here", "_law_hand", "_law_met_here", "_law_place", "_law_told", "_law_name", "_law_minute", "_law_one"]
theorem sc_law : FnScope N_law ["_law_script"] (defScope s_law) := ⟨rfl, rfl, rfl, by decide +kernel, rfl, by decide +kernel, by decide +kernel⟩
theorem b_law {K : Frag} {mg : Str → Option Value} (T : Tx K mg) : Binds K T.fd_law ["_law_script"] [] := T.F_law.bindsN fun _ _ _ _ _ _ us hl => match us, hl with | [_], _ => rfl
abbrev N_Land_are_ends : List Str := ["self", "one", "other"]
theorem sc_Land_are_ends : FnScope N_Land_are_ends ["self", "one", "other"] (defScope s_Land_are_ends) := ⟨rfl, rfl, rfl, by decide +kernel, rfl, by decide +kernel, by decide +kernel⟩
theorem b_Land_are_ends {K : Frag} {mg : Str → Option Value} (T : Tx K mg) : Binds K T.fd_Land_are_ends ["self", "one", "other"] [] := T.F_Land_are_ends.bindsN fun _ _ _ _ _ _ us hl => match us, hl with | [_, _, _], _ => rfl
abbrev N_Land_checked_link : List Str := ["self", "link", "name", "one", "other", "times"]
theorem sc_Land_checked_link : FnScope N_Land_checked_link ["self", "link"] (defScope s_Land_checked_link) := ⟨rfl, rfl, rfl, by decide +kernel, rfl, by decide +kernel, by decide +kernel⟩
theorem b_Land_checked_link {K : Frag} {mg : Str → Option Value} (T : Tx K mg) : Binds K T.fd_Land_checked_link ["self", "link"] [] := T.F_Land_checked_link.bindsN fun _ _ _ _ _ _ us hl => match us, hl with | [_, _], _ => rfl
abbrev N_Land_checked_path : List Str := ["self", "path", "one", "other", "minutes"]
theorem sc_Land_checked_path : FnScope N_Land_checked_path ["self", "path"] (defScope s_Land_checked_path) := ⟨rfl, rfl, rfl, by decide +kernel, rfl, by decide +kernel, by decide +kernel⟩
theorem b_Land_checked_path {K : Frag} {mg : Str → Option Value} (T : Tx K mg) : Binds K T.fd_Land_checked_path ["self", "path"] [] := T.F_Land_checked_path.bindsN fun _ _ _ _ _ _ us hl => match us, hl with | [_, _], _ => rfl
abbrev N_Land_check_place : List Str := ["self", "place"]
theorem sc_Land_check_place : FnScope N_Land_check_place ["self", "place"] (defScope s_Land_check_place) := ⟨rfl, rfl, rfl, by decide +kernel, rfl, by decide +kernel, by decide +kernel⟩
theorem b_Land_check_place {K : Frag} {mg : Str → Option Value} (T : Tx K mg) : Binds K T.fd_Land_check_place ["self", "place"] [] := T.F_Land_check_place.bindsN fun _ _ _ _ _ _ us hl => match us, hl with | [_, _], _ => rfl
abbrev N_Land_check_wind : List Str := ["self", "wind"]
theorem sc_Land_check_wind : FnScope N_Land_check_wind ["self", "wind"] (defScope s_Land_check_wind) := ⟨rfl, rfl, rfl, by decide +kernel, rfl, by decide +kernel, by decide +kernel⟩
theorem b_Land_check_wind {K : Frag} {mg : Str → Option Value} (T : Tx K mg) : Binds K T.fd_Land_check_wind ["self", "wind"] [] := T.F_Land_check_wind.bindsN fun _ _ _ _ _ _ us hl => match us, hl with | [_, _], _ => rfl
abbrev N_Land_walks_from : List Str := ["self", "place", "found", "one", "other", "minutes"]
theorem sc_Land_walks_from : FnScope N_Land_walks_from ["self", "place"] (defScope s_Land_walks_from) := ⟨rfl, rfl, rfl, by decide +kernel, rfl, by decide +kernel, by decide +kernel⟩
theorem b_Land_walks_from {K : Frag} {mg : Str → Option Value} (T : Tx K mg) : Binds K T.fd_Land_walks_from ["self", "place"] [] := T.F_Land_walks_from.bindsN fun _ _ _ _ _ _ us hl => match us, hl with | [_, _], _ => rfl
abbrev N_Land_minutes_between : List Str := ["self", "one", "other", "place", "minutes"]
theorem sc_Land_minutes_between : FnScope N_Land_minutes_between ["self", "one", "other"] (defScope s_Land_minutes_between) := ⟨rfl, rfl, rfl, by decide +kernel, rfl, by decide +kernel, by decide +kernel⟩
theorem b_Land_minutes_between {K : Frag} {mg : Str → Option Value} (T : Tx K mg) : Binds K T.fd_Land_minutes_between ["self", "one", "other"] [] := T.F_Land_minutes_between.bindsN fun _ _ _ _ _ _ us hl => match us, hl with | [_, _, _], _ => rfl
abbrev N_Land_link_names : List Str := ["self", "link"]
theorem sc_Land_link_names : FnScope N_Land_link_names ["self"] (defScope s_Land_link_names) := ⟨rfl, rfl, rfl, by decide +kernel, rfl, by decide +kernel, by decide +kernel⟩
theorem b_Land_link_names {K : Frag} {mg : Str → Option Value} (T : Tx K mg) : Binds K T.fd_Land_link_names ["self"] [] := T.F_Land_link_names.bindsN fun _ _ _ _ _ _ us hl => match us, hl with | [_], _ => rfl
abbrev N_Land_init : List Str := ["self", "winds", "places", "links", "paths", "wind", "place", "link", "path"]
theorem sc_Land_init : FnScope N_Land_init ["self", "winds", "places", "links", "paths"] (defScope s_Land_init) := ⟨rfl, rfl, rfl, by decide +kernel, rfl, by decide +kernel, by decide +kernel⟩
abbrev N_Course_init : List Str := ["self", "land", "hand", "_", "place", "deeds", "now", "since", "word", "part"]
theorem sc_Course_init : FnScope N_Course_init ["self", "land", "hand"] (defScope s_Course_init) := ⟨rfl, rfl, rfl, by decide +kernel, rfl, by decide +kernel, by decide +kernel⟩
theorem b_Course_init {K : Frag} {mg : Str → Option Value} (T : Tx K mg) : Binds K T.fd_Course_init ["self", "land", "hand"] [] := T.F_Course_init.bindsN fun _ _ _ _ _ _ us hl => match us, hl with | [_, _, _], _ => rfl
end Ef
/-! The defs about names and lands. -/
namespace Ef
open PySem PySem.Spec PyProof.Rows L2
local macro_rules | `(tactic| walk_at "set") => `(tactic| (repeat' (first | exact SetAt.z | apply SetAt.s)))
local macro_rules | `(tactic| walk_at "le") => `(tactic| (repeat' (first | exact Le.nil | (with_reducible apply Le.eq) | (with_reducible apply Le.u) | (with_reducible apply Le.as) | rfl)))
local macro_rules | `(tactic| walk_at "ev1") => `(tactic| first
  | exact e_int | exact e_str | exact e_bl | exact e_non
  | exact e_var rfl | exact d_nil | exact a_nil | exact et_yes | exact o_none | exact k_own rfl
  | exact e_lenM rfl
  | ((with_reducible show lenK _ = true); rfl) | ((with_reducible show eqK _ _ = true); rfl) | ((with_reducible show smallL _ = true); rfl)
  | with_reducible apply d_cons | with_reducible apply a_cons | with_reducible apply o_some
  | with_reducible apply e_add | with_reducible apply e_sub | with_reducible apply e_lt | with_reducible apply e_le | with_reducible apply e_gt | with_reducible apply e_ge
  | with_reducible apply e_mul | with_reducible apply e_mod | with_reducible apply e_fdiv
  | with_reducible apply e_eqA | with_reducible apply e_neA
  | with_reducible apply e_isN | with_reducible apply e_notN | with_reducible apply e_notV | with_reducible apply et_test | with_reducible apply et_B | with_reducible apply et_not
  | with_reducible apply et_and2 | with_reducible apply et_or2 | with_reducible apply e_andV2 | with_reducible apply e_orV2
  | with_reducible apply e_tupS | with_reducible apply e_lstS | exact e_dnew
  | with_reducible apply e_lenA
  | (with_reducible apply e_cb (hr := cq_abs)) | (with_reducible apply e_cb (hr := cq_int1)) | (with_reducible apply e_cb (hr := cq_max2)) | (with_reducible apply e_cb (hr := cq_min2))
  | with_reducible apply e_call | with_reducible apply e_meth
  | with_reducible apply e_din | with_reducible apply e_dnotin | with_reducible apply e_dget | with_reducible apply e_dget1 | with_reducible apply e_dget2)
local macro_rules | `(tactic| walk_at "ev") => `(tactic| repeat' (walk_at "ev1"))
variable {P : Program} {w : World} {K : Frag} {mg : Str → Option Value} {base : Heap}
def NAMES : Str := "abcdefghijklmnopqrstuvwxyz0123456789"
structure NameOk (s : Str) : Prop where
  l1 : 1 ≤ s.length
  l2 : s.length ≤ 12
  hd : ∀ c, s.cps.toList[0]? = some c → c ∉ ("0123456789" : Str).cps.toList
  al : ∀ c ∈ s.cps.toList, c ∈ NAMES.cps.toList
inductive R_require (K : Frag) : List SV → SV → Prop
  | mk : R_require K [.d (.bool true)] (.d .none)
theorem ok_require (T : Tx K mg) : FnOk P w K mg base CX0 1 (He.fAd K ("require", none)) T.fd_require ["holds"] (spQ (R_require K)) := by
  refine okQ T.F_require sc_require (fun _ _ h => by cases h; rfl) (by decide) ?_
  rintro X ⟨cdv, A, outer, s, H, rfl, hr⟩ args r hR
  refine ⟨_, (pss_one (ps_if (pt_not (pt_val (pv 0))) pss_never pss_nil)), ?_⟩
  intro F0 H0 D hrt hnx
  cases hR
  show SR F0 H0 _ [.d (.bool true)] D
  refine r_ifF (by walk_at "ev") (by rfl) ?_
  exact sr_next fun σ H S => hnx rfl σ H _ S
inductive R_is_name (K : Frag) : List SV → SV → Prop
  | mk (s : Str) (h : NameOk s) : R_is_name K [.d (.str s)] (.d (.bool true))
theorem line13 : (12 : Nat) ≤ sizeLine := by decide
theorem ok_is_name (T : Tx K mg) : FnOk P w K mg base CX0 1 (He.fAd K ("is_name", none)) T.fd_is_name ["text"] (spQ (R_is_name K)) := by
  refine okQ T.F_is_name sc_is_name (fun _ _ h => by cases h; rfl) (by decide) ?_
  rintro X ⟨cdv, A, outer, s, H, rfl, hr⟩ args r hR
  refine ⟨_, (pss_cons (ps_if (PW.pt (pw_or (pt_not (pt_chain op_le op_le pe_int (pe_callB call_len_str (by rfl) T.m_len (by decide +kernel) (pa_cons (pv 0) pa_nil)) (pe_glob (v := .int 12) rfl T.i_MOST_NAME_CHARS ⟨_, rfl⟩))) (pw_or1 (pt_cmpR op_in_sign (pe_ix ix_str (pv 0) pe_int (fun _ _ => rfl)) pe_str rfl)))) (pss_one (ps_ret pe_bl)) pss_nil)
    (pss_one (ps_ret (pe_callB (cr_all rfl) (by rfl) T.m_all (by decide +kernel) (pa_cons (pe_lc (own := [("char", 1)]) (g := (gName 1)) (tt := tYes) (te := (tOp _ (tVar 1) (tC _))) rfl sc_is_name.nd (pi_str (pv 0)) (blkOk_by (by kernel_rfl)) (fun _ _ _ _ _ => (pg_name (i := 1) sc_is_name.nd rfl (Or.inl rfl))) (fun _ _ _ _ _ => pts_nil) (fun _ _ _ _ _ => (pe_cmpR op_in_sign (pv 1) (pe_glob (v := .str "abcdefghijklmnopqrstuvwxyz0123456789") rfl T.i_NAME_CHARS ⟨_, rfl⟩) rfl))) pa_nil))))), ?_⟩
  intro F0 H0 D hrt hnx
  cases hR with
  | mk s h =>
  show SR F0 H0 _ [.d (.str s), .u] D
  have hl : s.length ≤ sizeLine := Nat.le_trans h.l2 line13
  have hc : ∃ c, s.cps.toList[0]? = some c := by
    have : 0 < s.cps.toList.length := by rw [Array.length_toList]; exact h.l1
    exact ⟨_, List.getElem?_eq_getElem this⟩
  obtain ⟨c, hc⟩ := hc
  refine sr_seq (sr_ifF (et_eq (b := !(decide ((1:Int) ≤ s.length) && decide ((s.length : Int) ≤ 12)) || decide (c ∈ ("0123456789" : Str).cps.toList)) ?_ ?_) (sr_next (nx_go (sr_ret (r := .d (.bool true)) ?_ hrt))))
  · refine et_or (et_not (et_test (e_chain ?_ (e_cb (d_cons (e_var rfl) d_nil) (cq_lenS hl)) (rq_I0 rfl) (fun _ => e_int) (fun _ => rq_I0 rfl)))) (fun _ => et_test (e_inSign (e_ixS (e_var rfl) e_int hl (by decide) hc) e_str))
    exact e_int
  · have h1 := h.l1
    have h2 := h.l2
    have h3 := h.hd c hc
    have e1 : (1:Int) ≤ s.length := by omega
    have e2 : (s.length : Int) ≤ 12 := by omega
    simp [e1, e2, h3]
  · refine e_as (e_cb (d_cons (e_freeze (e_lc0 (fun d => .bool (match d with | .str z => z.cps.toList.all fun c => decide (c ∈ NAMES.cps.toList) | _ => true)) (wk_str (e_var rfl)).c ?_ fun i d hd => ?_)) d_nil) ?_) rfl
    rotate_left 1
    · unfold signsD at hd
      rw [List.getElem?_map] at hd
      cases hk : s.cps.toList[i]? with
      | none => rw [hk] at hd; cases hd
      | some k =>
        rw [hk] at hd
        cases hd
        refine ⟨_, v_name (vs := [1]) (by walk_at "set"), ?_⟩
        refine e_eq (e_inSign (c := k) (e_var rfl) (e_sc rfl)) ?_
        simp [NAMES]
    · have e : (signsD s).map (fun d => PyData.bool (match d with | .str z => z.cps.toList.all fun c => decide (c ∈ NAMES.cps.toList) | _ => true)) = ((signsD s).map (fun _ => true)).map PyData.bool := by
        rw [List.map_map]
        refine List.map_congr_left fun d hd => ?_
        unfold signsD at hd
        rw [List.mem_map] at hd
        obtain ⟨k, hk, rfl⟩ := hd
        have := h.al k hk
        simp [this, ← Array.mem_toList_iff]
      rw [e]
      have := cq_all (K := K) (bs := (signsD s).map (fun _ => true))
      have e2 : ((signsD s).map (fun _ => true)).all id = true := by simp
      rw [e2] at this
      exact this
    · unfold signsD
      rw [List.length_map, Array.length_toList]
      exact Nat.lt_of_le_of_lt h.l2 (by decide)
/-! ### are_different -/
theorem take_notin {α : Type} {xs : List α} (nd : xs.Nodup) {i : Nat} {x : α} (h : xs[i]? = some x) : x ∉ xs.take i := by
  intro m
  obtain ⟨j, hj⟩ := List.mem_iff_getElem?.mp m
  have hj1 : j < i := by
    have := (List.getElem?_eq_some_iff.mp hj).1
    rw [List.length_take] at this
    omega
  rw [List.getElem?_take_of_lt hj1] at hj
  obtain ⟨h1, e1⟩ := List.getElem?_eq_some_iff.mp h
  obtain ⟨h2, e2⟩ := List.getElem?_eq_some_iff.mp hj
  have := (List.getElem_inj nd (h₀ := h2) (h₁ := h1)).mp (by rw [e1, e2])
  omega
theorem cut_map {α : Type} (f : α → PyData) (xs : List α) {i : Nat} (hi : i < xs.length) : cutD (xs.map f) none (some (i : Nat)) = (xs.take i).map f := by
  unfold cutD HT.sIx
  have e : (xs.map f).length = xs.length := List.length_map _
  rw [e]
  simp only [List.drop_zero, Nat.sub_zero]
  rw [List.map_take]
  congr 1
  show (if (i : Int) < 0 then ((i : Int) + (xs.length : Int)).toNat else min (i : Int).toNat xs.length) = i
  rw [if_neg (by omega)]
  omega
inductive R_are_different (K : Frag) : List SV → SV → Prop
  | mk (xs : List Str) (h : xs.Nodup) : R_are_different K [.d (.list (xs.map .str))] (.d (.bool true))
theorem ok_are_different (T : Tx K mg) : FnOk P w K mg base CX0 1 (He.fAd K ("are_different", none)) T.fd_are_different ["parts"] (spQ (R_are_different K)) := by
  refine okQ T.F_are_different sc_are_different (fun _ _ h => by cases h; rfl) (by decide) ?_
  rintro X ⟨cdv, A, outer, s, H, rfl, hr⟩ args r hR
  refine ⟨_, (pss_cons (ps_for PassesOwn.never rfl (pi_enum (by rfl) T.m_enumerate (pa_cons (pv 0) pa_nil)) (pg_tup rfl (pgs_cons (pg_name (i := 1) sc_are_different.nd rfl (Or.inl rfl)) (pgs_cons (pg_name (i := 2) sc_are_different.nd rfl (Or.inl rfl)) pgs_nil)))
      (pss_one (ps_if (pt_cmpR op_in_seq (pv 2) (pe_slice sl_list (pv 0) po_none (po_some (pv 1))) rfl) (pss_one (ps_ret pe_bl)) pss_nil)))
    (pss_one (ps_ret pe_bl))), ?_⟩
  intro F0 H0 D hrt hnx
  cases hR with
  | mk xs h =>
  show SR F0 H0 _ [.d (.list (xs.map .str)), .u, .u] D
  refine sr_seq (sr_const [.d (.list (xs.map .str)), .u, .u] (wk_enum (by walk_at "ev")) (Le.refl _) (fun F1 i d hd => ?_) (nx_go (r_ret (by walk_at "ev") (by rfl) hrt)))
  obtain ⟨b, hb, rfl⟩ := enumD_at hd
  rw [List.getElem?_map] at hb
  cases hx : xs[i]? with
  | none => rw [hx] at hb; cases hb
  | some x =>
  rw [hx] at hb
  cases hb
  have hi := (List.getElem?_eq_some_iff.mp hx).1
  refine ⟨_, gd_tupL (gds_cons (g_name (by walk_at "set")) (gds_cons (g_name (by walk_at "set")) gds_nil)), r_ifF (et_test (e_inL (e_var rfl) (e_eq (e_freeze (e_slL (e_var rfl) o_none (o_some (e_var rfl)))) (congrArg PyData.list (cut_map .str xs hi))))) ?_ (sr_next (nx_end rfl (.eq (.u (.u .nil)))))⟩
  exact decide_eq_false (take_notin h hx)
inductive R_are_differentT (K : Frag) : List SV → SV → Prop
  | mk (xs : List Str) (h : xs.Nodup) : R_are_differentT K [.d (.tuple (xs.map .str))] (.d (.bool true))
theorem ok_are_differentT (T : Tx K mg) : FnOk P w K mg base CX0 1 (He.fAd K ("are_different", none)) T.fd_are_different ["parts"] (spQ (R_are_differentT K)) := by
  refine okQ T.F_are_different sc_are_different (fun _ _ h => by cases h; rfl) (by decide) ?_
  rintro X ⟨cdv, A, outer, s, H, rfl, hr⟩ args r hR
  refine ⟨_, (pss_cons (ps_for PassesOwn.never rfl (pi_enumT (by rfl) T.m_enumerate (pa_cons (pv 0) pa_nil)) (pg_tup rfl (pgs_cons (pg_name (i := 1) sc_are_different.nd rfl (Or.inl rfl)) (pgs_cons (pg_name (i := 2) sc_are_different.nd rfl (Or.inl rfl)) pgs_nil)))
      (pss_one (ps_if (pt_cmpR op_in_seq (pv 2) (pe_slice sl_tupN (pv 0) po_none (po_some (pv 1))) rfl) (pss_one (ps_ret pe_bl)) pss_nil)))
    (pss_one (ps_ret pe_bl))), ?_⟩
  intro F0 H0 D hrt hnx
  cases hR with
  | mk xs h =>
  show SR F0 H0 _ [.d (.tuple (xs.map .str)), .u, .u] D
  refine sr_seq (sr_const [.d (.tuple (xs.map .str)), .u, .u] (wk_enumT (by walk_at "ev")) (Le.refl _) (fun F1 i d hd => ?_) (nx_go (r_ret (by walk_at "ev") (by rfl) hrt)))
  obtain ⟨b, hb, rfl⟩ := enumD_at hd
  rw [List.getElem?_map] at hb
  cases hx : xs[i]? with
  | none => rw [hx] at hb; cases hb
  | some x =>
  rw [hx] at hb
  cases hb
  have hi := (List.getElem?_eq_some_iff.mp hx).1
  refine ⟨_, gd_tupL (gds_cons (g_name (by walk_at "set")) (gds_cons (g_name (by walk_at "set")) gds_nil)), r_ifF (et_test (e_inT (e_var rfl) (e_eq (e_slT (e_var rfl) o_none (o_some (e_var rfl)) ?_) (congrArg PyData.tuple (cut_map .str xs hi))))) ?_ (sr_next (nx_end rfl (.eq (.u (.u .nil)))))⟩
  · rw [List.length_map, HT.sIx_nat]
    simp [HT.sIx]
    omega
  · exact decide_eq_false (take_notin h hx)
def ePr (p : Str × Str) : PyData := .tuple [.str p.1, .str p.2]
inductive R_are_differentP (K : Frag) : List SV → SV → Prop
  | mk (xs : List (Str × Str)) (h : xs.Nodup) (h2 : ∀ p ∈ xs, NameOk p.1 ∧ NameOk p.2) : R_are_differentP K [.d (.list (xs.map ePr))] (.d (.bool true))
theorem nm_strOk {s : Str} (h : NameOk s) : PyData.strOk s = true := by
  unfold PyData.strOk
  rw [← Array.all_toList]
  refine List.all_eq_true.mpr fun c hc => ?_
  have := h.al c hc
  have k : ∀ c ∈ NAMES.cps.toList, c < 0x110000 := by decide +kernel
  exact decide_eq_true (k c this)
theorem pr_shape {p : Str × Str} (h : NameOk p.1 ∧ NameOk p.2) : SeqAt.shaped (ePr p) = true := by
  unfold SeqAt.shaped ePr
  simp [PyData.canLay0, PyData.canLayAll0, nm_strOk h.1, nm_strOk h.2, PyData.depth, PyData.depthAll]
theorem prs_shape : ∀ {xs : List (Str × Str)}, (∀ p ∈ xs, NameOk p.1 ∧ NameOk p.2) → PyData.canLayAll0 (xs.map ePr) = true ∧ PyData.depthAll (xs.map ePr) ≤ 1
  | [], _ => ⟨rfl, Nat.zero_le _⟩
  | p :: xs, h => by
    obtain ⟨h1, h2⟩ := prs_shape fun q hq => h q (List.mem_cons_of_mem _ hq)
    have hp := h p List.mem_cons_self
    refine ⟨?_, ?_⟩
    · simp [PyData.canLayAll0, PyData.canLay0, ePr, nm_strOk hp.1, nm_strOk hp.2, h1]
    · simp only [List.map_cons, PyData.depthAll, ePr, PyData.depth]
      simp
      exact Nat.max_le.mpr ⟨Nat.le_refl _, h2⟩
theorem eqv_str {a b : Str} : PyData.eqv (.str a) (.str b) = decide (a = b) := by
  unfold PyData.eqv
  by_cases h : a = b <;> simp [h]
theorem eqv_pr {p q : Str × Str} : PyData.eqv (ePr p) (ePr q) = decide (p = q) := by
  unfold ePr
  simp only [PyData.eqv, PyData.eqvAll]
  obtain ⟨a, b⟩ := p
  obtain ⟨c, d⟩ := q
  by_cases h1 : a = c <;> by_cases h2 : b = d <;> simp [h1, h2]
theorem ok_are_differentP (T : Tx K mg) : FnOk P w K mg base CX0 1 (He.fAd K ("are_different", none)) T.fd_are_different ["parts"] (spQ (R_are_differentP K)) := by
  refine okQ T.F_are_different sc_are_different (fun _ _ h => by cases h; rfl) (by decide) ?_
  rintro X ⟨cdv, A, outer, s, H, rfl, hr⟩ args r hR
  refine ⟨_, (pss_cons (ps_for PassesOwn.never rfl (pi_enum (by rfl) T.m_enumerate (pa_cons (pv 0) pa_nil)) (pg_tup rfl (pgs_cons (pg_name (i := 1) sc_are_different.nd rfl (Or.inl rfl)) (pgs_cons (pg_name (i := 2) sc_are_different.nd rfl (Or.inl rfl)) pgs_nil)))
      (pss_one (ps_if (pt_cmpR (op_inD (hu65 hr)) (pv 2) (pe_slice sl_list (pv 0) po_none (po_some (pv 1))) rfl) (pss_one (ps_ret pe_bl)) pss_nil)))
    (pss_one (ps_ret pe_bl))), ?_⟩
  intro F0 H0 D hrt hnx
  cases hR with
  | mk xs h h2 =>
  show SR F0 H0 _ [.d (.list (xs.map ePr)), .u, .u] D
  refine sr_seq (sr_const [.d (.list (xs.map ePr)), .u, .u] (wk_enum (by walk_at "ev")) (Le.refl _) (fun F1 i d hd => ?_) (nx_go (r_ret (by walk_at "ev") (by rfl) hrt)))
  obtain ⟨b, hb, rfl⟩ := enumD_at hd
  rw [List.getElem?_map] at hb
  cases hx : xs[i]? with
  | none => rw [hx] at hb; cases hb
  | some x =>
  rw [hx] at hb
  cases hb
  have hi := (List.getElem?_eq_some_iff.mp hx).1
  have hs := prs_shape (xs := xs.take i) fun p hp => h2 p (List.mem_of_mem_take hp)
  refine ⟨_, gd_tupL (gds_cons (g_name (by walk_at "set")) (gds_cons (g_name (by walk_at "set")) gds_nil)), r_ifF (et_test (e_inD (e_var rfl) (e_eq (e_freeze (e_slL (e_var rfl) o_none (o_some (e_var rfl)))) (congrArg PyData.list (cut_map ePr xs hi))) (pr_shape (h2 x (List.mem_of_getElem? hx))) ?_)) ?_ (sr_next (nx_end rfl (.eq (.u (.u .nil)))))⟩
  · unfold SeqAt.shaped
    simp only [PyData.canLay0, PyData.depth, hs.1, Bool.true_and, decide_eq_true_eq]
    exact decide_eq_true (Nat.le_trans (Nat.succ_le_succ hs.2) (show 2 ≤ 64 by decide))
  · rw [List.any_map, List.any_eq_false]
    intro p hp
    show ¬ PyData.eqv (ePr p) (ePr x) = true
    rw [eqv_pr]
    intro e
    rw [of_decide_eq_true e] at hp
    exact take_notin h hx hp
/-! ### the data of a land -/
structure Lk where
  nm : Str
  one : Str
  oth : Str
  ts : List (Option (Int × Int))
def ePair : Option (Int × Int) → PyData
  | none => .none
  | some p => .tuple [.int p.1, .int p.2]
def eLk (l : Lk) : PyData := .tuple [.str l.nm, .str l.one, .str l.oth, .tuple (l.ts.map ePair)]
structure Pa where
  one : Str
  oth : Str
  m : Int
def ePa (p : Pa) : PyData := .tuple [.str p.one, .str p.oth, .int p.m]
structure Pt where
  winds : List Str
  places : List Str
  links : List Lk
  paths : List Pa
def eStrs (xs : List Str) : PyData := .tuple (xs.map .str)
def landF (p : Pt) : List (Str × PyData) := [("winds", .tuple (p.winds.map .str)), ("places", .tuple (p.places.map .str)), ("links", .tuple (p.links.map eLk)), ("paths", .tuple (p.paths.map ePa))]
abbrev fl (fs : List (Str × PyData)) (f : Str) : Option PyData := fs.lookup f
abbrev LandC (K : Frag) : Addr := He.ga K "Land"
abbrev eLand (K : Frag) (p : Pt) : SV := .obj (LandC K) (landF p)
def PairOk : Option (Int × Int) → Prop
  | none => True
  | some p => 1 ≤ p.1 ∧ p.1 ≤ p.2 ∧ p.2 ≤ 1000
inductive R_checked_times (K : Frag) : List SV → SV → Prop
  | mk (ts : List (Option (Int × Int))) (n : Int) (hn : n = ts.length) (h : ∀ t ∈ ts, PairOk t) (hl : ts.length < 10) : R_checked_times K [.d (.tuple (ts.map ePair)), .d (.int n)] (.d (.tuple (ts.map ePair)))
theorem ok_checked_times (T : Tx K mg) : FnOk P w K mg base CX0 2 (He.fAd K ("checked_times", none)) T.fd_checked_times ["times", "many"] (spQ (R_checked_times K)) := by
  refine okQ T.F_checked_times sc_checked_times (fun _ _ h => by cases h; rfl) (by decide) ?_
  rintro X ⟨cdv, A, outer, s, H, rfl, hr⟩ args r hR
  refine ⟨_, (pss_cons (ps_expr (pe_call (ok_require T) (hr.mono (by decide)) (by rfl) T.g_require T.F_require.kp (b_require T) .nil pass0 (pa_cons (pe_cmpR op_eq (pe_callB call_lenQ (by rfl) T.m_len (by decide +kernel) (pa_cons (pv 0) pa_nil)) (pv 1) (nomark _)) pa_nil)))
    (pss_cons (ps_set (i := 2) sc_checked_times.nd rfl (Or.inl rfl) (pe_lst pa_nil))
    (pss_cons (ps_for PassesOwn.never rfl (pi_tup (pv 0)) (pg_name (i := 3) sc_checked_times.nd rfl (Or.inl rfl))
      (pss_cons (ps_if (pt_cmp (pc_notN (pv 3))) (pss_cons (ps_expr (pe_call (ok_require T) (hr.mono (by decide)) (by rfl) T.g_require T.F_require.kp (b_require T) .nil pass0 (pa_cons (pe_and (pe_cmpR op_eq (pe_callB call_lenQ (by rfl) T.m_len (by decide +kernel) (pa_cons (pv 3) pa_nil)) pe_int (nomark _)) (pe_one (pe_chain3 op_le op_le op_le pe_int (pe_ix ix_tup (pv 3) pe_int (fun _ _ => rfl)) (pe_ix ix_tup (pv 3) pe_int (fun _ _ => rfl)) (pe_glob (v := .int 1000) rfl T.i_MOST_MINUTES_lands ⟨_, rfl⟩)))) pa_nil)))
    (pss_one (ps_set (i := 3) sc_checked_times.nd rfl (Or.inl rfl) (pe_callTy call_tupN (by rfl) T.m_tuple (by decide +kernel) (pa_cons (pv 3) pa_nil))))) pss_nil)
    (pss_one (ps_expr (pe_bm PySem.F.plainAttrs_list PySem.F.slot_list_append PySem.F.type_list_append mt_append (pv 2) (pa_cons (pv 3) pa_nil))))))
    (pss_one (ps_ret (pe_callTy call_tupN (by rfl) T.m_tuple (by decide +kernel) (pa_cons (pv 2) pa_nil))))))), ?_⟩
  intro F0 H0 D hrt hnx
  cases hR with
  | mk ts n hn h hl =>
  show SR F0 H0 _ [.d (.tuple (ts.map ePair)), .d (.int n), .u, .u] D
  refine sr_seq (sr_drop (e_call (args := [.d (.bool true)]) (a_cons (e_eq (y := .bool true) (by walk_at "ev") ?_) a_nil) .mk) (nx_go (sr_seq (r_asg (r := .ml []) (by walk_at "ev") (by walk_at "set") (nx_go (sr_seq ?_))))))
  · simp [eqF, lenF, hn]
  refine sr_fold ts ePair (fun (s : List (Option (Int × Int))) t => s ++ [t]) (fun s => [.d (.tuple (ts.map ePair)), .d (.int n), .ml (s.map ePair), .u]) (fun i s => s.length = i) [] (wk_tup (e_var rfl)) (Le.refl _) rfl (fun F1 i t s gx ht hs _ => ⟨by simp [hs], _, g_name (by walk_at "set"), sr_seq ?_⟩) (fun hlen => ?_)
  · have hil := (List.getElem?_eq_some_iff.mp ht).1
    have hsz : (s.map ePair).length < sizeLine := by
      rw [List.length_map, hs]
      exact Nat.lt_trans (Nat.lt_trans hil hl) (by decide)
    cases t with
    | none =>
      refine r_ifF (by walk_at "ev") (by rfl) (sr_next (nx_go (r_app rfl (e_var rfl) hsz (by walk_at "set") ?_)))
      exact nx_end rfl (by walk_at "le"; simp)
    | some p =>
      have hp := h _ (List.mem_of_getElem? ht)
      obtain ⟨p1, p2, p3⟩ : 1 ≤ p.1 ∧ p.1 ≤ p.2 ∧ p.2 ≤ 1000 := hp
      refine r_ifT (by walk_at "ev") (by rfl) (sr_seq (sr_drop (e_call (args := [.d (.bool true)]) (a_cons (e_andV (b := true) (b' := true) (e_eq (y := .bool true) (by walk_at "ev") (by rfl)) fun _ => ?_) a_nil) .mk) (nx_go (r_asg (r := .d (ePair (some p))) (e_cb (d_cons (e_var rfl) d_nil) cq_tupleT) (by walk_at "set") (nx_go (r_app rfl (e_var rfl) hsz (by walk_at "set") ?_))))))
      · refine e_eq (pe3 (x := .int 1) (y := .int p.1) (z := .int p.2) (u := .int 1000) e_int (e_ixT (e_var rfl) e_int (by decide) rfl) (e_ixT (e_var rfl) e_int (by decide) rfl) e_int (rq_I0 rfl) (rq_I0 rfl) (rq_I0 rfl)) ?_
        simp [p1, p2, p3]
      · exact nx_end rfl (by walk_at "le"; simp)
  · refine nx_go (r_freeze (n := 2) rfl (by walk_at "set") ?_)
    refine r_ret (e_cb (d_cons (e_var rfl) d_nil) cq_tupleL) ?_ hrt
    have e : ∀ (l a : List (Option (Int × Int))), l.foldl (fun s t => s ++ [t]) a = a ++ l := by
      intro l
      induction l with
      | nil => intro a; simp
      | cons x l ih => intro a; rw [List.foldl_cons, ih]; simp
    rw [e]
    rfl
inductive R_Land_are_ends (K : Frag) : List SV → SV → Prop
  | mk (fs : List (Str × PyData)) (ps : List Str) (one oth : Str) (hf : fl fs "places" = some (.tuple (ps.map .str))) (h1 : one ∈ ps) (h2 : oth ∈ ps) (h3 : one ≠ oth) : R_Land_are_ends K [.obj (LandC K) fs, .d (.str one), .d (.str oth)] (.d (.bool true))
theorem ok_Land_are_ends (T : Tx K mg) : FnOk P w K mg base CX0 1 (He.fAd K ("Land", some "are_ends")) T.fd_Land_are_ends ["self", "one", "other"] (spQ (R_Land_are_ends K)) := by
  refine okQ T.F_Land_are_ends sc_Land_are_ends (fun _ _ h => by cases h; rfl) (by decide) ?_
  rintro X ⟨cdv, A, outer, s, H, rfl, hr⟩ args r hR
  refine ⟨_, (pss_one (ps_ret (pe_and (pe_cmpR op_in_seq (pv 1) (pe_fld (pv 0) rfl) rfl) (pe_and (pe_cmpR op_in_seq (pv 2) (pe_fld (pv 0) rfl) rfl) (pe_one (pe_cmpR op_ne (pv 1) (pv 2) (nomark _))))))), ?_⟩
  intro F0 H0 D hrt hnx
  cases hR with
  | mk fs ps one oth hf h1 h2 h3 =>
  show SR F0 H0 _ [.obj (LandC K) fs, .d (.str one), .d (.str oth)] D
  refine r_ret (e_andV2 (e_inT (e_var rfl) (e_fld T.cLand T.n_places (e_var rfl) hf)) (e_andV2 (e_inT (e_var rfl) (e_fld T.cLand T.n_places (e_var rfl) hf)) (by walk_at "ev"))) ?_ hrt
  simp [h1, h2, h3, eqF]
def LkOk (winds places : List Str) (l : Lk) : Prop := NameOk l.nm ∧ l.one ∈ places ∧ l.oth ∈ places ∧ l.one ≠ l.oth ∧ l.ts.length = winds.length ∧ ∀ t ∈ l.ts, PairOk t
inductive R_Land_checked_link (K : Frag) : List SV → SV → Prop
  | mk (fs : List (Str × PyData)) (ws ps : List Str) (l : Lk) (hw : fl fs "winds" = some (.tuple (ws.map .str))) (hf : fl fs "places" = some (.tuple (ps.map .str))) (h : LkOk ws ps l) (hl : ws.length < 10)
    (hm : fl fs "are_ends" = none) : R_Land_checked_link K [.obj (LandC K) fs, .d (eLk l)] (.d (eLk l))
theorem ok_Land_checked_link (T : Tx K mg) : FnOk P w K mg base CX0 3 (He.fAd K ("Land", some "checked_link")) T.fd_Land_checked_link ["self", "link"] (spQ (R_Land_checked_link K)) := by
  refine okQ T.F_Land_checked_link sc_Land_checked_link (fun _ _ h => by cases h; rfl) (by decide) ?_
  rintro X ⟨cdv, A, outer, s, H, rfl, hr⟩ args r hR
  refine ⟨_, (pss_cons (ps_expr (pe_call (ok_require T) (hr.mono (by decide)) (by rfl) T.g_require T.F_require.kp (b_require T) .nil pass0 (pa_cons (pe_cmpR op_eq (pe_callB call_lenQ (by rfl) T.m_len (by decide +kernel) (pa_cons (pv 1) pa_nil)) pe_int (nomark _)) pa_nil)))
    (pss_cons (ps_asg (pv 1) (pg_tup rfl (pgs_cons (pg_name (i := 2) sc_Land_checked_link.nd rfl (Or.inl rfl)) (pgs_cons (pg_name (i := 3) sc_Land_checked_link.nd rfl (Or.inl rfl)) (pgs_cons (pg_name (i := 4) sc_Land_checked_link.nd rfl (Or.inl rfl)) (pgs_cons (pg_name (i := 5) sc_Land_checked_link.nd rfl (Or.inl rfl)) pgs_nil))))))
    (pss_cons (ps_expr (pe_call (ok_require T) (hr.mono (by decide)) (by rfl) T.g_require T.F_require.kp (b_require T) .nil pass0 (pa_cons (pe_and (pe_call (ok_is_name T) (hr.mono (by decide)) (by rfl) T.g_is_name T.F_is_name.kp (b_is_name T) .nil pass0 (pa_cons (pv 2) pa_nil)) (pe_one (pe_meth (pv 0) T.cLand T.me_are_ends (ok_Land_are_ends T) (hr.mono (by decide)) (b_Land_are_ends T) .nil pass0 (pa_cons (pv 3) (pa_cons (pv 4) pa_nil))))) pa_nil)))
    (pss_one (ps_ret (pe_tupN (pa_cons (pv 2) (pa_cons (pv 3) (pa_cons (pv 4) (pa_cons (pe_call (ok_checked_times T) (hr.mono (by decide)) (by rfl) T.g_checked_times T.F_checked_times.kp (b_checked_times T) .nil pass0 (pa_cons (pv 5) (pa_cons (pe_callB call_lenQ (by rfl) T.m_len (by decide +kernel) (pa_cons (pe_fld (pv 0) rfl) pa_nil)) pa_nil))) pa_nil)))))))))), ?_⟩
  intro F0 H0 D hrt hnx
  cases hR with
  | mk fs ws ps l hw hf h hl hm =>
  obtain ⟨h1, h2, h3, h4, h5, h6⟩ := h
  show SR F0 H0 _ [.obj (LandC K) fs, .d (eLk l), .u, .u, .u, .u] D
  refine sr_seq (sr_drop (e_call (args := [.d (.bool true)]) (a_cons (e_eq (y := .bool true) (by walk_at "ev") (by rfl)) a_nil) .mk) (nx_go (sr_seq ?_)))
  refine sr_unp (x := eLk l) (e_var rfl) (gd_tup (gds_cons (g_name (by walk_at "set")) (gds_cons (g_name (by walk_at "set")) (gds_cons (g_name (by walk_at "set")) (gds_cons (g_name (by walk_at "set")) gds_nil))))) (nx_go ?_)
  refine sr_seq (sr_drop (e_call (args := [.d (.bool true)]) (a_cons (e_andV (b := true) (b' := true) (e_call (a_cons (e_var rfl) a_nil) (.mk _ h1)) fun _ => e_meth (e_var rfl) hm (a_cons (e_var rfl) (a_cons (e_var rfl) a_nil)) (.mk _ _ _ _ hf h2 h3 h4)) a_nil) .mk) (nx_go ?_))
  refine r_ret (e_tupS (d_cons (e_var rfl) (d_cons (e_var rfl) (d_cons (e_var rfl) (d_cons (e_call (a_cons (e_var rfl) (a_cons (e_lenA (e_fld T.cLand T.n_winds (e_var rfl) hw) rfl) a_nil)) (.mk _ _ ?_ h6 (by rw [h5]; exact hl))) d_nil))))) rfl hrt
  simp [lenF, h5]
def PaOk (places : List Str) (p : Pa) : Prop := p.one ∈ places ∧ p.oth ∈ places ∧ p.one ≠ p.oth ∧ 1 ≤ p.m ∧ p.m ≤ 1000
inductive R_Land_checked_path (K : Frag) : List SV → SV → Prop
  | mk (fs : List (Str × PyData)) (ps : List Str) (l : Pa) (hf : fl fs "places" = some (.tuple (ps.map .str))) (h : PaOk ps l) (hm : fl fs "are_ends" = none) : R_Land_checked_path K [.obj (LandC K) fs, .d (ePa l)] (.d (ePa l))
theorem ok_Land_checked_path (T : Tx K mg) : FnOk P w K mg base CX0 2 (He.fAd K ("Land", some "checked_path")) T.fd_Land_checked_path ["self", "path"] (spQ (R_Land_checked_path K)) := by
  refine okQ T.F_Land_checked_path sc_Land_checked_path (fun _ _ h => by cases h; rfl) (by decide) ?_
  rintro X ⟨cdv, A, outer, s, H, rfl, hr⟩ args r hR
  refine ⟨_, (pss_cons (ps_expr (pe_call (ok_require T) (hr.mono (by decide)) (by rfl) T.g_require T.F_require.kp (b_require T) .nil pass0 (pa_cons (pe_cmpR op_eq (pe_callB call_lenQ (by rfl) T.m_len (by decide +kernel) (pa_cons (pv 1) pa_nil)) pe_int (nomark _)) pa_nil)))
    (pss_cons (ps_asg (pv 1) (pg_tup rfl (pgs_cons (pg_name (i := 2) sc_Land_checked_path.nd rfl (Or.inl rfl)) (pgs_cons (pg_name (i := 3) sc_Land_checked_path.nd rfl (Or.inl rfl)) (pgs_cons (pg_name (i := 4) sc_Land_checked_path.nd rfl (Or.inl rfl)) pgs_nil)))))
    (pss_cons (ps_expr (pe_call (ok_require T) (hr.mono (by decide)) (by rfl) T.g_require T.F_require.kp (b_require T) .nil pass0 (pa_cons (pe_and (pe_meth (pv 0) T.cLand T.me_are_ends (ok_Land_are_ends T) (hr.mono (by decide)) (b_Land_are_ends T) .nil pass0 (pa_cons (pv 2) (pa_cons (pv 3) pa_nil))) (pe_one (pe_chain op_le op_le pe_int (pv 4) (pe_glob (v := .int 1000) rfl T.i_MOST_MINUTES_lands ⟨_, rfl⟩)))) pa_nil)))
    (pss_one (ps_ret (pe_tupN (pa_cons (pv 2) (pa_cons (pv 3) (pa_cons (pv 4) pa_nil))))))))), ?_⟩
  intro F0 H0 D hrt hnx
  cases hR with
  | mk fs ps l hf h hm =>
  obtain ⟨h1, h2, h3, h4, h5⟩ := h
  show SR F0 H0 _ [.obj (LandC K) fs, .d (ePa l), .u, .u, .u] D
  refine sr_seq (sr_drop (e_call (args := [.d (.bool true)]) (a_cons (e_eq (y := .bool true) (by walk_at "ev") (by rfl)) a_nil) .mk) (nx_go (sr_seq ?_)))
  refine sr_unp (x := ePa l) (e_var rfl) (gd_tup (gds_cons (g_name (by walk_at "set")) (gds_cons (g_name (by walk_at "set")) (gds_cons (g_name (by walk_at "set")) gds_nil)))) (nx_go ?_)
  refine sr_seq (sr_drop (e_call (args := [.d (.bool true)]) (a_cons (e_andV (b := true) (b' := true) (e_meth (e_var rfl) hm (a_cons (e_var rfl) (a_cons (e_var rfl) a_nil)) (.mk _ _ _ _ hf h1 h2 h3)) fun _ => e_eq (e_chain (x := .int 1) (y := .int l.m) (z := .int 1000) e_int (e_var rfl) (rq_I0 rfl) (fun _ => e_int) (fun _ => rq_I0 rfl)) ?_) a_nil) .mk) (nx_go ?_))
  · simp [h4, h5]
  · exact r_ret (by walk_at "ev") (by rfl) hrt
inductive R_Land_link_names (K : Frag) : List SV → SV → Prop
  | mk (fs : List (Str × PyData)) (ls : List Lk) (hf : fl fs "links" = some (.tuple (ls.map eLk))) (hl : ls.length < 100) : R_Land_link_names K [.obj (LandC K) fs] (.d (.tuple ((ls.map (·.nm)).map .str)))
def fstD : PyData → PyData
  | .tuple (x :: _) => x
  | _ => .none
theorem ok_Land_link_names (T : Tx K mg) : FnOk P w K mg base CX0 1 (gA K) T.fd_Land_link_names ["self"] (spQ (R_Land_link_names K)) := by
  refine okQ T.F_Land_link_names sc_Land_link_names (fun _ _ h => by cases h; rfl) (by decide) ?_
  rintro X ⟨cdv, A, outer, s, H, rfl, hr⟩ args r hR
  refine ⟨_, (pss_one (ps_ret (pe_callTy call_tupN (by rfl) T.m_tuple (by decide +kernel) (pa_cons (pe_lc (own := [("link", 1)]) (g := (gName 1)) (tt := tYes) (te := (tOp (rIxT K) (tVar 1) (tC (.int 0)))) rfl sc_Land_link_names.nd (pi_tup (pe_fld (pv 0) rfl)) (blkOk_by (by kernel_rfl)) (fun _ _ _ _ _ => (pg_name (i := 1) sc_Land_link_names.nd rfl (Or.inl rfl))) (fun _ _ _ _ _ => pts_nil) (fun _ _ _ _ _ => (pe_ix ix_tup (pv 1) pe_int (fun _ _ => rfl)))) pa_nil)))), ?_⟩
  intro F0 H0 D hrt hnx
  cases hR with
  | mk fs ls hf hl =>
  show SR F0 H0 _ [.obj (LandC K) fs, .u] D
  refine r_ret (e_cb (d_cons (e_freeze (e_lc0 fstD (wk_tup (e_fld T.cLand T.n_links (e_var rfl) hf)).c ?_ fun i d hd => ?_)) d_nil) cq_tupleL) ?_ hrt
  · rw [List.length_map]
    exact Nat.lt_trans hl (by decide)
  · rw [List.getElem?_map] at hd
    cases hx : ls[i]? with
    | none => rw [hx] at hd; cases hd
    | some l =>
      rw [hx] at hd
      cases hd
      exact ⟨_, v_name (d := eLk l) (by walk_at "set"), e_ixT (x := .str l.nm) (e_var rfl) e_int (by decide) rfl⟩
  · simp only [List.map_map]
    rfl
inductive R_Land_check_place (K : Frag) : List SV → SV → Prop
  | mk (p : Pt) (x : Str) (h : x ∈ p.places) : R_Land_check_place K [eLand K p, .d (.str x)] (.d .none)
theorem ok_Land_check_place (T : Tx K mg) : FnOk P w K mg base CX0 1 (He.fAd K ("Land", some "check_place")) T.fd_Land_check_place ["self", "place"] (spQ (R_Land_check_place K)) := by
  refine okQ T.F_Land_check_place sc_Land_check_place (fun _ _ h => by cases h; rfl) (by decide) ?_
  rintro X ⟨cdv, A, outer, s, H, rfl, hr⟩ args r hR
  refine ⟨_, (pss_one (ps_if (pt_cmpR op_notIn_seq (pv 1) (pe_fld (pv 0) rfl) rfl) pss_never pss_nil)), ?_⟩
  intro F0 H0 D hrt hnx
  cases hR with
  | mk p x h =>
  show SR F0 H0 _ [eLand K p, .d (.str x)] D
  exact r_ifF (et_test (e_notInT (e_var rfl) (e_fld T.cLand T.n_places (e_var rfl) rfl))) (by simp [h]) (sr_next fun σ H S => hnx rfl σ H _ S)
inductive R_Land_check_wind (K : Frag) : List SV → SV → Prop
  | mk (p : Pt) (x : Str) (h : x ∈ p.winds) : R_Land_check_wind K [eLand K p, .d (.str x)] (.d .none)
theorem ok_Land_check_wind (T : Tx K mg) : FnOk P w K mg base CX0 1 (He.fAd K ("Land", some "check_wind")) T.fd_Land_check_wind ["self", "wind"] (spQ (R_Land_check_wind K)) := by
  refine okQ T.F_Land_check_wind sc_Land_check_wind (fun _ _ h => by cases h; rfl) (by decide) ?_
  rintro X ⟨cdv, A, outer, s, H, rfl, hr⟩ args r hR
  refine ⟨_, (pss_one (ps_if (pt_cmpR op_notIn_seq (pv 1) (pe_fld (pv 0) rfl) rfl) pss_never pss_nil)), ?_⟩
  intro F0 H0 D hrt hnx
  cases hR with
  | mk p x h =>
  show SR F0 H0 _ [eLand K p, .d (.str x)] D
  exact r_ifF (et_test (e_notInT (e_var rfl) (e_fld T.cLand T.n_winds (e_var rfl) rfl))) (by simp [h]) (sr_next fun σ H S => hnx rfl σ H _ S)
end Ef
/-! The defs about names and lands. -/
namespace Ef
open PySem PySem.Spec PyProof.Rows L2
local macro_rules | `(tactic| walk_at "set") => `(tactic| (repeat' (first | exact SetAt.z | apply SetAt.s)))
local macro_rules | `(tactic| walk_at "le") => `(tactic| (repeat' (first | exact Le.nil | (with_reducible apply Le.eq) | (with_reducible apply Le.u) | (with_reducible apply Le.as) | rfl)))
local macro_rules | `(tactic| walk_at "ev1") => `(tactic| first
  | exact e_int | exact e_str | exact e_bl | exact e_non
  | exact e_var rfl | exact d_nil | exact a_nil | exact et_yes | exact o_none | exact k_own rfl
  | exact e_lenM rfl
  | ((with_reducible show lenK _ = true); rfl) | ((with_reducible show eqK _ _ = true); rfl) | ((with_reducible show smallL _ = true); rfl)
  | with_reducible apply d_cons | with_reducible apply a_cons | with_reducible apply o_some
  | with_reducible apply e_add | with_reducible apply e_sub | with_reducible apply e_lt | with_reducible apply e_le | with_reducible apply e_gt | with_reducible apply e_ge
  | with_reducible apply e_mul | with_reducible apply e_mod | with_reducible apply e_fdiv
  | with_reducible apply e_eqA | with_reducible apply e_neA
  | with_reducible apply e_isN | with_reducible apply e_notN | with_reducible apply e_notV | with_reducible apply et_test | with_reducible apply et_B | with_reducible apply et_not
  | with_reducible apply et_and2 | with_reducible apply et_or2 | with_reducible apply e_andV2 | with_reducible apply e_orV2
  | with_reducible apply e_tupS | with_reducible apply e_lstS | exact e_dnew
  | with_reducible apply e_lenA
  | (with_reducible apply e_cb (hr := cq_abs)) | (with_reducible apply e_cb (hr := cq_int1)) | (with_reducible apply e_cb (hr := cq_max2)) | (with_reducible apply e_cb (hr := cq_min2))
  | with_reducible apply e_call | with_reducible apply e_meth
  | with_reducible apply e_din | with_reducible apply e_dnotin | with_reducible apply e_dget | with_reducible apply e_dget1 | with_reducible apply e_dget2)
local macro_rules | `(tactic| walk_at "ev") => `(tactic| repeat' (walk_at "ev1"))
variable {P : Program} {w : World} {K : Frag} {mg : Str → Option Value} {base : Heap}
/-! ### walks -/
def walksP (p : Pt) (x : Str) : List (Str × Int) := p.paths.filterMap fun q => if x = q.one then some (q.oth, q.m) else if x = q.oth then some (q.one, q.m) else none
def eSI (q : Str × Int) : PyData := .tuple [.str q.1, .int q.2]
inductive R_Land_walks_from (K : Frag) : List SV → SV → Prop
  | mk (p : Pt) (x : Str) (h : x ∈ p.places) (hl : p.paths.length < 100) : R_Land_walks_from K [eLand K p, .d (.str x)] (.ml ((walksP p x).map eSI))
def walkStep (x : Str) (s : List (Str × Int)) (q : Pa) : List (Str × Int) := s ++ (if x = q.one then [(q.oth, q.m)] else if x = q.oth then [(q.one, q.m)] else [])
theorem walk_fold (x : Str) : ∀ (l : List Pa) (a : List (Str × Int)), l.foldl (walkStep x) a = a ++ l.filterMap fun q => if x = q.one then some (q.oth, q.m) else if x = q.oth then some (q.one, q.m) else none
  | [], a => by simp
  | q :: l, a => by
    rw [List.foldl_cons, walk_fold x l, List.filterMap_cons]
    unfold walkStep
    by_cases h1 : x = q.one
    · rw [if_pos h1, if_pos h1, List.append_assoc]
      rfl
    · rw [if_neg h1, if_neg h1]
      by_cases h2 : x = q.oth
      · rw [if_pos h2, if_pos h2, List.append_assoc]
        rfl
      · rw [if_neg h2, if_neg h2, List.append_nil]
theorem ok_Land_walks_from (T : Tx K mg) : FnOk P w K mg base CX0 2 (He.fAd K ("Land", some "walks_from")) T.fd_Land_walks_from ["self", "place"] (spQ (R_Land_walks_from K)) := by
  refine okQ T.F_Land_walks_from sc_Land_walks_from (fun _ _ h => by cases h; rfl) (by decide) ?_
  rintro X ⟨cdv, A, outer, s, H, rfl, hr⟩ args r hR
  refine ⟨_, (pss_cons (ps_expr (pe_meth (pv 0) T.cLand T.me_check_place (ok_Land_check_place T) (hr.mono (by decide)) (b_Land_check_place T) .nil pass0 (pa_cons (pv 1) pa_nil)))
    (pss_cons (ps_set (i := 2) sc_Land_walks_from.nd rfl (Or.inl rfl) (pe_lst pa_nil))
    (pss_cons (ps_for PassesOwn.never rfl (pi_tup (pe_fld (pv 0) rfl)) (pg_tup rfl (pgs_cons (pg_name (i := 3) sc_Land_walks_from.nd rfl (Or.inl rfl)) (pgs_cons (pg_name (i := 4) sc_Land_walks_from.nd rfl (Or.inl rfl)) (pgs_cons (pg_name (i := 5) sc_Land_walks_from.nd rfl (Or.inl rfl)) pgs_nil))))
      (pss_one (ps_if (pt_cmpR op_eq (pv 1) (pv 3) (nomark _)) (pss_one (ps_expr (pe_bm PySem.F.plainAttrs_list PySem.F.slot_list_append PySem.F.type_list_append mt_append (pv 2) (pa_cons (pe_tupN (pa_cons (pv 4) (pa_cons (pv 5) pa_nil))) pa_nil)))) (pss_one (ps_if (pt_cmpR op_eq (pv 1) (pv 4) (nomark _)) (pss_one (ps_expr (pe_bm PySem.F.plainAttrs_list PySem.F.slot_list_append PySem.F.type_list_append mt_append (pv 2) (pa_cons (pe_tupN (pa_cons (pv 3) (pa_cons (pv 5) pa_nil))) pa_nil)))) pss_nil)))))
    (pss_one (ps_ret (pv 2)))))), ?_⟩
  intro F0 H0 D hrt hnx
  cases hR with
  | mk p x h hl =>
  show SR F0 H0 _ [eLand K p, .d (.str x), .u, .u, .u, .u] D
  refine sr_seq (sr_drop (e_meth (e_var rfl) rfl (a_cons (e_var rfl) a_nil) (.mk _ _ h)) (nx_go (sr_seq (r_asg (r := .ml []) (by walk_at "ev") (by walk_at "set") (nx_go (sr_seq ?_))))))
  refine sr_fold p.paths ePa (walkStep x) (fun s => [eLand K p, .d (.str x), .ml (s.map eSI), .u, .u, .u]) (fun i s => s.length ≤ i) [] (wk_tup (e_fld T.cLand T.n_paths (e_var rfl) rfl)) (by walk_at "le") (Nat.le_refl _) (fun F1 i q s gx hq hs _ => ⟨?_, _, gd_tup (gds_cons (g_name (by walk_at "set")) (gds_cons (g_name (by walk_at "set")) (gds_cons (g_name (by walk_at "set")) gds_nil))), ?_⟩) (fun _ => ?_)
  · unfold walkStep
    rw [List.length_append]
    split
    · exact Nat.succ_le_succ hs
    · split
      · exact Nat.succ_le_succ hs
      · exact Nat.le_succ_of_le hs
  · have hil := (List.getElem?_eq_some_iff.mp hq).1
    have hsz : (s.map eSI).length < sizeLine := by
      rw [List.length_map]
      exact Nat.lt_trans (Nat.lt_of_le_of_lt hs (Nat.lt_trans hil hl)) (by decide)
    refine r_if (b' := decide (x = q.one)) (by walk_at "ev") (by rfl) (fun h1 => ?_) (fun h1 => r_if (b' := decide (x = q.oth)) (by walk_at "ev") (by rfl) (fun h2 => ?_) (fun h2 => ?_))
    · have h1 := of_decide_eq_true h1
      refine r_app (n := 2) rfl (by walk_at "ev") hsz (by walk_at "set") (nx_end rfl ?_)
      walk_at "le"
      rw [walkStep, if_pos h1, List.map_append]
      rfl
    · have h1 := of_decide_eq_false h1
      have h2 := of_decide_eq_true h2
      refine r_app (n := 2) rfl (by walk_at "ev") hsz (by walk_at "set") (nx_end rfl ?_)
      walk_at "le"
      rw [walkStep, if_neg h1, if_pos h2, List.map_append]
      rfl
    · have h1 := of_decide_eq_false h1
      have h2 := of_decide_eq_false h2
      refine sr_next (nx_end rfl ?_)
      walk_at "le"
      rw [walkStep, if_neg h1, if_neg h2, List.append_nil]
  · refine nx_go (sr_retM (ds := (walksP p x).map eSI) ?_ hrt)
    rw [walk_fold]
    rfl
end Ef
/-! The defs about names and lands. -/
namespace Ef
open PySem PySem.Spec PyProof.Rows L2
local macro_rules | `(tactic| walk_at "set") => `(tactic| (repeat' (first | exact SetAt.z | apply SetAt.s)))
local macro_rules | `(tactic| walk_at "le") => `(tactic| (repeat' (first | exact Le.nil | (with_reducible apply Le.eq) | (with_reducible apply Le.u) | (with_reducible apply Le.as) | rfl)))
local macro_rules | `(tactic| walk_at "ev1") => `(tactic| first
  | exact e_int | exact e_str | exact e_bl | exact e_non
  | exact e_var rfl | exact d_nil | exact a_nil | exact et_yes | exact o_none | exact k_own rfl
  | exact e_lenM rfl
  | ((with_reducible show lenK _ = true); rfl) | ((with_reducible show eqK _ _ = true); rfl) | ((with_reducible show smallL _ = true); rfl)
  | with_reducible apply d_cons | with_reducible apply a_cons | with_reducible apply o_some
  | with_reducible apply e_add | with_reducible apply e_sub | with_reducible apply e_lt | with_reducible apply e_le | with_reducible apply e_gt | with_reducible apply e_ge
  | with_reducible apply e_mul | with_reducible apply e_mod | with_reducible apply e_fdiv
  | with_reducible apply e_eqA | with_reducible apply e_neA
  | with_reducible apply e_isN | with_reducible apply e_notN | with_reducible apply e_notV | with_reducible apply et_test | with_reducible apply et_B | with_reducible apply et_not
  | with_reducible apply et_and2 | with_reducible apply et_or2 | with_reducible apply e_andV2 | with_reducible apply e_orV2
  | with_reducible apply e_tupS | with_reducible apply e_lstS | exact e_dnew
  | with_reducible apply e_lenA
  | (with_reducible apply e_cb (hr := cq_abs)) | (with_reducible apply e_cb (hr := cq_int1)) | (with_reducible apply e_cb (hr := cq_max2)) | (with_reducible apply e_cb (hr := cq_min2))
  | with_reducible apply e_call | with_reducible apply e_meth
  | with_reducible apply e_din | with_reducible apply e_dnotin | with_reducible apply e_dget | with_reducible apply e_dget1 | with_reducible apply e_dget2)
local macro_rules | `(tactic| walk_at "ev") => `(tactic| repeat' (walk_at "ev1"))
variable {P : Program} {w : World} {K : Frag} {mg : Str → Option Value} {base : Heap}
inductive R_Land_minutes_between (K : Frag) : List SV → SV → Prop
  | mk (p : Pt) (x y : Str) (m : Int) (h : x ∈ p.places) (hy : y ∈ p.places) (hl : p.paths.length < 100) (hm : valG (walksP p x) y = some m) : R_Land_minutes_between K [eLand K p, .d (.str x), .d (.str y)] (.d (.int m))
theorem ok_Land_minutes_between (T : Tx K mg) : FnOk P w K mg base CX0 3 (He.fAd K ("Land", some "minutes_between")) T.fd_Land_minutes_between ["self", "one", "other"] (spQ (R_Land_minutes_between K)) := by
  refine okQ T.F_Land_minutes_between sc_Land_minutes_between (fun _ _ h => by cases h; rfl) (by decide) ?_
  rintro X ⟨cdv, A, outer, s, H, rfl, hr⟩ args r hR
  refine ⟨_, (pss_cons (ps_expr (pe_meth (pv 0) T.cLand T.me_check_place (ok_Land_check_place T) (hr.mono (by decide)) (b_Land_check_place T) .nil pass0 (pa_cons (pv 1) pa_nil)))
    (pss_cons (ps_expr (pe_meth (pv 0) T.cLand T.me_check_place (ok_Land_check_place T) (hr.mono (by decide)) (b_Land_check_place T) .nil pass0 (pa_cons (pv 2) pa_nil)))
    (pss_cons (ps_for PassesOwn.never rfl (pi_list (pe_meth (pv 0) T.cLand T.me_walks_from (ok_Land_walks_from T) (hr.mono (by decide)) (b_Land_walks_from T) .nil pass0 (pa_cons (pv 1) pa_nil))) (pg_tup rfl (pgs_cons (pg_name (i := 3) sc_Land_minutes_between.nd rfl (Or.inl rfl)) (pgs_cons (pg_name (i := 4) sc_Land_minutes_between.nd rfl (Or.inl rfl)) pgs_nil)))
      (pss_one (ps_if (pt_cmpR op_eq (pv 3) (pv 2) (nomark _)) (pss_one (ps_ret (pv 4))) pss_nil)))
    (pss_one (ps_ret pe_non))))), ?_⟩
  intro F0 H0 D hrt hnx
  cases hR with
  | mk p x y m h hy hl hm =>
  show SR F0 H0 _ [eLand K p, .d (.str x), .d (.str y), .u, .u] D
  refine sr_seq (sr_drop (e_meth (e_var rfl) rfl (a_cons (e_var rfl) a_nil) (.mk _ _ h)) (nx_go (sr_seq (sr_drop (e_meth (e_var rfl) rfl (a_cons (e_var rfl) a_nil) (.mk _ _ hy)) (nx_go (sr_seq ?_))))))
  refine sr_for (wk_list (e_freeze (e_meth (e_var rfl) rfl (a_cons (e_var rfl) a_nil) (.mk _ _ h hl)))) (fun i Γi => Le Γi [eLand K p, .d (.str x), .d (.str y), .u, .u] ∧ valG ((walksP p x).drop i) y = some m) ⟨by walk_at "le", hm⟩ (fun F1 i d Γi gx hd ⟨hl, hv⟩ => ?_) (fun Γn ⟨_, hv⟩ => ?_)
  · rw [List.getElem?_map] at hd
    cases hx : (walksP p x)[i]? with
    | none => rw [hx] at hd; cases hd
    | some q =>
      rw [hx] at hd
      cases hd
      obtain ⟨hi, e⟩ := List.getElem?_eq_some_iff.mp hx
      rw [List.drop_eq_getElem_cons hi, e, valG_cons] at hv
      refine ⟨[eLand K p, .d (.str x), .d (.str y), .d (.str q.1), .d (.int q.2)], GD.weak hl (gd_tup (gds_cons (g_name (by walk_at "set")) (gds_cons (g_name (by walk_at "set")) gds_nil))), ?_⟩
      refine r_if (b' := decide (q.1 = y)) (by walk_at "ev") (by rfl) (fun h1 => ?_) (fun h1 => ?_)
      · rw [if_pos (of_decide_eq_true h1)] at hv
        cases hv
        exact r_ret (by walk_at "ev") (by rfl) fun v H h => hrt v H (h.up gx)
      · rw [if_neg (of_decide_eq_false h1)] at hv
        refine sr_next fun σ H S => ⟨_, ⟨?_, hv⟩, S⟩
        walk_at "le"
  · rw [List.length_map, List.drop_length] at hv
    cases hv
end Ef
/-! What the fires' defs compute, in plain Lean. -/
namespace Ef
open PySem PySem.Spec PyProof.Rows L2
abbrev We := List (Int × Str)
abbrev Ro := List (Str × Int)
def eIS (q : Int × Str) : PyData := .tuple [.int q.1, .str q.2]
def eO : Option Int → PyData
  | none => .none
  | some i => .int i
def mn (i j : Int) : Int := if j < i then j else i
theorem mn_eq (i j : Int) : mn i j = min i j := by unfold mn; omega
def minO : List Int → Option Int
  | [] => none
  | x :: xs => some (xs.foldl min x)
theorem minO_spec : ∀ {xs : List Int} {m : Int}, minO xs = some m → m ∈ xs ∧ ∀ y ∈ xs, m ≤ y
  | [], m, h => by cases h
  | x :: xs, m, h => by
    have key : ∀ (l : List Int) (a : Int), (l.foldl min a = a ∨ l.foldl min a ∈ l) ∧ l.foldl min a ≤ a ∧ ∀ y ∈ l, l.foldl min a ≤ y := by
      intro l
      induction l with
      | nil => intro a; exact ⟨.inl rfl, Int.le_refl _, fun y h => nomatch h⟩
      | cons b l ih =>
        intro a
        obtain ⟨h1, h2, h3⟩ := ih (min a b)
        rw [List.foldl_cons]
        refine ⟨?_, by omega, fun y hy => ?_⟩
        · rcases h1 with h1 | h1
          · rw [h1]
            by_cases h : a ≤ b
            · left; omega
            · right; rw [show min a b = b by omega]; exact List.mem_cons_self
          · exact .inr (List.mem_cons_of_mem _ h1)
        · rcases List.mem_cons.mp hy with rfl | hy
          · omega
          · exact h3 y hy
    obtain ⟨h1, h2, h3⟩ := key xs x
    simp only [minO, Option.some.injEq] at h
    subst h
    refine ⟨?_, fun y hy => ?_⟩
    · rcases h1 with h1 | h1
      · rw [h1]; exact List.mem_cons_self
      · exact List.mem_cons_of_mem _ h1
    · rcases List.mem_cons.mp hy with rfl | hy
      · exact h2
      · exact h3 y hy
theorem minO_none {xs : List Int} : minO xs = none ↔ xs = [] := by cases xs <;> simp [minO]
def bef (W : We) (m : Int) : List Str := (W.filter fun q => decide (q.1 ≤ m)).map (·.2)
def blowM (W : We) (m : Int) : Str := (bef W m).getLast?.getD default
def chanM (W : We) (m : Int) : List Int := m :: (W.filter fun q => decide (m < q.1)).map (·.1)
def idxM (ws : List Str) (c : Str) : Nat := ws.idxOf c
def numAt (row : List (Option Int)) (k : Nat) : Option Int := (row[k]?).join
def endsM (ws : List Str) (W : We) (row : List (Option Int)) (m : Int) : List Int := (chanM W m).filterMap fun s => (numAt row (idxM ws (blowM W s))).map (s + ·)
def caughtM (ws : List Str) (W : We) (row : List (Option Int)) (m : Int) : Option Int := minO (endsM ws W row m)
/-- a weather as drawn -/
structure WOk (ws : List Str) (W : We) : Prop where
  ne : ∃ w r, W = (0, w) :: r
  inw : ∀ q ∈ W, q.2 ∈ ws
  asc : W.Pairwise fun a b => a.1 < b.1
  few : W.length < 40
  low : ∀ q ∈ W, q.1 < 1000
theorem WOk.pos {ws : List Str} {W : We} (h : WOk ws W) : ∀ q ∈ W, 0 ≤ q.1 := by
  obtain ⟨w, r, e⟩ := h.ne
  intro q hq
  have a := h.asc
  rw [e] at hq a
  rcases List.mem_cons.mp hq with rfl | hq
  · exact Int.le_refl _
  · exact Int.le_of_lt ((List.pairwise_cons.mp a).1 q hq)
theorem bef_ne {ws : List Str} {W : We} (h : WOk ws W) {m : Int} (hm : 0 ≤ m) : bef W m ≠ [] := by
  obtain ⟨w, r, e⟩ := h.ne
  unfold bef
  rw [e, List.filter_cons, if_pos (by simpa using hm)]
  simp
theorem blow_last {ws : List Str} {W : We} (h : WOk ws W) {m : Int} (hm : 0 ≤ m) : (bef W m).getLast? = some (blowM W m) := by
  unfold blowM
  cases hc : (bef W m).getLast? with
  | none => exact absurd (List.getLast?_eq_none_iff.mp hc) (bef_ne h hm)
  | some w => rfl
theorem blow_in {ws : List Str} {W : We} (h : WOk ws W) {m : Int} (hm : 0 ≤ m) : blowM W m ∈ ws := by
  have k := List.mem_of_getLast? (blow_last h hm)
  unfold bef at k
  obtain ⟨q, hq, e⟩ := List.mem_map.mp k
  rw [← e]
  exact h.inw q ((List.mem_filter.mp hq).1)
theorem chan_pos {ws : List Str} {W : We} (h : WOk ws W) {m : Int} (hm : 0 ≤ m) : ∀ s ∈ chanM W m, 0 ≤ s := by
  intro s hs
  rcases List.mem_cons.mp hs with rfl | hs
  · exact hm
  · obtain ⟨q, hq, rfl⟩ := List.mem_map.mp hs
    exact h.pos q ((List.mem_filter.mp hq).1)
theorem chan_le {W : We} {m : Int} : (chanM W m).length ≤ W.length + 1 := by
  unfold chanM
  rw [List.length_cons, List.length_map]
  exact Nat.succ_le_succ (List.length_filter_le _ _)
theorem chan_ge {W : We} {m : Int} : ∀ s ∈ chanM W m, m ≤ s := by
  intro s hs
  rcases List.mem_cons.mp hs with rfl | hs
  · exact Int.le_refl _
  · obtain ⟨q, hq, rfl⟩ := List.mem_map.mp hs
    have := (List.mem_filter.mp hq).2
    exact Int.le_of_lt (of_decide_eq_true this)
/-- the least minute of each place -/
def leastM (rows : Ro) : Ro := rows.foldl (fun f q => putG f q.1 (mn q.2 ((valG f q.1).getD q.2))) []
def alive (ends : Ro) (x : Str) (m : Int) : Bool := match valG ends x with
  | none => true
  | some e => decide (m < e)
theorem at_map {α : Type} {f : α → PyData} {xs : List α} {i : Nat} {d : PyData} (h : (xs.map f)[i]? = some d) : ∃ x, xs[i]? = some x ∧ d = f x := by
  rw [List.getElem?_map] at h
  cases hx : xs[i]? with
  | none => rw [hx] at h; cases h
  | some x =>
    rw [hx] at h
    exact ⟨x, rfl, (Option.some.inj h).symm⟩
end Ef
/-! The defs about weathers and fires. -/
namespace Ef
open PySem PySem.Spec PyProof.Rows L2
local macro_rules | `(tactic| walk_at "set") => `(tactic| (repeat' (first | exact SetAt.z | apply SetAt.s)))
local macro_rules | `(tactic| walk_at "le") => `(tactic| (repeat' (first | exact Le.nil | (with_reducible apply Le.eq) | (with_reducible apply Le.u) | (with_reducible apply Le.as) | rfl)))
local macro_rules | `(tactic| walk_at "ev1") => `(tactic| first
  | exact e_int | exact e_str | exact e_bl | exact e_non
  | exact e_var rfl | exact d_nil | exact a_nil | exact et_yes | exact o_none | exact k_own rfl
  | exact e_lenM rfl
  | ((with_reducible show lenK _ = true); rfl) | ((with_reducible show eqK _ _ = true); rfl) | ((with_reducible show smallL _ = true); rfl)
  | with_reducible apply d_cons | with_reducible apply a_cons | with_reducible apply o_some
  | with_reducible apply e_add | with_reducible apply e_sub | with_reducible apply e_lt | with_reducible apply e_le | with_reducible apply e_gt | with_reducible apply e_ge
  | with_reducible apply e_mul | with_reducible apply e_mod | with_reducible apply e_fdiv
  | with_reducible apply e_eqA | with_reducible apply e_neA
  | with_reducible apply e_isN | with_reducible apply e_notN | with_reducible apply e_notV | with_reducible apply et_test | with_reducible apply et_B | with_reducible apply et_not
  | with_reducible apply et_and2 | with_reducible apply et_or2 | with_reducible apply e_andV2 | with_reducible apply e_orV2
  | with_reducible apply e_tupS | with_reducible apply e_lstS | exact e_dnew
  | with_reducible apply e_lenA
  | (with_reducible apply e_cb (hr := cq_abs)) | (with_reducible apply e_cb (hr := cq_int1)) | (with_reducible apply e_cb (hr := cq_max2)) | (with_reducible apply e_cb (hr := cq_min2))
  | with_reducible apply e_call | with_reducible apply e_meth
  | with_reducible apply e_din | with_reducible apply e_dnotin | with_reducible apply e_dget | with_reducible apply e_dget1 | with_reducible apply e_dget2)
local macro_rules | `(tactic| walk_at "ev") => `(tactic| repeat' (walk_at "ev1"))
variable {P : Program} {w : World} {K : Frag} {mg : Str → Option Value} {base : Heap}
abbrev eWe (W : We) : PyData := .list (W.map eIS)
abbrev eRo (r : Ro) : PyData := .list (r.map eSI)
inductive R_check_winds (K : Frag) : List SV → SV → Prop
  | mk (p : Pt) (W : We) (h : ∀ q ∈ W, q.2 ∈ p.winds) : R_check_winds K [eLand K p, .d (eWe W)] (.d .none)
theorem ok_check_winds (T : Tx K mg) : FnOk P w K mg base CX0 2 (He.fAd K ("check_winds", none)) T.fd_check_winds ["land", "weather"] (spQ (R_check_winds K)) := by
  refine okQ T.F_check_winds sc_check_winds (fun _ _ h => by cases h; rfl) (by decide) ?_
  rintro X ⟨cdv, A, outer, s, H, rfl, hr⟩ args r hR
  refine ⟨_, (pss_one (ps_for PassesOwn.never rfl (pi_list (pv 1)) (pg_tup rfl (pgs_cons (pg_name (i := 2) sc_check_winds.nd rfl (Or.inl rfl)) (pgs_cons (pg_name (i := 3) sc_check_winds.nd rfl (Or.inl rfl)) pgs_nil)))
      (pss_one (ps_expr (pe_meth (pv 0) T.cLand T.me_check_wind (ok_Land_check_wind T) (hr.mono (by decide)) (b_Land_check_wind T) .nil pass0 (pa_cons (pv 3) pa_nil)))))), ?_⟩
  intro F0 H0 D hrt hnx
  cases hR with
  | mk p W h =>
  show SR F0 H0 _ [eLand K p, .d (eWe W), .u, .u] D
  refine sr_const [eLand K p, .d (eWe W), .u, .u] (wk_list (e_var rfl)) (Le.refl _) (fun F1 i d hd => ?_) fun σ H S => hnx rfl σ H _ S
  obtain ⟨q, hq, rfl⟩ := at_map hd
  exact ⟨_, gd_tup (gds_cons (g_name (by walk_at "set")) (gds_cons (g_name (by walk_at "set")) gds_nil)), sr_drop (e_meth (e_var rfl) rfl (a_cons (e_var rfl) a_nil) (.mk _ _ (h q (List.mem_of_getElem? hq)))) (nx_end rfl (by walk_at "le"))⟩
inductive R_check_rows (K : Frag) : List SV → SV → Prop
  | mk (p : Pt) (r : Ro) (h : ∀ q ∈ r, q.1 ∈ p.places) : R_check_rows K [eLand K p, .d (eRo r)] (.d .none)
theorem ok_check_rows (T : Tx K mg) : FnOk P w K mg base CX0 2 (He.fAd K ("check_rows", none)) T.fd_check_rows ["land", "rows"] (spQ (R_check_rows K)) := by
  refine okQ T.F_check_rows sc_check_rows (fun _ _ h => by cases h; rfl) (by decide) ?_
  rintro X ⟨cdv, A, outer, s, H, rfl, hr⟩ args r hR
  refine ⟨_, (pss_one (ps_for PassesOwn.never rfl (pi_list (pv 1)) (pg_tup rfl (pgs_cons (pg_name (i := 2) sc_check_rows.nd rfl (Or.inl rfl)) (pgs_cons (pg_name (i := 3) sc_check_rows.nd rfl (Or.inl rfl)) pgs_nil)))
      (pss_one (ps_expr (pe_meth (pv 0) T.cLand T.me_check_place (ok_Land_check_place T) (hr.mono (by decide)) (b_Land_check_place T) .nil pass0 (pa_cons (pv 2) pa_nil)))))), ?_⟩
  intro F0 H0 D hrt hnx
  cases hR with
  | mk p r h =>
  show SR F0 H0 _ [eLand K p, .d (eRo r), .u, .u] D
  refine sr_const [eLand K p, .d (eRo r), .u, .u] (wk_list (e_var rfl)) (Le.refl _) (fun F1 i d hd => ?_) fun σ H S => hnx rfl σ H _ S
  obtain ⟨q, hq, rfl⟩ := at_map hd
  exact ⟨_, gd_tup (gds_cons (g_name (by walk_at "set")) (gds_cons (g_name (by walk_at "set")) gds_nil)), sr_drop (e_meth (e_var rfl) rfl (a_cons (e_var rfl) a_nil) (.mk _ _ (h q (List.mem_of_getElem? hq)))) (nx_end rfl (by walk_at "le"))⟩
inductive R_blowing (K : Frag) : List SV → SV → Prop
  | mk (ws : List Str) (W : We) (m : Int) (h : WOk ws W) (hm : 0 ≤ m) : R_blowing K [.d (eWe W), .d (.int m)] (.d (.str (blowM W m)))
theorem w_small {ws : List Str} {W : We} (h : WOk ws W) : W.length < sizeLine := Nat.lt_trans h.few (by decide)
theorem ok_blowing (T : Tx K mg) : FnOk P w K mg base CX0 1 (He.fAd K ("blowing", none)) T.fd_blowing ["weather", "minute"] (spQ (R_blowing K)) := by
  refine okQ T.F_blowing sc_blowing (fun _ _ h => by cases h; rfl) (by decide) ?_
  rintro X ⟨cdv, A, outer, s, H, rfl, hr⟩ args r hR
  refine ⟨_, (pss_one (ps_ret (pe_ix ix_list (pe_lc (own := [("start", 2), ("wind", 3)]) (g := (gTup K 2 (gCons (gName 2) (gCons (gName 3) gNil)))) (tt := (tTest (tOp (rI0 fun i j => .bl (decide (i ≤ j))) (tVar 2) (tVar 1)))) (te := (tVar 3)) rfl sc_blowing.nd (pi_list (pv 0)) (blkOk_by (by kernel_rfl)) (fun _ _ _ _ _ => (pg_tup rfl (pgs_cons (pg_name (i := 2) sc_blowing.nd rfl (Or.inl rfl)) (pgs_cons (pg_name (i := 3) sc_blowing.nd rfl (Or.inl rfl)) pgs_nil)))) (fun _ _ _ _ _ => (pts_one (pt_cmpR op_le (pv 2) (pv 1) (nomark _)))) (fun _ _ _ _ _ => (pv 3))) (pe_un un_neg pe_int) (fun _ _ => rfl)))), ?_⟩
  intro F0 H0 D hrt hnx
  cases hR with
  | mk ws W m h hm =>
  show SR F0 H0 _ [.d (eWe W), .d (.int m), .u, .u] D
  refine sr_ret (r := .d (.str (blowM W m))) (e_ixLast (e_freeze (e_lcF W eIS (fun q => if q.1 ≤ m then some (.str q.2) else none) (wk_list (e_var rfl)).c (w_small h) fun i q hq => ?_)) (e_neg e_int) ?_) hrt
  · refine ⟨_, _, gv_tup (gvs_cons (v_name (by walk_at "set")) (gvs_cons (v_name (by walk_at "set")) gvs_nil)), et_test (e_le (e_var rfl) (e_var rfl)), ?_, fun y hy => ?_⟩
    · by_cases e : q.1 ≤ m <;> simp [e]
    · split at hy
      · cases hy
        exact e_var rfl
      · cases hy
  · have e : W.filterMap (fun q => if q.1 ≤ m then some (PyData.str q.2) else none) = (bef W m).map .str := by
      unfold bef
      clear h hrt hnx
      induction W with
      | nil => rfl
      | cons q W ih =>
        rw [List.filterMap_cons, List.filter_cons]
        by_cases e : q.1 ≤ m <;> simp [e, ih]
    rw [e, List.getLast?_map, blow_last h hm]
    rfl
inductive R_chances (K : Frag) : List SV → SV → Prop
  | mk (ws : List Str) (W : We) (m : Int) (h : WOk ws W) : R_chances K [.d (eWe W), .d (.int m)] (.ml ((chanM W m).map .int))
theorem ok_chances (T : Tx K mg) : FnOk P w K mg base CX0 1 (He.fAd K ("chances", none)) T.fd_chances ["weather", "minute"] (spQ (R_chances K)) := by
  refine okQ T.F_chances sc_chances (fun _ _ h => by cases h; rfl) (by decide) ?_
  rintro X ⟨cdv, A, outer, s, H, rfl, hr⟩ args r hR
  refine ⟨_, (pss_one (ps_ret (pe_op op_cat (pe_lst (pa_cons (pv 1) pa_nil)) (pe_lc (own := [("start", 2), ("_", 3)]) (g := (gTup K 2 (gCons (gName 2) (gCons (gName 3) gNil)))) (tt := (tTest (tOp (rI0 fun i j => .bl (decide (j < i))) (tVar 2) (tVar 1)))) (te := (tVar 2)) rfl sc_chances.nd (pi_list (pv 0)) (blkOk_by (by kernel_rfl)) (fun _ _ _ _ _ => (pg_tup rfl (pgs_cons (pg_name (i := 2) sc_chances.nd rfl (Or.inl rfl)) (pgs_cons (pg_name (i := 3) sc_chances.nd rfl (Or.inl rfl)) pgs_nil)))) (fun _ _ _ _ _ => (pts_one (pt_cmpR op_gt (pv 2) (pv 1) (nomark _)))) (fun _ _ _ _ _ => (pv 2)))))), ?_⟩
  intro F0 H0 D hrt hnx
  cases hR with
  | mk ws W m h =>
  show SR F0 H0 _ [.d (eWe W), .d (.int m), .u, .u] D
  have e : W.filterMap (fun q => if m < q.1 then some (PyData.int q.1) else none) = ((W.filter fun q => decide (m < q.1)).map (·.1)).map .int := by
    clear h hrt hnx
    induction W with
    | nil => rfl
    | cons q W ih =>
      rw [List.filterMap_cons, List.filter_cons]
      by_cases e : m < q.1 <;> simp [e, ih]
  refine r_ret (e_cat (e_lstS (d_cons (e_var rfl) d_nil)) (e_lcF W eIS (fun q => if m < q.1 then some (.int q.1) else none) (wk_list (e_var rfl)).c (w_small h) fun i q hq => ?_) ?_) ?_ hrt
  · refine ⟨_, _, gv_tup (gvs_cons (v_name (by walk_at "set")) (gvs_cons (v_name (by walk_at "set")) gvs_nil)), et_test (e_gt (e_var rfl) (e_var rfl)), ?_, fun y hy => ?_⟩
    · by_cases e : m < q.1 <;> simp [e]
    · split at hy
      · cases hy
        exact e_var rfl
      · cases hy
  · rw [e, List.length_map, List.length_map]
    have := List.length_filter_le (fun q : Int × Str => decide (m < q.1)) W
    have := h.few
    rw [sizeLine_eq]
    simp only [List.length_cons, List.length_nil]
    omega
  · rw [e]
    rfl
inductive R_check_changes (K : Frag) : List SV → SV → Prop
  | mk (ws : List Str) (W : We) (h : WOk ws W) : R_check_changes K [.d (eWe W)] (.d .none)
theorem ok_check_changes (T : Tx K mg) : FnOk P w K mg base CX0 1 (He.fAd K ("check_changes", none)) T.fd_check_changes ["weather"] (spQ (R_check_changes K)) := by
  refine okQ T.F_check_changes sc_check_changes (fun _ _ h => by cases h; rfl) (by decide) ?_
  rintro X ⟨cdv, A, outer, s, H, rfl, hr⟩ args r hR
  refine ⟨_, (pss_cons (ps_setLc (i := 1) (own := [("minute", 2), ("_", 3)]) (g := (gTup K 2 (gCons (gName 2) (gCons (gName 3) gNil)))) (tt := tYes) (te := (tVar 2)) rfl sc_check_changes.nd rfl rfl (sw_true rfl rfl rfl (by decide +kernel)) (pi_list (pv 0)) (blkOk_by (by kernel_rfl)) (fun _ _ _ _ _ => (pg_tup rfl (pgs_cons (pg_name (i := 2) sc_check_changes.nd rfl (Or.inl rfl)) (pgs_cons (pg_name (i := 3) sc_check_changes.nd rfl (Or.inl rfl)) pgs_nil)))) (fun _ _ _ _ _ => pts_nil) (fun _ _ _ _ _ => (pv 2)))
    (pss_cons (ps_if (PW.pt (pw_or (pt_not (pt_chain op_le op_le pe_int (pe_callB call_lenQ (by rfl) T.m_len (by decide +kernel) (pa_cons (pv 1) pa_nil)) (pe_glob (v := .int 40) rfl T.i_MOST_CHANGES ⟨_, rfl⟩))) (pw_or (pt_cmpR op_ne (pe_ix ix_list (pv 1) pe_int (fun _ _ => rfl)) pe_int (nomark _)) (pw_or1 (pt_cmpR op_gt (pe_ix ix_list (pv 1) (pe_un un_neg pe_int) (fun _ _ => rfl)) (pe_glob (v := .int 100000) rfl T.i_MOST_MINUTE ⟨_, rfl⟩) (nomark _)))))) pss_never pss_nil)
    (pss_one (ps_if (pt_val (pe_callB (cr_any rfl) (by rfl) T.m_any (by decide +kernel) (pa_cons (pe_lc (own := [("minute", 2), ("later", 4)]) (g := (gTup K 2 (gCons (gName 2) (gCons (gName 4) gNil)))) (tt := tYes) (te := (tOp (rI0 fun i j => .bl (decide (i ≤ j))) (tVar 4) (tVar 2))) rfl sc_check_changes.nd (RZ.pi_zipA (by rfl) T.m_zip (pa_cons (pv 1) (pa_cons (pe_slice sl_list (pv 1) (po_some pe_int) po_none) pa_nil))) (blkOk_by (by kernel_rfl)) (fun _ _ _ _ _ => (pg_tup rfl (pgs_cons (pg_name (i := 2) sc_check_changes.nd rfl (Or.inl rfl)) (pgs_cons (pg_name (i := 4) sc_check_changes.nd rfl (Or.inl rfl)) pgs_nil)))) (fun _ _ _ _ _ => pts_nil) (fun _ _ _ _ _ => (pe_cmpR op_le (pv 4) (pv 2) (nomark _)))) pa_nil))) pss_never pss_nil)))), ?_⟩
  intro F0 H0 D hrt hnx
  cases hR with
  | mk ws W h =>
  obtain ⟨w0, rest, hW⟩ := h.ne
  have hlen : (W.map fun q => PyData.int q.1).length = W.length := List.length_map _
  show SR F0 H0 _ [.d (eWe W), .u, .u, .u, .u] D
  refine sr_seq (r_asg (r := .ml ((W.map (·.1)).map .int)) (e_as (e_lcM W eIS (fun q => .int q.1) (wk_list (e_var rfl)).c (w_small h) fun i q hq => ⟨_, gv_tup (gvs_cons (v_name (by walk_at "set")) (gvs_cons (v_name (by walk_at "set")) gvs_nil)), e_var rfl⟩) (by rw [List.map_map]; rfl)) (by walk_at "set") (nx_go (r_freeze (n := 1) rfl (by walk_at "set") ?_)))
  have h1 : (1 : Int) ≤ (((W.map (·.1)).map PyData.int).length : Nat) := by
    rw [List.length_map, List.length_map, hW, List.length_cons]
    omega
  have h2 : ((((W.map (·.1)).map PyData.int).length : Nat) : Int) ≤ 40 := by
    rw [List.length_map, List.length_map]
    have := h.few
    omega
  obtain ⟨z, hz⟩ : ∃ z, (W.map (·.1)).getLast? = some z := by
    cases hl : (W.map (·.1)).getLast? with
    | none =>
      rw [List.getLast?_eq_none_iff, hW] at hl
      cases hl
    | some z => exact ⟨z, rfl⟩
  have hz2 : z ≤ 100000 := by
    have := List.mem_of_getLast? hz
    obtain ⟨q, hq, rfl⟩ := List.mem_map.mp this
    have := h.low q hq
    omega
  refine sr_seq (r_ifF (et_or2 (et_not (et_test (e_chain (x := .int 1) (z := .int 40) e_int (e_lenA (e_var rfl) rfl) (rq_I0 rfl) (fun _ => e_int) (fun _ => rq_I0 rfl)))) (et_or2 (et_test (e_neA (e_ixL (x := .int 0) (e_var rfl) e_int (by decide) (by rw [hW]; rfl)) e_int rfl)) (et_test (e_gt (e_ixLast (x := .int z) (e_var rfl) (e_neg e_int) (by rw [List.getLast?_map, hz]; rfl)) e_int)))) ?_ (sr_next (nx_go ?_)))
  · have e3 : ¬ (100000 < z) := by omega
    simp only [lenF, h1, h2, e3, eqF, decide_true, Bool.and_true, Bool.not_true, decide_false, Bool.or_false]
  · refine r_ifF (et_B (e_cb (d_cons (e_freeze (e_lcM ((W.map (·.1)).zip ((W.map (·.1)).drop 1)) (fun p => .tuple [.int p.1, .int p.2]) (fun p => .bool (decide (p.2 ≤ p.1))) (wkc_eq (wk_zipLA (d_cons (e_var rfl) (d_cons (e_eq (e_freeze (e_slL (e_var rfl) (o_some e_int) o_none)) (y := .list (((W.map (·.1)).drop 1).map .int)) ?_) d_nil))).c (zipD_map _ _ _ _)) ?_ fun i p hp => ⟨_, gv_tupL (gvs_cons (v_name (by walk_at "set")) (gvs_cons (v_name (by walk_at "set")) gvs_nil)), e_le (e_var rfl) (e_var rfl)⟩)) d_nil) (cq_any (bs := ((W.map (·.1)).zip ((W.map (·.1)).drop 1)).map fun p => decide (p.2 ≤ p.1)) |> fun k => by rw [List.map_map] at k; exact k))) ?_ (sr_next fun σ H S => hnx rfl σ H _ S)
    · congr 1
      unfold cutD HT.sIx
      rw [List.map_drop]
      simp only [List.length_map]
      rw [if_neg (by omega), show min (Int.toNat 1) W.length = 1 by rw [hW, List.length_cons]; omega]
      rw [List.take_of_length_le (by rw [List.length_drop, List.length_map, List.length_map]; exact Nat.le_refl _)]
    · rw [List.length_zip, List.length_map]
      exact Nat.lt_of_le_of_lt (Nat.min_le_left _ _) (w_small h)
    · rw [List.any_map, List.any_eq_false]
      rintro ⟨a, b⟩ hp
      have asc : (W.map (·.1)).Pairwise (· < ·) := List.pairwise_map.mpr h.asc
      obtain ⟨i, hi⟩ := List.mem_iff_getElem?.mp hp
      obtain ⟨k1, k2⟩ := List.getElem?_zip_eq_some.mp hi
      rw [List.getElem?_drop] at k2
      obtain ⟨l1, e1⟩ := List.getElem?_eq_some_iff.mp k1
      obtain ⟨l2, e2⟩ := List.getElem?_eq_some_iff.mp k2
      have := List.pairwise_iff_getElem.mp asc i (1 + i) l1 l2 (by omega)
      rw [e1, e2] at this
      show ¬ (decide (b ≤ a)) = true
      simp only [decide_eq_true_eq]
      have this : a < b := this
      omega
end Ef
/-! The defs about weathers and fires. -/
namespace Ef
open PySem PySem.Spec PyProof.Rows L2
local macro_rules | `(tactic| walk_at "set") => `(tactic| (repeat' (first | exact SetAt.z | apply SetAt.s)))
local macro_rules | `(tactic| walk_at "le") => `(tactic| (repeat' (first | exact Le.nil | (with_reducible apply Le.eq) | (with_reducible apply Le.u) | (with_reducible apply Le.as) | rfl)))
local macro_rules | `(tactic| walk_at "ev1") => `(tactic| first
  | exact e_int | exact e_str | exact e_bl | exact e_non
  | exact e_var rfl | exact d_nil | exact a_nil | exact et_yes | exact o_none | exact k_own rfl
  | exact e_lenM rfl
  | ((with_reducible show lenK _ = true); rfl) | ((with_reducible show eqK _ _ = true); rfl) | ((with_reducible show smallL _ = true); rfl)
  | with_reducible apply d_cons | with_reducible apply a_cons | with_reducible apply o_some
  | with_reducible apply e_add | with_reducible apply e_sub | with_reducible apply e_lt | with_reducible apply e_le | with_reducible apply e_gt | with_reducible apply e_ge
  | with_reducible apply e_mul | with_reducible apply e_mod | with_reducible apply e_fdiv
  | with_reducible apply e_eqA | with_reducible apply e_neA
  | with_reducible apply e_isN | with_reducible apply e_notN | with_reducible apply e_notV | with_reducible apply et_test | with_reducible apply et_B | with_reducible apply et_not
  | with_reducible apply et_and2 | with_reducible apply et_or2 | with_reducible apply e_andV2 | with_reducible apply e_orV2
  | with_reducible apply e_tupS | with_reducible apply e_lstS | exact e_dnew
  | with_reducible apply e_lenA
  | (with_reducible apply e_cb (hr := cq_abs)) | (with_reducible apply e_cb (hr := cq_int1)) | (with_reducible apply e_cb (hr := cq_max2)) | (with_reducible apply e_cb (hr := cq_min2))
  | with_reducible apply e_call | with_reducible apply e_meth
  | with_reducible apply e_din | with_reducible apply e_dnotin | with_reducible apply e_dget | with_reducible apply e_dget1 | with_reducible apply e_dget2)
local macro_rules | `(tactic| walk_at "ev") => `(tactic| repeat' (walk_at "ev1"))
variable {P : Program} {w : World} {K : Frag} {mg : Str → Option Value} {base : Heap}
theorem zip_self {α : Type} : ∀ xs : List α, xs.zip xs = xs.map fun x => (x, x)
  | [] => rfl
  | x :: xs => by rw [List.zip_cons_cons, zip_self xs]; rfl
def eRow (row : List (Option Int)) : PyData := .tuple (row.map eO)
def leastRow (l : Lk) : List (Option Int) := l.ts.map (·.map (·.1))
inductive R_is_number (K : Frag) : List SV → SV → Prop
  | mk (t : Option (Int × Int)) (h : PairOk t) : R_is_number K [.d (eO (t.map (·.1))), .d (ePair t)] (.d (.bool true))
theorem ok_is_number (T : Tx K mg) : FnOk P w K mg base CX0 1 (He.fAd K ("is_number", none)) T.fd_is_number ["number", "pair"] (spQ (R_is_number K)) := by
  refine okQ T.F_is_number sc_is_number (fun _ _ h => by cases h; rfl) (by decide) ?_
  rintro X ⟨cdv, A, outer, s, H, rfl, hr⟩ args r hR
  refine ⟨_, (pss_cons (ps_if (PW.pt (pw_or (pt_cmp (pc_isN (pv 0))) (pw_or1 (pt_cmp (pc_isN (pv 1)))))) (pss_one (ps_ret (pe_and (pe_cmp (pc_isN (pv 0))) (pe_one (pe_cmp (pc_isN (pv 1))))))) pss_nil)
    (pss_one (ps_ret (pe_chain op_le op_le (pe_ix ix_tup (pv 1) pe_int (fun _ _ => rfl)) (pv 0) (pe_ix ix_tup (pv 1) pe_int (fun _ _ => rfl)))))), ?_⟩
  intro F0 H0 D hrt hnx
  cases hR with
  | mk t h =>
  cases t with
  | none =>
    show SR F0 H0 _ [.d .none, .d .none] D
    exact sr_seq (r_ifT (by walk_at "ev") (by rfl) (r_ret (by walk_at "ev") (by rfl) hrt))
  | some q =>
    show SR F0 H0 _ [.d (.int q.1), .d (.tuple [.int q.1, .int q.2])] D
    obtain ⟨h1, h2, h3⟩ : 1 ≤ q.1 ∧ q.1 ≤ q.2 ∧ q.2 ≤ 1000 := h
    refine sr_seq (r_ifF (by walk_at "ev") (by rfl) (sr_next (nx_go (r_ret (e_chain (e_ixT (x := .int q.1) (e_var rfl) e_int (by decide) rfl) (e_var rfl) (rq_I0 rfl) (fun _ => e_ixT (x := .int q.2) (e_var rfl) e_int (by decide) rfl) (fun _ => rq_I0 rfl)) ?_ hrt))))
    simp [h2]
structure PtOk (p : Pt) : Prop where
  wn : ∀ x ∈ p.winds, NameOk x
  wl : 1 ≤ p.winds.length ∧ p.winds.length ≤ 4
  wd : p.winds.Nodup
  pn : ∀ x ∈ p.places, NameOk x
  pl : 2 ≤ p.places.length ∧ p.places.length ≤ 24
  pd : p.places.Nodup
  ll : p.links.length ≤ 60
  lo : ∀ l ∈ p.links, LkOk p.winds p.places l
  ld : (p.links.map (·.nm)).Nodup
  al : p.paths.length ≤ 60
  ao : ∀ l ∈ p.paths, PaOk p.places l
  ad : p.paths.Pairwise fun a b => (a.one, a.oth) ≠ (b.one, b.oth) ∧ (a.one, a.oth) ≠ (b.oth, b.one)
inductive R_least_numbers (K : Frag) : List SV → SV → Prop
  | mk (p : Pt) (h : PtOk p) : R_least_numbers K [eLand K p] (.d (.tuple ((p.links.map leastRow).map eRow)))
theorem ok_least_numbers (T : Tx K mg) : FnOk P w K mg base CX0 1 (He.fAd K ("least_numbers", none)) T.fd_least_numbers ["land"] (spQ (R_least_numbers K)) := by
  refine okQ T.F_least_numbers sc_least_numbers (fun _ _ h => by cases h; rfl) (by decide) ?_
  rintro X ⟨cdv, A, outer, s, H, rfl, hr⟩ args r hR
  refine ⟨_, (pss_one (ps_ret (pe_callTy call_tupN (by rfl) T.m_tuple (by decide +kernel) (pa_cons (pe_lc (own := [("link", 2)]) (g := (gName 2)) (tt := tYes) (te := (tCB (rTupN K) (tCons (tLc (iTup K (tOp (rIxT K) (tVar 2) (tC (.int 3)))) (gName 1) tYes (tIf (tB (tIsN (tVar 1))) (tC .non) (tOp (rIxT K) (tVar 1) (tC (.int 0)))) [1]) tNil))) rfl sc_least_numbers.nd (pi_tup (pe_fld (pv 0) rfl)) (blkOk_by (by kernel_rfl)) (fun _ _ _ _ _ => (pg_name (i := 2) sc_least_numbers.nd rfl (Or.inl rfl))) (fun _ _ _ _ _ => pts_nil) (fun _ _ _ _ _ => (pe_callTy call_tupN (by rfl) T.m_tuple (by decide +kernel) (pa_cons (pe_lc (own := [("pair", 1)]) (g := (gName 1)) (tt := tYes) (te := (tIf (tB (tIsN (tVar 1))) (tC .non) (tOp (rIxT K) (tVar 1) (tC (.int 0))))) rfl sc_least_numbers.nd (pi_tup (pe_ix ix_tup (pv 2) pe_int (fun _ _ => rfl))) (blkOk_by (by kernel_rfl)) (fun _ _ _ _ _ => (pg_name (i := 1) sc_least_numbers.nd rfl (Or.inl rfl))) (fun _ _ _ _ _ => pts_nil) (fun _ _ _ _ _ => (pe_ifExp (pt_cmp (pc_isN (pv 1))) pe_non (pe_ix ix_tup (pv 1) pe_int (fun _ _ => rfl))))) pa_nil)))) pa_nil)))), ?_⟩
  intro F0 H0 D hrt hnx
  cases hR with
  | mk p h =>
  show SR F0 H0 _ [eLand K p, .u, .u] D
  refine r_ret (e_cb (d_cons (e_freeze (e_lcM p.links eLk (fun l => eRow (leastRow l)) (wk_tup (e_fld T.cLand T.n_links (e_var rfl) rfl)).c ?_ fun i l hl => ⟨_, v_name (d := eLk l) (by walk_at "set"), ?_⟩)) d_nil) cq_tupleL) ?_ hrt
  · exact Nat.lt_of_le_of_lt h.ll (by decide)
  · refine e_as (e_cb (d_cons (e_freeze (e_lcM l.ts ePair (fun t => eO (t.map (·.1))) (wk_tup (e_ixT (x := .tuple (l.ts.map ePair)) (e_var rfl) e_int (by decide) rfl)).c ?_ fun j t ht => ⟨_, v_name (d := ePair t) (by walk_at "set"), ?_⟩)) d_nil) cq_tupleL) ?_
    · have h5 := (h.lo l (List.mem_of_getElem? hl)).2.2.2.2.1
      rw [h5]
      exact Nat.lt_of_le_of_lt h.wl.2 (by decide)
    · cases t with
      | none => exact e_if (et_B (e_isN (e_var rfl))) (fun _ => e_non) (fun h => nomatch h)
      | some q => exact e_if (et_B (e_isN (e_var rfl))) (fun h => nomatch h) (fun _ => e_ixT (x := .int q.1) (e_var rfl) e_int (by decide) rfl)
    · unfold eRow leastRow
      rw [List.map_map]
      rfl
  · rw [List.map_map]
    rfl
inductive R_check_numbers (K : Frag) : List SV → SV → Prop
  | mk (p : Pt) (h : PtOk p) : R_check_numbers K [eLand K p, .d (.tuple ((p.links.map leastRow).map eRow))] (.d .none)
theorem ok_check_numbers (T : Tx K mg) : FnOk P w K mg base CX0 2 (He.fAd K ("check_numbers", none)) T.fd_check_numbers ["land", "numbers"] (spQ (R_check_numbers K)) := by
  refine okQ T.F_check_numbers sc_check_numbers (fun _ _ h => by cases h; rfl) (by decide) ?_
  rintro X ⟨cdv, A, outer, s, H, rfl, hr⟩ args r hR
  refine ⟨_, (pss_cons (ps_if (pt_cmpR op_ne (pe_callB call_lenQ (by rfl) T.m_len (by decide +kernel) (pa_cons (pv 1) pa_nil)) (pe_callB call_lenQ (by rfl) T.m_len (by decide +kernel) (pa_cons (pe_fld (pv 0) rfl) pa_nil)) (nomark _)) pss_never pss_nil)
    (pss_one (ps_for PassesOwn.never rfl (RZ.pi_zipA (by rfl) T.m_zip (pa_cons (pv 1) (pa_cons (pe_fld (pv 0) rfl) pa_nil))) (pg_tup rfl (pgs_cons (pg_name (i := 2) sc_check_numbers.nd rfl (Or.inl rfl)) (pgs_cons (pg_name (i := 3) sc_check_numbers.nd rfl (Or.inl rfl)) pgs_nil)))
      (pss_one (ps_if (PW.pt (pw_or (pt_cmpR op_ne (pe_callB call_lenQ (by rfl) T.m_len (by decide +kernel) (pa_cons (pv 2) pa_nil)) (pe_callB call_lenQ (by rfl) T.m_len (by decide +kernel) (pa_cons (pe_ix ix_tup (pv 3) pe_int (fun _ _ => rfl)) pa_nil)) (nomark _)) (pw_or1 (pt_not (pt_val (pe_callB (cr_all rfl) (by rfl) T.m_all (by decide +kernel) (pa_cons (pe_lc (own := [("number", 4), ("pair", 5)]) (g := (gTup K 2 (gCons (gName 4) (gCons (gName 5) gNil)))) (tt := tYes) (te := (tCall _ [] E0 (tCons (tVar 4) (tCons (tVar 5) tNil)))) rfl sc_check_numbers.nd (RZ.pi_zipA (by rfl) T.m_zip (pa_cons (pv 2) (pa_cons (pe_ix ix_tup (pv 3) pe_int (fun _ _ => rfl)) pa_nil))) (blkOk_by (by kernel_rfl)) (fun _ _ _ _ _ => (pg_tup rfl (pgs_cons (pg_name (i := 4) sc_check_numbers.nd rfl (Or.inl rfl)) (pgs_cons (pg_name (i := 5) sc_check_numbers.nd rfl (Or.inl rfl)) pgs_nil)))) (fun _ _ _ _ _ => pts_nil) (fun _ _ _ _ _ => (pe_call (ok_is_number T) (hr.mono (by decide)) (by rfl) T.g_is_number T.F_is_number.kp (b_is_number T) .nil pass0 (pa_cons (pv 4) (pa_cons (pv 5) pa_nil))))) pa_nil))))))) pss_never pss_nil))))), ?_⟩
  intro F0 H0 D hrt hnx
  cases hR with
  | mk p h =>
  show SR F0 H0 _ [eLand K p, .d (.tuple ((p.links.map leastRow).map eRow)), .u, .u, .u, .u] D
  refine sr_seq (r_ifF (et_test (e_neA (e_lenA (e_var rfl) rfl) (e_lenA (e_fld T.cLand T.n_links (e_var rfl) rfl) rfl) rfl)) (by simp [lenF, eqF]) (sr_next (nx_go ?_)))
  refine sr_const [eLand K p, .d (.tuple ((p.links.map leastRow).map eRow)), .u, .u, .u, .u] (wk_eq (wk_zipT (d_cons (e_var rfl) (d_cons (e_fld T.cLand T.n_links (e_var rfl) rfl) d_nil))) (zipD_map eRow eLk _ _)) (Le.refl _) (fun F1 i d hd => ?_) fun σ H S => hnx rfl σ H _ S
  obtain ⟨⟨row, l⟩, hq, rfl⟩ := at_map hd
  obtain ⟨k1, k2⟩ := List.getElem?_zip_eq_some.mp hq
  rw [List.getElem?_map] at k1
  have k2 : p.links[i]? = some l := k2
  rw [k2] at k1
  have k1 : leastRow l = row := Option.some.inj k1
  subst k1
  have hlo := h.lo l (List.mem_of_getElem? k2)
  have hts : l.ts.length < sizeLine := by
    rw [hlo.2.2.2.2.1]
    exact Nat.lt_of_le_of_lt h.wl.2 (by decide)
  refine ⟨[eLand K p, .d (.tuple ((p.links.map leastRow).map eRow)), .d (eRow (leastRow l)), .d (eLk l), .u, .u], gd_tupL (gds_cons (g_name (by walk_at "set")) (gds_cons (g_name (by walk_at "set")) gds_nil)), r_ifF (et_or2 (et_test (e_neA (e_lenA (e_var rfl) rfl) (e_lenA (e_ixT (x := .tuple (l.ts.map ePair)) (e_var rfl) e_int (by decide) rfl) rfl) rfl)) (et_not (et_B (e_cb (d_cons (e_freeze (e_lcM l.ts (fun t => .tuple [eO (t.map (·.1)), ePair t]) (fun _ => .bool true) (wkc_eq (wk_zipT (d_cons (e_var rfl) (d_cons (e_ixT (x := .tuple (l.ts.map ePair)) (e_var rfl) e_int (by decide) rfl) d_nil))).c ?_) hts fun j t ht => ⟨_, gv_tupL (gvs_cons (v_name (by walk_at "set")) (gvs_cons (v_name (by walk_at "set")) gvs_nil)), e_call (a_cons (e_var rfl) (a_cons (e_var rfl) a_nil)) (.mk t (hlo.2.2.2.2.2 t (List.mem_of_getElem? ht)))⟩)) d_nil) (cq_all (bs := l.ts.map fun _ => true) |> fun k => by rw [List.map_map] at k; exact k))))) ?_ (sr_next (nx_end rfl (by walk_at "le")))⟩
  · unfold leastRow
    rw [List.map_map, zipD_map, zip_self, List.map_map]
    rfl
  · simp [lenF, eqF, leastRow, eRow]
inductive R_least_minutes (K : Frag) : List SV → SV → Prop
  | mk (r : Ro) (hl : r.length < 1000) : R_least_minutes K [.d (eRo r)] (.md (mapG .int (leastM r)))
theorem ok_least_minutes (T : Tx K mg) : FnOk P w K mg base CX0 1 (He.fAd K ("least_minutes", none)) T.fd_least_minutes ["rows"] (spQ (R_least_minutes K)) := by
  refine okQ T.F_least_minutes sc_least_minutes (fun _ _ h => by cases h; rfl) (by decide) ?_
  rintro X ⟨cdv, A, outer, s, H, rfl, hr⟩ args r hR
  refine ⟨_, (pss_cons (ps_set (i := 1) sc_least_minutes.nd rfl (Or.inl rfl) pe_dnewK)
    (pss_cons (ps_for PassesOwn.never rfl (pi_list (pv 0)) (pg_tup rfl (pgs_cons (pg_name (i := 2) sc_least_minutes.nd rfl (Or.inl rfl)) (pgs_cons (pg_name (i := 3) sc_least_minutes.nd rfl (Or.inl rfl)) pgs_nil)))
      (pss_one (ps_dput (hu_of hr) (pv 1) (pv 2) (pe_callB (call_min2 rfl) (by rfl) T.m_min (by decide +kernel) (pa_cons (pv 3) (pa_cons (pe_dget2 (hu_of hr) (pv 1) (pv 2) (pv 3) ⟨rfl, rfl, rfl, rfl⟩) pa_nil))) rfl)))
    (pss_one (ps_ret (pv 1))))), ?_⟩
  intro F0 H0 D hrt hnx
  cases hR with
  | mk r hl =>
  show SR F0 H0 _ [.d (eRo r), .u, .u, .u] D
  refine sr_seq (r_asg (r := .md []) e_dnew (by walk_at "set") (nx_go (sr_seq ?_)))
  refine sr_fold r eSI (fun (f : Ro) q => putG f q.1 (mn q.2 ((valG f q.1).getD q.2))) (fun f => [.d (eRo r), .md (mapG .int f), .u, .u]) (fun i f => f.length ≤ i) [] (wk_list (e_var rfl)) (by walk_at "le") (Nat.le_refl _) (fun F1 i q f gx hq hf _ => ⟨Nat.le_trans putG_len (Nat.succ_le_succ hf), _, gd_tup (gds_cons (g_name (by walk_at "set")) (gds_cons (g_name (by walk_at "set")) gds_nil)), ?_⟩) (fun _ => ?_)
  · have hi := (List.getElem?_eq_some_iff.mp hq).1
    refine r_dput (n := 1) (x := .int (mn q.2 ((valG f q.1).getD q.2))) (s := q.1) rfl (e_var rfl) (e_as (e_cb (d_cons (e_var rfl) (d_cons (e_eq (e_dget2 (k_own rfl) (e_var rfl) (e_var rfl)) (y := .int ((valG f q.1).getD q.2)) ?_) d_nil)) cq_min2) rfl) ?_ (by walk_at "set") (nx_end rfl ?_)
    · rw [valG_map]
      cases valG f q.1 <;> rfl
    · show (mapG PyData.int f).length < sizeLine
      unfold mapG
      rw [List.length_map]
      exact Nat.lt_trans (Nat.lt_of_le_of_lt hf (Nat.lt_trans hi hl)) (by decide)
    · rw [putG_map]
      exact .eq (.eq (.u (.u .nil)))
  · exact nx_go (sr_retMD rfl hrt)
end Ef
/-! The defs about weathers and fires. -/
namespace Ef
open PySem PySem.Spec PyProof.Rows L2
local macro_rules | `(tactic| walk_at "set") => `(tactic| (repeat' (first | exact SetAt.z | apply SetAt.s)))
local macro_rules | `(tactic| walk_at "le") => `(tactic| (repeat' (first | exact Le.nil | (with_reducible apply Le.eq) | (with_reducible apply Le.u) | (with_reducible apply Le.as) | rfl)))
local macro_rules | `(tactic| walk_at "ev1") => `(tactic| first
  | exact e_int | exact e_str | exact e_bl | exact e_non
  | exact e_var rfl | exact d_nil | exact a_nil | exact et_yes | exact o_none | exact k_own rfl
  | exact e_lenM rfl
  | ((with_reducible show lenK _ = true); rfl) | ((with_reducible show eqK _ _ = true); rfl) | ((with_reducible show smallL _ = true); rfl)
  | with_reducible apply d_cons | with_reducible apply a_cons | with_reducible apply o_some
  | with_reducible apply e_add | with_reducible apply e_sub | with_reducible apply e_lt | with_reducible apply e_le | with_reducible apply e_gt | with_reducible apply e_ge
  | with_reducible apply e_mul | with_reducible apply e_mod | with_reducible apply e_fdiv
  | with_reducible apply e_eqA | with_reducible apply e_neA
  | with_reducible apply e_isN | with_reducible apply e_notN | with_reducible apply e_notV | with_reducible apply et_test | with_reducible apply et_B | with_reducible apply et_not
  | with_reducible apply et_and2 | with_reducible apply et_or2 | with_reducible apply e_andV2 | with_reducible apply e_orV2
  | with_reducible apply e_tupS | with_reducible apply e_lstS | exact e_dnew
  | with_reducible apply e_lenA
  | (with_reducible apply e_cb (hr := cq_abs)) | (with_reducible apply e_cb (hr := cq_int1)) | (with_reducible apply e_cb (hr := cq_max2)) | (with_reducible apply e_cb (hr := cq_min2))
  | with_reducible apply e_call | with_reducible apply e_meth
  | with_reducible apply e_din | with_reducible apply e_dnotin | with_reducible apply e_dget | with_reducible apply e_dget1 | with_reducible apply e_dget2)
local macro_rules | `(tactic| walk_at "ev") => `(tactic| repeat' (walk_at "ev1"))
variable {P : Program} {w : World} {K : Frag} {mg : Str → Option Value} {base : Heap}
theorem idx_at {ws : List Str} {c : Str} (h : c ∈ ws) : ws[idxM ws c]? = some c ∧ ∀ m, m < idxM ws c → ws[m]? ≠ some c := by
  have hl : ws.idxOf c < ws.length := List.idxOf_lt_length_of_mem h
  refine ⟨?_, fun m hm hc => ?_⟩
  · unfold idxM
    rw [List.getElem?_eq_getElem hl, List.getElem_idxOf hl]
  · unfold idxM at hm
    have hml : m < ws.length := Nat.lt_trans hm hl
    have := List.not_of_lt_findIdx (p := (· == c)) (xs := ws) (i := m) hm
    rw [List.getElem?_eq_getElem hml] at hc
    rw [Option.some.inj hc] at this
    simp at this
def endStep (ws : List Str) (W : We) (row : List (Option Int)) (acc : List Int) (s : Int) : List Int := acc ++ ((numAt row (idxM ws (blowM W s))).map (s + ·)).toList
theorem endStep_fold (ws : List Str) (W : We) (row : List (Option Int)) : ∀ (l a : List Int), l.foldl (endStep ws W row) a = a ++ l.filterMap fun s => (numAt row (idxM ws (blowM W s))).map (s + ·)
  | [], a => by simp
  | x :: l, a => by
    rw [List.foldl_cons, endStep_fold ws W row l, List.filterMap_cons]
    unfold endStep
    cases (numAt row (idxM ws (blowM W x))).map (x + ·) <;> simp
theorem minD_int : ∀ (l : List Int) (x : Int), PySem.W.minD (.int x) (l.map .int) = .int (l.foldl min x) := fun l x => PySem.W.minD_ints x l
theorem ints_alike (l : List Int) : PySem.W.AlikeAll (l.map .int) := by
  refine ⟨fun x hx y hy => ?_, fun x hx => ?_⟩
  · obtain ⟨a, _, rfl⟩ := List.mem_map.mp hx
    obtain ⟨b, _, rfl⟩ := List.mem_map.mp hy
    rfl
  · obtain ⟨a, _, rfl⟩ := List.mem_map.mp hx
    intro e
    cases e
theorem ints_depth : ∀ l : List Int, PyData.depthAll (l.map .int) ≤ 50
  | [] => Nat.zero_le _
  | x :: l => by
    rw [List.map_cons, PyData.depthAll, PyData.depth]
    have := ints_depth l
    omega
inductive R_caught (K : Frag) : List SV → SV → Prop
  | mk (p : Pt) (W : We) (row : List (Option Int)) (m : Int) (h : WOk p.winds W) (hr : row.length = p.winds.length) (hm : 0 ≤ m) : R_caught K [eLand K p, .d (eWe W), .d (eRow row), .d (.int m)] (.d (eO (caughtM p.winds W row m)))
theorem ok_caught (T : Tx K mg) : FnOk P w K mg base CX0 2 (He.fAd K ("caught", none)) T.fd_caught ["land", "weather", "row", "minute"] (spQ (R_caught K)) := by
  refine okQ T.F_caught sc_caught (fun _ _ h => by cases h; rfl) (by decide) ?_
  rintro X ⟨cdv, A, outer, s, H, rfl, hr⟩ args r hR
  refine ⟨_, (pss_cons (ps_set (i := 4) sc_caught.nd rfl (Or.inl rfl) (pe_lst pa_nil))
    (pss_cons (ps_for PassesOwn.never rfl (pi_list (pe_call (ok_chances T) (hr.mono (by decide)) (by rfl) T.g_chances T.F_chances.kp (b_chances T) .nil pass0 (pa_cons (pv 1) (pa_cons (pv 3) pa_nil)))) (pg_name (i := 5) sc_caught.nd rfl (Or.inl rfl))
      (pss_cons (ps_set (i := 6) sc_caught.nd rfl (Or.inl rfl) (pe_ix ix_tup (pv 2) (pe_bmT PySem.F.plainAttrs_tuple PySem.F.slot_tuple_index PySem.F.type_tuple_index mt_tup_index (pe_fld (pv 0) rfl) (pa_cons (pe_call (ok_blowing T) (hr.mono (by decide)) (by rfl) T.g_blowing T.F_blowing.kp (b_blowing T) .nil pass0 (pa_cons (pv 1) (pa_cons (pv 5) pa_nil))) pa_nil)) (fun _ _ => rfl)))
    (pss_one (ps_if (pt_cmp (pc_notN (pv 6))) (pss_one (ps_expr (pe_bm PySem.F.plainAttrs_list PySem.F.slot_list_append PySem.F.type_list_append mt_append (pv 4) (pa_cons (pe_op op_add (pv 5) (pv 6)) pa_nil)))) pss_nil))))
    (pss_one (ps_ret (pe_callBK (cr_minDef rfl hr.units) (by rfl) T.m_min (by decide +kernel) (pa_cons (pv 4) pa_nil) (pk_cons pe_non pk_nil)))))), ?_⟩
  intro F0 H0 D hrt hnx
  cases hR with
  | mk p W row m h hrl hm =>
  show SR F0 H0 _ [eLand K p, .d (eWe W), .d (eRow row), .d (.int m), .u, .u, .u] D
  refine sr_seq (r_asg (r := .ml []) (by walk_at "ev") (by walk_at "set") (nx_go (sr_seq ?_)))
  refine sr_fold (chanM W m) .int (endStep p.winds W row) (fun acc => [eLand K p, .d (eWe W), .d (eRow row), .d (.int m), .ml (acc.map .int), .u, .u]) (fun i acc => acc.length ≤ i) [] (wk_list (e_freeze (e_call (a_cons (e_var rfl) (a_cons (e_var rfl) a_nil)) (.mk p.winds W m h)))) (by walk_at "le") (Nat.le_refl _) (fun F1 i s acc gx hs ha _ => ⟨?_, _, g_name (by walk_at "set"), sr_seq ?_⟩) (fun _ => ?_)
  · unfold endStep
    rw [List.length_append]
    have : ((numAt row (idxM p.winds (blowM W s))).map (s + ·)).toList.length ≤ 1 := by cases (numAt row (idxM p.winds (blowM W s))).map (s + ·) <;> simp
    omega
  · have h0 : 0 ≤ s := chan_pos h hm s (List.mem_of_getElem? hs)
    have hil := (List.getElem?_eq_some_iff.mp hs).1
    have hcl := chan_le (W := W) (m := m)
    have hfew := h.few
    have hsz : (acc.map PyData.int).length < sizeLine := by
      rw [List.length_map, sizeLine_eq]
      omega
    obtain ⟨i1, i2⟩ := idx_at (blow_in h h0)
    have hlt : idxM p.winds (blowM W s) < row.length := by
      rw [hrl]
      exact (List.getElem?_eq_some_iff.mp i1).1
    have hn : numAt row (idxM p.winds (blowM W s)) = row[idxM p.winds (blowM W s)] := by
      unfold numAt
      rw [List.getElem?_eq_getElem hlt]
      rfl
    refine r_asg (r := .d (eO (numAt row (idxM p.winds (blowM W s))))) (e_ixFT (f := eO) (xs := row) (e_var rfl) (e_index (k := idxM p.winds (blowM W s)) (c := blowM W s) (e_fld T.cLand T.n_winds (e_var rfl) rfl) (e_call (a_cons (e_var rfl) (a_cons (e_var rfl) a_nil)) (.mk p.winds W s h h0)) i1 i2) (Int.natCast_nonneg _) ?_) (by walk_at "set") (nx_go ?_)
    · rw [Int.toNat_natCast, hn, List.getElem?_eq_getElem hlt]
    · cases hc : numAt row (idxM p.winds (blowM W s)) with
      | none =>
        refine r_ifF (by walk_at "ev") (by rfl) (sr_next (nx_end rfl ?_))
        walk_at "le"
        simp [endStep, hc]
      | some n =>
        refine r_ifT (et_B (e_notN (e_var rfl))) (by rfl) (r_app (n := 4) (x := .int (s + n)) rfl (e_add (e_var rfl) (e_var rfl)) hsz (by walk_at "set") (nx_end rfl ?_))
        walk_at "le"
        simp [endStep, hc]
  · refine nx_go (r_freeze (n := 4) rfl (by walk_at "set") (r_ret (e_minDef (e_var rfl) e_non (ints_alike _) (ints_depth _)) ?_ hrt))
    rw [endStep_fold]
    show SV.d (minDf .none ((endsM p.winds W row m).map PyData.int)) = .d (eO (minO (endsM p.winds W row m)))
    cases endsM p.winds W row m with
    | nil => rfl
    | cons x l =>
      show SV.d (PySem.W.minD (.int x) (l.map .int)) = .d (.int (l.foldl min x))
      rw [minD_int]
inductive R_told (K : Frag) : List SV → SV → Prop
  | mk (p : Pt) (f : Ro) (h : PtOk p) : R_told K [eLand K p, .dic (mapG .int f)] (.ml (p.places.map fun x => .tuple [.str x, eO (valG f x)]))
theorem ok_told (T : Tx K mg) : FnOk P w K mg base CX0 1 (He.fAd K ("told", none)) T.fd_told ["land", "found"] (spQ (R_told K)) := by
  refine okQ T.F_told sc_told (fun _ _ h => by cases h; rfl) (by decide) ?_
  rintro X ⟨cdv, A, outer, s, H, rfl, hr⟩ args r hR
  refine ⟨_, (pss_one (ps_ret (pe_lc (own := [("place", 2)]) (g := (gName 2)) (tt := tYes) (te := (tTupN (tCons (tVar 2) (tCons (tDGet1 (tVar 1) (tVar 2)) tNil)))) rfl sc_told.nd (pi_tup (pe_fld (pv 0) rfl)) (blkOk_by (by kernel_rfl)) (fun _ _ _ _ _ => (pg_name (i := 2) sc_told.nd rfl (Or.inl rfl))) (fun _ _ _ _ _ => pts_nil) (fun _ _ _ _ _ => (pe_tupN (pa_cons (pv 2) (pa_cons (pe_dget1 (hu_of hr) (pv 1) (pv 2) ⟨rfl, rfl, rfl, rfl⟩) pa_nil))))))), ?_⟩
  intro F0 H0 D hrt hnx
  cases hR with
  | mk p f h =>
  show SR F0 H0 _ [eLand K p, .dic (mapG .int f), .u] D
  refine sr_ret (e_lcM p.places .str (fun x => .tuple [.str x, eO (valG f x)]) (wk_tup (e_fld T.cLand T.n_places (e_var rfl) rfl)).c ?_ fun i x hx => ⟨_, v_name (by walk_at "set"), e_tupS (d_cons (e_var rfl) (d_cons (e_eq (e_dget1 (k_dic (e_var rfl)) (e_var rfl)) ?_) d_nil))⟩) hrt
  · exact Nat.lt_of_le_of_lt h.pl.2 (by decide)
  · rw [valG_map]
    cases valG f x <;> rfl
inductive R_check_fire (K : Frag) : List SV → SV → Prop
  | mk (p : Pt) (W : We) (s b : Ro) (h : PtOk p) (hW : WOk p.winds W) (hs : ∀ q ∈ s, q.1 ∈ p.places) (hb : ∀ q ∈ b, q.1 ∈ p.places) : R_check_fire K [eLand K p, .d (eWe W), .d (eRo s), .d (eRo b)] (.d .none)
theorem ok_check_fire (T : Tx K mg) : FnOk P w K mg base CX0 3 (He.fAd K ("check_fire", none)) T.fd_check_fire ["land", "weather", "starts", "breaks"] (spQ (R_check_fire K)) := by
  refine okQ T.F_check_fire sc_check_fire (fun _ _ h => by cases h; rfl) (by decide) ?_
  rintro X ⟨cdv, A, outer, s, H, rfl, hr⟩ args r hR
  refine ⟨_, (pss_cons (ps_expr (pe_call (ok_check_winds T) (hr.mono (by decide)) (by rfl) T.g_check_winds T.F_check_winds.kp (b_check_winds T) .nil pass0 (pa_cons (pv 0) (pa_cons (pv 1) pa_nil))))
    (pss_cons (ps_expr (pe_call (ok_check_rows T) (hr.mono (by decide)) (by rfl) T.g_check_rows T.F_check_rows.kp (b_check_rows T) .nil pass0 (pa_cons (pv 0) (pa_cons (pv 2) pa_nil))))
    (pss_cons (ps_expr (pe_call (ok_check_rows T) (hr.mono (by decide)) (by rfl) T.g_check_rows T.F_check_rows.kp (b_check_rows T) .nil pass0 (pa_cons (pv 0) (pa_cons (pv 3) pa_nil))))
    (pss_one (ps_expr (pe_call (ok_check_changes T) (hr.mono (by decide)) (by rfl) T.g_check_changes T.F_check_changes.kp (b_check_changes T) .nil pass0 (pa_cons (pv 1) pa_nil))))))), ?_⟩
  intro F0 H0 D hrt hnx
  cases hR with
  | mk p W s b h hW hs hb =>
  show SR F0 H0 _ [eLand K p, .d (eWe W), .d (eRo s), .d (eRo b)] D
  refine sr_seq (sr_drop (e_call (a_cons (e_var rfl) (a_cons (e_var rfl) a_nil)) (.mk p W hW.inw)) (nx_go ?_))
  refine sr_seq (sr_drop (e_call (a_cons (e_var rfl) (a_cons (e_var rfl) a_nil)) (.mk p s hs)) (nx_go ?_))
  refine sr_seq (sr_drop (e_call (a_cons (e_var rfl) (a_cons (e_var rfl) a_nil)) (.mk p b hb)) (nx_go ?_))
  exact sr_drop (e_call (a_cons (e_var rfl) a_nil) (.mk p.winds W hW)) fun σ H S => hnx rfl σ H _ S
end Ef
/-! How the fire spreads, in plain Lean: Dijkstra's order. -/
namespace Ef
open PySem PySem.Spec PyProof.Rows L2
section
variable {β : Type}
theorem valG_mem {kvs : List (Str × β)} {s : Str} {d : β} (h : valG kvs s = some d) : (s, d) ∈ kvs := by
  induction kvs with
  | nil => cases h
  | cons p r ih =>
    rw [valG_cons] at h
    by_cases e : p.1 = s
    · rw [if_pos e] at h
      cases h
      rw [← e]
      exact List.mem_cons_self
    · rw [if_neg e] at h
      exact List.mem_cons_of_mem _ (ih h)
theorem mem_valG {kvs : List (Str × β)} (nd : (kvs.map (·.1)).Nodup) {s : Str} {d : β} (h : (s, d) ∈ kvs) : valG kvs s = some d := by
  induction kvs with
  | nil => cases h
  | cons p r ih =>
    rw [List.map_cons, List.nodup_cons] at nd
    rw [valG_cons]
    rcases List.mem_cons.mp h with e | h
    · subst e
      rw [if_pos rfl]
    · rw [if_neg (fun e => nd.1 (by rw [e]; exact List.mem_map_of_mem (f := (·.1)) h))]
      exact ih nd.2 h
theorem valG_none {kvs : List (Str × β)} {s : Str} (h : valG kvs s = none) : ∀ p ∈ kvs, p.1 ≠ s := by
  induction kvs with
  | nil => intro p hp; cases hp
  | cons q r ih =>
    rw [valG_cons] at h
    by_cases e : q.1 = s
    · rw [if_pos e] at h
      cases h
    · rw [if_neg e] at h
      intro p hp
      rcases List.mem_cons.mp hp with rfl | hp
      · exact e
      · exact ih h p hp
theorem none_valG {kvs : List (Str × β)} {s : Str} (h : ∀ p ∈ kvs, p.1 ≠ s) : valG kvs s = none := by
  cases hc : valG kvs s with
  | none => rfl
  | some d => exact absurd rfl (h _ (valG_mem hc))
theorem putG_new {kvs : List (Str × β)} {s : Str} {d : β} (h : valG kvs s = none) : putG kvs s d = kvs ++ [(s, d)] := by
  unfold putG
  rw [if_neg]
  intro k
  obtain ⟨p, hp, e⟩ := List.any_eq_true.mp k
  exact valG_none h p hp (of_decide_eq_true e)
theorem putG_keys {kvs : List (Str × β)} {s : Str} {d : β} : (putG kvs s d).map (·.1) = if s ∈ kvs.map (·.1) then kvs.map (·.1) else kvs.map (·.1) ++ [s] := by
  unfold putG
  by_cases h : (kvs.any fun kv => decide (kv.1 = s)) = true
  · rw [if_pos h, if_pos]
    · rw [List.map_map]
      refine List.map_congr_left fun p _ => ?_
      show (if p.1 = s then (p.1, d) else p).1 = p.1
      split <;> rfl
    · obtain ⟨p, hp, e⟩ := List.any_eq_true.mp h
      exact List.mem_map.mpr ⟨p, hp, of_decide_eq_true e⟩
  · rw [if_neg h, if_neg]
    · rw [List.map_append]
      rfl
    · intro k
      obtain ⟨p, hp, e⟩ := List.mem_map.mp k
      exact h (List.any_eq_true.mpr ⟨p, hp, decide_eq_true e⟩)
theorem putG_nodup {kvs : List (Str × β)} {s : Str} {d : β} (nd : (kvs.map (·.1)).Nodup) : ((putG kvs s d).map (·.1)).Nodup := by
  rw [putG_keys]
  split
  · exact nd
  · rename_i h
    rw [List.nodup_append]
    exact ⟨nd, by simp, fun a ha b hb => by
      rw [List.mem_singleton] at hb
      subst hb
      intro e
      subst e
      exact h ha⟩
theorem dropG_nodup {kvs : List (Str × β)} {s : Str} (nd : (kvs.map (·.1)).Nodup) : ((dropG kvs s).map (·.1)).Nodup :=
  List.Pairwise.sublist (List.Sublist.map _ List.filter_sublist) nd
end
theorem nodup_len {α : Type} [DecidableEq α] : ∀ {l m : List α}, l.Nodup → (∀ x ∈ l, x ∈ m) → l.length ≤ m.length
  | [], _, _, _ => Nat.zero_le _
  | x :: l, m, nd, h => by
    rw [List.nodup_cons] at nd
    have hx := h x List.mem_cons_self
    have := nodup_len (m := m.erase x) nd.2 fun y hy => (List.mem_erase_of_ne (fun e => nd.1 (by rw [← e]; exact hy))).mpr (h y (List.mem_cons_of_mem _ hy))
    rw [List.length_erase_of_mem hx] at this
    have := List.length_pos_of_mem hx
    rw [List.length_cons]
    omega
/-- keys once each, all places, minutes not below 0 -/
structure KOk (ps : List Str) (w : Ro) : Prop where
  nd : (w.map (·.1)).Nodup
  inp : ∀ q ∈ w, q.1 ∈ ps
  pos : ∀ q ∈ w, 0 ≤ q.2
theorem KOk.nil {ps : List Str} : KOk ps [] := ⟨List.nodup_nil, (fun _ h => by cases h), (fun _ h => by cases h)⟩
theorem KOk.len {ps : List Str} {w : Ro} (h : KOk ps w) : w.length ≤ ps.length := by
  have := nodup_len h.nd (m := ps) fun x hx => by
    obtain ⟨q, hq, rfl⟩ := List.mem_map.mp hx
    exact h.inp q hq
  rw [List.length_map] at this
  exact this
theorem putG_mem {w : Ro} {x : Str} {m : Int} : ∀ q ∈ putG w x m, q ∈ w ∨ q = (x, m) := by
  intro q hq
  unfold putG at hq
  split at hq
  · obtain ⟨p, hp, rfl⟩ := List.mem_map.mp hq
    by_cases e : p.1 = x
    · rw [if_pos e, e]
      exact .inr rfl
    · rw [if_neg e]
      exact .inl hp
  · rcases List.mem_append.mp hq with h | h
    · exact .inl h
    · exact .inr (List.mem_singleton.mp h)
theorem KOk.put {ps : List Str} {w : Ro} (h : KOk ps w) {x : Str} {m : Int} (hx : x ∈ ps) (hm : 0 ≤ m) : KOk ps (putG w x m) := ⟨putG_nodup h.nd, fun q hq => (putG_mem q hq).elim (fun k => h.inp q k) (fun e => by rw [e]; exact hx), fun q hq => (putG_mem q hq).elim (fun k => h.pos q k) (fun e => by rw [e]; exact hm)⟩
theorem KOk.drop {ps : List Str} {w : Ro} (h : KOk ps w) {x : Str} : KOk ps (dropG w x) := ⟨dropG_nodup h.nd, fun q hq => h.inp q (List.mem_filter.mp hq).1, fun q hq => h.pos q (List.mem_filter.mp hq).1⟩
/-! ### the least waiting -/
def wD (q : Str × Int) : PyData := eIS (q.2, q.1)
def minOf (w : Ro) : PyData := minDf .none (w.map wD)
open PySem.W (keyToks keyToksAll dataLt dataLt_tuple dataLt_all_yes dataLt_all_no dataLt_int toks_all_cons alike AlikeAll minD)
theorem wD_lt {a b : Str × Int} (h : a.2 < b.2) : dataLt (wD a) (wD b) = true := by
  have := dataLt_all_no (x := .int a.2) (y := .int b.2) (xs := [.str a.1]) (ys := [.str b.1]) rfl (by
    have : a.2 ≠ b.2 := by omega
    simp [PyData.eqv, this])
  rw [← dataLt_tuple, dataLt_int] at this
  show dataLt (.tuple [.int a.2, .str a.1]) (.tuple [.int b.2, .str b.1]) = true
  rw [this]
  simpa using h
theorem wD_ge {a b : Str × Int} (h : dataLt (wD a) (wD b) = true) : a.2 ≤ b.2 := by
  by_cases e : a.2 = b.2
  · omega
  · have := dataLt_all_no (x := .int a.2) (y := .int b.2) (xs := [.str a.1]) (ys := [.str b.1]) rfl (by simp [PyData.eqv, e])
    rw [← dataLt_tuple, dataLt_int] at this
    have h : dataLt (.tuple [.int a.2, .str a.1]) (.tuple [.int b.2, .str b.1]) = true := h
    rw [this] at h
    have := of_decide_eq_true h
    omega
theorem min_fold : ∀ (l : Ro) (a : Str × Int), ∃ q, (q = a ∨ q ∈ l) ∧ minD (wD a) (l.map wD) = wD q ∧ q.2 ≤ a.2 ∧ ∀ b ∈ l, q.2 ≤ b.2
  | [], a => ⟨a, .inl rfl, rfl, Int.le_refl _, fun _ h => nomatch h⟩
  | b :: l, a => by
    show ∃ q, _ ∧ minD (if dataLt (wD b) (wD a) then wD b else wD a) (l.map wD) = wD q ∧ _
    by_cases h : dataLt (wD b) (wD a) = true
    · rw [if_pos h]
      obtain ⟨q, h1, h2, h3, h4⟩ := min_fold l b
      have := wD_ge h
      refine ⟨q, .inr ?_, h2, by omega, fun c hc => ?_⟩
      · rcases h1 with rfl | h1
        · exact List.mem_cons_self
        · exact List.mem_cons_of_mem _ h1
      · rcases List.mem_cons.mp hc with rfl | hc
        · exact h3
        · exact h4 c hc
    · rw [if_neg h]
      obtain ⟨q, h1, h2, h3, h4⟩ := min_fold l a
      have hb : a.2 ≤ b.2 := by
        by_cases e : b.2 < a.2
        · exact absurd (wD_lt e) h
        · omega
      refine ⟨q, ?_, h2, h3, fun c hc => ?_⟩
      · rcases h1 with rfl | h1
        · exact .inl rfl
        · exact .inr (List.mem_cons_of_mem _ h1)
      · rcases List.mem_cons.mp hc with rfl | hc
        · omega
        · exact h4 c hc
theorem min_ex {w : Ro} (h : w ≠ []) : ∃ q ∈ w, minOf w = wD q ∧ ∀ b ∈ w, q.2 ≤ b.2 := by
  cases w with
  | nil => exact absurd rfl h
  | cons a l =>
    obtain ⟨q, h1, h2, h3, h4⟩ := min_fold l a
    refine ⟨q, ?_, h2, fun b hb => ?_⟩
    · rcases h1 with rfl | h1
      · exact List.mem_cons_self
      · exact List.mem_cons_of_mem _ h1
    · rcases List.mem_cons.mp hb with rfl | hb
      · exact h3
      · exact h4 b hb
open Classical in
noncomputable def pick (w : Ro) : Str × Int := if h : ∃ q ∈ w, minOf w = wD q ∧ ∀ b ∈ w, q.2 ≤ b.2 then Classical.choose h else default
theorem pick_spec {w : Ro} (h : w ≠ []) : pick w ∈ w ∧ minOf w = wD (pick w) ∧ ∀ b ∈ w, (pick w).2 ≤ b.2 := by
  have k := min_ex h
  unfold pick
  rw [dif_pos k]
  exact Classical.choose_spec k
/-! ### the steps -/
abbrev LR := Lk × List (Option Int)
def relaxO (ends : Ro) (oth : Str) (w : Ro) : Option Int → Ro
  | none => w
  | some e => if alive ends oth e = true then putG w oth (mn e ((valG w oth).getD e)) else w
def relax (ws : List Str) (W : We) (ends f : Ro) (x : Str) (m : Int) (w : Ro) (lr : LR) : Ro :=
  relaxO ends lr.1.oth w (if lr.1.one = x ∧ valG f lr.1.oth = none then caughtM ws W lr.2 m else none)
noncomputable def turnS (ws : List Str) (W : We) (ends : Ro) (lrs : List LR) (st : Ro × Ro) : Ro × Ro :=
  (lrs.foldl (relax ws W ends (putG st.2 (pick st.1).1 (pick st.1).2) (pick st.1).1 (pick st.1).2) (dropG st.1 (pick st.1).1), putG st.2 (pick st.1).1 (pick st.1).2)
open Classical in
noncomputable def spreadN (ws : List Str) (W : We) (ends : Ro) (lrs : List LR) : Nat → Ro × Ro → Ro
  | 0, st => st.2
  | n + 1, st => if st.1 = [] then st.2 else spreadN ws W ends lrs n (turnS ws W ends lrs st)
def startW (ends starts : Ro) : Ro := (leastM starts).foldl (fun w q => if alive ends q.1 q.2 = true then putG w q.1 q.2 else w) []
noncomputable def spreadM (p : Pt) (W : We) (starts breaks : Ro) (rows : List (List (Option Int))) : Ro :=
  spreadN p.winds W (leastM breaks) (p.links.zip rows) p.places.length (startW (leastM breaks) starts, [])
/-- numbers of a fire: at least 1 -/
def RowsOk (ws : List Str) (rows : List (List (Option Int))) : Prop := ∀ row ∈ rows, row.length = ws.length ∧ ∀ n, some n ∈ row → 1 ≤ n
theorem numAt_mem {row : List (Option Int)} {k : Nat} {n : Int} (h : numAt row k = some n) : some n ∈ row := by
  unfold numAt at h
  cases hc : row[k]? with
  | none => rw [hc] at h; cases h
  | some o =>
    rw [hc] at h
    cases h
    exact List.mem_of_getElem? hc
theorem caught_gt {ws : List Str} {W : We} {row : List (Option Int)} {m e : Int} (hr : ∀ n, some n ∈ row → 1 ≤ n) (h : caughtM ws W row m = some e) : m < e := by
  obtain ⟨h1, _⟩ := minO_spec h
  obtain ⟨s, hs, hn⟩ := List.mem_filterMap.mp h1
  cases hc : numAt row (idxM ws (blowM W s)) with
  | none => rw [hc] at hn; cases hn
  | some n =>
    rw [hc] at hn
    have e1 : s + n = e := Option.some.inj hn
    have := hr n (numAt_mem hc)
    have := chan_ge s hs
    omega
/-! ### least minutes -/
theorem least_val (rows : Ro) (x : Str) : (∀ t, valG (leastM rows) x = some t → (x, t) ∈ rows ∧ ∀ q ∈ rows, q.1 = x → t ≤ q.2) ∧ (valG (leastM rows) x = none → ∀ q ∈ rows, q.1 ≠ x) := by
  have key : ∀ (l f pre : Ro), ((∀ t, valG f x = some t → (x, t) ∈ pre ∧ ∀ q ∈ pre, q.1 = x → t ≤ q.2) ∧ (valG f x = none → ∀ q ∈ pre, q.1 ≠ x)) →
      ((∀ t, valG (l.foldl (fun f q => putG f q.1 (mn q.2 ((valG f q.1).getD q.2))) f) x = some t → (x, t) ∈ pre ++ l ∧ ∀ q ∈ pre ++ l, q.1 = x → t ≤ q.2) ∧ (valG (l.foldl (fun f q => putG f q.1 (mn q.2 ((valG f q.1).getD q.2))) f) x = none → ∀ q ∈ pre ++ l, q.1 ≠ x)) := by
    intro l
    induction l with
    | nil => intro f pre h; simpa using h
    | cons a l ih =>
      intro f pre h
      rw [List.foldl_cons, show pre ++ a :: l = (pre ++ [a]) ++ l by simp]
      refine ih _ _ ⟨fun t ht => ?_, fun hn => ?_⟩
      · rw [valG_put] at ht
        by_cases e : a.1 = x
        · rw [if_pos e] at ht
          cases hv : valG f a.1 with
          | none =>
            rw [hv] at ht
            have hmm : mn a.2 a.2 = a.2 := by unfold mn; split <;> rfl
            have ht' : t = a.2 := by
              have := Option.some.inj ht
              rw [← this]
              exact hmm
            subst ht'
            refine ⟨?_, fun q hq hqx => ?_⟩
            · rw [← e]
              exact List.mem_append_right _ (List.mem_singleton.mpr rfl)
            · rcases List.mem_append.mp hq with hq | hq
              · exact absurd hqx ((h.2 (e ▸ hv)) q hq)
              · rw [List.mem_singleton.mp hq]
                exact Int.le_refl _
          | some o =>
            rw [hv] at ht
            have ht' : t = min a.2 o := by
              have := Option.some.inj ht
              rw [← this, mn_eq]
              rfl
            obtain ⟨h1, h2⟩ := h.1 o (e ▸ hv)
            refine ⟨?_, fun q hq hqx => ?_⟩
            · by_cases hc : o < a.2
              · rw [show t = o by omega]
                exact List.mem_append_left _ h1
              · rw [show t = a.2 by omega, ← e]
                exact List.mem_append_right _ (List.mem_singleton.mpr rfl)
            · rcases List.mem_append.mp hq with hq | hq
              · have := h2 q hq hqx
                omega
              · rw [List.mem_singleton.mp hq]
                omega
        · rw [if_neg e] at ht
          obtain ⟨h1, h2⟩ := h.1 t ht
          refine ⟨List.mem_append_left _ h1, fun q hq hqx => ?_⟩
          rcases List.mem_append.mp hq with hq | hq
          · exact h2 q hq hqx
          · rw [List.mem_singleton.mp hq] at hqx
            exact absurd hqx e
      · rw [valG_put] at hn
        by_cases e : a.1 = x
        · rw [if_pos e] at hn
          cases hn
        · rw [if_neg e] at hn
          intro q hq
          rcases List.mem_append.mp hq with hq | hq
          · exact h.2 hn q hq
          · rw [List.mem_singleton.mp hq]
            exact e
  exact key rows [] [] ⟨fun t h => by simp at h, fun _ q hq => by cases hq⟩
theorem least_nd (rows : Ro) : ((leastM rows).map (·.1)).Nodup := by
  have key : ∀ (l f : Ro), (f.map (·.1)).Nodup → ((l.foldl (fun f q => putG f q.1 (mn q.2 ((valG f q.1).getD q.2))) f).map (·.1)).Nodup := by
    intro l
    induction l with
    | nil => exact fun _ h => h
    | cons a l ih => exact fun f h => ih _ (putG_nodup h)
  exact key rows [] List.nodup_nil
theorem least_mem (rows : Ro) : ∀ q ∈ leastM rows, q ∈ rows := fun q hq => ((least_val rows q.1).1 q.2 (mem_valG (least_nd rows) hq)).1
theorem alive_le {ends : Ro} {x : Str} {m n : Int} (h : alive ends x n = true) (hm : m ≤ n) : alive ends x m = true := by
  unfold alive at h ⊢
  cases hc : valG ends x with
  | none => rfl
  | some e =>
    rw [hc] at h
    have := of_decide_eq_true h
    exact decide_eq_true (by omega)
end Ef
/-! Dijkstra's order: what holds at its end. -/
namespace Ef
open PySem PySem.Spec PyProof.Rows L2
/-- where a minute comes from -/
def From (ws : List Str) (W : We) (starts : Ro) (lrs : List LR) (f : Ro) (x : Str) (t : Int) : Prop :=
  (x, t) ∈ starts ∨ ∃ a ∈ f, ∃ lr ∈ lrs, lr.1.one = a.1 ∧ lr.1.oth = x ∧ caughtM ws W lr.2 a.2 = some t
theorem From.mono {ws : List Str} {W : We} {starts : Ro} {lrs : List LR} {f g : Ro} {x : Str} {t : Int} (h : From ws W starts lrs f x t) (hs : ∀ a ∈ f, a ∈ g) : From ws W starts lrs g x t := by
  rcases h with h | ⟨a, ha, r⟩
  · exact .inl h
  · exact .inr ⟨a, hs a ha, r⟩
/-- known at t or earlier -/
def By (f : Ro) (x : Str) (t : Int) : Prop := ∃ u, u ≤ t ∧ valG f x = some u
structure SInv (ps ws : List Str) (W : We) (ends starts : Ro) (lrs : List LR) (w f : Ro) : Prop where
  kw : KOk ps w
  kf : KOk ps f
  dis : ∀ q ∈ w, valG f q.1 = none
  mono : ∀ a ∈ f, ∀ b ∈ w, a.2 ≤ b.2
  just : ∀ (i : Nat) (q : Str × Int), f[i]? = some q → alive ends q.1 q.2 = true ∧ From ws W starts lrs (f.take i) q.1 q.2
  jw : ∀ q ∈ w, alive ends q.1 q.2 = true ∧ From ws W starts lrs f q.1 q.2
  cs : ∀ q ∈ starts, alive ends q.1 q.2 = true → By f q.1 q.2 ∨ By w q.1 q.2
  cl : ∀ a ∈ f, ∀ lr ∈ lrs, lr.1.one = a.1 → ∀ e, caughtM ws W lr.2 a.2 = some e → alive ends lr.1.oth e = true → By f lr.1.oth e ∨ By w lr.1.oth e
/-- behind the whole -/
structure FireSpec (ps ws : List Str) (W : We) (ends starts : Ro) (lrs : List LR) (f : Ro) : Prop where
  kf : KOk ps f
  just : ∀ (i : Nat) (q : Str × Int), f[i]? = some q → alive ends q.1 q.2 = true ∧ From ws W starts lrs (f.take i) q.1 q.2
  cs : ∀ q ∈ starts, alive ends q.1 q.2 = true → By f q.1 q.2
  cl : ∀ a ∈ f, ∀ lr ∈ lrs, lr.1.one = a.1 → ∀ e, caughtM ws W lr.2 a.2 = some e → alive ends lr.1.oth e = true → By f lr.1.oth e
section
variable {ps ws : List Str} {W : We} {ends starts : Ro} {lrs : List LR}
/-- the links' other ends are places -/
def LrOk (ps : List Str) (lrs : List LR) : Prop := ∀ lr ∈ lrs, lr.1.oth ∈ ps ∧ ∀ n, some n ∈ lr.2 → 1 ≤ n
theorem SInv.end {f : Ro} (h : SInv ps ws W ends starts lrs [] f) : FireSpec ps ws W ends starts lrs f := ⟨h.kf, h.just, fun q hq ha => (h.cs q hq ha).elim id fun ⟨u, _, k⟩ => (by cases k), fun a ha lr hl ho e he hal => (h.cl a ha lr hl ho e he hal).elim id fun ⟨u, _, k⟩ => (by cases k)⟩
theorem valG_by {w : Ro} {x : Str} {t : Int} (nd : (w.map (·.1)).Nodup) (h : (x, t) ∈ w) : By w x t := ⟨t, Int.le_refl _, mem_valG nd h⟩
/-- the waiting at the start -/
theorem start_inv (hs : ∀ q ∈ starts, q.1 ∈ ps ∧ 0 ≤ q.2) : SInv ps ws W ends starts lrs (startW ends starts) [] := by
  have key : ∀ (l w pre : Ro), (∀ q ∈ pre ++ l, q ∈ leastM starts) → KOk ps w → (∀ q ∈ w, q ∈ pre ∧ alive ends q.1 q.2 = true) → (∀ q ∈ pre, alive ends q.1 q.2 = true → q ∈ w) → ((pre ++ l).map (·.1)).Nodup →
      KOk ps (l.foldl (fun w q => if alive ends q.1 q.2 then putG w q.1 q.2 else w) w) ∧ (∀ q ∈ l.foldl (fun w q => if alive ends q.1 q.2 then putG w q.1 q.2 else w) w, q ∈ pre ++ l ∧ alive ends q.1 q.2 = true) ∧ ∀ q ∈ pre ++ l, alive ends q.1 q.2 = true → q ∈ l.foldl (fun w q => if alive ends q.1 q.2 then putG w q.1 q.2 else w) w := by
    intro l
    induction l with
    | nil =>
      intro w pre h1 h2 h3 h4 _
      rw [List.append_nil]
      exact ⟨h2, h3, h4⟩
    | cons a l ih =>
      intro w pre h1 h2 h3 h4 h5
      rw [List.foldl_cons, show pre ++ a :: l = (pre ++ [a]) ++ l by simp]
      rw [show pre ++ a :: l = (pre ++ [a]) ++ l by simp] at h1 h5
      have ha := least_mem starts a (h1 a (by simp))
      have hnew : ∀ q ∈ pre, q.1 ≠ a.1 := by
        rw [List.append_assoc, List.map_append, List.nodup_append] at h5
        exact fun q hq => h5.2.2 q.1 (List.mem_map_of_mem hq) a.1 (by simp)
      by_cases hal : alive ends a.1 a.2 = true
      · rw [if_pos hal]
        have hn : valG w a.1 = none := none_valG fun q hq => hnew q (h3 q hq).1
        refine ih _ _ h1 (h2.put (hs a ha).1 (hs a ha).2) (fun q hq => ?_) (fun q hq hq2 => ?_) h5
        · rcases putG_mem q hq with k | k
          · exact ⟨List.mem_append_left _ (h3 q k).1, (h3 q k).2⟩
          · rw [k]
            exact ⟨List.mem_append_right _ (List.mem_singleton.mpr rfl), hal⟩
        · rw [putG_new hn]
          rcases List.mem_append.mp hq with hq | hq
          · exact List.mem_append_left _ (h4 q hq hq2)
          · rw [List.mem_singleton.mp hq]
            exact List.mem_append_right _ (List.mem_singleton.mpr rfl)
      · rw [if_neg hal]
        refine ih _ _ h1 h2 (fun q hq => ⟨List.mem_append_left _ (h3 q hq).1, (h3 q hq).2⟩) (fun q hq hq2 => ?_) h5
        rcases List.mem_append.mp hq with hq | hq
        · exact h4 q hq hq2
        · rw [List.mem_singleton.mp hq] at hq2
          exact absurd hq2 hal
  obtain ⟨k1, k2, k3⟩ := key (leastM starts) [] [] (fun q hq => hq) KOk.nil (fun q hq => by cases hq) (fun q hq => by cases hq) (least_nd starts)
  refine ⟨k1, KOk.nil, fun q hq => rfl, (fun a ha => by cases ha), (fun i q hq => by simp at hq), fun q hq => ⟨(k2 q hq).2, .inl (least_mem starts q (k2 q hq).1)⟩, fun q hq hal => .inr ?_, (fun a ha => by cases ha)⟩
  obtain ⟨h1, h2⟩ := least_val starts q.1
  cases hc : valG (leastM starts) q.1 with
  | none => exact absurd rfl (h2 hc q hq)
  | some t =>
    have ht := (h1 t hc).2 q hq rfl
    exact ⟨t, ht, mem_valG k1.nd (k3 (q.1, t) (valG_mem hc) (alive_le hal ht))⟩
/-- what one link does -/
theorem relax_ok {w f : Ro} {x : Str} {m : Int} {lr : LR} (hw : KOk ps w) (ho : lr.1.oth ∈ ps) (hn : ∀ n, some n ∈ lr.2 → 1 ≤ n) (hm : 0 ≤ m) :
    KOk ps (relax ws W ends f x m w lr) ∧ (∀ y t, valG w y = some t → By (relax ws W ends f x m w lr) y t) ∧
    (∀ q ∈ relax ws W ends f x m w lr, q ∈ w ∨ (lr.1.one = x ∧ lr.1.oth = q.1 ∧ valG f q.1 = none ∧ caughtM ws W lr.2 m = some q.2 ∧ alive ends q.1 q.2 = true)) ∧
    (lr.1.one = x → ∀ e, caughtM ws W lr.2 m = some e → alive ends lr.1.oth e = true → valG f lr.1.oth = none → By (relax ws W ends f x m w lr) lr.1.oth e) := by
  unfold relax relaxO
  by_cases hc : lr.1.one = x ∧ valG f lr.1.oth = none
  · rw [if_pos hc]
    cases he : caughtM ws W lr.2 m with
    | none => exact ⟨hw, fun y t h => ⟨t, Int.le_refl _, h⟩, fun q hq => .inl hq, (fun _ e h => by cases h)⟩
    | some e =>
      have hgt := caught_gt hn he
      dsimp only
      by_cases hal : alive ends lr.1.oth e = true
      · rw [if_pos hal]
        have hval : (mn e ((valG w lr.1.oth).getD e)) ≤ e := by rw [mn_eq]; omega
        have hpos : 0 ≤ mn e ((valG w lr.1.oth).getD e) := by
          rw [mn_eq]
          cases hv : valG w lr.1.oth with
          | none => show 0 ≤ min e e; omega
          | some o =>
            have := hw.pos _ (valG_mem hv)
            show 0 ≤ min e o
            have this : 0 ≤ o := this
            omega
        refine ⟨hw.put ho hpos, fun y t hy => ?_, fun q hq => ?_, fun _ e' he' _ _ => ?_⟩
        · by_cases e1 : lr.1.oth = y
          · refine ⟨_, ?_, by rw [valG_put, if_pos e1]⟩
            rw [e1, hy, mn_eq]
            show min e t ≤ t
            omega
          · exact ⟨t, Int.le_refl _, by rw [valG_put, if_neg e1]; exact hy⟩
        · rcases putG_mem q hq with k | k
          · exact .inl k
          · cases hv : valG w lr.1.oth with
            | none =>
              rw [hv, mn_eq] at k
              have k2 : q = (lr.1.oth, e) := by rw [k]; show (lr.1.oth, min e e) = _; rw [show min e e = e by omega]
              rw [k2]
              exact .inr ⟨hc.1, rfl, hc.2, rfl, hal⟩
            | some o =>
              rw [hv, mn_eq] at k
              have k' : q = (lr.1.oth, min e o) := k
              by_cases ho' : o < e
              · rw [show min e o = o by omega] at k'
                rw [k']
                exact .inl (valG_mem hv)
              · rw [show min e o = e by omega] at k'
                rw [k']
                exact .inr ⟨hc.1, rfl, hc.2, rfl, hal⟩
        · cases he'
          exact ⟨_, hval, by rw [valG_put, if_pos rfl]⟩
      · rw [if_neg hal]
        exact ⟨hw, fun y t h => ⟨t, Int.le_refl _, h⟩, fun q hq => .inl hq, fun _ e' he' hal' _ => by cases he'; exact absurd hal' hal⟩
  · rw [if_neg hc]
    exact ⟨hw, fun y t h => ⟨t, Int.le_refl _, h⟩, fun q hq => .inl hq, fun h1 e _ _ h2 => absurd ⟨h1, h2⟩ hc⟩
theorem By.trans {w : Ro} {x : Str} {s t : Int} (h : By w x s) (k : s ≤ t) : By w x t := by
  obtain ⟨u, h1, h2⟩ := h
  exact ⟨u, by omega, h2⟩
/-- all links -/
theorem relax_all {f : Ro} {x : Str} {m : Int} (hm : 0 ≤ m) : ∀ (l : List LR) (w : Ro), KOk ps w → LrOk ps l →
    KOk ps (l.foldl (relax ws W ends f x m) w) ∧ (∀ y t, valG w y = some t → By (l.foldl (relax ws W ends f x m) w) y t) ∧
    (∀ q ∈ l.foldl (relax ws W ends f x m) w, q ∈ w ∨ ∃ lr ∈ l, lr.1.one = x ∧ lr.1.oth = q.1 ∧ valG f q.1 = none ∧ caughtM ws W lr.2 m = some q.2 ∧ alive ends q.1 q.2 = true) ∧
    (∀ lr ∈ l, lr.1.one = x → ∀ e, caughtM ws W lr.2 m = some e → alive ends lr.1.oth e = true → valG f lr.1.oth = none → By (l.foldl (relax ws W ends f x m) w) lr.1.oth e)
  | [], w, hw, _ => ⟨hw, fun y t h => ⟨t, Int.le_refl _, h⟩, fun q hq => .inl hq, (fun lr h => by cases h)⟩
  | a :: l, w, hw, hl => by
    obtain ⟨a1, a2, a3, a4⟩ := relax_ok (ends := ends) (W := W) (ws := ws) (f := f) (x := x) (m := m) hw (hl a List.mem_cons_self).1 (hl a List.mem_cons_self).2 hm
    obtain ⟨b1, b2, b3, b4⟩ := relax_all (f := f) (x := x) hm l _ a1 fun lr h => hl lr (List.mem_cons_of_mem _ h)
    rw [List.foldl_cons]
    refine ⟨b1, fun y t h => ?_, fun q hq => ?_, fun lr h h1 e h2 h3 h4 => ?_⟩
    · obtain ⟨u, k1, k2⟩ := a2 y t h
      exact (b2 y u k2).trans k1
    · rcases b3 q hq with k | ⟨lr, k1, k2⟩
      · rcases a3 q k with k | k
        · exact .inl k
        · exact .inr ⟨a, List.mem_cons_self, k⟩
      · exact .inr ⟨lr, List.mem_cons_of_mem _ k1, k2⟩
    · rcases List.mem_cons.mp h with rfl | h
      · obtain ⟨u, k1, k2⟩ := a4 h1 e h2 h3 h4
        exact (b2 _ u k2).trans k1
      · exact b4 lr h h1 e h2 h3 h4
/-- one turn -/
theorem turn_inv {w f : Ro} (h : SInv ps ws W ends starts lrs w f) (hne : w ≠ []) (hl : LrOk ps lrs) :
    SInv ps ws W ends starts lrs (turnS ws W ends lrs (w, f)).1 (turnS ws W ends lrs (w, f)).2 ∧ (turnS ws W ends lrs (w, f)).2.length = f.length + 1 := by
  obtain ⟨p1, _, p2⟩ := pick_spec hne
  unfold turnS
  dsimp only
  generalize hq : pick w = q at p1 p2 ⊢
  obtain ⟨x, m⟩ := q
  dsimp only at p2 ⊢
  have hfn : valG f x = none := h.dis _ p1
  have hm : 0 ≤ m := h.kw.pos _ p1
  have hxp : x ∈ ps := h.kw.inp _ p1
  have hf1 : putG f x m = f ++ [(x, m)] := putG_new hfn
  have kf1 : KOk ps (putG f x m) := h.kf.put hxp hm
  have kw1 : KOk ps (dropG w x) := h.kw.drop
  obtain ⟨b1, b2, b3, b4⟩ := relax_all (ws := ws) (W := W) (ends := ends) (f := putG f x m) (x := x) hm lrs _ kw1 hl
  have hdrop : ∀ q ∈ dropG w x, q ∈ w ∧ q.1 ≠ x := fun q hq => by
    have := List.mem_filter.mp hq
    exact ⟨this.1, of_decide_eq_true this.2⟩
  have memf : ∀ a ∈ f, a ∈ putG f x m := fun a ha => by rw [hf1]; exact List.mem_append_left _ ha
  have byf : ∀ y t, By f y t → By (putG f x m) y t := fun y t ⟨u, k1, k2⟩ => ⟨u, k1, by
    rw [valG_put]
    by_cases e : x = y
    · rw [← e, hfn] at k2
      cases k2
    · rw [if_neg e]
      exact k2⟩
  have byw : ∀ y t, By w y t → By (putG f x m) y t ∨ By (lrs.foldl (relax ws W ends (putG f x m) x m) (dropG w x)) y t := fun y t ⟨u, k1, k2⟩ => by
    by_cases e : x = y
    · subst e
      have := mem_valG h.kw.nd p1
      rw [this] at k2
      cases k2
      exact .inl ⟨m, k1, by rw [valG_put, if_pos rfl]⟩
    · refine .inr ((b2 y u ?_).trans k1)
      rw [valG_drop, if_neg e]
      exact k2
  refine ⟨⟨b1, kf1, fun q hq => ?_, fun a ha b hb => ?_, fun i q hq => ?_, fun q hq => ?_, fun q hq hal => ?_, fun a ha lr hlr h1 e h2 h3 => ?_⟩, by rw [hf1, List.length_append]; rfl⟩
  · rcases b3 q hq with k | ⟨lr, _, _, _, k, _⟩
    · obtain ⟨k1, k2⟩ := hdrop q k
      rw [valG_put, if_neg (fun e => k2 e.symm)]
      exact h.dis q k1
    · exact k
  · have hab : a.2 ≤ m := by
      rw [hf1] at ha
      rcases List.mem_append.mp ha with ha | ha
      · exact h.mono a ha _ p1
      · rw [List.mem_singleton.mp ha]
        exact Int.le_refl _
    rcases b3 b hb with k | ⟨lr, k0, _, _, _, k, _⟩
    · have := p2 b (hdrop b k).1
      omega
    · have := caught_gt (hl lr k0).2 k
      omega
  · rw [hf1] at hq ⊢
    by_cases hi : i < f.length
    · rw [List.getElem?_append_left hi] at hq
      rw [List.take_append_of_le_length (Nat.le_of_lt hi)]
      exact h.just i q hq
    · have hil : i = f.length := by
        have := (List.getElem?_eq_some_iff.mp hq).1
        rw [List.length_append, List.length_singleton] at this
        omega
      subst hil
      rw [List.getElem?_append_right (Nat.le_refl _), Nat.sub_self] at hq
      cases hq
      rw [List.take_append_of_le_length (Nat.le_refl _), List.take_length]
      exact h.jw _ p1
  · rcases b3 q hq with k | ⟨lr, k0, k1, k2, k3, k4, k5⟩
    · obtain ⟨j1, j2⟩ := h.jw q (hdrop q k).1
      exact ⟨j1, j2.mono memf⟩
    · refine ⟨k5, .inr ⟨(x, m), ?_, lr, k0, k1, k2, k4⟩⟩
      rw [hf1]
      exact List.mem_append_right _ (List.mem_singleton.mpr rfl)
  · rcases h.cs q hq hal with k | k
    · exact .inl (byf _ _ k)
    · exact byw _ _ k
  · rw [hf1] at ha
    rcases List.mem_append.mp ha with ha | ha
    · rcases h.cl a ha lr hlr h1 e h2 h3 with k | k
      · exact .inl (byf _ _ k)
      · exact byw _ _ k
    · have ha' := List.mem_singleton.mp ha
      subst ha'
      cases hv : valG (putG f x m) lr.1.oth with
      | none => exact .inr (b4 lr hlr h1 e h2 h3 hv)
      | some u =>
        refine .inl ⟨u, ?_, hv⟩
        have hgt := caught_gt (hl lr hlr).2 h2
        have hu : u ≤ m := by
          have := valG_mem hv
          rw [hf1] at this
          rcases List.mem_append.mp this with k | k
          · exact h.mono _ k _ p1
          · have := List.mem_singleton.mp k
            injection this with _ e2
            omega
        have hgt : m < e := hgt
        omega
/-- the loop's end is reached within as many turns as there are places -/
theorem spread_end (hl : LrOk ps lrs) : ∀ (n : Nat) (w f : Ro), SInv ps ws W ends starts lrs w f → f.length + n = ps.length → FireSpec ps ws W ends starts lrs (spreadN ws W ends lrs n (w, f))
  | 0, w, f, h, hn => by
    show FireSpec ps ws W ends starts lrs f
    cases w with
    | nil => exact h.end
    | cons q w =>
      exfalso
      have h1 := nodup_len (l := q.1 :: f.map (·.1)) (m := ps) (List.nodup_cons.mpr ⟨fun m => by
        obtain ⟨a, ha, e⟩ := List.mem_map.mp m
        exact valG_none (h.dis q List.mem_cons_self) a ha e, h.kf.nd⟩) fun y hy => by
          rcases List.mem_cons.mp hy with rfl | hy
          · exact h.kw.inp q List.mem_cons_self
          · obtain ⟨a, ha, rfl⟩ := List.mem_map.mp hy
            exact h.kf.inp a ha
      rw [List.length_cons, List.length_map] at h1
      omega
  | n + 1, w, f, h, hn => by
    unfold spreadN
    by_cases hw : w = []
    · rw [if_pos hw]
      subst hw
      exact h.end
    · rw [if_neg hw]
      obtain ⟨h1, h2⟩ := turn_inv h hw hl
      have := spread_end hl n _ _ h1 (by rw [h2]; omega)
      exact this
end
end Ef
/-! The defs about weathers and fires. -/
namespace Ef
open PySem PySem.Spec PyProof.Rows L2
local macro_rules | `(tactic| walk_at "set") => `(tactic| (repeat' (first | exact SetAt.z | apply SetAt.s)))
local macro_rules | `(tactic| walk_at "le") => `(tactic| (repeat' (first | exact Le.nil | (with_reducible apply Le.eq) | (with_reducible apply Le.u) | (with_reducible apply Le.as) | rfl)))
local macro_rules | `(tactic| walk_at "ev1") => `(tactic| first
  | exact e_int | exact e_str | exact e_bl | exact e_non
  | exact e_var rfl | exact d_nil | exact a_nil | exact et_yes | exact o_none | exact k_own rfl
  | exact e_lenM rfl
  | ((with_reducible show lenK _ = true); rfl) | ((with_reducible show eqK _ _ = true); rfl) | ((with_reducible show smallL _ = true); rfl)
  | with_reducible apply d_cons | with_reducible apply a_cons | with_reducible apply o_some
  | with_reducible apply e_add | with_reducible apply e_sub | with_reducible apply e_lt | with_reducible apply e_le | with_reducible apply e_gt | with_reducible apply e_ge
  | with_reducible apply e_mul | with_reducible apply e_mod | with_reducible apply e_fdiv
  | with_reducible apply e_eqA | with_reducible apply e_neA
  | with_reducible apply e_isN | with_reducible apply e_notN | with_reducible apply e_notV | with_reducible apply et_test | with_reducible apply et_B | with_reducible apply et_not
  | with_reducible apply et_and2 | with_reducible apply et_or2 | with_reducible apply e_andV2 | with_reducible apply e_orV2
  | with_reducible apply e_tupS | with_reducible apply e_lstS | exact e_dnew
  | with_reducible apply e_lenA
  | (with_reducible apply e_cb (hr := cq_abs)) | (with_reducible apply e_cb (hr := cq_int1)) | (with_reducible apply e_cb (hr := cq_max2)) | (with_reducible apply e_cb (hr := cq_min2))
  | with_reducible apply e_call | with_reducible apply e_meth
  | with_reducible apply e_din | with_reducible apply e_dnotin | with_reducible apply e_dget | with_reducible apply e_dget1 | with_reducible apply e_dget2)
local macro_rules | `(tactic| walk_at "ev") => `(tactic| repeat' (walk_at "ev1"))
variable {P : Program} {w : World} {K : Frag} {mg : Str → Option Value} {base : Heap}
open PySem.W (keyToks keyToksAll alike AlikeAll minD)
theorem wDs_alike (l : Ro) : AlikeAll (l.map wD) := by
  refine ⟨fun x hx y hy => ?_, fun x hx => ?_⟩
  · obtain ⟨a, _, rfl⟩ := List.mem_map.mp hx
    obtain ⟨b, _, rfl⟩ := List.mem_map.mp hy
    rfl
  · obtain ⟨a, _, rfl⟩ := List.mem_map.mp hx
    intro e
    cases e
theorem wDs_depth : ∀ l : Ro, PyData.depthAll (l.map wD) ≤ 50
  | [] => Nat.zero_le _
  | x :: l => by
    rw [List.map_cons, PyData.depthAll]
    have := wDs_depth l
    have h1 : PyData.depth (wD x) = 1 := rfl
    omega
inductive R_spread (K : Frag) : List SV → SV → Prop
  | mk (p : Pt) (W : We) (s b : Ro) (rows : List (List (Option Int))) (h : PtOk p) (hW : WOk p.winds W) (hs : ∀ q ∈ s, q.1 ∈ p.places ∧ 0 ≤ q.2) (hsl : s.length < 1000) (hbl : b.length < 1000) (hr : RowsOk p.winds rows) (hrl : rows.length = p.links.length) :
    R_spread K [eLand K p, .d (eWe W), .d (eRo s), .d (eRo b), .d (.tuple (rows.map eRow))] (.md (mapG .int (spreadM p W s b rows)))
theorem kok_small {ps : List Str} {w : Ro} (h : KOk ps w) (hp : ps.length ≤ 24) : (mapG PyData.int w).length < sizeLine := by
  unfold mapG
  rw [List.length_map]
  exact Nat.lt_of_le_of_lt (Nat.le_trans h.len hp) (by decide)
theorem items_eq (w : Ro) : itemsD (mapG PyData.int w) = w.map eSI := by
  unfold itemsD mapG
  rw [List.map_map]
  rfl
theorem lrOk_of {p : Pt} {rows : List (List (Option Int))} (h : PtOk p) (hr : RowsOk p.winds rows) : LrOk p.places (p.links.zip rows) := fun lr hl => by
  have := List.of_mem_zip (a := lr.1) (b := lr.2) hl
  exact ⟨(h.lo _ this.1).2.2.1, (hr _ this.2).2⟩
theorem ok_spread (T : Tx K mg) : FnOk P w K mg base CX0 3 (He.fAd K ("spread", none)) T.fd_spread ["land", "weather", "starts", "breaks", "numbers"] (spQ (R_spread K)) := by
  refine okQ T.F_spread sc_spread (fun _ _ h => by cases h; rfl) (by decide) ?_
  rintro X ⟨cdv, A, outer, s, H, rfl, hr⟩ args r hR
  refine ⟨_, (pss_cons (ps_set (i := 5) sc_spread.nd rfl (Or.inl rfl) (pe_call (ok_least_minutes T) (hr.mono (by decide)) (by rfl) T.g_least_minutes T.F_least_minutes.kp (b_least_minutes T) .nil pass0 (pa_cons (pv 3) pa_nil)))
    (pss_cons (ps_set (i := 6) sc_spread.nd rfl (Or.inl rfl) pe_dnewK)
    (pss_cons (ps_for PassesOwn.never rfl (pi_items (pe_lockR (pe_call (ok_least_minutes T) (hr.mono (by decide)) (by rfl) T.g_least_minutes T.F_least_minutes.kp (b_least_minutes T) .nil pass0 (pa_cons (pv 2) pa_nil)))) (pg_tup rfl (pgs_cons (pg_name (i := 7) sc_spread.nd rfl (Or.inl rfl)) (pgs_cons (pg_name (i := 8) sc_spread.nd rfl (Or.inl rfl)) pgs_nil)))
      (pss_one (ps_if (PW.pt (pw_or (pt_cmp (pc_dnotin (hu_of hr) (pv 7) (pv 5)) rfl) (pw_or1 (pt_cmpR op_lt (pv 8) (pe_dget (hu_of hr) (pv 5) (pv 7) (fun _ _ => rfl)) (nomark _))))) (pss_one (ps_dput (hu_of hr) (pv 6) (pv 7) (pv 8) rfl)) pss_nil)))
    (pss_cons (ps_set (i := 9) sc_spread.nd rfl (Or.inl rfl) pe_dnewK)
    (pss_cons (ps_while PassesOwn.never (pt_truth (pv 6) (by intro _; rfl)) (pss_cons (ps_asg (pe_callB (cr_minD rfl hr.units) (by rfl) T.m_min (by decide +kernel) (pa_cons (pe_lock (pe_lc (own := [("place", 7), ("minute", 8)]) (g := (gTup K 2 (gCons (gName 7) (gCons (gName 8) gNil)))) (tt := tYes) (te := (tTupN (tCons (tVar 8) (tCons (tVar 7) tNil)))) rfl sc_spread.nd (pi_items (pv 6)) (blkOk_by (by kernel_rfl)) (fun _ _ _ _ _ => (pg_tup rfl (pgs_cons (pg_name (i := 7) sc_spread.nd rfl (Or.inl rfl)) (pgs_cons (pg_name (i := 8) sc_spread.nd rfl (Or.inl rfl)) pgs_nil)))) (fun _ _ _ _ _ => pts_nil) (fun _ _ _ _ _ => (pe_tupN (pa_cons (pv 8) (pa_cons (pv 7) pa_nil)))))) pa_nil)) (pg_tup rfl (pgs_cons (pg_name (i := 8) sc_spread.nd rfl (Or.inl rfl)) (pgs_cons (pg_name (i := 7) sc_spread.nd rfl (Or.inl rfl)) pgs_nil))))
    (pss_cons (ps_expr (pe_dpop1 (pv 6) (pv 7) ⟨rfl, rfl, rfl, rfl⟩))
    (pss_cons (ps_dput (hu_of hr) (pv 9) (pv 7) (pv 8) rfl)
    (pss_one (ps_for PassesOwn.never rfl (RZ.pi_zipA (by rfl) T.m_zip (pa_cons (pe_fld (pv 0) rfl) (pa_cons (pv 4) pa_nil))) (pg_tup rfl (pgs_cons (pg_name (i := 10) sc_spread.nd rfl (Or.inl rfl)) (pgs_cons (pg_name (i := 11) sc_spread.nd rfl (Or.inl rfl)) pgs_nil)))
      (pss_cons (ps_set (i := 12) sc_spread.nd rfl (Or.inl rfl) (pe_ifExp (PW.pt (pw_and (pt_cmpR op_eq (pe_ix ix_tup (pv 10) pe_int (fun _ _ => rfl)) (pv 7) (nomark _)) (pw_and1 (pt_cmp (pc_dnotin (hu_of hr) (pe_ix ix_tup (pv 10) pe_int (fun _ _ => rfl)) (pv 9)) rfl)))) (pe_call (ok_caught T) (hr.mono (by decide)) (by rfl) T.g_caught T.F_caught.kp (b_caught T) .nil pass0 (pa_cons (pv 0) (pa_cons (pv 1) (pa_cons (pv 11) (pa_cons (pv 8) pa_nil))))) pe_non))
    (pss_one (ps_if (PW.pt (pw_and (pt_cmp (pc_notN (pv 12))) (pw_and1 (PW.pt (pw_or (pt_cmp (pc_dnotin (hu_of hr) (pe_ix ix_tup (pv 10) pe_int (fun _ _ => rfl)) (pv 5)) rfl) (pw_or1 (pt_cmpR op_lt (pv 12) (pe_dget (hu_of hr) (pv 5) (pe_ix ix_tup (pv 10) pe_int (fun _ _ => rfl)) (fun _ _ => rfl)) (nomark _)))))))) (pss_one (ps_dput (hu_of hr) (pv 6) (pe_ix ix_tup (pv 10) pe_int (fun _ _ => rfl)) (pe_callB (call_min2 rfl) (by rfl) T.m_min (by decide +kernel) (pa_cons (pv 12) (pa_cons (pe_dget2 (hu_of hr) (pv 6) (pe_ix ix_tup (pv 10) pe_int (fun _ _ => rfl)) (pv 12) ⟨rfl, rfl, rfl, rfl⟩) pa_nil))) rfl)) pss_nil)))))))))
    (pss_one (ps_ret (pv 9)))))))), ?_⟩
  intro F0 H0 D hrt hnx
  cases hR with
  | mk p W st b rows h hW hs hsl hbl hr hrl =>
  show SR F0 H0 _ [eLand K p, .d (eWe W), .d (eRo st), .d (eRo b), .d (.tuple (rows.map eRow)), .u, .u, .u, .u, .u, .u, .u, .u] D
  have hl24 := h.pl.2
  refine sr_seq (r_asg (e_call (a_cons (e_var rfl) a_nil) (.mk b hbl)) (by walk_at "set") (nx_go (sr_seq (r_asg (r := .md []) e_dnew (by walk_at "set") (nx_go (sr_seq ?_))))))
  have h0 := start_inv (ps := p.places) (ws := p.winds) (W := W) (ends := leastM b) (starts := st) (lrs := p.links.zip rows) hs
  -- the waiting
  refine sr_fold (leastM st) eSI (fun (w : Ro) q => if alive (leastM b) q.1 q.2 = true then putG w q.1 q.2 else w) (fun w => [eLand K p, .d (eWe W), .d (eRo st), .d (eRo b), .d (.tuple (rows.map eRow)), .md (mapG .int (leastM b)), .md (mapG .int w), .u, .u, .u, .u, .u, .u]) (fun i w => w.length ≤ i) [] (wk_eq (wk_itemsR (e_call (a_cons (e_var rfl) a_nil) (.mk st hsl))) (items_eq _)) (by walk_at "le") (Nat.le_refl _) (fun F1 i q w gx hq hw _ => ⟨?_, _, gd_tupL (gds_cons (g_name (by walk_at "set")) (gds_cons (g_name (by walk_at "set")) gds_nil)), ?_⟩) (fun _ => ?_)
  · split
    · exact Nat.le_trans putG_len (Nat.succ_le_succ hw)
    · exact Nat.le_succ_of_le hw
  · have hi := (List.getElem?_eq_some_iff.mp hq).1
    have hll : (leastM st).length ≤ p.places.length := by
      have := nodup_len (least_nd st) (m := p.places) fun x hx => by
        obtain ⟨q, hq, rfl⟩ := List.mem_map.mp hx
        exact (hs q (least_mem st q hq)).1
      rw [List.length_map] at this
      exact this
    have hsz : (mapG PyData.int w).length < sizeLine := by
      unfold mapG
      rw [List.length_map]
      exact Nat.lt_of_le_of_lt (Nat.le_trans (Nat.le_trans hw (Nat.le_of_lt hi)) (Nat.le_trans hll hl24)) (by decide)
    have hv : valG (mapG PyData.int (leastM b)) q.1 = (valG (leastM b) q.1).map .int := valG_map _ _ _
    refine r_if (b' := alive (leastM b) q.1 q.2) (b := !((valG (leastM b) q.1).map PyData.int).isSome || (match valG (leastM b) q.1 with | some e => decide (q.2 < e) | none => true)) (et_or (et_B (e_eq (e_dnotin (e_var rfl) (k_own rfl)) (by rw [hv]))) fun hb => ?_) ?_ (fun ha => ?_) (fun ha => ?_)
    · cases hc : valG (leastM b) q.1 with
      | none => rw [hc] at hb; cases hb
      | some e =>
        exact et_test (e_lt (e_var rfl) (e_dget (k_own rfl) (e_var rfl) (by rw [hv, hc]; rfl)))
    · unfold alive
      cases valG (leastM b) q.1 <;> rfl
    · refine r_dput (n := 6) (s := q.1) (x := .int q.2) rfl (e_var rfl) (e_var rfl) hsz (by walk_at "set") (nx_end rfl ?_)
      rw [if_pos ha, putG_map]
      exact .eq (.eq (.eq (.eq (.eq (.eq (.eq (.u (.u (.u (.u (.u (.u .nil))))))))))))
    · refine sr_next (nx_end rfl ?_)
      rw [if_neg (by rw [ha]; simp)]
      exact .eq (.eq (.eq (.eq (.eq (.eq (.eq (.u (.u (.u (.u (.u (.u .nil))))))))))))
  refine nx_go (sr_seq (r_asg (r := .md []) e_dnew (by walk_at "set") (nx_go (sr_seq ?_))))
  -- the turns
  refine sr_while (fun m Γi => ∃ w f : Ro, SInv p.places p.winds W (leastM b) st (p.links.zip rows) w f ∧ f.length + m = p.places.length ∧ spreadN p.winds W (leastM b) (p.links.zip rows) m (w, f) = spreadM p W st b rows ∧
    Le Γi [eLand K p, .d (eWe W), .d (eRo st), .d (eRo b), .d (.tuple (rows.map eRow)), .md (mapG .int (leastM b)), .md (mapG .int w), .u, .u, .md (mapG .int f), .u, .u, .u]) ⟨p.places.length, startW (leastM b) st, [], h0, by simp, rfl, ?_⟩ ?_
  · exact .eq (.eq (.eq (.eq (.eq (.eq (.eq (.u (.u (.eq (.u (.u (.u .nil))))))))))))
  rintro m Γi ⟨w, f, hI, hm, hsp, hle⟩
  refine ⟨!(mapG PyData.int w).isEmpty, fun H0 F σ H Q S q => et_truthK (n := 6) (kvs := mapG .int w) rfl H0 F σ H Q (S.weak hle) q, fun hb => ?_, fun hb => ?_⟩
  rotate_left 1
  · have hw : w = [] := by
      cases w with
      | nil => rfl
      | cons q w => cases hb
    subst hw
    refine nx_weak ?_ hle
    have hf : f = spreadM p W st b rows := by
      rw [← hsp]
      cases m with
      | zero => rfl
      | succ m => unfold spreadN; rw [if_pos rfl]
    rw [hf]
    exact nx_go (sr_retMD (i := 9) rfl hrt)
  have hw : w ≠ [] := by
    rintro rfl
    cases hb
  obtain ⟨p1, p2, p3⟩ := pick_spec hw
  obtain ⟨hI', hlen'⟩ := turn_inv hI hw (lrOk_of h hr)
  have hm1 : 1 ≤ m := by
    cases m with
    | zero =>
      exfalso
      have := hI'.kf.len
      omega
    | succ m => omega
  refine sr_weak ?_ hle
  obtain ⟨a, l, hal⟩ : ∃ a l, w = a :: l := by
    cases w with
    | nil => exact absurd rfl hw
    | cons a l => exact ⟨a, l, rfl⟩
  refine sr_seq (sr_unp (x := wD (pick w)) (e_cb (d_cons (e_freeze (e_lock (n := 6) rfl (e_lcM w eSI wD (wkc_eq (wk_itemsL (n := 6) rfl) (items_eq w)) (by rw [← List.length_map (f := fun q : Str × Int => (q.1, PyData.int q.2))]; exact kok_small hI.kw hl24) fun i q hq => ⟨_, gv_tupL (gvs_cons (v_name (by walk_at "set")) (gvs_cons (v_name (by walk_at "set")) gvs_nil)), e_tupS (d_cons (e_var rfl) (d_cons (e_var rfl) d_nil))⟩))) d_nil) ?_) (gd_tup (gds_cons (g_name (by walk_at "set")) (gds_cons (g_name (by walk_at "set")) gds_nil))) (nx_go ?_))
  · have k : minD (wD a) (l.map wD) = wD (pick w) := by
      rw [← p2, hal]
      rfl
    have := cq_minD (K := K) (d := wD a) (ds := l.map wD) (wDs_alike (a :: l)) (wDs_depth (a :: l))
    rw [k, show wD a :: l.map wD = w.map wD by rw [hal]; rfl] at this
    exact this
  have hturn : turnS p.winds W (leastM b) (p.links.zip rows) (w, f) = ((p.links.zip rows).foldl (relax p.winds W (leastM b) (putG f (pick w).1 (pick w).2) (pick w).1 (pick w).2) (dropG w (pick w).1), putG f (pick w).1 (pick w).2) := rfl
  have hsp' : spreadN p.winds W (leastM b) (p.links.zip rows) (m - 1) (turnS p.winds W (leastM b) (p.links.zip rows) (w, f)) = spreadM p W st b rows := by
    rw [← hsp]
    obtain ⟨k, rfl⟩ : ∃ k, m = k + 1 := ⟨m - 1, by omega⟩
    rw [Nat.add_sub_cancel]
    conv => rhs; unfold spreadN
    rw [if_neg hw]
  have hm' : 0 ≤ (pick w).2 := hI.kw.pos _ p1
  have hxp : (pick w).1 ∈ p.places := hI.kw.inp _ p1
  rw [hturn] at hI' hlen' hsp'
  generalize pick w = q at *
  refine sr_seq (r_dpop (n := 6) (s := q.1) rfl (e_var rfl) ?_ (by walk_at "set") (nx_go (sr_seq (r_dput (n := 9) (s := q.1) (x := .int q.2) rfl (e_var rfl) (e_var rfl) (kok_small hI.kf hl24) (by walk_at "set") (nx_go ?_)))))
  · rw [valG_map, mem_valG hI.kw.nd p1]
    rfl
  rw [dropG_map, putG_map]
  dsimp only at hI' hlen' hsp'
  generalize hf1 : putG f q.1 q.2 = f1 at *
  have kf1 : KOk p.places f1 := hI'.kf
  refine sr_fold (p.links.zip rows) (fun lr => .tuple [eLk lr.1, eRow lr.2]) (relax p.winds W (leastM b) f1 q.1 q.2) (fun w => [eLand K p, .d (eWe W), .d (eRo st), .d (eRo b), .d (.tuple (rows.map eRow)), .md (mapG .int (leastM b)), .md (mapG .int w), .d (.str q.1), .d (.int q.2), .md (mapG .int f1), .u, .u, .u]) (fun i w => KOk p.places w) (dropG w q.1) (wk_eq (wk_zipT (d_cons (e_fld T.cLand T.n_links (e_var rfl) rfl) (d_cons (e_var rfl) d_nil))) (zipD_map eLk eRow _ _)) (by walk_at "le") hI.kw.drop (fun F1 i lr w1 gx hq hk _ => ⟨?_, _, gd_tupL (gds_cons (g_name (by walk_at "set")) (gds_cons (g_name (by walk_at "set")) gds_nil)), ?_⟩) (fun _ => ?_)
  · have k := lrOk_of h hr lr (List.mem_of_getElem? hq)
    exact (relax_ok hk k.1 k.2 hm').1
  · have k := lrOk_of h hr lr (List.mem_of_getElem? hq)
    have km := List.of_mem_zip (a := lr.1) (b := lr.2) (List.mem_of_getElem? hq)
    have hrw : lr.2.length = p.winds.length := (hr _ km.2).1
    have hvf : (valG (mapG PyData.int f1) lr.1.oth).isSome = (valG f1 lr.1.oth).isSome := by rw [valG_map]; cases valG f1 lr.1.oth <;> rfl
    have hvb : valG (mapG PyData.int (leastM b)) lr.1.oth = (valG (leastM b) lr.1.oth).map .int := valG_map _ _ _
    have hsz : (mapG PyData.int w1).length < sizeLine := kok_small hk hl24
    have elk1 : ∀ {Γ : List SV}, Γ[10]? = some (.d (eLk lr.1)) → Ev (tOp (rIxT K) (tVar 10) (tC (.int 1))) Γ (.d (.str lr.1.one)) := fun hg => e_ixT (x := .str lr.1.one) (e_var hg) e_int (by decide) rfl
    have elk2 : ∀ {Γ : List SV}, Γ[10]? = some (.d (eLk lr.1)) → Ev (tOp (rIxT K) (tVar 10) (tC (.int 2))) Γ (.d (.str lr.1.oth)) := fun hg => e_ixT (x := .str lr.1.oth) (e_var hg) e_int (by decide) rfl
    generalize ho : (if lr.1.one = q.1 ∧ valG f1 lr.1.oth = none then caughtM p.winds W lr.2 q.2 else none) = o
    have hrel : relax p.winds W (leastM b) f1 q.1 q.2 w1 lr = relaxO (leastM b) lr.1.oth w1 o := by
      unfold relax
      rw [ho]
    rw [hrel]
    refine sr_seq (r_asg (r := .d (eO o)) (e_if (b := decide (lr.1.one = q.1) && !(valG f1 lr.1.oth).isSome) (et_and (et_test (e_as (e_eqA (elk1 rfl) (e_var rfl) rfl) rfl)) fun _ => et_B (e_eq (e_dnotin (elk2 rfl) (k_own rfl)) (by rw [hvf]))) (fun hb => ?_) (fun hb => ?_)) (by walk_at "set") (nx_go ?_))
    · have : lr.1.one = q.1 ∧ valG f1 lr.1.oth = none := by
        rw [Bool.and_eq_true] at hb
        refine ⟨of_decide_eq_true hb.1, ?_⟩
        cases hc : valG f1 lr.1.oth with
        | none => rfl
        | some _ => rw [hc] at hb; cases hb.2
      rw [if_pos this] at ho
      rw [← ho]
      exact e_call (a_cons (e_var rfl) (a_cons (e_var rfl) (a_cons (e_var rfl) (a_cons (e_var rfl) a_nil)))) (.mk p W lr.2 q.2 hW hrw hm')
    · have : ¬ (lr.1.one = q.1 ∧ valG f1 lr.1.oth = none) := by
        rintro ⟨k1, k2⟩
        rw [k2, decide_eq_true k1] at hb
        cases hb
      rw [if_neg this] at ho
      rw [← ho]
      exact e_non
    · cases o with
      | none =>
        refine r_ifF (et_and (b := false) (b' := false) (et_B (e_eq (e_notN (e_var (r := .d (eO none)) rfl)) rfl)) fun hb => ?_) rfl (sr_next (nx_end rfl ?_))
        · cases hb
        · exact .eq (.eq (.eq (.eq (.eq (.eq (.eq (.eq (.eq (.eq (.u (.u (.u .nil))))))))))))
      | some e =>
        refine r_if (b' := alive (leastM b) lr.1.oth e) (b := true && (!((valG (leastM b) lr.1.oth).map PyData.int).isSome || (match valG (leastM b) lr.1.oth with | some t => decide (e < t) | none => true))) (et_and (et_B (e_eq (e_notN (e_var (r := .d (eO (some e))) rfl)) rfl)) fun _ => et_or (et_B (e_eq (e_dnotin (elk2 rfl) (k_own rfl)) (by rw [hvb]))) fun hb => ?_) ?_ (fun ha => ?_) (fun ha => ?_)
        · cases hc : valG (leastM b) lr.1.oth with
          | none => rw [hc] at hb; cases hb
          | some t => exact et_test (e_lt (e_var rfl) (e_dget (k_own rfl) (elk2 rfl) (by rw [hvb, hc]; rfl)))
        · unfold alive
          cases valG (leastM b) lr.1.oth <;> rfl
        · refine r_dput (n := 6) (s := lr.1.oth) (x := .int (mn e ((valG w1 lr.1.oth).getD e))) rfl (elk2 rfl) (e_as (e_cb (d_cons (e_var rfl) (d_cons (e_eq (e_dget2 (k_own rfl) (elk2 rfl) (e_var rfl)) (y := .int ((valG w1 lr.1.oth).getD e)) ?_) d_nil)) cq_min2) rfl) hsz (by walk_at "set") (nx_end rfl ?_)
          · rw [valG_map]
            cases valG w1 lr.1.oth <;> rfl
          · dsimp only [relaxO]
            rw [if_pos ha, putG_map]
            exact .eq (.eq (.eq (.eq (.eq (.eq (.eq (.eq (.eq (.eq (.u (.u (.u .nil))))))))))))
        · refine sr_next (nx_end rfl ?_)
          dsimp only [relaxO]
          rw [if_neg (by rw [ha]; simp)]
          exact .eq (.eq (.eq (.eq (.eq (.eq (.eq (.eq (.eq (.eq (.u (.u (.u .nil))))))))))))
  · refine fun σ H S => ⟨_, ⟨m - 1, by omega, _, _, hI', by omega, hsp', ?_⟩, S⟩
    exact .eq (.eq (.eq (.eq (.eq (.eq (.eq (.u (.u (.eq (.u (.u (.u .nil))))))))))))
end Ef
/-! The defs about weathers and fires. -/
namespace Ef
open PySem PySem.Spec PyProof.Rows L2
local macro_rules | `(tactic| walk_at "set") => `(tactic| (repeat' (first | exact SetAt.z | apply SetAt.s)))
local macro_rules | `(tactic| walk_at "le") => `(tactic| (repeat' (first | exact Le.nil | (with_reducible apply Le.eq) | (with_reducible apply Le.u) | (with_reducible apply Le.as) | rfl)))
local macro_rules | `(tactic| walk_at "ev1") => `(tactic| first
  | exact e_int | exact e_str | exact e_bl | exact e_non
  | exact e_var rfl | exact d_nil | exact a_nil | exact et_yes | exact o_none | exact k_own rfl
  | exact e_lenM rfl
  | ((with_reducible show lenK _ = true); rfl) | ((with_reducible show eqK _ _ = true); rfl) | ((with_reducible show smallL _ = true); rfl)
  | with_reducible apply d_cons | with_reducible apply a_cons | with_reducible apply o_some
  | with_reducible apply e_add | with_reducible apply e_sub | with_reducible apply e_lt | with_reducible apply e_le | with_reducible apply e_gt | with_reducible apply e_ge
  | with_reducible apply e_mul | with_reducible apply e_mod | with_reducible apply e_fdiv
  | with_reducible apply e_eqA | with_reducible apply e_neA
  | with_reducible apply e_isN | with_reducible apply e_notN | with_reducible apply e_notV | with_reducible apply et_test | with_reducible apply et_B | with_reducible apply et_not
  | with_reducible apply et_and2 | with_reducible apply et_or2 | with_reducible apply e_andV2 | with_reducible apply e_orV2
  | with_reducible apply e_tupS | with_reducible apply e_lstS | exact e_dnew
  | with_reducible apply e_lenA
  | (with_reducible apply e_cb (hr := cq_abs)) | (with_reducible apply e_cb (hr := cq_int1)) | (with_reducible apply e_cb (hr := cq_max2)) | (with_reducible apply e_cb (hr := cq_min2))
  | with_reducible apply e_call | with_reducible apply e_meth
  | with_reducible apply e_din | with_reducible apply e_dnotin | with_reducible apply e_dget | with_reducible apply e_dget1 | with_reducible apply e_dget2)
local macro_rules | `(tactic| walk_at "ev") => `(tactic| repeat' (walk_at "ev1"))
variable {P : Program} {w : World} {K : Frag} {mg : Str → Option Value} {base : Heap}
def leastRows (p : Pt) : List (List (Option Int)) := p.links.map leastRow
theorem rowsOk_least {p : Pt} (h : PtOk p) : RowsOk p.winds (leastRows p) := fun row hr => by
  obtain ⟨l, hl, rfl⟩ := List.mem_map.mp hr
  have k := h.lo l hl
  refine ⟨by unfold leastRow; rw [List.length_map]; exact k.2.2.2.2.1, fun n hn => ?_⟩
  unfold leastRow at hn
  obtain ⟨t, ht, e⟩ := List.mem_map.mp hn
  have ok := k.2.2.2.2.2 t ht
  cases t with
  | none => cases e
  | some q =>
    cases e
    exact ok.1
/-- what a fire starts from -/
structure FireIn (p : Pt) (W : We) (s b : Ro) : Prop where
  pt : PtOk p
  we : WOk p.winds W
  st : ∀ q ∈ s, q.1 ∈ p.places ∧ 0 ≤ q.2
  sl : s.length < 1000
  br : ∀ q ∈ b, q.1 ∈ p.places ∧ 0 ≤ q.2
  bl : b.length < 1000
noncomputable def fastM (p : Pt) (W : We) (s b : Ro) : Ro := spreadM p W s b (leastRows p)
noncomputable def toldM (p : Pt) (f : Ro) : List (Str × PyData) := p.places.map fun x => (x, eO (valG f x))
theorem told_eq (p : Pt) (f : Ro) : (p.places.map fun x => PyData.tuple [.str x, eO (valG f x)]) = pairsD (toldM p f) := by
  unfold pairsD toldM
  rw [List.map_map]
  rfl
inductive R_burning (K : Frag) : List SV → SV → Prop
  | mk (p : Pt) (W : We) (s b : Ro) (h : FireIn p W s b) : R_burning K [eLand K p, .d (eWe W), .d (eRo s), .d (eRo b), .d (.tuple ((leastRows p).map eRow))] (.ml (pairsD (toldM p (fastM p W s b))))
theorem ok_burning (T : Tx K mg) : FnOk P w K mg base CX0 4 (He.fAd K ("burning", none)) T.fd_burning ["land", "weather", "starts", "breaks", "numbers"] (spQ (R_burning K)) := by
  refine okQ T.F_burning sc_burning (fun _ _ h => by cases h; rfl) (by decide) ?_
  rintro X ⟨cdv, A, outer, s, H, rfl, hr⟩ args r hR
  refine ⟨_, (pss_cons (ps_expr (pe_call (ok_check_fire T) (hr.mono (by decide)) (by rfl) T.g_check_fire T.F_check_fire.kp (b_check_fire T) .nil pass0 (pa_cons (pv 0) (pa_cons (pv 1) (pa_cons (pv 2) (pa_cons (pv 3) pa_nil))))))
    (pss_cons (ps_expr (pe_call (ok_check_numbers T) (hr.mono (by decide)) (by rfl) T.g_check_numbers T.F_check_numbers.kp (b_check_numbers T) .nil pass0 (pa_cons (pv 0) (pa_cons (pv 4) pa_nil))))
    (pss_one (ps_ret (pe_call (ok_told T) (hr.mono (by decide)) (by rfl) T.g_told T.F_told.kp (b_told T) .nil pass0 (pa_cons (pv 0) (pa_cons (pe_call (ok_spread T) (hr.mono (by decide)) (by rfl) T.g_spread T.F_spread.kp (b_spread T) .nil pass0 (pa_cons (pv 0) (pa_cons (pv 1) (pa_cons (pv 2) (pa_cons (pv 3) (pa_cons (pv 4) pa_nil)))))) pa_nil))))))), ?_⟩
  intro F0 H0 D hrt hnx
  cases hR with
  | mk p W st b h =>
  show SR F0 H0 _ [eLand K p, .d (eWe W), .d (eRo st), .d (eRo b), .d (.tuple ((leastRows p).map eRow))] D
  refine sr_seq (sr_drop (e_call (a_cons (e_var rfl) (a_cons (e_var rfl) (a_cons (e_var rfl) (a_cons (e_var rfl) a_nil)))) (.mk p W st b h.pt h.we (fun q hq => (h.st q hq).1) (fun q hq => (h.br q hq).1))) (nx_go ?_))
  refine sr_seq (sr_drop (e_call (a_cons (e_var rfl) (a_cons (e_var rfl) a_nil)) (.mk p h.pt)) (nx_go ?_))
  refine r_ret (e_call (a_cons (e_var rfl) (a_cons (e_freezeD (e_call (a_cons (e_var rfl) (a_cons (e_var rfl) (a_cons (e_var rfl) (a_cons (e_var rfl) (a_cons (e_var rfl) a_nil))))) (.mk p W st b (leastRows p) h.pt h.we h.st h.sl h.bl (rowsOk_least h.pt) (by unfold leastRows; rw [List.length_map])))) a_nil)) (.mk p _ h.pt)) ?_ hrt
  rw [told_eq]
  rfl
inductive R_fastest (K : Frag) : List SV → SV → Prop
  | mk (p : Pt) (W : We) (s b : Ro) (h : FireIn p W s b) : R_fastest K [eLand K p, .d (eWe W), .d (eRo s), .d (eRo b)] (.ml (pairsD (toldM p (fastM p W s b))))
theorem ok_fastest (T : Tx K mg) : FnOk P w K mg base CX0 5 (He.fAd K ("fastest", none)) T.fd_fastest ["land", "weather", "starts", "breaks"] (spQ (R_fastest K)) := by
  refine okQ T.F_fastest sc_fastest (fun _ _ h => by cases h; rfl) (by decide) ?_
  rintro X ⟨cdv, A, outer, s, H, rfl, hr⟩ args r hR
  refine ⟨_, (pss_one (ps_ret (pe_call (ok_burning T) (hr.mono (by decide)) (by rfl) T.g_burning T.F_burning.kp (b_burning T) .nil pass0 (pa_cons (pv 0) (pa_cons (pv 1) (pa_cons (pv 2) (pa_cons (pv 3) (pa_cons (pe_call (ok_least_numbers T) (hr.mono (by decide)) (by rfl) T.g_least_numbers T.F_least_numbers.kp (b_least_numbers T) .nil pass0 (pa_cons (pv 0) pa_nil)) pa_nil)))))))), ?_⟩
  intro F0 H0 D hrt hnx
  cases hR with
  | mk p W st b h =>
  show SR F0 H0 _ [eLand K p, .d (eWe W), .d (eRo st), .d (eRo b)] D
  exact r_ret (e_call (a_cons (e_var rfl) (a_cons (e_var rfl) (a_cons (e_var rfl) (a_cons (e_var rfl) (a_cons (e_call (a_cons (e_var rfl) a_nil) (.mk p h.pt)) a_nil))))) (.mk p W st b h)) rfl hrt
end Ef
/-! The defs about weathers and fires. -/
namespace Ef
open PySem PySem.Spec PyProof.Rows L2
local macro_rules | `(tactic| walk_at "set") => `(tactic| (repeat' (first | exact SetAt.z | apply SetAt.s)))
local macro_rules | `(tactic| walk_at "le") => `(tactic| (repeat' (first | exact Le.nil | (with_reducible apply Le.eq) | (with_reducible apply Le.u) | (with_reducible apply Le.as) | rfl)))
local macro_rules | `(tactic| walk_at "ev1") => `(tactic| first
  | exact e_int | exact e_str | exact e_bl | exact e_non
  | exact e_var rfl | exact d_nil | exact a_nil | exact et_yes | exact o_none | exact k_own rfl
  | exact e_lenM rfl
  | ((with_reducible show lenK _ = true); rfl) | ((with_reducible show eqK _ _ = true); rfl) | ((with_reducible show smallL _ = true); rfl)
  | with_reducible apply d_cons | with_reducible apply a_cons | with_reducible apply o_some
  | with_reducible apply e_add | with_reducible apply e_sub | with_reducible apply e_lt | with_reducible apply e_le | with_reducible apply e_gt | with_reducible apply e_ge
  | with_reducible apply e_mul | with_reducible apply e_mod | with_reducible apply e_fdiv
  | with_reducible apply e_eqA | with_reducible apply e_neA
  | with_reducible apply e_isN | with_reducible apply e_notN | with_reducible apply e_notV | with_reducible apply et_test | with_reducible apply et_B | with_reducible apply et_not
  | with_reducible apply et_and2 | with_reducible apply et_or2 | with_reducible apply e_andV2 | with_reducible apply e_orV2
  | with_reducible apply e_tupS | with_reducible apply e_lstS | exact e_dnew
  | with_reducible apply e_lenA
  | (with_reducible apply e_cb (hr := cq_abs)) | (with_reducible apply e_cb (hr := cq_int1)) | (with_reducible apply e_cb (hr := cq_max2)) | (with_reducible apply e_cb (hr := cq_min2))
  | with_reducible apply e_call | with_reducible apply e_meth
  | with_reducible apply e_din | with_reducible apply e_dnotin | with_reducible apply e_dget | with_reducible apply e_dget1 | with_reducible apply e_dget2)
local macro_rules | `(tactic| walk_at "ev") => `(tactic| repeat' (walk_at "ev1"))
variable {P : Program} {w : World} {K : Frag} {mg : Str → Option Value} {base : Heap}
inductive Dd where
  | walk (x : Str)
  | cut (n : Int)
  | wait (n : Int)
def eDd : Dd → PyData
  | .walk x => .tuple [.str "walk", .str x]
  | .cut n => .tuple [.str "cut", .int n]
  | .wait n => .tuple [.str "wait", .int n]
structure Hn where
  nm : Str
  pl : Str
  ds : List Dd
def eHn (h : Hn) : PyData := .tuple [.str h.nm, .str h.pl, .list (h.ds.map eDd)]
def DeedsOk (p : Pt) : Str → List Dd → Prop
  | _, [] => True
  | x, .walk y :: r => x ∈ p.places ∧ y ∈ p.places ∧ (∃ m, valG (walksP p x) y = some m ∧ 1 ≤ m) ∧ DeedsOk p y r
  | x, .cut n :: r => 1 ≤ n ∧ n ≤ 1000 ∧ DeedsOk p x r
  | x, .wait n :: r => 1 ≤ n ∧ n ≤ 1000 ∧ DeedsOk p x r
structure HandsOk (p : Pt) (hs : List Hn) : Prop where
  few : hs.length ≤ 5
  nd : (hs.map (·.nm)).Nodup
  nm : ∀ h ∈ hs, NameOk h.nm
  pl : ∀ h ∈ hs, h.pl ∈ p.places
  fd : ∀ h ∈ hs, h.ds.length ≤ 30
  ds : ∀ h ∈ hs, DeedsOk p h.pl h.ds
abbrev eHs (hs : List Hn) : PyData := .list (hs.map eHn)
theorem deed_ok {p : Pt} : ∀ {ds : List Dd} {x : Str}, DeedsOk p x ds → ∀ d ∈ ds, match d with | .walk y => y ∈ p.places | .cut n => 1 ≤ n ∧ n ≤ 1000 | .wait n => 1 ≤ n ∧ n ≤ 1000
  | [], _, _ => fun d hd => by cases hd
  | .walk y :: r, x, h => fun d hd => by
    rcases List.mem_cons.mp hd with rfl | hd
    · exact h.2.1
    · exact deed_ok h.2.2.2 d hd
  | .cut n :: r, x, h => fun d hd => by
    rcases List.mem_cons.mp hd with rfl | hd
    · exact ⟨h.1, h.2.1⟩
    · exact deed_ok h.2.2 d hd
  | .wait n :: r, x, h => fun d hd => by
    rcases List.mem_cons.mp hd with rfl | hd
    · exact ⟨h.1, h.2.1⟩
    · exact deed_ok h.2.2 d hd
def nextPl (x : Str) : Dd → Str
  | .walk y => y
  | _ => x
theorem deeds_at {p : Pt} : ∀ {ds : List Dd} {x : Str}, DeedsOk p x ds → ∀ {i : Nat} {d : Dd}, ds[i]? = some d → DeedsOk p ((ds.take i).foldl nextPl x) (d :: ds.drop (i + 1))
  | [], _, _, i, d, h => by simp at h
  | a :: r, x, hd, 0, d, h => by
    simp only [List.getElem?_cons_zero, Option.some.injEq] at h
    subst h
    exact hd
  | a :: r, x, hd, i + 1, d, h => by
    simp only [List.getElem?_cons_succ] at h
    have : DeedsOk p (nextPl x a) r := by
      cases a with
      | walk y => exact hd.2.2.2
      | cut n => exact hd.2.2
      | wait n => exact hd.2.2
    exact deeds_at this h
inductive R_check_hands (K : Frag) : List SV → SV → Prop
  | mk (p : Pt) (hs : List Hn) (hp : PtOk p) (h : HandsOk p hs) : R_check_hands K [eLand K p, .d (eHs hs)] (.d .none)
theorem neq_wc : ¬ (("walk" : Str) = "cut") := by decide
theorem neq_cw : ¬ (("cut" : Str) = "walk") := by decide
theorem neq_tw : ¬ (("wait" : Str) = "walk") := by decide
theorem neq_tc : ¬ (("wait" : Str) = "cut") := by decide
theorem ok_check_hands (T : Tx K mg) : FnOk P w K mg base CX0 4 (He.fAd K ("check_hands", none)) T.fd_check_hands ["land", "hands"] (spQ (R_check_hands K)) := by
  refine okQ T.F_check_hands sc_check_hands (fun _ _ h => by cases h; rfl) (by decide) ?_
  rintro X ⟨cdv, A, outer, s, H, rfl, hr⟩ args r hR
  refine ⟨_, (pss_cons (ps_setLc (i := 2) (own := [("hand", 3)]) (g := (gName 3)) (tt := tYes) (te := (tOp (rIxT K) (tVar 3) (tC (.int 0)))) rfl sc_check_hands.nd rfl rfl (sw_true rfl rfl rfl (by decide +kernel)) (pi_list (pv 1)) (blkOk_by (by kernel_rfl)) (fun _ _ _ _ _ => (pg_name (i := 3) sc_check_hands.nd rfl (Or.inl rfl))) (fun _ _ _ _ _ => pts_nil) (fun _ _ _ _ _ => (pe_ix ix_tup (pv 3) pe_int (fun _ _ => rfl))))
    (pss_cons (ps_if (PW.pt (pw_or (pt_cmpR op_gt (pe_callB call_lenQ (by rfl) T.m_len (by decide +kernel) (pa_cons (pv 1) pa_nil)) (pe_glob (v := .int 5) rfl T.i_MOST_HANDS ⟨_, rfl⟩) (nomark _)) (pw_or (pt_cmpR op_lt (pe_lenSetN rfl (by rfl) T.m_len (by rfl) T.m_set (pv 2)) (pe_callB call_lenQ (by rfl) T.m_len (by decide +kernel) (pa_cons (pv 2) pa_nil)) (nomark _)) (pw_or1 (pt_not (pt_val (pe_callB (cr_all rfl) (by rfl) T.m_all (by decide +kernel) (pa_cons (pe_lc (own := [("name", 4)]) (g := (gName 4)) (tt := tYes) (te := (tCall _ [] E0 (tCons (tVar 4) tNil))) rfl sc_check_hands.nd (pi_list (pv 2)) (blkOk_by (by kernel_rfl)) (fun _ _ _ _ _ => (pg_name (i := 4) sc_check_hands.nd rfl (Or.inl rfl))) (fun _ _ _ _ _ => pts_nil) (fun _ _ _ _ _ => (pe_call (ok_is_name T) (hr.mono (by decide)) (by rfl) T.g_is_name T.F_is_name.kp (b_is_name T) .nil pass0 (pa_cons (pv 4) pa_nil)))) pa_nil)))))))) pss_never pss_nil)
    (pss_cons (ps_for PassesOwn.never rfl (pi_list (pv 1)) (pg_tup rfl (pgs_cons (pg_name (i := 5) sc_check_hands.nd rfl (Or.inl rfl)) (pgs_cons (pg_name (i := 6) sc_check_hands.nd rfl (Or.inl rfl)) (pgs_cons (pg_name (i := 7) sc_check_hands.nd rfl (Or.inl rfl)) pgs_nil))))
      (pss_cons (ps_expr (pe_meth (pv 0) T.cLand T.me_check_place (ok_Land_check_place T) (hr.mono (by decide)) (b_Land_check_place T) .nil pass0 (pa_cons (pv 6) pa_nil)))
    (pss_one (ps_for PassesOwn.never rfl (pi_list (pv 7)) (pg_tup rfl (pgs_cons (pg_name (i := 8) sc_check_hands.nd rfl (Or.inl rfl)) (pgs_cons (pg_name (i := 9) sc_check_hands.nd rfl (Or.inl rfl)) pgs_nil)))
      (pss_one (ps_if (pt_cmpR op_eq (pv 8) pe_str (nomark _)) (pss_one (ps_expr (pe_meth (pv 0) T.cLand T.me_check_place (ok_Land_check_place T) (hr.mono (by decide)) (b_Land_check_place T) .nil pass0 (pa_cons (pv 9) pa_nil)))) pss_nil))))))
    (pss_cons (ps_for PassesOwn.never rfl (pi_list (pv 1)) (pg_tup rfl (pgs_cons (pg_name (i := 5) sc_check_hands.nd rfl (Or.inl rfl)) (pgs_cons (pg_name (i := 5) sc_check_hands.nd rfl (Or.inl rfl)) (pgs_cons (pg_name (i := 7) sc_check_hands.nd rfl (Or.inl rfl)) pgs_nil))))
      (pss_cons (ps_if (pt_cmpR op_gt (pe_callB call_lenQ (by rfl) T.m_len (by decide +kernel) (pa_cons (pv 7) pa_nil)) (pe_glob (v := .int 30) rfl T.i_MOST_DEEDS ⟨_, rfl⟩) (nomark _)) pss_never pss_nil)
    (pss_one (ps_for PassesOwn.never rfl (pi_list (pv 7)) (pg_tup rfl (pgs_cons (pg_name (i := 8) sc_check_hands.nd rfl (Or.inl rfl)) (pgs_cons (pg_name (i := 9) sc_check_hands.nd rfl (Or.inl rfl)) pgs_nil)))
      (pss_one (ps_if (PW.pt (pw_or (pt_cmpR op_notIn_seq (pv 8) (pe_tupN (pa_cons pe_str (pa_cons pe_str (pa_cons pe_str pa_nil)))) rfl) (pw_or1 (PW.pt (pw_and (pt_cmpR op_ne (pv 8) pe_str (nomark _)) (pw_and1 (pt_not (pt_chain op_le op_le pe_int (pv 9) (pe_glob (v := .int 1000) rfl T.i_MOST_MINUTES_hands ⟨_, rfl⟩))))))))) pss_never pss_nil))))))
    (pss_one (ps_for PassesOwn.never rfl (pi_enum (by rfl) T.m_enumerate (pa_cons (pv 1) pa_nil)) (pg_tup rfl (pgs_cons (pg_name (i := 10) sc_check_hands.nd rfl (Or.inl rfl)) (pgs_cons (pg_tup rfl (pgs_cons (pg_name (i := 5) sc_check_hands.nd rfl (Or.inl rfl)) (pgs_cons (pg_name (i := 6) sc_check_hands.nd rfl (Or.inl rfl)) (pgs_cons (pg_name (i := 7) sc_check_hands.nd rfl (Or.inl rfl)) pgs_nil)))) pgs_nil)))
      (pss_one (ps_for PassesOwn.never rfl (pi_list (pv 7)) (pg_tup rfl (pgs_cons (pg_name (i := 8) sc_check_hands.nd rfl (Or.inl rfl)) (pgs_cons (pg_name (i := 9) sc_check_hands.nd rfl (Or.inl rfl)) pgs_nil)))
      (pss_one (ps_if (pt_cmpR op_eq (pv 8) pe_str (nomark _)) (pss_cons (ps_if (pt_cmp (pc_isN (pe_meth (pv 0) T.cLand T.me_minutes_between (ok_Land_minutes_between T) (hr.mono (by decide)) (b_Land_minutes_between T) .nil pass0 (pa_cons (pv 6) (pa_cons (pv 9) pa_nil))))) pss_never pss_nil)
    (pss_one (ps_set (i := 6) sc_check_hands.nd rfl (Or.inl rfl) (pv 9)))) pss_nil)))))))))), ?_⟩
  intro F0 H0 D hrt hnx
  cases hR with
  | mk p hs hp h =>
  show SR F0 H0 _ [eLand K p, .d (eHs hs), .u, .u, .u, .u, .u, .u, .u, .u, .u] D
  have hfew := h.few
  have hsm : hs.length < sizeLine := Nat.lt_of_le_of_lt h.few (by decide)
  refine sr_seq (r_asg (r := .ml ((hs.map (·.nm)).map .str)) (e_as (e_lcM hs eHn (fun q => .str q.nm) (wk_list (e_var rfl)).c hsm fun i q hq => ⟨_, v_name (d := eHn q) (by walk_at "set"), e_ixT (x := .str q.nm) (e_var rfl) e_int (by decide) rfl⟩) (by rw [List.map_map]; rfl)) (by walk_at "set") (nx_go (r_freeze (n := 2) rfl (by walk_at "set") ?_)))
  refine sr_seq (r_ifF (et_or2 (et_test (e_gt (e_lenA (e_var rfl) rfl) e_int)) (et_or2 (et_test (e_lt (e_lenSetN (xs := hs.map (·.nm)) (e_var rfl) h.nd (by rw [List.length_map]; omega)) (e_lenA (e_var rfl) rfl))) (et_not (et_B (e_cb (d_cons (e_freeze (e_lcM (hs.map (·.nm)) .str (fun _ => .bool true) (wk_list (e_var rfl)).c (by rw [List.length_map]; exact hsm) fun i q hq => ⟨_, v_name (by walk_at "set"), e_call (a_cons (e_var rfl) a_nil) (.mk q ?_)⟩)) d_nil) (cq_all (bs := (hs.map (·.nm)).map fun _ => true) |> fun k => by rw [List.map_map] at k; exact k)))))) ?_ (sr_next (nx_go ?_)))
  · obtain ⟨a, ha, rfl⟩ := List.mem_map.mp (List.mem_of_getElem? hq)
    exact h.nm a ha
  · simp only [lenF, List.length_map]
    have : ¬ ((5 : Int) < (hs.length : Nat)) := by omega
    simp [this]
  refine sr_seq (sr_const [eLand K p, .d (eHs hs), .d (.list ((hs.map (·.nm)).map .str)), .u, .u, .u, .u, .u, .u, .u, .u] (wk_list (e_var rfl)) (Le.refl _) (fun F1 i d hd => ?_) (nx_go ?_))
  · obtain ⟨q, hq, rfl⟩ := at_map hd
    have hm := List.mem_of_getElem? hq
    refine ⟨_, gd_tup (gds_cons (g_name (by walk_at "set")) (gds_cons (g_name (by walk_at "set")) (gds_cons (g_name (by walk_at "set")) gds_nil))), sr_seq (sr_drop (e_meth (e_var rfl) rfl (a_cons (e_var rfl) a_nil) (.mk _ _ (h.pl q hm))) (nx_go ?_))⟩
    refine sr_const [eLand K p, .d (eHs hs), .d (.list ((hs.map (·.nm)).map .str)), .u, .u, .u, .u, .u, .u, .u, .u] (wk_list (e_var rfl)) (by walk_at "le") (fun F2 j d hd => ?_) (nx_end rfl (Le.refl _))
    obtain ⟨a, ha, rfl⟩ := at_map hd
    have hok := deed_ok (h.ds q hm) a (List.mem_of_getElem? ha)
    cases a with
    | walk y => exact ⟨_, gd_tup (gds_cons (g_name (by walk_at "set")) (gds_cons (g_name (by walk_at "set")) gds_nil)), r_ifT (et_test (e_eqA (e_var rfl) e_str rfl)) (by rfl) (sr_drop (e_meth (e_var rfl) rfl (a_cons (e_var rfl) a_nil) (.mk _ _ hok)) (nx_end rfl (by walk_at "le")))⟩
    | cut n => exact ⟨_, gd_tup (gds_cons (g_name (by walk_at "set")) (gds_cons (g_name (by walk_at "set")) gds_nil)), r_ifF (et_test (e_eqA (e_var rfl) e_str rfl)) (by exact decide_eq_false neq_cw) (sr_next (nx_end rfl (by walk_at "le")))⟩
    | wait n => exact ⟨_, gd_tup (gds_cons (g_name (by walk_at "set")) (gds_cons (g_name (by walk_at "set")) gds_nil)), r_ifF (et_test (e_eqA (e_var rfl) e_str rfl)) (by exact decide_eq_false neq_tw) (sr_next (nx_end rfl (by walk_at "le")))⟩
  refine sr_seq (sr_const [eLand K p, .d (eHs hs), .d (.list ((hs.map (·.nm)).map .str)), .u, .u, .u, .u, .u, .u, .u, .u] (wk_list (e_var rfl)) (Le.refl _) (fun F1 i d hd => ?_) (nx_go ?_))
  · obtain ⟨q, hq, rfl⟩ := at_map hd
    have hm := List.mem_of_getElem? hq
    refine ⟨_, gd_tup (gds_cons (g_name (by walk_at "set")) (gds_cons (g_name (by walk_at "set")) (gds_cons (g_name (by walk_at "set")) gds_nil))), sr_seq (r_ifF (et_test (e_gt (e_lenA (e_var rfl) rfl) e_int)) ?_ (sr_next (nx_go ?_)))⟩
    · have := h.fd q hm
      simp only [lenF, List.length_map]
      exact decide_eq_false (by omega)
    refine sr_const [eLand K p, .d (eHs hs), .d (.list ((hs.map (·.nm)).map .str)), .u, .u, .u, .u, .u, .u, .u, .u] (wk_list (e_var rfl)) (by walk_at "le") (fun F2 j d hd => ?_) (nx_end rfl (Le.refl _))
    obtain ⟨a, ha, rfl⟩ := at_map hd
    have hok := deed_ok (h.ds q hm) a (List.mem_of_getElem? ha)
    cases a with
    | walk y =>
      refine ⟨_, gd_tup (gds_cons (g_name (by walk_at "set")) (gds_cons (g_name (by walk_at "set")) gds_nil)), r_ifF (b := !decide (("walk" : Str) ∈ [("walk" : Str), "cut", "wait"]) || (false && false)) (et_or2 (et_test (e_notInT (xs := ["walk", "cut", "wait"]) (e_var rfl) (e_as (e_tupS (d_cons e_str (d_cons e_str (d_cons e_str d_nil)))) rfl))) (et_and (et_test (e_eq (e_neA (e_var rfl) e_str rfl) ?_)) fun hb => by cases hb)) (by decide) (sr_next (nx_end rfl (by walk_at "le")))⟩
      rfl
    | cut n =>
      refine ⟨_, gd_tup (gds_cons (g_name (by walk_at "set")) (gds_cons (g_name (by walk_at "set")) gds_nil)), r_ifF (et_or2 (et_test (e_notInT (xs := ["walk", "cut", "wait"]) (e_var rfl) (e_as (e_tupS (d_cons e_str (d_cons e_str (d_cons e_str d_nil)))) rfl))) (et_and2 (et_test (e_neA (e_var rfl) e_str rfl)) (et_not (et_test (e_chain (x := .int 1) (y := .int n) (z := .int 1000) e_int (e_var rfl) (rq_I0 rfl) (fun _ => e_int) (fun _ => rq_I0 rfl)))))) ?_ (sr_next (nx_end rfl (by walk_at "le")))⟩
      obtain ⟨h1, h2⟩ := hok
      simp [h1, h2]
    | wait n =>
      refine ⟨_, gd_tup (gds_cons (g_name (by walk_at "set")) (gds_cons (g_name (by walk_at "set")) gds_nil)), r_ifF (et_or2 (et_test (e_notInT (xs := ["walk", "cut", "wait"]) (e_var rfl) (e_as (e_tupS (d_cons e_str (d_cons e_str (d_cons e_str d_nil)))) rfl))) (et_and2 (et_test (e_neA (e_var rfl) e_str rfl)) (et_not (et_test (e_chain (x := .int 1) (y := .int n) (z := .int 1000) e_int (e_var rfl) (rq_I0 rfl) (fun _ => e_int) (fun _ => rq_I0 rfl)))))) ?_ (sr_next (nx_end rfl (by walk_at "le")))⟩
      obtain ⟨h1, h2⟩ := hok
      simp [h1, h2]
  refine sr_const [eLand K p, .d (eHs hs), .d (.list ((hs.map (·.nm)).map .str)), .u, .u, .u, .u, .u, .u, .u, .u] (wk_enum (d_cons (e_var rfl) d_nil)) (Le.refl _) (fun F1 i d hd => ?_) fun σ H S => hnx rfl σ H _ S
  obtain ⟨b, hb, rfl⟩ := enumD_at hd
  obtain ⟨q, hq, rfl⟩ := at_map hb
  have hm := List.mem_of_getElem? hq
  refine ⟨_, gd_tupL (gds_cons (g_name (by walk_at "set")) (gds_cons (gd_tup (gds_cons (g_name (by walk_at "set")) (gds_cons (g_name (by walk_at "set")) (gds_cons (g_name (by walk_at "set")) gds_nil)))) gds_nil)), ?_⟩
  refine sr_fold q.ds eDd nextPl (fun x => [eLand K p, .d (eHs hs), .d (.list ((hs.map (·.nm)).map .str)), .u, .u, .u, .d (.str x), .u, .u, .u, .u]) (fun _ _ => True) q.pl (wk_list (e_var rfl)) (by walk_at "le") trivial (fun F2 j a x gx ha _ hx => ⟨trivial, ?_⟩) (fun _ => nx_end rfl (by walk_at "le"))
  have hok := deeds_at (h.ds q hm) ha
  rw [← hx] at hok
  cases a with
  | walk y =>
    obtain ⟨h1, h2, ⟨m, h3, _⟩, _⟩ := hok
    exact ⟨_, gd_tup (gds_cons (g_name (by walk_at "set")) (gds_cons (g_name (by walk_at "set")) gds_nil)), r_ifT (et_test (e_eqA (e_var rfl) e_str rfl)) (by rfl) (sr_seq (r_ifF (et_B (e_isN (e_meth (e_var rfl) rfl (a_cons (e_var rfl) (a_cons (e_var rfl) a_nil)) (.mk _ _ _ m h1 h2 (Nat.lt_of_le_of_lt hp.al (by decide)) h3)))) (by rfl) (sr_next (nx_go (r_asg (e_var rfl) (by walk_at "set") (nx_end rfl (by walk_at "le")))))))⟩
  | cut n => exact ⟨_, gd_tup (gds_cons (g_name (by walk_at "set")) (gds_cons (g_name (by walk_at "set")) gds_nil)), r_ifF (et_test (e_eqA (e_var rfl) e_str rfl)) (by exact decide_eq_false neq_cw) (sr_next (nx_end rfl (by walk_at "le")))⟩
  | wait n => exact ⟨_, gd_tup (gds_cons (g_name (by walk_at "set")) (gds_cons (g_name (by walk_at "set")) gds_nil)), r_ifF (et_test (e_eqA (e_var rfl) e_str rfl)) (by exact decide_eq_false neq_tw) (sr_next (nx_end rfl (by walk_at "le")))⟩
end Ef
/-! The defs about weathers and fires. -/
namespace Ef
open PySem PySem.Spec PyProof.Rows L2
local macro_rules | `(tactic| walk_at "set") => `(tactic| (repeat' (first | exact SetAt.z | apply SetAt.s)))
local macro_rules | `(tactic| walk_at "le") => `(tactic| (repeat' (first | exact Le.nil | (with_reducible apply Le.eq) | (with_reducible apply Le.u) | (with_reducible apply Le.as) | rfl)))
local macro_rules | `(tactic| walk_at "ev1") => `(tactic| first
  | exact e_int | exact e_str | exact e_bl | exact e_non
  | exact e_var rfl | exact d_nil | exact a_nil | exact et_yes | exact o_none | exact k_own rfl
  | exact e_lenM rfl
  | ((with_reducible show lenK _ = true); rfl) | ((with_reducible show eqK _ _ = true); rfl) | ((with_reducible show smallL _ = true); rfl)
  | with_reducible apply d_cons | with_reducible apply a_cons | with_reducible apply o_some
  | with_reducible apply e_add | with_reducible apply e_sub | with_reducible apply e_lt | with_reducible apply e_le | with_reducible apply e_gt | with_reducible apply e_ge
  | with_reducible apply e_mul | with_reducible apply e_mod | with_reducible apply e_fdiv
  | with_reducible apply e_eqA | with_reducible apply e_neA
  | with_reducible apply e_isN | with_reducible apply e_notN | with_reducible apply e_notV | with_reducible apply et_test | with_reducible apply et_B | with_reducible apply et_not
  | with_reducible apply et_and2 | with_reducible apply et_or2 | with_reducible apply e_andV2 | with_reducible apply e_orV2
  | with_reducible apply e_tupS | with_reducible apply e_lstS | exact e_dnew
  | with_reducible apply e_lenA
  | (with_reducible apply e_cb (hr := cq_abs)) | (with_reducible apply e_cb (hr := cq_int1)) | (with_reducible apply e_cb (hr := cq_max2)) | (with_reducible apply e_cb (hr := cq_min2))
  | with_reducible apply e_call | with_reducible apply e_meth
  | with_reducible apply e_din | with_reducible apply e_dnotin | with_reducible apply e_dget | with_reducible apply e_dget1 | with_reducible apply e_dget2)
local macro_rules | `(tactic| walk_at "ev") => `(tactic| repeat' (walk_at "ev1"))
variable {P : Program} {w : World} {K : Frag} {mg : Str → Option Value} {base : Heap}
/-! ### Course -/
structure CS where
  pl : Str
  now : Int
  since : Int
  st : List (Str × Int × Option Int)
  cu : Ro
def eSt (q : Str × Int × Option Int) : PyData := .tuple [.str q.1, .int q.2.1, eO q.2.2]
def wMin (p : Pt) (x y : Str) : Int := (valG (walksP p x) y).getD 0
def cStep (p : Pt) (s : CS) : Dd → CS
  | .walk y => { pl := y, now := s.now + wMin p s.pl y, since := s.now + wMin p s.pl y, st := s.st ++ [(s.pl, s.since, some s.now)], cu := s.cu }
  | .cut n => { s with now := s.now + n, cu := s.cu ++ [(s.pl, s.now + n)] }
  | .wait n => { s with now := s.now + n }
def courseS (p : Pt) (h : Hn) : CS := h.ds.foldl (cStep p) ⟨h.pl, 0, 0, [], []⟩
def stM (p : Pt) (h : Hn) : List (Str × Int × Option Int) := (courseS p h).st ++ [((courseS p h).pl, (courseS p h).since, none)]
abbrev CouC (K : Frag) : Addr := He.ga K "Course"
def couF (p : Pt) (h : Hn) : List (Str × PyData) := [("stays", .list ((stM p h).map eSt)), ("cuts", .list ((courseS p h).cu.map eSI)), ("end", .int (courseS p h).now)]
/-- the heap but for a -/
def but (a : Addr) (H : Hp) : Hp := fun b => if b = a then none else H b
theorem but_same {a : Addr} {H : Hp} : Same (but a H) H := fun b o h => by
  unfold but at h
  split at h
  · cases h
  · exact h
/-- the promise of an __init__: a new object at a gets the fields fs -/
def spNew (C : Addr) (R : List SV → List (Str × PyData) → Prop) : Sp := fun vs H Q _ => ∃ F a dx args xs fs, vs = .ref a :: xs ∧ H a = some (.ins C dx []) ∧ F a = none ∧ Same F H ∧ AOkL F (but a H) args xs ∧ R args fs ∧
  ∀ F' H' dx' vfs, Gr F (but a H) F' H' → F' a = none → H' a = some (.ins C dx' vfs) → FSq F' vfs fs → Q .non H'
theorem AOk.but {F H : Hp} {s : SV} {v : V} {H' : Hp} (h : AOk F H s v) (hH : ∀ C dx fs d, H d = some (.ins C dx fs) → H' d = some (.ins C dx fs)) : AOk F H' s v := by
  refine ⟨h.1, ?_⟩
  have h2 := h.2
  cases s with
  | u => trivial
  | d x => exact h2
  | dic kvs => exact h2
  | obj C fs =>
    obtain ⟨a, dx, vfs, e1, e2, e3⟩ := h2
    exact ⟨a, dx, vfs, e1, hH _ _ _ _ e2, e3⟩
  | ml _ => cases h.1
  | md _ => cases h.1
  | lk _ => cases h.1
theorem AOkL.but {F H H' : Hp} (hH : ∀ C dx fs d, H d = some (.ins C dx fs) → H' d = some (.ins C dx fs)) : ∀ {rs : List SV} {vs : List V}, AOkL F H rs vs → AOkL F H' rs vs
  | _, _, .nil => .nil
  | _, _, .cons h t => .cons (h.but hH) (AOkL.but hH t)
/-- C(..) -/
theorem e_make {C : Addr} {Γ : List SV} {t : TA} {args : List SV} {R : List SV → List (Str × PyData) → Prop} {fs : List (Str × PyData)} (h : EvA t Γ args) (hR : R args fs) : Ev (tMake C (spNew C R) [] E0 t) Γ (.obj C fs) := fun H0 F σ H Q S q =>
  h H0 F σ H _ S fun vs F1 H1 g1 d1 x dx hx hdx hne => by
    have hF1 : ∀ b, H1 b = none → F1 b = none := fun b hb => g1.ex.free hb
    have old : ∀ b o, H1 b = some o → (upd (upd H1 dx (.own x)) x (.ins C dx [])) b = some o := fun b o hb => by
      rw [upd_ne (fun e => by rw [e, hx] at hb; cases hb), upd_ne (fun e => by rw [e, hdx] at hb; cases hb)]
      exact hb
    refine ⟨F1, x, dx, args, vs, fs, by rw [List.append_nil], upd_same, hF1 x hx, fun b o hb => old b o (g1.ex _ _ hb), AOkL.but (fun C' dx' fs' d hd => ?_) d1, hR, fun F' H' dx' vfs g hFx ha hf => ⟨rfl, q _ F' H' (g1.trans ⟨g.f, fun b o hb => g.h _ _ ?_, g.ex, fun b hb => ?_⟩) ⟨x, dx', vfs, rfl, ha, hf⟩⟩⟩
    · unfold Ef.but
      rw [if_neg (fun e => by rw [e, hx] at hd; cases hd)]
      exact old _ _ hd
    · unfold Ef.but
      rw [if_neg (fun e => by rw [e, hx] at hb; cases hb)]
      exact old _ _ hb
    · rcases g.new b hb with k | k
      · exact .inl k
      · refine .inr ?_
        unfold Ef.but at k
        by_cases e : b = x
        · rw [e]; exact hx
        · rw [if_neg e, upd_ne e] at k
          by_cases e2 : b = dx
          · rw [e2]; exact hdx
          · rw [upd_ne e2] at k
            exact k
/-! ### while Course's fields are written -/
structure CSat (C a dx : Addr) (F0 H0 : Hp) (Γ : List SV) (st cu : List PyData) (σ : L2.St) (H : Hp) : Prop where
  ex : ∃ F, Gr F0 H0 F H ∧ SatF H0 F Γ σ H ∧ F a = none ∧ ∃ b c vb vc, H a = some (.ins C dx [("stays", .ref b), ("cuts", .ref c)]) ∧ b ≠ c ∧ F b = none ∧ F c = none ∧ H0 b = none ∧ H0 c = none ∧ H b = some (.lst vb) ∧ H c = some (.lst vc) ∧ DqA F vb st ∧ DqA F vc cu
  at0 : σ[0]? = some (some (.ref a))
  ob : ∀ (i : Nat) (C : Addr) (fs : List (Str × PyData)) (d : Addr), Γ[i]? = some (.obj C fs) → σ[i]? = some (some (.ref d)) → H0 d ≠ none
  mu : ∀ s ∈ Γ, s.mu = false
theorem SatF.write0 {H0 F H : Hp} {Γ : List SV} {σ : L2.St} {z : Addr} {o : HO} (S : SatF H0 F Γ σ H) (hz : F z = none) (h0 : H0 z = none) (ob : ∀ (i : Nat) (C : Addr) (fs : List (Str × PyData)) (d : Addr), Γ[i]? = some (.obj C fs) → σ[i]? = some (some (.ref d)) → H0 d ≠ none) (mu : ∀ s ∈ Γ, s.mu = false) : SatF H0 F Γ σ (upd H z o) := by
  refine ⟨S.len, fun b q hb => ?_, fun b q hb => ?_, fun i s hs => ?_, S.sep⟩
  · rw [upd_ne (ne_of_none hb hz)]
    exact S.ex _ _ hb
  · rw [upd_ne (ne_of_none hb h0)]
    exact S.ex0 _ _ hb
  · have k := S.slot i s hs
    have hm := mu s (List.mem_of_getElem? hs)
    cases s with
    | u => trivial
    | d x => exact k
    | dic kvs => exact k
    | obj C fs =>
      obtain ⟨b, dx, vfs, e1, e2, e3⟩ := k
      exact ⟨b, dx, vfs, e1, by rw [upd_ne (fun e => ob i C fs b hs e1 (by rw [e]; exact h0))]; exact e2, e3⟩
    | ml _ => cases hm
    | md _ => cases hm
    | lk _ => cases hm
section
variable {C a dx : Addr} {F0 H0 : Hp} {Γ Γ2 : List SV} {st cu : List PyData} {D : Ends} {te : TE} {t u : TS} {x y : PyData} {n : Nat}
def SC (C a dx : Addr) (F0 H0 : Hp) (t : TS) (Γ : List SV) (st cu : List PyData) (D : Ends) : Prop := ∀ σ H, CSat C a dx F0 H0 Γ st cu σ H → t D σ H
def NC (C a dx : Addr) (F0 H0 : Hp) (Γ : List SV) (st cu : List PyData) (D : Ends) : Prop := ∀ σ H, CSat C a dx F0 H0 Γ st cu σ H → D.nx σ H
theorem sc_seq (h : SC C a dx F0 H0 t Γ st cu { D with nx := u D }) : SC C a dx F0 H0 (tSeq t u) Γ st cu D := h
theorem nc_go (h : SC C a dx F0 H0 u Γ st cu D) : NC C a dx F0 H0 Γ st cu { D with nx := u D } := h
theorem sc_next (h : NC C a dx F0 H0 Γ st cu D) : SC C a dx F0 H0 tNext Γ st cu D := h
/-- grown -/
theorem cs_grow {σ : L2.St} {F H F1 H1 : Hp} (hF : F a = none) {b c : Addr} {vb vc : List V} (hc : H a = some (.ins C dx [("stays", .ref b), ("cuts", .ref c)]) ∧ b ≠ c ∧ F b = none ∧ F c = none ∧ H0 b = none ∧ H0 c = none ∧ H b = some (.lst vb) ∧ H c = some (.lst vc) ∧ DqA F vb st ∧ DqA F vc cu) (g : Gr F H F1 H1) :
    F1 a = none ∧ (H1 a = some (.ins C dx [("stays", .ref b), ("cuts", .ref c)]) ∧ b ≠ c ∧ F1 b = none ∧ F1 c = none ∧ H0 b = none ∧ H0 c = none ∧ H1 b = some (.lst vb) ∧ H1 c = some (.lst vc) ∧ DqA F1 vb st ∧ DqA F1 vc cu) := by
  obtain ⟨h1, h2, h3, h4, h5, h6, h7, h8, h9, h10⟩ := hc
  exact ⟨g.no hF h1, g.h _ _ h1, h2, g.no h3 h7, g.no h4 h8, h5, h6, g.h _ _ h7, g.h _ _ h8, h9.up g.f, h10.up g.f⟩
theorem sc_asg (he : Ev te Γ (.d x)) (hs : SetAt Γ n (.d x) Γ2) (hn : 0 < n) (h : NC C a dx F0 H0 Γ2 st cu D) : SC C a dx F0 H0 (tAsg te (gName n)) Γ st cu D := fun σ H ⟨⟨F, g, S, hF, b, c, vb, vc, hc⟩, at0, ob, mu⟩ =>
  he H0 F σ H _ S fun v F1 H1 g1 d1 => by
    obtain ⟨k1, k2⟩ := cs_grow (σ := σ) hF hc g1
    have S' := S.set (s := .d x) g1 d1 hs.eq.2
    rw [hs.eq.1] at S'
    refine h _ _ ⟨⟨F1, g.trans g1, S', k1, b, c, vb, vc, k2⟩, by rw [List.getElem?_set_ne (by omega)]; exact at0, fun i C fs d hi hd => ?_, fun s hs' => ?_⟩
    · rw [← hs.eq.1] at hi
      by_cases e : i = n
      · subst e
        rw [List.getElem?_set_self hs.eq.2] at hi
        cases hi
      · rw [List.getElem?_set_ne (fun q => e q.symm)] at hi hd
        exact ob i C fs d hi hd
    · rw [← hs.eq.1] at hs'
      rcases List.mem_or_eq_of_mem_set hs' with k | k
      · exact mu s k
      · rw [k]; rfl
theorem sc_augI {f : Int → Int → Int} {k j : Int} (hn0 : Γ[n]? = some (.d (.int k))) (he : Ev te Γ (.d (.int j))) (hs : SetAt Γ n (.d (.int (f k j))) Γ2) (hn : 0 < n) (h : NC C a dx F0 H0 Γ2 st cu D) : SC C a dx F0 H0 (tAug n te (ipI f)) Γ st cu D := fun σ H ⟨⟨F, g, S, hF, b, c, vb, vc, hc⟩, at0, ob, mu⟩ => by
  obtain ⟨v, h1, h2⟩ := S.slot n _ hn0
  cases h2
  refine ⟨_, h1, he H0 F σ H _ S fun v F1 H1 g1 d1 => ?_⟩
  cases d1
  obtain ⟨k1, k2⟩ := cs_grow (σ := σ) hF hc g1
  have S' := S.set (s := .d (.int (f k j))) (v := .int (f k j)) g1 (.int _) hs.eq.2
  rw [hs.eq.1] at S'
  refine ⟨k, j, rfl, rfl, h _ _ ⟨⟨F1, g.trans g1, S', k1, b, c, vb, vc, k2⟩, by rw [List.getElem?_set_ne (by omega)]; exact at0, fun i C fs d hi hd => ?_, fun s hs' => ?_⟩⟩
  · rw [← hs.eq.1] at hi
    by_cases e : i = n
    · subst e
      rw [List.getElem?_set_self hs.eq.2] at hi
      cases hi
    · rw [List.getElem?_set_ne (fun q => e q.symm)] at hi hd
      exact ob i C fs d hi hd
  · rw [← hs.eq.1] at hs'
    rcases List.mem_or_eq_of_mem_set hs' with k | k
    · exact mu s k
    · rw [k]; rfl
theorem sc_ifT {c : TT} {b : Bool} (hc : EvT c Γ b) (hb : b = true) (h1 : SC C a dx F0 H0 t Γ st cu D) : SC C a dx F0 H0 (tIfS c t u) Γ st cu D := fun σ H ⟨⟨F, g, S, hF, b', c', vb, vc, hcc⟩, at0, ob, mu⟩ =>
  hc H0 F σ H _ S fun F1 H1 g1 => by
    obtain ⟨k1, k2⟩ := cs_grow (σ := σ) hF hcc g1
    subst hb
    exact h1 σ H1 ⟨⟨F1, g.trans g1, S.grow g1, k1, b', c', vb, vc, k2⟩, at0, ob, mu⟩
theorem sc_ifF {c : TT} {b : Bool} (hc : EvT c Γ b) (hb : b = false) (h1 : SC C a dx F0 H0 u Γ st cu D) : SC C a dx F0 H0 (tIfS c t u) Γ st cu D := fun σ H ⟨⟨F, g, S, hF, b', c', vb, vc, hcc⟩, at0, ob, mu⟩ =>
  hc H0 F σ H _ S fun F1 H1 g1 => by
    obtain ⟨k1, k2⟩ := cs_grow (σ := σ) hF hcc g1
    subst hb
    exact h1 σ H1 ⟨⟨F1, g.trans g1, S.grow g1, k1, b', c', vb, vc, k2⟩, at0, ob, mu⟩
end
end Ef
/-! The defs about weathers and fires. -/
namespace Ef
open PySem PySem.Spec PyProof.Rows L2
local macro_rules | `(tactic| walk_at "set") => `(tactic| (repeat' (first | exact SetAt.z | apply SetAt.s)))
local macro_rules | `(tactic| walk_at "le") => `(tactic| (repeat' (first | exact Le.nil | (with_reducible apply Le.eq) | (with_reducible apply Le.u) | (with_reducible apply Le.as) | rfl)))
local macro_rules | `(tactic| walk_at "ev1") => `(tactic| first
  | exact e_int | exact e_str | exact e_bl | exact e_non
  | exact e_var rfl | exact d_nil | exact a_nil | exact et_yes | exact o_none | exact k_own rfl
  | exact e_lenM rfl
  | ((with_reducible show lenK _ = true); rfl) | ((with_reducible show eqK _ _ = true); rfl) | ((with_reducible show smallL _ = true); rfl)
  | with_reducible apply d_cons | with_reducible apply a_cons | with_reducible apply o_some
  | with_reducible apply e_add | with_reducible apply e_sub | with_reducible apply e_lt | with_reducible apply e_le | with_reducible apply e_gt | with_reducible apply e_ge
  | with_reducible apply e_mul | with_reducible apply e_mod | with_reducible apply e_fdiv
  | with_reducible apply e_eqA | with_reducible apply e_neA
  | with_reducible apply e_isN | with_reducible apply e_notN | with_reducible apply e_notV | with_reducible apply et_test | with_reducible apply et_B | with_reducible apply et_not
  | with_reducible apply et_and2 | with_reducible apply et_or2 | with_reducible apply e_andV2 | with_reducible apply e_orV2
  | with_reducible apply e_tupS | with_reducible apply e_lstS | exact e_dnew
  | with_reducible apply e_lenA
  | (with_reducible apply e_cb (hr := cq_abs)) | (with_reducible apply e_cb (hr := cq_int1)) | (with_reducible apply e_cb (hr := cq_max2)) | (with_reducible apply e_cb (hr := cq_min2))
  | with_reducible apply e_call | with_reducible apply e_meth
  | with_reducible apply e_din | with_reducible apply e_dnotin | with_reducible apply e_dget | with_reducible apply e_dget1 | with_reducible apply e_dget2)
local macro_rules | `(tactic| walk_at "ev") => `(tactic| repeat' (walk_at "ev1"))
variable {P : Program} {w : World} {K : Frag} {mg : Str → Option Value} {base : Heap}
section
variable {K : Frag} {C a dx : Addr} {F0 H0 : Hp} {Γ Γ2 Γ' : List SV} {st cu : List PyData} {D : Ends} {te : TE} {t u : TS} {x y : PyData} {n : Nat}
theorem sc_appS (cl : Cls K C) (na : NoAttr K C "stays") (he : Ev te Γ (.d x)) (hl : st.length < sizeLine) (h : NC C a dx F0 H0 Γ (st ++ [x]) cu D) : SC C a dx F0 H0 (tDrop (tBM K "list" rAppend (tFld K (tVar 0) "stays") (tCons te tNil))) Γ st cu D := fun σ H ⟨⟨F, g, S, hF, b, c, vb, vc, hc⟩, at0, ob, mu⟩ => by
  refine ⟨_, at0, a, C, dx, _, .ref b, rfl, hc.1, cl, na, rfl, .inl ⟨rfl, vb, .inl (.inl hc.2.2.2.2.2.2.1)⟩, he H0 F σ H _ S fun v F1 H1 g1 d1 => ?_⟩
  obtain ⟨k1, h1, h2, h3, h4, h5, h6, h7, h8, h9, h10⟩ := cs_grow (σ := σ) hF hc g1
  have hab : a ≠ b := fun e => by rw [e, h7] at h1; cases h1
  refine ⟨b, vb, v, rfl, rfl, h7, by rw [h9.len]; exact hl, h σ _ ⟨⟨F1, (g.trans g1).write h3 h5, (S.grow g1).write0 h3 h5 ob mu, k1, b, c, vb ++ [v], vc, by rw [upd_ne hab]; exact h1, h2, h3, h4, h5, h6, upd_same, by rw [upd_ne (fun e => h2 e.symm)]; exact h8, h9.append (.cons d1 .nil), h10⟩, at0, ob, mu⟩⟩
theorem sc_appC (cl : Cls K C) (na : NoAttr K C "cuts") (he : Ev te Γ (.d x)) (hl : cu.length < sizeLine) (h : NC C a dx F0 H0 Γ st (cu ++ [x]) D) : SC C a dx F0 H0 (tDrop (tBM K "list" rAppend (tFld K (tVar 0) "cuts") (tCons te tNil))) Γ st cu D := fun σ H ⟨⟨F, g, S, hF, b, c, vb, vc, hc⟩, at0, ob, mu⟩ => by
  refine ⟨_, at0, a, C, dx, _, .ref c, rfl, hc.1, cl, na, rfl, .inl ⟨rfl, vc, .inl (.inl hc.2.2.2.2.2.2.2.1)⟩, he H0 F σ H _ S fun v F1 H1 g1 d1 => ?_⟩
  obtain ⟨k1, h1, h2, h3, h4, h5, h6, h7, h8, h9, h10⟩ := cs_grow (σ := σ) hF hc g1
  have hac : a ≠ c := fun e => by rw [e, h8] at h1; cases h1
  refine ⟨c, vc, v, rfl, rfl, h8, by rw [h10.len]; exact hl, h σ _ ⟨⟨F1, (g.trans g1).write h4 h6, (S.grow g1).write0 h4 h6 ob mu, k1, b, c, vb, vc ++ [v], by rw [upd_ne hac]; exact h1, h2, h3, h4, h5, h6, by rw [upd_ne h2]; exact h7, upd_same, h9, h10.append (.cons d1 .nil)⟩, at0, ob, mu⟩⟩
theorem CSat.weak {σ : L2.St} {H : Hp} (s : CSat C a dx F0 H0 Γ st cu σ H) (l : Le Γ Γ') : CSat C a dx F0 H0 Γ' st cu σ H := by
  obtain ⟨⟨F, g, S, r⟩, at0, ob, mu⟩ := s
  refine ⟨⟨F, g, S.weak l, r⟩, at0, fun i C fs d hi hd => ?_, fun s hs => ?_⟩
  · rcases l.get hi with k | k
    · cases k
    · exact ob i C fs d k hd
  · obtain ⟨i, hi⟩ := List.mem_iff_getElem?.mp hs
    rcases l.get hi with k | k
    · rw [k]; rfl
    · exact mu s (List.mem_of_getElem? k)
theorem CSat.up {F1 : Hp} (gx : Gx F0 H0 F1) {σ : L2.St} {H : Hp} (s : CSat C a dx F1 H0 Γ st cu σ H) : CSat C a dx F0 H0 Γ st cu σ H := by
  obtain ⟨⟨F, g, r⟩, at0, ob, mu⟩ := s
  exact ⟨⟨F, gx.gr g, r⟩, at0, ob, mu⟩
def NCP (C a dx : Addr) (F0 H0 : Hp) (Γe : List SV) (st cu : List PyData) : L2.St → Hp → Prop := fun σ H => ∃ Γ', Le Γ' Γe ∧ CSat C a dx F0 H0 Γ' st cu σ H
theorem nc_end {Γe : List SV} {st' cu' : List PyData} (h : D.nx = NCP C a dx F0 H0 Γe st' cu') (l : Le Γ Γe) (e1 : st = st') (e2 : cu = cu') : NC C a dx F0 H0 Γ st cu D := fun σ H s => by
  rw [h]
  subst e1 e2
  exact ⟨Γ, l, s⟩
theorem sc_fold {α S : Type} {wi : TI} {g : TG} {tb : TS} (xs : List α) (e : α → PyData) (step : S → α → S) (enc : S → List SV) (es ec : S → List PyData) (s0 : S) (vs : List Nat) (h0 : 0 ∉ vs)
    (hw : Wk Dq wi Γ (xs.map e)) (l0 : Le Γ (enc s0)) (e1 : st = es s0) (e2 : cu = ec s0)
    (ht : ∀ (F1 : Hp) (i : Nat) (x : α), xs[i]? = some x → ∃ Γ2, GV Dq g (e x) (enc ((xs.take i).foldl step s0)) Γ2 vs ∧ (∀ (j : Nat) (C : Addr) (fs : List (Str × PyData)), Γ2[j]? = some (.obj C fs) → j ∉ vs ∧ (enc ((xs.take i).foldl step s0))[j]? = some (.obj C fs)) ∧ (∀ s ∈ Γ2, s.mu = false) ∧
      SC C a dx F1 H0 tb Γ2 (es ((xs.take i).foldl step s0)) (ec ((xs.take i).foldl step s0)) { D with nx := NCP C a dx F1 H0 (enc (step ((xs.take i).foldl step s0) x)) (es (step ((xs.take i).foldl step s0) x)) (ec (step ((xs.take i).foldl step s0) x)), ct := NCP C a dx F1 H0 (enc (step ((xs.take i).foldl step s0) x)) (es (step ((xs.take i).foldl step s0) x)) (ec (step ((xs.take i).foldl step s0) x)), bk := D.nx })
    (hx : NC C a dx F0 H0 (enc (xs.foldl step s0)) (es (xs.foldl step s0)) (ec (xs.foldl step s0)) D) : SC C a dx F0 H0 (tFor wi g tb) Γ st cu D := fun σ H ⟨⟨F, g0, S0, hF, b, c, vb, vc, hc⟩, at0, ob, mu⟩ => hw H0 F σ H _ S0 fun J F1 H1 g1 W => by
  subst e1 e2
  obtain ⟨k1, k2⟩ := cs_grow (σ := σ) hF hc g1
  have x1 : Gx F0 H0 F1 := (g0.trans g1).gx
  have start : CSat C a dx F1 H0 Γ (es s0) (ec s0) σ H1 := ⟨⟨F1, ⟨Same.refl _, (g0.trans g1).h, g1.ex, fun _ h => .inl h⟩, S0.grow g1, k1, b, c, vb, vc, k2⟩, at0, ob, mu⟩
  refine ⟨fun i m σ H => i + m = xs.length ∧ CSat C a dx F1 H0 (enc ((xs.take i).foldl step s0)) (es ((xs.take i).foldl step s0)) (ec ((xs.take i).foldl step s0)) σ H, ⟨xs.length, by omega, start.weak l0⟩, ?_⟩
  rintro i m σ H ⟨him, hI⟩
  by_cases hi : i < xs.length
  · have hd : xs[i]? = some xs[i] := List.getElem?_eq_getElem hi
    have hI0 := hI
    obtain ⟨⟨F', g2, S2, hF2, b2, c2, vb2, vc2, hc2⟩, at2, ob2, mu2⟩ := hI
    have e3 : (xs.take (i + 1)).foldl step s0 = step ((xs.take i).foldl step s0) xs[i] := by
      rw [take_snoc hd, List.foldl_append]
      rfl
    refine .inr ⟨W.goes i F' H g2.f S2.ex (by rw [List.length_map]; exact hi), NCP C a dx F1 H0 (enc (step ((xs.take i).foldl step s0) xs[i])) (es (step ((xs.take i).foldl step s0) xs[i])) (ec (step ((xs.take i).foldl step s0) xs[i])), fun σ' H' ⟨Γ', l, hN⟩ => ⟨m - 1, by omega, by omega, by rw [e3]; exact hN.weak l⟩, fun x H' hy => ?_⟩
    obtain ⟨F2, g3, dq⟩ := W.yields i F' H x H' (e xs[i]) g2.f S2.ex (by rw [List.getElem?_map, hd]; rfl) hy
    obtain ⟨Γ2, hg, hob, hmu, hb⟩ := ht F1 i _ hd
    obtain ⟨m1, m2⟩ := cs_grow (σ := σ) hF2 hc2 g3
    refine hg H0 F2 σ H' x _ (S2.grow g3) dq fun σ' S3 w3 => hb σ' H' ⟨⟨F2, g2.trans g3, S3, m1, b2, c2, vb2, vc2, m2⟩, ?_, fun j C fs d hj hd' => ?_, hmu⟩
    · have : (wipe σ' vs)[0]? = (wipe σ vs)[0]? := by rw [w3]
      rw [wipe_out h0, wipe_out h0] at this
      rw [this]
      exact at2
    · obtain ⟨n1, n2⟩ := hob j C fs hj
      have : (wipe σ' vs)[j]? = (wipe σ vs)[j]? := by rw [w3]
      rw [wipe_out n1, wipe_out n1] at this
      rw [this] at hd'
      exact ob2 j C fs d n2 hd'
  · have e : i = xs.length := by omega
    subst e
    have hI0 := hI
    rw [List.take_length] at hI0
    obtain ⟨⟨F', g2, S2, _⟩, _⟩ := hI
    refine .inl ⟨?_, hx σ H (hI0.up x1)⟩
    have := W.stops F' H g2.f S2.ex
    rw [List.length_map] at this
    exact this
end
end Ef
/-! The defs about weathers and fires. -/
namespace Ef
open PySem PySem.Spec PyProof.Rows L2
local macro_rules | `(tactic| walk_at "set") => `(tactic| (repeat' (first | exact SetAt.z | apply SetAt.s)))
local macro_rules | `(tactic| walk_at "le") => `(tactic| (repeat' (first | exact Le.nil | (with_reducible apply Le.eq) | (with_reducible apply Le.u) | (with_reducible apply Le.as) | rfl)))
local macro_rules | `(tactic| walk_at "ev1") => `(tactic| first
  | exact e_int | exact e_str | exact e_bl | exact e_non
  | exact e_var rfl | exact d_nil | exact a_nil | exact et_yes | exact o_none | exact k_own rfl
  | exact e_lenM rfl
  | ((with_reducible show lenK _ = true); rfl) | ((with_reducible show eqK _ _ = true); rfl) | ((with_reducible show smallL _ = true); rfl)
  | with_reducible apply d_cons | with_reducible apply a_cons | with_reducible apply o_some
  | with_reducible apply e_add | with_reducible apply e_sub | with_reducible apply e_lt | with_reducible apply e_le | with_reducible apply e_gt | with_reducible apply e_ge
  | with_reducible apply e_mul | with_reducible apply e_mod | with_reducible apply e_fdiv
  | with_reducible apply e_eqA | with_reducible apply e_neA
  | with_reducible apply e_isN | with_reducible apply e_notN | with_reducible apply e_notV | with_reducible apply et_test | with_reducible apply et_B | with_reducible apply et_not
  | with_reducible apply et_and2 | with_reducible apply et_or2 | with_reducible apply e_andV2 | with_reducible apply e_orV2
  | with_reducible apply e_tupS | with_reducible apply e_lstS | exact e_dnew
  | with_reducible apply e_lenA
  | (with_reducible apply e_cb (hr := cq_abs)) | (with_reducible apply e_cb (hr := cq_int1)) | (with_reducible apply e_cb (hr := cq_max2)) | (with_reducible apply e_cb (hr := cq_min2))
  | with_reducible apply e_call | with_reducible apply e_meth
  | with_reducible apply e_din | with_reducible apply e_dnotin | with_reducible apply e_dget | with_reducible apply e_dget1 | with_reducible apply e_dget2)
local macro_rules | `(tactic| walk_at "ev") => `(tactic| repeat' (walk_at "ev1"))
variable {P : Program} {w : World} {K : Frag} {mg : Str → Option Value} {base : Heap}
theorem seq_go {t u : TS} {D : Ends} {σ : L2.St} {H : Hp} (h : t { D with nx := u D } σ H) : tSeq t u D σ H := h
theorem fld_go {K : Frag} {ta tv : TE} {f : Str} {D : Ends} {σ : L2.St} {H : Hp} (h : tv σ H fun y H1 => ta σ H1 fun x H2 => ∃ a C dx fs, x = .ref a ∧ H2 a = some (.ins C dx fs) ∧ Cls K C ∧ NoAttr K C f ∧ fs.length < 1000 ∧ D.nx σ (upd H2 a (.ins C dx (putF f y fs)))) : sFld K ta tv f D σ H := h
theorem sc_run {C a dx : Addr} {F0 H0 : Hp} {Γ : List SV} {st cu : List PyData} {t : TS} {D : Ends} {σ : L2.St} {H : Hp} (hcs : CSat C a dx F0 H0 Γ st cu σ H) (h : SC C a dx F0 H0 t Γ st cu D) : t D σ H := h σ H hcs
def RC (K : Frag) (args : List SV) (fs : List (Str × PyData)) : Prop := ∃ (p : Pt) (h : Hn), args = [eLand K p, .d (eHn h)] ∧ PtOk p ∧ DeedsOk p h.pl h.ds ∧ h.ds.length ≤ 30 ∧ fs = couF p h
theorem gr_self {F H : Hp} (a : Addr) (e : Same F H) (hF : F a = none) : Gr F (but a H) F (but a H) := Gr.refl fun b o hb => by
  unfold but
  rw [if_neg (fun z => by rw [z, hF] at hb; cases hb)]
  exact e _ _ hb
theorem cs_len (p : Pt) : ∀ (l : List Dd) (s : CS), (l.foldl (cStep p) s).st.length + (l.foldl (cStep p) s).cu.length ≤ s.st.length + s.cu.length + l.length
  | [], s => Nat.le_refl _
  | d :: l, s => by
    have := cs_len p l (cStep p s d)
    rw [List.foldl_cons, List.length_cons]
    have h2 : (cStep p s d).st.length + (cStep p s d).cu.length ≤ s.st.length + s.cu.length + 1 := by
      cases d <;> simp [cStep] <;> omega
    omega
theorem cs_pl (p : Pt) : ∀ (l : List Dd) (s : CS), (l.foldl (cStep p) s).pl = l.foldl nextPl s.pl
  | [], s => rfl
  | d :: l, s => by
    rw [List.foldl_cons, List.foldl_cons, cs_pl p l]
    cases d <;> rfl
def encC (K : Frag) (p : Pt) (h : Hn) (s : CS) : List SV := [.u, eLand K p, .d (eHn h), .u, .d (.str s.pl), .d (.list (h.ds.map eDd)), .d (.int s.now), .d (.int s.since), .u, .u]
theorem ok_Course_init (T : Tx K mg) : FnOk P w K mg base CX0 4 (He.fAd K ("Course", some "__init__")) T.fd_Course_init ["self", "land", "hand"] (spNew (CouC K) (RC K)) := by
  refine T.F_Course_init.ok sc_Course_init (fun vs H Q E ⟨F, a, dx, args, xs, fs, e1, _, _, _, h5, ⟨p, h, e6, _⟩, _⟩ => ?_) (fun cdv A outer s H vs Q E hr ⟨F, a, dx, args, xs, fs, e1, h2, h3, h4, h5, ⟨p, h, e6, hp, hd, hfd, e7⟩, q⟩ => ?_)
  · subst e1 e6
    have := paired_len h5
    rw [List.length_cons, ← this]
    rfl
  subst e1 e6 e7
  have hder : ∃ t, PSs (cxOf CX0 P w K mg base N_Course_init "Course.__init__" (defScope s_Course_init) (He.fAd K ("Course", some "__init__")) cdv A outer s H E0).nox (defBody s_Course_init) t ∧ t { nx := fun _ H' => Q .non H', rt := Q } (L2.start N_Course_init (.ref a :: xs)) H := by
    refine ⟨_, (pss_cons (ps_asg (pv 2) (pg_tup rfl (pgs_cons (pg_name (i := 3) sc_Course_init.nd rfl (Or.inl rfl)) (pgs_cons (pg_name (i := 4) sc_Course_init.nd rfl (Or.inl rfl)) (pgs_cons (pg_name (i := 5) sc_Course_init.nd rfl (Or.inl rfl)) pgs_nil)))))
    (pss_cons (ps_fld (pv 0) (pe_lst pa_nil) rfl)
    (pss_cons (ps_fld (pv 0) (pe_lst pa_nil) rfl)
    (pss_cons (ps_set (i := 6) sc_Course_init.nd rfl (Or.inl rfl) pe_int)
    (pss_cons (ps_set (i := 7) sc_Course_init.nd rfl (Or.inl rfl) pe_int)
    (pss_cons (ps_for PassesOwn.never rfl (pi_list (pv 5)) (pg_tup rfl (pgs_cons (pg_name (i := 8) sc_Course_init.nd rfl (Or.inl rfl)) (pgs_cons (pg_name (i := 9) sc_Course_init.nd rfl (Or.inl rfl)) pgs_nil)))
      (pss_one (ps_if (pt_cmpR op_eq (pv 8) pe_str (nomark _)) (pss_cons (ps_expr (pe_bm PySem.F.plainAttrs_list PySem.F.slot_list_append PySem.F.type_list_append mt_append (pe_fld (pv 0) rfl) (pa_cons (pe_tupN (pa_cons (pv 4) (pa_cons (pv 7) (pa_cons (pv 6) pa_nil)))) pa_nil)))
    (pss_cons (ps_aug (i := 6) sc_Course_init.nd rfl (Or.inl rfl) (pe_meth (pv 1) T.cLand T.me_minutes_between (ok_Land_minutes_between T) (hr.mono (by decide)) (b_Land_minutes_between T) .nil pass0 (pa_cons (pv 4) (pa_cons (pv 9) pa_nil))) ip_add)
    (pss_cons (ps_set (i := 4) sc_Course_init.nd rfl (Or.inl rfl) (pv 9))
    (pss_one (ps_set (i := 7) sc_Course_init.nd rfl (Or.inl rfl) (pv 6)))))) (pss_cons (ps_aug (i := 6) sc_Course_init.nd rfl (Or.inl rfl) (pv 9) ip_add)
    (pss_one (ps_if (pt_cmpR op_eq (pv 8) pe_str (nomark _)) (pss_one (ps_expr (pe_bm PySem.F.plainAttrs_list PySem.F.slot_list_append PySem.F.type_list_append mt_append (pe_fld (pv 0) rfl) (pa_cons (pe_tupN (pa_cons (pv 4) (pa_cons (pv 6) pa_nil))) pa_nil)))) pss_nil))))))
    (pss_cons (ps_expr (pe_bm PySem.F.plainAttrs_list PySem.F.slot_list_append PySem.F.type_list_append mt_append (pe_fld (pv 0) rfl) (pa_cons (pe_tupN (pa_cons (pv 4) (pa_cons (pv 7) (pa_cons pe_non pa_nil)))) pa_nil)))
    (pss_one (ps_fld (pv 0) (pv 6) rfl))))))))), ?_⟩
    have gs := gr_self a h4 h3
    have a1 : AOkL F (but a H) [.u, eLand K p, .d (eHn h)] (.ref a :: xs) := .cons ⟨rfl, trivial⟩ h5
    obtain ⟨Fs, gF, Sx⟩ := sat_start (N := N_Course_init) gs.ex a1 (show 3 ≤ 10 by decide)
    have Sx : SatF (but a H) Fs [.u, eLand K p, .d (eHn h), .u, .u, .u, .u, .u, .u, .u] (L2.start N_Course_init (.ref a :: xs)) (but a H) := Sx
    have at0 : (L2.start N_Course_init (.ref a :: xs))[0]? = some (some (.ref a)) := rfl
    have ha0 : (but a H) a = none := by unfold but; rw [if_pos rfl]
    have hFa : Fs a = none := by
      cases hc : Fs a with
      | none => rfl
      | some o =>
        have := Sx.ex _ _ hc
        rw [ha0] at this
        cases this
    have ob0 : ∀ (i : Nat) (C : Addr) (fs : List (Str × PyData)) (d : Addr), [SV.u, eLand K p, .d (eHn h), .u, .u, .u, .u, .u, .u, .u][i]? = some (.obj C fs) → (L2.start N_Course_init (.ref a :: xs))[i]? = some (some (.ref d)) → (but a H) d ≠ none := fun i C fs d hi hdd => by
      obtain ⟨b, dx', vfs, k1, k2, _⟩ := Sx.slot i _ hi
      rw [hdd] at k1
      cases k1
      rw [k2]
      intro z
      cases z
    generalize L2.start N_Course_init (.ref a :: xs) = σ0 at *
    have S0 : SatF (but a H) Fs [.u, eLand K p, .d (eHn h), .u, .u, .u, .u, .u, .u, .u] σ0 H := Sx.grow ⟨Same.refl _, but_same, Sx.ex.trans but_same, fun _ hb => .inl hb⟩
    have G0 : Gr F (but a H) Fs H := ⟨gF.f, but_same, Sx.ex.trans but_same, gF.new⟩
    clear gs a1 h5 gF Sx
    -- _, place, deeds = hand
    obtain ⟨v2, e2, d2⟩ := S0.slot 2 _ rfl
    refine ⟨v2, e2, ?_⟩
    refine (gv_tup (K := K) (vs := [3, 4, 5]) (gvs_cons (v_name (by walk_at "set")) (gvs_cons (v_name (by walk_at "set")) (gvs_cons (v_name (by walk_at "set")) gvs_nil))) : GV Dq _ (eHn h) _ [.u, eLand K p, .d (eHn h), .d (.str h.nm), .d (.str h.pl), .d (.list (h.ds.map eDd)), .u, .u, .u, .u] _) (but a H) Fs σ0 H v2 _ S0 d2 fun σ1 S1 w1 => ?_
    have at1 : σ1[0]? = some (some (.ref a)) := by
      have : (wipe σ1 [3, 4, 5])[0]? = (wipe σ0 [3, 4, 5])[0]? := by rw [w1]
      rw [wipe_out (by decide), wipe_out (by decide)] at this
      rw [this]
      exact at0
    have ob1 : ∀ (i : Nat) (C : Addr) (fs : List (Str × PyData)) (d : Addr), [SV.u, eLand K p, .d (eHn h), .d (.str h.nm), .d (.str h.pl), .d (.list (h.ds.map eDd)), .u, .u, .u, .u][i]? = some (.obj C fs) → σ1[i]? = some (some (.ref d)) → (but a H) d ≠ none := fun i C fs d hi hdd => by
      have hi1 : i = 1 := by
        match i, hi with
        | 0, hi => cases hi
        | 1, hi => rfl
        | 2, hi => cases hi
        | 3, hi => cases hi
        | 4, hi => cases hi
        | 5, hi => cases hi
        | 6, hi => cases hi
        | 7, hi => cases hi
        | 8, hi => cases hi
        | 9, hi => cases hi
        | n + 10, hi => simp at hi
      subst hi1
      have : (wipe σ1 [3, 4, 5])[1]? = (wipe σ0 [3, 4, 5])[1]? := by rw [w1]
      rw [wipe_out (by decide), wipe_out (by decide)] at this
      rw [this] at hdd
      exact ob0 1 C fs d hi hdd
    have mu1 : ∀ s ∈ [SV.u, eLand K p, .d (eHn h), .d (.str h.nm), .d (.str h.pl), .d (.list (h.ds.map eDd)), .u, .u, .u, .u], s.mu = false := by
      intro s hs
      simp only [List.mem_cons, List.not_mem_nil, or_false] at hs
      rcases hs with rfl | rfl | rfl | rfl | rfl | rfl | rfl | rfl | rfl | rfl <;> rfl
    clear w1 ob0 at0 S0 e2 d2
    -- self.stays = []
    dsimp only
    refine seq_go (fld_go ?_)
    refine e_lstS (ds := []) d_nil rfl (but a H) Fs σ1 H _ S1 fun vb F2 H2 g2 ⟨b, vs2, eb, b1, b2, b3, b4⟩ => ?_
    subst eb
    cases b4
    have hF2 : F2 a = none := g2.no hFa h2
    have hH2 : H2 a = some (.ins (CouC K) dx []) := g2.h _ _ h2
    have b0 : (but a H) b = none := by
      unfold but
      split
      · rfl
      · exact b1
    refine ⟨_, at1, a, CouC K, dx, [], rfl, hH2, T.cCourse, T.n_stays, by decide, ?_⟩
    have G2 : Gr F (but a H) F2 (upd H2 a (.ins (CouC K) dx [("stays", .ref b)])) := (G0.trans g2).write hF2 ha0
    have S2 := (S1.grow g2).write0 (o := .ins (CouC K) dx [("stays", .ref b)]) hF2 ha0 ob1 mu1
    -- self.cuts = []
    dsimp only
    refine seq_go (fld_go ?_)
    refine e_lstS (ds := []) d_nil rfl (but a H) F2 σ1 _ _ S2 fun vc F3 H3 g3 ⟨c, vs3, ec, c1, c2, c3, c4⟩ => ?_
    subst ec
    cases c4
    have c1 : (upd H2 a (.ins (CouC K) dx [("stays", V.ref b)])) c = none := c1
    have hab : b ≠ a := fun e => by rw [e, h2] at b1; cases b1
    have hca : c ≠ a := fun e => by rw [e, upd_same] at c1; cases c1
    have hbc : b ≠ c := fun e => by
      rw [← e, upd_ne hab, b3] at c1
      cases c1
    have hF3 : F3 a = none := g3.no hF2 upd_same
    have hH3 : H3 a = some (.ins (CouC K) dx [("stays", .ref b)]) := g3.h _ _ upd_same
    have hb3 : H3 b = some (.lst []) := g3.h _ _ (by rw [upd_ne hab]; exact b3)
    have hFb3 : F3 b = none := g3.no b2 (by rw [upd_ne hab]; exact b3)
    have c0 : (but a H) c = none := by
      cases hc : (but a H) c with
      | none => rfl
      | some o =>
        have := G2.h _ _ hc
        rw [c1] at this
        cases this
    refine ⟨_, at1, a, CouC K, dx, _, rfl, hH3, T.cCourse, T.n_cuts, by show 1 < 1000; decide, ?_⟩
    have G3 : Gr F (but a H) F3 (upd H3 a (.ins (CouC K) dx [("stays", .ref b), ("cuts", .ref c)])) := (G2.trans g3).write hF3 ha0
    have S3 := (S2.grow g3).write0 (o := .ins (CouC K) dx [("stays", .ref b), ("cuts", .ref c)]) hF3 ha0 ob1 mu1
    have hcs : CSat (CouC K) a dx F (but a H) [SV.u, eLand K p, .d (eHn h), .d (.str h.nm), .d (.str h.pl), .d (.list (h.ds.map eDd)), .u, .u, .u, .u] [] [] σ1 (upd H3 a (.ins (CouC K) dx [("stays", .ref b), ("cuts", .ref c)])) :=
      ⟨⟨F3, G3, S3, hF3, b, c, [], [], upd_same, hbc, hFb3, c2, b0, c0, by rw [upd_ne hab]; exact hb3, by rw [upd_ne hca]; exact c3, .nil, .nil⟩, at1, ob1, mu1⟩
    dsimp only
    refine sc_run hcs ?_
    clear hcs S3 G3 hFb3 hb3 hH3 hF3 c0 c1 c2 c3 hbc hca hab g3 S2 G2 b0 hH2 hF2 b1 b2 b3 g2 mu1 ob1 at1 S1 hFa ha0 G0 h4
    refine sc_seq (sc_asg e_int (by walk_at "set") (by decide) (nc_go (sc_seq (sc_asg e_int (by walk_at "set") (by decide) (nc_go (sc_seq ?_))))))
    have hlen : ∀ i, ((h.ds.take i).foldl (cStep p) ⟨h.pl, 0, 0, [], []⟩).st.length + ((h.ds.take i).foldl (cStep p) ⟨h.pl, 0, 0, [], []⟩).cu.length ≤ 30 := fun i => by
      have := cs_len p (h.ds.take i) ⟨h.pl, 0, 0, [], []⟩
      rw [List.length_take] at this
      have h0 : (([] : List (Str × Int × Option Int)).length + ([] : Ro).length) = 0 := rfl
      dsimp only at this
      omega
    refine sc_fold h.ds eDd (cStep p) (encC K p h) (fun s => s.st.map eSt) (fun s => s.cu.map eSI) ⟨h.pl, 0, 0, [], []⟩ [8, 9] (by decide) (wk_list (e_var rfl)) (by unfold encC; walk_at "le") rfl rfl (fun F1 i dd hdd => ?_) ?_
    · have hok := deeds_at hd hdd
      have hpl := cs_pl p (h.ds.take i) ⟨h.pl, 0, 0, [], []⟩
      have hl := hlen i
      have hcall : courseS p h = h.ds.foldl (cStep p) ⟨h.pl, 0, 0, [], []⟩ := rfl
      rw [← hpl] at hok
      generalize (h.ds.take i).foldl (cStep p) ⟨h.pl, 0, 0, [], []⟩ = cs at hok hl ⊢
      have hls : (cs.st.map eSt).length < sizeLine := by rw [List.length_map, sizeLine_eq]; omega
      have hlc : (cs.cu.map eSI).length < sizeLine := by rw [List.length_map, sizeLine_eq]; omega
      have hob : ∀ (x y : PyData) (j : Nat) (C : Addr) (fs : List (Str × PyData)), [SV.u, eLand K p, .d (eHn h), .u, .d (.str cs.pl), .d (.list (h.ds.map eDd)), .d (.int cs.now), .d (.int cs.since), .d x, .d y][j]? = some (.obj C fs) → j ∉ [8, 9] ∧ (encC K p h cs)[j]? = some (.obj C fs) := fun x y j C fs hj => by
        match j, hj with
        | 0, hj => cases hj
        | 1, hj => exact ⟨by decide, hj⟩
        | 2, hj => cases hj
        | 3, hj => cases hj
        | 4, hj => cases hj
        | 5, hj => cases hj
        | 6, hj => cases hj
        | 7, hj => cases hj
        | 8, hj => cases hj
        | 9, hj => cases hj
        | n + 10, hj => simp at hj
      have hmu : ∀ x y : PyData, ∀ s ∈ [SV.u, eLand K p, .d (eHn h), .u, .d (.str cs.pl), .d (.list (h.ds.map eDd)), .d (.int cs.now), .d (.int cs.since), .d x, .d y], s.mu = false := by
        intro x y s hs
        simp only [List.mem_cons, List.not_mem_nil, or_false] at hs
        rcases hs with rfl | rfl | rfl | rfl | rfl | rfl | rfl | rfl | rfl | rfl <;> rfl
      cases dd with
      | walk y =>
        obtain ⟨k1, k2, ⟨m, k3, _⟩, _⟩ := hok
        have hwm : wMin p cs.pl y = m := by unfold wMin; rw [k3]; rfl
        subst hwm
        refine ⟨[SV.u, eLand K p, .d (eHn h), .u, .d (.str cs.pl), .d (.list (h.ds.map eDd)), .d (.int cs.now), .d (.int cs.since), .d (.str "walk"), .d (.str y)], gv_tup (gvs_cons (v_name (by unfold encC; walk_at "set")) (gvs_cons (v_name (by walk_at "set")) gvs_nil)), hob _ _, hmu _ _, ?_⟩
        refine sc_ifT (et_test (e_eqA (e_var rfl) e_str rfl)) (by rfl) (sc_seq (sc_appS T.cCourse T.n_stays (x := eSt (cs.pl, cs.since, some cs.now)) (e_tupS (d_cons (e_var rfl) (d_cons (e_var rfl) (d_cons (e_var rfl) d_nil)))) hls (nc_go (sc_seq (sc_augI rfl (e_meth (e_var rfl) rfl (a_cons (e_var rfl) (a_cons (e_var rfl) a_nil)) (.mk _ _ _ _ k1 k2 (Nat.lt_of_le_of_lt hp.al (by decide)) k3)) (by walk_at "set") (by decide) (nc_go (sc_seq (sc_asg (e_var rfl) (by walk_at "set") (by decide) (nc_go (sc_asg (e_var rfl) (by walk_at "set") (by decide) (nc_end rfl ?_ ?_ rfl)))))))))))
        · unfold encC cStep
          exact .eq (.eq (.eq (.eq (.eq (.eq (.eq (.eq (.u (.u .nil)))))))))
        · unfold cStep
          rw [List.map_append]
          rfl
      | cut n =>
        refine ⟨[SV.u, eLand K p, .d (eHn h), .u, .d (.str cs.pl), .d (.list (h.ds.map eDd)), .d (.int cs.now), .d (.int cs.since), .d (.str "cut"), .d (.int n)], gv_tup (gvs_cons (v_name (by unfold encC; walk_at "set")) (gvs_cons (v_name (by walk_at "set")) gvs_nil)), hob _ _, hmu _ _, ?_⟩
        refine sc_ifF (et_test (e_eqA (e_var rfl) e_str rfl)) (by exact decide_eq_false neq_cw) (sc_seq (sc_augI rfl (e_var rfl) (by walk_at "set") (by decide) (nc_go (sc_ifT (et_test (e_eqA (e_var rfl) e_str rfl)) (by rfl) (sc_appC T.cCourse T.n_cuts (x := eSI (cs.pl, cs.now + n)) (e_tupS (d_cons (e_var rfl) (d_cons (e_var rfl) d_nil))) hlc (nc_end rfl ?_ rfl ?_))))))
        · unfold encC cStep
          exact .eq (.eq (.eq (.eq (.eq (.eq (.eq (.eq (.u (.u .nil)))))))))
        · unfold cStep
          rw [List.map_append]
          rfl
      | wait n =>
        refine ⟨[SV.u, eLand K p, .d (eHn h), .u, .d (.str cs.pl), .d (.list (h.ds.map eDd)), .d (.int cs.now), .d (.int cs.since), .d (.str "wait"), .d (.int n)], gv_tup (gvs_cons (v_name (by unfold encC; walk_at "set")) (gvs_cons (v_name (by walk_at "set")) gvs_nil)), hob _ _, hmu _ _, ?_⟩
        refine sc_ifF (et_test (e_eqA (e_var rfl) e_str rfl)) (by exact decide_eq_false neq_tw) (sc_seq (sc_augI rfl (e_var rfl) (by walk_at "set") (by decide) (nc_go (sc_ifF (et_test (e_eqA (e_var rfl) e_str rfl)) (by exact decide_eq_false neq_tc) (sc_next (nc_end rfl ?_ rfl rfl))))))
        unfold encC cStep
        exact .eq (.eq (.eq (.eq (.eq (.eq (.eq (.eq (.u (.u .nil)))))))))
    have hl := hlen h.ds.length
    rw [List.take_length] at hl
    refine nc_go (sc_seq (sc_appS T.cCourse T.n_stays (x := eSt ((courseS p h).pl, (courseS p h).since, none)) (e_tupS (d_cons (e_var rfl) (d_cons (e_var rfl) (d_cons e_non d_nil)))) (by rw [List.length_map, sizeLine_eq]; omega) (nc_go ?_)))
    -- self.end = now
    rintro σ H' ⟨⟨F', g, S, hF, b, c, vb, vc, k1, k2, k3, k4, k5, k6, k7, k8, k9, k10⟩, at0, ob, mu⟩
    obtain ⟨vn, n1, n2⟩ := S.slot 6 _ rfl
    cases n2
    refine ⟨_, n1, _, at0, a, CouC K, dx, _, rfl, k1, T.cCourse, T.n_end, by show 2 < 1000; decide, ?_⟩
    have hab : a ≠ b := fun e => by rw [e, k7] at k1; cases k1
    have hac : a ≠ c := fun e => by rw [e, k8] at k1; cases k1
    have hcb : c ≠ b := fun e => k2 e.symm
    have f1 : Same F' (upd F' b (.lst vb)) := same_upd k3
    have f2 : Same (upd F' b (.lst vb)) (upd (upd F' b (.lst vb)) c (.lst vc)) := same_upd (by rw [upd_ne hcb]; exact k4)
    refine q (upd (upd F' b (.lst vb)) c (.lst vc)) _ dx _ ⟨(g.f.trans f1).trans f2, fun d o hd' => ?_, fun d o hd' => ?_, fun d hd' => ?_⟩ ?_ upd_same ?_
    · have : d ≠ a := fun e => by
        rw [e] at hd'
        unfold but at hd'
        rw [if_pos rfl] at hd'
        cases hd'
      rw [upd_ne this]
      exact g.h _ _ hd'
    · by_cases e1 : d = c
      · subst e1
        rw [upd_same] at hd'
        rw [upd_ne (fun e => hac e.symm), k8]
        exact hd'
      · rw [upd_ne e1] at hd'
        by_cases e2 : d = b
        · subst e2
          rw [upd_same] at hd'
          rw [upd_ne (fun e => hab e.symm), k7]
          exact hd'
        · rw [upd_ne e2] at hd'
          have : d ≠ a := fun e => by rw [e, hF] at hd'; cases hd'
          rw [upd_ne this]
          exact S.ex _ _ hd'
    · by_cases e1 : d = c
      · subst e1
        exact .inr k6
      · rw [upd_ne e1] at hd'
        by_cases e2 : d = b
        · subst e2
          exact .inr k5
        · rw [upd_ne e2] at hd'
          exact g.new d hd'
    · rw [upd_ne hac, upd_ne hab]
      exact hF
    · refine .cons ⟨rfl, ?_⟩ (.cons ⟨rfl, ?_⟩ (.cons ⟨rfl, .int _⟩ .nil))
      · refine .lst (a := b) (xs := vb) ?_ ?_
        · rw [upd_ne (fun e => hcb e.symm), upd_same]
        · have := (k9.up f1).up f2
          unfold stM
          rw [List.map_append]
          exact this
      · exact .lst upd_same ((k10.up f1).up f2)
  obtain ⟨t, h6, h7⟩ := hder
  exact ⟨t, PSs.nox h6, h7⟩
end Ef
/-! The defs about weathers and fires. -/
namespace Ef
open PySem PySem.Spec PyProof.Rows L2
local macro_rules | `(tactic| walk_at "set") => `(tactic| (repeat' (first | exact SetAt.z | apply SetAt.s)))
local macro_rules | `(tactic| walk_at "le") => `(tactic| (repeat' (first | exact Le.nil | (with_reducible apply Le.eq) | (with_reducible apply Le.u) | (with_reducible apply Le.as) | rfl)))
local macro_rules | `(tactic| walk_at "ev1") => `(tactic| first
  | exact e_int | exact e_str | exact e_bl | exact e_non
  | exact e_var rfl | exact d_nil | exact a_nil | exact et_yes | exact o_none | exact k_own rfl
  | exact e_lenM rfl
  | ((with_reducible show lenK _ = true); rfl) | ((with_reducible show eqK _ _ = true); rfl) | ((with_reducible show smallL _ = true); rfl)
  | with_reducible apply d_cons | with_reducible apply a_cons | with_reducible apply o_some
  | with_reducible apply e_add | with_reducible apply e_sub | with_reducible apply e_lt | with_reducible apply e_le | with_reducible apply e_gt | with_reducible apply e_ge
  | with_reducible apply e_mul | with_reducible apply e_mod | with_reducible apply e_fdiv
  | with_reducible apply e_eqA | with_reducible apply e_neA
  | with_reducible apply e_isN | with_reducible apply e_notN | with_reducible apply e_notV | with_reducible apply et_test | with_reducible apply et_B | with_reducible apply et_not
  | with_reducible apply et_and2 | with_reducible apply et_or2 | with_reducible apply e_andV2 | with_reducible apply e_orV2
  | with_reducible apply e_tupS | with_reducible apply e_lstS | exact e_dnew
  | with_reducible apply e_lenA
  | (with_reducible apply e_cb (hr := cq_abs)) | (with_reducible apply e_cb (hr := cq_int1)) | (with_reducible apply e_cb (hr := cq_max2)) | (with_reducible apply e_cb (hr := cq_min2))
  | with_reducible apply e_call | with_reducible apply e_meth
  | with_reducible apply e_din | with_reducible apply e_dnotin | with_reducible apply e_dget | with_reducible apply e_dget1 | with_reducible apply e_dget2)
local macro_rules | `(tactic| walk_at "ev") => `(tactic| repeat' (walk_at "ev1"))
variable {P : Program} {w : World} {K : Frag} {mg : Str → Option Value} {base : Heap}
/-! ### stays, breaks, dangers -/
abbrev R4 := Str × Str × Int × Option Int
def eR4 (q : R4) : PyData := .tuple [.str q.1, .str q.2.1, .int q.2.2.1, eO q.2.2.2]
def staysM (p : Pt) (hs : List Hn) : List R4 := (hs.map fun h => (stM p h).map fun q => (h.nm, q)).flatten
def cutsM (p : Pt) (hs : List Hn) : Ro := (hs.map fun h => (courseS p h).cu).flatten
def minsAt (cs : Ro) (x : Str) : List Int := (cs.filter fun q => decide (q.1 = x)).map (·.2)
def breaksM (p : Pt) (hs : List Hn) : Ro := p.places.filterMap fun x => (minO (minsAt (cutsM p hs) x)).map fun m => (x, m)
theorem st_len (p : Pt) (h : Hn) (hl : h.ds.length ≤ 30) : (stM p h).length ≤ 31 ∧ (courseS p h).cu.length ≤ 30 := by
  have := cs_len p h.ds ⟨h.pl, 0, 0, [], []⟩
  have h0 : (([] : List (Str × Int × Option Int)).length + ([] : Ro).length) = 0 := rfl
  dsimp only at this
  unfold stM courseS
  rw [List.length_append, List.length_singleton]
  omega
inductive R_stays (K : Frag) : List SV → SV → Prop
  | mk (p : Pt) (hs : List Hn) (hp : PtOk p) (h : HandsOk p hs) : R_stays K [eLand K p, .d (eHs hs)] (.ml ((staysM p hs).map eR4))
theorem ok_stays (T : Tx K mg) : FnOk P w K mg base CX0 6 (He.fAd K ("stays", none)) T.fd_stays ["land", "hands"] (spQ (R_stays K)) := by
  refine okQ T.F_stays sc_stays (fun _ _ h => by cases h; rfl) (by decide) ?_
  rintro X ⟨cdv, A, outer, s, H, rfl, hr⟩ args r hR
  refine ⟨_, (pss_cons (ps_expr (pe_call (ok_check_hands T) (hr.mono (by decide)) (by rfl) T.g_check_hands T.F_check_hands.kp (b_check_hands T) .nil pass0 (pa_cons (pv 0) (pa_cons (pv 1) pa_nil))))
    (pss_cons (ps_set (i := 2) sc_stays.nd rfl (Or.inl rfl) (pe_lst pa_nil))
    (pss_cons (ps_for PassesOwn.never rfl (pi_list (pv 1)) (pg_name (i := 3) sc_stays.nd rfl (Or.inr rfl))
      (pss_one (ps_aug (i := 2) sc_stays.nd rfl (Or.inl rfl) (pe_lc (own := [("place", 4), ("since", 5), ("until", 6)]) (g := (gTup K 3 (gCons (gName 4) (gCons (gName 5) (gCons (gName 6) gNil))))) (tt := tYes) (te := (tTupN (tCons (tOp (rIxT K) (tVar 3) (tC (.int 0))) (tCons (tVar 4) (tCons (tVar 5) (tCons (tVar 6) tNil)))))) rfl sc_stays.nd (pi_list (pe_fld (pe_make T.mkCourse (ok_Course_init T) (hr.mono (by decide)) (by rfl) T.g_Course (b_Course_init T) .nil pass0 (pa_cons (pv 0) (pa_cons (pv 3) pa_nil))) rfl)) (blkOk_by (by kernel_rfl)) (fun _ _ _ _ _ => (pg_tup rfl (pgs_cons (pg_name (i := 4) sc_stays.nd rfl (Or.inl rfl)) (pgs_cons (pg_name (i := 5) sc_stays.nd rfl (Or.inl rfl)) (pgs_cons (pg_name (i := 6) sc_stays.nd rfl (Or.inl rfl)) pgs_nil))))) (fun _ _ _ _ _ => pts_nil) (fun _ _ _ _ _ => (pe_tupN (pa_cons (pe_ix ix_tup (pv 3) pe_int (fun _ _ => rfl)) (pa_cons (pv 4) (pa_cons (pv 5) (pa_cons (pv 6) pa_nil))))))) iop_ext)))
    (pss_one (ps_ret (pv 2)))))), ?_⟩
  intro F0 H0 D hrt hnx
  cases hR with
  | mk p hs hp h =>
  show SR F0 H0 _ [eLand K p, .d (eHs hs), .u, .u, .u, .u, .u] D
  refine sr_seq (sr_drop (e_call (a_cons (e_var rfl) (a_cons (e_var rfl) a_nil)) (.mk p hs hp h)) (nx_go (sr_seq (r_asg (r := .ml []) (by walk_at "ev") (by walk_at "set") (nx_go (sr_seq ?_))))))
  refine sr_fold hs eHn (fun (acc : List R4) h => acc ++ (stM p h).map fun q => (h.nm, q)) (fun acc => [eLand K p, .d (eHs hs), .ml (acc.map eR4), .u, .u, .u, .u]) (fun i acc => acc.length ≤ 31 * i) [] (wk_list (e_var rfl)) (by walk_at "le") (Nat.le_refl _) (fun F1 i q acc gx hq ha _ => ⟨?_, _, g_name (d := eHn q) (by walk_at "set"), ?_⟩) (fun _ => nx_go (sr_retM ?_ hrt))
  · have hl := (st_len p q (h.fd q (List.mem_of_getElem? hq))).1
    rw [List.length_append, List.length_map]
    omega
  · have hm := List.mem_of_getElem? hq
    have hi := (List.getElem?_eq_some_iff.mp hq).1
    have hl := (st_len p q (h.fd q hm)).1
    have hfew := h.few
    refine r_ext (n := 2) (es := ((stM p q).map fun z => (q.nm, z)).map eR4) rfl (e_as (e_lcM (stM p q) eSt (fun z => eR4 (q.nm, z)) (wk_list (e_fld T.cCourse T.n_stays (e_make (a_cons (e_var rfl) (a_cons (e_var rfl) a_nil)) ⟨p, q, rfl, hp, h.ds q hm, h.fd q hm, rfl⟩) rfl)).c ?_ fun j z hz => ⟨_, gv_tup (gvs_cons (v_name (by walk_at "set")) (gvs_cons (v_name (by walk_at "set")) (gvs_cons (v_name (by walk_at "set")) gvs_nil))), e_tupS (d_cons (e_ixT (x := .str q.nm) (e_var rfl) e_int (by decide) rfl) (d_cons (e_var rfl) (d_cons (e_var rfl) (d_cons (e_var rfl) d_nil))))⟩) (by rw [List.map_map]; rfl)) ?_ (by walk_at "set") (nx_end rfl ?_)
    · rw [sizeLine_eq]
      omega
    · rw [List.length_map, List.length_map, List.length_map, sizeLine_eq]
      omega
    · rw [List.map_append]
      exact .eq (.eq (.eq (.u (.u (.u (.u .nil))))))
  · have key : ∀ (l : List Hn) (a : List R4), l.foldl (fun (acc : List R4) h => acc ++ (stM p h).map fun q => (h.nm, q)) a = a ++ (l.map fun h => (stM p h).map fun q => (h.nm, q)).flatten := by
      intro l
      induction l with
      | nil => intro a; simp
      | cons x l ih =>
        intro a
        rw [List.foldl_cons, ih, List.map_cons, List.flatten_cons, List.append_assoc]
    rw [key]
    rfl
theorem cuts_len (p : Pt) (hs : List Hn) (h : HandsOk p hs) : (cutsM p hs).length ≤ 150 := by
  have key : ∀ (l : List Hn), (∀ x ∈ l, x.ds.length ≤ 30) → ((l.map fun h => (courseS p h).cu).flatten).length ≤ 30 * l.length := by
    intro l
    induction l with
    | nil => intro _; exact Nat.le_refl _
    | cons x l ih =>
      intro hx
      have h1 := (st_len p x (hx x List.mem_cons_self)).2
      have h2 := ih fun y hy => hx y (List.mem_cons_of_mem _ hy)
      rw [List.map_cons, List.flatten_cons, List.length_append, List.length_cons]
      omega
  have := key hs h.fd
  have := h.few
  unfold cutsM
  omega
theorem cs_ok {p : Pt} : ∀ (l : List Dd) (s : CS), DeedsOk p s.pl l → s.pl ∈ p.places → 0 ≤ s.now → (∀ q ∈ s.cu, q.1 ∈ p.places ∧ 0 ≤ q.2) → ∀ q ∈ (l.foldl (cStep p) s).cu, q.1 ∈ p.places ∧ 0 ≤ q.2
  | [], s, _, _, _, h => h
  | .walk y :: l, s, hd, hp, hn, h => by
    obtain ⟨h1, h2, ⟨m, h3, h4⟩, h5⟩ := hd
    refine cs_ok l (cStep p s (.walk y)) h5 h2 ?_ h
    show 0 ≤ s.now + wMin p s.pl y
    unfold wMin
    rw [h3]
    show 0 ≤ s.now + m
    omega
  | .cut n :: l, s, hd, hp, hn, h => by
    obtain ⟨h1, h2, h3⟩ := hd
    refine cs_ok l (cStep p s (.cut n)) h3 hp ?_ fun q hq => ?_
    · show 0 ≤ s.now + n
      omega
    · have hq : q ∈ s.cu ++ [(s.pl, s.now + n)] := hq
      rcases List.mem_append.mp hq with hq | hq
      · exact h q hq
      · rw [List.mem_singleton.mp hq]
        exact ⟨hp, by show 0 ≤ s.now + n; omega⟩
  | .wait n :: l, s, hd, hp, hn, h => by
    obtain ⟨h1, h2, h3⟩ := hd
    refine cs_ok l (cStep p s (.wait n)) h3 hp ?_ h
    show 0 ≤ s.now + n
    omega
theorem cuts_ok {p : Pt} {hs : List Hn} (h : HandsOk p hs) : ∀ q ∈ cutsM p hs, q.1 ∈ p.places ∧ 0 ≤ q.2 := by
  intro q hq
  obtain ⟨l, hl, hq⟩ := List.mem_flatten.mp hq
  obtain ⟨x, hx, rfl⟩ := List.mem_map.mp hl
  exact cs_ok x.ds ⟨x.pl, 0, 0, [], []⟩ (h.ds x hx) (h.pl x hx) (Int.le_refl _) (fun q hq => by cases hq) q hq
theorem breaks_ok {p : Pt} {hs : List Hn} (h : HandsOk p hs) : ∀ q ∈ breaksM p hs, q.1 ∈ p.places ∧ 0 ≤ q.2 := by
  intro q hq
  obtain ⟨x, hx, e⟩ := List.mem_filterMap.mp hq
  cases hm : minO (minsAt (cutsM p hs) x) with
  | none => rw [hm] at e; cases e
  | some m =>
    rw [hm] at e
    cases e
    refine ⟨hx, ?_⟩
    obtain ⟨h1, _⟩ := minO_spec hm
    obtain ⟨z, hz, rfl⟩ := List.mem_map.mp h1
    exact (cuts_ok h z (List.mem_filter.mp hz).1).2
theorem breaks_len {p : Pt} {hs : List Hn} : (breaksM p hs).length ≤ p.places.length := List.length_filterMap_le _ _
theorem put_fold {α β : Type} (fk : α → Str) (fv : α → β) : ∀ (l : List α) (acc : List (Str × β)), (l.map fk).Nodup → (∀ x ∈ l, valG acc (fk x) = none) → l.foldl (fun acc d => putG acc (fk d) (fv d)) acc = acc ++ l.map fun d => (fk d, fv d)
  | [], acc, _, _ => by simp
  | a :: l, acc, nd, h => by
    rw [List.map_cons, List.nodup_cons] at nd
    rw [List.foldl_cons, put_fold fk fv l _ nd.2 fun x hx => ?_, putG_new (h a List.mem_cons_self), List.map_cons, List.append_assoc]
    · rfl
    · rw [valG_put, if_neg (fun e => nd.1 (by rw [e]; exact List.mem_map_of_mem hx))]
      exact h x (List.mem_cons_of_mem _ hx)
theorem val_map {β : Type} (f : Str → β) {x : Str} : ∀ {l : List Str}, x ∈ l → valG (l.map fun y => (y, f y)) x = some (f x)
  | y :: l, h => by
    rw [List.map_cons, valG_cons]
    by_cases e : y = x
    · rw [if_pos e, e]
    · rw [if_neg e]
      exact val_map f ((List.mem_cons.mp h).resolve_left fun z => e z.symm)
inductive R_breaks_of (K : Frag) : List SV → SV → Prop
  | mk (p : Pt) (hs : List Hn) (hp : PtOk p) (h : HandsOk p hs) : R_breaks_of K [eLand K p, .d (eHs hs)] (.ml ((breaksM p hs).map eSI))
theorem ok_breaks_of (T : Tx K mg) : FnOk P w K mg base CX0 6 (He.fAd K ("breaks_of", none)) T.fd_breaks_of ["land", "hands"] (spQ (R_breaks_of K)) := by
  refine okQ T.F_breaks_of sc_breaks_of (fun _ _ h => by cases h; rfl) (by decide) ?_
  rintro X ⟨cdv, A, outer, s, H, rfl, hr⟩ args r hR
  refine ⟨_, (pss_cons (ps_expr (pe_call (ok_check_hands T) (hr.mono (by decide)) (by rfl) T.g_check_hands T.F_check_hands.kp (b_check_hands T) .nil pass0 (pa_cons (pv 0) (pa_cons (pv 1) pa_nil))))
    (pss_cons (ps_set (i := 2) sc_breaks_of.nd rfl (Or.inr rfl) (pe_lc2 (own := [("hand", 3), ("cut", 4)]) (vs1 := [4]) (g := (gName 3)) (tt := tYes) (wi1 := (iList K (tFld K (tMake (He.ga K "Course") _ [] E0 (tCons (tVar 0) (tCons (tVar 3) tNil))) "cuts"))) (g1 := (gName 4)) (tt1 := tYes) (te := (tVar 4)) rfl sc_breaks_of.nd (pi_list (pv 1)) (blkOk_by (by kernel_rfl)) (by decide) (fun _ _ _ _ _ => (pg_name (i := 3) sc_breaks_of.nd rfl (Or.inl rfl))) (fun _ _ _ _ _ => pts_nil) (fun _ _ _ _ _ => (pi_list (pe_fld (pe_make T.mkCourse (ok_Course_init T) (hr.mono (by decide)) (by rfl) T.g_Course (b_Course_init T) .nil pass0 (pa_cons (pv 0) (pa_cons (pv 3) pa_nil))) rfl))) (fun _ _ _ _ _ => (pg_name (i := 4) sc_breaks_of.nd rfl (Or.inl rfl))) (fun _ _ _ _ _ => pts_nil) (fun _ _ _ _ _ => (pv 4))))
    (pss_cons (ps_set (i := 5) sc_breaks_of.nd rfl (Or.inr rfl) (pe_dc (own := [("place", 8)]) (g := (gName 8)) (tt := tYes) (tk := (tVar 8)) (tv := (tLc (iList K (tVar 2)) (gTup K 2 (gCons (gName 6) (gCons (gName 7) gNil))) (tTest (tOp rEq (tVar 6) (tVar 8))) (tVar 7) [6, 7])) rfl sc_breaks_of.nd (pi_tup (pe_fld (pv 0) rfl)) (blkOk_by (by kernel_rfl)) (fun _ _ _ _ _ => (pg_name (i := 8) sc_breaks_of.nd rfl (Or.inr rfl))) (fun _ _ _ _ _ => pts_nil) (fun _ _ _ _ _ => (pv 8)) (fun _ _ _ _ _ => (pe_lc (own := [("other", 6), ("minute", 7)]) (g := (gTup K 2 (gCons (gName 6) (gCons (gName 7) gNil)))) (tt := (tTest (tOp rEq (tVar 6) (tVar 8)))) (te := (tVar 7)) rfl sc_breaks_of.nd (pi_list (pv 2)) (blkOk_by (by kernel_rfl)) (fun _ _ _ _ _ => (pg_tup rfl (pgs_cons (pg_name (i := 6) sc_breaks_of.nd rfl (Or.inl rfl)) (pgs_cons (pg_name (i := 7) sc_breaks_of.nd rfl (Or.inl rfl)) pgs_nil)))) (fun _ _ _ _ _ => (pts_one (pt_cmpR op_eq (pv 6) (pv 8) (nomark _)))) (fun _ _ _ _ _ => (pv 7))))))
    (pss_one (ps_ret (pe_lc (own := [("place", 8)]) (g := (gName 8)) (tt := (fun σ H Q => (tDGet (tVar 5) (tVar 8)) σ H fun x H1 => ∃ k, TruV K x H1 k ∧ Q k H1)) (te := (tTupN (tCons (tVar 8) (tCons (tCB (rMin K) (tCons (tDGet (tVar 5) (tVar 8)) tNil)) tNil)))) rfl sc_breaks_of.nd (pi_tup (pe_fld (pv 0) rfl)) (blkOk_by (by kernel_rfl)) (fun _ _ _ _ _ => (pg_name (i := 8) sc_breaks_of.nd rfl (Or.inl rfl))) (fun _ _ _ _ _ => (pts_one (pt_truth (pe_dget (hu_of hr) (pv 5) (pv 8) (fun _ _ => rfl)) (by intro _; rfl)))) (fun _ _ _ _ _ => (pe_tupN (pa_cons (pv 8) (pa_cons (pe_callB (cr_min rfl) (by rfl) T.m_min (by decide +kernel) (pa_cons (pe_dget (hu_of hr) (pv 5) (pv 8) (fun _ _ => rfl)) pa_nil)) pa_nil)))))))))), ?_⟩
  intro F0 H0 D hrt hnx
  cases hR with
  | mk p hs hp h =>
  show SR F0 H0 _ [eLand K p, .d (eHs hs), .u, .u, .u, .u, .u, .u, .u] D
  have hcl := cuts_len p hs h
  have hpl := hp.pl.2
  refine sr_seq (sr_drop (e_call (a_cons (e_var rfl) (a_cons (e_var rfl) a_nil)) (.mk p hs hp h)) (nx_go ?_))
  have ecut : ((hs.map fun h => ((courseS p h).cu.map eSI).map fun e => e).flatten) = (cutsM p hs).map eSI := by
    unfold cutsM
    rw [List.map_flatten, List.map_map]
    congr 1
    refine List.map_congr_left fun x _ => ?_
    rw [List.map_id']
    rfl
  refine sr_seq (r_asg (r := .ml ((cutsM p hs).map eSI)) (e_as (e_lc2M hs eHn (fun h => (courseS p h).cu.map eSI) (fun _ e => e) (wk_list (e_var rfl)).c ?_ fun i q hq => ⟨[eLand K p, .d (eHs hs), .u, .d (eHn q), .u, .u, .u, .u, .u], v_name (by walk_at "set"), ?_, wk_list (e_fld T.cCourse T.n_cuts (e_make (a_cons (e_var rfl) (a_cons (e_var rfl) a_nil)) ⟨p, q, rfl, hp, h.ds q (List.mem_of_getElem? hq), h.fd q (List.mem_of_getElem? hq), rfl⟩) rfl), fun j e he => ⟨_, v_name (by walk_at "set"), e_var rfl⟩⟩) (congrArg SV.ml ecut)) (by walk_at "set") (nx_go (r_freeze (n := 2) rfl (by walk_at "set") ?_)))
  · rw [ecut, List.length_map, sizeLine_eq]
    omega
  · intro s hs'
    simp only [List.mem_cons, List.not_mem_nil, or_false] at hs'
    rcases hs' with rfl | rfl | rfl | rfl | rfl | rfl | rfl | rfl | rfl <;> rfl
  have emin : ∀ x, (cutsM p hs).filterMap (fun q => if q.1 = x then some (PyData.int q.2) else none) = (minsAt (cutsM p hs) x).map .int := by
    intro x
    unfold minsAt
    induction cutsM p hs with
    | nil => rfl
    | cons q l ih =>
      rw [List.filterMap_cons, List.filter_cons]
      by_cases e : q.1 = x <;> simp [e, ih]
  have hdict : (p.places.foldl (fun acc d => putG acc (id d) ((fun x => PyData.list ((minsAt (cutsM p hs) x).map .int)) d)) []) = p.places.map fun x => (x, PyData.list ((minsAt (cutsM p hs) x).map .int)) := by
    rw [put_fold id _ _ _ (by rw [List.map_id]; exact hp.pd) (fun x _ => rfl), List.nil_append]
    rfl
  refine sr_seq (r_asg (r := .md (p.places.map fun x => (x, PyData.list ((minsAt (cutsM p hs) x).map .int)))) (e_as (e_dcM p.places .str id (fun x => .list ((minsAt (cutsM p hs) x).map .int)) (wk_tup (e_fld T.cLand T.n_places (e_var rfl) rfl)).c ?_ fun i x hx => ⟨_, v_name (by walk_at "set"), e_var rfl, e_eq (e_freeze (e_lcF (cutsM p hs) eSI (fun q => if q.1 = x then some (.int q.2) else none) (wk_list (e_var rfl)).c ?_ fun j q hq => ⟨_, _, gv_tup (gvs_cons (v_name (by walk_at "set")) (gvs_cons (v_name (by walk_at "set")) gvs_nil)), et_test (e_eqA (e_var rfl) (e_var rfl) rfl), ?_, fun y hy => ?_⟩)) (congrArg PyData.list (emin x))⟩) (congrArg SV.md hdict)) (by walk_at "set") (nx_go ?_))
  · rw [sizeLine_eq]
    omega
  · rw [sizeLine_eq]
    omega
  · show decide (q.1 = x) = _
    by_cases e : q.1 = x <;> simp [e]
  · split at hy
    · cases hy
      exact e_var rfl
    · cases hy
  refine r_ret (e_lcF p.places .str (fun x => (minO (minsAt (cutsM p hs) x)).map fun m => eSI (x, m)) (wk_tup (e_fld T.cLand T.n_places (e_var rfl) rfl)).c ?_ fun i x hx => ⟨_, _, v_name (by walk_at "set"), et_truthL (e_dget (k_own rfl) (e_var rfl) (val_map (fun x => PyData.list ((minsAt (cutsM p hs) x).map .int)) (List.mem_of_getElem? hx))), ?_, fun y hy => ?_⟩) ?_ hrt
  · rw [sizeLine_eq]
    omega
  · cases minsAt (cutsM p hs) x <;> rfl
  · cases hm : minO (minsAt (cutsM p hs) x) with
    | none => rw [hm] at hy; cases hy
    | some m =>
      rw [hm] at hy
      cases hy
      obtain ⟨k1, k2⟩ := minO_spec hm
      exact e_tupS (d_cons (e_var rfl) (d_cons (e_cb (d_cons (e_dget (k_own rfl) (e_var rfl) (val_map (fun x => PyData.list ((minsAt (cutsM p hs) x).map .int)) (List.mem_of_getElem? hx))) d_nil) (cq_min (List.length_pos_of_mem k1) k1 k2)) d_nil))
  · unfold breaksM
    rw [List.map_filterMap]
    congr 1
    refine congrArg (fun f => List.filterMap f p.places) (funext fun x => ?_)
    cases minO (minsAt (cutsM p hs) x) <;> rfl
end Ef
/-! The defs about weathers and fires. -/
namespace Ef
open PySem PySem.Spec PyProof.Rows L2
local macro_rules | `(tactic| walk_at "set") => `(tactic| (repeat' (first | exact SetAt.z | apply SetAt.s)))
local macro_rules | `(tactic| walk_at "le") => `(tactic| (repeat' (first | exact Le.nil | (with_reducible apply Le.eq) | (with_reducible apply Le.u) | (with_reducible apply Le.as) | rfl)))
local macro_rules | `(tactic| walk_at "ev1") => `(tactic| first
  | exact e_int | exact e_str | exact e_bl | exact e_non
  | exact e_var rfl | exact d_nil | exact a_nil | exact et_yes | exact o_none | exact k_own rfl
  | exact e_lenM rfl
  | ((with_reducible show lenK _ = true); rfl) | ((with_reducible show eqK _ _ = true); rfl) | ((with_reducible show smallL _ = true); rfl)
  | with_reducible apply d_cons | with_reducible apply a_cons | with_reducible apply o_some
  | with_reducible apply e_add | with_reducible apply e_sub | with_reducible apply e_lt | with_reducible apply e_le | with_reducible apply e_gt | with_reducible apply e_ge
  | with_reducible apply e_mul | with_reducible apply e_mod | with_reducible apply e_fdiv
  | with_reducible apply e_eqA | with_reducible apply e_neA
  | with_reducible apply e_isN | with_reducible apply e_notN | with_reducible apply e_notV | with_reducible apply et_test | with_reducible apply et_B | with_reducible apply et_not
  | with_reducible apply et_and2 | with_reducible apply et_or2 | with_reducible apply e_andV2 | with_reducible apply e_orV2
  | with_reducible apply e_tupS | with_reducible apply e_lstS | exact e_dnew
  | with_reducible apply e_lenA
  | (with_reducible apply e_cb (hr := cq_abs)) | (with_reducible apply e_cb (hr := cq_int1)) | (with_reducible apply e_cb (hr := cq_max2)) | (with_reducible apply e_cb (hr := cq_min2))
  | with_reducible apply e_call | with_reducible apply e_meth
  | with_reducible apply e_din | with_reducible apply e_dnotin | with_reducible apply e_dget | with_reducible apply e_dget1 | with_reducible apply e_dget2)
local macro_rules | `(tactic| walk_at "ev") => `(tactic| repeat' (walk_at "ev1"))
variable {P : Program} {w : World} {K : Frag} {mg : Str → Option Value} {base : Heap}
def dangerM (since : Int) (until_ burns : Option Int) : Bool := match burns with
  | none => false
  | some b => decide (b ≤ since) || (match until_ with | none => true | some u => decide (b < u))
inductive R_is_danger (K : Frag) : List SV → SV → Prop
  | mk (s : Int) (u b : Option Int) : R_is_danger K [.d (.int s), .d (eO u), .d (eO b)] (.d (.bool (dangerM s u b)))
theorem ok_is_danger (T : Tx K mg) : FnOk P w K mg base CX0 1 (He.fAd K ("is_danger", none)) T.fd_is_danger ["since", "until", "burns"] (spQ (R_is_danger K)) := by
  refine okQ T.F_is_danger sc_is_danger (fun _ _ h => by cases h; rfl) (by decide) ?_
  rintro X ⟨cdv, A, outer, s, H, rfl, hr⟩ args r hR
  refine ⟨_, (pss_cons (ps_if (pt_cmp (pc_isN (pv 2))) (pss_one (ps_ret pe_bl)) pss_nil)
    (pss_one (ps_ret (pe_or (pe_cmpR op_ge (pv 0) (pv 2) (nomark _)) (pe_or (pe_cmp (pc_isN (pv 1))) (pe_one (pe_cmpR op_gt (pv 1) (pv 2) (nomark _)))))))), ?_⟩
  intro F0 H0 D hrt hnx
  cases hR with
  | mk s u b =>
  cases b with
  | none =>
    show SR F0 H0 _ [.d (.int s), .d (eO u), .d .none] D
    exact sr_seq (r_ifT (by walk_at "ev") (by rfl) (r_ret (by walk_at "ev") (by rfl) hrt))
  | some b =>
    cases u with
    | none =>
      show SR F0 H0 _ [.d (.int s), .d .none, .d (.int b)] D
      refine sr_seq (r_ifF (by walk_at "ev") (by rfl) (sr_next (nx_go (r_ret (e_orV2 (e_ge (e_var rfl) (e_var rfl)) (e_orV (b := true) (b' := true) (e_eq (e_isN (e_var rfl)) rfl) fun h => nomatch h)) ?_ hrt))))
      rfl
    | some u =>
      show SR F0 H0 _ [.d (.int s), .d (.int u), .d (.int b)] D
      refine sr_seq (r_ifF (by walk_at "ev") (by rfl) (sr_next (nx_go (r_ret (e_orV2 (e_ge (e_var rfl) (e_var rfl)) (e_orV2 (e_isN (e_var rfl)) (e_gt (e_var rfl) (e_var rfl)))) ?_ hrt))))
      rfl
def mx (i j : Int) : Int := if j > i then j else i
abbrev R3 := Str × Str × Int
def eR3 (q : R3) : PyData := .tuple [.str q.1, .str q.2.1, .int q.2.2]
def metM (f : Ro) (q : R4) : Option R3 := match valG f q.2.1 with
  | none => none
  | some b => if dangerM q.2.2.1 q.2.2.2 (some b) = true then some (q.1, q.2.1, mx q.2.2.1 b) else none
noncomputable def dangersM (p : Pt) (W : We) (s : Ro) (hs : List Hn) : List R3 := (staysM p hs).filterMap (metM (fastM p W s (breaksM p hs)))
/-- what the questions start from -/
structure AskIn (p : Pt) (W : We) (s : Ro) (hs : List Hn) : Prop where
  pt : PtOk p
  we : WOk p.winds W
  st : ∀ q ∈ s, q.1 ∈ p.places ∧ 0 ≤ q.2
  sl : s.length < 1000
  hs : HandsOk p hs
theorem AskIn.fire {p : Pt} {W : We} {s : Ro} {hs : List Hn} (h : AskIn p W s hs) : FireIn p W s (breaksM p hs) := ⟨h.pt, h.we, h.st, h.sl, breaks_ok h.hs, Nat.lt_of_le_of_lt breaks_len (Nat.lt_of_le_of_lt h.pt.pl.2 (by decide))⟩
theorem told_val {p : Pt} {f : Ro} (h : PtOk p) {x : Str} (hx : x ∈ p.places) : valG (mergeG (toldM p f)) x = some (eO (valG f x)) := by
  unfold mergeG
  rw [valG_merge x (toldM p f) [] (by unfold toldM; rw [List.map_map]; exact (List.map_id p.places).symm ▸ h.pd) (fun _ _ => rfl)]
  unfold toldM
  rw [val_map (fun x => eO (valG f x)) hx]
  rfl
theorem stays_len (p : Pt) (hs : List Hn) (h : HandsOk p hs) : (staysM p hs).length ≤ 155 := by
  have key : ∀ (l : List Hn), (∀ x ∈ l, x.ds.length ≤ 30) → ((l.map fun h => (stM p h).map fun q => (h.nm, q)).flatten).length ≤ 31 * l.length := by
    intro l
    induction l with
    | nil => intro _; exact Nat.le_refl _
    | cons x l ih =>
      intro hx
      have h1 := (st_len p x (hx x List.mem_cons_self)).1
      have h2 := ih fun y hy => hx y (List.mem_cons_of_mem _ hy)
      rw [List.map_cons, List.flatten_cons, List.length_append, List.length_cons, List.length_map]
      omega
  have := key hs h.fd
  have := h.few
  unfold staysM
  omega
theorem cs_stpl {p : Pt} : ∀ (l : List Dd) (s : CS), DeedsOk p s.pl l → s.pl ∈ p.places → (∀ q ∈ s.st, q.1 ∈ p.places) → (∀ q ∈ (l.foldl (cStep p) s).st, q.1 ∈ p.places) ∧ (l.foldl (cStep p) s).pl ∈ p.places
  | [], s, _, hp, h => ⟨h, hp⟩
  | .walk y :: l, s, hd, hp, h => by
    obtain ⟨h1, h2, _, h5⟩ := hd
    refine cs_stpl l (cStep p s (.walk y)) h5 h2 fun q hq => ?_
    have hq : q ∈ s.st ++ [(s.pl, s.since, some s.now)] := hq
    rcases List.mem_append.mp hq with hq | hq
    · exact h q hq
    · rw [List.mem_singleton.mp hq]
      exact hp
  | .cut n :: l, s, hd, hp, h => cs_stpl l (cStep p s (.cut n)) hd.2.2 hp h
  | .wait n :: l, s, hd, hp, h => cs_stpl l (cStep p s (.wait n)) hd.2.2 hp h
theorem stays_pl {p : Pt} {hs : List Hn} (h : HandsOk p hs) : ∀ q ∈ staysM p hs, q.2.1 ∈ p.places := by
  intro q hq
  obtain ⟨l, hl, hq⟩ := List.mem_flatten.mp hq
  obtain ⟨x, hx, rfl⟩ := List.mem_map.mp hl
  obtain ⟨z, hz, rfl⟩ := List.mem_map.mp hq
  obtain ⟨k1, k2⟩ := cs_stpl x.ds ⟨x.pl, 0, 0, [], []⟩ (h.ds x hx) (h.pl x hx) (fun q hq => by cases hq)
  have hz : z ∈ (courseS p x).st ++ [((courseS p x).pl, (courseS p x).since, none)] := hz
  rcases List.mem_append.mp hz with hz | hz
  · exact k1 z hz
  · rw [List.mem_singleton.mp hz]
    exact k2
inductive R_dangers (K : Frag) : List SV → SV → Prop
  | mk (p : Pt) (W : We) (s : Ro) (hs : List Hn) (h : AskIn p W s hs) : R_dangers K [eLand K p, .d (eWe W), .d (eRo s), .d (eHs hs)] (.ml ((dangersM p W s hs).map eR3))
theorem ok_dangers (T : Tx K mg) : FnOk P w K mg base CX0 7 (He.fAd K ("dangers", none)) T.fd_dangers ["land", "weather", "starts", "hands"] (spQ (R_dangers K)) := by
  refine okQ T.F_dangers sc_dangers (fun _ _ h => by cases h; rfl) (by decide) ?_
  rintro X ⟨cdv, A, outer, s, H, rfl, hr⟩ args r hR
  refine ⟨_, (pss_cons (ps_expr (pe_call (ok_check_hands T) (hr.mono (by decide)) (by rfl) T.g_check_hands T.F_check_hands.kp (b_check_hands T) .nil pass0 (pa_cons (pv 0) (pa_cons (pv 3) pa_nil))))
    (pss_cons (ps_set (i := 4) sc_dangers.nd rfl (Or.inl rfl) (pe_callTy (call_dictP rfl) (by rfl) T.m_dict (by decide +kernel) (pa_cons (pe_call (ok_fastest T) (hr.mono (by decide)) (by rfl) T.g_fastest T.F_fastest.kp (b_fastest T) .nil pass0 (pa_cons (pv 0) (pa_cons (pv 1) (pa_cons (pv 2) (pa_cons (pe_call (ok_breaks_of T) (hr.mono (by decide)) (by rfl) T.g_breaks_of T.F_breaks_of.kp (b_breaks_of T) .nil pass0 (pa_cons (pv 0) (pa_cons (pv 3) pa_nil))) pa_nil))))) pa_nil)))
    (pss_cons (ps_set (i := 5) sc_dangers.nd rfl (Or.inl rfl) (pe_lst pa_nil))
    (pss_cons (ps_for PassesOwn.never rfl (pi_list (pe_call (ok_stays T) (hr.mono (by decide)) (by rfl) T.g_stays T.F_stays.kp (b_stays T) .nil pass0 (pa_cons (pv 0) (pa_cons (pv 3) pa_nil)))) (pg_tup rfl (pgs_cons (pg_name (i := 6) sc_dangers.nd rfl (Or.inl rfl)) (pgs_cons (pg_name (i := 7) sc_dangers.nd rfl (Or.inl rfl)) (pgs_cons (pg_name (i := 8) sc_dangers.nd rfl (Or.inl rfl)) (pgs_cons (pg_name (i := 9) sc_dangers.nd rfl (Or.inl rfl)) pgs_nil)))))
      (pss_one (ps_if (pt_val (pe_call (ok_is_danger T) (hr.mono (by decide)) (by rfl) T.g_is_danger T.F_is_danger.kp (b_is_danger T) .nil pass0 (pa_cons (pv 8) (pa_cons (pv 9) (pa_cons (pe_dget (hu_of hr) (pv 4) (pv 7) (fun _ _ => rfl)) pa_nil))))) (pss_one (ps_expr (pe_bm PySem.F.plainAttrs_list PySem.F.slot_list_append PySem.F.type_list_append mt_append (pv 5) (pa_cons (pe_tupN (pa_cons (pv 6) (pa_cons (pv 7) (pa_cons (pe_callB (call_max2 rfl) (by rfl) T.m_max (by decide +kernel) (pa_cons (pv 8) (pa_cons (pe_dget (hu_of hr) (pv 4) (pv 7) (fun _ _ => rfl)) pa_nil))) pa_nil)))) pa_nil)))) pss_nil)))
    (pss_one (ps_ret (pv 5))))))), ?_⟩
  intro F0 H0 D hrt hnx
  cases hR with
  | mk p W st hs h =>
  show SR F0 H0 _ [eLand K p, .d (eWe W), .d (eRo st), .d (eHs hs), .u, .u, .u, .u, .u, .u] D
  refine sr_seq (sr_drop (e_call (a_cons (e_var rfl) (a_cons (e_var rfl) a_nil)) (.mk p hs h.pt h.hs)) (nx_go ?_))
  refine sr_seq (r_asg (e_cb (d_cons (e_freeze (e_call (a_cons (e_var rfl) (a_cons (e_var rfl) (a_cons (e_var rfl) (a_cons (e_freeze (e_call (a_cons (e_var rfl) (a_cons (e_var rfl) a_nil)) (.mk p hs h.pt h.hs))) a_nil)))) (.mk p W st (breaksM p hs) h.fire))) d_nil) cq_dict) (by walk_at "set") (nx_go ?_))
  refine sr_seq (r_asg (r := .ml []) (by walk_at "ev") (by walk_at "set") (nx_go (sr_seq ?_)))
  generalize hf : fastM p W st (breaksM p hs) = f
  have hsl := stays_len p hs h.hs
  refine sr_fold (staysM p hs) eR4 (fun (acc : List R3) q => acc ++ (metM f q).toList) (fun acc => [eLand K p, .d (eWe W), .d (eRo st), .d (eHs hs), .md (mergeG (toldM p f)), .ml (acc.map eR3), .u, .u, .u, .u]) (fun i acc => acc.length ≤ i) [] (wk_list (e_freeze (e_call (a_cons (e_var rfl) (a_cons (e_var rfl) a_nil)) (.mk p hs h.pt h.hs)))) (by walk_at "le") (Nat.le_refl _) (fun F1 i q acc gx hq ha _ => ⟨?_, _, gd_tup (gds_cons (g_name (by walk_at "set")) (gds_cons (g_name (by walk_at "set")) (gds_cons (g_name (by walk_at "set")) (gds_cons (g_name (by walk_at "set")) gds_nil)))), ?_⟩) (fun _ => nx_go (sr_retM ?_ hrt))
  · rw [List.length_append]
    have : (metM f q).toList.length ≤ 1 := by cases metM f q <;> simp
    omega
  · have hm := List.mem_of_getElem? hq
    have hi := (List.getElem?_eq_some_iff.mp hq).1
    have hv := told_val (f := f) h.pt (stays_pl h.hs q hm)
    have hsz : (acc.map eR3).length < sizeLine := by
      rw [List.length_map, sizeLine_eq]
      omega
    refine r_if (b' := dangerM q.2.2.1 q.2.2.2 (valG f q.2.1)) (et_B (e_call (a_cons (e_var rfl) (a_cons (e_var rfl) (a_cons (e_dget (k_own rfl) (e_var rfl) hv) a_nil))) (.mk _ _ _))) rfl (fun hb => ?_) (fun hb => ?_)
    · cases hc : valG f q.2.1 with
      | none => rw [hc] at hb; cases hb
      | some b =>
        rw [hc] at hb hv
        refine r_app (n := 5) (x := eR3 (q.1, q.2.1, mx q.2.2.1 b)) rfl (e_tupS (d_cons (e_var rfl) (d_cons (e_var rfl) (d_cons (e_cb (d_cons (e_var rfl) (d_cons (e_dget (k_own rfl) (e_var rfl) hv) d_nil)) cq_max2) d_nil)))) hsz (by walk_at "set") (nx_end rfl ?_)
        have : metM f q = some (q.1, q.2.1, mx q.2.2.1 b) := by
          unfold metM
          rw [hc]
          exact if_pos hb
        rw [this, List.map_append]
        exact .eq (.eq (.eq (.eq (.eq (.eq (.u (.u (.u (.u .nil)))))))))
    · refine sr_next (nx_end rfl ?_)
      have : metM f q = none := by
        unfold metM
        cases hc : valG f q.2.1 with
        | none => rfl
        | some b =>
          rw [hc] at hb
          exact if_neg (by rw [hb]; simp)
      rw [this]
      rw [Option.toList_none, List.append_nil]
      exact .eq (.eq (.eq (.eq (.eq (.eq (.u (.u (.u (.u .nil)))))))))
  · have key : ∀ (l : List R4) (a : List R3), l.foldl (fun (acc : List R3) q => acc ++ (metM f q).toList) a = a ++ l.filterMap (metM f) := by
      intro l
      induction l with
      | nil => intro a; simp
      | cons x l ih =>
        intro a
        rw [List.foldl_cons, ih, List.filterMap_cons]
        cases metM f x <;> simp
    rw [key]
    unfold dangersM
    rw [hf]
    rfl
inductive R_is_safe (K : Frag) : List SV → SV → Prop
  | mk (p : Pt) (W : We) (s : Ro) (hs : List Hn) (h : AskIn p W s hs) : R_is_safe K [eLand K p, .d (eWe W), .d (eRo s), .d (eHs hs)] (.d (.bool (dangersM p W s hs).isEmpty))
theorem ok_is_safe (T : Tx K mg) : FnOk P w K mg base CX0 8 (He.fAd K ("is_safe", none)) T.fd_is_safe ["land", "weather", "starts", "hands"] (spQ (R_is_safe K)) := by
  refine okQ T.F_is_safe sc_is_safe (fun _ _ h => by cases h; rfl) (by decide) ?_
  rintro X ⟨cdv, A, outer, s, H, rfl, hr⟩ args r hR
  refine ⟨_, (pss_one (ps_ret (pe_notT (pe_call (ok_dangers T) (hr.mono (by decide)) (by rfl) T.g_dangers T.F_dangers.kp (b_dangers T) .nil pass0 (pa_cons (pv 0) (pa_cons (pv 1) (pa_cons (pv 2) (pa_cons (pv 3) pa_nil)))))))), ?_⟩
  intro F0 H0 D hrt hnx
  cases hR with
  | mk p W st hs h =>
  show SR F0 H0 _ [eLand K p, .d (eWe W), .d (eRo st), .d (eHs hs)] D
  refine r_ret (e_notTL (e_freeze (e_call (a_cons (e_var rfl) (a_cons (e_var rfl) (a_cons (e_var rfl) (a_cons (e_var rfl) a_nil)))) (.mk p W st hs h)))) ?_ hrt
  cases dangersM p W st hs <;> rfl
noncomputable def keepsM (p : Pt) (W : We) (s : Ro) (hs : List Hn) (x : Str) : Bool := (dangersM p W s hs).isEmpty && (valG (fastM p W s (breaksM p hs)) x).isNone
inductive R_keeps (K : Frag) : List SV → SV → Prop
  | mk (p : Pt) (W : We) (s : Ro) (hs : List Hn) (x : Str) (h : AskIn p W s hs) (hx : x ∈ p.places) : R_keeps K [eLand K p, .d (eWe W), .d (eRo s), .d (eHs hs), .d (.str x)] (.d (.bool (keepsM p W s hs x)))
theorem ok_keeps (T : Tx K mg) : FnOk P w K mg base CX0 9 (He.fAd K ("keeps", none)) T.fd_keeps ["land", "weather", "starts", "hands", "place"] (spQ (R_keeps K)) := by
  refine okQ T.F_keeps sc_keeps (fun _ _ h => by cases h; rfl) (by decide) ?_
  rintro X ⟨cdv, A, outer, s, H, rfl, hr⟩ args r hR
  refine ⟨_, (pss_cons (ps_expr (pe_meth (pv 0) T.cLand T.me_check_place (ok_Land_check_place T) (hr.mono (by decide)) (b_Land_check_place T) .nil pass0 (pa_cons (pv 4) pa_nil)))
    (pss_cons (ps_if (pt_not (pt_val (pe_call (ok_is_safe T) (hr.mono (by decide)) (by rfl) T.g_is_safe T.F_is_safe.kp (b_is_safe T) .nil pass0 (pa_cons (pv 0) (pa_cons (pv 1) (pa_cons (pv 2) (pa_cons (pv 3) pa_nil))))))) (pss_one (ps_ret pe_bl)) pss_nil)
    (pss_one (ps_ret (pe_cmp (pc_isN (pe_dget (hu_of hr) (pe_callTy (call_dictP rfl) (by rfl) T.m_dict (by decide +kernel) (pa_cons (pe_call (ok_fastest T) (hr.mono (by decide)) (by rfl) T.g_fastest T.F_fastest.kp (b_fastest T) .nil pass0 (pa_cons (pv 0) (pa_cons (pv 1) (pa_cons (pv 2) (pa_cons (pe_call (ok_breaks_of T) (hr.mono (by decide)) (by rfl) T.g_breaks_of T.F_breaks_of.kp (b_breaks_of T) .nil pass0 (pa_cons (pv 0) (pa_cons (pv 3) pa_nil))) pa_nil))))) pa_nil)) (pv 4) (fun _ _ => rfl)))))))), ?_⟩
  intro F0 H0 D hrt hnx
  cases hR with
  | mk p W st hs x h hx =>
  show SR F0 H0 _ [eLand K p, .d (eWe W), .d (eRo st), .d (eHs hs), .d (.str x)] D
  refine sr_seq (sr_drop (e_meth (e_var rfl) rfl (a_cons (e_var rfl) a_nil) (.mk p x hx)) (nx_go ?_))
  refine sr_seq (sr_if (et_not (et_B (e_call (a_cons (e_var rfl) (a_cons (e_var rfl) (a_cons (e_var rfl) (a_cons (e_var rfl) a_nil)))) (.mk p W st hs h)))) (fun hb => ?_) (fun hb => ?_))
  · refine r_ret e_bl ?_ hrt
    unfold keepsM
    rw [Bool.not_eq_true'] at hb
    rw [hb]
    rfl
  · refine sr_next (nx_go (r_ret (e_isN (e_dget (k_md (e_cb (d_cons (e_freeze (e_call (a_cons (e_var rfl) (a_cons (e_var rfl) (a_cons (e_var rfl) (a_cons (e_freeze (e_call (a_cons (e_var rfl) (a_cons (e_var rfl) a_nil)) (.mk p hs h.pt h.hs))) a_nil)))) (.mk p W st (breaksM p hs) h.fire))) d_nil) cq_dict)) (e_var rfl) (told_val h.pt hx))) ?_ hrt))
    unfold keepsM
    rw [Bool.not_eq_false'] at hb
    rw [hb]
    cases valG (fastM p W st (breaksM p hs)) x <;> rfl
end Ef
namespace Ef
open PySem PySem.Spec PyProof.Rows L2
theorem kb_Land_init {K : Frag} {mg : Str → Option Value} (T : Tx K mg) : KBn K T.fd_Land_init ["self", "winds", "places", "links", "paths"] 1 ["winds", "places", "links", "paths"] (fun us ws => us ++ ws) (fun us ws => us ++ ws) := by
  obtain ⟨oc, od, dV, kV, doc, pm, an, cdv, ct, osl, e, lk, hcd, hD, _⟩ := T.F_Land_init.ex
  have hdv : dV = .none := by
    rcases hD with ⟨_, h⟩ | ⟨h, _⟩
    · exact h
    · exact absurd rfl h
  subst hdv
  refine ⟨fun s us ws X l1 l2 => ?_, fun r1 r2 => r1.append r2⟩
  rw [e]
  match us, l1, ws, l2 with
  | [u], _, [a, b, c, d], _ => exact BindsTo.of_eq rfl
end Ef
/-! The defs about weathers and fires. -/
namespace Ef
open PySem PySem.Spec PyProof.Rows L2
local macro_rules | `(tactic| walk_at "set") => `(tactic| (repeat' (first | exact SetAt.z | apply SetAt.s)))
local macro_rules | `(tactic| walk_at "le") => `(tactic| (repeat' (first | exact Le.nil | (with_reducible apply Le.eq) | (with_reducible apply Le.u) | (with_reducible apply Le.as) | rfl)))
local macro_rules | `(tactic| walk_at "ev1") => `(tactic| first
  | exact e_int | exact e_str | exact e_bl | exact e_non
  | exact e_var rfl | exact d_nil | exact a_nil | exact et_yes | exact o_none | exact k_own rfl
  | exact e_lenM rfl
  | ((with_reducible show lenK _ = true); rfl) | ((with_reducible show eqK _ _ = true); rfl) | ((with_reducible show smallL _ = true); rfl)
  | with_reducible apply d_cons | with_reducible apply a_cons | with_reducible apply o_some
  | with_reducible apply e_add | with_reducible apply e_sub | with_reducible apply e_lt | with_reducible apply e_le | with_reducible apply e_gt | with_reducible apply e_ge
  | with_reducible apply e_mul | with_reducible apply e_mod | with_reducible apply e_fdiv
  | with_reducible apply e_eqA | with_reducible apply e_neA
  | with_reducible apply e_isN | with_reducible apply e_notN | with_reducible apply e_notV | with_reducible apply et_test | with_reducible apply et_B | with_reducible apply et_not
  | with_reducible apply et_and2 | with_reducible apply et_or2 | with_reducible apply e_andV2 | with_reducible apply e_orV2
  | with_reducible apply e_tupS | with_reducible apply e_lstS | exact e_dnew
  | with_reducible apply e_lenA
  | (with_reducible apply e_cb (hr := cq_abs)) | (with_reducible apply e_cb (hr := cq_int1)) | (with_reducible apply e_cb (hr := cq_max2)) | (with_reducible apply e_cb (hr := cq_min2))
  | with_reducible apply e_call | with_reducible apply e_meth
  | with_reducible apply e_din | with_reducible apply e_dnotin | with_reducible apply e_dget | with_reducible apply e_dget1 | with_reducible apply e_dget2)
local macro_rules | `(tactic| walk_at "ev") => `(tactic| repeat' (walk_at "ev1"))
variable {P : Program} {w : World} {K : Frag} {mg : Str → Option Value} {base : Heap}
/-! ### Land(..) -/
def srt2 (a b : Str) : Str × Str := if sortedS [a, b] = true then (a, b) else (b, a)
theorem perm2 {a b : Str} {ys : List Str} (h : ys.Perm [a, b]) : ys = [a, b] ∨ ys = [b, a] := by
  have hl := h.length_eq
  match ys, hl with
  | [c, d], _ =>
    have hc : c ∈ [a, b] := h.mem_iff.mp List.mem_cons_self
    have : [c, d].Perm [a, b] := h
    simp only [List.mem_cons, List.not_mem_nil, or_false] at hc
    rcases hc with rfl | rfl
    · left
      have := (List.perm_cons c).mp this
      have := List.perm_singleton.mp this
      rw [List.cons.injEq] at this
      rw [this.1]
    · right
      have h2 : [c, d].Perm [c, a] := this.trans (List.Perm.swap _ _ _)
      have := (List.perm_cons c).mp h2
      have := List.perm_singleton.mp this
      rw [List.cons.injEq] at this
      rw [this.1]
theorem asymm2 {a b : Str} (h1 : sortedS [a, b] = true) (h2 : sortedS [b, a] = true) : a = b := by
  have h1 : (!ltCps b.cps.toList a.cps.toList && true) = true := h1
  have h2 : (!ltCps a.cps.toList b.cps.toList && true) = true := h2
  rw [ltCps_eq, Bool.and_true, Bool.not_eq_true', decide_eq_false_iff_not] at h1 h2
  have e : a.cps.toList = b.cps.toList := List.le_antisymm h1 h2
  have hc : a.cps = b.cps := Array.toList_inj.mp e
  cases a
  cases b
  simp only [Str.mk.injEq]
  exact hc
theorem srt_of {a b : Str} {ys : List Str} (h : ys.Perm [a, b]) (hs : sortedS ys = true) : ys = [(srt2 a b).1, (srt2 a b).2] := by
  unfold srt2
  rcases perm2 h with rfl | rfl
  · rw [if_pos hs]
  · by_cases k : sortedS [a, b] = true
    · rw [if_pos k, asymm2 k hs]
    · rw [if_neg k]
theorem srt_pair {a b c d : Str} (h : srt2 a b = srt2 c d) : (a, b) = (c, d) ∨ (a, b) = (d, c) := by
  unfold srt2 at h
  split at h <;> split at h <;> simp only [Prod.mk.injEq] at h ⊢ <;> obtain ⟨rfl, rfl⟩ := h <;> simp
theorem srt_mem (a b : Str) : (srt2 a b = (a, b)) ∨ (srt2 a b = (b, a)) := by
  unfold srt2
  split
  · exact .inl rfl
  · exact .inr rfl
def RL (K : Frag) (args : List SV) (fs : List (Str × PyData)) : Prop := ∃ p : Pt, args = [.d (.list (p.winds.map .str)), .d (.list (p.places.map .str)), .d (.list (p.links.map eLk)), .d (.list (p.paths.map ePa))] ∧ PtOk p ∧ fs = landF p
/-- C(k = v, ..) -/
theorem e_makeK {C : Addr} {Γ : List SV} {tk : TA} {n : Nat} {args : List SV} {R : List SV → List (Str × PyData) → Prop} {fs : List (Str × PyData)} (h : EvA tk Γ args) (hn : args.length = n) (hR : R args fs) : Ev (tMakeK C 0 n (spNew C R) (fun us ws => us ++ ws) E0 tNil tk) Γ (.obj C fs) := fun H0 F σ H Q S q =>
  h H0 F σ H _ S fun vs F1 H1 g1 d1 => ⟨rfl, by rw [← paired_len d1]; exact hn, fun x dx hx hdx hne => by
    have hF1 : ∀ b, H1 b = none → F1 b = none := fun b hb => g1.ex.free hb
    have old : ∀ b o, H1 b = some o → (upd (upd H1 dx (.own x)) x (.ins C dx [])) b = some o := fun b o hb => by
      rw [upd_ne (fun e => by rw [e, hx] at hb; cases hb), upd_ne (fun e => by rw [e, hdx] at hb; cases hb)]
      exact hb
    refine ⟨F1, x, dx, args, vs, fs, rfl, upd_same, hF1 x hx, fun b o hb => old b o (g1.ex _ _ hb), AOkL.but (fun C' dx' fs' d hd => ?_) d1, hR, fun F' H' dx' vfs g hFx ha hf => ⟨rfl, q _ F' H' (g1.trans ⟨g.f, fun b o hb => g.h _ _ ?_, g.ex, fun b hb => ?_⟩) ⟨x, dx', vfs, rfl, ha, hf⟩⟩⟩
    · unfold Ef.but
      rw [if_neg (fun e => by rw [e, hx] at hd; cases hd)]
      exact old _ _ hd
    · unfold Ef.but
      rw [if_neg (fun e => by rw [e, hx] at hb; cases hb)]
      exact old _ _ hb
    · rcases g.new b hb with k | k
      · exact .inl k
      · refine .inr ?_
        unfold Ef.but at k
        by_cases e : b = x
        · rw [e]; exact hx
        · rw [if_neg e, upd_ne e] at k
          by_cases e2 : b = dx
          · rw [e2]; exact hdx
          · rw [upd_ne e2] at k
            exact k⟩
def putFD (f : Str) (v : PyData) : List (Str × PyData) → List (Str × PyData)
  | [] => [(f, v)]
  | (g, x) :: r => if g = f then (g, v) :: r else (g, x) :: putFD f v r
theorem fsq_put {F : Hp} {f : Str} {v : V} {d : PyData} (hd : Dq F v d) : ∀ {vs : List (Str × V)} {fs : List (Str × PyData)}, FSq F vs fs → FSq F (putF f v vs) (putFD f d fs)
  | _, _, .nil => .cons ⟨rfl, hd⟩ .nil
  | _, _, .cons (a := ⟨x, u⟩) (b := ⟨y, e⟩) h1 t => by
    obtain ⟨e1, e2⟩ := h1
    (try dsimp only at e1 e2)
    subst e1
    unfold putF putFD
    by_cases h : x = f
    · rw [if_pos h, if_pos h]
      exact .cons ⟨rfl, hd⟩ t
    · rw [if_neg h, if_neg h]
      exact .cons ⟨rfl, e2⟩ (fsq_put hd t)
theorem fsq_len {F : Hp} : ∀ {vs : List (Str × V)} {fs : List (Str × PyData)}, FSq F vs fs → vs.length = fs.length
  | _, _, .nil => rfl
  | _, _, .cons _ t => congrArg (· + 1) (fsq_len t)
/-- nothing but data -/
def SV.isD : SV → Bool
  | .d _ => true
  | .u => true
  | _ => false
structure LSat (C a : Addr) (F0 H0 : Hp) (Γr : List SV) (fs : List (Str × PyData)) (σ : L2.St) (H : Hp) : Prop where
  ex : ∃ F, Gr F0 H0 F H ∧ SatF H0 F (.obj C fs :: Γr) σ H ∧ F a = none
  at0 : σ[0]? = some (some (.ref a))
section
variable {C a : Addr} {F0 H0 : Hp} {Γr : List SV} {fs fs' : List (Str × PyData)} {D : Ends} {te : TE} {t u : TS} {x : PyData} {r : SV}
def SL (C a : Addr) (F0 H0 : Hp) (t : TS) (Γr : List SV) (fs : List (Str × PyData)) (D : Ends) : Prop := ∀ σ H, LSat C a F0 H0 Γr fs σ H → t D σ H
theorem sl_run {σ : L2.St} {H : Hp} (hs : LSat C a F0 H0 Γr fs σ H) (h : SL C a F0 H0 t Γr fs D) : t D σ H := h σ H hs
theorem sl_seq (h : SL C a F0 H0 t Γr fs { D with nx := u D }) : SL C a F0 H0 (tSeq t u) Γr fs D := h
theorem sl_drop (he : Ev te (.obj C fs :: Γr) r) (h : SL C a F0 H0 u Γr fs D) : SL C a F0 H0 (tSeq (tDrop te) u) Γr fs D := fun σ H ⟨⟨F, g, S, hF⟩, at0⟩ =>
  he H0 F σ H _ S fun v F1 H1 g1 d1 => h σ H1 ⟨⟨F1, g.trans g1, S.grow g1, by
    obtain ⟨b, dx, vfs, e1, e2, _⟩ := S.slot 0 _ rfl
    rw [at0] at e1
    cases e1
    exact g1.no hF e2⟩, at0⟩
theorem sl_last (he : Ev te (.obj C fs :: Γr) r) (h : ∀ σ H, LSat C a F0 H0 Γr fs σ H → D.nx σ H) : SL C a F0 H0 (tDrop te) Γr fs D := fun σ H ⟨⟨F, g, S, hF⟩, at0⟩ =>
  he H0 F σ H _ S fun v F1 H1 g1 d1 => h σ H1 ⟨⟨F1, g.trans g1, S.grow g1, by
    obtain ⟨b, dx, vfs, e1, e2, _⟩ := S.slot 0 _ rfl
    rw [at0] at e1
    cases e1
    exact g1.no hF e2⟩, at0⟩
theorem sl_fld {K : Frag} {f : Str} (cl : Cls K C) (na : NoAttr K C f) (hd : ∀ s ∈ Γr, s.isD = true) (h0 : H0 a = none) (he : Ev te (.obj C fs :: Γr) (.d x)) (hl : fs.length < 1000) (hp : putFD f x fs = fs') (h : SL C a F0 H0 u Γr fs' D) : SL C a F0 H0 (tSeq (sFld K (tVar 0) te f) u) Γr fs D := fun σ H ⟨⟨F, g, S, hF⟩, at0⟩ =>
  he H0 F σ H _ S fun v F1 H1 g1 d1 => by
    have S1 := S.grow g1
    obtain ⟨b, dx, vfs, e1, e2, e3⟩ := S.slot 0 _ rfl
    rw [at0] at e1
    cases e1
    have hF1 : F1 a = none := g1.no hF e2
    have e2' := g1.h _ _ e2
    have e3' := FSq.up g1.f e3
    refine ⟨_, at0, a, C, dx, vfs, rfl, e2', cl, na, by rw [fsq_len e3]; exact hl, h σ _ ⟨⟨F1, (g.trans g1).write hF1 h0, ⟨S1.len, fun b q hb => ?_, fun b q hb => ?_, fun i s hs => ?_, ?_⟩, hF1⟩, at0⟩⟩
    · rw [upd_ne (ne_of_none hb hF1)]
      exact S1.ex _ _ hb
    · rw [upd_ne (ne_of_none hb h0)]
      exact S1.ex0 _ _ hb
    · cases i with
      | zero =>
        cases hs
        exact ⟨a, dx, _, at0, upd_same, by rw [← hp]; exact fsq_put d1 e3'⟩
      | succ i =>
        have hs : Γr[i]? = some s := hs
        have k := S1.slot (i + 1) s hs
        have hm := hd s (List.mem_of_getElem? hs)
        cases s with
        | u => trivial
        | d x => exact k
        | dic _ => cases hm
        | obj _ _ => cases hm
        | ml _ => cases hm
        | md _ => cases hm
        | lk _ => cases hm
    · rintro i j b ⟨s, hs, hm⟩
      exfalso
      cases i with
      | zero => cases hs; cases hm
      | succ i =>
        have hs : Γr[i]? = some s := hs
        have := hd s (List.mem_of_getElem? hs)
        cases s <;> first | cases hm; done | cases this; done
end
end Ef
/-! The defs about weathers and fires. -/
namespace Ef
open PySem PySem.Spec PyProof.Rows L2
local macro_rules | `(tactic| walk_at "set") => `(tactic| (repeat' (first | exact SetAt.z | apply SetAt.s)))
local macro_rules | `(tactic| walk_at "le") => `(tactic| (repeat' (first | exact Le.nil | (with_reducible apply Le.eq) | (with_reducible apply Le.u) | (with_reducible apply Le.as) | rfl)))
local macro_rules | `(tactic| walk_at "ev1") => `(tactic| first
  | exact e_int | exact e_str | exact e_bl | exact e_non
  | exact e_var rfl | exact d_nil | exact a_nil | exact et_yes | exact o_none | exact k_own rfl
  | exact e_lenM rfl
  | ((with_reducible show lenK _ = true); rfl) | ((with_reducible show eqK _ _ = true); rfl) | ((with_reducible show smallL _ = true); rfl)
  | with_reducible apply d_cons | with_reducible apply a_cons | with_reducible apply o_some
  | with_reducible apply e_add | with_reducible apply e_sub | with_reducible apply e_lt | with_reducible apply e_le | with_reducible apply e_gt | with_reducible apply e_ge
  | with_reducible apply e_mul | with_reducible apply e_mod | with_reducible apply e_fdiv
  | with_reducible apply e_eqA | with_reducible apply e_neA
  | with_reducible apply e_isN | with_reducible apply e_notN | with_reducible apply e_notV | with_reducible apply et_test | with_reducible apply et_B | with_reducible apply et_not
  | with_reducible apply et_and2 | with_reducible apply et_or2 | with_reducible apply e_andV2 | with_reducible apply e_orV2
  | with_reducible apply e_tupS | with_reducible apply e_lstS | exact e_dnew
  | with_reducible apply e_lenA
  | (with_reducible apply e_cb (hr := cq_abs)) | (with_reducible apply e_cb (hr := cq_int1)) | (with_reducible apply e_cb (hr := cq_max2)) | (with_reducible apply e_cb (hr := cq_min2))
  | with_reducible apply e_call | with_reducible apply e_meth
  | with_reducible apply e_din | with_reducible apply e_dnotin | with_reducible apply e_dget | with_reducible apply e_dget1 | with_reducible apply e_dget2)
local macro_rules | `(tactic| walk_at "ev") => `(tactic| repeat' (walk_at "ev1"))
variable {P : Program} {w : World} {K : Frag} {mg : Str → Option Value} {base : Heap}
theorem ok_Land_init (T : Tx K mg) : FnOk P w K mg base CX0 4 (He.fAd K ("Land", some "__init__")) T.fd_Land_init ["self", "winds", "places", "links", "paths"] (spNew (LandC K) (RL K)) := by
  refine T.F_Land_init.ok sc_Land_init (fun vs H Q E ⟨F, a, dx, args, xs, fs, e1, _, _, _, h5, ⟨p, e6, _⟩, _⟩ => ?_) (fun cdv A outer s H vs Q E hr ⟨F, a, dx, args, xs, fs, e1, h2, h3, h4, h5, ⟨p, e6, hp, e7⟩, q⟩ => ?_)
  · subst e1 e6
    have := paired_len h5
    rw [List.length_cons, ← this]
    rfl
  subst e1 e6 e7
  have hder : ∃ t, PSs (cxOf CX0 P w K mg base N_Land_init "Land.__init__" (defScope s_Land_init) (He.fAd K ("Land", some "__init__")) cdv A outer s H E0).nox (defBody s_Land_init) t ∧ t { nx := fun _ H' => Q .non H', rt := Q } (L2.start N_Land_init (.ref a :: xs)) H := by
    refine ⟨_, (pss_cons (ps_expr (pe_call (ok_require T) (hr.mono (by decide)) (by rfl) T.g_require T.F_require.kp (b_require T) .nil pass0 (pa_cons (pe_and (pe_chain op_le op_le pe_int (pe_callB call_lenQ (by rfl) T.m_len (by decide +kernel) (pa_cons (pv 1) pa_nil)) (pe_glob (v := .int 4) rfl T.i_MOST_WINDS ⟨_, rfl⟩)) (pe_and (pe_callB (cr_all rfl) (by rfl) T.m_all (by decide +kernel) (pa_cons (pe_lc (own := [("wind", 5)]) (g := (gName 5)) (tt := tYes) (te := (tCall _ [] E0 (tCons (tVar 5) tNil))) rfl sc_Land_init.nd (pi_list (pv 1)) (blkOk_by (by kernel_rfl)) (fun _ _ _ _ _ => (pg_name (i := 5) sc_Land_init.nd rfl (Or.inl rfl))) (fun _ _ _ _ _ => pts_nil) (fun _ _ _ _ _ => (pe_call (ok_is_name T) (hr.mono (by decide)) (by rfl) T.g_is_name T.F_is_name.kp (b_is_name T) .nil pass0 (pa_cons (pv 5) pa_nil)))) pa_nil)) (pe_one (pe_call (ok_are_different T) (hr.mono (by decide)) (by rfl) T.g_are_different T.F_are_different.kp (b_are_different T) .nil pass0 (pa_cons (pv 1) pa_nil))))) pa_nil)))
    (pss_cons (ps_expr (pe_call (ok_require T) (hr.mono (by decide)) (by rfl) T.g_require T.F_require.kp (b_require T) .nil pass0 (pa_cons (pe_and (pe_chain op_le op_le pe_int (pe_callB call_lenQ (by rfl) T.m_len (by decide +kernel) (pa_cons (pv 2) pa_nil)) (pe_glob (v := .int 24) rfl T.i_MOST_PLACES ⟨_, rfl⟩)) (pe_one (pe_callB (cr_all rfl) (by rfl) T.m_all (by decide +kernel) (pa_cons (pe_lc (own := [("place", 6)]) (g := (gName 6)) (tt := tYes) (te := (tCall _ [] E0 (tCons (tVar 6) tNil))) rfl sc_Land_init.nd (pi_list (pv 2)) (blkOk_by (by kernel_rfl)) (fun _ _ _ _ _ => (pg_name (i := 6) sc_Land_init.nd rfl (Or.inl rfl))) (fun _ _ _ _ _ => pts_nil) (fun _ _ _ _ _ => (pe_call (ok_is_name T) (hr.mono (by decide)) (by rfl) T.g_is_name T.F_is_name.kp (b_is_name T) .nil pass0 (pa_cons (pv 6) pa_nil)))) pa_nil)))) pa_nil)))
    (pss_cons (ps_expr (pe_call (ok_require T) (hr.mono (by decide)) (by rfl) T.g_require T.F_require.kp (b_require T) .nil pass0 (pa_cons (pe_call (ok_are_different T) (hr.mono (by decide)) (by rfl) T.g_are_different T.F_are_different.kp (b_are_different T) .nil pass0 (pa_cons (pv 2) pa_nil)) pa_nil)))
    (pss_cons (ps_fld (pv 0) (pe_callTy call_tupN (by rfl) T.m_tuple (by decide +kernel) (pa_cons (pv 1) pa_nil)) rfl)
    (pss_cons (ps_fld (pv 0) (pe_callTy call_tupN (by rfl) T.m_tuple (by decide +kernel) (pa_cons (pv 2) pa_nil)) rfl)
    (pss_cons (ps_expr (pe_call (ok_require T) (hr.mono (by decide)) (by rfl) T.g_require T.F_require.kp (b_require T) .nil pass0 (pa_cons (pe_cmpR op_le (pe_callB call_lenQ (by rfl) T.m_len (by decide +kernel) (pa_cons (pv 3) pa_nil)) (pe_glob (v := .int 60) rfl T.i_MOST_LINKS ⟨_, rfl⟩) (nomark _)) pa_nil)))
    (pss_cons (ps_fld (pv 0) (pe_callTy call_tupN (by rfl) T.m_tuple (by decide +kernel) (pa_cons (pe_lc (own := [("link", 7)]) (g := (gName 7)) (tt := tYes) (te := (tMeth (He.ga K "Land") "checked_link" _ [] E0 (tVar 0) (tCons (tVar 7) tNil))) rfl sc_Land_init.nd (pi_list (pv 3)) (blkOk_by (by kernel_rfl)) (fun _ _ _ _ _ => (pg_name (i := 7) sc_Land_init.nd rfl (Or.inl rfl))) (fun _ _ _ _ _ => pts_nil) (fun _ _ _ _ _ => (pe_meth (pv 0) T.cLand T.me_checked_link (ok_Land_checked_link T) (hr.mono (by decide)) (b_Land_checked_link T) .nil pass0 (pa_cons (pv 7) pa_nil)))) pa_nil)) rfl)
    (pss_cons (ps_expr (pe_call (ok_require T) (hr.mono (by decide)) (by rfl) T.g_require T.F_require.kp (b_require T) .nil pass0 (pa_cons (pe_call (ok_are_differentT T) (hr.mono (by decide)) (by rfl) T.g_are_different T.F_are_different.kp (b_are_different T) .nil pass0 (pa_cons (pe_prop (pv 0) T.cLand T.prop (ok_Land_link_names T) (hr.mono (by decide)) (b_Land_link_names T) .nil pass0 rfl) pa_nil)) pa_nil)))
    (pss_cons (ps_expr (pe_call (ok_require T) (hr.mono (by decide)) (by rfl) T.g_require T.F_require.kp (b_require T) .nil pass0 (pa_cons (pe_cmpR op_le (pe_callB call_lenQ (by rfl) T.m_len (by decide +kernel) (pa_cons (pv 4) pa_nil)) (pe_glob (v := .int 60) rfl T.i_MOST_PATHS ⟨_, rfl⟩) (nomark _)) pa_nil)))
    (pss_cons (ps_fld (pv 0) (pe_callTy call_tupN (by rfl) T.m_tuple (by decide +kernel) (pa_cons (pe_lc (own := [("path", 8)]) (g := (gName 8)) (tt := tYes) (te := (tMeth (He.ga K "Land") "checked_path" _ [] E0 (tVar 0) (tCons (tVar 8) tNil))) rfl sc_Land_init.nd (pi_list (pv 4)) (blkOk_by (by kernel_rfl)) (fun _ _ _ _ _ => (pg_name (i := 8) sc_Land_init.nd rfl (Or.inl rfl))) (fun _ _ _ _ _ => pts_nil) (fun _ _ _ _ _ => (pe_meth (pv 0) T.cLand T.me_checked_path (ok_Land_checked_path T) (hr.mono (by decide)) (b_Land_checked_path T) .nil pass0 (pa_cons (pv 8) pa_nil)))) pa_nil)) rfl)
    (pss_one (ps_expr (pe_call (ok_require T) (hr.mono (by decide)) (by rfl) T.g_require T.F_require.kp (b_require T) .nil pass0 (pa_cons (pe_call (ok_are_differentP T) (hr.mono (by decide)) (by rfl) T.g_are_different T.F_are_different.kp (b_are_different T) .nil pass0 (pa_cons (pe_lc (own := [("path", 8)]) (g := (gName 8)) (tt := tYes) (te := (tCB (rTupN K) (tCons (tCB (rSortedT K) (tCons (tSl (rSlTN K) (tVar 8) tNoPart (tPart (tC (.int 2)))) tNil)) tNil))) rfl sc_Land_init.nd (pi_tup (pe_fld (pv 0) rfl)) (blkOk_by (by kernel_rfl)) (fun _ _ _ _ _ => (pg_name (i := 8) sc_Land_init.nd rfl (Or.inl rfl))) (fun _ _ _ _ _ => pts_nil) (fun _ _ _ _ _ => (pe_callTy call_tupN (by rfl) T.m_tuple (by decide +kernel) (pa_cons (pe_callB (cr_sortedT rfl) (by rfl) T.m_sorted (by decide +kernel) (pa_cons (pe_slice sl_tupN (pv 8) po_none (po_some pe_int)) pa_nil)) pa_nil)))) pa_nil)) pa_nil)))))))))))))), ?_⟩
    have gs := gr_self a h4 h3
    have a1 : AOkL F (but a H) [.u, .d (.list (p.winds.map .str)), .d (.list (p.places.map .str)), .d (.list (p.links.map eLk)), .d (.list (p.paths.map ePa))] (.ref a :: xs) := .cons ⟨rfl, trivial⟩ h5
    obtain ⟨Fs, gF, Sx⟩ := sat_start (N := N_Land_init) gs.ex a1 (show 5 ≤ 9 by decide)
    have Sx : SatF (but a H) Fs [.u, .d (.list (p.winds.map .str)), .d (.list (p.places.map .str)), .d (.list (p.links.map eLk)), .d (.list (p.paths.map ePa)), .u, .u, .u, .u] (L2.start N_Land_init (.ref a :: xs)) (but a H) := Sx
    have at0 : (L2.start N_Land_init (.ref a :: xs))[0]? = some (some (.ref a)) := rfl
    have ha0 : (but a H) a = none := by unfold but; rw [if_pos rfl]
    have hFa : Fs a = none := by
      cases hc : Fs a with
      | none => rfl
      | some o =>
        have := Sx.ex _ _ hc
        rw [ha0] at this
        cases this
    generalize L2.start N_Land_init (.ref a :: xs) = σ0 at *
    have S0 : SatF (but a H) Fs [.u, .d (.list (p.winds.map .str)), .d (.list (p.places.map .str)), .d (.list (p.links.map eLk)), .d (.list (p.paths.map ePa)), .u, .u, .u, .u] σ0 H := Sx.grow ⟨Same.refl _, but_same, Sx.ex.trans but_same, fun _ hb => .inl hb⟩
    have G0 : Gr F (but a H) Fs H := ⟨gF.f, but_same, Sx.ex.trans but_same, gF.new⟩
    have hls : LSat (LandC K) a F (but a H) [.d (.list (p.winds.map .str)), .d (.list (p.places.map .str)), .d (.list (p.links.map eLk)), .d (.list (p.paths.map ePa)), .u, .u, .u, .u] [] σ0 H := by
      refine ⟨⟨Fs, G0, ⟨S0.len, S0.ex, S0.ex0, fun i s hs => ?_, ?_⟩, hFa⟩, at0⟩
      · cases i with
        | zero =>
          cases hs
          exact ⟨a, dx, [], at0, h2, .nil⟩
        | succ i => exact S0.slot (i + 1) s hs
      · rintro i j b ⟨s, hs, hm⟩ hj ci cj
        cases i with
        | zero => cases hs; cases hm
        | succ i =>
          obtain ⟨s', hs', hm'⟩ := hj
          cases j with
          | zero => cases hs'; cases hm'
          | succ j => exact S0.sep (i + 1) (j + 1) b ⟨s, hs, hm⟩ ⟨s', hs', hm'⟩ ci cj
    refine sl_run hls ?_
    clear hls G0 S0 hFa Sx gF a1 gs at0 h5
    have hD : ∀ s ∈ [SV.d (.list (p.winds.map .str)), .d (.list (p.places.map .str)), .d (.list (p.links.map eLk)), .d (.list (p.paths.map ePa)), .u, .u, .u, .u], s.isD = true := by
      intro s hs
      simp only [List.mem_cons, List.not_mem_nil, or_false] at hs
      rcases hs with rfl | rfl | rfl | rfl | rfl | rfl | rfl | rfl <;> rfl
    have hwl := hp.wl
    have hpl := hp.pl
    have hll := hp.ll
    have hal := hp.al
    have c1 : (decide ((1 : Int) ≤ ((p.winds.map PyData.str).length : Nat)) && decide ((((p.winds.map PyData.str).length : Nat) : Int) ≤ 4)) = true := by
      rw [List.length_map]
      have h1 : (1 : Int) ≤ (p.winds.length : Nat) := by omega
      have h2 : ((p.winds.length : Nat) : Int) ≤ 4 := by omega
      rw [decide_eq_true h1, decide_eq_true h2]
      rfl
    have c2 : (decide ((1 : Int) ≤ ((p.places.map PyData.str).length : Nat)) && decide ((((p.places.map PyData.str).length : Nat) : Int) ≤ 24)) = true := by
      rw [List.length_map]
      have h1 : (1 : Int) ≤ (p.places.length : Nat) := by omega
      have h2 : ((p.places.length : Nat) : Int) ≤ 24 := by omega
      rw [decide_eq_true h1, decide_eq_true h2]
      rfl
    have sz : ∀ {n : Nat}, n ≤ 60 → n < sizeLine := fun hn => Nat.lt_of_le_of_lt hn (by decide)
    have eall : ∀ {Γ : List SV} {te : TE} {xs : List Str}, Ev te Γ (.ml (xs.map fun _ => PyData.bool true)) → Ev (tCB (rAll K) (tCons te tNil)) Γ (.d (.bool true)) := fun {Γ te xs} h => by
      have k := cq_all (K := K) (bs := xs.map fun _ => true)
      rw [List.map_map] at k
      have e2 : (xs.map fun _ => true).all id = true := by simp
      rw [e2] at k
      exact e_cb (d_cons (e_freeze h) d_nil) k
    refine sl_drop (e_call (args := [.d (.bool true)]) (a_cons (e_andV (b := true) (b' := true) (e_eq (e_chain (x := .int 1) (z := .int 4) e_int (e_lenA (e_var rfl) rfl) (rq_I0 rfl) (fun _ => e_int) (fun _ => rq_I0 rfl)) (congrArg PyData.bool c1)) fun _ => e_andV (b := true) (b' := true) (eall (xs := p.winds) (e_lcM p.winds .str (fun _ => .bool true) (wk_list (e_var rfl)).c (sz (by omega)) fun i x hx => ⟨_, v_name (by walk_at "set"), e_call (a_cons (e_var rfl) a_nil) (.mk x (hp.wn x (List.mem_of_getElem? hx)))⟩)) fun _ => e_call (a_cons (e_var rfl) a_nil) (.mk _ hp.wd)) a_nil) .mk) ?_
    refine sl_drop (e_call (args := [.d (.bool true)]) (a_cons (e_andV (b := true) (b' := true) (e_eq (e_chain (x := .int 1) (z := .int 24) e_int (e_lenA (e_var rfl) rfl) (rq_I0 rfl) (fun _ => e_int) (fun _ => rq_I0 rfl)) (congrArg PyData.bool c2)) fun _ => eall (xs := p.places) (e_lcM p.places .str (fun _ => .bool true) (wk_list (e_var rfl)).c (sz (by omega)) fun i x hx => ⟨_, v_name (by walk_at "set"), e_call (a_cons (e_var rfl) a_nil) (.mk x (hp.pn x (List.mem_of_getElem? hx)))⟩)) a_nil) .mk) ?_
    refine sl_drop (e_call (args := [.d (.bool true)]) (a_cons (e_call (a_cons (e_var rfl) a_nil) (.mk _ hp.pd)) a_nil) .mk) ?_
    refine sl_fld T.cLand T.n_winds hD ha0 (e_cb (d_cons (e_var rfl) d_nil) cq_tupleL) (by decide) rfl ?_
    refine sl_fld T.cLand T.n_places hD ha0 (e_cb (d_cons (e_var rfl) d_nil) cq_tupleL) (by show 1 < 1000; decide) (fs' := [("winds", .tuple (p.winds.map .str)), ("places", .tuple (p.places.map .str))]) rfl ?_
    refine sl_drop (e_call (args := [.d (.bool true)]) (a_cons (e_eq (y := .bool true) (e_le (e_lenA (e_var rfl) rfl) e_int) ?_) a_nil) .mk) ?_
    · simp only [lenF, List.length_map]
      exact congrArg PyData.bool (decide_eq_true (by omega))
    refine sl_fld T.cLand T.n_links hD ha0 (e_cb (d_cons (e_freeze (e_lcM p.links eLk eLk (wk_list (e_var rfl)).c (sz hll) fun i l hl => ⟨_, v_name (by walk_at "set"), e_meth (e_var rfl) rfl (a_cons (e_var rfl) a_nil) (.mk _ p.winds p.places l rfl rfl (hp.lo l (List.mem_of_getElem? hl)) (by omega) rfl)⟩)) d_nil) cq_tupleL) (by show 2 < 1000; decide) (fs' := [("winds", .tuple (p.winds.map .str)), ("places", .tuple (p.places.map .str)), ("links", .tuple (p.links.map eLk))]) rfl ?_
    refine sl_drop (e_call (args := [.d (.bool true)]) (a_cons (e_call (a_cons (e_prop (e_var rfl) (.mk _ p.links rfl (by omega))) a_nil) (.mk _ hp.ld)) a_nil) .mk) ?_
    refine sl_drop (e_call (args := [.d (.bool true)]) (a_cons (e_eq (y := .bool true) (e_le (e_lenA (e_var rfl) rfl) e_int) ?_) a_nil) .mk) ?_
    · simp only [lenF, List.length_map]
      exact congrArg PyData.bool (decide_eq_true (by omega))
    refine sl_fld T.cLand T.n_paths hD ha0 (e_cb (d_cons (e_freeze (e_lcM p.paths ePa ePa (wk_list (e_var rfl)).c (sz hal) fun i l hl => ⟨_, v_name (by walk_at "set"), e_meth (e_var rfl) rfl (a_cons (e_var rfl) a_nil) (.mk _ p.places l rfl (hp.ao l (List.mem_of_getElem? hl)) rfl)⟩)) d_nil) cq_tupleL) (by show 3 < 1000; decide) (fs' := landF p) rfl ?_
    have hn : (p.paths.map fun l => srt2 l.one l.oth).Nodup := by
      refine List.pairwise_map.mpr (hp.ad.imp fun {a b} hab e => ?_)
      rcases srt_pair e with k | k
      · exact hab.1 k
      · exact hab.2 k
    refine sl_last (e_call (args := [.d (.bool true)]) (a_cons (e_call (a_cons (e_eq (e_freeze (e_lcM p.paths ePa (fun l => ePr (srt2 l.one l.oth)) (wk_tup (e_fld T.cLand T.n_paths (e_var rfl) rfl)).c (sz hal) fun i l hl => ⟨_, v_name (d := ePa l) (by walk_at "set"), ?_⟩)) (congrArg PyData.list (show _ = (p.paths.map fun l => srt2 l.one l.oth).map ePr by rw [List.map_map]; rfl))) a_nil) (.mk _ hn fun x hx => ?_)) a_nil) .mk) ?_
    · refine e_cb (d_cons (e_freeze (ds := [.str (srt2 l.one l.oth).1, .str (srt2 l.one l.oth).2]) (e_cb (d_cons (e_eq (y := .tuple ([l.one, l.oth].map .str)) (e_slT (ds := [.str l.one, .str l.oth, .int l.m]) (e_var rfl) o_none (o_some e_int) ?_) rfl) d_nil) (cq_sortedT (by show 2 < 64; decide) fun ys k1 k2 => ?_))) d_nil) cq_tupleL
      · show ¬ (HT.sIx 3 0 none = 0 ∧ HT.sIx 3 3 (some 2) = 3)
        decide
      · rw [srt_of k1 k2]
        rfl
    · obtain ⟨l, hl, rfl⟩ := List.mem_map.mp hx
      have ho := hp.ao l hl
      rcases srt_mem l.one l.oth with k | k <;> rw [k]
      · exact ⟨hp.pn _ ho.1, hp.pn _ ho.2.1⟩
      · exact ⟨hp.pn _ ho.2.1, hp.pn _ ho.1⟩
    · rintro σ H' ⟨⟨F', g, S, hF⟩, at0⟩
      obtain ⟨b, dx', vfs, e1, e2, e3⟩ := S.slot 0 _ rfl
      rw [at0] at e1
      cases e1
      exact q F' H' dx' vfs g hF e2 e3
  obtain ⟨t, h6, h7⟩ := hder
  exact ⟨t, PSs.nox h6, h7⟩
end Ef
/-! The law's own defs. -/
namespace Ef
open PySem PySem.Spec PyProof.Rows L2
local macro_rules | `(tactic| walk_at "set") => `(tactic| (repeat' (first | exact SetAt.z | apply SetAt.s)))
local macro_rules | `(tactic| walk_at "le") => `(tactic| (repeat' (first | exact Le.nil | (with_reducible apply Le.eq) | (with_reducible apply Le.u) | (with_reducible apply Le.as) | rfl)))
local macro_rules | `(tactic| walk_at "ev1") => `(tactic| first
  | exact e_int | exact e_str | exact e_bl | exact e_non
  | exact e_var rfl | exact d_nil | exact a_nil | exact et_yes | exact o_none | exact k_own rfl
  | exact e_lenM rfl
  | ((with_reducible show lenK _ = true); rfl) | ((with_reducible show eqK _ _ = true); rfl) | ((with_reducible show smallL _ = true); rfl)
  | with_reducible apply d_cons | with_reducible apply a_cons | with_reducible apply o_some
  | with_reducible apply e_add | with_reducible apply e_sub | with_reducible apply e_lt | with_reducible apply e_le | with_reducible apply e_gt | with_reducible apply e_ge
  | with_reducible apply e_mul | with_reducible apply e_mod | with_reducible apply e_fdiv
  | with_reducible apply e_eqA | with_reducible apply e_neA
  | with_reducible apply e_isN | with_reducible apply e_notN | with_reducible apply e_notV | with_reducible apply et_test | with_reducible apply et_B | with_reducible apply et_not
  | with_reducible apply et_and2 | with_reducible apply et_or2 | with_reducible apply e_andV2 | with_reducible apply e_orV2
  | with_reducible apply e_tupS | with_reducible apply e_lstS | exact e_dnew
  | with_reducible apply e_lenA
  | (with_reducible apply e_cb (hr := cq_abs)) | (with_reducible apply e_cb (hr := cq_int1)) | (with_reducible apply e_cb (hr := cq_max2)) | (with_reducible apply e_cb (hr := cq_min2))
  | with_reducible apply e_call | with_reducible apply e_meth
  | with_reducible apply e_din | with_reducible apply e_dnotin | with_reducible apply e_dget | with_reducible apply e_dget1 | with_reducible apply e_dget2)
local macro_rules | `(tactic| walk_at "ev") => `(tactic| repeat' (walk_at "ev1"))
variable {P : Program} {w : World} {K : Frag} {mg : Str → Option Value} {base : Heap}
def absM (c : Int) : Int := if c < 0 then -c else c
def rowStep (c : Int) (s : Int × Int × List Int) (k : Nat) : Int × Int × List Int :=
  let mixed := (s.1 * 16807 + 271 * ((k : Int) + 3)) % 2147483629
  if (10 : Int) ^ (18 : Int).toNat ≤ absM c then (mixed, s.2.1 / 1009, s.2.2 ++ [s.2.1 % 1009]) else (mixed, s.2.1, s.2.2 ++ [mixed / 7 % 1009])
def rowM (c : Int) (n : Nat) : List Int := ((List.range n).foldl (rowStep c) ((absM c * 48271 + 69621) % 2147483647, absM c, [])).2.2
theorem rowStep_len (c : Int) : ∀ (l : List Nat) (s : Int × Int × List Int), (l.foldl (rowStep c) s).2.2.length = s.2.2.length + l.length
  | [], s => rfl
  | k :: l, s => by
    rw [List.foldl_cons, rowStep_len c l, List.length_cons]
    unfold rowStep
    dsimp only
    split <;> simp <;> omega
theorem rowM_len (c : Int) (n : Nat) : (rowM c n).length = n := by
  unfold rowM
  rw [rowStep_len]
  simp
def Num (x : Int) : Prop := 0 ≤ x ∧ x < 1009
theorem rowStep_num (c : Int) : ∀ (l : List Nat) (s : Int × Int × List Int), (∀ x ∈ s.2.2, Num x) → ∀ x ∈ (l.foldl (rowStep c) s).2.2, Num x
  | [], s, h => h
  | k :: l, s, h => by
    refine rowStep_num c l _ ?_
    unfold rowStep
    dsimp only
    split
    · intro x hx
      rcases List.mem_append.mp hx with hx | hx
      · exact h x hx
      · rw [List.mem_singleton.mp hx]
        exact ⟨Int.emod_nonneg _ (by decide), Int.emod_lt_of_pos _ (by decide)⟩
    · intro x hx
      rcases List.mem_append.mp hx with hx | hx
      · exact h x hx
      · rw [List.mem_singleton.mp hx]
        exact ⟨Int.emod_nonneg _ (by decide), Int.emod_lt_of_pos _ (by decide)⟩
theorem rowM_num (c : Int) (n : Nat) : ∀ x ∈ rowM c n, Num x := rowStep_num c _ _ (fun x hx => by cases hx)
theorem absM_eq (c : Int) : (if c < 0 then -c else c) = absM c := rfl
inductive R_l_row (K : Frag) : List SV → SV → Prop
  | mk (c : Int) (n : Nat) (hn : n < 1000) : R_l_row K [.d (.int c), .d (.int (n : Nat))] (.ml ((rowM c n).map .int))
theorem int_map (n : Nat) : rangeD (n : Int).toNat = (List.range n).map fun k => PyData.int (k : Nat) := by
  rw [Int.toNat_natCast]
  rfl
theorem ok_l_row (T : Tx K mg) : FnOk P w K mg base CX0 1 (He.fAd K ("_law_row", none)) T.fd_l_row ["_law_cell", "_law_many"] (spQ (R_l_row K)) := by
  refine okQ T.F_l_row sc_l_row (fun _ _ h => by cases h; rfl) (by decide) ?_
  rintro X ⟨cdv, A, outer, s, H, rfl, hr⟩ args r hR
  refine ⟨_, (pss_cons (ps_set (i := 2) sc_l_row.nd rfl (Or.inl rfl) (pe_lst pa_nil))
    (pss_cons (ps_set (i := 3) sc_l_row.nd rfl (Or.inl rfl) (pe_callB call_abs (by rfl) T.m_abs (by decide +kernel) (pa_cons (pv 0) pa_nil)))
    (pss_cons (ps_set (i := 4) sc_l_row.nd rfl (Or.inl rfl) (pe_op op_mod (pe_callTy call_int1 (by rfl) T.m_int (by decide +kernel) (pa_cons (pe_op op_add (pe_op op_mul (pv 3) pe_int) pe_int) pa_nil)) pe_int))
    (pss_cons (ps_for PassesOwn.never rfl (pi_range1 rfl T.m_range (pa_cons (pv 1) pa_nil)) (pg_name (i := 5) sc_l_row.nd rfl (Or.inl rfl))
      (pss_cons (ps_set (i := 4) sc_l_row.nd rfl (Or.inl rfl) (pe_op op_mod (pe_callTy call_int1 (by rfl) T.m_int (by decide +kernel) (pa_cons (pe_op op_add (pe_op op_mul (pv 4) pe_int) (pe_op op_mul pe_int (pe_op op_add (pv 5) pe_int))) pa_nil)) pe_int))
    (pss_one (ps_if (pt_cmpR op_ge (pe_callB call_abs (by rfl) T.m_abs (by decide +kernel) (pa_cons (pv 0) pa_nil)) (pe_op op_pow pe_int pe_int) (nomark _)) (pss_cons (ps_expr (pe_bm PySem.F.plainAttrs_list PySem.F.slot_list_append PySem.F.type_list_append mt_append (pv 2) (pa_cons (pe_op op_mod (pe_callTy call_int1 (by rfl) T.m_int (by decide +kernel) (pa_cons (pv 3) pa_nil)) pe_int) pa_nil)))
    (pss_one (ps_set (i := 3) sc_l_row.nd rfl (Or.inl rfl) (pe_op op_fdiv (pv 3) pe_int)))) (pss_one (ps_expr (pe_bm PySem.F.plainAttrs_list PySem.F.slot_list_append PySem.F.type_list_append mt_append (pv 2) (pa_cons (pe_op op_mod (pe_callTy call_int1 (by rfl) T.m_int (by decide +kernel) (pa_cons (pe_op op_fdiv (pv 4) pe_int) pa_nil)) pe_int) pa_nil))))))))
    (pss_one (ps_ret (pv 2))))))), ?_⟩
  intro F0 H0 D hrt hnx
  cases hR with
  | mk c n hn =>
  show SR F0 H0 _ [.d (.int c), .d (.int (n : Nat)), .u, .u, .u, .u] D
  refine sr_seq (r_asg (r := .ml []) (by walk_at "ev") (by walk_at "set") (nx_go (sr_seq (r_asg (r := .d (.int (absM c))) (e_as (e_cb (d_cons (e_var rfl) d_nil) cq_abs) rfl) (by walk_at "set") (nx_go (sr_seq (r_asg (r := .d (.int ((absM c * 48271 + 69621) % 2147483647))) (e_mod (e_cb (d_cons (e_add (e_mul (e_var rfl) e_int (.inr (by decide))) e_int) d_nil) cq_int1) e_int (by decide)) (by walk_at "set") (nx_go (sr_seq ?_)))))))))
  refine sr_fold (List.range n) (fun k => .int (k : Nat)) (rowStep c) (fun s => [.d (.int c), .d (.int (n : Nat)), .ml (s.2.2.map .int), .d (.int s.2.1), .d (.int s.1), .u]) (fun i s => s.2.2.length = i) ((absM c * 48271 + 69621) % 2147483647, absM c, []) (wk_eq (wk_range (d_cons (e_var rfl) d_nil) (by omega) (Int.natCast_nonneg _)) (int_map n)) (by walk_at "le") rfl (fun F1 i k s gx hk hs _ => ⟨?_, _, g_name (by walk_at "set"), ?_⟩) (fun _ => ?_)
  · unfold rowStep
    dsimp only
    split <;> simp [hs]
  · have hi := (List.getElem?_eq_some_iff.mp hk).1
    rw [List.length_range] at hi
    have hsz : (s.2.2.map PyData.int).length < sizeLine := by rw [List.length_map, sizeLine_eq]; omega
    refine sr_seq (r_asg (r := .d (.int ((s.1 * 16807 + 271 * ((k : Int) + 3)) % 2147483629))) (e_mod (e_cb (d_cons (e_add (e_mul (e_var rfl) e_int (.inr (by decide))) (e_mul e_int (e_add (e_var rfl) e_int) (.inl (by decide)))) d_nil) cq_int1) e_int (by decide)) (by walk_at "set") (nx_go ?_))
    refine sr_if (et_test (e_as (e_ge (e_cb (d_cons (e_var rfl) d_nil) cq_abs) (e_pow e_int e_int ⟨by decide, by decide, by decide⟩)) rfl)) (fun hb => ?_) (fun hb => ?_)
    · refine sr_seq (r_app (n := 2) rfl (e_mod (e_cb (d_cons (e_var rfl) d_nil) cq_int1) e_int (by decide)) hsz (by walk_at "set") (nx_go (r_asg (e_fdiv (e_var rfl) e_int ⟨by decide, by decide⟩) (by walk_at "set") (nx_end rfl ?_))))
      have hb : (10 : Int) ^ (18 : Int).toNat ≤ absM c := of_decide_eq_true hb
      unfold rowStep
      dsimp only
      rw [if_pos hb, List.map_append]
      exact .eq (.eq (.eq (.eq (.eq (.u .nil)))))
    · refine r_app (n := 2) rfl (e_mod (e_cb (d_cons (e_fdiv (e_var rfl) e_int ⟨by decide, by decide⟩) d_nil) cq_int1) e_int (by decide)) hsz (by walk_at "set") (nx_end rfl ?_)
      have hb : ¬ (10 : Int) ^ (18 : Int).toNat ≤ absM c := of_decide_eq_false hb
      unfold rowStep
      dsimp only
      rw [if_neg hb, List.map_append]
      exact .eq (.eq (.eq (.eq (.eq (.u .nil)))))
  · exact nx_go (sr_retM rfl hrt)
/-! ### numbers -/
def eachM (ns : List Int) (many : Nat) : Nat := 1 + many / (if 1 < (ns.take 63).length then (ns.take 63).length else 1)
def baseM (ns : List Int) (many : Nat) : List Int := ((ns.take 63).map fun c => rowM c (eachM ns many)).flatten
def numsM (ns : List Int) (many : Nat) : List Int := (baseM ns many ++ List.replicate (many - (baseM ns many).length) 0).take many
theorem numsM_len (ns : List Int) (many : Nat) : (numsM ns many).length = many := by
  unfold numsM
  rw [List.length_take, List.length_append, List.length_replicate]
  omega
theorem numsM_num (ns : List Int) (many : Nat) : ∀ x ∈ numsM ns many, Num x := by
  intro x hx
  have hx := List.mem_of_mem_take hx
  rcases List.mem_append.mp hx with hx | hx
  · obtain ⟨l, hl, hx⟩ := List.mem_flatten.mp hx
    obtain ⟨c, _, rfl⟩ := List.mem_map.mp hl
    exact rowM_num c _ x hx
  · rw [(List.mem_replicate.mp hx).2]
    exact ⟨by decide, by decide⟩
theorem eachM_le (ns : List Int) (many : Nat) : eachM ns many ≤ 1 + many := by
  unfold eachM
  exact Nat.add_le_add_left (Nat.div_le_self _ _) _
theorem flat_len (e : Nat) : ∀ l : List Int, ((l.map fun c => rowM c e).flatten).length = l.length * e
  | [] => by simp
  | c :: l => by
    rw [List.map_cons, List.flatten_cons, List.length_append, flat_len e l, rowM_len, List.length_cons, Nat.succ_mul]
    omega
/-- a promise of its own kind: the script is read where it stands -/
theorem okS {x qual : Str} {params : Arguments} {body : List Stmt} {scope : Scope} {f : Addr} {fd : FuncData} {N ps : List Str} {k : Nat} {sp : Sp} (F : FunD K x qual params body scope [] [] f fd) (S : FnScope N ps scope) (hl : ∀ vs H Q E, sp vs H Q E → vs.length = ps.length)
    (h : ∀ (X : Cx), (∃ cdv A outer s H, X = (cxOf CX0 P w K mg base N qual scope f cdv A outer s H E0).nox ∧ Room k (A.deeper (envOfC qual scope s.heap.objs.size f cdv))) → ∃ t, PSs X body t ∧ ∀ vs H Q E, sp vs H Q E → t { nx := fun _ H' => Q .non H', rt := Q } (L2.start N vs) H) :
    FnOk P w K mg base CX0 (k + 1) f fd ps sp := by
  refine F.ok S hl (fun cdv A outer s H vs Q E hr hsp => ?_)
  obtain ⟨t, h3, h4⟩ := h _ ⟨cdv, A, outer, s, H, rfl, hr⟩
  have h3' : PSs (cxOf CX0 P w K mg base N qual scope f cdv A outer s H E).nox body t := h3
  exact ⟨t, PSs.nox h3', h4 vs H Q E hsp⟩
/-- a first statement by hand, what follows by what names hold -/
theorem first_run {F0 H : Hp} {Γ Γ2 : List SV} {σ : L2.St} {u : TS} {D : Ends} {te : TE} {i : Nat} {r : SV} (S : Sat F0 H Γ σ H) (he : ∀ F, SatF H F Γ σ H → ∀ Q : VK, (∀ v F' H', Gr F H F' H' → VOk H F' H' r v → Q v H') → te σ H Q) (hs : SetAt Γ i r Γ2) (h : SR F0 H u Γ2 D) : tSeq (tAsg te (gName i)) u D σ H := by
  obtain ⟨F, g, S⟩ := S
  obtain ⟨e, hi⟩ := hs.eq
  subst e
  exact he F S _ fun v F' H' g1 o => h _ _ ⟨F', g.trans g1, S.set g1 o hi⟩
def spN (K : Frag) : Sp := fun vs H Q _ => ∃ (F : Hp) (a : Addr) (ns : List Int) (many : Nat), Same F H ∧ vs = [.ref a, .int (many : Nat)] ∧ many ≤ 300 ∧ SqL K H a (ns.map V.int) ∧ ∀ v F' H', Gr F H F' H' → VOk H F' H' (.ml ((numsM ns many).map .int)) v → Q v H'
theorem cut63 (ns : List Int) : cutD (ns.map PyData.int) none (some 63) = (ns.take 63).map .int := by
  unfold cutD HT.sIx
  rw [List.length_map]
  simp only [List.drop_zero, Nat.sub_zero]
  rw [if_neg (by decide), ← List.map_take]
  congr 1
  by_cases h : ns.length ≤ 63
  · rw [show min (Int.toNat 63) ns.length = ns.length by show min 63 ns.length = _; omega, List.take_length, List.take_of_length_le h]
  · rw [show min (Int.toNat 63) ns.length = 63 by show min 63 ns.length = _; omega]
theorem ok_l_numbers (T : Tx K mg) : FnOk P w K mg base CX0 2 (He.fAd K ("_law_numbers", none)) T.fd_l_numbers ["_law_script", "_law_many"] (spN K) := by
  refine okS T.F_l_numbers sc_l_numbers ?_ ?_
  rotate_left 1
  rintro X ⟨cdv, A, outer, s, H, rfl, hr⟩
  refine ⟨_, (pss_cons (ps_set (i := 2) sc_l_numbers.nd rfl (Or.inl rfl) (pe_slice sl_list (pv 0) po_none (po_some pe_int)))
    (pss_cons (ps_set (i := 3) sc_l_numbers.nd rfl (Or.inl rfl) (pe_op op_add pe_int (pe_op op_fdiv (pv 1) (pe_callB (call_max2 rfl) (by rfl) T.m_max (by decide +kernel) (pa_cons pe_int (pa_cons (pe_callB call_lenQ (by rfl) T.m_len (by decide +kernel) (pa_cons (pv 2) pa_nil)) pa_nil))))))
    (pss_cons (ps_set (i := 4) sc_l_numbers.nd rfl (Or.inl rfl) (pe_lst pa_nil))
    (pss_cons (ps_for PassesOwn.never rfl (pi_list (pv 2)) (pg_name (i := 5) sc_l_numbers.nd rfl (Or.inl rfl))
      (pss_one (ps_for PassesOwn.never rfl (pi_list (pe_call (ok_l_row T) (hr.mono (by decide)) (by rfl) T.g_l_row T.F_l_row.kp (b_l_row T) .nil pass0 (pa_cons (pv 5) (pa_cons (pv 3) pa_nil)))) (pg_name (i := 6) sc_l_numbers.nd rfl (Or.inl rfl))
      (pss_one (ps_expr (pe_bm PySem.F.plainAttrs_list PySem.F.slot_list_append PySem.F.type_list_append mt_append (pv 4) (pa_cons (pv 6) pa_nil)))))))
    (pss_cons (ps_while PassesOwn.never (pt_cmpR op_lt (pe_callB call_lenQ (by rfl) T.m_len (by decide +kernel) (pa_cons (pv 4) pa_nil)) (pv 1) (nomark _)) (pss_one (ps_expr (pe_bm PySem.F.plainAttrs_list PySem.F.slot_list_append PySem.F.type_list_append mt_append (pv 4) (pa_cons pe_int pa_nil)))))
    (pss_one (ps_ret (pe_slice sl_list (pv 4) po_none (po_some (pv 1)))))))))), ?_⟩
  intro vs H Q E hsp
  obtain ⟨F0, a, ns, many, e, rfl, hm, hS, q⟩ := hsp
  have hrt : ∀ v H', RT F0 H (.ml ((numsM ns many).map .int)) v H' → ({ nx := fun _ H' => Q .non H', rt := Q } : Ends).rt v H' := fun v H' ⟨F', g, o⟩ => q v F' H' g o
  generalize ({ nx := fun _ H' => Q .non H', rt := Q } : Ends) = D at hrt ⊢
  refine first_run (r := .ml ((ns.take 63).map .int)) (Γ := [.u, .d (.int (many : Nat)), .u, .u, .u, .u, .u]) (sat_start (args := [.u, .d (.int (many : Nat))]) (N := N_l_numbers) e (.cons ⟨rfl, trivial⟩ (.cons ⟨rfl, .int _⟩ .nil)) (show 2 ≤ 7 by decide)) (fun F S Q q => ⟨.ref a, rfl, 63, rfl, a, _, rfl, hS, fun p hp => q _ F _ (Gr.newM S.ex hp) ⟨p, _, rfl, hp, S.ex.free hp, upd_same, ?_⟩⟩) (by walk_at "set") ?_
  · rw [← cut63]
    exact cut_dq DqA.ofInts
  refine r_freeze (n := 2) rfl (by walk_at "set") ?_
  clear q hS
  generalize H = H0 at hrt ⊢
  have hel := eachM_le ns many
  have htl : (ns.take 63).length ≤ 63 := by rw [List.length_take]; omega
  have hdv : (if (((ns.take 63).map PyData.int).length : Int) > 1 then ((((ns.take 63).map PyData.int).length : Nat) : Int) else 1) = (((if 1 < (ns.take 63).length then (ns.take 63).length else 1 : Nat)) : Int) := by
    rw [List.length_map]
    by_cases h : 1 < (ns.take 63).length
    · rw [if_pos h, if_pos (by omega)]
    · rw [if_neg h, if_neg (by omega)]
      rfl
  have hpos : 0 < (if 1 < (ns.take 63).length then (ns.take 63).length else 1 : Nat) ∧ (if 1 < (ns.take 63).length then (ns.take 63).length else 1 : Nat) ≤ 63 := by split <;> omega
  refine sr_seq (r_asg (r := .d (.int (eachM ns many : Nat))) (e_eq (e_add e_int (e_fdiv (e_var rfl) (e_eq (e_cb (d_cons e_int (d_cons (e_lenA (e_var rfl) rfl) d_nil)) cq_max2) (congrArg PyData.int hdv)) ?_)) ?_) (by walk_at "set") (nx_go (sr_seq (r_asg (r := .ml []) (by walk_at "ev") (by walk_at "set") (nx_go (sr_seq ?_))))))
  · exact ⟨by omega, by omega⟩
  · unfold eachM
    rw [Int.natCast_add, Int.natCast_ediv]
    rfl
  refine sr_fold (ns.take 63) .int (fun (acc : List Int) c => acc ++ rowM c (eachM ns many)) (fun acc => [.u, .d (.int (many : Nat)), .d (.list ((ns.take 63).map .int)), .d (.int (eachM ns many : Nat)), .ml (acc.map .int), .u, .u]) (fun i acc => acc.length ≤ 301 * i) [] (wk_list (e_var rfl)) (by walk_at "le") (Nat.le_refl _) (fun F1 i c acc gx hc ha _ => ⟨?_, _, g_name (by walk_at "set"), ?_⟩) (fun _ => ?_)
  · rw [List.length_append, rowM_len]
    omega
  · have hi := (List.getElem?_eq_some_iff.mp hc).1
    refine sr_fold (rowM c (eachM ns many)) .int (fun (b : List Int) x => b ++ [x]) (fun b => [.u, .d (.int (many : Nat)), .d (.list ((ns.take 63).map .int)), .d (.int (eachM ns many : Nat)), .ml (b.map .int), .u, .u]) (fun j b => b.length ≤ 301 * i + j) acc (wk_list (e_freeze (e_call (a_cons (e_var rfl) (a_cons (e_var rfl) a_nil)) (.mk c (eachM ns many) (by omega))))) (by walk_at "le") ha (fun F2 j x b gx hx hb _ => ⟨by rw [List.length_append]; simp; omega, _, g_name (by walk_at "set"), r_app (n := 4) rfl (e_var rfl) ?_ (by walk_at "set") (nx_end rfl ?_)⟩) (fun _ => nx_end rfl ?_)
    · have hj := (List.getElem?_eq_some_iff.mp hx).1
      rw [rowM_len] at hj
      rw [List.length_map, sizeLine_eq]
      omega
    · rw [List.map_append]
      exact .u (.eq (.eq (.eq (.eq (.u (.u .nil))))))
    · have e : ∀ (l a : List Int), l.foldl (fun s t => s ++ [t]) a = a ++ l := by
        intro l
        induction l with
        | nil => intro a; simp
        | cons x l ih => intro a; rw [List.foldl_cons, ih]; simp
      rw [e]
      exact .u (.eq (.eq (.eq (.eq (.u (.u .nil))))))
  have ebase : (ns.take 63).foldl (fun (acc : List Int) c => acc ++ rowM c (eachM ns many)) [] = baseM ns many := by
    have key : ∀ (l a : List Int), l.foldl (fun (acc : List Int) c => acc ++ rowM c (eachM ns many)) a = a ++ (l.map fun c => rowM c (eachM ns many)).flatten := by
      intro l
      induction l with
      | nil => intro a; simp
      | cons x l ih => intro a; rw [List.foldl_cons, ih]; simp
    rw [key]
    rfl
  rw [ebase]
  have hbl : (baseM ns many).length ≤ 63 * 301 := by
    unfold baseM
    rw [flat_len]
    exact Nat.mul_le_mul htl (by omega)
  refine nx_go (sr_seq (sr_while (fun m Γi => ∃ k, k ≤ many ∧ m = many - ((baseM ns many).length + k) ∧ (0 < k → (baseM ns many).length + k ≤ many) ∧ Le Γi [.u, .d (.int (many : Nat)), .d (.list ((ns.take 63).map .int)), .d (.int (eachM ns many : Nat)), .ml ((baseM ns many ++ List.replicate k 0).map .int), .u, .u]) ⟨_, 0, Nat.zero_le _, rfl, fun h => absurd h (Nat.lt_irrefl _), ?_⟩ ?_))
  · rw [List.replicate_zero, List.append_nil]
    exact Le.refl _
  rintro m Γi ⟨k, hk, hm', hk2, hle⟩
  have hlen : (((baseM ns many ++ List.replicate k 0).map PyData.int).length : Int) = ((baseM ns many).length + k : Nat) := by
    rw [List.length_map, List.length_append, List.length_replicate]
  refine ⟨decide ((((baseM ns many).length + k : Nat) : Int) < (many : Nat)), fun H0 F σ H Q S q => (et_test (e_lt (e_eq (e_lenM (n := 4) rfl) (congrArg PyData.int hlen)) (e_var (n := 1) rfl)) : EvT _ [SV.u, .d (.int (many : Nat)), .d (.list ((ns.take 63).map .int)), .d (.int (eachM ns many : Nat)), .ml ((baseM ns many ++ List.replicate k 0).map .int), .u, .u] _) H0 F σ H Q (S.weak hle) q, fun hb => ?_, fun hb => ?_⟩
  · have hb := of_decide_eq_true hb
    refine sr_weak (r_app (n := 4) (x := .int 0) rfl e_int ?_ (by walk_at "set") fun σ H S => ⟨_, ⟨many - ((baseM ns many).length + (k + 1)), by omega, k + 1, by omega, rfl, fun _ => by omega, ?_⟩, S⟩) hle
    · rw [List.length_map, List.length_append, List.length_replicate, sizeLine_eq]
      omega
    · rw [List.replicate_succ', ← List.append_assoc, List.map_append (l₂ := [0])]
      exact Le.refl _
  · have hb := of_decide_eq_false hb
    refine nx_weak (nx_go (r_freeze (n := 4) rfl (by walk_at "set") ?_)) hle
    refine r_ret (e_slL (e_var rfl) o_none (o_some (e_var rfl))) ?_ hrt
    congr 1
    have hle2 : many ≤ (baseM ns many ++ List.replicate k 0).length := by
      rw [List.length_append, List.length_replicate]
      omega
    unfold cutD HT.sIx
    rw [List.length_map]
    simp only [List.drop_zero, Nat.sub_zero]
    rw [if_neg (by omega), ← List.map_take, Int.toNat_natCast, Nat.min_eq_left hle2]
    congr 1
    unfold numsM
    by_cases h0 : k = 0
    · subst h0
      rw [List.replicate_zero, List.append_nil] at hle2 ⊢
      rw [List.take_append_of_le_length hle2]
    · have := hk2 (by omega)
      rw [show many - (baseM ns many).length = k by omega]
  · rintro vs H Q E ⟨F, a, ns, many, _, rfl, _⟩
    rfl
end Ef
/-! The law's own defs. -/
namespace Ef
open PySem PySem.Spec PyProof.Rows L2
local macro_rules | `(tactic| walk_at "set") => `(tactic| (repeat' (first | exact SetAt.z | apply SetAt.s)))
local macro_rules | `(tactic| walk_at "le") => `(tactic| (repeat' (first | exact Le.nil | (with_reducible apply Le.eq) | (with_reducible apply Le.u) | (with_reducible apply Le.as) | rfl)))
local macro_rules | `(tactic| walk_at "ev1") => `(tactic| first
  | exact e_int | exact e_str | exact e_bl | exact e_non
  | exact e_var rfl | exact d_nil | exact a_nil | exact et_yes | exact o_none | exact k_own rfl
  | exact e_lenM rfl
  | ((with_reducible show lenK _ = true); rfl) | ((with_reducible show eqK _ _ = true); rfl) | ((with_reducible show smallL _ = true); rfl)
  | with_reducible apply d_cons | with_reducible apply a_cons | with_reducible apply o_some
  | with_reducible apply e_add | with_reducible apply e_sub | with_reducible apply e_lt | with_reducible apply e_le | with_reducible apply e_gt | with_reducible apply e_ge
  | with_reducible apply e_mul | with_reducible apply e_mod | with_reducible apply e_fdiv
  | with_reducible apply e_eqA | with_reducible apply e_neA
  | with_reducible apply e_isN | with_reducible apply e_notN | with_reducible apply e_notV | with_reducible apply et_test | with_reducible apply et_B | with_reducible apply et_not
  | with_reducible apply et_and2 | with_reducible apply et_or2 | with_reducible apply e_andV2 | with_reducible apply e_orV2
  | with_reducible apply e_tupS | with_reducible apply e_lstS | exact e_dnew
  | with_reducible apply e_lenA
  | (with_reducible apply e_cb (hr := cq_abs)) | (with_reducible apply e_cb (hr := cq_int1)) | (with_reducible apply e_cb (hr := cq_max2)) | (with_reducible apply e_cb (hr := cq_min2))
  | with_reducible apply e_call | with_reducible apply e_meth
  | with_reducible apply e_din | with_reducible apply e_dnotin | with_reducible apply e_dget | with_reducible apply e_dget1 | with_reducible apply e_dget2)
local macro_rules | `(tactic| walk_at "ev") => `(tactic| repeat' (walk_at "ev1"))
variable {P : Program} {w : World} {K : Frag} {mg : Str → Option Value} {base : Heap}
/-! ### names -/
def ltrs : List Nat := NAMES.cps.toList
def ltr (i : Int) : Str := ⟨#[ltrs.getD i.toNat 0]⟩
theorem ltrs_len : ltrs.length = 36 := by decide +kernel
theorem ltr_at {i : Int} (h : i < 36) (h0 : 0 ≤ i) : NAMES.cps.toList[i.toNat]? = some (ltrs.getD i.toNat 0) := by
  have hl : i.toNat < ltrs.length := by rw [ltrs_len]; omega
  show ltrs[i.toNat]? = _
  rw [List.getElem?_eq_getElem hl, List.getD_eq_getElem?_getD, List.getElem?_eq_getElem hl]
  rfl
def restN (n : Int) : Str := Txt.join "" ((List.range (n % 11).toNat).map fun k : Nat => ltr ((n + 7 * (k : Int) * k) % 36))
def placeN (n : Int) : Int := n / 11 % (n % 11 + 1)
def ownN (n : Int) (k : Nat) : Str := if (n / 121 + k) % 3 = 0 then cutS (restN n) (some 1) none else restN n
def spotN (n : Int) (k : Nat) : Int := mn (placeN n) ((ownN n k).length : Nat)
def stepN (n : Int) : Int := if n / 363 % 2 = 1 then 31 else 5
def nameN (n : Int) (k : Nat) : Str := ltr ((n + 3 * (k : Int)) % 26) ++ cutS (ownN n k) none (some (spotN n k)) ++ ltr ((n + stepN n * (k : Int)) % 36) ++ cutS (ownN n k) (some (spotN n k)) none
def namesM (n : Int) (many : Nat) : List Str := (List.range many).map (nameN n)
theorem join_cps : ∀ ys : List Str, (Txt.join "" ys).cps.toList = (ys.map fun y => y.cps.toList).flatten := by
  intro ys
  unfold Txt.join
  rw [PySem.StrLaws.glued_eq_join]
  induction ys with
  | nil => rfl
  | cons x r ih =>
    cases r with
    | nil =>
      show x.cps.toList = _
      simp
    | cons y r =>
      show (x ++ ("" : Str) ++ Str.join "" (y :: r)).cps.toList = _
      have e : (x ++ ("" : Str) ++ Str.join "" (y :: r)).cps = x.cps ++ (Str.join "" (y :: r)).cps := by
        show (x.cps ++ ("" : Str).cps) ++ _ = _
        have : ("" : Str).cps = #[] := by decide
        rw [this, Array.append_empty]
      rw [e, Array.toList_append, ih, List.map_cons (a := x), List.flatten_cons]
theorem str_len (s : Str) : s.length = s.cps.toList.length := by
  show s.cps.size = _
  rw [Array.length_toList]
theorem ltr_mem {i : Int} (h : i < 36) (h0 : 0 ≤ i) : ∀ c ∈ (ltr i).cps.toList, c ∈ NAMES.cps.toList := by
  intro c hc
  have hc : c ∈ [ltrs.getD i.toNat 0] := hc
  rw [List.mem_singleton.mp hc]
  exact List.mem_of_getElem? (ltr_at h h0)
theorem ltr_len (i : Int) : (ltr i).length = 1 := rfl
theorem m36 (x : Int) : 0 ≤ x % 36 ∧ x % 36 < 36 := ⟨Int.emod_nonneg _ (by decide), Int.emod_lt_of_pos _ (by decide)⟩
theorem m26 (x : Int) : 0 ≤ x % 26 ∧ x % 26 < 26 := ⟨Int.emod_nonneg _ (by decide), Int.emod_lt_of_pos _ (by decide)⟩
theorem m11 (x : Int) : 0 ≤ x % 11 ∧ x % 11 < 11 := ⟨Int.emod_nonneg _ (by decide), Int.emod_lt_of_pos _ (by decide)⟩
theorem ones_flat : ∀ (l : List Str), (∀ y ∈ l, y.length = 1) → ((l.map fun y => y.cps.toList).flatten).length = l.length
  | [], _ => rfl
  | x :: l, h => by
    rw [List.map_cons, List.flatten_cons, List.length_append, ones_flat l fun y hy => h y (List.mem_cons_of_mem _ hy), ← str_len, h x List.mem_cons_self, List.length_cons]
    omega
theorem rest_len (n : Int) : (restN n).length = (n % 11).toNat := by
  rw [str_len]
  unfold restN
  rw [join_cps, ones_flat _ (fun y hy => by
    obtain ⟨k, _, rfl⟩ := List.mem_map.mp hy
    rfl), List.length_map, List.length_range]
theorem rest_mem (n : Int) : ∀ c ∈ (restN n).cps.toList, c ∈ NAMES.cps.toList := by
  intro c hc
  unfold restN at hc
  rw [join_cps] at hc
  obtain ⟨l, hl, hc⟩ := List.mem_flatten.mp hc
  obtain ⟨y, hy, rfl⟩ := List.mem_map.mp hl
  obtain ⟨k, _, rfl⟩ := List.mem_map.mp hy
  exact ltr_mem (m36 _).2 (m36 _).1 c hc
theorem cutS_mem {z : Str} {lo hi : Option Int} : ∀ c ∈ (cutS z lo hi).cps.toList, c ∈ z.cps.toList := by
  intro c hc
  have hc : c ∈ (z.cps.toList.drop (HT.sIx z.length 0 lo)).take (HT.sIx z.length z.length hi - HT.sIx z.length 0 lo) := hc
  exact List.mem_of_mem_drop (List.mem_of_mem_take hc)
theorem own_len (n : Int) (k : Nat) : (ownN n k).length ≤ 10 := by
  have h := rest_len n
  have := m11 n
  unfold ownN
  split
  · have := cutS_length (restN n) (some 1) none
    omega
  · omega
theorem own_mem (n : Int) (k : Nat) : ∀ c ∈ (ownN n k).cps.toList, c ∈ NAMES.cps.toList := by
  intro c hc
  unfold ownN at hc
  split at hc
  · exact rest_mem n c (cutS_mem c hc)
  · exact rest_mem n c hc
theorem place_pos (n : Int) : 0 ≤ placeN n := Int.emod_nonneg _ (by have := m11 n; omega)
theorem spot_pos (n : Int) (k : Nat) : 0 ≤ spotN n k := by
  unfold spotN
  rw [mn_eq]
  have := place_pos n
  omega
theorem cut_two (z : Str) {v : Int} (h : 0 ≤ v) : (cutS z none (some v)).length + (cutS z (some v) none).length = z.length := by
  have e : v = ((v.toNat : Nat) : Int) := by omega
  rw [e]
  rw [str_len, str_len]
  show ((z.cps.toList.drop (HT.sIx z.length 0 none)).take (HT.sIx z.length z.length (some (v.toNat : Int)) - HT.sIx z.length 0 none)).length + ((z.cps.toList.drop (HT.sIx z.length 0 (some (v.toNat : Int)))).take (HT.sIx z.length z.length none - HT.sIx z.length 0 (some (v.toNat : Int)))).length = z.length
  rw [HT.sIx_nat, HT.sIx_nat, HT.sIx_none, HT.sIx_none]
  simp only [List.length_take, List.length_drop]
  rw [str_len]
  omega
theorem append_len (a b : Str) : (a ++ b).length = a.length + b.length := by
  show (a.cps ++ b.cps).size = _
  rw [Array.size_append]
  rfl
theorem append_cps (a b : Str) : (a ++ b).cps.toList = a.cps.toList ++ b.cps.toList := by
  show (a.cps ++ b.cps).toList = _
  rw [Array.toList_append]
theorem name_len (n : Int) (k : Nat) : (nameN n k).length = (ownN n k).length + 2 := by
  unfold nameN
  rw [append_len, append_len, append_len, ltr_len, ltr_len]
  have := cut_two (ownN n k) (spot_pos n k)
  omega
theorem name_first (n : Int) (k : Nat) : (nameN n k).cps.toList[0]? = some (ltrs.getD ((n + 3 * (k : Int)) % 26).toNat 0) := by
  unfold nameN
  rw [append_cps, append_cps, append_cps]
  rfl
theorem first_alpha : ∀ i, i < 26 → ltrs.getD i 0 ∉ ("0123456789" : Str).cps.toList := by decide +kernel
theorem first_inj : ∀ i j, i < 26 → j < 26 → ltrs.getD i 0 = ltrs.getD j 0 → i = j := by
  have h : ∀ i, i < 26 → ltrs.getD i 0 = 97 + i := by decide +kernel
  intro i j hi hj e
  rw [h i hi, h j hj] at e
  omega
theorem name_ok (n : Int) (k : Nat) : NameOk (nameN n k) := by
  refine ⟨?_, ?_, fun c hc => ?_, fun c hc => ?_⟩
  · rw [name_len]; omega
  · rw [name_len]
    have := own_len n k
    omega
  · rw [name_first] at hc
    cases hc
    exact first_alpha _ (by have := m26 (n + 3 * (k : Int)); omega)
  · unfold nameN at hc
    rw [append_cps, append_cps, append_cps] at hc
    simp only [List.mem_append] at hc
    have h26 := m26 (n + 3 * (k : Int))
    have h36 := m36 (n + stepN n * (k : Int))
    rcases hc with ((hc | hc) | hc) | hc
    · exact ltr_mem (by omega) h26.1 c hc
    · exact own_mem n k c (cutS_mem c hc)
    · exact ltr_mem h36.2 h36.1 c hc
    · exact own_mem n k c (cutS_mem c hc)
theorem names_len (n : Int) (many : Nat) : (namesM n many).length = many := by
  unfold namesM
  rw [List.length_map, List.length_range]
theorem names_ok (n : Int) (many : Nat) : ∀ x ∈ namesM n many, NameOk x := by
  intro x hx
  obtain ⟨k, _, rfl⟩ := List.mem_map.mp hx
  exact name_ok n k
theorem names_nd (n : Int) {many : Nat} (h : many ≤ 26) : (namesM n many).Nodup := by
  unfold namesM
  refine List.pairwise_map.mpr (List.Pairwise.imp_of_mem (R := fun a b : Nat => a ≠ b) ?_ List.nodup_range)
  intro a b ha hb hab e
  have e1 := name_first n a
  have e2 := name_first n b
  rw [e] at e1
  rw [e1] at e2
  have ha := List.mem_range.mp ha
  have hb := List.mem_range.mp hb
  have h1 := m26 (n + 3 * (a : Int))
  have h2 := m26 (n + 3 * (b : Int))
  have k := first_inj _ _ (by omega) (by omega) (Option.some.inj e2)
  have k2 : (n + 3 * (a : Int)) % 26 = (n + 3 * (b : Int)) % 26 := by omega
  omega
inductive R_l_names (K : Frag) : List SV → SV → Prop
  | mk (n : Int) (many : Nat) (hn : 0 ≤ n) (hm : many < 1000) : R_l_names K [.d (.int n), .d (.int (many : Nat))] (.ml ((namesM n many).map .str))
theorem ok_l_names (T : Tx K mg) : FnOk P w K mg base CX0 1 (He.fAd K ("_law_names", none)) T.fd_l_names ["_law_number", "_law_many"] (spQ (R_l_names K)) := by
  refine okQ T.F_l_names sc_l_names (fun _ _ h => by cases h; rfl) (by decide) ?_
  rintro X ⟨cdv, A, outer, s, H, rfl, hr⟩ args r hR
  refine ⟨_, (pss_cons (ps_set (i := 2) sc_l_names.nd rfl (Or.inr rfl) pe_str)
    (pss_cons (ps_set (i := 3) sc_l_names.nd rfl (Or.inl rfl) (pe_op op_mod (pe_callTy call_int1 (by rfl) T.m_int (by decide +kernel) (pa_cons (pv 0) pa_nil)) pe_int))
    (pss_cons (ps_set (i := 4) sc_l_names.nd rfl (Or.inl rfl) (pe_join pe_str (pe_lc (own := [("_law_k", 5)]) (g := (gName 5)) (tt := tYes) (te := (tOp rIxS (tVar 2) (tOp (rI (fun _ j => 0 < j) fun i j => .int (i % j)) (tCB _ (tCons (tOp (rI0 fun i j => .int (i + j)) (tVar 0) (tOp (rI CMul fun i j => .int (i * j)) (tOp (rI CMul fun i j => .int (i * j)) (tC (.int 7)) (tVar 5)) (tVar 5))) tNil)) (tC (.int 36))))) rfl sc_l_names.nd (pi_range1 rfl T.m_range (pa_cons (pv 3) pa_nil)) (blkOk_by (by kernel_rfl)) (fun _ _ _ _ _ => (pg_name (i := 5) sc_l_names.nd rfl (Or.inl rfl))) (fun _ _ _ _ _ => pts_nil) (fun _ _ _ _ _ => (pe_ix ix_str (pv 2) (pe_op op_mod (pe_callTy call_int1 (by rfl) T.m_int (by decide +kernel) (pa_cons (pe_op op_add (pv 0) (pe_op op_mul (pe_op op_mul pe_int (pv 5)) (pv 5))) pa_nil)) pe_int) (fun _ _ => rfl))))))
    (pss_cons (ps_set (i := 6) sc_l_names.nd rfl (Or.inl rfl) (pe_op op_mod (pe_op op_fdiv (pv 0) pe_int) (pe_op op_add (pv 3) pe_int)))
    (pss_cons (ps_set (i := 7) sc_l_names.nd rfl (Or.inl rfl) (pe_lst pa_nil))
    (pss_cons (ps_for PassesOwn.never rfl (pi_range1 rfl T.m_range (pa_cons (pv 1) pa_nil)) (pg_name (i := 5) sc_l_names.nd rfl (Or.inl rfl))
      (pss_cons (ps_set (i := 8) sc_l_names.nd rfl (Or.inl rfl) (pv 4))
    (pss_cons (ps_if (pt_cmpR op_eq (pe_op op_mod (pe_callTy call_int1 (by rfl) T.m_int (by decide +kernel) (pa_cons (pe_op op_add (pe_op op_fdiv (pv 0) pe_int) (pv 5)) pa_nil)) pe_int) pe_int (nomark _)) (pss_one (ps_set (i := 8) sc_l_names.nd rfl (Or.inl rfl) (pe_slice sl_str (pv 4) (po_some pe_int) po_none))) pss_nil)
    (pss_cons (ps_set (i := 9) sc_l_names.nd rfl (Or.inl rfl) (pe_callB (call_min2 rfl) (by rfl) T.m_min (by decide +kernel) (pa_cons (pv 6) (pa_cons (pe_callB call_len_str (by rfl) T.m_len (by decide +kernel) (pa_cons (pv 8) pa_nil)) pa_nil))))
    (pss_cons (ps_set (i := 10) sc_l_names.nd rfl (Or.inl rfl) pe_int)
    (pss_cons (ps_if (pt_cmpR op_eq (pe_op op_mod (pe_op op_fdiv (pv 0) pe_int) pe_int) pe_int (nomark _)) (pss_one (ps_set (i := 10) sc_l_names.nd rfl (Or.inl rfl) pe_int)) pss_nil)
    (pss_one (ps_expr (pe_bm PySem.F.plainAttrs_list PySem.F.slot_list_append PySem.F.type_list_append mt_append (pv 7) (pa_cons (pe_op op_add_str (pe_op op_add_str (pe_op op_add_str (pe_ix ix_str (pv 2) (pe_op op_mod (pe_callTy call_int1 (by rfl) T.m_int (by decide +kernel) (pa_cons (pe_op op_add (pv 0) (pe_op op_mul pe_int (pv 5))) pa_nil)) pe_int) (fun _ _ => rfl)) (pe_slice sl_str (pv 8) po_none (po_some (pv 9)))) (pe_ix ix_str (pv 2) (pe_op op_mod (pe_callTy call_int1 (by rfl) T.m_int (by decide +kernel) (pa_cons (pe_op op_add (pv 0) (pe_op op_mul (pv 10) (pv 5))) pa_nil)) pe_int) (fun _ _ => rfl))) (pe_slice sl_str (pv 8) (po_some (pv 9)) po_none)) pa_nil))))))))))
    (pss_one (ps_ret (pv 7))))))))), ?_⟩
  intro F0 H0 D hrt hnx
  cases hR with
  | mk n many hn hm =>
  show SR F0 H0 _ [.d (.int n), .d (.int (many : Nat)), .u, .u, .u, .u, .u, .u, .u, .u, .u] D
  have h11 := m11 n
  have hNl : NAMES.length ≤ sizeLine := by
    rw [str_len, sizeLine_eq]
    show ltrs.length ≤ _
    rw [ltrs_len]
    decide
  refine sr_seq (r_asg (r := .d (.str NAMES)) e_str (by walk_at "set") (nx_go (sr_seq (r_asg (e_mod (e_cb (d_cons (e_var rfl) d_nil) cq_int1) e_int (by decide)) (by walk_at "set") (nx_go (sr_seq ?_))))))
  refine r_asg (r := .d (.str (restN n))) (e_join (s := "") (ys := (List.range (n % 11).toNat).map fun k : Nat => ltr ((n + 7 * (k : Int) * k) % 36)) e_str (e_eq (e_freeze (e_lcM (List.range (n % 11).toNat) (fun k => .int (k : Nat)) (fun k => .str (ltr ((n + 7 * (k : Int) * k) % 36))) (wk_range (d_cons (e_var rfl) d_nil) (by omega) h11.1).c ?_ fun i k hk => ⟨_, v_name (by walk_at "set"), e_ixS (c := NAMES) (e_var rfl) (e_mod (e_cb (d_cons (e_add (e_var rfl) (e_mul (e_mul e_int (e_var rfl) (.inl (by decide))) (e_var rfl) ?_)) d_nil) cq_int1) e_int (by decide)) hNl (m36 _).1 (ltr_at (m36 _).2 (m36 _).1)⟩)) (by rw [List.map_map]; rfl)) ?_) (by walk_at "set") (nx_go ?_)
  · rw [List.length_range, sizeLine_eq]
    omega
  · have hk2 := List.mem_range.mp (List.mem_of_getElem? hk)
    exact .inr ⟨by omega, by omega⟩
  · have e : ((List.range (n % 11).toNat).map fun k : Nat => ltr ((n + 7 * (k : Int) * k) % 36)).map (·.length) = List.replicate (n % 11).toNat 1 := by
      rw [List.map_map]
      refine List.ext_getElem (by simp) fun i h1 h2 => ?_
      simp [ltr_len]
    rw [e, List.length_map, List.length_range, List.sum_replicate_nat]
    have : ("" : Str).length = 0 := by decide
    rw [this]
    omega
  refine sr_seq (r_asg (r := .d (.int (placeN n))) (e_mod (e_fdiv (e_var rfl) e_int ⟨by decide, by decide⟩) (e_add (e_var rfl) e_int) (by omega)) (by walk_at "set") (nx_go (sr_seq (r_asg (r := .ml []) (by walk_at "ev") (by walk_at "set") (nx_go (sr_seq ?_))))))
  refine sr_fold (List.range many) (fun k => .int (k : Nat)) (fun (acc : List Str) k => acc ++ [nameN n k]) (fun acc => [.d (.int n), .d (.int (many : Nat)), .d (.str NAMES), .d (.int (n % 11)), .d (.str (restN n)), .u, .d (.int (placeN n)), .ml (acc.map .str), .u, .u, .u]) (fun i acc => acc.length = i) [] (wk_eq (wk_range (d_cons (e_var rfl) d_nil) (by omega) (Int.natCast_nonneg _)) (int_map many)) (by walk_at "le") rfl (fun F1 i k acc gx hk ha _ => ⟨by rw [List.length_append, ha]; rfl, _, g_name (by walk_at "set"), ?_⟩) (fun _ => nx_go (sr_retM ?_ hrt))
  · have hk2 := List.mem_range.mp (List.mem_of_getElem? hk)
    have hi := (List.getElem?_eq_some_iff.mp hk).1
    rw [List.length_range] at hi
    have hol := own_len n k
    have hrl := rest_len n
    have hsz : (acc.map PyData.str).length < sizeLine := by rw [List.length_map, sizeLine_eq]; omega
    have hrs : (restN n).length ≤ sizeLine := by rw [sizeLine_eq]; omega
    have hos : (ownN n k).length ≤ sizeLine := by rw [sizeLine_eq]; omega
    have hct := cut_two (ownN n k) (spot_pos n k)
    refine sr_seq (r_asg (e_var rfl) (by walk_at "set") (nx_go ?_))
    refine sr_seq (sr_if (et_test (e_as (e_eqA (e_mod (e_cb (d_cons (e_add (e_fdiv (e_var rfl) e_int ⟨by decide, by decide⟩) (e_var rfl)) d_nil) cq_int1) e_int (by decide)) e_int rfl) rfl)) (fun hb => r_asg (r := .d (.str (ownN n k))) (e_eq (e_slS (e_var rfl) (o_some e_int) o_none hrs) (by unfold ownN; rw [if_pos (of_decide_eq_true hb)])) (by walk_at "set") (nx_go ?_)) (fun hb => sr_next (nx_go (sr_weak (Γ' := [.d (.int n), .d (.int (many : Nat)), .d (.str NAMES), .d (.int (n % 11)), .d (.str (restN n)), .d (.int (k : Nat)), .d (.int (placeN n)), .ml (acc.map .str), .d (.str (ownN n k)), .u, .u]) ?_ (by
      have : restN n = ownN n k := by unfold ownN; rw [if_neg (of_decide_eq_false hb)]
      exact .eq (.eq (.eq (.eq (.eq (.eq (.eq (.eq (.as (by rw [this]) (.eq (.eq .nil)))))))))))))))
    all_goals
      refine sr_seq (r_asg (r := .d (.int (spotN n k))) (e_as (e_cb (d_cons (e_var rfl) (d_cons (e_cb (d_cons (e_var rfl) d_nil) (cq_lenS hos)) d_nil)) cq_min2) (by unfold spotN mn; rfl)) (by walk_at "set") (nx_go (sr_seq (r_asg (r := .d (.int 5)) e_int (by walk_at "set") (nx_go ?_)))))
      refine sr_seq (sr_if (et_test (e_as (e_eqA (e_mod (e_fdiv (e_var rfl) e_int ⟨by decide, by decide⟩) e_int (by decide)) e_int rfl) rfl)) (fun hb2 => r_asg e_int (by walk_at "set") (nx_go ?_)) (fun hb2 => sr_next (nx_go ?_)))
      all_goals
        refine r_app (n := 7) (x := .str (nameN n k)) rfl (e_as (e_adds (e_adds (e_adds (e_ixS (c := NAMES) (e_var rfl) (e_mod (e_cb (d_cons (e_add (e_var rfl) (e_mul e_int (e_var rfl) (.inl (by decide)))) d_nil) cq_int1) e_int (by decide)) hNl (m26 _).1 (ltr_at (by have := m26 (n + 3 * (k : Int)); omega) (m26 _).1)) (e_slS (e_var rfl) o_none (o_some (e_var rfl)) hos) ?_) (e_ixS (c := NAMES) (e_var rfl) (e_mod (e_cb (d_cons (e_add (e_var rfl) (e_mul (e_var rfl) (e_var rfl) (.inr (by omega)))) d_nil) cq_int1) e_int (by decide)) hNl (m36 _).1 (ltr_at (m36 _).2 (m36 _).1)) ?_) (e_slS (e_var rfl) (o_some (e_var rfl)) o_none hos) ?_) ?_) hsz (by walk_at "set") (nx_end rfl ?_)
        · show (ltr _).length + _ ≤ _
          rw [ltr_len, sizeLine_eq]
          omega
        · rw [append_len]
          show (ltr _).length + _ + (ltr _).length ≤ _
          rw [ltr_len, ltr_len, sizeLine_eq]
          omega
        · rw [append_len, append_len]
          show (ltr _).length + _ + (ltr _).length + _ ≤ _
          rw [ltr_len, ltr_len, sizeLine_eq]
          omega
        · first
            | (have hst : stepN n = 31 := by unfold stepN; rw [if_pos (of_decide_eq_true hb2)]
               unfold nameN
               rw [hst]
               rfl)
            | (have hst : stepN n = 5 := by unfold stepN; rw [if_neg (of_decide_eq_false hb2)]
               unfold nameN
               rw [hst]
               rfl)
        · rw [List.map_append]
          exact .eq (.eq (.eq (.eq (.eq (.u (.eq (.eq (.u (.u (.u .nil))))))))))
  · have key : ∀ (l : List Nat) (a : List Str), l.foldl (fun (acc : List Str) k => acc ++ [nameN n k]) a = a ++ l.map (nameN n) := by
      intro l
      induction l with
      | nil => intro a; simp
      | cons x l ih => intro a; rw [List.foldl_cons, ih]; simp
    rw [key]
    rfl
end Ef
/-! The law's own defs. -/
namespace Ef
open PySem PySem.Spec PyProof.Rows L2
local macro_rules | `(tactic| walk_at "set") => `(tactic| (repeat' (first | exact SetAt.z | apply SetAt.s)))
local macro_rules | `(tactic| walk_at "le") => `(tactic| (repeat' (first | exact Le.nil | (with_reducible apply Le.eq) | (with_reducible apply Le.u) | (with_reducible apply Le.as) | rfl)))
local macro_rules | `(tactic| walk_at "ev1") => `(tactic| first
  | exact e_int | exact e_str | exact e_bl | exact e_non
  | exact e_var rfl | exact d_nil | exact a_nil | exact et_yes | exact o_none | exact k_own rfl
  | exact e_lenM rfl
  | ((with_reducible show lenK _ = true); rfl) | ((with_reducible show eqK _ _ = true); rfl) | ((with_reducible show smallL _ = true); rfl)
  | with_reducible apply d_cons | with_reducible apply a_cons | with_reducible apply o_some
  | with_reducible apply e_add | with_reducible apply e_sub | with_reducible apply e_lt | with_reducible apply e_le | with_reducible apply e_gt | with_reducible apply e_ge
  | with_reducible apply e_mul | with_reducible apply e_mod | with_reducible apply e_fdiv
  | with_reducible apply e_eqA | with_reducible apply e_neA
  | with_reducible apply e_isN | with_reducible apply e_notN | with_reducible apply e_notV | with_reducible apply et_test | with_reducible apply et_B | with_reducible apply et_not
  | with_reducible apply et_and2 | with_reducible apply et_or2 | with_reducible apply e_andV2 | with_reducible apply e_orV2
  | with_reducible apply e_tupS | with_reducible apply e_lstS | exact e_dnew
  | with_reducible apply e_lenA
  | (with_reducible apply e_cb (hr := cq_abs)) | (with_reducible apply e_cb (hr := cq_int1)) | (with_reducible apply e_cb (hr := cq_max2)) | (with_reducible apply e_cb (hr := cq_min2))
  | with_reducible apply e_call | with_reducible apply e_meth
  | with_reducible apply e_din | with_reducible apply e_dnotin | with_reducible apply e_dget | with_reducible apply e_dget1 | with_reducible apply e_dget2)
local macro_rules | `(tactic| walk_at "ev") => `(tactic| repeat' (walk_at "ev1"))
variable {P : Program} {w : World} {K : Frag} {mg : Str → Option Value} {base : Heap}
def ePt (p : Pt) : PyData := .list [.tuple (p.winds.map .str), .tuple (p.places.map .str), .tuple (p.links.map eLk), .tuple (p.paths.map ePa)]
section
variable {Γ : List SV} {n : Nat} {p : Pt}
theorem e_pt0 (h : Γ[n]? = some (.d (ePt p))) : Ev (tOp (rIxL K) (tVar n) (tC (.int 0))) Γ (.d (.tuple (p.winds.map .str))) := e_ixL (x := .tuple (p.winds.map .str)) (e_var h) e_int (by decide) rfl
theorem e_pt1 (h : Γ[n]? = some (.d (ePt p))) : Ev (tOp (rIxL K) (tVar n) (tC (.int 1))) Γ (.d (.tuple (p.places.map .str))) := e_ixL (x := .tuple (p.places.map .str)) (e_var h) e_int (by decide) rfl
theorem e_pt2 (h : Γ[n]? = some (.d (ePt p))) : Ev (tOp (rIxL K) (tVar n) (tC (.int 2))) Γ (.d (.tuple (p.links.map eLk))) := e_ixL (x := .tuple (p.links.map eLk)) (e_var h) e_int (by decide) rfl
theorem e_pt3 (h : Γ[n]? = some (.d (ePt p))) : Ev (tOp (rIxL K) (tVar n) (tC (.int 3))) Γ (.d (.tuple (p.paths.map ePa))) := e_ixL (x := .tuple (p.paths.map ePa)) (e_var h) e_int (by decide) rfl
end
inductive R_l_make (K : Frag) : List SV → SV → Prop
  | mk (p : Pt) (h : PtOk p) : R_l_make K [.d (ePt p)] (eLand K p)
theorem ok_l_make (T : Tx K mg) : FnOk P w K mg base CX0 6 (He.fAd K ("_law_make", none)) T.fd_l_make ["_law_parts_here"] (spQ (R_l_make K)) := by
  refine okQ T.F_l_make sc_l_make (fun _ _ h => by cases h; rfl) (by decide) ?_
  rintro X ⟨cdv, A, outer, s, H, rfl, hr⟩ args r hR
  refine ⟨_, (pss_one (ps_ret (pe_makeK0 T.mkLand (ok_Land_init T) (hr.mono (by decide)) (by rfl) T.g_Land (kb_Land_init T) pass0 (pk_cons (pe_callTy call_list_of (by rfl) T.m_list (by decide +kernel) (pa_cons (pe_ix ix_list (pv 0) pe_int (fun _ _ => rfl)) pa_nil)) (pk_cons (pe_callTy call_list_of (by rfl) T.m_list (by decide +kernel) (pa_cons (pe_ix ix_list (pv 0) pe_int (fun _ _ => rfl)) pa_nil)) (pk_cons (pe_callTy call_list_of (by rfl) T.m_list (by decide +kernel) (pa_cons (pe_ix ix_list (pv 0) pe_int (fun _ _ => rfl)) pa_nil)) (pk_cons (pe_callTy call_list_of (by rfl) T.m_list (by decide +kernel) (pa_cons (pe_ix ix_list (pv 0) pe_int (fun _ _ => rfl)) pa_nil)) pk_nil))))))), ?_⟩
  intro F0 H0 D hrt hnx
  cases hR with
  | mk p h =>
  show SR F0 H0 _ [.d (ePt p)] D
  exact r_ret (e_makeK (a_cons (e_freeze (e_cb (d_cons (e_pt0 rfl) d_nil) cq_listT)) (a_cons (e_freeze (e_cb (d_cons (e_pt1 rfl) d_nil) cq_listT)) (a_cons (e_freeze (e_cb (d_cons (e_pt2 rfl) d_nil) cq_listT)) (a_cons (e_freeze (e_cb (d_cons (e_pt3 rfl) d_nil) cq_listT)) a_nil)))) rfl ⟨p, rfl, h, rfl⟩) rfl hrt
inductive R_l_walks (K : Frag) : List SV → SV → Prop
  | mk (p : Pt) (x : Str) (h : ∀ l ∈ p.paths, l.one ≠ l.oth) (hl : p.paths.length < 100) : R_l_walks K [.d (ePt p), .d (.str x)] (.ml ((walksP p x).map eSI))
theorem ok_l_walks (T : Tx K mg) : FnOk P w K mg base CX0 1 (He.fAd K ("_law_walks", none)) T.fd_l_walks ["_law_parts_here", "_law_place"] (spQ (R_l_walks K)) := by
  refine okQ T.F_l_walks sc_l_walks (fun _ _ h => by cases h; rfl) (by decide) ?_
  rintro X ⟨cdv, A, outer, s, H, rfl, hr⟩ args r hR
  refine ⟨_, (pss_cons (ps_set (i := 2) sc_l_walks.nd rfl (Or.inl rfl) (pe_lst pa_nil))
    (pss_cons (ps_for PassesOwn.never rfl (pi_tup (pe_ix ix_list (pv 0) pe_int (fun _ _ => rfl))) (pg_tup rfl (pgs_cons (pg_name (i := 3) sc_l_walks.nd rfl (Or.inl rfl)) (pgs_cons (pg_name (i := 4) sc_l_walks.nd rfl (Or.inl rfl)) (pgs_cons (pg_name (i := 5) sc_l_walks.nd rfl (Or.inl rfl)) pgs_nil))))
      (pss_cons (ps_if (pt_cmpR op_eq (pv 3) (pv 1) (nomark _)) (pss_one (ps_expr (pe_bm PySem.F.plainAttrs_list PySem.F.slot_list_append PySem.F.type_list_append mt_append (pv 2) (pa_cons (pe_tupN (pa_cons (pv 4) (pa_cons (pv 5) pa_nil))) pa_nil)))) pss_nil)
    (pss_one (ps_if (pt_cmpR op_eq (pv 4) (pv 1) (nomark _)) (pss_one (ps_expr (pe_bm PySem.F.plainAttrs_list PySem.F.slot_list_append PySem.F.type_list_append mt_append (pv 2) (pa_cons (pe_tupN (pa_cons (pv 3) (pa_cons (pv 5) pa_nil))) pa_nil)))) pss_nil))))
    (pss_one (ps_ret (pv 2))))), ?_⟩
  intro F0 H0 D hrt hnx
  cases hR with
  | mk p x h hl =>
  show SR F0 H0 _ [.d (ePt p), .d (.str x), .u, .u, .u, .u] D
  refine sr_seq (r_asg (r := .ml []) (by walk_at "ev") (by walk_at "set") (nx_go (sr_seq ?_)))
  refine sr_fold p.paths ePa (walkStep x) (fun s => [.d (ePt p), .d (.str x), .ml (s.map eSI), .u, .u, .u]) (fun i s => s.length ≤ i) [] (wk_tup (e_pt3 rfl)) (by walk_at "le") (Nat.le_refl _) (fun F1 i q s gx hq hs _ => ⟨?_, _, gd_tup (gds_cons (g_name (by walk_at "set")) (gds_cons (g_name (by walk_at "set")) (gds_cons (g_name (by walk_at "set")) gds_nil))), ?_⟩) (fun _ => ?_)
  · unfold walkStep
    rw [List.length_append]
    split
    · exact Nat.succ_le_succ hs
    · split
      · exact Nat.succ_le_succ hs
      · exact Nat.le_succ_of_le hs
  · have hil := (List.getElem?_eq_some_iff.mp hq).1
    have hne := h q (List.mem_of_getElem? hq)
    have hsz : (s.map eSI).length < sizeLine := by
      rw [List.length_map]
      exact Nat.lt_trans (Nat.lt_of_le_of_lt hs (Nat.lt_trans hil hl)) (by decide)
    by_cases h1 : q.one = x
    · have h2 : ¬ q.oth = x := fun e => hne (by rw [h1, e])
      refine sr_seq (r_ifT (et_test (e_eqA (e_var rfl) (e_var rfl) rfl)) (by exact decide_eq_true h1) (r_app (n := 2) rfl (by walk_at "ev") hsz (by walk_at "set") (nx_go (r_ifF (et_test (e_eqA (e_var rfl) (e_var rfl) rfl)) (by exact decide_eq_false h2) (sr_next (nx_end rfl ?_))))))
      rw [walkStep, if_pos h1.symm, List.map_append]
      exact .eq (.eq (.eq (.u (.u (.u .nil)))))
    · refine sr_seq (r_ifF (et_test (e_eqA (e_var rfl) (e_var rfl) rfl)) (by exact decide_eq_false h1) (sr_next (nx_go ?_)))
      by_cases h2 : q.oth = x
      · refine r_ifT (et_test (e_eqA (e_var rfl) (e_var rfl) rfl)) (by exact decide_eq_true h2) (r_app (n := 2) rfl (by walk_at "ev") hsz (by walk_at "set") (nx_end rfl ?_))
        rw [walkStep, if_neg (fun e => h1 e.symm), if_pos h2.symm, List.map_append]
        exact .eq (.eq (.eq (.u (.u (.u .nil)))))
      · refine r_ifF (et_test (e_eqA (e_var rfl) (e_var rfl) rfl)) (by exact decide_eq_false h2) (sr_next (nx_end rfl ?_))
        rw [walkStep, if_neg (fun e => h1 e.symm), if_neg (fun e => h2 e.symm), List.append_nil]
        exact .eq (.eq (.eq (.u (.u (.u .nil)))))
  · refine nx_go (sr_retM (ds := (walksP p x).map eSI) ?_ hrt)
    rw [walk_fold]
    rfl
inductive R_l_wind (K : Frag) : List SV → SV → Prop
  | mk (p : Pt) (W : We) (m : Int) (h : WOk p.winds W) (hm : 0 ≤ m) : R_l_wind K [.d (ePt p), .d (eWe W), .d (.int m)] (.d (.int (idxM p.winds (blowM W m) : Nat)))
def windStep (m : Int) (a : Str) (q : Int × Str) : Str := if q.1 ≤ m then q.2 else a
theorem wind_fold (m : Int) : ∀ (l : We) (a : Str), l.foldl (windStep m) a = (bef l m).getLast?.getD a
  | [], a => rfl
  | q :: l, a => by
    rw [List.foldl_cons, wind_fold m l]
    unfold windStep bef
    rw [List.filter_cons]
    by_cases h : q.1 ≤ m
    · rw [if_pos h, if_pos (by simpa using h), List.map_cons]
      cases hl : (l.filter fun q => decide (q.1 ≤ m)).map (·.2) with
      | nil => rfl
      | cons b r =>
        rw [List.getLast?_cons_cons]
        cases hc : (b :: r).getLast? with
        | none => simp at hc
        | some z => rfl
    · rw [if_neg h, if_neg (by simpa using h)]
theorem ok_l_wind (T : Tx K mg) : FnOk P w K mg base CX0 1 (He.fAd K ("_law_wind", none)) T.fd_l_wind ["_law_parts_here", "_law_weather_here", "_law_minute"] (spQ (R_l_wind K)) := by
  refine okQ T.F_l_wind sc_l_wind (fun _ _ h => by cases h; rfl) (by decide) ?_
  rintro X ⟨cdv, A, outer, s, H, rfl, hr⟩ args r hR
  refine ⟨_, (pss_cons (ps_set (i := 3) sc_l_wind.nd rfl (Or.inl rfl) (pe_ix ix_tup (pe_ix ix_list (pv 1) pe_int (fun _ _ => rfl)) pe_int (fun _ _ => rfl)))
    (pss_cons (ps_for PassesOwn.never rfl (pi_list (pv 1)) (pg_name (i := 4) sc_l_wind.nd rfl (Or.inl rfl))
      (pss_one (ps_if (pt_cmpR op_le (pe_ix ix_tup (pv 4) pe_int (fun _ _ => rfl)) (pv 2) (nomark _)) (pss_one (ps_set (i := 3) sc_l_wind.nd rfl (Or.inl rfl) (pe_ix ix_tup (pv 4) pe_int (fun _ _ => rfl)))) pss_nil)))
    (pss_one (ps_ret (pe_bmT PySem.F.plainAttrs_tuple PySem.F.slot_tuple_index PySem.F.type_tuple_index mt_tup_index (pe_ix ix_list (pv 0) pe_int (fun _ _ => rfl)) (pa_cons (pv 3) pa_nil)))))), ?_⟩
  intro F0 H0 D hrt hnx
  cases hR with
  | mk p W m h hm =>
  show SR F0 H0 _ [.d (ePt p), .d (eWe W), .d (.int m), .u, .u] D
  obtain ⟨w0, rest, hW⟩ := h.ne
  obtain ⟨i1, i2⟩ := idx_at (blow_in h hm)
  refine sr_seq (r_asg (r := .d (.str w0)) (e_ixT (x := .str w0) (ds := [.int 0, .str w0]) (e_ixL (x := eIS (0, w0)) (e_var rfl) e_int (by decide) (by rw [hW]; rfl)) e_int (by decide) rfl) (by walk_at "set") (nx_go (sr_seq ?_)))
  refine sr_fold W eIS (windStep m) (fun a => [.d (ePt p), .d (eWe W), .d (.int m), .d (.str a), .u]) (fun _ _ => True) w0 (wk_list (e_var rfl)) (by walk_at "le") trivial (fun F1 i q a gx hq _ _ => ⟨trivial, _, g_name (d := eIS q) (by walk_at "set"), ?_⟩) (fun _ => ?_)
  · have e0 : ∀ {Γ : List SV}, Γ[4]? = some (.d (eIS q)) → Ev (tOp (rIxT K) (tVar 4) (tC (.int 0))) Γ (.d (.int q.1)) := fun hg => e_ixT (x := .int q.1) (e_var hg) e_int (by decide) rfl
    have e1 : ∀ {Γ : List SV}, Γ[4]? = some (.d (eIS q)) → Ev (tOp (rIxT K) (tVar 4) (tC (.int 1))) Γ (.d (.str q.2)) := fun hg => e_ixT (x := .str q.2) (e_var hg) e_int (by decide) rfl
    by_cases hc : q.1 ≤ m
    · refine r_ifT (et_test (e_le (e0 rfl) (e_var rfl))) (decide_eq_true hc) (r_asg (e1 rfl) (by walk_at "set") (nx_end rfl ?_))
      rw [windStep, if_pos hc]
      exact .eq (.eq (.eq (.eq (.u .nil))))
    · refine r_ifF (et_test (e_le (e0 rfl) (e_var rfl))) (decide_eq_false hc) (sr_next (nx_end rfl ?_))
      rw [windStep, if_neg hc]
      exact .eq (.eq (.eq (.eq (.u .nil))))
  · have e : W.foldl (windStep m) w0 = blowM W m := by
      rw [wind_fold, blow_last h hm]
      rfl
    rw [e]
    exact nx_go (sr_ret (e_index (e_pt0 rfl) (e_var rfl) i1 i2) hrt)
end Ef
/-! The law's own defs. -/
namespace Ef
open PySem PySem.Spec PyProof.Rows L2
local macro_rules | `(tactic| walk_at "set") => `(tactic| (repeat' (first | exact SetAt.z | apply SetAt.s)))
local macro_rules | `(tactic| walk_at "le") => `(tactic| (repeat' (first | exact Le.nil | (with_reducible apply Le.eq) | (with_reducible apply Le.u) | (with_reducible apply Le.as) | rfl)))
local macro_rules | `(tactic| walk_at "ev1") => `(tactic| first
  | exact e_int | exact e_str | exact e_bl | exact e_non
  | exact e_var rfl | exact d_nil | exact a_nil | exact et_yes | exact o_none | exact k_own rfl
  | exact e_lenM rfl
  | ((with_reducible show lenK _ = true); rfl) | ((with_reducible show eqK _ _ = true); rfl) | ((with_reducible show smallL _ = true); rfl)
  | with_reducible apply d_cons | with_reducible apply a_cons | with_reducible apply o_some
  | with_reducible apply e_add | with_reducible apply e_sub | with_reducible apply e_lt | with_reducible apply e_le | with_reducible apply e_gt | with_reducible apply e_ge
  | with_reducible apply e_mul | with_reducible apply e_mod | with_reducible apply e_fdiv
  | with_reducible apply e_eqA | with_reducible apply e_neA
  | with_reducible apply e_isN | with_reducible apply e_notN | with_reducible apply e_notV | with_reducible apply et_test | with_reducible apply et_B | with_reducible apply et_not
  | with_reducible apply et_and2 | with_reducible apply et_or2 | with_reducible apply e_andV2 | with_reducible apply e_orV2
  | with_reducible apply e_tupS | with_reducible apply e_lstS | exact e_dnew
  | with_reducible apply e_lenA
  | (with_reducible apply e_cb (hr := cq_abs)) | (with_reducible apply e_cb (hr := cq_int1)) | (with_reducible apply e_cb (hr := cq_max2)) | (with_reducible apply e_cb (hr := cq_min2))
  | with_reducible apply e_call | with_reducible apply e_meth
  | with_reducible apply e_din | with_reducible apply e_dnotin | with_reducible apply e_dget | with_reducible apply e_dget1 | with_reducible apply e_dget2)
local macro_rules | `(tactic| walk_at "ev") => `(tactic| repeat' (walk_at "ev1"))
variable {P : Program} {w : World} {K : Frag} {mg : Str → Option Value} {base : Heap}
def capO (acc : Option Int) (e : Int) : Option Int := match acc with
  | none => some e
  | some a => if e < a then some e else some a
def capStep (ws : List Str) (W : We) (row : List (Option Int)) (acc : Option Int) (s : Int) : Option Int := match numAt row (idxM ws (blowM W s)) with
  | none => acc
  | some n => capO acc (s + n)
theorem cap_some : ∀ (l : List Int) (a : Int), l.foldl capO (some a) = some (l.foldl min a)
  | [], a => rfl
  | x :: l, a => by
    rw [List.foldl_cons, List.foldl_cons]
    have : capO (some a) x = some (min a x) := by
      unfold capO
      dsimp only
      split
      · rw [show min a x = x by omega]
      · rw [show min a x = a by omega]
    rw [this, cap_some l]
theorem cap_fold (ws : List Str) (W : We) (row : List (Option Int)) : ∀ (l : List Int) (acc : Option Int), l.foldl (capStep ws W row) acc = (l.filterMap fun s => (numAt row (idxM ws (blowM W s))).map (s + ·)).foldl capO acc
  | [], acc => rfl
  | x :: l, acc => by
    rw [List.foldl_cons, cap_fold ws W row l, List.filterMap_cons]
    unfold capStep
    cases numAt row (idxM ws (blowM W x)) <;> rfl
theorem cap_min (ws : List Str) (W : We) (row : List (Option Int)) (m : Int) : (chanM W m).foldl (capStep ws W row) none = caughtM ws W row m := by
  rw [cap_fold]
  unfold caughtM endsM
  cases (chanM W m).filterMap fun s => (numAt row (idxM ws (blowM W s))).map (s + ·) with
  | nil => rfl
  | cons x l => exact cap_some l x
inductive R_l_caught (K : Frag) : List SV → SV → Prop
  | mk (p : Pt) (W : We) (l : Lk) (m : Int) (h : WOk p.winds W) (hl : l.ts.length = p.winds.length) (hm : 0 ≤ m) : R_l_caught K [.d (ePt p), .d (eWe W), .d (eLk l), .d (.int m), .d (.int 0)] (.d (eO (caughtM p.winds W (leastRow l) m)))
theorem ok_l_caught (T : Tx K mg) : FnOk P w K mg base CX0 2 (He.fAd K ("_law_caught", none)) T.fd_l_caught ["_law_parts_here", "_law_weather_here", "_law_link", "_law_minute", "_law_side"] (spQ (R_l_caught K)) := by
  refine okQ T.F_l_caught sc_l_caught (fun _ _ h => by cases h; rfl) (by decide) ?_
  rintro X ⟨cdv, A, outer, s, H, rfl, hr⟩ args r hR
  refine ⟨_, (pss_cons (ps_set (i := 5) sc_l_caught.nd rfl (Or.inl rfl) pe_non)
    (pss_cons (ps_for PassesOwn.never rfl (pi_list (pe_op op_cat (pe_lst (pa_cons (pv 3) pa_nil)) (pe_lc (own := [("_law_row_here", 7)]) (g := (gName 7)) (tt := (tTest (tOp (rI0 fun i j => .bl (decide (j < i))) (tOp (rIxT K) (tVar 7) (tC (.int 0))) (tVar 3)))) (te := (tOp (rIxT K) (tVar 7) (tC (.int 0)))) rfl sc_l_caught.nd (pi_list (pv 1)) (blkOk_by (by kernel_rfl)) (fun _ _ _ _ _ => (pg_name (i := 7) sc_l_caught.nd rfl (Or.inl rfl))) (fun _ _ _ _ _ => (pts_one (pt_cmpR op_gt (pe_ix ix_tup (pv 7) pe_int (fun _ _ => rfl)) (pv 3) (nomark _)))) (fun _ _ _ _ _ => (pe_ix ix_tup (pv 7) pe_int (fun _ _ => rfl)))))) (pg_name (i := 6) sc_l_caught.nd rfl (Or.inl rfl))
      (pss_cons (ps_set (i := 8) sc_l_caught.nd rfl (Or.inl rfl) (pe_ix ix_tup (pe_ix ix_tup (pv 2) pe_int (fun _ _ => rfl)) (pe_call (ok_l_wind T) (hr.mono (by decide)) (by rfl) T.g_l_wind T.F_l_wind.kp (b_l_wind T) .nil pass0 (pa_cons (pv 0) (pa_cons (pv 1) (pa_cons (pv 6) pa_nil)))) (fun _ _ => rfl)))
    (pss_one (ps_if (PW.pt (pw_and (pt_cmp (pc_notN (pv 8))) (pw_and1 (PW.pt (pw_or (pt_cmp (pc_isN (pv 5))) (pw_or1 (pt_cmpR op_lt (pe_op op_add (pv 6) (pe_ix ix_tup (pv 8) (pv 4) (fun _ _ => rfl))) (pv 5) (nomark _)))))))) (pss_one (ps_set (i := 5) sc_l_caught.nd rfl (Or.inl rfl) (pe_op op_add (pv 6) (pe_ix ix_tup (pv 8) (pv 4) (fun _ _ => rfl))))) pss_nil))))
    (pss_one (ps_ret (pv 5))))), ?_⟩
  intro F0 H0 D hrt hnx
  cases hR with
  | mk p W l m h hlt hm =>
  show SR F0 H0 _ [.d (ePt p), .d (eWe W), .d (eLk l), .d (.int m), .d (.int 0), .u, .u, .u, .u] D
  have hfew := h.few
  have e : W.filterMap (fun q => if m < q.1 then some (PyData.int q.1) else none) = ((W.filter fun q => decide (m < q.1)).map (·.1)).map .int := by
    clear h hrt hnx hfew
    induction W with
    | nil => rfl
    | cons q W ih =>
      rw [List.filterMap_cons, List.filter_cons]
      by_cases e : m < q.1 <;> simp [e, ih]
  refine sr_seq (r_asg (r := .d (eO none)) e_non (by walk_at "set") (nx_go (sr_seq ?_)))
  refine sr_fold (chanM W m) .int (capStep p.winds W (leastRow l)) (fun acc => [.d (ePt p), .d (eWe W), .d (eLk l), .d (.int m), .d (.int 0), .d (eO acc), .u, .u, .u]) (fun _ _ => True) none (wk_eq (wk_list (e_freeze (e_cat (e_lstS (d_cons (e_var rfl) d_nil)) (e_lcF W eIS (fun q => if m < q.1 then some (.int q.1) else none) (wk_list (e_var rfl)).c (w_small h) fun i q hq => ?_) ?_))) ?_) (by walk_at "le") trivial (fun F1 i s acc gx hs _ _ => ⟨trivial, _, g_name (by walk_at "set"), ?_⟩) (fun _ => ?_)
  · have e0 : ∀ {Γ : List SV}, Γ[7]? = some (.d (eIS q)) → Ev (tOp (rIxT K) (tVar 7) (tC (.int 0))) Γ (.d (.int q.1)) := fun hg => e_ixT (x := .int q.1) (e_var hg) e_int (by decide) rfl
    refine ⟨_, _, v_name (d := eIS q) (by walk_at "set"), et_test (e_gt (e0 rfl) (e_var rfl)), ?_, fun y hy => ?_⟩
    · by_cases e : m < q.1 <;> simp [e]
    · split at hy
      · cases hy
        exact e0 rfl
      · cases hy
  · rw [e, List.length_map, List.length_map]
    have := List.length_filter_le (fun q : Int × Str => decide (m < q.1)) W
    rw [sizeLine_eq]
    simp only [List.length_cons, List.length_nil]
    omega
  · rw [e]
    rfl
  · have h0 : 0 ≤ s := chan_pos h hm s (List.mem_of_getElem? hs)
    obtain ⟨i1, i2⟩ := idx_at (blow_in h h0)
    have hlt2 : idxM p.winds (blowM W s) < l.ts.length := by
      rw [hlt]
      exact (List.getElem?_eq_some_iff.mp i1).1
    obtain ⟨t, ht⟩ : ∃ t, l.ts[idxM p.winds (blowM W s)]? = some t := ⟨_, List.getElem?_eq_getElem hlt2⟩
    have hn : numAt (leastRow l) (idxM p.winds (blowM W s)) = t.map (·.1) := by
      unfold numAt leastRow
      rw [List.getElem?_map, ht]
      rfl
    refine sr_seq (r_asg (r := .d (ePair t)) (e_ixFT (f := ePair) (xs := l.ts) (e_ixT (x := .tuple (l.ts.map ePair)) (e_var rfl) e_int (by decide) rfl) (e_call (a_cons (e_var rfl) (a_cons (e_var rfl) (a_cons (e_var rfl) a_nil))) (.mk p W s h h0)) (Int.natCast_nonneg _) (by rw [Int.toNat_natCast]; exact ht)) (by walk_at "set") (nx_go ?_))
    cases t with
    | none =>
      refine r_ifF (et_and (b := false) (b' := false) (et_B (e_eq (e_notN (e_var (r := .d (ePair none)) rfl)) rfl)) fun hb => nomatch hb) rfl (sr_next (nx_end rfl ?_))
      rw [capStep, hn]
      exact .eq (.eq (.eq (.eq (.eq (.eq (.u (.u (.u .nil))))))))
    | some q =>
      have hn : numAt (leastRow l) (idxM p.winds (blowM W s)) = some q.1 := hn
      have eb : ∀ {Γ : List SV}, Γ[8]? = some (.d (ePair (some q))) → Γ[4]? = some (.d (.int 0)) → Ev (tOp (rIxT K) (tVar 8) (tVar 4)) Γ (.d (.int q.1)) := fun hg h4 => e_ixT (x := .int q.1) (e_var hg) (e_var h4) (by decide) rfl
      cases acc with
      | none =>
        refine r_ifT (et_and (b := true) (b' := true) (et_B (e_eq (e_notN (e_var (r := .d (ePair (some q))) rfl)) rfl)) fun _ => et_or (b := true) (b' := true) (et_B (e_eq (e_isN (e_var (r := .d (eO none)) rfl)) rfl)) fun hb => nomatch hb) rfl (r_asg (r := .d (eO (some (s + q.1)))) (e_add (e_var rfl) (eb rfl rfl)) (by walk_at "set") (nx_end rfl ?_))
        rw [capStep, hn]
        exact .eq (.eq (.eq (.eq (.eq (.eq (.u (.u (.u .nil))))))))
      | some a =>
        refine r_if (b' := decide (s + q.1 < a)) (et_and (b := true) (et_B (e_eq (e_notN (e_var (r := .d (ePair (some q))) rfl)) rfl)) fun _ => et_or (b := false) (et_B (e_eq (e_isN (e_var (r := .d (eO (some a))) rfl)) rfl)) fun _ => et_test (e_lt (e_add (e_var rfl) (eb rfl rfl)) (e_var (r := .d (.int a)) rfl))) rfl (fun hb => ?_) (fun hb => ?_)
        · refine r_asg (r := .d (eO (some (s + q.1)))) (e_add (e_var rfl) (eb rfl rfl)) (by walk_at "set") (nx_end rfl ?_)
          rw [capStep, hn]
          have : capO (some a) (s + q.1) = some (s + q.1) := if_pos (of_decide_eq_true hb)
          dsimp only
          rw [this]
          exact .eq (.eq (.eq (.eq (.eq (.eq (.u (.u (.u .nil))))))))
        · refine sr_next (nx_end rfl ?_)
          rw [capStep, hn]
          have : capO (some a) (s + q.1) = some a := if_neg (of_decide_eq_false hb)
          dsimp only
          rw [this]
          exact .eq (.eq (.eq (.eq (.eq (.eq (.u (.u (.u .nil))))))))
  · rw [cap_min]
    exact nx_go (sr_ret (e_var (r := .d (eO (caughtM p.winds W (leastRow l) m))) rfl) hrt)
/-! ### rows -/
def atM (ns : List Int) (i : Nat) : Int := ns.getD i 0
def plAt (p : Pt) (i : Int) : Str := p.places.getD (i % (p.places.length : Int)).toNat default
def rowsM (ns : List Int) (at_ many : Nat) (p : Pt) (most : Int) : Ro := (List.range many).map fun k => (plAt p (atM ns (at_ + 2 * k)), atM ns (at_ + 2 * k + 1) % most)
theorem pl_at {p : Pt} (h : 0 < p.places.length) (i : Int) : p.places[(i % (p.places.length : Int)).toNat]? = some (plAt p i) := by
  have h1 : 0 ≤ i % (p.places.length : Int) := Int.emod_nonneg _ (by omega)
  have h2 : i % (p.places.length : Int) < p.places.length := Int.emod_lt_of_pos _ (by omega)
  have hl : (i % (p.places.length : Int)).toNat < p.places.length := by omega
  unfold plAt
  rw [List.getElem?_eq_getElem hl, List.getD_eq_getElem?_getD, List.getElem?_eq_getElem hl]
  rfl
theorem pl_mem {p : Pt} (h : 0 < p.places.length) (i : Int) : plAt p i ∈ p.places := List.mem_of_getElem? (pl_at h i)
theorem e_num {Γ : List SV} {ta tb : TE} {ns : List Int} {i : Int} {k : Nat} (ha : Ev ta Γ (.d (.list (ns.map .int)))) (hb : Ev tb Γ (.d (.int i))) (hi : i = (k : Nat)) (hk : k < ns.length) : Ev (tOp (rIxL K) ta tb) Γ (.d (.int (atM ns k))) := by
  subst hi
  have := e_ixI (K := K) ha hb (Int.natCast_nonneg _) (by rw [Int.toNat_natCast]; exact hk)
  rw [Int.toNat_natCast] at this
  exact this
inductive R_l_rows (K : Frag) : List SV → SV → Prop
  | mk (ns : List Int) (at_ many : Nat) (p : Pt) (most : Int) (hn : at_ + 2 * many ≤ ns.length) (hp : 0 < p.places.length) (hm : 0 < most) (hl : many < 100) : R_l_rows K [.d (.list (ns.map .int)), .d (.int (at_ : Nat)), .d (.int (many : Nat)), .d (ePt p), .d (.int most)] (.ml ((rowsM ns at_ many p most).map eSI))
theorem ok_l_rows (T : Tx K mg) : FnOk P w K mg base CX0 1 (He.fAd K ("_law_rows", none)) T.fd_l_rows ["_law_numbers_here", "_law_at", "_law_many", "_law_parts_here", "_law_most"] (spQ (R_l_rows K)) := by
  refine okQ T.F_l_rows sc_l_rows (fun _ _ h => by cases h; rfl) (by decide) ?_
  rintro X ⟨cdv, A, outer, s, H, rfl, hr⟩ args r hR
  refine ⟨_, (pss_one (ps_ret (pe_lc (own := [("_law_k", 5)]) (g := (gName 5)) (tt := tYes) (te := (tTupN (tCons (tOp (rIxT K) (tOp (rIxL K) (tVar 3) (tC (.int 1))) (tOp (rI (fun _ j => 0 < j) fun i j => .int (i % j)) (tCB _ (tCons (tOp (rIxL K) (tVar 0) (tOp (rI0 fun i j => .int (i + j)) (tVar 1) (tOp (rI CMul fun i j => .int (i * j)) (tC (.int 2)) (tVar 5)))) tNil)) (tCB (rLenQ K) (tCons (tOp (rIxL K) (tVar 3) (tC (.int 1))) tNil)))) (tCons (tOp (rI (fun _ j => 0 < j) fun i j => .int (i % j)) (tCB _ (tCons (tOp (rIxL K) (tVar 0) (tOp (rI0 fun i j => .int (i + j)) (tOp (rI0 fun i j => .int (i + j)) (tVar 1) (tOp (rI CMul fun i j => .int (i * j)) (tC (.int 2)) (tVar 5))) (tC (.int 1)))) tNil)) (tVar 4)) tNil)))) rfl sc_l_rows.nd (pi_range1 rfl T.m_range (pa_cons (pv 2) pa_nil)) (blkOk_by (by kernel_rfl)) (fun _ _ _ _ _ => (pg_name (i := 5) sc_l_rows.nd rfl (Or.inl rfl))) (fun _ _ _ _ _ => pts_nil) (fun _ _ _ _ _ => (pe_tupN (pa_cons (pe_ix ix_tup (pe_ix ix_list (pv 3) pe_int (fun _ _ => rfl)) (pe_op op_mod (pe_callTy call_int1 (by rfl) T.m_int (by decide +kernel) (pa_cons (pe_ix ix_list (pv 0) (pe_op op_add (pv 1) (pe_op op_mul pe_int (pv 5))) (fun _ _ => rfl)) pa_nil)) (pe_callB call_lenQ (by rfl) T.m_len (by decide +kernel) (pa_cons (pe_ix ix_list (pv 3) pe_int (fun _ _ => rfl)) pa_nil))) (fun _ _ => rfl)) (pa_cons (pe_op op_mod (pe_callTy call_int1 (by rfl) T.m_int (by decide +kernel) (pa_cons (pe_ix ix_list (pv 0) (pe_op op_add (pe_op op_add (pv 1) (pe_op op_mul pe_int (pv 5))) pe_int) (fun _ _ => rfl)) pa_nil)) (pv 4)) pa_nil))))))), ?_⟩
  intro F0 H0 D hrt hnx
  cases hR with
  | mk ns at_ many p most hn hp hm hl =>
  show SR F0 H0 _ [.d (.list (ns.map .int)), .d (.int (at_ : Nat)), .d (.int (many : Nat)), .d (ePt p), .d (.int most), .u] D
  refine r_ret (e_lcM (List.range many) (fun k => .int (k : Nat)) (fun k => eSI (plAt p (atM ns (at_ + 2 * k)), atM ns (at_ + 2 * k + 1) % most)) (wkc_eq (wk_range (d_cons (e_var rfl) d_nil) (by omega) (Int.natCast_nonneg _)).c (int_map many)) ?_ fun i k hk => ⟨_, v_name (by walk_at "set"), ?_⟩) (by unfold rowsM; rw [List.map_map]; rfl) hrt
  · rw [List.length_range, sizeLine_eq]
    omega
  · have hk2 := List.mem_range.mp (List.mem_of_getElem? hk)
    refine e_tupS (d_cons (e_ixFT (f := .str) (xs := p.places) (e_pt1 rfl) (e_mod (e_cb (d_cons (e_num (k := at_ + 2 * k) (e_var rfl) (e_add (e_var rfl) (e_mul e_int (e_var rfl) (.inl (by decide)))) ?_ ?_) d_nil) cq_int1) (e_lenA (e_pt1 rfl) rfl) ?_) ?_ ?_) (d_cons (e_mod (e_cb (d_cons (e_num (k := at_ + 2 * k + 1) (e_var rfl) (e_add (e_add (e_var rfl) (e_mul e_int (e_var rfl) (.inl (by decide)))) e_int) ?_ ?_) d_nil) cq_int1) (e_var rfl) hm) d_nil))
    · omega
    · omega
    · simp only [lenF, List.length_map]
      omega
    · simp only [lenF, List.length_map]
      exact Int.emod_nonneg _ (by omega)
    · simp only [lenF, List.length_map]
      exact pl_at hp _
    · omega
    · omega
end Ef
/-! The law's own defs. -/
namespace Ef
open PySem PySem.Spec PyProof.Rows L2
local macro_rules | `(tactic| walk_at "set") => `(tactic| (repeat' (first | exact SetAt.z | apply SetAt.s)))
local macro_rules | `(tactic| walk_at "le") => `(tactic| (repeat' (first | exact Le.nil | (with_reducible apply Le.eq) | (with_reducible apply Le.u) | (with_reducible apply Le.as) | rfl)))
local macro_rules | `(tactic| walk_at "ev1") => `(tactic| first
  | exact e_int | exact e_str | exact e_bl | exact e_non
  | exact e_var rfl | exact d_nil | exact a_nil | exact et_yes | exact o_none | exact k_own rfl
  | exact e_lenM rfl
  | ((with_reducible show lenK _ = true); rfl) | ((with_reducible show eqK _ _ = true); rfl) | ((with_reducible show smallL _ = true); rfl)
  | with_reducible apply d_cons | with_reducible apply a_cons | with_reducible apply o_some
  | with_reducible apply e_add | with_reducible apply e_sub | with_reducible apply e_lt | with_reducible apply e_le | with_reducible apply e_gt | with_reducible apply e_ge
  | with_reducible apply e_mul | with_reducible apply e_mod | with_reducible apply e_fdiv
  | with_reducible apply e_eqA | with_reducible apply e_neA
  | with_reducible apply e_isN | with_reducible apply e_notN | with_reducible apply e_notV | with_reducible apply et_test | with_reducible apply et_B | with_reducible apply et_not
  | with_reducible apply et_and2 | with_reducible apply et_or2 | with_reducible apply e_andV2 | with_reducible apply e_orV2
  | with_reducible apply e_tupS | with_reducible apply e_lstS | exact e_dnew
  | with_reducible apply e_lenA
  | (with_reducible apply e_cb (hr := cq_abs)) | (with_reducible apply e_cb (hr := cq_int1)) | (with_reducible apply e_cb (hr := cq_max2)) | (with_reducible apply e_cb (hr := cq_min2))
  | with_reducible apply e_call | with_reducible apply e_meth
  | with_reducible apply e_din | with_reducible apply e_dnotin | with_reducible apply e_dget | with_reducible apply e_dget1 | with_reducible apply e_dget2)
local macro_rules | `(tactic| walk_at "ev") => `(tactic| repeat' (walk_at "ev1"))
variable {P : Program} {w : World} {K : Frag} {mg : Str → Option Value} {base : Heap}
def wiAt (p : Pt) (i : Int) : Str := p.winds.getD (i % (p.winds.length : Int)).toNat default
theorem wi_at {p : Pt} (h : 0 < p.winds.length) (i : Int) : p.winds[(i % (p.winds.length : Int)).toNat]? = some (wiAt p i) := by
  have h1 : 0 ≤ i % (p.winds.length : Int) := Int.emod_nonneg _ (by omega)
  have h2 : i % (p.winds.length : Int) < p.winds.length := Int.emod_lt_of_pos _ (by omega)
  have hl : (i % (p.winds.length : Int)).toNat < p.winds.length := by omega
  unfold wiAt
  rw [List.getElem?_eq_getElem hl, List.getD_eq_getElem?_getD, List.getElem?_eq_getElem hl]
  rfl
def wStep (ns : List Int) (at_ : Nat) (p : Pt) (acc : We) (k : Nat) : We := acc ++ [((acc.getD k default).1 + 1 + atM ns (at_ + 2 + k) % 12, wiAt p (atM ns (at_ + 5 + k)))]
def weatherM (ns : List Int) (at_ : Nat) (p : Pt) : We := (List.range (atM ns (at_ + 1) % 4).toNat).foldl (wStep ns at_ p) [(0, wiAt p (atM ns at_))]
inductive R_l_weather (K : Frag) : List SV → SV → Prop
  | mk (ns : List Int) (at_ : Nat) (p : Pt) (hn : at_ + 8 < ns.length) (hp : 0 < p.winds.length) : R_l_weather K [.d (.list (ns.map .int)), .d (.int (at_ : Nat)), .d (ePt p)] (.ml ((weatherM ns at_ p).map eIS))
theorem ok_l_weather (T : Tx K mg) : FnOk P w K mg base CX0 1 (He.fAd K ("_law_weather", none)) T.fd_l_weather ["_law_numbers_here", "_law_at", "_law_parts_here"] (spQ (R_l_weather K)) := by
  refine okQ T.F_l_weather sc_l_weather (fun _ _ h => by cases h; rfl) (by decide) ?_
  rintro X ⟨cdv, A, outer, s, H, rfl, hr⟩ args r hR
  refine ⟨_, (pss_cons (ps_set (i := 3) sc_l_weather.nd rfl (Or.inl rfl) (pe_lst (pa_cons (pe_tupN (pa_cons pe_int (pa_cons (pe_ix ix_tup (pe_ix ix_list (pv 2) pe_int (fun _ _ => rfl)) (pe_op op_mod (pe_callTy call_int1 (by rfl) T.m_int (by decide +kernel) (pa_cons (pe_ix ix_list (pv 0) (pv 1) (fun _ _ => rfl)) pa_nil)) (pe_callB call_lenQ (by rfl) T.m_len (by decide +kernel) (pa_cons (pe_ix ix_list (pv 2) pe_int (fun _ _ => rfl)) pa_nil))) (fun _ _ => rfl)) pa_nil))) pa_nil)))
    (pss_cons (ps_for PassesOwn.never rfl (pi_range1 rfl T.m_range (pa_cons (pe_op op_mod (pe_callTy call_int1 (by rfl) T.m_int (by decide +kernel) (pa_cons (pe_ix ix_list (pv 0) (pe_op op_add (pv 1) pe_int) (fun _ _ => rfl)) pa_nil)) pe_int) pa_nil)) (pg_name (i := 4) sc_l_weather.nd rfl (Or.inl rfl))
      (pss_one (ps_expr (pe_bm PySem.F.plainAttrs_list PySem.F.slot_list_append PySem.F.type_list_append mt_append (pv 3) (pa_cons (pe_tupN (pa_cons (pe_op op_add (pe_op op_add (pe_ix ix_tup (pe_ix ix_list (pv 3) (pv 4) (fun _ _ => rfl)) pe_int (fun _ _ => rfl)) pe_int) (pe_op op_mod (pe_callTy call_int1 (by rfl) T.m_int (by decide +kernel) (pa_cons (pe_ix ix_list (pv 0) (pe_op op_add (pe_op op_add (pv 1) pe_int) (pv 4)) (fun _ _ => rfl)) pa_nil)) pe_int)) (pa_cons (pe_ix ix_tup (pe_ix ix_list (pv 2) pe_int (fun _ _ => rfl)) (pe_op op_mod (pe_callTy call_int1 (by rfl) T.m_int (by decide +kernel) (pa_cons (pe_ix ix_list (pv 0) (pe_op op_add (pe_op op_add (pv 1) pe_int) (pv 4)) (fun _ _ => rfl)) pa_nil)) (pe_callB call_lenQ (by rfl) T.m_len (by decide +kernel) (pa_cons (pe_ix ix_list (pv 2) pe_int (fun _ _ => rfl)) pa_nil))) (fun _ _ => rfl)) pa_nil))) pa_nil)))))
    (pss_one (ps_ret (pv 3))))), ?_⟩
  intro F0 H0 D hrt hnx
  cases hR with
  | mk ns at_ p hn hp =>
  show SR F0 H0 _ [.d (.list (ns.map .int)), .d (.int (at_ : Nat)), .d (ePt p), .u, .u] D
  have hl0 : (lenF (PyData.tuple (p.winds.map .str)) : Int) = (p.winds.length : Nat) := by simp only [lenF, List.length_map]
  refine sr_seq (r_asg (r := .ml ([((0 : Int), wiAt p (atM ns at_))].map eIS)) (e_as (e_lstS (d_cons (e_tupS (d_cons e_int (d_cons (e_ixFT (f := .str) (xs := p.winds) (e_pt0 rfl) (e_mod (e_cb (d_cons (e_num (k := at_) (e_var rfl) (e_var rfl) rfl (by omega)) d_nil) cq_int1) (e_lenA (e_pt0 rfl) rfl) ?_) ?_ ?_) d_nil))) d_nil)) rfl) (by walk_at "set") (nx_go (sr_seq ?_)))
  · rw [hl0]; omega
  · rw [hl0]; exact Int.emod_nonneg _ (by omega)
  · rw [hl0]; exact wi_at hp _
  have hm4 : 0 ≤ atM ns (at_ + 1) % 4 ∧ atM ns (at_ + 1) % 4 < 4 := ⟨Int.emod_nonneg _ (by decide), Int.emod_lt_of_pos _ (by decide)⟩
  refine sr_fold (List.range (atM ns (at_ + 1) % 4).toNat) (fun k => .int (k : Nat)) (wStep ns at_ p) (fun acc => [.d (.list (ns.map .int)), .d (.int (at_ : Nat)), .d (ePt p), .ml (acc.map eIS), .u]) (fun i acc => acc.length = i + 1) [(0, wiAt p (atM ns at_))] (wk_range (d_cons (e_mod (e_cb (d_cons (e_num (k := at_ + 1) (e_var rfl) (e_add (e_var rfl) e_int) (by omega) (by omega)) d_nil) cq_int1) e_int (by decide)) d_nil) (by omega) hm4.1) (by walk_at "le") rfl (fun F1 i k acc gx hk ha _ => ⟨by rw [wStep, List.length_append, ha]; rfl, _, g_name (by walk_at "set"), ?_⟩) (fun _ => nx_go (sr_retM rfl hrt))
  have hk2 := List.mem_range.mp (List.mem_of_getElem? hk)
  have hki : k = i := by
    have h1 := (List.getElem?_eq_some_iff.mp hk).1
    rw [List.length_range] at h1
    rw [List.getElem?_range h1] at hk
    exact (Option.some.inj hk).symm
  have hg : acc[k]? = some (acc.getD k default) := by
    have hl : k < acc.length := by omega
    rw [List.getElem?_eq_getElem hl, List.getD_eq_getElem?_getD, List.getElem?_eq_getElem hl]
    rfl
  generalize haa : acc.getD k default = a at hg
  have e0 : ∀ {Γ : List SV}, Γ[3]? = some (.ml (acc.map eIS)) → Γ[4]? = some (.d (.int (k : Nat))) → Ev (tOp (rIxT K) (tOp (rIxL K) (tVar 3) (tVar 4)) (tC (.int 0))) Γ (.d (.int a.1)) := fun h3 h4 => e_ixT (x := .int a.1) (e_ixMF (f := eIS) (xs := acc) (a := a) h3 (e_var h4) (Int.natCast_nonneg _) (by rw [Int.toNat_natCast]; exact hg)) e_int (by decide) rfl
  refine r_app (n := 3) (x := eIS (a.1 + 1 + atM ns (at_ + 2 + k) % 12, wiAt p (atM ns (at_ + 5 + k)))) rfl (e_tupS (d_cons (e_add (e_add (e0 rfl rfl) e_int) (e_mod (e_cb (d_cons (e_num (k := at_ + 2 + k) (e_var rfl) (e_add (e_add (e_var rfl) e_int) (e_var rfl)) (by omega) (by omega)) d_nil) cq_int1) e_int (by decide))) (d_cons (e_ixFT (f := .str) (xs := p.winds) (e_pt0 rfl) (e_mod (e_cb (d_cons (e_num (k := at_ + 5 + k) (e_var rfl) (e_add (e_add (e_var rfl) e_int) (e_var rfl)) (by omega) (by omega)) d_nil) cq_int1) (e_lenA (e_pt0 rfl) rfl) ?_) ?_ ?_) d_nil))) ?_ (by walk_at "set") (nx_end rfl ?_)
  · rw [hl0]; omega
  · rw [hl0]; exact Int.emod_nonneg _ (by omega)
  · rw [hl0]; exact wi_at hp _
  · rw [List.length_map, sizeLine_eq]
    omega
  · rw [wStep, haa, List.map_append]
    exact .eq (.eq (.eq (.eq (.u .nil))))
/-! ### course -/
def rowsH (p : Pt) (h : Hn) : List R4 := (stM p h).map fun q => (h.nm, q)
def eCo (p : Pt) (h : Hn) : PyData := .tuple [.list ((rowsH p h).map eR4), .list ((courseS p h).cu.map eSI), .int (courseS p h).now]
inductive R_l_course (K : Frag) : List SV → SV → Prop
  | mk (p : Pt) (h : Hn) (hp : PtOk p) (hd : DeedsOk p h.pl h.ds) (hf : h.ds.length ≤ 30) : R_l_course K [.d (ePt p), .d (eHn h)] (.d (eCo p h))
theorem walks_first {p : Pt} {x y : Str} {m : Int} (h : valG (walksP p x) y = some m) : ((walksP p x).filterMap fun q => if q.1 = y then some (PyData.int q.2) else none)[(0 : Int).toNat]? = some (.int m) := by
  generalize walksP p x = w at h ⊢
  induction w with
  | nil => cases h
  | cons q l ih =>
    rw [valG_cons] at h
    rw [List.filterMap_cons]
    by_cases e : q.1 = y
    · rw [if_pos e] at h
      cases h
      simp [e]
    · rw [if_neg e] at h
      simp only [e, if_false]
      exact ih h
theorem walks_len (p : Pt) (x : Str) : (walksP p x).length ≤ p.paths.length := List.length_filterMap_le _ _
theorem ok_l_course (T : Tx K mg) : FnOk P w K mg base CX0 2 (He.fAd K ("_law_course", none)) T.fd_l_course ["_law_parts_here", "_law_hand"] (spQ (R_l_course K)) := by
  refine okQ T.F_l_course sc_l_course (fun _ _ h => by cases h; rfl) (by decide) ?_
  rintro X ⟨cdv, A, outer, s, H, rfl, hr⟩ args r hR
  refine ⟨_, (pss_cons (ps_asg (pv 1) (pg_tup rfl (pgs_cons (pg_name (i := 2) sc_l_course.nd rfl (Or.inl rfl)) (pgs_cons (pg_name (i := 3) sc_l_course.nd rfl (Or.inl rfl)) (pgs_cons (pg_name (i := 4) sc_l_course.nd rfl (Or.inl rfl)) pgs_nil)))))
    (pss_cons (ps_set (i := 5) sc_l_course.nd rfl (Or.inl rfl) (pe_lst pa_nil))
    (pss_cons (ps_set (i := 6) sc_l_course.nd rfl (Or.inl rfl) (pe_lst pa_nil))
    (pss_cons (ps_set (i := 7) sc_l_course.nd rfl (Or.inl rfl) pe_int)
    (pss_cons (ps_set (i := 8) sc_l_course.nd rfl (Or.inl rfl) pe_int)
    (pss_cons (ps_for PassesOwn.never rfl (pi_list (pv 4)) (pg_tup rfl (pgs_cons (pg_name (i := 9) sc_l_course.nd rfl (Or.inl rfl)) (pgs_cons (pg_name (i := 10) sc_l_course.nd rfl (Or.inr rfl)) pgs_nil)))
      (pss_one (ps_if (pt_cmpR op_eq (pv 9) pe_str (nomark _)) (pss_cons (ps_set (i := 11) sc_l_course.nd rfl (Or.inl rfl) (pe_ix ix_list (pe_lc (own := [("_law_walk", 12)]) (g := (gName 12)) (tt := (tTest (tOp rEq (tOp (rIxT K) (tVar 12) (tC (.int 0))) (tVar 10)))) (te := (tOp (rIxT K) (tVar 12) (tC (.int 1)))) rfl sc_l_course.nd (pi_list (pe_call (ok_l_walks T) (hr.mono (by decide)) (by rfl) T.g_l_walks T.F_l_walks.kp (b_l_walks T) .nil pass0 (pa_cons (pv 0) (pa_cons (pv 3) pa_nil)))) (blkOk_by (by kernel_rfl)) (fun _ _ _ _ _ => (pg_name (i := 12) sc_l_course.nd rfl (Or.inl rfl))) (fun _ _ _ _ _ => (pts_one (pt_cmpR op_eq (pe_ix ix_tup (pv 12) pe_int (fun _ _ => rfl)) (pv 10) (nomark _)))) (fun _ _ _ _ _ => (pe_ix ix_tup (pv 12) pe_int (fun _ _ => rfl)))) pe_int (fun _ _ => rfl)))
    (pss_cons (ps_expr (pe_bm PySem.F.plainAttrs_list PySem.F.slot_list_append PySem.F.type_list_append mt_append (pv 5) (pa_cons (pe_tupN (pa_cons (pv 2) (pa_cons (pv 3) (pa_cons (pv 8) (pa_cons (pv 7) pa_nil))))) pa_nil)))
    (pss_cons (ps_set (i := 7) sc_l_course.nd rfl (Or.inl rfl) (pe_op op_add (pv 7) (pv 11)))
    (pss_cons (ps_set (i := 8) sc_l_course.nd rfl (Or.inl rfl) (pv 7))
    (pss_one (ps_set (i := 3) sc_l_course.nd rfl (Or.inl rfl) (pv 10))))))) (pss_cons (ps_set (i := 7) sc_l_course.nd rfl (Or.inl rfl) (pe_op op_add (pv 7) (pv 10)))
    (pss_one (ps_if (pt_cmpR op_eq (pv 9) pe_str (nomark _)) (pss_one (ps_expr (pe_bm PySem.F.plainAttrs_list PySem.F.slot_list_append PySem.F.type_list_append mt_append (pv 6) (pa_cons (pe_tupN (pa_cons (pv 3) (pa_cons (pv 7) pa_nil))) pa_nil)))) pss_nil))))))
    (pss_cons (ps_expr (pe_bm PySem.F.plainAttrs_list PySem.F.slot_list_append PySem.F.type_list_append mt_append (pv 5) (pa_cons (pe_tupN (pa_cons (pv 2) (pa_cons (pv 3) (pa_cons (pv 8) (pa_cons pe_non pa_nil))))) pa_nil)))
    (pss_one (ps_ret (pe_tupN (pa_cons (pv 5) (pa_cons (pv 6) (pa_cons (pv 7) pa_nil))))))))))))), ?_⟩
  intro F0 H0 D hrt hnx
  cases hR with
  | mk p h hp hd hf =>
  show SR F0 H0 _ [.d (ePt p), .d (eHn h), .u, .u, .u, .u, .u, .u, .u, .u, .u, .u, .u] D
  have hpal := hp.al
  have hlen : ∀ i, ((h.ds.take i).foldl (cStep p) ⟨h.pl, 0, 0, [], []⟩).st.length + ((h.ds.take i).foldl (cStep p) ⟨h.pl, 0, 0, [], []⟩).cu.length ≤ 30 := fun i => by
    have := cs_len p (h.ds.take i) ⟨h.pl, 0, 0, [], []⟩
    rw [List.length_take] at this
    have h0 : (([] : List (Str × Int × Option Int)).length + ([] : Ro).length) = 0 := rfl
    dsimp only at this
    omega
  refine sr_seq (sr_unp (x := eHn h) (e_var rfl) (gd_tup (gds_cons (g_name (by walk_at "set")) (gds_cons (g_name (by walk_at "set")) (gds_cons (g_name (by walk_at "set")) gds_nil)))) (nx_go ?_))
  refine sr_seq (r_asg (r := .ml []) (by walk_at "ev") (by walk_at "set") (nx_go (sr_seq (r_asg (r := .ml []) (by walk_at "ev") (by walk_at "set") (nx_go (sr_seq (r_asg e_int (by walk_at "set") (nx_go (sr_seq (r_asg e_int (by walk_at "set") (nx_go (sr_seq ?_))))))))))))
  refine sr_fold h.ds eDd (cStep p) (fun s => [.d (ePt p), .d (eHn h), .d (.str h.nm), .d (.str s.pl), .d (.list (h.ds.map eDd)), .ml ((s.st.map fun q => (h.nm, q)).map eR4), .ml (s.cu.map eSI), .d (.int s.now), .d (.int s.since), .u, .u, .u, .u]) (fun _ _ => True) ⟨h.pl, 0, 0, [], []⟩ (wk_list (e_var rfl)) (by walk_at "le") trivial (fun F1 i dd s gx hdd _ hs => ⟨trivial, ?_⟩) (fun _ => nx_go ?_)
  · have hok := deeds_at hd hdd
    have hpl := cs_pl p (h.ds.take i) ⟨h.pl, 0, 0, [], []⟩
    have hl := hlen i
    rw [← hpl] at hok
    rw [← hs] at hok hl
    have hls : ((s.st.map fun q => (h.nm, q)).map eR4).length < sizeLine := by rw [List.length_map, List.length_map, sizeLine_eq]; omega
    have hlc : (s.cu.map eSI).length < sizeLine := by rw [List.length_map, sizeLine_eq]; omega
    cases dd with
    | walk y =>
      obtain ⟨k1, k2, ⟨m, k3, _⟩, _⟩ := hok
      have hwm : wMin p s.pl y = m := by unfold wMin; rw [k3]; rfl
      subst hwm
      refine ⟨_, gd_tup (gds_cons (g_name (by walk_at "set")) (gds_cons (g_name (by walk_at "set")) gds_nil)), r_ifT (et_test (e_eqA (e_var rfl) e_str rfl)) (by rfl) ?_⟩
      refine sr_seq (r_asg (r := .d (.int (wMin p s.pl y))) (e_ixL (e_freeze (e_lcF (walksP p s.pl) eSI (fun q => if q.1 = y then some (.int q.2) else none) (wk_list (e_freeze (e_call (a_cons (e_var rfl) (a_cons (e_var rfl) a_nil)) (.mk p s.pl (fun l hl => (hp.ao l hl).2.2.1) (by omega))))).c ?_ fun j q hq => ?_)) e_int (by decide) (walks_first k3)) (by walk_at "set") (nx_go ?_))
      · have := walks_len p s.pl
        rw [sizeLine_eq]
        omega
      · have e0 : ∀ {Γ : List SV}, Γ[12]? = some (.d (eSI q)) → Ev (tOp (rIxT K) (tVar 12) (tC (.int 0))) Γ (.d (.str q.1)) := fun hg => e_ixT (x := .str q.1) (e_var hg) e_int (by decide) rfl
        have e1 : ∀ {Γ : List SV}, Γ[12]? = some (.d (eSI q)) → Ev (tOp (rIxT K) (tVar 12) (tC (.int 1))) Γ (.d (.int q.2)) := fun hg => e_ixT (x := .int q.2) (e_var hg) e_int (by decide) rfl
        refine ⟨_, _, v_name (d := eSI q) (by walk_at "set"), et_test (e_eqA (e0 rfl) (e_var rfl) rfl), ?_, fun z hz => ?_⟩
        · show decide (q.1 = y) = _
          by_cases e : q.1 = y <;> simp [e]
        · split at hz
          · cases hz
            exact e1 rfl
          · cases hz
      refine sr_seq (r_app (n := 5) (x := eR4 (h.nm, s.pl, s.since, some s.now)) rfl (e_tupS (d_cons (e_var rfl) (d_cons (e_var rfl) (d_cons (e_var rfl) (d_cons (e_var rfl) d_nil))))) hls (by walk_at "set") (nx_go ?_))
      refine sr_seq (r_asg (e_add (e_var rfl) (e_var rfl)) (by walk_at "set") (nx_go (sr_seq (r_asg (e_var rfl) (by walk_at "set") (nx_go (r_asg (e_var rfl) (by walk_at "set") (nx_end rfl ?_)))))))
      rw [cStep, List.map_append, List.map_append]
      exact .eq (.eq (.eq (.eq (.eq (.eq (.eq (.eq (.eq (.u (.u (.u (.u .nil))))))))))))
    | cut n =>
      refine ⟨_, gd_tup (gds_cons (g_name (by walk_at "set")) (gds_cons (g_name (by walk_at "set")) gds_nil)), r_ifF (et_test (e_eqA (e_var rfl) e_str rfl)) (by exact decide_eq_false neq_cw) ?_⟩
      refine sr_seq (r_asg (e_add (e_var rfl) (e_var rfl)) (by walk_at "set") (nx_go (r_ifT (et_test (e_eqA (e_var rfl) e_str rfl)) (by rfl) (r_app (n := 6) (x := eSI (s.pl, s.now + n)) rfl (e_tupS (d_cons (e_var rfl) (d_cons (e_var rfl) d_nil))) hlc (by walk_at "set") (nx_end rfl ?_)))))
      rw [cStep, List.map_append]
      exact .eq (.eq (.eq (.eq (.eq (.eq (.eq (.eq (.eq (.u (.u (.u (.u .nil))))))))))))
    | wait n =>
      refine ⟨_, gd_tup (gds_cons (g_name (by walk_at "set")) (gds_cons (g_name (by walk_at "set")) gds_nil)), r_ifF (et_test (e_eqA (e_var rfl) e_str rfl)) (by exact decide_eq_false neq_tw) ?_⟩
      refine sr_seq (r_asg (e_add (e_var rfl) (e_var rfl)) (by walk_at "set") (nx_go (r_ifF (et_test (e_eqA (e_var rfl) e_str rfl)) (by exact decide_eq_false neq_tc) (sr_next (nx_end rfl ?_)))))
      rw [cStep]
      exact .eq (.eq (.eq (.eq (.eq (.eq (.eq (.eq (.eq (.u (.u (.u (.u .nil))))))))))))
  · have hl := hlen h.ds.length
    rw [List.take_length] at hl
    refine sr_seq (r_app (n := 5) (x := eR4 (h.nm, (courseS p h).pl, (courseS p h).since, none)) rfl (e_tupS (d_cons (e_var rfl) (d_cons (e_var rfl) (d_cons (e_var rfl) (d_cons e_non d_nil))))) (by rw [List.length_map, List.length_map, sizeLine_eq]; omega) (by walk_at "set") (nx_go (r_freeze (n := 5) rfl (by walk_at "set") ?_)))
    refine r_freeze (n := 6) rfl (by walk_at "set") ?_
    refine r_ret (e_tupS (d_cons (e_var rfl) (d_cons (e_var rfl) (d_cons (e_var rfl) d_nil)))) ?_ hrt
    unfold eCo rowsH stM
    rw [List.map_append, List.map_append]
    rfl
end Ef
/-! The law's own defs. -/
namespace Ef
open PySem PySem.Spec PyProof.Rows L2
local macro_rules | `(tactic| walk_at "set") => `(tactic| (repeat' (first | exact SetAt.z | apply SetAt.s)))
local macro_rules | `(tactic| walk_at "le") => `(tactic| (repeat' (first | exact Le.nil | (with_reducible apply Le.eq) | (with_reducible apply Le.u) | (with_reducible apply Le.as) | rfl)))
local macro_rules | `(tactic| walk_at "ev1") => `(tactic| first
  | exact e_int | exact e_str | exact e_bl | exact e_non
  | exact e_var rfl | exact d_nil | exact a_nil | exact et_yes | exact o_none | exact k_own rfl
  | exact e_lenM rfl
  | ((with_reducible show lenK _ = true); rfl) | ((with_reducible show eqK _ _ = true); rfl) | ((with_reducible show smallL _ = true); rfl)
  | with_reducible apply d_cons | with_reducible apply a_cons | with_reducible apply o_some
  | with_reducible apply e_add | with_reducible apply e_sub | with_reducible apply e_lt | with_reducible apply e_le | with_reducible apply e_gt | with_reducible apply e_ge
  | with_reducible apply e_mul | with_reducible apply e_mod | with_reducible apply e_fdiv
  | with_reducible apply e_eqA | with_reducible apply e_neA
  | with_reducible apply e_isN | with_reducible apply e_notN | with_reducible apply e_notV | with_reducible apply et_test | with_reducible apply et_B | with_reducible apply et_not
  | with_reducible apply et_and2 | with_reducible apply et_or2 | with_reducible apply e_andV2 | with_reducible apply e_orV2
  | with_reducible apply e_tupS | with_reducible apply e_lstS | exact e_dnew
  | with_reducible apply e_lenA
  | (with_reducible apply e_cb (hr := cq_abs)) | (with_reducible apply e_cb (hr := cq_int1)) | (with_reducible apply e_cb (hr := cq_max2)) | (with_reducible apply e_cb (hr := cq_min2))
  | with_reducible apply e_call | with_reducible apply e_meth
  | with_reducible apply e_din | with_reducible apply e_dnotin | with_reducible apply e_dget | with_reducible apply e_dget1 | with_reducible apply e_dget2)
local macro_rules | `(tactic| walk_at "ev") => `(tactic| repeat' (walk_at "ev1"))
variable {P : Program} {w : World} {K : Frag} {mg : Str → Option Value} {base : Heap}
inductive R_l_cut (K : Frag) : List SV → SV → Prop
  | mk (p : Pt) (hs : List Hn) (hp : PtOk p) (h : HandsOk p hs) : R_l_cut K [.d (ePt p), .d (eHs hs)] (.ml ((breaksM p hs).map eSI))
theorem ok_l_cut (T : Tx K mg) : FnOk P w K mg base CX0 3 (He.fAd K ("_law_cut", none)) T.fd_l_cut ["_law_parts_here", "_law_hands_here"] (spQ (R_l_cut K)) := by
  refine okQ T.F_l_cut sc_l_cut (fun _ _ h => by cases h; rfl) (by decide) ?_
  rintro X ⟨cdv, A, outer, s, H, rfl, hr⟩ args r hR
  refine ⟨_, (pss_cons (ps_set (i := 2) sc_l_cut.nd rfl (Or.inl rfl) (pe_lst pa_nil))
    (pss_cons (ps_for PassesOwn.never rfl (pi_list (pv 1)) (pg_name (i := 3) sc_l_cut.nd rfl (Or.inl rfl))
      (pss_one (ps_set (i := 2) sc_l_cut.nd rfl (Or.inl rfl) (pe_op op_cat (pv 2) (pe_ix ix_tup (pe_call (ok_l_course T) (hr.mono (by decide)) (by rfl) T.g_l_course T.F_l_course.kp (b_l_course T) .nil pass0 (pa_cons (pv 0) (pa_cons (pv 3) pa_nil))) pe_int (fun _ _ => rfl))))))
    (pss_cons (ps_set (i := 4) sc_l_cut.nd rfl (Or.inl rfl) (pe_lst pa_nil))
    (pss_cons (ps_for PassesOwn.never rfl (pi_tup (pe_ix ix_list (pv 0) pe_int (fun _ _ => rfl))) (pg_name (i := 5) sc_l_cut.nd rfl (Or.inr rfl))
      (pss_cons (ps_setLc (i := 6) (own := [("_law_cut_here", 7)]) (g := (gName 7)) (tt := (tTest (tOp rEq (tOp (rIxT K) (tVar 7) (tC (.int 0))) (tVar 5)))) (te := (tOp (rIxT K) (tVar 7) (tC (.int 1)))) rfl sc_l_cut.nd rfl rfl (sw_true rfl rfl rfl (by decide +kernel)) (pi_list (pv 2)) (blkOk_by (by kernel_rfl)) (fun _ _ _ _ _ => (pg_name (i := 7) sc_l_cut.nd rfl (Or.inl rfl))) (fun _ _ _ _ _ => (pts_one (pt_cmpR op_eq (pe_ix ix_tup (pv 7) pe_int (fun _ _ => rfl)) (pv 5) (nomark _)))) (fun _ _ _ _ _ => (pe_ix ix_tup (pv 7) pe_int (fun _ _ => rfl))))
    (pss_one (ps_if (pt_cmpR op_gt (pe_callB call_lenQ (by rfl) T.m_len (by decide +kernel) (pa_cons (pv 6) pa_nil)) pe_int (nomark _)) (pss_one (ps_expr (pe_bm PySem.F.plainAttrs_list PySem.F.slot_list_append PySem.F.type_list_append mt_append (pv 4) (pa_cons (pe_tupN (pa_cons (pv 5) (pa_cons (pe_callB (cr_min rfl) (by rfl) T.m_min (by decide +kernel) (pa_cons (pv 6) pa_nil)) pa_nil))) pa_nil)))) pss_nil))))
    (pss_one (ps_ret (pv 4))))))), ?_⟩
  intro F0 H0 D hrt hnx
  cases hR with
  | mk p hs hp h =>
  show SR F0 H0 _ [.d (ePt p), .d (eHs hs), .u, .u, .u, .u, .u, .u] D
  have hcl := cuts_len p hs h
  have hpl := hp.pl.2
  have hfew := h.few
  refine sr_seq (r_asg (r := .ml []) (by walk_at "ev") (by walk_at "set") (nx_go (sr_seq ?_)))
  refine sr_fold hs eHn (fun (acc : Ro) h => acc ++ (courseS p h).cu) (fun acc => [.d (ePt p), .d (eHs hs), .ml (acc.map eSI), .u, .u, .u, .u, .u]) (fun i acc => acc.length ≤ 30 * i) [] (wk_list (e_var rfl)) (by walk_at "le") (Nat.le_refl _) (fun F1 i q acc gx hq ha _ => ⟨?_, _, g_name (d := eHn q) (by walk_at "set"), ?_⟩) (fun _ => nx_go ?_)
  · have hl := (st_len p q (h.fd q (List.mem_of_getElem? hq))).2
    rw [List.length_append]
    omega
  · have hm := List.mem_of_getElem? hq
    have hi := (List.getElem?_eq_some_iff.mp hq).1
    have hl := (st_len p q (h.fd q hm)).2
    refine r_asg (r := .ml (acc.map eSI ++ (courseS p q).cu.map eSI)) (e_catD rfl (e_ixT (x := .list ((courseS p q).cu.map eSI)) (ds := [.list ((rowsH p q).map eR4), .list ((courseS p q).cu.map eSI), .int (courseS p q).now]) (e_call (a_cons (e_var rfl) (a_cons (e_var rfl) a_nil)) (.mk p q hp (h.ds q hm) (h.fd q hm))) e_int (by decide) rfl) ?_) (by walk_at "set") (nx_end rfl ?_)
    · rw [List.length_map, List.length_map, sizeLine_eq]
      omega
    · rw [List.map_append]
      exact .eq (.eq (.eq (.u (.u (.u (.u (.u .nil)))))))
  have ecut : hs.foldl (fun (acc : Ro) h => acc ++ (courseS p h).cu) [] = cutsM p hs := by
    have key : ∀ (l : List Hn) (a : Ro), l.foldl (fun (acc : Ro) h => acc ++ (courseS p h).cu) a = a ++ (l.map fun h => (courseS p h).cu).flatten := by
      intro l
      induction l with
      | nil => intro a; simp
      | cons x l ih => intro a; rw [List.foldl_cons, ih, List.map_cons, List.flatten_cons, List.append_assoc]
    rw [key]
    rfl
  rw [ecut]
  have emin : ∀ x, (cutsM p hs).filterMap (fun q => if q.1 = x then some (PyData.int q.2) else none) = (minsAt (cutsM p hs) x).map .int := by
    intro x
    unfold minsAt
    induction cutsM p hs with
    | nil => rfl
    | cons q l ih =>
      rw [List.filterMap_cons, List.filter_cons]
      by_cases e : q.1 = x <;> simp [e, ih]
  refine r_freeze (n := 2) rfl (by walk_at "set") ?_
  refine sr_seq (r_asg (r := .ml []) (by walk_at "ev") (by walk_at "set") (nx_go (sr_seq ?_)))
  refine sr_fold p.places .str (fun (acc : Ro) x => acc ++ ((minO (minsAt (cutsM p hs) x)).map fun m => (x, m)).toList) (fun acc => [.d (ePt p), .d (eHs hs), .d (.list ((cutsM p hs).map eSI)), .u, .ml (acc.map eSI), .u, .u, .u]) (fun i acc => acc.length ≤ i) [] (wk_tup (e_pt1 rfl)) (by walk_at "le") (Nat.le_refl _) (fun F1 i x acc gx hx ha _ => ⟨?_, _, g_name (by walk_at "set"), ?_⟩) (fun _ => nx_go (sr_retM ?_ hrt))
  · rw [List.length_append]
    have : ((minO (minsAt (cutsM p hs) x)).map fun m => (x, m)).toList.length ≤ 1 := by cases minO (minsAt (cutsM p hs) x) <;> simp
    omega
  · have hi := (List.getElem?_eq_some_iff.mp hx).1
    have hsz : (acc.map eSI).length < sizeLine := by rw [List.length_map, sizeLine_eq]; omega
    refine sr_seq (r_asg (r := .ml ((minsAt (cutsM p hs) x).map .int)) (e_eqm (e_lcF (cutsM p hs) eSI (fun q => if q.1 = x then some (.int q.2) else none) (wk_list (e_var rfl)).c ?_ fun j q hq => ?_) (emin x)) (by walk_at "set") (nx_go (r_freeze (n := 6) rfl (by walk_at "set") ?_)))
    · rw [sizeLine_eq]; omega
    · have e0 : ∀ {Γ : List SV}, Γ[7]? = some (.d (eSI q)) → Ev (tOp (rIxT K) (tVar 7) (tC (.int 0))) Γ (.d (.str q.1)) := fun hg => e_ixT (x := .str q.1) (e_var hg) e_int (by decide) rfl
      have e1 : ∀ {Γ : List SV}, Γ[7]? = some (.d (eSI q)) → Ev (tOp (rIxT K) (tVar 7) (tC (.int 1))) Γ (.d (.int q.2)) := fun hg => e_ixT (x := .int q.2) (e_var hg) e_int (by decide) rfl
      refine ⟨_, _, v_name (d := eSI q) (by walk_at "set"), et_test (e_eqA (e0 rfl) (e_var rfl) rfl), ?_, fun z hz => ?_⟩
      · show decide (q.1 = x) = _
        by_cases e : q.1 = x <;> simp [e]
      · split at hz
        · cases hz
          exact e1 rfl
        · cases hz
    · cases hm : minO (minsAt (cutsM p hs) x) with
      | none =>
        have he := minO_none.mp hm
        refine r_ifF (et_test (e_gt (e_lenA (e_var rfl) rfl) e_int)) ?_ (sr_next (nx_end rfl ?_))
        · rw [he]
          rfl
        · simp only [Option.map_none, Option.toList_none, List.append_nil]
          exact .eq (.eq (.eq (.eq (.eq (.u (.u (.u .nil)))))))
      | some m =>
        obtain ⟨k1, k2⟩ := minO_spec hm
        have hpos := List.length_pos_of_mem k1
        refine r_ifT (et_test (e_gt (e_lenA (e_var rfl) rfl) e_int)) ?_ (r_app (n := 4) (x := eSI (x, m)) rfl (e_tupS (d_cons (e_var rfl) (d_cons (e_cb (d_cons (e_var rfl) d_nil) (cq_min hpos k1 k2)) d_nil))) hsz (by walk_at "set") (nx_end rfl ?_))
        · simp only [lenF, List.length_map]
          exact decide_eq_true (by omega)
        · simp only [Option.map_some, Option.toList_some, List.map_append]
          exact .eq (.eq (.eq (.eq (.eq (.u (.u (.u .nil)))))))
  · have key : ∀ (l : List Str) (a : Ro), l.foldl (fun (acc : Ro) x => acc ++ ((minO (minsAt (cutsM p hs) x)).map fun m => (x, m)).toList) a = a ++ l.filterMap fun x => (minO (minsAt (cutsM p hs) x)).map fun m => (x, m) := by
      intro l
      induction l with
      | nil => intro a; simp
      | cons x l ih =>
        intro a
        rw [List.foldl_cons, ih, List.filterMap_cons]
        cases minO (minsAt (cutsM p hs) x) <;> simp
    rw [key]
    rfl
inductive R_l_met (K : Frag) : List SV → SV → Prop
  | mk (rows : List R4) (b : Ro) (hl : rows.length < 1000) : R_l_met K [.d (.list (rows.map eR4)), .dic (mapG .int b)] (.ml ((rows.filterMap (metM b)).map eR3))
theorem ok_l_met (T : Tx K mg) : FnOk P w K mg base CX0 1 (He.fAd K ("_law_met", none)) T.fd_l_met ["_law_rows_here", "_law_burns"] (spQ (R_l_met K)) := by
  refine okQ T.F_l_met sc_l_met (fun _ _ h => by cases h; rfl) (by decide) ?_
  rintro X ⟨cdv, A, outer, s, H, rfl, hr⟩ args r hR
  refine ⟨_, (pss_cons (ps_set (i := 2) sc_l_met.nd rfl (Or.inl rfl) (pe_lst pa_nil))
    (pss_cons (ps_for PassesOwn.never rfl (pi_list (pv 0)) (pg_tup rfl (pgs_cons (pg_name (i := 3) sc_l_met.nd rfl (Or.inl rfl)) (pgs_cons (pg_name (i := 4) sc_l_met.nd rfl (Or.inl rfl)) (pgs_cons (pg_name (i := 5) sc_l_met.nd rfl (Or.inl rfl)) (pgs_cons (pg_name (i := 6) sc_l_met.nd rfl (Or.inl rfl)) pgs_nil)))))
      (pss_one (ps_if (PW.pt (pw_and (pt_cmp (pc_din (hu_of hr) (pv 4) (pv 1)) rfl) (pw_and1 (PW.pt (pw_or (pt_cmpR op_ge (pv 5) (pe_dget (hu_of hr) (pv 1) (pv 4) (fun _ _ => rfl)) (nomark _)) (pw_or (pt_cmp (pc_isN (pv 6))) (pw_or1 (pt_cmpR op_lt (pe_dget (hu_of hr) (pv 1) (pv 4) (fun _ _ => rfl)) (pv 6) (nomark _))))))))) (pss_one (ps_expr (pe_bm PySem.F.plainAttrs_list PySem.F.slot_list_append PySem.F.type_list_append mt_append (pv 2) (pa_cons (pe_tupN (pa_cons (pv 3) (pa_cons (pv 4) (pa_cons (pe_callB (call_max2 rfl) (by rfl) T.m_max (by decide +kernel) (pa_cons (pv 5) (pa_cons (pe_dget (hu_of hr) (pv 1) (pv 4) (fun _ _ => rfl)) pa_nil))) pa_nil)))) pa_nil)))) pss_nil)))
    (pss_one (ps_ret (pv 2))))), ?_⟩
  intro F0 H0 D hrt hnx
  cases hR with
  | mk rows b hl =>
  show SR F0 H0 _ [.d (.list (rows.map eR4)), .dic (mapG .int b), .u, .u, .u, .u, .u] D
  refine sr_seq (r_asg (r := .ml []) (by walk_at "ev") (by walk_at "set") (nx_go (sr_seq ?_)))
  refine sr_fold rows eR4 (fun (acc : List R3) q => acc ++ (metM b q).toList) (fun acc => [.d (.list (rows.map eR4)), .dic (mapG .int b), .ml (acc.map eR3), .u, .u, .u, .u]) (fun i acc => acc.length ≤ i) [] (wk_list (e_var rfl)) (by walk_at "le") (Nat.le_refl _) (fun F1 i q acc gx hq ha _ => ⟨?_, _, gd_tup (gds_cons (g_name (by walk_at "set")) (gds_cons (g_name (by walk_at "set")) (gds_cons (g_name (by walk_at "set")) (gds_cons (g_name (by walk_at "set")) gds_nil)))), ?_⟩) (fun _ => nx_go (sr_retM ?_ hrt))
  · rw [List.length_append]
    have : (metM b q).toList.length ≤ 1 := by cases metM b q <;> simp
    omega
  · have hi := (List.getElem?_eq_some_iff.mp hq).1
    have hsz : (acc.map eR3).length < sizeLine := by rw [List.length_map, sizeLine_eq]; omega
    have hv : valG (mapG PyData.int b) q.2.1 = (valG b q.2.1).map .int := valG_map _ _ _
    cases hc : valG b q.2.1 with
    | none =>
      rw [hc] at hv
      refine r_ifF (et_and (b := false) (b' := false) (et_B (e_eq (e_din (e_var rfl) (k_dic (e_var rfl))) (by rw [hv]; rfl))) fun hb => nomatch hb) rfl (sr_next (nx_end rfl ?_))
      have : metM b q = none := by unfold metM; rw [hc]
      rw [this, Option.toList_none, List.append_nil]
      exact .eq (.eq (.eq (.u (.u (.u (.u .nil))))))
    | some t =>
      rw [hc] at hv
      have hmt : metM b q = if dangerM q.2.2.1 q.2.2.2 (some t) = true then some (q.1, q.2.1, mx q.2.2.1 t) else none := by unfold metM; rw [hc]
      have eget : ∀ {Γ : List SV}, Γ[1]? = some (.dic (mapG .int b)) → Γ[4]? = some (.d (.str q.2.1)) → Ev (tDGet (tVar 1) (tVar 4)) Γ (.d (.int t)) := fun h1 h4 => e_dget (k_dic (e_var h1)) (e_var h4) hv
      refine r_if (b' := dangerM q.2.2.1 q.2.2.2 (some t)) (b := true && (decide (t ≤ q.2.2.1) || (match q.2.2.2 with | none => true | some u => decide (t < u)))) (et_and (et_B (e_eq (e_din (e_var rfl) (k_dic (e_var rfl))) (by rw [hv]; rfl))) fun _ => et_or (et_test (e_ge (e_var rfl) (eget rfl rfl))) fun _ => ?_) rfl (fun hb => ?_) (fun hb => ?_)
      · obtain ⟨nm, pl, si, un⟩ := q
        cases un with
        | none => exact et_or (b := true) (b' := true) (et_B (e_eq (e_isN (e_var (r := .d (eO none)) rfl)) rfl)) fun hb => nomatch hb
        | some u => exact et_or (b := false) (et_B (e_eq (e_isN (e_var (r := .d (eO (some u))) rfl)) rfl)) fun _ => et_test (e_lt (eget rfl rfl) (e_var (r := .d (.int u)) rfl))
      · refine r_app (n := 2) (x := eR3 (q.1, q.2.1, mx q.2.2.1 t)) rfl (e_tupS (d_cons (e_var rfl) (d_cons (e_var rfl) (d_cons (e_cb (d_cons (e_var rfl) (d_cons (eget rfl rfl) d_nil)) cq_max2) d_nil)))) hsz (by walk_at "set") (nx_end rfl ?_)
        rw [hmt, if_pos hb, List.map_append]
        exact .eq (.eq (.eq (.u (.u (.u (.u .nil))))))
      · refine sr_next (nx_end rfl ?_)
        rw [hmt, if_neg (by rw [hb]; simp), Option.toList_none, List.append_nil]
        exact .eq (.eq (.eq (.u (.u (.u (.u .nil))))))
  · have key : ∀ (l : List R4) (a : List R3), l.foldl (fun (acc : List R3) q => acc ++ (metM b q).toList) a = a ++ l.filterMap (metM b) := by
      intro l
      induction l with
      | nil => intro a; simp
      | cons x l ih =>
        intro a
        rw [List.foldl_cons, ih, List.filterMap_cons]
        cases metM b x <;> simp
    rw [key]
    rfl
end Ef
/-! The law's own defs. -/
namespace Ef
open PySem PySem.Spec PyProof.Rows L2
local macro_rules | `(tactic| walk_at "set") => `(tactic| (repeat' (first | exact SetAt.z | apply SetAt.s)))
local macro_rules | `(tactic| walk_at "le") => `(tactic| (repeat' (first | exact Le.nil | (with_reducible apply Le.eq) | (with_reducible apply Le.u) | (with_reducible apply Le.as) | rfl)))
local macro_rules | `(tactic| walk_at "ev1") => `(tactic| first
  | exact e_int | exact e_str | exact e_bl | exact e_non
  | exact e_var rfl | exact d_nil | exact a_nil | exact et_yes | exact o_none | exact k_own rfl
  | exact e_lenM rfl
  | ((with_reducible show lenK _ = true); rfl) | ((with_reducible show eqK _ _ = true); rfl) | ((with_reducible show smallL _ = true); rfl)
  | with_reducible apply d_cons | with_reducible apply a_cons | with_reducible apply o_some
  | with_reducible apply e_add | with_reducible apply e_sub | with_reducible apply e_lt | with_reducible apply e_le | with_reducible apply e_gt | with_reducible apply e_ge
  | with_reducible apply e_mul | with_reducible apply e_mod | with_reducible apply e_fdiv
  | with_reducible apply e_eqA | with_reducible apply e_neA
  | with_reducible apply e_isN | with_reducible apply e_notN | with_reducible apply e_notV | with_reducible apply et_test | with_reducible apply et_B | with_reducible apply et_not
  | with_reducible apply et_and2 | with_reducible apply et_or2 | with_reducible apply e_andV2 | with_reducible apply e_orV2
  | with_reducible apply e_tupS | with_reducible apply e_lstS | exact e_dnew
  | with_reducible apply e_lenA
  | (with_reducible apply e_cb (hr := cq_abs)) | (with_reducible apply e_cb (hr := cq_int1)) | (with_reducible apply e_cb (hr := cq_max2)) | (with_reducible apply e_cb (hr := cq_min2))
  | with_reducible apply e_call | with_reducible apply e_meth
  | with_reducible apply e_din | with_reducible apply e_dnotin | with_reducible apply e_dget | with_reducible apply e_dget1 | with_reducible apply e_dget2)
local macro_rules | `(tactic| walk_at "ev") => `(tactic| repeat' (walk_at "ev1"))
variable {P : Program} {w : World} {K : Frag} {mg : Str → Option Value} {base : Heap}
theorem et_alive {Γ : List SV} {ends : Ro} {x : Str} {m : Int} {tx tm : TE} {n : Nat} (hn : Γ[n]? = some (.md (mapG .int ends))) (hx : Ev tx Γ (.d (.str x))) (hm : Ev tm Γ (.d (.int m))) :
    EvT (tOr (tB (tDNotIn tx (tVar n))) (tTest (tOp (rI0 fun i j => .bl (decide (i < j))) tm (tDGet (tVar n) tx)))) Γ (alive ends x m) := by
  have hv : valG (mapG PyData.int ends) x = (valG ends x).map .int := valG_map _ _ _
  have k : EvT (tOr (tB (tDNotIn tx (tVar n))) (tTest (tOp (rI0 fun i j => .bl (decide (i < j))) tm (tDGet (tVar n) tx)))) Γ (!((valG ends x).map PyData.int).isSome || (match valG ends x with | some e => decide (m < e) | none => true)) := by
    refine et_or (et_B (e_eq (e_dnotin hx (k_own hn)) (by rw [hv]))) fun hb => ?_
    cases hc : valG ends x with
    | none => rw [hc] at hb; cases hb
    | some e => exact et_test (e_lt hm (e_dget (k_own hn) hx (by rw [hv, hc]; rfl)))
  refine et_eq k ?_
  unfold alive
  cases valG ends x <;> rfl
def lowerG (b : Ro) (x : Str) (m : Int) : Ro := if alive b x m = true then putG b x m else b
def startStep (ends b : Ro) (q : Str × Int) : Ro := if (alive ends q.1 q.2 && alive b q.1 q.2) = true then putG b q.1 q.2 else b
def linkO (ends : Ro) (oth : Str) (b : Ro) : Option Int → Ro
  | none => b
  | some e => if alive ends oth e = true then lowerG b oth e else b
def linkS (ws : List Str) (W : We) (ends b : Ro) (l : Lk) : Ro := match valG b l.one with
  | none => b
  | some t => linkO ends l.oth b (caughtM ws W (leastRow l) t)
def roundS (p : Pt) (W : We) (ends b : Ro) : Ro := p.links.foldl (linkS p.winds W ends) b
def fireM (p : Pt) (W : We) (s br : Ro) : Ro := (List.range (p.places.length + 1)).foldl (fun b _ => roundS p W (leastM br) b) (s.foldl (startStep (leastM br)) [])
theorem linkS_ok {p : Pt} {W : We} {ends b : Ro} {l : Lk} (hl : LkOk p.winds p.places l) (hb : KOk p.places b) : KOk p.places (linkS p.winds W ends b l) := by
  unfold linkS
  cases hv : valG b l.one with
  | none => exact hb
  | some t =>
    dsimp only
    cases hc : caughtM p.winds W (leastRow l) t with
    | none => exact hb
    | some e =>
      have h0 := hb.pos _ (valG_mem hv)
      have hgt := caught_gt (fun n hn => by
        unfold leastRow at hn
        obtain ⟨o, ho, e⟩ := List.mem_map.mp hn
        have ok := hl.2.2.2.2.2 o ho
        cases o with
        | none => cases e
        | some q => cases e; exact ok.1) hc
      have h0 : 0 ≤ t := h0
      unfold linkO lowerG
      dsimp only
      split
      · split
        · exact hb.put hl.2.2.1 (by omega)
        · exact hb
      · exact hb
theorem startStep_ok {ps : List Str} {ends b : Ro} {q : Str × Int} (hq : q.1 ∈ ps ∧ 0 ≤ q.2) (hb : KOk ps b) : KOk ps (startStep ends b q) := by
  unfold startStep
  split
  · exact hb.put hq.1 hq.2
  · exact hb
inductive R_l_fire (K : Frag) : List SV → SV → Prop
  | mk (p : Pt) (W : We) (s br : Ro) (h : PtOk p) (hW : WOk p.winds W) (hs : ∀ q ∈ s, q.1 ∈ p.places ∧ 0 ≤ q.2) (hbl : br.length < 1000) : R_l_fire K [.d (ePt p), .d (eWe W), .d (eRo s), .d (eRo br), .d (.int 0)] (.md (mapG .int (fireM p W s br)))
theorem ok_l_fire (T : Tx K mg) : FnOk P w K mg base CX0 3 (He.fAd K ("_law_fire", none)) T.fd_l_fire ["_law_parts_here", "_law_weather_here", "_law_starts", "_law_breaks", "_law_side"] (spQ (R_l_fire K)) := by
  refine okQ T.F_l_fire sc_l_fire (fun _ _ h => by cases h; rfl) (by decide) ?_
  rintro X ⟨cdv, A, outer, s, H, rfl, hr⟩ args r hR
  refine ⟨_, (pss_cons (ps_set (i := 5) sc_l_fire.nd rfl (Or.inl rfl) pe_dnewK)
    (pss_cons (ps_for PassesOwn.never rfl (pi_list (pv 3)) (pg_tup rfl (pgs_cons (pg_name (i := 6) sc_l_fire.nd rfl (Or.inl rfl)) (pgs_cons (pg_name (i := 7) sc_l_fire.nd rfl (Or.inl rfl)) pgs_nil)))
      (pss_one (ps_dput (hu_of hr) (pv 5) (pv 6) (pe_callB (call_min2 rfl) (by rfl) T.m_min (by decide +kernel) (pa_cons (pv 7) (pa_cons (pe_dget2 (hu_of hr) (pv 5) (pv 6) (pv 7) ⟨rfl, rfl, rfl, rfl⟩) pa_nil))) rfl)))
    (pss_cons (ps_set (i := 8) sc_l_fire.nd rfl (Or.inl rfl) pe_dnewK)
    (pss_cons (ps_for PassesOwn.never rfl (pi_list (pv 2)) (pg_tup rfl (pgs_cons (pg_name (i := 6) sc_l_fire.nd rfl (Or.inl rfl)) (pgs_cons (pg_name (i := 7) sc_l_fire.nd rfl (Or.inl rfl)) pgs_nil)))
      (pss_one (ps_if (PW.pt (pw_and (PW.pt (pw_or (pt_cmp (pc_dnotin (hu_of hr) (pv 6) (pv 5)) rfl) (pw_or1 (pt_cmpR op_lt (pv 7) (pe_dget (hu_of hr) (pv 5) (pv 6) (fun _ _ => rfl)) (nomark _))))) (pw_and1 (PW.pt (pw_or (pt_cmp (pc_dnotin (hu_of hr) (pv 6) (pv 8)) rfl) (pw_or1 (pt_cmpR op_lt (pv 7) (pe_dget (hu_of hr) (pv 8) (pv 6) (fun _ _ => rfl)) (nomark _)))))))) (pss_one (ps_dput (hu_of hr) (pv 8) (pv 6) (pv 7) rfl)) pss_nil)))
    (pss_cons (ps_for PassesOwn.never rfl (pi_range1 rfl T.m_range (pa_cons (pe_op op_add (pe_callB call_lenQ (by rfl) T.m_len (by decide +kernel) (pa_cons (pe_ix ix_list (pv 0) pe_int (fun _ _ => rfl)) pa_nil)) pe_int) pa_nil)) (pg_name (i := 9) sc_l_fire.nd rfl (Or.inl rfl))
      (pss_one (ps_for PassesOwn.never rfl (pi_tup (pe_ix ix_list (pv 0) pe_int (fun _ _ => rfl))) (pg_name (i := 10) sc_l_fire.nd rfl (Or.inl rfl))
      (pss_one (ps_if (pt_cmp (pc_din (hu_of hr) (pe_ix ix_tup (pv 10) pe_int (fun _ _ => rfl)) (pv 8)) rfl) (pss_cons (ps_set (i := 11) sc_l_fire.nd rfl (Or.inl rfl) (pe_call (ok_l_caught T) (hr.mono (by decide)) (by rfl) T.g_l_caught T.F_l_caught.kp (b_l_caught T) .nil pass0 (pa_cons (pv 0) (pa_cons (pv 1) (pa_cons (pv 10) (pa_cons (pe_dget (hu_of hr) (pv 8) (pe_ix ix_tup (pv 10) pe_int (fun _ _ => rfl)) (fun _ _ => rfl)) (pa_cons (pv 4) pa_nil)))))))
    (pss_one (ps_if (PW.pt (pw_and (pt_cmp (pc_notN (pv 11))) (pw_and1 (PW.pt (pw_or (pt_cmp (pc_dnotin (hu_of hr) (pe_ix ix_tup (pv 10) pe_int (fun _ _ => rfl)) (pv 5)) rfl) (pw_or1 (pt_cmpR op_lt (pv 11) (pe_dget (hu_of hr) (pv 5) (pe_ix ix_tup (pv 10) pe_int (fun _ _ => rfl)) (fun _ _ => rfl)) (nomark _)))))))) (pss_one (ps_if (PW.pt (pw_or (pt_cmp (pc_dnotin (hu_of hr) (pe_ix ix_tup (pv 10) pe_int (fun _ _ => rfl)) (pv 8)) rfl) (pw_or1 (pt_cmpR op_lt (pv 11) (pe_dget (hu_of hr) (pv 8) (pe_ix ix_tup (pv 10) pe_int (fun _ _ => rfl)) (fun _ _ => rfl)) (nomark _))))) (pss_one (ps_dput (hu_of hr) (pv 8) (pe_ix ix_tup (pv 10) pe_int (fun _ _ => rfl)) (pv 11) rfl)) pss_nil)) pss_nil))) pss_nil)))))
    (pss_one (ps_ret (pv 8)))))))), ?_⟩
  intro F0 H0 D hrt hnx
  cases hR with
  | mk p W st br h hW hs hbl =>
  show SR F0 H0 _ [.d (ePt p), .d (eWe W), .d (eRo st), .d (eRo br), .d (.int 0), .u, .u, .u, .u, .u, .u, .u] D
  have hpl := h.pl.2
  refine sr_seq (r_asg (r := .md []) e_dnew (by walk_at "set") (nx_go (sr_seq ?_)))
  refine sr_fold br eSI (fun (f : Ro) q => putG f q.1 (mn q.2 ((valG f q.1).getD q.2))) (fun f => [.d (ePt p), .d (eWe W), .d (eRo st), .d (eRo br), .d (.int 0), .md (mapG .int f), .u, .u, .u, .u, .u, .u]) (fun i f => f.length ≤ i) [] (wk_list (e_var rfl)) (by walk_at "le") (Nat.le_refl _) (fun F1 i q f gx hq hf _ => ⟨Nat.le_trans putG_len (Nat.succ_le_succ hf), _, gd_tup (gds_cons (g_name (by walk_at "set")) (gds_cons (g_name (by walk_at "set")) gds_nil)), ?_⟩) (fun _ => nx_go ?_)
  · have hi := (List.getElem?_eq_some_iff.mp hq).1
    refine r_dput (n := 5) (x := .int (mn q.2 ((valG f q.1).getD q.2))) (s := q.1) rfl (e_var rfl) (e_as (e_cb (d_cons (e_var rfl) (d_cons (e_eq (e_dget2 (k_own rfl) (e_var rfl) (e_var rfl)) (y := .int ((valG f q.1).getD q.2)) ?_) d_nil)) cq_min2) rfl) ?_ (by walk_at "set") (nx_end rfl ?_)
    · rw [valG_map]
      cases valG f q.1 <;> rfl
    · show (mapG PyData.int f).length < sizeLine
      unfold mapG
      rw [List.length_map]
      exact Nat.lt_trans (Nat.lt_of_le_of_lt hf (Nat.lt_trans hi hbl)) (by decide)
    · rw [putG_map]
      exact .eq (.eq (.eq (.eq (.eq (.eq (.u (.u (.u (.u (.u (.u .nil)))))))))))
  have hends : br.foldl (fun (f : Ro) q => putG f q.1 (mn q.2 ((valG f q.1).getD q.2))) [] = leastM br := rfl
  rw [hends]
  refine sr_seq (r_asg (r := .md []) e_dnew (by walk_at "set") (nx_go (sr_seq ?_)))
  refine sr_fold st eSI (startStep (leastM br)) (fun b => [.d (ePt p), .d (eWe W), .d (eRo st), .d (eRo br), .d (.int 0), .md (mapG .int (leastM br)), .u, .u, .md (mapG .int b), .u, .u, .u]) (fun i b => KOk p.places b) [] (wk_list (e_var rfl)) (by walk_at "le") KOk.nil (fun F1 i q b gx hq hb _ => ⟨startStep_ok (hs q (List.mem_of_getElem? hq)) hb, _, gd_tup (gds_cons (g_name (by walk_at "set")) (gds_cons (g_name (by walk_at "set")) gds_nil)), ?_⟩) (fun hb0 => nx_go ?_)
  · refine sr_if (et_and2 (et_alive (n := 5) (ends := leastM br) rfl (e_var rfl) (e_var rfl)) (et_alive (n := 8) (ends := b) rfl (e_var rfl) (e_var rfl))) (fun ha => ?_) (fun ha => ?_)
    · refine r_dput (n := 8) (s := q.1) (x := .int q.2) rfl (e_var rfl) (e_var rfl) (kok_small hb hpl) (by walk_at "set") (nx_end rfl ?_)
      rw [startStep, if_pos ha, putG_map]
      exact .eq (.eq (.eq (.eq (.eq (.eq (.u (.u (.eq (.u (.u (.u .nil)))))))))))
    · refine sr_next (nx_end rfl ?_)
      rw [startStep, if_neg (by rw [ha]; simp)]
      exact .eq (.eq (.eq (.eq (.eq (.eq (.u (.u (.eq (.u (.u (.u .nil)))))))))))
  generalize hb1 : st.foldl (startStep (leastM br)) [] = b0 at hb0
  have hround : ∀ b, KOk p.places b → KOk p.places (roundS p W (leastM br) b) := by
    intro b hb
    unfold roundS
    have key : ∀ (l : List Lk) (b : Ro), (∀ x ∈ l, LkOk p.winds p.places x) → KOk p.places b → KOk p.places (l.foldl (linkS p.winds W (leastM br)) b) := by
      intro l
      induction l with
      | nil => exact fun _ _ h => h
      | cons x l ih => exact fun b hx hb => ih _ (fun y hy => hx y (List.mem_cons_of_mem _ hy)) (linkS_ok (hx x List.mem_cons_self) hb)
    exact key _ _ h.lo hb
  have hlen : (lenF (PyData.tuple (p.places.map .str)) : Int) + 1 = ((p.places.length + 1 : Nat) : Int) := by simp only [lenF, List.length_map]; omega
  refine sr_seq (sr_fold (List.range (p.places.length + 1)) (fun k => .int (k : Nat)) (fun b _ => roundS p W (leastM br) b) (fun b => [.d (ePt p), .d (eWe W), .d (eRo st), .d (eRo br), .d (.int 0), .md (mapG .int (leastM br)), .u, .u, .md (mapG .int b), .u, .u, .u]) (fun _ b => KOk p.places b) b0 (wk_eq (wk_range (n := ((p.places.length + 1 : Nat) : Int)) (d_cons (e_eq (e_add (e_lenA (e_pt1 rfl) rfl) e_int) (congrArg PyData.int hlen)) d_nil) (by omega) (Int.natCast_nonneg _)) (int_map _)) (by walk_at "le") hb0 (fun F1 i k b gx hk hb _ => ⟨hround b hb, _, g_name (by walk_at "set"), ?_⟩) (fun _ => nx_go ?_))
  rotate_left 1
  · have : (List.range (p.places.length + 1)).foldl (fun b _ => roundS p W (leastM br) b) b0 = fireM p W st br := by
      unfold fireM
      rw [hb1]
    rw [this]
    exact sr_retMD (i := 8) rfl hrt
  refine sr_fold p.links eLk (linkS p.winds W (leastM br)) (fun b => [.d (ePt p), .d (eWe W), .d (eRo st), .d (eRo br), .d (.int 0), .md (mapG .int (leastM br)), .u, .u, .md (mapG .int b), .u, .u, .u]) (fun _ b => KOk p.places b) b (wk_tup (e_pt2 rfl)) (by walk_at "le") hb (fun F2 j l c gx2 hl hc _ => ⟨linkS_ok (h.lo l (List.mem_of_getElem? hl)) hc, _, g_name (d := eLk l) (by walk_at "set"), ?_⟩) (fun _ => nx_end rfl (by walk_at "le"))
  have hlo := h.lo l (List.mem_of_getElem? hl)
  have elk1 : ∀ {Γ : List SV}, Γ[10]? = some (.d (eLk l)) → Ev (tOp (rIxT K) (tVar 10) (tC (.int 1))) Γ (.d (.str l.one)) := fun hg => e_ixT (x := .str l.one) (e_var hg) e_int (by decide) rfl
  have elk2 : ∀ {Γ : List SV}, Γ[10]? = some (.d (eLk l)) → Ev (tOp (rIxT K) (tVar 10) (tC (.int 2))) Γ (.d (.str l.oth)) := fun hg => e_ixT (x := .str l.oth) (e_var hg) e_int (by decide) rfl
  have hv : valG (mapG PyData.int c) l.one = (valG c l.one).map .int := valG_map _ _ _
  have hsz : (mapG PyData.int c).length < sizeLine := kok_small hc hpl
  cases hvc : valG c l.one with
  | none =>
    rw [hvc] at hv
    refine r_ifF (et_B (e_din (elk1 rfl) (k_own rfl))) (by rw [hv]; rfl) (sr_next (nx_end rfl ?_))
    rw [linkS, hvc]
    exact .eq (.eq (.eq (.eq (.eq (.eq (.u (.u (.eq (.u (.u (.u .nil)))))))))))
  | some t =>
    rw [hvc] at hv
    have h0 : 0 ≤ t := hc.pos _ (valG_mem hvc)
    have hlk : linkS p.winds W (leastM br) c l = linkO (leastM br) l.oth c (caughtM p.winds W (leastRow l) t) := by unfold linkS; rw [hvc]
    rw [hlk]
    refine r_ifT (et_B (e_din (elk1 rfl) (k_own rfl))) (by rw [hv]; rfl) (sr_seq (r_asg (e_call (a_cons (e_var rfl) (a_cons (e_var rfl) (a_cons (e_var rfl) (a_cons (e_dget (k_own rfl) (elk1 rfl) hv) (a_cons (e_var rfl) a_nil))))) (.mk p W l t hW hlo.2.2.2.2.1 h0)) (by walk_at "set") (nx_go ?_)))
    cases caughtM p.winds W (leastRow l) t with
    | none =>
      refine r_ifF (et_and (b := false) (b' := false) (et_B (e_eq (e_notN (e_var (r := .d (eO none)) rfl)) rfl)) fun hb => nomatch hb) rfl (sr_next (nx_end rfl ?_))
      exact .eq (.eq (.eq (.eq (.eq (.eq (.u (.u (.eq (.u (.u (.u .nil)))))))))))
    | some e =>
      refine r_if (b' := alive (leastM br) l.oth e) (et_and (b := true) (et_B (e_eq (e_notN (e_var (r := .d (eO (some e))) rfl)) rfl)) fun _ => et_alive (n := 5) (ends := leastM br) rfl (elk2 rfl) (e_var (r := .d (.int e)) rfl)) rfl (fun ha => sr_if (et_alive (n := 8) (ends := c) rfl (elk2 rfl) (e_var (r := .d (.int e)) rfl)) (fun ha2 => ?_) (fun ha2 => ?_)) (fun ha => ?_)
      · refine r_dput (n := 8) (s := l.oth) (x := .int e) rfl (elk2 rfl) (e_var (r := .d (.int e)) rfl) hsz (by walk_at "set") (nx_end rfl ?_)
        rw [linkO, if_pos ha, lowerG, if_pos ha2, putG_map]
        exact .eq (.eq (.eq (.eq (.eq (.eq (.u (.u (.eq (.u (.u (.u .nil)))))))))))
      · refine sr_next (nx_end rfl ?_)
        rw [linkO, if_pos ha, lowerG, if_neg (by rw [ha2]; simp)]
        exact .eq (.eq (.eq (.eq (.eq (.eq (.u (.u (.eq (.u (.u (.u .nil)))))))))))
      · refine sr_next (nx_end rfl ?_)
        rw [linkO, if_neg (by rw [ha]; simp)]
        exact .eq (.eq (.eq (.eq (.eq (.eq (.u (.u (.eq (.u (.u (.u .nil)))))))))))
end Ef
/-! The law's own defs. -/
namespace Ef
open PySem PySem.Spec PyProof.Rows L2
local macro_rules | `(tactic| walk_at "set") => `(tactic| (repeat' (first | exact SetAt.z | apply SetAt.s)))
local macro_rules | `(tactic| walk_at "le") => `(tactic| (repeat' (first | exact Le.nil | (with_reducible apply Le.eq) | (with_reducible apply Le.u) | (with_reducible apply Le.as) | rfl)))
local macro_rules | `(tactic| walk_at "ev1") => `(tactic| first
  | exact e_int | exact e_str | exact e_bl | exact e_non
  | exact e_var rfl | exact d_nil | exact a_nil | exact et_yes | exact o_none | exact k_own rfl
  | exact e_lenM rfl
  | ((with_reducible show lenK _ = true); rfl) | ((with_reducible show eqK _ _ = true); rfl) | ((with_reducible show smallL _ = true); rfl)
  | with_reducible apply d_cons | with_reducible apply a_cons | with_reducible apply o_some
  | with_reducible apply e_add | with_reducible apply e_sub | with_reducible apply e_lt | with_reducible apply e_le | with_reducible apply e_gt | with_reducible apply e_ge
  | with_reducible apply e_mul | with_reducible apply e_mod | with_reducible apply e_fdiv
  | with_reducible apply e_eqA | with_reducible apply e_neA
  | with_reducible apply e_isN | with_reducible apply e_notN | with_reducible apply e_notV | with_reducible apply et_test | with_reducible apply et_B | with_reducible apply et_not
  | with_reducible apply et_and2 | with_reducible apply et_or2 | with_reducible apply e_andV2 | with_reducible apply e_orV2
  | with_reducible apply e_tupS | with_reducible apply e_lstS | exact e_dnew
  | with_reducible apply e_lenA
  | (with_reducible apply e_cb (hr := cq_abs)) | (with_reducible apply e_cb (hr := cq_int1)) | (with_reducible apply e_cb (hr := cq_max2)) | (with_reducible apply e_cb (hr := cq_min2))
  | with_reducible apply e_call | with_reducible apply e_meth
  | with_reducible apply e_din | with_reducible apply e_dnotin | with_reducible apply e_dget | with_reducible apply e_dget1 | with_reducible apply e_dget2)
local macro_rules | `(tactic| walk_at "ev") => `(tactic| repeat' (walk_at "ev1"))
variable {P : Program} {w : World} {K : Frag} {mg : Str → Option Value} {base : Heap}
instance : Inhabited Lk := ⟨⟨default, default, default, []⟩⟩
def anyT (ns : List Int) (at_ k j : Nat) : Option (Int × Int) → Option (Int × Int)
  | none => none
  | some q => some (q.1 + (atM ns (at_ + k) + 5 * (j : Int)) % (q.2 - q.1 + 1), q.1 + (atM ns (at_ + k) + 5 * (j : Int)) % (q.2 - q.1 + 1))
def anyLk (ns : List Int) (at_ k : Nat) (l : Lk) : Lk := { l with ts := (List.range l.ts.length).map fun j => anyT ns at_ k j (l.ts.getD j none) }
def anyPt (ns : List Int) (at_ : Nat) (p : Pt) : Pt := { p with links := (List.range p.links.length).map fun k => anyLk ns at_ k (p.links.getD k default) }
theorem getD_at {α : Type} {xs : List α} {i : Nat} {d : α} (h : i < xs.length) : xs[i]? = some (xs.getD i d) := by
  rw [List.getElem?_eq_getElem h, List.getD_eq_getElem?_getD, List.getElem?_eq_getElem h]
  rfl
theorem range_at {n i k : Nat} (h : (List.range n)[i]? = some k) : k = i ∧ i < n := by
  have h1 := (List.getElem?_eq_some_iff.mp h).1
  rw [List.length_range] at h1
  rw [List.getElem?_range h1] at h
  exact ⟨(Option.some.inj h).symm, h1⟩
theorem snoc_fold {α β : Type} (f : α → β) : ∀ (l : List α) (a : List β), l.foldl (fun acc x => acc ++ [f x]) a = a ++ l.map f
  | [], a => by simp
  | x :: l, a => by rw [List.foldl_cons, snoc_fold f l]; simp
theorem anyT_ok {ns : List Int} {at_ k j : Nat} {t : Option (Int × Int)} (h : PairOk t) : PairOk (anyT ns at_ k j t) := by
  cases t with
  | none => trivial
  | some q =>
    obtain ⟨h1, h2, h3⟩ : 1 ≤ q.1 ∧ q.1 ≤ q.2 ∧ q.2 ≤ 1000 := h
    have a1 : 0 ≤ (atM ns (at_ + k) + 5 * (j : Int)) % (q.2 - q.1 + 1) := Int.emod_nonneg _ (by omega)
    have a2 : (atM ns (at_ + k) + 5 * (j : Int)) % (q.2 - q.1 + 1) < q.2 - q.1 + 1 := Int.emod_lt_of_pos _ (by omega)
    show 1 ≤ q.1 + _ ∧ q.1 + _ ≤ q.1 + _ ∧ q.1 + _ ≤ 1000
    omega
theorem anyLk_ok {ws ps : List Str} {ns : List Int} {at_ k : Nat} {l : Lk} (h : LkOk ws ps l) : LkOk ws ps (anyLk ns at_ k l) := by
  obtain ⟨h1, h2, h3, h4, h5, h6⟩ := h
  refine ⟨h1, h2, h3, h4, ?_, fun t ht => ?_⟩
  · show ((List.range l.ts.length).map _).length = _
    rw [List.length_map, List.length_range]
    exact h5
  · obtain ⟨j, hj, rfl⟩ := List.mem_map.mp ht
    have hj := List.mem_range.mp hj
    exact anyT_ok (h6 _ (List.mem_of_getElem? (getD_at hj)))
theorem anyPt_ok {ns : List Int} {at_ : Nat} {p : Pt} (h : PtOk p) : PtOk (anyPt ns at_ p) := by
  refine ⟨h.wn, h.wl, h.wd, h.pn, h.pl, h.pd, ?_, fun l hl => ?_, ?_, h.al, h.ao, h.ad⟩
  · show ((List.range p.links.length).map _).length ≤ 60
    rw [List.length_map, List.length_range]
    exact h.ll
  · obtain ⟨k, hk, rfl⟩ := List.mem_map.mp hl
    have hk := List.mem_range.mp hk
    exact anyLk_ok (h.lo _ (List.mem_of_getElem? (getD_at hk)))
  · have : (anyPt ns at_ p).links.map (·.nm) = p.links.map (·.nm) := by
      show ((List.range p.links.length).map fun k => anyLk ns at_ k (p.links.getD k default)).map (·.nm) = _
      rw [List.map_map]
      refine List.ext_getElem? fun i => ?_
      rw [List.getElem?_map, List.getElem?_map]
      by_cases hi : i < p.links.length
      · rw [List.getElem?_range hi, getD_at (d := default) hi]
        rfl
      · rw [List.getElem?_eq_none (by rw [List.length_range]; omega), List.getElem?_eq_none (by omega)]
        rfl
    rw [this]
    exact h.ld
end Ef
/-! The law's own defs. -/
namespace Ef
open PySem PySem.Spec PyProof.Rows L2
local macro_rules | `(tactic| walk_at "set") => `(tactic| (repeat' (first | exact SetAt.z | apply SetAt.s)))
local macro_rules | `(tactic| walk_at "le") => `(tactic| (repeat' (first | exact Le.nil | (with_reducible apply Le.eq) | (with_reducible apply Le.u) | (with_reducible apply Le.as) | rfl)))
local macro_rules | `(tactic| walk_at "ev1") => `(tactic| first
  | exact e_int | exact e_str | exact e_bl | exact e_non
  | exact e_var rfl | exact d_nil | exact a_nil | exact et_yes | exact o_none | exact k_own rfl
  | exact e_lenM rfl
  | ((with_reducible show lenK _ = true); rfl) | ((with_reducible show eqK _ _ = true); rfl) | ((with_reducible show smallL _ = true); rfl)
  | with_reducible apply d_cons | with_reducible apply a_cons | with_reducible apply o_some
  | with_reducible apply e_add | with_reducible apply e_sub | with_reducible apply e_lt | with_reducible apply e_le | with_reducible apply e_gt | with_reducible apply e_ge
  | with_reducible apply e_mul | with_reducible apply e_mod | with_reducible apply e_fdiv
  | with_reducible apply e_eqA | with_reducible apply e_neA
  | with_reducible apply e_isN | with_reducible apply e_notN | with_reducible apply e_notV | with_reducible apply et_test | with_reducible apply et_B | with_reducible apply et_not
  | with_reducible apply et_and2 | with_reducible apply et_or2 | with_reducible apply e_andV2 | with_reducible apply e_orV2
  | with_reducible apply e_tupS | with_reducible apply e_lstS | exact e_dnew
  | with_reducible apply e_lenA
  | (with_reducible apply e_cb (hr := cq_abs)) | (with_reducible apply e_cb (hr := cq_int1)) | (with_reducible apply e_cb (hr := cq_max2)) | (with_reducible apply e_cb (hr := cq_min2))
  | with_reducible apply e_call | with_reducible apply e_meth
  | with_reducible apply e_din | with_reducible apply e_dnotin | with_reducible apply e_dget | with_reducible apply e_dget1 | with_reducible apply e_dget2)
local macro_rules | `(tactic| walk_at "ev") => `(tactic| repeat' (walk_at "ev1"))
variable {P : Program} {w : World} {K : Frag} {mg : Str → Option Value} {base : Heap}
inductive R_l_any_fire (K : Frag) : List SV → SV → Prop
  | mk (ns : List Int) (at_ : Nat) (p : Pt) (W : We) (s br : Ro) (hn : at_ + p.links.length ≤ ns.length) (h : PtOk p) (hW : WOk p.winds W) (hs : ∀ q ∈ s, q.1 ∈ p.places ∧ 0 ≤ q.2) (hbl : br.length < 1000) :
    R_l_any_fire K [.d (.list (ns.map .int)), .d (.int (at_ : Nat)), .d (ePt p), .d (eWe W), .d (eRo s), .d (eRo br)] (.md (mapG .int (fireM (anyPt ns at_ p) W s br)))
theorem ok_l_any_fire (T : Tx K mg) : FnOk P w K mg base CX0 4 (He.fAd K ("_law_any_fire", none)) T.fd_l_any_fire ["_law_numbers_here", "_law_at", "_law_parts_here", "_law_weather_here", "_law_starts", "_law_breaks"] (spQ (R_l_any_fire K)) := by
  refine okQ T.F_l_any_fire sc_l_any_fire (fun _ _ h => by cases h; rfl) (by decide) ?_
  rintro X ⟨cdv, A, outer, s, H, rfl, hr⟩ args r hR
  refine ⟨_, (pss_cons (ps_set (i := 6) sc_l_any_fire.nd rfl (Or.inl rfl) (pe_lst pa_nil))
    (pss_cons (ps_for PassesOwn.never rfl (pi_range1 rfl T.m_range (pa_cons (pe_callB call_lenQ (by rfl) T.m_len (by decide +kernel) (pa_cons (pe_ix ix_list (pv 2) pe_int (fun _ _ => rfl)) pa_nil)) pa_nil)) (pg_name (i := 7) sc_l_any_fire.nd rfl (Or.inl rfl))
      (pss_cons (ps_set (i := 8) sc_l_any_fire.nd rfl (Or.inl rfl) (pe_ix ix_tup (pe_ix ix_list (pv 2) pe_int (fun _ _ => rfl)) (pv 7) (fun _ _ => rfl)))
    (pss_cons (ps_set (i := 9) sc_l_any_fire.nd rfl (Or.inl rfl) (pe_lst pa_nil))
    (pss_cons (ps_for PassesOwn.never rfl (pi_range1 rfl T.m_range (pa_cons (pe_callB call_lenQ (by rfl) T.m_len (by decide +kernel) (pa_cons (pe_ix ix_tup (pv 8) pe_int (fun _ _ => rfl)) pa_nil)) pa_nil)) (pg_name (i := 10) sc_l_any_fire.nd rfl (Or.inl rfl))
      (pss_cons (ps_set (i := 11) sc_l_any_fire.nd rfl (Or.inl rfl) (pe_ix ix_tup (pe_ix ix_tup (pv 8) pe_int (fun _ _ => rfl)) (pv 10) (fun _ _ => rfl)))
    (pss_one (ps_if (pt_cmp (pc_isN (pv 11))) (pss_one (ps_expr (pe_bm PySem.F.plainAttrs_list PySem.F.slot_list_append PySem.F.type_list_append mt_append (pv 9) (pa_cons pe_non pa_nil)))) (pss_cons (ps_set (i := 12) sc_l_any_fire.nd rfl (Or.inl rfl) (pe_op op_add (pe_ix ix_tup (pv 11) pe_int (fun _ _ => rfl)) (pe_op op_mod (pe_callTy call_int1 (by rfl) T.m_int (by decide +kernel) (pa_cons (pe_op op_add (pe_ix ix_list (pv 0) (pe_op op_add (pv 1) (pv 7)) (fun _ _ => rfl)) (pe_op op_mul pe_int (pv 10))) pa_nil)) (pe_op op_add (pe_op op_sub (pe_ix ix_tup (pv 11) pe_int (fun _ _ => rfl)) (pe_ix ix_tup (pv 11) pe_int (fun _ _ => rfl))) pe_int))))
    (pss_one (ps_expr (pe_bm PySem.F.plainAttrs_list PySem.F.slot_list_append PySem.F.type_list_append mt_append (pv 9) (pa_cons (pe_tupN (pa_cons (pv 12) (pa_cons (pv 12) pa_nil))) pa_nil)))))))))
    (pss_one (ps_expr (pe_bm PySem.F.plainAttrs_list PySem.F.slot_list_append PySem.F.type_list_append mt_append (pv 6) (pa_cons (pe_tupN (pa_cons (pe_ix ix_tup (pv 8) pe_int (fun _ _ => rfl)) (pa_cons (pe_ix ix_tup (pv 8) pe_int (fun _ _ => rfl)) (pa_cons (pe_ix ix_tup (pv 8) pe_int (fun _ _ => rfl)) (pa_cons (pe_callTy call_tupN (by rfl) T.m_tuple (by decide +kernel) (pa_cons (pv 9) pa_nil)) pa_nil))))) pa_nil))))))))
    (pss_one (ps_ret (pe_call (ok_l_fire T) (hr.mono (by decide)) (by rfl) T.g_l_fire T.F_l_fire.kp (b_l_fire T) .nil pass0 (pa_cons (pe_lst (pa_cons (pe_ix ix_list (pv 2) pe_int (fun _ _ => rfl)) (pa_cons (pe_ix ix_list (pv 2) pe_int (fun _ _ => rfl)) (pa_cons (pe_callTy call_tupN (by rfl) T.m_tuple (by decide +kernel) (pa_cons (pv 6) pa_nil)) (pa_cons (pe_ix ix_list (pv 2) pe_int (fun _ _ => rfl)) pa_nil))))) (pa_cons (pv 3) (pa_cons (pv 4) (pa_cons (pv 5) (pa_cons pe_int pa_nil)))))))))), ?_⟩
  intro F0 H0 D hrt hnx
  cases hR with
  | mk ns at_ p W st br hn h hW hs hbl =>
  show SR F0 H0 _ [.d (.list (ns.map .int)), .d (.int (at_ : Nat)), .d (ePt p), .d (eWe W), .d (eRo st), .d (eRo br), .u, .u, .u, .u, .u, .u, .u] D
  have hll := h.ll
  have hlen : (lenF (PyData.tuple (p.links.map eLk)) : Int) = ((p.links.length : Nat) : Int) := by simp only [lenF, List.length_map]
  refine sr_seq (r_asg (r := .ml []) (by walk_at "ev") (by walk_at "set") (nx_go (sr_seq ?_)))
  refine sr_fold (List.range p.links.length) (fun k => .int (k : Nat)) (fun (acc : List Lk) k => acc ++ [anyLk ns at_ k (p.links.getD k default)]) (fun acc => [.d (.list (ns.map .int)), .d (.int (at_ : Nat)), .d (ePt p), .d (eWe W), .d (eRo st), .d (eRo br), .ml (acc.map eLk), .u, .u, .u, .u, .u, .u]) (fun i acc => acc.length = i) [] (wk_eq (wk_range (n := ((p.links.length : Nat) : Int)) (d_cons (e_eq (e_lenA (e_pt2 rfl) rfl) (congrArg PyData.int hlen)) d_nil) (by omega) (Int.natCast_nonneg _)) (int_map _)) (by walk_at "le") rfl (fun F1 i k acc gx hk ha _ => ⟨by rw [List.length_append, ha]; rfl, _, g_name (by walk_at "set"), ?_⟩) (fun _ => nx_go ?_)
  · obtain ⟨rfl, hi⟩ := range_at hk
    have hlk := getD_at (d := default) hi
    have hlo := h.lo _ (List.mem_of_getElem? hlk)
    generalize p.links.getD k default = l at hlk hlo ⊢
    have htl : l.ts.length ≤ 4 := by rw [hlo.2.2.2.2.1]; exact h.wl.2
    have elk : ∀ {Γ : List SV}, Γ[8]? = some (.d (eLk l)) → Ev (tOp (rIxT K) (tVar 8) (tC (.int 3))) Γ (.d (.tuple (l.ts.map ePair))) := fun hg => e_ixT (x := .tuple (l.ts.map ePair)) (e_var hg) e_int (by decide) rfl
    have hlt : (lenF (PyData.tuple (l.ts.map ePair)) : Int) = ((l.ts.length : Nat) : Int) := by simp only [lenF, List.length_map]
    refine sr_seq (r_asg (r := .d (eLk l)) (e_ixFT (f := eLk) (xs := p.links) (e_pt2 rfl) (e_var rfl) (Int.natCast_nonneg _) (by rw [Int.toNat_natCast]; exact hlk)) (by walk_at "set") (nx_go (sr_seq (r_asg (r := .ml []) (by walk_at "ev") (by walk_at "set") (nx_go (sr_seq ?_))))))
    refine sr_fold (List.range l.ts.length) (fun j => .int (j : Nat)) (fun (b : List (Option (Int × Int))) j => b ++ [anyT ns at_ k j (l.ts.getD j none)]) (fun b => [.d (.list (ns.map .int)), .d (.int (at_ : Nat)), .d (ePt p), .d (eWe W), .d (eRo st), .d (eRo br), .ml (acc.map eLk), .d (.int (k : Nat)), .d (eLk l), .ml (b.map ePair), .u, .u, .u]) (fun i b => b.length = i) [] (wk_eq (wk_range (n := ((l.ts.length : Nat) : Int)) (d_cons (e_eq (e_lenA (elk rfl) rfl) (congrArg PyData.int hlt)) d_nil) (by omega) (Int.natCast_nonneg _)) (int_map _)) (by walk_at "le") rfl (fun F2 i2 j b gx2 hj hb _ => ⟨by rw [List.length_append, hb]; rfl, _, g_name (by walk_at "set"), ?_⟩) (fun _ => nx_go ?_)
    · obtain ⟨rfl, hji⟩ := range_at hj
      have htj := getD_at (d := none) hji
      have hpo := hlo.2.2.2.2.2 _ (List.mem_of_getElem? htj)
      generalize l.ts.getD j none = t at htj hpo ⊢
      have hsz : (b.map ePair).length < sizeLine := by rw [List.length_map, sizeLine_eq]; omega
      refine sr_seq (r_asg (r := .d (ePair t)) (e_ixFT (f := ePair) (xs := l.ts) (elk rfl) (e_var rfl) (Int.natCast_nonneg _) (by rw [Int.toNat_natCast]; exact htj)) (by walk_at "set") (nx_go ?_))
      cases t with
      | none =>
        refine r_ifT (et_B (e_isN (e_var (r := .d (ePair none)) rfl))) rfl (r_app (n := 9) (x := .none) rfl e_non hsz (by walk_at "set") (nx_end rfl ?_))
        rw [List.map_append]
        exact .eq (.eq (.eq (.eq (.eq (.eq (.eq (.eq (.eq (.eq (.u (.u (.u .nil))))))))))))
      | some q =>
        obtain ⟨h1, h2, h3⟩ : 1 ≤ q.1 ∧ q.1 ≤ q.2 ∧ q.2 ≤ 1000 := hpo
        have ep0 : ∀ {Γ : List SV}, Γ[11]? = some (.d (ePair (some q))) → Ev (tOp (rIxT K) (tVar 11) (tC (.int 0))) Γ (.d (.int q.1)) := fun hg => e_ixT (x := .int q.1) (e_var hg) e_int (by decide) rfl
        have ep1 : ∀ {Γ : List SV}, Γ[11]? = some (.d (ePair (some q))) → Ev (tOp (rIxT K) (tVar 11) (tC (.int 1))) Γ (.d (.int q.2)) := fun hg => e_ixT (x := .int q.2) (e_var hg) e_int (by decide) rfl
        refine r_ifF (et_B (e_isN (e_var (r := .d (ePair (some q))) rfl))) rfl (sr_seq (r_asg (e_add (ep0 rfl) (e_mod (e_cb (d_cons (e_add (e_num (k := at_ + k) (e_var rfl) (e_add (e_var rfl) (e_var rfl)) (by omega) (by omega)) (e_mul e_int (e_var rfl) (.inl (by decide)))) d_nil) cq_int1) (e_add (e_sub (ep1 rfl) (ep0 rfl)) e_int) (by omega))) (by walk_at "set") (nx_go (r_app (n := 9) (x := ePair (anyT ns at_ k j (some q))) rfl (e_tupS (d_cons (e_var rfl) (d_cons (e_var rfl) d_nil))) hsz (by walk_at "set") (nx_end rfl ?_)))))
        rw [List.map_append]
        exact .eq (.eq (.eq (.eq (.eq (.eq (.eq (.eq (.eq (.eq (.u (.u (.u .nil))))))))))))
    · rw [snoc_fold, List.nil_append]
      refine r_freeze (n := 9) rfl (by walk_at "set") ?_
      refine r_app (n := 6) (x := eLk (anyLk ns at_ k l)) rfl (e_tupS (d_cons (e_ixT (x := .str l.nm) (e_var (r := .d (eLk l)) rfl) e_int (by decide) rfl) (d_cons (e_ixT (x := .str l.one) (e_var (r := .d (eLk l)) rfl) e_int (by decide) rfl) (d_cons (e_ixT (x := .str l.oth) (e_var (r := .d (eLk l)) rfl) e_int (by decide) rfl) (d_cons (e_cb (d_cons (e_var rfl) d_nil) cq_tupleL) d_nil))))) (by rw [List.length_map, sizeLine_eq]; omega) (by walk_at "set") (nx_end rfl ?_)
      rw [List.map_append]
      exact .eq (.eq (.eq (.eq (.eq (.eq (.eq (.u (.u (.u (.u (.u (.u .nil))))))))))))
  · rw [snoc_fold, List.nil_append]
    refine r_freeze (n := 6) rfl (by walk_at "set") ?_
    exact sr_ret (e_call (a_cons (e_as (e_freeze (e_lstS (d_cons (e_pt0 rfl) (d_cons (e_pt1 rfl) (d_cons (e_cb (d_cons (e_var rfl) d_nil) cq_tupleL) (d_cons (e_pt3 rfl) d_nil)))))) (show _ = SV.d (ePt (anyPt ns at_ p)) from rfl)) (a_cons (e_var rfl) (a_cons (e_var rfl) (a_cons (e_var rfl) (a_cons e_int a_nil))))) (.mk _ W st br (anyPt_ok h) hW hs hbl)) hrt
end Ef
/-! The law's own defs. -/
namespace Ef
open PySem PySem.Spec PyProof.Rows L2
local macro_rules | `(tactic| walk_at "set") => `(tactic| (repeat' (first | exact SetAt.z | apply SetAt.s)))
local macro_rules | `(tactic| walk_at "le") => `(tactic| (repeat' (first | exact Le.nil | (with_reducible apply Le.eq) | (with_reducible apply Le.u) | (with_reducible apply Le.as) | rfl)))
local macro_rules | `(tactic| walk_at "ev1") => `(tactic| first
  | exact e_int | exact e_str | exact e_bl | exact e_non
  | exact e_var rfl | exact d_nil | exact a_nil | exact et_yes | exact o_none | exact k_own rfl
  | exact e_lenM rfl
  | ((with_reducible show lenK _ = true); rfl) | ((with_reducible show eqK _ _ = true); rfl) | ((with_reducible show smallL _ = true); rfl)
  | with_reducible apply d_cons | with_reducible apply a_cons | with_reducible apply o_some
  | with_reducible apply e_add | with_reducible apply e_sub | with_reducible apply e_lt | with_reducible apply e_le | with_reducible apply e_gt | with_reducible apply e_ge
  | with_reducible apply e_mul | with_reducible apply e_mod | with_reducible apply e_fdiv
  | with_reducible apply e_eqA | with_reducible apply e_neA
  | with_reducible apply e_isN | with_reducible apply e_notN | with_reducible apply e_notV | with_reducible apply et_test | with_reducible apply et_B | with_reducible apply et_not
  | with_reducible apply et_and2 | with_reducible apply et_or2 | with_reducible apply e_andV2 | with_reducible apply e_orV2
  | with_reducible apply e_tupS | with_reducible apply e_lstS | exact e_dnew
  | with_reducible apply e_lenA
  | (with_reducible apply e_cb (hr := cq_abs)) | (with_reducible apply e_cb (hr := cq_int1)) | (with_reducible apply e_cb (hr := cq_max2)) | (with_reducible apply e_cb (hr := cq_min2))
  | with_reducible apply e_call | with_reducible apply e_meth
  | with_reducible apply e_din | with_reducible apply e_dnotin | with_reducible apply e_dget | with_reducible apply e_dget1 | with_reducible apply e_dget2)
local macro_rules | `(tactic| walk_at "ev") => `(tactic| repeat' (walk_at "ev1"))
variable {P : Program} {w : World} {K : Frag} {mg : Str → Option Value} {base : Heap}
def hStep (p : Pt) (ns : List Int) (spot : Nat) (s : Str × List Dd) (j : Nat) : Str × List Dd :=
  if atM ns (spot + 2 + 2 * j) % 5 < 3 ∧ 0 < (walksP p s.1).length then
    (((walksP p s.1).getD (atM ns (spot + 3 + 2 * j) % ((walksP p s.1).length : Int)).toNat default).1, s.2 ++ [.walk ((walksP p s.1).getD (atM ns (spot + 3 + 2 * j) % ((walksP p s.1).length : Int)).toNat default).1])
  else if atM ns (spot + 2 + 2 * j) % 5 < 4 then (s.1, s.2 ++ [.cut (1 + atM ns (spot + 3 + 2 * j) % 8)]) else (s.1, s.2 ++ [.wait (1 + atM ns (spot + 3 + 2 * j) % 8)])
def handM (ns : List Int) (at_ : Nat) (p : Pt) (k : Nat) : Hn :=
  ⟨(namesM (atM ns at_) 3).getD k default, plAt p (atM ns (at_ + 2 + 22 * k)), ((List.range (atM ns (at_ + 2 + 22 * k + 1) % 7).toNat).foldl (hStep p ns (at_ + 2 + 22 * k)) (plAt p (atM ns (at_ + 2 + 22 * k)), [])).2⟩
def handsM (ns : List Int) (at_ : Nat) (p : Pt) : List Hn := (List.range (atM ns (at_ + 1) % 4).toNat).map (handM ns at_ p)
end Ef
/-! The law's own defs. -/
namespace Ef
open PySem PySem.Spec PyProof.Rows L2
local macro_rules | `(tactic| walk_at "set") => `(tactic| (repeat' (first | exact SetAt.z | apply SetAt.s)))
local macro_rules | `(tactic| walk_at "le") => `(tactic| (repeat' (first | exact Le.nil | (with_reducible apply Le.eq) | (with_reducible apply Le.u) | (with_reducible apply Le.as) | rfl)))
local macro_rules | `(tactic| walk_at "ev1") => `(tactic| first
  | exact e_int | exact e_str | exact e_bl | exact e_non
  | exact e_var rfl | exact d_nil | exact a_nil | exact et_yes | exact o_none | exact k_own rfl
  | exact e_lenM rfl
  | ((with_reducible show lenK _ = true); rfl) | ((with_reducible show eqK _ _ = true); rfl) | ((with_reducible show smallL _ = true); rfl)
  | with_reducible apply d_cons | with_reducible apply a_cons | with_reducible apply o_some
  | with_reducible apply e_add | with_reducible apply e_sub | with_reducible apply e_lt | with_reducible apply e_le | with_reducible apply e_gt | with_reducible apply e_ge
  | with_reducible apply e_mul | with_reducible apply e_mod | with_reducible apply e_fdiv
  | with_reducible apply e_eqA | with_reducible apply e_neA
  | with_reducible apply e_isN | with_reducible apply e_notN | with_reducible apply e_notV | with_reducible apply et_test | with_reducible apply et_B | with_reducible apply et_not
  | with_reducible apply et_and2 | with_reducible apply et_or2 | with_reducible apply e_andV2 | with_reducible apply e_orV2
  | with_reducible apply e_tupS | with_reducible apply e_lstS | exact e_dnew
  | with_reducible apply e_lenA
  | (with_reducible apply e_cb (hr := cq_abs)) | (with_reducible apply e_cb (hr := cq_int1)) | (with_reducible apply e_cb (hr := cq_max2)) | (with_reducible apply e_cb (hr := cq_min2))
  | with_reducible apply e_call | with_reducible apply e_meth
  | with_reducible apply e_din | with_reducible apply e_dnotin | with_reducible apply e_dget | with_reducible apply e_dget1 | with_reducible apply e_dget2)
local macro_rules | `(tactic| walk_at "ev") => `(tactic| repeat' (walk_at "ev1"))
variable {P : Program} {w : World} {K : Frag} {mg : Str → Option Value} {base : Heap}
theorem numS {x : Int} (h : Num x) : 0 ≤ x := h.1
theorem atM_num {ns : List Int} (h : ∀ x ∈ ns, Num x) (i : Nat) : 0 ≤ atM ns i := by
  unfold atM
  rw [List.getD_eq_getElem?_getD]
  cases hc : ns[i]? with
  | none => exact Int.le_refl _
  | some x => exact (h x (List.mem_of_getElem? hc)).1
inductive R_l_hands (K : Frag) : List SV → SV → Prop
  | mk (ns : List Int) (at_ : Nat) (p : Pt) (hn : at_ + 70 ≤ ns.length) (hnum : ∀ x ∈ ns, Num x) (h : PtOk p) : R_l_hands K [.d (.list (ns.map .int)), .d (.int (at_ : Nat)), .d (ePt p)] (.ml ((handsM ns at_ p).map eHn))
theorem ok_l_hands (T : Tx K mg) : FnOk P w K mg base CX0 2 (He.fAd K ("_law_hands", none)) T.fd_l_hands ["_law_numbers_here", "_law_at", "_law_parts_here"] (spQ (R_l_hands K)) := by
  refine okQ T.F_l_hands sc_l_hands (fun _ _ h => by cases h; rfl) (by decide) ?_
  rintro X ⟨cdv, A, outer, s, H, rfl, hr⟩ args r hR
  refine ⟨_, (pss_cons (ps_set (i := 3) sc_l_hands.nd rfl (Or.inl rfl) (pe_call (ok_l_names T) (hr.mono (by decide)) (by rfl) T.g_l_names T.F_l_names.kp (b_l_names T) .nil pass0 (pa_cons (pe_ix ix_list (pv 0) (pv 1) (fun _ _ => rfl)) (pa_cons pe_int pa_nil))))
    (pss_cons (ps_set (i := 4) sc_l_hands.nd rfl (Or.inl rfl) (pe_lst pa_nil))
    (pss_cons (ps_for PassesOwn.never rfl (pi_range1 rfl T.m_range (pa_cons (pe_op op_mod (pe_callTy call_int1 (by rfl) T.m_int (by decide +kernel) (pa_cons (pe_ix ix_list (pv 0) (pe_op op_add (pv 1) pe_int) (fun _ _ => rfl)) pa_nil)) pe_int) pa_nil)) (pg_name (i := 5) sc_l_hands.nd rfl (Or.inl rfl))
      (pss_cons (ps_set (i := 6) sc_l_hands.nd rfl (Or.inl rfl) (pe_op op_add (pe_op op_add (pv 1) pe_int) (pe_op op_mul pe_int (pv 5))))
    (pss_cons (ps_set (i := 7) sc_l_hands.nd rfl (Or.inl rfl) (pe_ix ix_tup (pe_ix ix_list (pv 2) pe_int (fun _ _ => rfl)) (pe_op op_mod (pe_callTy call_int1 (by rfl) T.m_int (by decide +kernel) (pa_cons (pe_ix ix_list (pv 0) (pv 6) (fun _ _ => rfl)) pa_nil)) (pe_callB call_lenQ (by rfl) T.m_len (by decide +kernel) (pa_cons (pe_ix ix_list (pv 2) pe_int (fun _ _ => rfl)) pa_nil))) (fun _ _ => rfl)))
    (pss_cons (ps_set (i := 8) sc_l_hands.nd rfl (Or.inl rfl) (pv 7))
    (pss_cons (ps_set (i := 9) sc_l_hands.nd rfl (Or.inl rfl) (pe_lst pa_nil))
    (pss_cons (ps_for PassesOwn.never rfl (pi_range1 rfl T.m_range (pa_cons (pe_op op_mod (pe_callTy call_int1 (by rfl) T.m_int (by decide +kernel) (pa_cons (pe_ix ix_list (pv 0) (pe_op op_add (pv 6) pe_int) (fun _ _ => rfl)) pa_nil)) pe_int) pa_nil)) (pg_name (i := 10) sc_l_hands.nd rfl (Or.inl rfl))
      (pss_cons (ps_set (i := 11) sc_l_hands.nd rfl (Or.inl rfl) (pe_call (ok_l_walks T) (hr.mono (by decide)) (by rfl) T.g_l_walks T.F_l_walks.kp (b_l_walks T) .nil pass0 (pa_cons (pv 2) (pa_cons (pv 8) pa_nil))))
    (pss_cons (ps_set (i := 12) sc_l_hands.nd rfl (Or.inl rfl) (pe_op op_mod (pe_callTy call_int1 (by rfl) T.m_int (by decide +kernel) (pa_cons (pe_ix ix_list (pv 0) (pe_op op_add (pe_op op_add (pv 6) pe_int) (pe_op op_mul pe_int (pv 10))) (fun _ _ => rfl)) pa_nil)) pe_int))
    (pss_cons (ps_set (i := 13) sc_l_hands.nd rfl (Or.inl rfl) (pe_op op_add pe_int (pe_op op_mod (pe_callTy call_int1 (by rfl) T.m_int (by decide +kernel) (pa_cons (pe_ix ix_list (pv 0) (pe_op op_add (pe_op op_add (pv 6) pe_int) (pe_op op_mul pe_int (pv 10))) (fun _ _ => rfl)) pa_nil)) pe_int)))
    (pss_one (ps_if (PW.pt (pw_and (pt_cmpR op_lt (pv 12) pe_int (nomark _)) (pw_and1 (pt_cmpR op_gt (pe_callB call_lenQ (by rfl) T.m_len (by decide +kernel) (pa_cons (pv 11) pa_nil)) pe_int (nomark _))))) (pss_cons (ps_set (i := 8) sc_l_hands.nd rfl (Or.inl rfl) (pe_ix ix_tup (pe_ix ix_list (pv 11) (pe_op op_mod (pe_callTy call_int1 (by rfl) T.m_int (by decide +kernel) (pa_cons (pe_ix ix_list (pv 0) (pe_op op_add (pe_op op_add (pv 6) pe_int) (pe_op op_mul pe_int (pv 10))) (fun _ _ => rfl)) pa_nil)) (pe_callB call_lenQ (by rfl) T.m_len (by decide +kernel) (pa_cons (pv 11) pa_nil))) (fun _ _ => rfl)) pe_int (fun _ _ => rfl)))
    (pss_one (ps_expr (pe_bm PySem.F.plainAttrs_list PySem.F.slot_list_append PySem.F.type_list_append mt_append (pv 9) (pa_cons (pe_tupN (pa_cons pe_str (pa_cons (pv 8) pa_nil))) pa_nil))))) (pss_one (ps_if (pt_cmpR op_lt (pv 12) pe_int (nomark _)) (pss_one (ps_expr (pe_bm PySem.F.plainAttrs_list PySem.F.slot_list_append PySem.F.type_list_append mt_append (pv 9) (pa_cons (pe_tupN (pa_cons pe_str (pa_cons (pv 13) pa_nil))) pa_nil)))) (pss_one (ps_expr (pe_bm PySem.F.plainAttrs_list PySem.F.slot_list_append PySem.F.type_list_append mt_append (pv 9) (pa_cons (pe_tupN (pa_cons pe_str (pa_cons (pv 13) pa_nil))) pa_nil))))))))))))
    (pss_one (ps_expr (pe_bm PySem.F.plainAttrs_list PySem.F.slot_list_append PySem.F.type_list_append mt_append (pv 4) (pa_cons (pe_tupN (pa_cons (pe_ix ix_list (pv 3) (pv 5) (fun _ _ => rfl)) (pa_cons (pv 7) (pa_cons (pv 9) pa_nil)))) pa_nil))))))))))
    (pss_one (ps_ret (pv 4)))))), ?_⟩
  intro F0 H0 D hrt hnx
  cases hR with
  | mk ns at_ p hn hnum h =>
  show SR F0 H0 _ [.d (.list (ns.map .int)), .d (.int (at_ : Nat)), .d (ePt p), .u, .u, .u, .u, .u, .u, .u, .u, .u, .u, .u] D
  have hp0 : 0 < p.places.length := by have := h.pl.1; omega
  have hpal := h.al
  have hl0 : (lenF (PyData.tuple (p.places.map .str)) : Int) = (p.places.length : Nat) := by simp only [lenF, List.length_map]
  have hm4 : 0 ≤ atM ns (at_ + 1) % 4 ∧ atM ns (at_ + 1) % 4 < 4 := ⟨Int.emod_nonneg _ (by decide), Int.emod_lt_of_pos _ (by decide)⟩
  refine sr_seq (r_asg (e_call (a_cons (e_num (k := at_) (e_var rfl) (e_var rfl) rfl (by omega)) (a_cons e_int a_nil)) (.mk (atM ns at_) 3 (atM_num hnum _) (by decide))) (by walk_at "set") (nx_go (r_freeze (n := 3) rfl (by walk_at "set") ?_)))
  refine sr_seq (r_asg (r := .ml []) (by walk_at "ev") (by walk_at "set") (nx_go (sr_seq ?_)))
  refine sr_fold (List.range (atM ns (at_ + 1) % 4).toNat) (fun k => .int (k : Nat)) (fun (acc : List Hn) k => acc ++ [handM ns at_ p k]) (fun acc => [.d (.list (ns.map .int)), .d (.int (at_ : Nat)), .d (ePt p), .d (.list ((namesM (atM ns at_) 3).map .str)), .ml (acc.map eHn), .u, .u, .u, .u, .u, .u, .u, .u, .u]) (fun i acc => acc.length = i) [] (wk_range (d_cons (e_mod (e_cb (d_cons (e_num (k := at_ + 1) (e_var rfl) (e_add (e_var rfl) e_int) (by omega) (by omega)) d_nil) cq_int1) e_int (by decide)) d_nil) (by omega) hm4.1) (by walk_at "le") rfl (fun F1 i k acc gx hk ha _ => ⟨by rw [List.length_append, ha]; rfl, _, g_name (by walk_at "set"), ?_⟩) (fun _ => nx_go (sr_retM ?_ hrt))
  rotate_left 1
  · rw [snoc_fold]
    rfl
  obtain ⟨rfl, hi⟩ := range_at hk
  have hk3 : k < 4 := by omega
  generalize hsp : at_ + 2 + 22 * k = spot
  have hspot : ((at_ : Nat) : Int) + 2 + 22 * ((k : Nat) : Int) = ((spot : Nat) : Int) := by omega
  have hspl : spot + 15 < ns.length := by omega
  refine sr_seq (r_asg (r := .d (.int (spot : Nat))) (e_eq (e_add (e_add (e_var rfl) e_int) (e_mul e_int (e_var rfl) (.inl (by decide)))) (congrArg PyData.int hspot)) (by walk_at "set") (nx_go ?_))
  refine sr_seq (r_asg (r := .d (.str (plAt p (atM ns spot)))) (e_ixFT (f := .str) (xs := p.places) (e_pt1 rfl) (e_mod (e_cb (d_cons (e_num (k := spot) (e_var rfl) (e_var rfl) rfl (by omega)) d_nil) cq_int1) (e_lenA (e_pt1 rfl) rfl) ?_) ?_ ?_) (by walk_at "set") (nx_go (sr_seq (r_asg (e_var rfl) (by walk_at "set") (nx_go (sr_seq (r_asg (r := .ml []) (by walk_at "ev") (by walk_at "set") (nx_go (sr_seq ?_)))))))))
  · rw [hl0]; omega
  · rw [hl0]; exact Int.emod_nonneg _ (by omega)
  · rw [hl0]; exact pl_at hp0 _
  have hm7 : 0 ≤ atM ns (spot + 1) % 7 ∧ atM ns (spot + 1) % 7 < 7 := ⟨Int.emod_nonneg _ (by decide), Int.emod_lt_of_pos _ (by decide)⟩
  refine sr_fold (List.range (atM ns (spot + 1) % 7).toNat) (fun j => .int (j : Nat)) (hStep p ns spot) (fun s => [.d (.list (ns.map .int)), .d (.int (at_ : Nat)), .d (ePt p), .d (.list ((namesM (atM ns at_) 3).map .str)), .ml (acc.map eHn), .d (.int (k : Nat)), .d (.int (spot : Nat)), .d (.str (plAt p (atM ns spot))), .d (.str s.1), .ml (s.2.map eDd), .u, .u, .u, .u]) (fun i s => s.2.length = i) (plAt p (atM ns spot), []) (wk_range (d_cons (e_mod (e_cb (d_cons (e_num (k := spot + 1) (e_var rfl) (e_add (e_var rfl) e_int) (by omega) (by omega)) d_nil) cq_int1) e_int (by decide)) d_nil) (by omega) hm7.1) (by walk_at "le") rfl (fun F2 i2 j s gx2 hj hs _ => ⟨?_, _, g_name (by walk_at "set"), ?_⟩) (fun _ => nx_go ?_)
  · unfold hStep
    split
    · simp [hs]
    · split <;> simp [hs]
  · obtain ⟨rfl, hji⟩ := range_at hj
    have hj7 : j < 7 := by omega
    have hsz : (s.2.map eDd).length < sizeLine := by rw [List.length_map, sizeLine_eq]; omega
    have hwl := walks_len p s.1
    refine sr_seq (r_asg (e_call (a_cons (e_var rfl) (a_cons (e_var rfl) a_nil)) (.mk p s.1 (fun l hl => (h.ao l hl).2.2.1) (by omega))) (by walk_at "set") (nx_go (r_freeze (n := 11) rfl (by walk_at "set") ?_)))
    refine sr_seq (r_asg (e_mod (e_cb (d_cons (e_num (k := spot + 2 + 2 * j) (e_var rfl) (e_add (e_add (e_var rfl) e_int) (e_mul e_int (e_var rfl) (.inl (by decide)))) (by omega) (by omega)) d_nil) cq_int1) e_int (by decide)) (by walk_at "set") (nx_go ?_))
    refine sr_seq (r_asg (e_add e_int (e_mod (e_cb (d_cons (e_num (k := spot + 3 + 2 * j) (e_var rfl) (e_add (e_add (e_var rfl) e_int) (e_mul e_int (e_var rfl) (.inl (by decide)))) (by omega) (by omega)) d_nil) cq_int1) e_int (by decide))) (by walk_at "set") (nx_go ?_))
    have hlw : (lenF (PyData.list ((walksP p s.1).map eSI)) : Int) = ((walksP p s.1).length : Nat) := by simp only [lenF, List.length_map]
    by_cases hc : atM ns (spot + 2 + 2 * j) % 5 < 3 ∧ 0 < (walksP p s.1).length
    · have hpos := hc.2
      have b1 : 0 ≤ atM ns (spot + 3 + 2 * j) % ((walksP p s.1).length : Int) := Int.emod_nonneg _ (by omega)
      have b2 : atM ns (spot + 3 + 2 * j) % ((walksP p s.1).length : Int) < ((walksP p s.1).length : Int) := Int.emod_lt_of_pos _ (by omega)
      refine r_ifT (et_and2 (et_test (e_lt (e_var rfl) e_int)) (et_test (e_gt (e_lenA (e_var rfl) rfl) e_int))) ?_ (sr_seq (r_asg (e_ixT (x := .str ((walksP p s.1).getD (atM ns (spot + 3 + 2 * j) % ((walksP p s.1).length : Int)).toNat default).1) (e_ixF (f := eSI) (xs := walksP p s.1) (e_var rfl) (e_eq (e_mod (e_cb (d_cons (e_num (k := spot + 3 + 2 * j) (e_var rfl) (e_add (e_add (e_var rfl) e_int) (e_mul e_int (e_var rfl) (.inl (by decide)))) (by omega) (by omega)) d_nil) cq_int1) (e_lenA (e_var rfl) rfl) (by rw [hlw]; omega)) (by rw [hlw])) b1 (getD_at (d := default) (by omega))) e_int (by decide) rfl) (by walk_at "set") (nx_go (r_app (n := 9) (x := eDd (.walk ((walksP p s.1).getD (atM ns (spot + 3 + 2 * j) % ((walksP p s.1).length : Int)).toNat default).1)) rfl (e_tupS (d_cons e_str (d_cons (e_var rfl) d_nil))) hsz (by walk_at "set") (nx_end rfl ?_)))))
      · rw [hlw]
        simp [hc.1]
        omega
      · rw [hStep, if_pos hc, List.map_append]
        exact .eq (.eq (.eq (.eq (.eq (.eq (.eq (.eq (.eq (.eq (.u (.u (.u (.u .nil)))))))))))))
    · refine r_ifF (et_and2 (et_test (e_lt (e_var rfl) e_int)) (et_test (e_gt (e_lenA (e_var rfl) rfl) e_int))) ?_ (r_if (b' := decide (atM ns (spot + 2 + 2 * j) % 5 < 4)) (et_test (e_lt (e_var rfl) e_int)) rfl (fun hb => r_app (n := 9) (x := eDd (.cut (1 + atM ns (spot + 3 + 2 * j) % 8))) rfl (e_tupS (d_cons e_str (d_cons (e_var rfl) d_nil))) hsz (by walk_at "set") (nx_end rfl ?_)) (fun hb => r_app (n := 9) (x := eDd (.wait (1 + atM ns (spot + 3 + 2 * j) % 8))) rfl (e_tupS (d_cons e_str (d_cons (e_var rfl) d_nil))) hsz (by walk_at "set") (nx_end rfl ?_)))
      · rw [hlw, Bool.and_eq_false_iff]
        by_cases h3 : atM ns (spot + 2 + 2 * j) % 5 < 3
        · exact .inr (decide_eq_false (by omega))
        · exact .inl (decide_eq_false h3)
      · rw [hStep, if_neg hc, if_pos (of_decide_eq_true hb), List.map_append]
        exact .eq (.eq (.eq (.eq (.eq (.eq (.eq (.eq (.eq (.eq (.u (.u (.u (.u .nil)))))))))))))
      · rw [hStep, if_neg hc, if_neg (of_decide_eq_false hb), List.map_append]
        exact .eq (.eq (.eq (.eq (.eq (.eq (.eq (.eq (.eq (.eq (.u (.u (.u (.u .nil)))))))))))))
  · refine r_freeze (n := 9) rfl (by walk_at "set") ?_
    refine r_app (n := 4) (x := eHn (handM ns at_ p k)) rfl (e_as (e_tupS (d_cons (e_ixF (f := .str) (xs := namesM (atM ns at_) 3) (e_var rfl) (e_var rfl) (Int.natCast_nonneg _) (getD_at (d := default) (by rw [Int.toNat_natCast, names_len]; omega))) (d_cons (e_var rfl) (d_cons (e_var rfl) d_nil)))) ?_) ?_ (by walk_at "set") (nx_end rfl ?_)
    · unfold handM eHn
      rw [hsp, Int.toNat_natCast]
    · rw [List.length_map, sizeLine_eq]
      omega
    · rw [List.map_append]
      exact .eq (.eq (.eq (.eq (.eq (.u (.u (.u (.u (.u (.u (.u (.u (.u .nil)))))))))))))
end Ef
/-! The law's own defs. -/
namespace Ef
open PySem PySem.Spec PyProof.Rows L2
local macro_rules | `(tactic| walk_at "set") => `(tactic| (repeat' (first | exact SetAt.z | apply SetAt.s)))
local macro_rules | `(tactic| walk_at "le") => `(tactic| (repeat' (first | exact Le.nil | (with_reducible apply Le.eq) | (with_reducible apply Le.u) | (with_reducible apply Le.as) | rfl)))
local macro_rules | `(tactic| walk_at "ev1") => `(tactic| first
  | exact e_int | exact e_str | exact e_bl | exact e_non
  | exact e_var rfl | exact d_nil | exact a_nil | exact et_yes | exact o_none | exact k_own rfl
  | exact e_lenM rfl
  | ((with_reducible show lenK _ = true); rfl) | ((with_reducible show eqK _ _ = true); rfl) | ((with_reducible show smallL _ = true); rfl)
  | with_reducible apply d_cons | with_reducible apply a_cons | with_reducible apply o_some
  | with_reducible apply e_add | with_reducible apply e_sub | with_reducible apply e_lt | with_reducible apply e_le | with_reducible apply e_gt | with_reducible apply e_ge
  | with_reducible apply e_mul | with_reducible apply e_mod | with_reducible apply e_fdiv
  | with_reducible apply e_eqA | with_reducible apply e_neA
  | with_reducible apply e_isN | with_reducible apply e_notN | with_reducible apply e_notV | with_reducible apply et_test | with_reducible apply et_B | with_reducible apply et_not
  | with_reducible apply et_and2 | with_reducible apply et_or2 | with_reducible apply e_andV2 | with_reducible apply e_orV2
  | with_reducible apply e_tupS | with_reducible apply e_lstS | exact e_dnew
  | with_reducible apply e_lenA
  | (with_reducible apply e_cb (hr := cq_abs)) | (with_reducible apply e_cb (hr := cq_int1)) | (with_reducible apply e_cb (hr := cq_max2)) | (with_reducible apply e_cb (hr := cq_min2))
  | with_reducible apply e_call | with_reducible apply e_meth
  | with_reducible apply e_din | with_reducible apply e_dnotin | with_reducible apply e_dget | with_reducible apply e_dget1 | with_reducible apply e_dget2)
local macro_rules | `(tactic| walk_at "ev") => `(tactic| repeat' (walk_at "ev1"))
variable {P : Program} {w : World} {K : Frag} {mg : Str → Option Value} {base : Heap}
instance : Inhabited Pa := ⟨⟨default, default, 0⟩⟩
section
variable (ns : List Int) (at_ : Nat)
def windsP : List Str := namesM (atM ns at_) (1 + atM ns (at_ + 1) % 3).toNat
def placesP : List Str := namesM (atM ns (at_ + 2)) (2 + atM ns (at_ + 3) % 6).toNat
def lnamesP : List Str := namesM (atM ns (at_ + 4)) 10
def oneI (i : Nat) : Int := atM ns i % ((placesP ns at_).length : Int)
def othI (i j : Nat) : Int := (oneI ns at_ i + 1 + atM ns j % ((placesP ns at_).length - 1 : Int)) % ((placesP ns at_).length : Int)
def plI (i : Int) : Str := (placesP ns at_).getD i.toNat default
def timeP (spot j : Nat) : Option (Int × Int) := if atM ns (spot + 2 + j) % 4 = 0 then none else some (1 + atM ns (spot + 2 + j) % 9, 1 + atM ns (spot + 2 + j) % 9 + atM ns (spot + 5 + j) % 7)
def linkP (k : Nat) : Lk := ⟨(lnamesP ns at_).getD k default, plI ns at_ (oneI ns at_ (at_ + 6 + 8 * k)), plI ns at_ (othI ns at_ (at_ + 6 + 8 * k) (at_ + 6 + 8 * k + 1)), (List.range (windsP ns at_).length).map (timeP ns (at_ + 6 + 8 * k))⟩
def linksP : List Lk := (List.range (atM ns (at_ + 5) % 11).toNat).map (linkP ns at_)
def paP (k : Nat) : Pa := ⟨plI ns at_ (oneI ns at_ (at_ + 89 + 3 * k)), plI ns at_ (othI ns at_ (at_ + 89 + 3 * k) (at_ + 90 + 3 * k)), 1 + atM ns (at_ + 91 + 3 * k) % 9⟩
def knownP (acc : List Pa) : List (Str × Str) := (acc.map fun q => (q.one, q.oth)) ++ acc.map fun q => (q.oth, q.one)
def pathStep (acc : List Pa) (k : Nat) : List Pa := if ((paP ns at_ k).one, (paP ns at_ k).oth) ∈ knownP acc then acc else acc ++ [paP ns at_ k]
def pathsP : List Pa := (List.range (atM ns (at_ + 88) % 7).toNat).foldl (pathStep ns at_) []
def partsM : Pt := ⟨windsP ns at_, placesP ns at_, linksP ns at_, pathsP ns at_⟩
end
section
variable {ns : List Int} {at_ : Nat}
theorem pP_len : 2 ≤ (placesP ns at_).length ∧ (placesP ns at_).length ≤ 7 := by
  unfold placesP
  rw [names_len]
  have h1 : 0 ≤ atM ns (at_ + 3) % 6 := Int.emod_nonneg _ (by decide)
  have h2 : atM ns (at_ + 3) % 6 < 6 := Int.emod_lt_of_pos _ (by decide)
  omega
theorem wP_len : 1 ≤ (windsP ns at_).length ∧ (windsP ns at_).length ≤ 3 := by
  unfold windsP
  rw [names_len]
  have h1 : 0 ≤ atM ns (at_ + 1) % 3 := Int.emod_nonneg _ (by decide)
  have h2 : atM ns (at_ + 1) % 3 < 3 := Int.emod_lt_of_pos _ (by decide)
  omega
theorem oneI_b (i : Nat) : 0 ≤ oneI ns at_ i ∧ oneI ns at_ i < (placesP ns at_).length := by
  have h := @pP_len ns at_
  exact ⟨Int.emod_nonneg _ (by omega), Int.emod_lt_of_pos _ (by omega)⟩
theorem othI_b (i j : Nat) : 0 ≤ othI ns at_ i j ∧ othI ns at_ i j < (placesP ns at_).length := by
  have h := @pP_len ns at_
  exact ⟨Int.emod_nonneg _ (by omega), Int.emod_lt_of_pos _ (by omega)⟩
theorem one_ne_oth (i j : Nat) : oneI ns at_ i ≠ othI ns at_ i j := by
  have h := @pP_len ns at_
  have h1 := oneI_b (ns := ns) (at_ := at_) i
  have r0 : 0 ≤ atM ns j % ((placesP ns at_).length - 1 : Int) := Int.emod_nonneg _ (by omega)
  have r1 : atM ns j % ((placesP ns at_).length - 1 : Int) < ((placesP ns at_).length - 1 : Int) := Int.emod_lt_of_pos _ (by omega)
  unfold othI
  generalize oneI ns at_ i = o at *
  generalize atM ns j % ((placesP ns at_).length - 1 : Int) = r at *
  generalize ((placesP ns at_).length : Int) = n at *
  intro e
  by_cases hc : o + 1 + r < n
  · rw [Int.emod_eq_of_lt (by omega) hc] at e
    omega
  · have e2 : (o + 1 + r) % n = o + 1 + r - n := by
      have : (o + 1 + r) = (o + 1 + r - n) + n := by omega
      rw [this, Int.add_emod_right, Int.emod_eq_of_lt (by omega) (by omega)]
      omega
    rw [e2] at e
    omega
theorem plI_at {i : Int} (h0 : 0 ≤ i) (h1 : i < (placesP ns at_).length) : (placesP ns at_)[i.toNat]? = some (plI ns at_ i) := getD_at (by omega)
theorem plI_mem {i : Int} (h0 : 0 ≤ i) (h1 : i < (placesP ns at_).length) : plI ns at_ i ∈ placesP ns at_ := List.mem_of_getElem? (plI_at h0 h1)
theorem plI_inj {i j : Int} (h0 : 0 ≤ i) (h1 : i < (placesP ns at_).length) (k0 : 0 ≤ j) (k1 : j < (placesP ns at_).length) (e : plI ns at_ i = plI ns at_ j) : i = j := by
  have nd : (placesP ns at_).Nodup := names_nd _ (by
    have h2 : atM ns (at_ + 3) % 6 < 6 := Int.emod_lt_of_pos _ (by decide)
    omega)
  have a := plI_at (ns := ns) (at_ := at_) h0 h1
  have b := plI_at (ns := ns) (at_ := at_) k0 k1
  rw [← e] at b
  obtain ⟨l1, e1⟩ := List.getElem?_eq_some_iff.mp a
  obtain ⟨l2, e2⟩ := List.getElem?_eq_some_iff.mp b
  have := (List.getElem_inj nd (h₀ := l1) (h₁ := l2)).mp (by rw [e1, e2])
  omega
theorem timeP_ok (spot j : Nat) : PairOk (timeP ns spot j) := by
  unfold timeP
  split
  · trivial
  · have a1 : 0 ≤ atM ns (spot + 2 + j) % 9 := Int.emod_nonneg _ (by decide)
    have a2 : atM ns (spot + 2 + j) % 9 < 9 := Int.emod_lt_of_pos _ (by decide)
    have b1 : 0 ≤ atM ns (spot + 5 + j) % 7 := Int.emod_nonneg _ (by decide)
    have b2 : atM ns (spot + 5 + j) % 7 < 7 := Int.emod_lt_of_pos _ (by decide)
    show 1 ≤ 1 + _ ∧ 1 + _ ≤ 1 + _ + _ ∧ 1 + _ + _ ≤ 1000
    omega
theorem paP_ok (k : Nat) : PaOk (placesP ns at_) (paP ns at_ k) := by
  have a1 : 0 ≤ atM ns (at_ + 91 + 3 * k) % 9 := Int.emod_nonneg _ (by decide)
  have a2 : atM ns (at_ + 91 + 3 * k) % 9 < 9 := Int.emod_lt_of_pos _ (by decide)
  have h1 := oneI_b (ns := ns) (at_ := at_) (at_ + 89 + 3 * k)
  have h2 := othI_b (ns := ns) (at_ := at_) (at_ + 89 + 3 * k) (at_ + 90 + 3 * k)
  refine ⟨plI_mem h1.1 h1.2, plI_mem h2.1 h2.2, fun e => one_ne_oth _ _ (plI_inj h1.1 h1.2 h2.1 h2.2 e), ?_, ?_⟩
  · show 1 ≤ 1 + _; omega
  · show 1 + _ ≤ 1000; omega
theorem paths_inv : ∀ (l : List Nat) (acc : List Pa), (∀ q ∈ acc, PaOk (placesP ns at_) q) → acc.Pairwise (fun a b => (a.one, a.oth) ≠ (b.one, b.oth) ∧ (a.one, a.oth) ≠ (b.oth, b.one)) →
    (∀ q ∈ l.foldl (pathStep ns at_) acc, PaOk (placesP ns at_) q) ∧ (l.foldl (pathStep ns at_) acc).Pairwise (fun a b => (a.one, a.oth) ≠ (b.one, b.oth) ∧ (a.one, a.oth) ≠ (b.oth, b.one)) ∧ (l.foldl (pathStep ns at_) acc).length ≤ acc.length + l.length
  | [], acc, h1, h2 => ⟨h1, h2, Nat.le_refl _⟩
  | k :: l, acc, h1, h2 => by
    rw [List.foldl_cons]
    have step : (∀ q ∈ pathStep ns at_ acc k, PaOk (placesP ns at_) q) ∧ (pathStep ns at_ acc k).Pairwise (fun a b => (a.one, a.oth) ≠ (b.one, b.oth) ∧ (a.one, a.oth) ≠ (b.oth, b.one)) ∧ (pathStep ns at_ acc k).length ≤ acc.length + 1 := by
      unfold pathStep
      split
      · exact ⟨h1, h2, Nat.le_succ _⟩
      · rename_i hn
        refine ⟨fun q hq => ?_, List.pairwise_append.mpr ⟨h2, List.pairwise_singleton _ _, fun a ha b hb => ?_⟩, by rw [List.length_append]; exact Nat.le_refl _⟩
        · rcases List.mem_append.mp hq with hq | hq
          · exact h1 q hq
          · rw [List.mem_singleton.mp hq]
            exact paP_ok k
        · rw [List.mem_singleton.mp hb]
          refine ⟨fun e => hn ?_, fun e => hn ?_⟩
          · rw [← e]
            exact List.mem_append_left _ (List.mem_map_of_mem (f := fun q : Pa => (q.one, q.oth)) ha)
          · have e' : ((paP ns at_ k).one, (paP ns at_ k).oth) = (a.oth, a.one) := by
              simp only [Prod.mk.injEq] at e ⊢
              exact ⟨e.2.symm, e.1.symm⟩
            rw [e']
            exact List.mem_append_right _ (List.mem_map_of_mem (f := fun q : Pa => (q.oth, q.one)) ha)
    obtain ⟨k1, k2, k3⟩ := paths_inv l _ step.1 step.2.1
    have := step.2.2
    exact ⟨k1, k2, by rw [List.length_cons]; omega⟩
theorem m11n : 0 ≤ atM ns (at_ + 5) % 11 ∧ atM ns (at_ + 5) % 11 < 11 := ⟨Int.emod_nonneg _ (by decide), Int.emod_lt_of_pos _ (by decide)⟩
theorem m7n : 0 ≤ atM ns (at_ + 88) % 7 ∧ atM ns (at_ + 88) % 7 < 7 := ⟨Int.emod_nonneg _ (by decide), Int.emod_lt_of_pos _ (by decide)⟩
theorem parts_ok : PtOk (partsM ns at_) := by
  have hw := @wP_len ns at_
  have hp := @pP_len ns at_
  have h11 := @m11n ns at_
  have h7 := @m7n ns at_
  have hl : (linksP ns at_).length ≤ 10 := by
    unfold linksP
    rw [List.length_map, List.length_range]
    omega
  obtain ⟨p1, p2, p3⟩ := paths_inv (ns := ns) (at_ := at_) (List.range (atM ns (at_ + 88) % 7).toNat) [] (fun q hq => by cases hq) List.Pairwise.nil
  have nn : ∀ {n : Int} {m : Nat}, m ≤ 26 → (namesM n m).Nodup := fun h => names_nd _ h
  refine ⟨names_ok _ _, ⟨hw.1, by show (windsP ns at_).length ≤ 4; omega⟩, nn ?_, names_ok _ _, ⟨hp.1, by show (placesP ns at_).length ≤ 24; omega⟩, nn ?_, by show (linksP ns at_).length ≤ 60; omega, fun l hl => ?_, ?_, ?_, p1, p2⟩
  · have := hw.2
    unfold windsP at this
    rw [names_len] at this
    omega
  · have := hp.2
    unfold placesP at this
    rw [names_len] at this
    omega
  · obtain ⟨k, hk, rfl⟩ := List.mem_map.mp hl
    have hk := List.mem_range.mp hk
    have h1 := oneI_b (ns := ns) (at_ := at_) (at_ + 6 + 8 * k)
    have h2 := othI_b (ns := ns) (at_ := at_) (at_ + 6 + 8 * k) (at_ + 6 + 8 * k + 1)
    have hln : (lnamesP ns at_).length = 10 := names_len _ _
    refine ⟨names_ok _ _ _ (List.mem_of_getElem? (getD_at (xs := lnamesP ns at_) (i := k) (d := default) (by omega))), plI_mem h1.1 h1.2, plI_mem h2.1 h2.2, fun e => one_ne_oth _ _ (plI_inj h1.1 h1.2 h2.1 h2.2 e), ?_, fun t ht => ?_⟩
    · show ((List.range (windsP ns at_).length).map _).length = (windsP ns at_).length
      rw [List.length_map, List.length_range]
    · obtain ⟨j, _, rfl⟩ := List.mem_map.mp ht
      exact timeP_ok _ _
  · have : (partsM ns at_).links.map (·.nm) = (lnamesP ns at_).take (atM ns (at_ + 5) % 11).toNat := by
      show ((List.range (atM ns (at_ + 5) % 11).toNat).map (linkP ns at_)).map (·.nm) = _
      rw [List.map_map]
      have hln : (lnamesP ns at_).length = 10 := by rw [lnamesP, names_len]
      refine List.ext_getElem? fun i => ?_
      rw [List.getElem?_map]
      by_cases hi : i < (atM ns (at_ + 5) % 11).toNat
      · rw [List.getElem?_range hi, List.getElem?_take_of_lt hi, getD_at (d := default) (by omega)]
        rfl
      · rw [List.getElem?_eq_none (by rw [List.length_range]; omega), List.getElem?_eq_none (by rw [List.length_take]; omega)]
        rfl
    rw [this]
    exact List.Pairwise.sublist (List.take_sublist _ _) (nn (by omega))
  · show (pathsP ns at_).length ≤ 60
    unfold pathsP
    rw [List.length_range] at p3
    simp only [List.length_nil] at p3
    omega
end
end Ef
/-! The plain law: fires of greater numbers burn no earlier; rounds reach Dijkstra's minutes. -/
namespace Ef
open PySem PySem.Spec PyProof.Rows L2
/-! ### a fire through a link is never earlier for a later minute -/
theorem min_le {xs : List Int} {x : Int} (h : x ∈ xs) : ∃ m, minO xs = some m ∧ m ≤ x := by
  cases hm : minO xs with
  | none => rw [minO_none.mp hm] at h; cases h
  | some m => exact ⟨m, rfl, (minO_spec hm).2 x h⟩
theorem bef_mem {W : We} {m : Int} {c : Str} (h : c ∈ bef W m) : ∃ q ∈ W, q.1 ≤ m ∧ q.2 = c := by
  unfold bef at h
  obtain ⟨q, hq, e⟩ := List.mem_map.mp h
  obtain ⟨h1, h2⟩ := List.mem_filter.mp hq
  exact ⟨q, h1, of_decide_eq_true h2, e⟩
/-- what is known at m of the wind at n -/
theorem blow_split : ∀ {W : We}, W.Pairwise (fun a b => a.1 < b.1) → ∀ {m n : Int}, m ≤ n → bef W m = bef W n ∨ ∃ q ∈ W, m < q.1 ∧ q.1 ≤ n ∧ bef W q.1 = bef W n
  | [], _, m, n, _ => .inl rfl
  | q :: W, hp, m, n, h => by
    obtain ⟨h1, h2⟩ := List.pairwise_cons.mp hp
    have cons_yes : ∀ {k : Int}, q.1 ≤ k → bef (q :: W) k = q.2 :: bef W k := fun hk => by
      unfold bef
      rw [List.filter_cons, if_pos (decide_eq_true hk), List.map_cons]
    have cons_no : ∀ {k : Int}, ¬ q.1 ≤ k → bef (q :: W) k = [] := fun {k} hk => by
      unfold bef
      rw [List.filter_cons, if_neg (by simpa using hk), List.filter_eq_nil_iff.mpr, List.map_nil]
      intro a ha
      have := h1 a ha
      simp only [decide_eq_true_eq]
      omega
    by_cases hn : q.1 ≤ n
    · by_cases hm : q.1 ≤ m
      · rcases blow_split h2 h with e | ⟨a, ha, k1, k2, k3⟩
        · left
          rw [cons_yes hm, cons_yes hn, e]
        · refine .inr ⟨a, List.mem_cons_of_mem _ ha, k1, k2, ?_⟩
          rw [cons_yes (Int.le_of_lt (h1 a ha)), cons_yes hn, k3]
      · rcases blow_split h2 hn with e | ⟨a, ha, k1, k2, k3⟩
        · refine .inr ⟨q, List.mem_cons_self, by omega, hn, ?_⟩
          rw [cons_yes (Int.le_refl _), cons_yes hn, e]
        · refine .inr ⟨a, List.mem_cons_of_mem _ ha, by omega, k2, ?_⟩
          rw [cons_yes (Int.le_of_lt (h1 a ha)), cons_yes hn, k3]
    · left
      rw [cons_no hn, cons_no (by omega)]
/-- numbers not below -/
def RowLe (row row' : List (Option Int)) : Prop := ∀ k n', numAt row' k = some n' → ∃ n, n ≤ n' ∧ numAt row k = some n
theorem ends_mem {ws : List Str} {W : We} {row : List (Option Int)} {m e : Int} : e ∈ endsM ws W row m ↔ ∃ s ∈ chanM W m, ∃ n, numAt row (idxM ws (blowM W s)) = some n ∧ e = s + n := by
  unfold endsM
  rw [List.mem_filterMap]
  constructor
  · rintro ⟨s, hs, h⟩
    cases hn : numAt row (idxM ws (blowM W s)) with
    | none => rw [hn] at h; cases h
    | some n =>
      rw [hn] at h
      exact ⟨s, hs, n, hn, (Option.some.inj h).symm⟩
  · rintro ⟨s, hs, n, hn, rfl⟩
    exact ⟨s, hs, by rw [hn]; rfl⟩
theorem caught_le {ws : List Str} {W : We} (hW : WOk ws W) {row row' : List (Option Int)} (hr : RowLe row row') {m m' e' : Int} (hm : m ≤ m') (h : caughtM ws W row' m' = some e') : ∃ e, e ≤ e' ∧ caughtM ws W row m = some e := by
  obtain ⟨s', hs', n', hn', rfl⟩ := ends_mem.mp (minO_spec h).1
  have key : ∃ s ∈ chanM W m, s ≤ s' ∧ blowM W s = blowM W s' := by
    rcases List.mem_cons.mp hs' with rfl | hs
    · rcases blow_split hW.asc hm with e | ⟨q, hq, k1, k2, k3⟩
      · exact ⟨m, List.mem_cons_self, hm, by unfold blowM; rw [e]⟩
      · exact ⟨q.1, List.mem_cons_of_mem _ (List.mem_map.mpr ⟨q, List.mem_filter.mpr ⟨hq, decide_eq_true k1⟩, rfl⟩), k2, by unfold blowM; rw [k3]⟩
    · obtain ⟨q, hq, rfl⟩ := List.mem_map.mp hs
      obtain ⟨h1, h2⟩ := List.mem_filter.mp hq
      have h2 := of_decide_eq_true h2
      exact ⟨q.1, List.mem_cons_of_mem _ (List.mem_map.mpr ⟨q, List.mem_filter.mpr ⟨h1, decide_eq_true (by omega)⟩, rfl⟩), Int.le_refl _, rfl⟩
  obtain ⟨s, hs, hle, hb⟩ := key
  obtain ⟨n, hn, hn2⟩ := hr _ _ hn'
  rw [← hb] at hn2
  obtain ⟨e, he, hl⟩ := min_le (ends_mem.mpr ⟨s, hs, n, hn2, rfl⟩)
  exact ⟨e, by omega, he⟩
/-! ### rounds only lower -/
theorem alive_none {b : Ro} {x : Str} {m : Int} (h : valG b x = none) : alive b x m = true := by unfold alive; rw [h]
theorem alive_some {b : Ro} {x : Str} {m t : Int} (h : valG b x = some t) : alive b x m = decide (m < t) := by unfold alive; rw [h]
theorem lower_by {b : Ro} {x : Str} {m : Int} : By (lowerG b x m) x m := by
  unfold lowerG
  split
  · exact ⟨m, Int.le_refl _, by rw [valG_put, if_pos rfl]⟩
  · rename_i h
    cases hv : valG b x with
    | none => exact absurd (alive_none hv) h
    | some t =>
      rw [alive_some hv, decide_eq_true_eq] at h
      exact ⟨t, by omega, hv⟩
theorem lower_keep {b : Ro} {x y : Str} {m t : Int} (h : By b y t) : By (lowerG b x m) y t := by
  unfold lowerG
  split
  · rename_i hc
    obtain ⟨u, hu, hv⟩ := h
    by_cases e : x = y
    · subst e
      rw [alive_some hv, decide_eq_true_eq] at hc
      exact ⟨m, by omega, by rw [valG_put, if_pos rfl]⟩
    · exact ⟨u, hu, by rw [valG_put, if_neg e]; exact hv⟩
  · exact h
theorem lower_val {b : Ro} {x y : Str} {m t : Int} (h : valG (lowerG b x m) y = some t) : valG b y = some t ∨ (x = y ∧ m = t) := by
  unfold lowerG at h
  split at h
  · rw [valG_put] at h
    split at h
    · rename_i e
      exact .inr ⟨e, Option.some.inj h⟩
    · exact .inl h
  · exact .inl h
theorem start_eq (ends b : Ro) (q : Str × Int) : startStep ends b q = if alive ends q.1 q.2 = true then lowerG b q.1 q.2 else b := by
  unfold startStep lowerG
  cases alive ends q.1 q.2 <;> simp
theorem link_keep {ws : List Str} {W : We} {ends b : Ro} {l : Lk} {y : Str} {t : Int} (h : By b y t) : By (linkS ws W ends b l) y t := by
  unfold linkS
  cases valG b l.one with
  | none => exact h
  | some u =>
    show By (linkO ends l.oth b (caughtM ws W (leastRow l) u)) y t
    cases caughtM ws W (leastRow l) u with
    | none => exact h
    | some e =>
      show By (if alive ends l.oth e = true then lowerG b l.oth e else b) y t
      split
      · exact lower_keep h
      · exact h
theorem links_keep {ws : List Str} {W : We} {ends : Ro} {y : Str} {t : Int} : ∀ (l : List Lk) (b : Ro), By b y t → By (l.foldl (linkS ws W ends) b) y t
  | [], _, h => h
  | a :: l, b, h => links_keep l _ (link_keep h)
theorem rounds_keep {p : Pt} {W : We} {ends : Ro} {y : Str} {t : Int} : ∀ (l : List Nat) (b : Ro), By b y t → By (l.foldl (fun b _ => roundS p W ends b) b) y t
  | [], _, h => h
  | a :: l, b, h => rounds_keep l _ (links_keep _ _ h)
theorem starts_keep {ends : Ro} {y : Str} {t : Int} : ∀ (l : Ro) (b : Ro), By b y t → By (l.foldl (startStep ends) b) y t
  | [], _, h => h
  | a :: l, b, h => by
    refine starts_keep l _ ?_
    rw [start_eq]
    split
    · exact lower_keep h
    · exact h
theorem starts_by {ends : Ro} : ∀ (l : Ro) (b : Ro), ∀ q ∈ l, alive ends q.1 q.2 = true → By (l.foldl (startStep ends) b) q.1 q.2
  | [], _, q, h, _ => by cases h
  | a :: l, b, q, h, ha => by
    rcases List.mem_cons.mp h with rfl | h
    · refine starts_keep l _ ?_
      rw [start_eq, if_pos ha]
      exact lower_by
    · exact starts_by l _ q h ha
/-! ### nothing earlier than D -/
def Lb (D b : Ro) : Prop := ∀ x t, valG b x = some t → By D x t
section
variable {ps ws : List Str} {W : We} {ends starts D : Ro} {lrs : List LR}
theorem lower_lb {b : Ro} {x : Str} {m : Int} (h : Lb D b) (hx : By D x m) : Lb D (lowerG b x m) := fun y t hv => by
  rcases lower_val hv with hv | ⟨rfl, rfl⟩
  · exact h y t hv
  · exact hx
theorem starts_lb (hD : FireSpec ps ws W ends starts lrs D) : ∀ (l : Ro) (b : Ro), (∀ q ∈ l, q ∈ starts) → Lb D b → Lb D (l.foldl (startStep ends) b)
  | [], _, _, h => h
  | a :: l, b, hl, h => by
    refine starts_lb hD l _ (fun q hq => hl q (List.mem_cons_of_mem _ hq)) ?_
    rw [start_eq]
    split
    · rename_i hc
      exact lower_lb h (hD.cs a (hl a List.mem_cons_self) hc)
    · exact h
/-- the links of a fire with numbers not below those of lrs -/
def LksOk (lrs : List LR) (ls : List Lk) : Prop := ∀ l ∈ ls, ∃ lr ∈ lrs, lr.1.one = l.one ∧ lr.1.oth = l.oth ∧ RowLe lr.2 (leastRow l)
theorem link_lb (hW : WOk ws W) (hD : FireSpec ps ws W ends starts lrs D) {b : Ro} {l : Lk} (hl : ∃ lr ∈ lrs, lr.1.one = l.one ∧ lr.1.oth = l.oth ∧ RowLe lr.2 (leastRow l)) (h : Lb D b) : Lb D (linkS ws W ends b l) := by
  unfold linkS
  cases hv : valG b l.one with
  | none => exact h
  | some t =>
    show Lb D (linkO ends l.oth b (caughtM ws W (leastRow l) t))
    cases hc : caughtM ws W (leastRow l) t with
    | none => exact h
    | some e' =>
      show Lb D (if alive ends l.oth e' = true then lowerG b l.oth e' else b)
      split
      · rename_i ha
        obtain ⟨lr, hlr, e1, e2, hr⟩ := hl
        obtain ⟨u, hu, hvu⟩ := h _ _ hv
        obtain ⟨e, he, hce⟩ := caught_le hW hr hu hc
        refine lower_lb h ?_
        have k := hD.cl (l.one, u) (valG_mem hvu) lr hlr e1 e hce (by rw [e2]; exact alive_le ha he)
        rw [e2] at k
        exact k.trans he
      · exact h
theorem links_lb (hW : WOk ws W) (hD : FireSpec ps ws W ends starts lrs D) : ∀ (ls : List Lk) (b : Ro), LksOk lrs ls → Lb D b → Lb D (ls.foldl (linkS ws W ends) b)
  | [], _, _, h => h
  | a :: ls, b, hl, h => links_lb hW hD ls _ (fun l hm => hl l (List.mem_cons_of_mem _ hm)) (link_lb hW hD (hl a List.mem_cons_self) h)
theorem rounds_lb {p : Pt} (hW : WOk p.winds W) (hD : FireSpec ps p.winds W ends starts lrs D) (hl : LksOk lrs p.links) : ∀ (l : List Nat) (b : Ro), Lb D b → Lb D (l.foldl (fun b _ => roundS p W ends b) b)
  | [], _, h => h
  | a :: l, b, h => rounds_lb hW hD hl l _ (links_lb hW hD _ _ hl h)
/-! ### each round settles one more -/
def Ub (D : Ro) (n : Nat) (b : Ro) : Prop := ∀ i q, i < n → D[i]? = some q → By b q.1 q.2
theorem val_of (hD : FireSpec ps ws W ends starts lrs D) {b : Ro} (hb : Lb D b) {q : Str × Int} (hq : q ∈ D) (h : By b q.1 q.2) : valG b q.1 = some q.2 := by
  obtain ⟨u, hu, hv⟩ := h
  obtain ⟨v, hv1, hv2⟩ := hb _ _ hv
  have e := mem_valG hD.kf.nd (s := q.1) (d := q.2) hq
  rw [e] at hv2
  cases hv2
  rw [hv, show u = q.2 by omega]
theorem links_ub {p : Pt} (hW : WOk p.winds W) (hD : FireSpec ps p.winds W ends starts lrs D) (hl : LksOk lrs p.links) {a : Str × Int} (ha : a ∈ D) {t : Int} {l : Lk} (hone : l.one = a.1) (hc : caughtM p.winds W (leastRow l) a.2 = some t) (hal : alive ends l.oth t = true) :
    ∀ (ls : List Lk) (b : Ro), LksOk lrs ls → l ∈ ls → Lb D b → By b a.1 a.2 → By (ls.foldl (linkS p.winds W ends) b) l.oth t
  | [], _, _, h, _, _ => by cases h
  | c :: ls, b, hls, h, hb, hy => by
    rcases List.mem_cons.mp h with rfl | h
    · refine links_keep ls _ ?_
      unfold linkS
      rw [hone, val_of hD hb ha hy]
      show By (linkO ends l.oth b (caughtM p.winds W (leastRow l) a.2)) l.oth t
      rw [hc]
      show By (if alive ends l.oth t = true then lowerG b l.oth t else b) l.oth t
      rw [if_pos hal]
      exact lower_by
    · exact links_ub hW hD hl ha hone hc hal ls _ (fun x hx => hls x (List.mem_cons_of_mem _ hx)) h (link_lb hW hD (hls c List.mem_cons_self) hb) (link_keep hy)
theorem rounds_ub {p : Pt} (hW : WOk p.winds W) (hD : FireSpec ps p.winds W ends starts lrs D) (hl : LksOk lrs p.links) (hlr : ∀ lr ∈ lrs, ∃ l ∈ p.links, l.one = lr.1.one ∧ l.oth = lr.1.oth ∧ leastRow l = lr.2) :
    ∀ (l : List Nat) (n : Nat) (b : Ro), Lb D b → (∀ q ∈ starts, alive ends q.1 q.2 = true → By b q.1 q.2) → Ub D n b → Ub D (n + l.length) (l.foldl (fun b _ => roundS p W ends b) b)
  | [], n, b, _, _, h => h
  | a :: l, n, b, hb, hs, h => by
    rw [List.length_cons, show n + (l.length + 1) = (n + 1) + l.length by omega, List.foldl_cons]
    refine rounds_ub hW hD hl hlr l (n + 1) _ (links_lb hW hD _ _ hl hb) (fun q hq ha => links_keep _ _ (hs q hq ha)) ?_
    intro i q hi hq
    by_cases hin : i < n
    · exact links_keep _ _ (h i q hin hq)
    · have : i = n := by omega
      subst this
      obtain ⟨hal, hfrom⟩ := hD.just i q hq
      rcases hfrom with hst | ⟨a, ha, lr, hlrm, e1, e2, hc⟩
      · exact links_keep _ _ (hs q hst hal)
      · obtain ⟨k, hk⟩ := List.mem_iff_getElem?.mp ha
        have hki : k < i := by
          have := (List.getElem?_eq_some_iff.mp hk).1
          rw [List.length_take] at this
          omega
        rw [List.getElem?_take_of_lt hki] at hk
        obtain ⟨lk, hlk, f1, f2, f3⟩ := hlr lr hlrm
        have r := links_ub hW hD hl (List.mem_of_getElem? hk) (t := q.2) (l := lk) (f1.trans e1) (by rw [f3]; exact hc) (by rw [f2, e2]; exact hal) p.links b hl hlk hb (h k a hki hk)
        rw [f2, e2] at r
        exact r
end
/-! ### the fires -/
theorem numAt_none {row : List (Option Int)} : RowLe row row := fun k n h => ⟨n, Int.le_refl _, h⟩
theorem leastRow_at (l : Lk) (k : Nat) : numAt (leastRow l) k = ((l.ts[k]?).join).map (·.1) := by
  unfold numAt leastRow
  rw [List.getElem?_map]
  cases l.ts[k]? with
  | none => rfl
  | some t => cases t <;> rfl
theorem fast_spec {p : Pt} {W : We} {s b : Ro} (h : FireIn p W s b) : FireSpec p.places p.winds W (leastM b) s (p.links.zip (leastRows p)) (fastM p W s b) :=
  spread_end (lrOk_of h.pt (rowsOk_least h.pt)) p.places.length _ _ (start_inv h.st) (by rw [List.length_nil, Nat.zero_add])
theorem lrs_mem {p : Pt} {lr : LR} (h : lr ∈ p.links.zip (leastRows p)) : lr.1 ∈ p.links ∧ lr.2 = leastRow lr.1 := by
  unfold leastRows at h
  rw [List.zip_map_right, zip_self, List.map_map] at h
  obtain ⟨l, hl, rfl⟩ := List.mem_map.mp h
  exact ⟨hl, rfl⟩
theorem lrs_of {p : Pt} {l : Lk} (h : l ∈ p.links) : (l, leastRow l) ∈ p.links.zip (leastRows p) := by
  unfold leastRows
  rw [List.zip_map_right, zip_self, List.map_map]
  exact List.mem_map.mpr ⟨l, h, rfl⟩
/-- the fire of the least numbers, by rounds -/
theorem fire_fast {p : Pt} {W : We} {s b : Ro} (h : FireIn p W s b) (x : Str) : valG (fireM p W s b) x = valG (fastM p W s b) x := by
  have hD := fast_spec h
  have hl : LksOk (p.links.zip (leastRows p)) p.links := fun l hm => ⟨_, lrs_of hm, rfl, rfl, numAt_none⟩
  have hlr : ∀ lr ∈ p.links.zip (leastRows p), ∃ l ∈ p.links, l.one = lr.1.one ∧ l.oth = lr.1.oth ∧ leastRow l = lr.2 := fun lr hm => ⟨lr.1, (lrs_mem hm).1, rfl, rfl, (lrs_mem hm).2.symm⟩
  have b0 : Lb (fastM p W s b) (s.foldl (startStep (leastM b)) []) := starts_lb hD s [] (fun q hq => hq) (fun x t hv => by cases hv)
  have lb : Lb (fastM p W s b) (fireM p W s b) := rounds_lb h.we hD hl _ _ b0
  have ub := rounds_ub h.we hD hl hlr (List.range (p.places.length + 1)) 0 (s.foldl (startStep (leastM b)) []) b0 (fun q hq ha => starts_by s [] q hq ha) (fun i q hi _ => absurd hi (Nat.not_lt_zero _))
  cases hv : valG (fastM p W s b) x with
  | none =>
    cases hf : valG (fireM p W s b) x with
    | none => rfl
    | some t =>
      obtain ⟨u, _, hu⟩ := lb _ _ hf
      rw [hv] at hu
      cases hu
  | some t =>
    have hm := valG_mem hv
    obtain ⟨i, hi⟩ := List.mem_iff_getElem?.mp hm
    have hil : i < 0 + (List.range (p.places.length + 1)).length := by
      have h1 := (List.getElem?_eq_some_iff.mp hi).1
      have h2 := hD.kf.len
      rw [List.length_range]
      omega
    exact val_of hD lb hm (ub i _ hil hi)
/-- any fire within the bounds burns nothing earlier -/
theorem fire_any {p : Pt} {W : We} {s b : Ro} (h : FireIn p W s b) {ns : List Int} {at_ : Nat} {x : Str} {t : Int} (hv : valG (fireM (anyPt ns at_ p) W s b) x = some t) : By (fastM p W s b) x t := by
  have hD := fast_spec h
  have hl : LksOk (p.links.zip (leastRows p)) (anyPt ns at_ p).links := fun l hm => by
    obtain ⟨k, hk, rfl⟩ := List.mem_map.mp hm
    have hk := List.mem_range.mp hk
    have hat := getD_at (d := (default : Lk)) hk
    refine ⟨_, lrs_of (List.mem_of_getElem? hat), rfl, rfl, ?_⟩
    have hlo := h.pt.lo _ (List.mem_of_getElem? hat)
    generalize p.links.getD k default = l at hat hlo ⊢
    intro j n' hn'
    rw [leastRow_at] at hn' ⊢
    have hts : (anyLk ns at_ k l).ts[j]? = if j < l.ts.length then some (anyT ns at_ k j (l.ts.getD j none)) else none := by
      show ((List.range l.ts.length).map fun j => anyT ns at_ k j (l.ts.getD j none))[j]? = _
      rw [List.getElem?_map]
      split
      · rename_i hj
        rw [List.getElem?_range hj]
        rfl
      · rename_i hj
        rw [List.getElem?_eq_none (by rw [List.length_range]; omega)]
        rfl
    rw [hts] at hn'
    split at hn'
    · rename_i hj
      have hjt := getD_at (d := none) hj
      rw [hjt]
      generalize l.ts.getD j none = t at hn' hjt ⊢
      have hok := hlo.2.2.2.2.2 t (List.mem_of_getElem? hjt)
      cases t with
      | none => cases hn'
      | some q =>
        obtain ⟨q1, q2, q3⟩ : 1 ≤ q.1 ∧ q.1 ≤ q.2 ∧ q.2 ≤ 1000 := hok
        have e := Option.some.inj hn'
        refine ⟨q.1, ?_, rfl⟩
        rw [← e]
        have := Int.emod_nonneg (atM ns (at_ + k) + 5 * (j : Int)) (b := q.2 - q.1 + 1) (by omega)
        show q.1 ≤ q.1 + (atM ns (at_ + k) + 5 * (j : Int)) % (q.2 - q.1 + 1)
        omega
    · cases hn'
  have b0 : Lb (fastM p W s b) (s.foldl (startStep (leastM b)) []) := starts_lb hD s [] (fun q hq => hq) (fun x t hv => by cases hv)
  exact rounds_lb (p := anyPt ns at_ p) h.we hD hl (List.range (p.places.length + 1)) _ b0 x t hv
/-! ### whom a fire meets -/
theorem met_congr {f g : Ro} (h : ∀ x, valG f x = valG g x) (q : R4) : metM f q = metM g q := by unfold metM; rw [h]
theorem met_any {f D : Ro} (h : Lb D f) {q : R4} {r : R3} (hm : metM f q = some r) : ∃ r', metM D q = some r' ∧ r'.1 = r.1 ∧ r'.2.1 = r.2.1 ∧ r'.2.2 ≤ r.2.2 := by
  unfold metM at hm ⊢
  cases hv : valG f q.2.1 with
  | none => rw [hv] at hm; cases hm
  | some t =>
    rw [hv] at hm
    obtain ⟨u, hu, hvu⟩ := h _ _ hv
    rw [hvu]
    simp only at hm ⊢
    split at hm
    · rename_i hd
      cases hm
      have hd' : dangerM q.2.2.1 q.2.2.2 (some u) = true := by
        unfold dangerM at hd ⊢
        simp only at hd ⊢
        rw [Bool.or_eq_true, decide_eq_true_eq] at hd ⊢
        rcases hd with hd | hd
        · left; omega
        · right
          cases hu2 : q.2.2.2 with
          | none => rfl
          | some v =>
            rw [hu2] at hd
            simp only [decide_eq_true_eq] at hd ⊢
            omega
      rw [if_pos hd']
      refine ⟨_, rfl, rfl, rfl, ?_⟩
      show mx q.2.2.1 u ≤ mx q.2.2.1 t
      unfold mx
      split <;> split <;> omega
    · cases hm
section
variable {p : Pt} {W : We} {s : Ro} {hs : List Hn} {ns : List Int} {at_ : Nat}
/-- dangers are the stays that the fire of the least numbers meets -/
theorem dangers_eq (h : AskIn p W s hs) : (staysM p hs).filterMap (metM (fireM p W s (breaksM p hs))) = dangersM p W s hs := by
  unfold dangersM
  congr 1
  funext q
  exact met_congr (fire_fast h.fire) q
/-- whom the drawn fire meets, dangers tells, at no later minute -/
theorem met_told (h : AskIn p W s hs) : ∀ r ∈ (staysM p hs).filterMap (metM (fireM (anyPt ns at_ p) W s (breaksM p hs))), ∃ r' ∈ dangersM p W s hs, r'.1 = r.1 ∧ r'.2.1 = r.2.1 ∧ r'.2.2 ≤ r.2.2 := fun r hr => by
  obtain ⟨q, hq, hm⟩ := List.mem_filterMap.mp hr
  obtain ⟨r', hr', e⟩ := met_any (fun x t hv => fire_any h.fire hv) hm
  exact ⟨r', List.mem_filterMap.mpr ⟨q, hq, hr'⟩, e⟩
theorem safe_none (h : AskIn p W s hs) (he : (dangersM p W s hs).isEmpty = true) : (staysM p hs).filterMap (metM (fireM (anyPt ns at_ p) W s (breaksM p hs))) = [] := by
  cases hc : (staysM p hs).filterMap (metM (fireM (anyPt ns at_ p) W s (breaksM p hs))) with
  | nil => rfl
  | cons r l =>
    obtain ⟨r', hr', _⟩ := met_told (ns := ns) (at_ := at_) h r (by rw [hc]; exact List.mem_cons_self)
    rw [List.isEmpty_iff.mp he] at hr'
    cases hr'
theorem kept_not (h : AskIn p W s hs) {x : Str} {t : Int} (hv : valG (fireM (anyPt ns at_ p) W s (breaksM p hs)) x = some t) : keepsM p W s hs x = false := by
  obtain ⟨u, _, hu⟩ := fire_any h.fire hv
  unfold keepsM
  rw [hu]
  simp
end
end Ef
/-! What is drawn is as it must be: weathers, starts, hands. -/
namespace Ef
open PySem PySem.Spec PyProof.Rows L2
section
variable {ns : List Int} {at_ : Nat} {p : Pt}
theorem wi_mem (h : 0 < p.winds.length) (i : Int) : wiAt p i ∈ p.winds := List.mem_of_getElem? (wi_at h i)
theorem weather_inv (hp : 0 < p.winds.length) : ∀ (n : Nat) (acc : We), acc = (List.range n).foldl (wStep ns at_ p) [(0, wiAt p (atM ns at_))] →
    (∃ w r, acc = (0, w) :: r) ∧ acc.length = n + 1 ∧ (∀ q ∈ acc, q.2 ∈ p.winds) ∧ acc.Pairwise (fun a b => a.1 < b.1) ∧ (∀ q ∈ acc, q.1 ≤ (acc.getD n default).1) ∧ (acc.getD n default).1 ≤ 12 * (n : Int)
  | 0, acc, e => by
    subst e
    refine ⟨⟨_, _, rfl⟩, rfl, fun q hq => ?_, List.pairwise_singleton _ _, fun q hq => ?_, Int.le_refl _⟩
    · rw [List.mem_singleton.mp hq]
      exact wi_mem hp _
    · rw [List.mem_singleton.mp hq]
      exact Int.le_refl _
  | n + 1, acc, e => by
    obtain ⟨⟨w, r, h1⟩, h2, h3, h4, h5, h6⟩ := weather_inv hp n _ rfl
    rw [List.range_succ, List.foldl_append] at e
    generalize (List.range n).foldl (wStep ns at_ p) [(0, wiAt p (atM ns at_))] = b at *
    have e : acc = wStep ns at_ p b n := e
    unfold wStep at e
    generalize hz : (b.getD n default).1 + 1 + atM ns (at_ + 2 + n) % 12 = z at e
    have m1 : 0 ≤ atM ns (at_ + 2 + n) % 12 := Int.emod_nonneg _ (by decide)
    have m2 : atM ns (at_ + 2 + n) % 12 < 12 := Int.emod_lt_of_pos _ (by decide)
    have hg : acc.getD (n + 1) default = (z, wiAt p (atM ns (at_ + 5 + n))) := by
      rw [e, List.getD_eq_getElem?_getD, List.getElem?_append_right (by omega), h2]
      simp
    subst e
    refine ⟨⟨w, _, by rw [h1]; rfl⟩, by rw [List.length_append, h2]; rfl, fun q hq => ?_, ?_, fun q hq => ?_, ?_⟩
    · rcases List.mem_append.mp hq with hq | hq
      · exact h3 q hq
      · rw [List.mem_singleton.mp hq]
        exact wi_mem hp _
    · rw [List.pairwise_append]
      refine ⟨h4, List.pairwise_singleton _ _, fun a ha c hc => ?_⟩
      rw [List.mem_singleton.mp hc]
      have := h5 a ha
      show a.1 < z
      omega
    · rw [hg]
      rcases List.mem_append.mp hq with hq | hq
      · have := h5 q hq
        show q.1 ≤ z
        omega
      · rw [List.mem_singleton.mp hq]
        exact Int.le_refl _
    · rw [hg]
      show z ≤ 12 * ((n + 1 : Nat) : Int)
      omega
theorem weather_ok (hp : 0 < p.winds.length) : WOk p.winds (weatherM ns at_ p) := by
  have m1 : 0 ≤ atM ns (at_ + 1) % 4 := Int.emod_nonneg _ (by decide)
  have m2 : atM ns (at_ + 1) % 4 < 4 := Int.emod_lt_of_pos _ (by decide)
  obtain ⟨h1, h2, h3, h4, h5, h6⟩ := weather_inv (ns := ns) (at_ := at_) hp (atM ns (at_ + 1) % 4).toNat (weatherM ns at_ p) rfl
  refine ⟨h1, h3, h4, by omega, fun q hq => ?_⟩
  have := h5 q hq
  omega
theorem rows_ok (hp : 0 < p.places.length) {many : Nat} {most : Int} (hm : 0 < most) : ∀ q ∈ rowsM ns at_ many p most, q.1 ∈ p.places ∧ 0 ≤ q.2 := fun q hq => by
  obtain ⟨k, _, rfl⟩ := List.mem_map.mp hq
  exact ⟨pl_mem hp _, Int.emod_nonneg _ (by omega)⟩
theorem rows_len {many : Nat} {most : Int} : (rowsM ns at_ many p most).length = many := by
  unfold rowsM
  rw [List.length_map, List.length_range]
/-! ### hands -/
theorem walks_ok (h : PtOk p) {x : Str} : ∀ q ∈ walksP p x, q.1 ∈ p.places ∧ 1 ≤ q.2 := fun q hq => by
  obtain ⟨a, ha, e⟩ := List.mem_filterMap.mp hq
  have ok := h.ao a ha
  split at e
  · cases e
    exact ⟨ok.2.1, ok.2.2.2.1⟩
  · split at e
    · cases e
      exact ⟨ok.1, ok.2.2.2.1⟩
    · cases e
theorem walks_val (h : PtOk p) {x : Str} {q : Str × Int} (hq : q ∈ walksP p x) : ∃ m, valG (walksP p x) q.1 = some m ∧ 1 ≤ m := by
  cases hv : valG (walksP p x) q.1 with
  | none => exact absurd rfl (valG_none hv q hq)
  | some m => exact ⟨m, rfl, (walks_ok h _ (valG_mem hv)).2⟩
theorem deeds_snoc : ∀ {ds : List Dd} {x : Str} {d : Dd}, DeedsOk p x ds → DeedsOk p (ds.foldl nextPl x) [d] → DeedsOk p x (ds ++ [d])
  | [], _, _, _, h => h
  | .walk y :: r, x, d, h, k => by
    obtain ⟨h1, h2, h3, h4⟩ := h
    exact ⟨h1, h2, h3, deeds_snoc h4 k⟩
  | .cut n :: r, x, d, h, k => by
    obtain ⟨h1, h2, h3⟩ := h
    exact ⟨h1, h2, deeds_snoc h3 k⟩
  | .wait n :: r, x, d, h, k => by
    obtain ⟨h1, h2, h3⟩ := h
    exact ⟨h1, h2, deeds_snoc h3 k⟩
theorem hand_inv (h : PtOk p) {spot : Nat} {x : Str} : ∀ (l : List Nat) (s : Str × List Dd), DeedsOk p x s.2 → s.2.foldl nextPl x = s.1 → s.1 ∈ p.places →
    DeedsOk p x (l.foldl (hStep p ns spot) s).2 ∧ (l.foldl (hStep p ns spot) s).2.length = s.2.length + l.length
  | [], s, h1, _, _ => ⟨h1, rfl⟩
  | j :: l, s, h1, h2, h3 => by
    have a1 : 0 ≤ atM ns (spot + 3 + 2 * j) % 8 := Int.emod_nonneg _ (by decide)
    have a2 : atM ns (spot + 3 + 2 * j) % 8 < 8 := Int.emod_lt_of_pos _ (by decide)
    have key : DeedsOk p x (hStep p ns spot s j).2 ∧ (hStep p ns spot s j).2.foldl nextPl x = (hStep p ns spot s j).1 ∧ (hStep p ns spot s j).1 ∈ p.places ∧ (hStep p ns spot s j).2.length = s.2.length + 1 := by
      unfold hStep
      split
      · rename_i hc
        have b1 : 0 ≤ atM ns (spot + 3 + 2 * j) % ((walksP p s.1).length : Int) := Int.emod_nonneg _ (by omega)
        have b2 : atM ns (spot + 3 + 2 * j) % ((walksP p s.1).length : Int) < ((walksP p s.1).length : Int) := Int.emod_lt_of_pos _ (by omega)
        have hm := List.mem_of_getElem? (getD_at (d := (default : Str × Int)) (xs := walksP p s.1) (i := (atM ns (spot + 3 + 2 * j) % ((walksP p s.1).length : Int)).toNat) (by omega))
        generalize (walksP p s.1).getD (atM ns (spot + 3 + 2 * j) % ((walksP p s.1).length : Int)).toNat default = q at hm ⊢
        have ok := walks_ok h q hm
        refine ⟨deeds_snoc h1 ?_, ?_, ok.1, by rw [List.length_append]; rfl⟩
        · rw [h2]
          exact ⟨h3, ok.1, walks_val h hm, trivial⟩
        · rw [List.foldl_append]
          rfl
      · split
        · refine ⟨deeds_snoc h1 ⟨by omega, by omega, trivial⟩, ?_, h3, by rw [List.length_append]; rfl⟩
          rw [List.foldl_append, h2]
          rfl
        · refine ⟨deeds_snoc h1 ⟨by omega, by omega, trivial⟩, ?_, h3, by rw [List.length_append]; rfl⟩
          rw [List.foldl_append, h2]
          rfl
    obtain ⟨k1, k2, k3, k4⟩ := key
    obtain ⟨r1, r2⟩ := hand_inv h l _ k1 k2 k3
    exact ⟨r1, by rw [List.foldl_cons, r2, k4, List.length_cons]; omega⟩
theorem hands_ok (h : PtOk p) : HandsOk p (handsM ns at_ p) := by
  have hp0 : 0 < p.places.length := by have := h.pl.1; omega
  have m1 : 0 ≤ atM ns (at_ + 1) % 4 := Int.emod_nonneg _ (by decide)
  have m2 : atM ns (at_ + 1) % 4 < 4 := Int.emod_lt_of_pos _ (by decide)
  have hln : (namesM (atM ns at_) 3).length = 3 := names_len _ _
  have each : ∀ k, DeedsOk p (handM ns at_ p k).pl (handM ns at_ p k).ds ∧ (handM ns at_ p k).ds.length ≤ 30 := fun k => by
    obtain ⟨h1, h2⟩ := hand_inv (ns := ns) h (spot := at_ + 2 + 22 * k) (x := plAt p (atM ns (at_ + 2 + 22 * k))) (List.range (atM ns (at_ + 2 + 22 * k + 1) % 7).toNat) (plAt p (atM ns (at_ + 2 + 22 * k)), []) trivial rfl (pl_mem hp0 _)
    refine ⟨h1, ?_⟩
    have a1 : 0 ≤ atM ns (at_ + 2 + 22 * k + 1) % 7 := Int.emod_nonneg _ (by decide)
    have a2 : atM ns (at_ + 2 + 22 * k + 1) % 7 < 7 := Int.emod_lt_of_pos _ (by decide)
    rw [List.length_range] at h2
    have h2 : (handM ns at_ p k).ds.length = 0 + (atM ns (at_ + 2 + 22 * k + 1) % 7).toNat := h2
    omega
  refine ⟨?_, ?_, fun q hq => ?_, fun q hq => ?_, fun q hq => ?_, fun q hq => ?_⟩
  · unfold handsM
    rw [List.length_map, List.length_range]
    omega
  · have : (handsM ns at_ p).map (·.nm) = (namesM (atM ns at_) 3).take (atM ns (at_ + 1) % 4).toNat := by
      unfold handsM
      rw [List.map_map]
      refine List.ext_getElem? fun i => ?_
      rw [List.getElem?_map]
      by_cases hi : i < (atM ns (at_ + 1) % 4).toNat
      · rw [List.getElem?_range hi, List.getElem?_take_of_lt hi, getD_at (d := default) (by omega)]
        rfl
      · rw [List.getElem?_eq_none (by rw [List.length_range]; omega), List.getElem?_eq_none (by rw [List.length_take]; omega)]
        rfl
    rw [this]
    exact List.Pairwise.sublist (List.take_sublist _ _) (names_nd _ (by decide))
  · obtain ⟨k, hk, rfl⟩ := List.mem_map.mp hq
    have hk := List.mem_range.mp hk
    exact names_ok _ _ _ (List.mem_of_getElem? (getD_at (d := default) (by omega)))
  · obtain ⟨k, hk, rfl⟩ := List.mem_map.mp hq
    exact pl_mem hp0 _
  · obtain ⟨k, hk, rfl⟩ := List.mem_map.mp hq
    exact (each k).2
  · obtain ⟨k, hk, rfl⟩ := List.mem_map.mp hq
    exact (each k).1
end
end Ef
/-! The law's own defs. -/
namespace Ef
open PySem PySem.Spec PyProof.Rows L2
local macro_rules | `(tactic| walk_at "set") => `(tactic| (repeat' (first | exact SetAt.z | apply SetAt.s)))
local macro_rules | `(tactic| walk_at "le") => `(tactic| (repeat' (first | exact Le.nil | (with_reducible apply Le.eq) | (with_reducible apply Le.u) | (with_reducible apply Le.as) | rfl)))
local macro_rules | `(tactic| walk_at "ev1") => `(tactic| first
  | exact e_int | exact e_str | exact e_bl | exact e_non
  | exact e_var rfl | exact d_nil | exact a_nil | exact et_yes | exact o_none | exact k_own rfl
  | exact e_lenM rfl
  | ((with_reducible show lenK _ = true); rfl) | ((with_reducible show eqK _ _ = true); rfl) | ((with_reducible show smallL _ = true); rfl)
  | with_reducible apply d_cons | with_reducible apply a_cons | with_reducible apply o_some
  | with_reducible apply e_add | with_reducible apply e_sub | with_reducible apply e_lt | with_reducible apply e_le | with_reducible apply e_gt | with_reducible apply e_ge
  | with_reducible apply e_mul | with_reducible apply e_mod | with_reducible apply e_fdiv
  | with_reducible apply e_eqA | with_reducible apply e_neA
  | with_reducible apply e_isN | with_reducible apply e_notN | with_reducible apply e_notV | with_reducible apply et_test | with_reducible apply et_B | with_reducible apply et_not
  | with_reducible apply et_and2 | with_reducible apply et_or2 | with_reducible apply e_andV2 | with_reducible apply e_orV2
  | with_reducible apply e_tupS | with_reducible apply e_lstS | exact e_dnew
  | with_reducible apply e_lenA
  | (with_reducible apply e_cb (hr := cq_abs)) | (with_reducible apply e_cb (hr := cq_int1)) | (with_reducible apply e_cb (hr := cq_max2)) | (with_reducible apply e_cb (hr := cq_min2))
  | with_reducible apply e_call | with_reducible apply e_meth
  | with_reducible apply e_din | with_reducible apply e_dnotin | with_reducible apply e_dget | with_reducible apply e_dget1 | with_reducible apply e_dget2)
local macro_rules | `(tactic| walk_at "ev") => `(tactic| repeat' (walk_at "ev1"))
variable {P : Program} {w : World} {K : Frag} {mg : Str → Option Value} {base : Heap}
def ptL (p : Pt) : List PyData := [.tuple (p.winds.map .str), .tuple (p.places.map .str), .tuple (p.links.map eLk), .tuple (p.paths.map ePa)]
theorem known_eq (acc : List Pa) : (acc.map fun q => ePr (q.one, q.oth)) ++ (acc.map fun q => ePr (q.oth, q.one)) = (knownP acc).map ePr := by
  unfold knownP
  rw [List.map_append, List.map_map, List.map_map]
  rfl
theorem known_any (acc : List Pa) (x : Str × Str) : (!((knownP acc).map ePr).any fun z => PyData.eqv z (ePr x)) = !decide (x ∈ knownP acc) := by
  congr 1
  rw [List.any_map]
  by_cases h : x ∈ knownP acc
  · rw [decide_eq_true h, List.any_eq_true]
    exact ⟨x, h, by show PyData.eqv (ePr x) (ePr x) = true; rw [eqv_pr]; exact decide_eq_true rfl⟩
  · rw [decide_eq_false h, List.any_eq_false]
    intro y hy
    show ¬ PyData.eqv (ePr y) (ePr x) = true
    rw [eqv_pr]
    intro e
    rw [of_decide_eq_true e] at hy
    exact h hy
theorem known_ok {ps : List Str} {acc : List Pa} (hn : ∀ x ∈ ps, NameOk x) (h : ∀ q ∈ acc, PaOk ps q) : ∀ x ∈ knownP acc, NameOk x.1 ∧ NameOk x.2 := fun x hx => by
  unfold knownP at hx
  rcases List.mem_append.mp hx with hx | hx
  · obtain ⟨q, hq, rfl⟩ := List.mem_map.mp hx
    exact ⟨hn _ (h q hq).1, hn _ (h q hq).2.1⟩
  · obtain ⟨q, hq, rfl⟩ := List.mem_map.mp hx
    exact ⟨hn _ (h q hq).2.1, hn _ (h q hq).1⟩
inductive R_l_parts (K : Frag) : List SV → SV → Prop
  | mk (ns : List Int) (at_ : Nat) (hn : at_ + 110 ≤ ns.length) (hnum : ∀ x ∈ ns, Num x) : R_l_parts K [.d (.list (ns.map .int)), .d (.int (at_ : Nat))] (.ml (ptL (partsM ns at_)))
theorem ok_l_parts (T : Tx K mg) : FnOk P w K mg base CX0 2 (He.fAd K ("_law_parts", none)) T.fd_l_parts ["_law_numbers_here", "_law_at"] (spQ (R_l_parts K)) := by
  refine okQ T.F_l_parts sc_l_parts (fun _ _ h => by cases h; rfl) (by decide) ?_
  rintro X ⟨cdv, A, outer, s, H, rfl, hr⟩ args r hR
  refine ⟨_, (pss_cons (ps_set (i := 2) sc_l_parts.nd rfl (Or.inl rfl) (pe_call (ok_l_names T) (hr.mono (by decide)) (by rfl) T.g_l_names T.F_l_names.kp (b_l_names T) .nil pass0 (pa_cons (pe_ix ix_list (pv 0) (pv 1) (fun _ _ => rfl)) (pa_cons (pe_op op_add pe_int (pe_op op_mod (pe_callTy call_int1 (by rfl) T.m_int (by decide +kernel) (pa_cons (pe_ix ix_list (pv 0) (pe_op op_add (pv 1) pe_int) (fun _ _ => rfl)) pa_nil)) pe_int)) pa_nil))))
    (pss_cons (ps_set (i := 3) sc_l_parts.nd rfl (Or.inl rfl) (pe_call (ok_l_names T) (hr.mono (by decide)) (by rfl) T.g_l_names T.F_l_names.kp (b_l_names T) .nil pass0 (pa_cons (pe_ix ix_list (pv 0) (pe_op op_add (pv 1) pe_int) (fun _ _ => rfl)) (pa_cons (pe_op op_add pe_int (pe_op op_mod (pe_callTy call_int1 (by rfl) T.m_int (by decide +kernel) (pa_cons (pe_ix ix_list (pv 0) (pe_op op_add (pv 1) pe_int) (fun _ _ => rfl)) pa_nil)) pe_int)) pa_nil))))
    (pss_cons (ps_set (i := 4) sc_l_parts.nd rfl (Or.inl rfl) (pe_call (ok_l_names T) (hr.mono (by decide)) (by rfl) T.g_l_names T.F_l_names.kp (b_l_names T) .nil pass0 (pa_cons (pe_ix ix_list (pv 0) (pe_op op_add (pv 1) pe_int) (fun _ _ => rfl)) (pa_cons pe_int pa_nil))))
    (pss_cons (ps_set (i := 5) sc_l_parts.nd rfl (Or.inl rfl) (pe_lst pa_nil))
    (pss_cons (ps_for PassesOwn.never rfl (pi_range1 rfl T.m_range (pa_cons (pe_op op_mod (pe_callTy call_int1 (by rfl) T.m_int (by decide +kernel) (pa_cons (pe_ix ix_list (pv 0) (pe_op op_add (pv 1) pe_int) (fun _ _ => rfl)) pa_nil)) pe_int) pa_nil)) (pg_name (i := 6) sc_l_parts.nd rfl (Or.inl rfl))
      (pss_cons (ps_set (i := 7) sc_l_parts.nd rfl (Or.inl rfl) (pe_op op_add (pe_op op_add (pv 1) pe_int) (pe_op op_mul pe_int (pv 6))))
    (pss_cons (ps_set (i := 8) sc_l_parts.nd rfl (Or.inl rfl) (pe_op op_mod (pe_callTy call_int1 (by rfl) T.m_int (by decide +kernel) (pa_cons (pe_ix ix_list (pv 0) (pv 7) (fun _ _ => rfl)) pa_nil)) (pe_callB call_lenQ (by rfl) T.m_len (by decide +kernel) (pa_cons (pv 3) pa_nil))))
    (pss_cons (ps_set (i := 9) sc_l_parts.nd rfl (Or.inl rfl) (pe_op op_mod (pe_callTy call_int1 (by rfl) T.m_int (by decide +kernel) (pa_cons (pe_op op_add (pe_op op_add (pv 8) pe_int) (pe_op op_mod (pe_callTy call_int1 (by rfl) T.m_int (by decide +kernel) (pa_cons (pe_ix ix_list (pv 0) (pe_op op_add (pv 7) pe_int) (fun _ _ => rfl)) pa_nil)) (pe_op op_sub (pe_callB call_lenQ (by rfl) T.m_len (by decide +kernel) (pa_cons (pv 3) pa_nil)) pe_int))) pa_nil)) (pe_callB call_lenQ (by rfl) T.m_len (by decide +kernel) (pa_cons (pv 3) pa_nil))))
    (pss_cons (ps_set (i := 10) sc_l_parts.nd rfl (Or.inl rfl) (pe_lst pa_nil))
    (pss_cons (ps_for PassesOwn.never rfl (pi_range1 rfl T.m_range (pa_cons (pe_callB call_lenQ (by rfl) T.m_len (by decide +kernel) (pa_cons (pv 2) pa_nil)) pa_nil)) (pg_name (i := 11) sc_l_parts.nd rfl (Or.inl rfl))
      (pss_one (ps_if (pt_cmpR op_eq (pe_op op_mod (pe_callTy call_int1 (by rfl) T.m_int (by decide +kernel) (pa_cons (pe_ix ix_list (pv 0) (pe_op op_add (pe_op op_add (pv 7) pe_int) (pv 11)) (fun _ _ => rfl)) pa_nil)) pe_int) pe_int (nomark _)) (pss_one (ps_expr (pe_bm PySem.F.plainAttrs_list PySem.F.slot_list_append PySem.F.type_list_append mt_append (pv 10) (pa_cons pe_non pa_nil)))) (pss_cons (ps_set (i := 12) sc_l_parts.nd rfl (Or.inl rfl) (pe_op op_add pe_int (pe_op op_mod (pe_callTy call_int1 (by rfl) T.m_int (by decide +kernel) (pa_cons (pe_ix ix_list (pv 0) (pe_op op_add (pe_op op_add (pv 7) pe_int) (pv 11)) (fun _ _ => rfl)) pa_nil)) pe_int)))
    (pss_one (ps_expr (pe_bm PySem.F.plainAttrs_list PySem.F.slot_list_append PySem.F.type_list_append mt_append (pv 10) (pa_cons (pe_tupN (pa_cons (pv 12) (pa_cons (pe_op op_add (pv 12) (pe_op op_mod (pe_callTy call_int1 (by rfl) T.m_int (by decide +kernel) (pa_cons (pe_ix ix_list (pv 0) (pe_op op_add (pe_op op_add (pv 7) pe_int) (pv 11)) (fun _ _ => rfl)) pa_nil)) pe_int)) pa_nil))) pa_nil))))))))
    (pss_one (ps_expr (pe_bm PySem.F.plainAttrs_list PySem.F.slot_list_append PySem.F.type_list_append mt_append (pv 5) (pa_cons (pe_tupN (pa_cons (pe_ix ix_list (pv 4) (pv 6) (fun _ _ => rfl)) (pa_cons (pe_ix ix_list (pv 3) (pv 8) (fun _ _ => rfl)) (pa_cons (pe_ix ix_list (pv 3) (pv 9) (fun _ _ => rfl)) (pa_cons (pe_callTy call_tupN (by rfl) T.m_tuple (by decide +kernel) (pa_cons (pv 10) pa_nil)) pa_nil))))) pa_nil))))))))))
    (pss_cons (ps_set (i := 13) sc_l_parts.nd rfl (Or.inl rfl) (pe_lst pa_nil))
    (pss_cons (ps_for PassesOwn.never rfl (pi_range1 rfl T.m_range (pa_cons (pe_op op_mod (pe_callTy call_int1 (by rfl) T.m_int (by decide +kernel) (pa_cons (pe_ix ix_list (pv 0) (pe_op op_add (pv 1) pe_int) (fun _ _ => rfl)) pa_nil)) pe_int) pa_nil)) (pg_name (i := 6) sc_l_parts.nd rfl (Or.inl rfl))
      (pss_cons (ps_set (i := 8) sc_l_parts.nd rfl (Or.inl rfl) (pe_op op_mod (pe_callTy call_int1 (by rfl) T.m_int (by decide +kernel) (pa_cons (pe_ix ix_list (pv 0) (pe_op op_add (pe_op op_add (pv 1) pe_int) (pe_op op_mul pe_int (pv 6))) (fun _ _ => rfl)) pa_nil)) (pe_callB call_lenQ (by rfl) T.m_len (by decide +kernel) (pa_cons (pv 3) pa_nil))))
    (pss_cons (ps_set (i := 9) sc_l_parts.nd rfl (Or.inl rfl) (pe_op op_mod (pe_callTy call_int1 (by rfl) T.m_int (by decide +kernel) (pa_cons (pe_op op_add (pe_op op_add (pv 8) pe_int) (pe_op op_mod (pe_callTy call_int1 (by rfl) T.m_int (by decide +kernel) (pa_cons (pe_ix ix_list (pv 0) (pe_op op_add (pe_op op_add (pv 1) pe_int) (pe_op op_mul pe_int (pv 6))) (fun _ _ => rfl)) pa_nil)) (pe_op op_sub (pe_callB call_lenQ (by rfl) T.m_len (by decide +kernel) (pa_cons (pv 3) pa_nil)) pe_int))) pa_nil)) (pe_callB call_lenQ (by rfl) T.m_len (by decide +kernel) (pa_cons (pv 3) pa_nil))))
    (pss_cons (ps_set (i := 14) sc_l_parts.nd rfl (Or.inl rfl) (pe_op op_cat (pe_lc (own := [("_law_path", 15)]) (g := (gName 15)) (tt := tYes) (te := (tTupN (tCons (tOp (rIxT K) (tVar 15) (tC (.int 0))) (tCons (tOp (rIxT K) (tVar 15) (tC (.int 1))) tNil)))) rfl sc_l_parts.nd (pi_list (pv 13)) (blkOk_by (by kernel_rfl)) (fun _ _ _ _ _ => (pg_name (i := 15) sc_l_parts.nd rfl (Or.inl rfl))) (fun _ _ _ _ _ => pts_nil) (fun _ _ _ _ _ => (pe_tupN (pa_cons (pe_ix ix_tup (pv 15) pe_int (fun _ _ => rfl)) (pa_cons (pe_ix ix_tup (pv 15) pe_int (fun _ _ => rfl)) pa_nil))))) (pe_lc (own := [("_law_path", 15)]) (g := (gName 15)) (tt := tYes) (te := (tTupN (tCons (tOp (rIxT K) (tVar 15) (tC (.int 1))) (tCons (tOp (rIxT K) (tVar 15) (tC (.int 0))) tNil)))) rfl sc_l_parts.nd (pi_list (pv 13)) (blkOk_by (by kernel_rfl)) (fun _ _ _ _ _ => (pg_name (i := 15) sc_l_parts.nd rfl (Or.inl rfl))) (fun _ _ _ _ _ => pts_nil) (fun _ _ _ _ _ => (pe_tupN (pa_cons (pe_ix ix_tup (pv 15) pe_int (fun _ _ => rfl)) (pa_cons (pe_ix ix_tup (pv 15) pe_int (fun _ _ => rfl)) pa_nil)))))))
    (pss_one (ps_if (pt_cmpR (op_notInD (hu65 hr)) (pe_tupN (pa_cons (pe_ix ix_list (pv 3) (pv 8) (fun _ _ => rfl)) (pa_cons (pe_ix ix_list (pv 3) (pv 9) (fun _ _ => rfl)) pa_nil))) (pv 14) rfl) (pss_one (ps_expr (pe_bm PySem.F.plainAttrs_list PySem.F.slot_list_append PySem.F.type_list_append mt_append (pv 13) (pa_cons (pe_tupN (pa_cons (pe_ix ix_list (pv 3) (pv 8) (fun _ _ => rfl)) (pa_cons (pe_ix ix_list (pv 3) (pv 9) (fun _ _ => rfl)) (pa_cons (pe_op op_add pe_int (pe_op op_mod (pe_callTy call_int1 (by rfl) T.m_int (by decide +kernel) (pa_cons (pe_ix ix_list (pv 0) (pe_op op_add (pe_op op_add (pv 1) pe_int) (pe_op op_mul pe_int (pv 6))) (fun _ _ => rfl)) pa_nil)) pe_int)) pa_nil)))) pa_nil)))) pss_nil))))))
    (pss_one (ps_ret (pe_lst (pa_cons (pe_callTy call_tupN (by rfl) T.m_tuple (by decide +kernel) (pa_cons (pv 2) pa_nil)) (pa_cons (pe_callTy call_tupN (by rfl) T.m_tuple (by decide +kernel) (pa_cons (pv 3) pa_nil)) (pa_cons (pe_callTy call_tupN (by rfl) T.m_tuple (by decide +kernel) (pa_cons (pv 5) pa_nil)) (pa_cons (pe_callTy call_tupN (by rfl) T.m_tuple (by decide +kernel) (pa_cons (pv 13) pa_nil)) pa_nil)))))))))))))), ?_⟩
  intro F0 H0 D hrt hnx
  cases hR with
  | mk ns at_ hn hnum =>
  show SR F0 H0 _ [.d (.list (ns.map .int)), .d (.int (at_ : Nat)), .u, .u, .u, .u, .u, .u, .u, .u, .u, .u, .u, .u, .u, .u] D
  have hwl := wP_len (ns := ns) (at_ := at_)
  have hpl := pP_len (ns := ns) (at_ := at_)
  have h11 := m11n (ns := ns) (at_ := at_)
  have h7 := m7n (ns := ns) (at_ := at_)
  have m3 : 0 ≤ atM ns (at_ + 1) % 3 ∧ atM ns (at_ + 1) % 3 < 3 := ⟨Int.emod_nonneg _ (by decide), Int.emod_lt_of_pos _ (by decide)⟩
  have m6 : 0 ≤ atM ns (at_ + 3) % 6 ∧ atM ns (at_ + 3) % 6 < 6 := ⟨Int.emod_nonneg _ (by decide), Int.emod_lt_of_pos _ (by decide)⟩
  have c1 : 1 + atM ns (at_ + 1) % 3 = (((1 + atM ns (at_ + 1) % 3).toNat : Nat) : Int) := by omega
  have c2 : 2 + atM ns (at_ + 3) % 6 = (((2 + atM ns (at_ + 3) % 6).toNat : Nat) : Int) := by omega
  have lp : (lenF (PyData.list ((placesP ns at_).map .str)) : Int) = ((placesP ns at_).length : Int) := by simp only [lenF, List.length_map]
  have lw : (lenF (PyData.list ((windsP ns at_).map .str)) : Int) = ((windsP ns at_).length : Int) := by simp only [lenF, List.length_map]
  have lnl : (lnamesP ns at_).length = 10 := names_len _ _
  refine sr_seq (r_asg (r := .ml ((windsP ns at_).map .str)) (e_call (a_cons (e_num (k := at_) (e_var rfl) (e_var rfl) rfl (by omega)) (a_cons (e_eq (e_add e_int (e_mod (e_cb (d_cons (e_num (k := at_ + 1) (e_var rfl) (e_add (e_var rfl) e_int) (by omega) (by omega)) d_nil) cq_int1) e_int (by decide))) (congrArg PyData.int c1)) a_nil)) (.mk (atM ns at_) (1 + atM ns (at_ + 1) % 3).toNat (atM_num hnum _) (by omega))) (by walk_at "set") (nx_go (r_freeze (n := 2) rfl (by walk_at "set") ?_)))
  refine sr_seq (r_asg (r := .ml ((placesP ns at_).map .str)) (e_call (a_cons (e_num (k := at_ + 2) (e_var rfl) (e_add (e_var rfl) e_int) (by omega) (by omega)) (a_cons (e_eq (e_add e_int (e_mod (e_cb (d_cons (e_num (k := at_ + 3) (e_var rfl) (e_add (e_var rfl) e_int) (by omega) (by omega)) d_nil) cq_int1) e_int (by decide))) (congrArg PyData.int c2)) a_nil)) (.mk (atM ns (at_ + 2)) (2 + atM ns (at_ + 3) % 6).toNat (atM_num hnum _) (by omega))) (by walk_at "set") (nx_go (r_freeze (n := 3) rfl (by walk_at "set") ?_)))
  refine sr_seq (r_asg (r := .ml ((lnamesP ns at_).map .str)) (e_call (a_cons (e_num (k := at_ + 4) (e_var rfl) (e_add (e_var rfl) e_int) (by omega) (by omega)) (a_cons e_int a_nil)) (.mk (atM ns (at_ + 4)) 10 (atM_num hnum _) (by decide))) (by walk_at "set") (nx_go (r_freeze (n := 4) rfl (by walk_at "set") ?_)))
  refine sr_seq (r_asg (r := .ml []) (by walk_at "ev") (by walk_at "set") (nx_go (sr_seq ?_)))
  refine sr_fold (List.range (atM ns (at_ + 5) % 11).toNat) (fun k => .int (k : Nat)) (fun (acc : List Lk) k => acc ++ [linkP ns at_ k]) (fun acc => [.d (.list (ns.map .int)), .d (.int (at_ : Nat)), .d (.list ((windsP ns at_).map .str)), .d (.list ((placesP ns at_).map .str)), .d (.list ((lnamesP ns at_).map .str)), .ml (acc.map eLk), .u, .u, .u, .u, .u, .u, .u, .u, .u, .u]) (fun i acc => acc.length = i) [] (wk_range (d_cons (e_mod (e_cb (d_cons (e_num (k := at_ + 5) (e_var rfl) (e_add (e_var rfl) e_int) (by omega) (by omega)) d_nil) cq_int1) e_int (by decide)) d_nil) (by omega) h11.1) (by walk_at "le") rfl (fun F1 i k acc gx hk ha _ => ⟨by rw [List.length_append, ha]; rfl, _, g_name (by walk_at "set"), ?_⟩) (fun _ => nx_go ?_)
  · obtain ⟨rfl, hi⟩ := range_at hk
    have hk11 : k < 10 := by omega
    have hsp : ((at_ : Nat) : Int) + 6 + 8 * ((k : Nat) : Int) = ((at_ + 6 + 8 * k : Nat) : Int) := by omega
    have b1 := oneI_b (ns := ns) (at_ := at_) (at_ + 6 + 8 * k)
    have b2 := othI_b (ns := ns) (at_ := at_) (at_ + 6 + 8 * k) (at_ + 6 + 8 * k + 1)
    generalize hspo : at_ + 6 + 8 * k = spot at hsp b1 b2
    have hspl : spot + 8 < ns.length := by omega
    refine sr_seq (r_asg (r := .d (.int (spot : Nat))) (e_eq (e_add (e_add (e_var rfl) e_int) (e_mul e_int (e_var rfl) (.inl (by decide)))) (congrArg PyData.int hsp)) (by walk_at "set") (nx_go ?_))
    refine sr_seq (r_asg (r := .d (.int (oneI ns at_ spot))) (e_eq (e_mod (e_cb (d_cons (e_num (k := spot) (e_var rfl) (e_var rfl) rfl (by omega)) d_nil) cq_int1) (e_lenA (e_var rfl) rfl) (by rw [lp]; omega)) (by rw [lp]; rfl)) (by walk_at "set") (nx_go ?_))
    refine sr_seq (r_asg (r := .d (.int (othI ns at_ spot (spot + 1)))) (e_eq (e_mod (e_cb (d_cons (e_add (e_add (e_var rfl) e_int) (e_mod (e_cb (d_cons (e_num (k := spot + 1) (e_var rfl) (e_add (e_var rfl) e_int) (by omega) (by omega)) d_nil) cq_int1) (e_sub (e_lenA (e_var rfl) rfl) e_int) (by rw [lp]; omega))) d_nil) cq_int1) (e_lenA (e_var rfl) rfl) (by rw [lp]; omega)) (by rw [lp]; rfl)) (by walk_at "set") (nx_go ?_))
    refine sr_seq (r_asg (r := .ml []) (by walk_at "ev") (by walk_at "set") (nx_go (sr_seq ?_)))
    refine sr_fold (List.range (windsP ns at_).length) (fun j => .int (j : Nat)) (fun (b : List (Option (Int × Int))) j => b ++ [timeP ns spot j]) (fun b => [.d (.list (ns.map .int)), .d (.int (at_ : Nat)), .d (.list ((windsP ns at_).map .str)), .d (.list ((placesP ns at_).map .str)), .d (.list ((lnamesP ns at_).map .str)), .ml (acc.map eLk), .d (.int (k : Nat)), .d (.int (spot : Nat)), .d (.int (oneI ns at_ spot)), .d (.int (othI ns at_ spot (spot + 1))), .ml (b.map ePair), .u, .u, .u, .u, .u]) (fun i b => b.length = i) [] (wk_eq (wk_range (n := ((windsP ns at_).length : Int)) (d_cons (e_eq (e_lenA (e_var rfl) rfl) (congrArg PyData.int lw)) d_nil) (by omega) (Int.natCast_nonneg _)) (int_map _)) (by walk_at "le") rfl (fun F2 i2 j b gx2 hj hb _ => ⟨by rw [List.length_append, hb]; rfl, _, g_name (by walk_at "set"), ?_⟩) (fun _ => nx_go ?_)
    · obtain ⟨rfl, hji⟩ := range_at hj
      have hj3 : j < 3 := by omega
      have hsz : (b.map ePair).length < sizeLine := by rw [List.length_map, sizeLine_eq]; omega
      refine r_if (b' := decide (atM ns (spot + 2 + j) % 4 = 0)) (et_test (e_eqA (e_mod (e_cb (d_cons (e_num (k := spot + 2 + j) (e_var rfl) (e_add (e_add (e_var rfl) e_int) (e_var rfl)) (by omega) (by omega)) d_nil) cq_int1) e_int (by decide)) e_int rfl)) rfl (fun hb4 => r_app (n := 10) (x := ePair none) rfl e_non hsz (by walk_at "set") (nx_end rfl ?_)) (fun hb4 => sr_seq (r_asg (e_add e_int (e_mod (e_cb (d_cons (e_num (k := spot + 2 + j) (e_var rfl) (e_add (e_add (e_var rfl) e_int) (e_var rfl)) (by omega) (by omega)) d_nil) cq_int1) e_int (by decide))) (by walk_at "set") (nx_go (r_app (n := 10) (x := ePair (some (1 + atM ns (spot + 2 + j) % 9, 1 + atM ns (spot + 2 + j) % 9 + atM ns (spot + 5 + j) % 7))) rfl (e_tupS (d_cons (e_var rfl) (d_cons (e_add (e_var rfl) (e_mod (e_cb (d_cons (e_num (k := spot + 5 + j) (e_var rfl) (e_add (e_add (e_var rfl) e_int) (e_var rfl)) (by omega) (by omega)) d_nil) cq_int1) e_int (by decide))) d_nil))) hsz (by walk_at "set") (nx_end rfl ?_)))))
      · rw [timeP, if_pos (of_decide_eq_true hb4), List.map_append]
        exact .eq (.eq (.eq (.eq (.eq (.eq (.eq (.eq (.eq (.eq (.eq (.u (.u (.u (.u (.u .nil)))))))))))))))
      · rw [timeP, if_neg (of_decide_eq_false hb4), List.map_append]
        exact .eq (.eq (.eq (.eq (.eq (.eq (.eq (.eq (.eq (.eq (.eq (.u (.u (.u (.u (.u .nil)))))))))))))))
    · rw [snoc_fold, List.nil_append]
      refine r_freeze (n := 10) rfl (by walk_at "set") ?_
      refine r_app (n := 5) (x := eLk (linkP ns at_ k)) rfl (e_as (e_tupS (d_cons (e_ixF (f := .str) (xs := lnamesP ns at_) (e_var rfl) (e_var rfl) (Int.natCast_nonneg _) (getD_at (d := default) (by rw [Int.toNat_natCast, lnl]; omega))) (d_cons (e_ixF (f := .str) (xs := placesP ns at_) (e_var rfl) (e_var rfl) b1.1 (plI_at b1.1 b1.2)) (d_cons (e_ixF (f := .str) (xs := placesP ns at_) (e_var rfl) (e_var rfl) b2.1 (plI_at b2.1 b2.2)) (d_cons (e_cb (d_cons (e_var rfl) d_nil) cq_tupleL) d_nil))))) ?_) ?_ (by walk_at "set") (nx_end rfl ?_)
      · unfold linkP eLk
        rw [hspo, Int.toNat_natCast]
      · rw [List.length_map, sizeLine_eq]
        omega
      · rw [List.map_append]
        exact .eq (.eq (.eq (.eq (.eq (.eq (.u (.u (.u (.u (.u (.u (.u (.u (.u (.u .nil)))))))))))))))
  rw [snoc_fold, List.nil_append]
  refine r_freeze (n := 5) rfl (by walk_at "set") ?_
  refine sr_seq (r_asg (r := .ml []) (by walk_at "ev") (by walk_at "set") (nx_go (sr_seq ?_)))
  refine sr_fold (List.range (atM ns (at_ + 88) % 7).toNat) (fun k => .int (k : Nat)) (pathStep ns at_) (fun acc => [.d (.list (ns.map .int)), .d (.int (at_ : Nat)), .d (.list ((windsP ns at_).map .str)), .d (.list ((placesP ns at_).map .str)), .u, .d (.list ((linksP ns at_).map eLk)), .u, .u, .u, .u, .u, .u, .u, .ml (acc.map ePa), .u, .u]) (fun i acc => acc.length ≤ i ∧ ∀ q ∈ acc, PaOk (placesP ns at_) q) [] (wk_range (d_cons (e_mod (e_cb (d_cons (e_num (k := at_ + 88) (e_var rfl) (e_add (e_var rfl) e_int) (by omega) (by omega)) d_nil) cq_int1) e_int (by decide)) d_nil) (by omega) h7.1) (by walk_at "le") ⟨Nat.le_refl _, fun q hq => by cases hq⟩ (fun F1 i k acc gx hk ha _ => ⟨?_, _, g_name (by walk_at "set"), ?_⟩) (fun _ => nx_go ?_)
  · unfold pathStep
    split
    · exact ⟨Nat.le_succ_of_le ha.1, ha.2⟩
    · refine ⟨by rw [List.length_append]; exact Nat.succ_le_succ ha.1, fun q hq => ?_⟩
      rcases List.mem_append.mp hq with hq | hq
      · exact ha.2 q hq
      · rw [List.mem_singleton.mp hq]
        exact paP_ok k
  · obtain ⟨rfl, hi⟩ := range_at hk
    have hk7 : k < 7 := by omega
    have b1 := oneI_b (ns := ns) (at_ := at_) (at_ + 89 + 3 * k)
    have b2 := othI_b (ns := ns) (at_ := at_) (at_ + 89 + 3 * k) (at_ + 90 + 3 * k)
    have hla := ha.1
    have hsz : (acc.map ePa).length < sizeLine := by rw [List.length_map, sizeLine_eq]; omega
    have pn : ∀ x ∈ placesP ns at_, NameOk x := names_ok _ _
    have hkn := known_ok pn ha.2
    have hsh := prs_shape hkn
    refine sr_seq (r_asg (r := .d (.int (oneI ns at_ (at_ + 89 + 3 * k)))) (e_eq (e_mod (e_cb (d_cons (e_num (k := at_ + 89 + 3 * k) (e_var rfl) (e_add (e_add (e_var rfl) e_int) (e_mul e_int (e_var rfl) (.inl (by decide)))) (by omega) (by omega)) d_nil) cq_int1) (e_lenA (e_var rfl) rfl) (by rw [lp]; omega)) (by rw [lp]; rfl)) (by walk_at "set") (nx_go ?_))
    refine sr_seq (r_asg (r := .d (.int (othI ns at_ (at_ + 89 + 3 * k) (at_ + 90 + 3 * k)))) (e_eq (e_mod (e_cb (d_cons (e_add (e_add (e_var rfl) e_int) (e_mod (e_cb (d_cons (e_num (k := at_ + 90 + 3 * k) (e_var rfl) (e_add (e_add (e_var rfl) e_int) (e_mul e_int (e_var rfl) (.inl (by decide)))) (by omega) (by omega)) d_nil) cq_int1) (e_sub (e_lenA (e_var rfl) rfl) e_int) (by rw [lp]; omega))) d_nil) cq_int1) (e_lenA (e_var rfl) rfl) (by rw [lp]; omega)) (by rw [lp]; rfl)) (by walk_at "set") (nx_go ?_))
    have ex0 : ∀ {Γ : List SV} {q : Pa}, Γ[15]? = some (.d (ePa q)) → Ev (tOp (rIxT K) (tVar 15) (tC (.int 0))) Γ (.d (.str q.one)) := fun {_ q} hg => e_ixT (x := .str q.one) (e_var hg) e_int (by decide) rfl
    have ex1 : ∀ {Γ : List SV} {q : Pa}, Γ[15]? = some (.d (ePa q)) → Ev (tOp (rIxT K) (tVar 15) (tC (.int 1))) Γ (.d (.str q.oth)) := fun {_ q} hg => e_ixT (x := .str q.oth) (e_var hg) e_int (by decide) rfl
    refine sr_seq (r_asg (r := .ml ((knownP acc).map ePr)) (e_eqm (e_cat (e_lcM acc ePa (fun q => ePr (q.one, q.oth)) (wk_listM rfl) ?_ fun j q hq => ⟨_, v_name (d := ePa q) (by walk_at "set"), e_tupS (d_cons (ex0 rfl) (d_cons (ex1 rfl) d_nil))⟩) (e_lcM acc ePa (fun q => ePr (q.oth, q.one)) (wk_listM rfl) ?_ fun j q hq => ⟨_, v_name (d := ePa q) (by walk_at "set"), e_tupS (d_cons (ex1 rfl) (d_cons (ex0 rfl) d_nil))⟩) ?_) (known_eq acc)) (by walk_at "set") (nx_go (r_freeze (n := 14) rfl (by walk_at "set") ?_)))
    · rw [sizeLine_eq]; omega
    · rw [sizeLine_eq]; omega
    · rw [List.length_map, List.length_map, sizeLine_eq]; omega
    have hp1 := plI_mem b1.1 b1.2
    have hp2 := plI_mem b2.1 b2.2
    refine r_if (b' := !decide (((paP ns at_ k).one, (paP ns at_ k).oth) ∈ knownP acc)) (et_test (e_notInD (x := ePr ((paP ns at_ k).one, (paP ns at_ k).oth)) (ds := (knownP acc).map ePr) (e_tupS (d_cons (e_ixF (f := .str) (xs := placesP ns at_) (e_var rfl) (e_var rfl) b1.1 (plI_at b1.1 b1.2)) (d_cons (e_ixF (f := .str) (xs := placesP ns at_) (e_var rfl) (e_var rfl) b2.1 (plI_at b2.1 b2.2)) d_nil))) (e_var rfl) ?_ ?_)) (known_any acc _) (fun hb => r_app (n := 13) (x := ePa (paP ns at_ k)) rfl (e_tupS (d_cons (e_ixF (f := .str) (xs := placesP ns at_) (e_var rfl) (e_var rfl) b1.1 (plI_at b1.1 b1.2)) (d_cons (e_ixF (f := .str) (xs := placesP ns at_) (e_var rfl) (e_var rfl) b2.1 (plI_at b2.1 b2.2)) (d_cons (e_add e_int (e_mod (e_cb (d_cons (e_num (k := at_ + 91 + 3 * k) (e_var rfl) (e_add (e_add (e_var rfl) e_int) (e_mul e_int (e_var rfl) (.inl (by decide)))) (by omega) (by omega)) d_nil) cq_int1) e_int (by decide))) d_nil)))) hsz (by walk_at "set") (nx_end rfl ?_)) (fun hb => sr_next (nx_end rfl ?_))
    · exact pr_shape ⟨pn _ hp1, pn _ hp2⟩
    · unfold SeqAt.shaped
      simp only [PyData.canLay0, PyData.depth, hsh.1, Bool.true_and, decide_eq_true_eq]
      exact decide_eq_true (Nat.le_trans (Nat.succ_le_succ hsh.2) (show 2 ≤ 64 by decide))
    · have hb := of_decide_eq_false (Bool.not_eq_true' _ ▸ hb)
      rw [pathStep, if_neg hb, List.map_append]
      exact .eq (.eq (.eq (.eq (.u (.eq (.u (.u (.u (.u (.u (.u (.u (.eq (.u (.u .nil)))))))))))))))
    · have hb := of_decide_eq_true (Bool.not_eq_false' _ ▸ hb)
      rw [pathStep, if_pos hb]
      exact .eq (.eq (.eq (.eq (.u (.eq (.u (.u (.u (.u (.u (.u (.u (.eq (.u (.u .nil)))))))))))))))
  · refine r_freeze (n := 13) rfl (by walk_at "set") ?_
    exact r_ret (r := .ml (ptL (partsM ns at_))) (e_lstS (d_cons (e_cb (d_cons (e_var rfl) d_nil) cq_tupleL) (d_cons (e_cb (d_cons (e_var rfl) d_nil) cq_tupleL) (d_cons (e_cb (d_cons (e_var rfl) d_nil) cq_tupleL) (d_cons (e_cb (d_cons (e_var rfl) d_nil) cq_tupleL) d_nil))))) rfl hrt
end Ef
/-! The law. -/
namespace Ef
open PySem PySem.Spec PyProof.Rows L2
local macro_rules | `(tactic| walk_at "set") => `(tactic| (repeat' (first | exact SetAt.z | apply SetAt.s)))
local macro_rules | `(tactic| walk_at "le") => `(tactic| (repeat' (first | exact Le.nil | (with_reducible apply Le.eq) | (with_reducible apply Le.u) | (with_reducible apply Le.as) | rfl)))
local macro_rules | `(tactic| walk_at "ev1") => `(tactic| first
  | exact e_int | exact e_str | exact e_bl | exact e_non
  | exact e_var rfl | exact d_nil | exact a_nil | exact et_yes | exact o_none | exact k_own rfl
  | exact e_lenM rfl
  | ((with_reducible show lenK _ = true); rfl) | ((with_reducible show eqK _ _ = true); rfl) | ((with_reducible show smallL _ = true); rfl)
  | with_reducible apply d_cons | with_reducible apply a_cons | with_reducible apply o_some
  | with_reducible apply e_add | with_reducible apply e_sub | with_reducible apply e_lt | with_reducible apply e_le | with_reducible apply e_gt | with_reducible apply e_ge
  | with_reducible apply e_mul | with_reducible apply e_mod | with_reducible apply e_fdiv
  | with_reducible apply e_eqA | with_reducible apply e_neA
  | with_reducible apply e_isN | with_reducible apply e_notN | with_reducible apply e_notV | with_reducible apply et_test | with_reducible apply et_B | with_reducible apply et_not
  | with_reducible apply et_and2 | with_reducible apply et_or2 | with_reducible apply e_andV2 | with_reducible apply e_orV2
  | with_reducible apply e_tupS | with_reducible apply e_lstS | exact e_dnew
  | with_reducible apply e_lenA
  | (with_reducible apply e_cb (hr := cq_abs)) | (with_reducible apply e_cb (hr := cq_int1)) | (with_reducible apply e_cb (hr := cq_max2)) | (with_reducible apply e_cb (hr := cq_min2))
  | with_reducible apply e_call | with_reducible apply e_meth
  | with_reducible apply e_din | with_reducible apply e_dnotin | with_reducible apply e_dget | with_reducible apply e_dget1 | with_reducible apply e_dget2)
local macro_rules | `(tactic| walk_at "ev") => `(tactic| repeat' (walk_at "ev1"))
variable {P : Program} {w : World} {K : Frag} {mg : Str → Option Value} {base : Heap}
theorem list_shape {α : Type} (e : α → PyData) : ∀ (xs : List α), (∀ x ∈ xs, (e x).canLay0 = true ∧ (e x).depth ≤ 1) → PyData.canLayAll0 (xs.map e) = true ∧ PyData.depthAll (xs.map e) ≤ 1
  | [], _ => ⟨rfl, Nat.zero_le _⟩
  | x :: xs, h => by
    obtain ⟨h1, h2⟩ := list_shape e xs fun q hq => h q (List.mem_cons_of_mem _ hq)
    have hx := h x List.mem_cons_self
    refine ⟨?_, ?_⟩
    · rw [List.map_cons, PyData.canLayAll0, hx.1, h1]
      rfl
    · rw [List.map_cons, PyData.depthAll]
      exact Nat.max_le.mpr ⟨hx.2, h2⟩
theorem list_shaped {α : Type} {e : α → PyData} {xs : List α} (h : ∀ x ∈ xs, (e x).canLay0 = true ∧ (e x).depth ≤ 1) : SeqAt.shaped (.list (xs.map e)) = true := by
  have k := list_shape e xs h
  unfold SeqAt.shaped
  simp only [PyData.canLay0, PyData.depth, k.1, Bool.true_and, decide_eq_true_eq]
  exact decide_eq_true (Nat.le_trans (Nat.succ_le_succ k.2) (show 2 ≤ 64 by decide))
theorem list_same {α : Type} {e : α → PyData} {xs : List α} (h : ∀ x ∈ xs, (e x).canLay0 = true ∧ (e x).depth ≤ 1) : (!PyData.eqv (.list (xs.map e)) (.list (xs.map e))) = false := by
  rw [SeqAt.eqv_refl (.list (xs.map e)) (by rw [PyData.canLay0]; exact (list_shape e xs h).1)]
  rfl
theorem si_shape {q : Str × Int} (h : NameOk q.1) : (eSI q).canLay0 = true ∧ (eSI q).depth ≤ 1 := by
  unfold eSI
  simp [PyData.canLay0, PyData.canLayAll0, nm_strOk h, PyData.depth, PyData.depthAll]
theorem r3_shape {q : R3} (h : NameOk q.1 ∧ NameOk q.2.1) : (eR3 q).canLay0 = true ∧ (eR3 q).depth ≤ 1 := by
  unfold eR3
  simp [PyData.canLay0, PyData.canLayAll0, nm_strOk h.1, nm_strOk h.2, PyData.depth, PyData.depthAll]
theorem stays_nm {p : Pt} {hs : List Hn} (h : HandsOk p hs) : ∀ q ∈ staysM p hs, NameOk q.1 := fun q hq => by
  unfold staysM at hq
  obtain ⟨l, hl, hq⟩ := List.mem_flatten.mp hq
  obtain ⟨a, ha, rfl⟩ := List.mem_map.mp hl
  obtain ⟨z, _, rfl⟩ := List.mem_map.mp hq
  exact h.nm a ha
theorem met_names {p : Pt} {hs : List Hn} (hp : PtOk p) (h : HandsOk p hs) (f : Ro) : ∀ r ∈ (staysM p hs).filterMap (metM f), NameOk r.1 ∧ NameOk r.2.1 := fun r hr => by
  obtain ⟨q, hq, hm⟩ := List.mem_filterMap.mp hr
  have h1 := stays_nm h q hq
  have h2 := hp.pn _ (stays_pl h q hq)
  unfold metM at hm
  split at hm
  · cases hm
  · split at hm
    · cases hm
      exact ⟨h1, h2⟩
    · cases hm
theorem rows_fold (p : Pt) (hs : List Hn) : hs.foldl (fun (acc : List R4) h => acc ++ rowsH p h) [] = staysM p hs := by
  have key : ∀ (l : List Hn) (a : List R4), l.foldl (fun (acc : List R4) h => acc ++ rowsH p h) a = a ++ (l.map (rowsH p)).flatten := by
    intro l
    induction l with
    | nil => intro a; simp
    | cons x l ih => intro a; rw [List.foldl_cons, ih, List.map_cons, List.flatten_cons, List.append_assoc]
  rw [key]
  rfl
theorem links_le (ns : List Int) (at_ : Nat) : (partsM ns at_).links.length ≤ 10 := by
  have h11 := m11n (ns := ns) (at_ := at_)
  show ((List.range (atM ns (at_ + 5) % 11).toNat).map (linkP ns at_)).length ≤ 10
  rw [List.length_map, List.length_range]
  omega
/-- no facts -/
def F00 : Hp := fun _ => none
theorem same00 {H : Hp} : Same F00 H := fun b o h => by cases h
def spL (K : Frag) : Sp := fun vs H Q _ => ∃ (a : Addr) (ns : List Int), vs = [.ref a] ∧ SqL K H a (ns.map V.int) ∧ ∀ H', Q (.bl true) H'
theorem spL_len (K : Frag) : ∀ vs H Q E, spL K vs H Q E → vs.length = 1 := by
  rintro vs H Q E ⟨a, ns, rfl, _⟩
  rfl
theorem ok_law (T : Tx K mg) : FnOk P w K mg base CX0 10 (He.fAd K ("law", none)) T.fd_law ["_law_script"] (spL K) := by
  refine okS T.F_law sc_law ?_ ?_
  rotate_left 1
  rintro X ⟨cdv, A, outer, s, H, rfl, hr⟩
  refine ⟨_, (pss_cons (ps_set (i := 1) sc_law.nd rfl (Or.inl rfl) (pe_call (ok_l_numbers T) (hr.mono (by decide)) (by rfl) T.g_l_numbers T.F_l_numbers.kp (b_l_numbers T) .nil pass0 (pa_cons (pv 0) (pa_cons pe_int pa_nil))))
    (pss_cons (ps_set (i := 2) sc_law.nd rfl (Or.inl rfl) (pe_call (ok_l_parts T) (hr.mono (by decide)) (by rfl) T.g_l_parts T.F_l_parts.kp (b_l_parts T) .nil pass0 (pa_cons (pv 1) (pa_cons pe_int pa_nil))))
    (pss_cons (ps_set (i := 3) sc_law.nd rfl (Or.inl rfl) (pe_call (ok_l_hands T) (hr.mono (by decide)) (by rfl) T.g_l_hands T.F_l_hands.kp (b_l_hands T) .nil pass0 (pa_cons (pv 1) (pa_cons pe_int (pa_cons (pv 2) pa_nil)))))
    (pss_cons (ps_set (i := 4) sc_law.nd rfl (Or.inl rfl) (pe_call (ok_l_weather T) (hr.mono (by decide)) (by rfl) T.g_l_weather T.F_l_weather.kp (b_l_weather T) .nil pass0 (pa_cons (pv 1) (pa_cons pe_int (pa_cons (pv 2) pa_nil)))))
    (pss_cons (ps_set (i := 5) sc_law.nd rfl (Or.inl rfl) (pe_call (ok_l_rows T) (hr.mono (by decide)) (by rfl) T.g_l_rows T.F_l_rows.kp (b_l_rows T) .nil pass0 (pa_cons (pv 1) (pa_cons pe_int (pa_cons (pe_op op_mod (pe_callTy call_int1 (by rfl) T.m_int (by decide +kernel) (pa_cons (pe_ix ix_list (pv 1) pe_int (fun _ _ => rfl)) pa_nil)) pe_int) (pa_cons (pv 2) (pa_cons pe_int pa_nil)))))))
    (pss_cons (ps_set (i := 6) sc_law.nd rfl (Or.inl rfl) (pe_call (ok_l_make T) (hr.mono (by decide)) (by rfl) T.g_l_make T.F_l_make.kp (b_l_make T) .nil pass0 (pa_cons (pv 2) pa_nil)))
    (pss_cons (ps_set (i := 7) sc_law.nd rfl (Or.inl rfl) (pe_call (ok_l_cut T) (hr.mono (by decide)) (by rfl) T.g_l_cut T.F_l_cut.kp (b_l_cut T) .nil pass0 (pa_cons (pv 2) (pa_cons (pv 3) pa_nil))))
    (pss_cons (ps_if (pt_cmpR (op_neD hr.units) (pe_call (ok_breaks_of T) (hr.mono (by decide)) (by rfl) T.g_breaks_of T.F_breaks_of.kp (b_breaks_of T) .nil pass0 (pa_cons (pv 6) (pa_cons (pv 3) pa_nil))) (pv 7) (nomark _)) (pss_one (ps_ret pe_bl)) pss_nil)
    (pss_cons (ps_set (i := 8) sc_law.nd rfl (Or.inl rfl) (pe_call (ok_l_any_fire T) (hr.mono (by decide)) (by rfl) T.g_l_any_fire T.F_l_any_fire.kp (b_l_any_fire T) .nil pass0 (pa_cons (pv 1) (pa_cons pe_int (pa_cons (pv 2) (pa_cons (pv 4) (pa_cons (pv 5) (pa_cons (pv 7) pa_nil))))))))
    (pss_cons (ps_set (i := 9) sc_law.nd rfl (Or.inl rfl) (pe_lst pa_nil))
    (pss_cons (ps_for PassesOwn.never rfl (pi_list (pv 3)) (pg_name (i := 10) sc_law.nd rfl (Or.inl rfl))
      (pss_one (ps_set (i := 9) sc_law.nd rfl (Or.inl rfl) (pe_op op_cat (pv 9) (pe_ix ix_tup (pe_call (ok_l_course T) (hr.mono (by decide)) (by rfl) T.g_l_course T.F_l_course.kp (b_l_course T) .nil pass0 (pa_cons (pv 2) (pa_cons (pv 10) pa_nil))) pe_int (fun _ _ => rfl))))))
    (pss_cons (ps_set (i := 11) sc_law.nd rfl (Or.inl rfl) (pe_call (ok_l_met T) (hr.mono (by decide)) (by rfl) T.g_l_met T.F_l_met.kp (b_l_met T) .nil pass0 (pa_cons (pv 9) (pa_cons (pv 8) pa_nil))))
    (pss_cons (ps_if (PW.pt (pw_and (pt_val (pe_call (ok_is_safe T) (hr.mono (by decide)) (by rfl) T.g_is_safe T.F_is_safe.kp (b_is_safe T) .nil pass0 (pa_cons (pv 6) (pa_cons (pv 4) (pa_cons (pv 5) (pa_cons (pv 3) pa_nil)))))) (pw_and1 (pt_cmpR op_gt (pe_callB call_lenQ (by rfl) T.m_len (by decide +kernel) (pa_cons (pv 11) pa_nil)) pe_int (nomark _))))) (pss_one (ps_ret pe_bl)) pss_nil)
    (pss_cons (ps_for PassesOwn.never rfl (pi_tup (pe_ix ix_list (pv 2) pe_int (fun _ _ => rfl))) (pg_name (i := 12) sc_law.nd rfl (Or.inr rfl))
      (pss_one (ps_if (PW.pt (pw_and (pt_cmp (pc_din (hu_of hr) (pv 12) (pv 8)) rfl) (pw_and1 (pt_val (pe_call (ok_keeps T) (hr.mono (by decide)) (by rfl) T.g_keeps T.F_keeps.kp (b_keeps T) .nil pass0 (pa_cons (pv 6) (pa_cons (pv 4) (pa_cons (pv 5) (pa_cons (pv 3) (pa_cons (pv 12) pa_nil)))))))))) (pss_one (ps_ret pe_bl)) pss_nil)))
    (pss_cons (ps_set (i := 13) sc_law.nd rfl (Or.inl rfl) (pe_call (ok_dangers T) (hr.mono (by decide)) (by rfl) T.g_dangers T.F_dangers.kp (b_dangers T) .nil pass0 (pa_cons (pv 6) (pa_cons (pv 4) (pa_cons (pv 5) (pa_cons (pv 3) pa_nil))))))
    (pss_cons (ps_if (PW.pt (pw_or (pt_cmpR (op_neD hr.units) (pv 13) (pe_call (ok_l_met T) (hr.mono (by decide)) (by rfl) T.g_l_met T.F_l_met.kp (b_l_met T) .nil pass0 (pa_cons (pv 9) (pa_cons (pe_call (ok_l_fire T) (hr.mono (by decide)) (by rfl) T.g_l_fire T.F_l_fire.kp (b_l_fire T) .nil pass0 (pa_cons (pv 2) (pa_cons (pv 4) (pa_cons (pv 5) (pa_cons (pv 7) (pa_cons pe_int pa_nil)))))) pa_nil))) (nomark _)) (pw_or1 (pt_cmpR op_ne (pe_call (ok_is_safe T) (hr.mono (by decide)) (by rfl) T.g_is_safe T.F_is_safe.kp (b_is_safe T) .nil pass0 (pa_cons (pv 6) (pa_cons (pv 4) (pa_cons (pv 5) (pa_cons (pv 3) pa_nil))))) (pe_cmpR op_eq (pe_callB call_lenQ (by rfl) T.m_len (by decide +kernel) (pa_cons (pv 13) pa_nil)) pe_int (nomark _)) (nomark _))))) (pss_one (ps_ret pe_bl)) pss_nil)
    (pss_cons (ps_for PassesOwn.never rfl (pi_list (pv 11)) (pg_tup rfl (pgs_cons (pg_name (i := 14) sc_law.nd rfl (Or.inr rfl)) (pgs_cons (pg_name (i := 12) sc_law.nd rfl (Or.inr rfl)) (pgs_cons (pg_name (i := 15) sc_law.nd rfl (Or.inr rfl)) pgs_nil))))
      (pss_one (ps_if (pt_not (pt_val (pe_callB (cr_any rfl) (by rfl) T.m_any (by decide +kernel) (pa_cons (pe_lc (own := [("_law_one", 16)]) (g := (gName 16)) (tt := tYes) (te := (tAndV (tOp rEq (tOp (rIxT K) (tVar 16) (tC (.int 0))) (tVar 14)) (tAndV (tOp rEq (tOp (rIxT K) (tVar 16) (tC (.int 1))) (tVar 12)) (tOp (rI0 fun i j => .bl (decide (i ≤ j))) (tOp (rIxT K) (tVar 16) (tC (.int 2))) (tVar 15))))) rfl sc_law.nd (pi_list (pv 13)) (blkOk_by (by kernel_rfl)) (fun _ _ _ _ _ => (pg_name (i := 16) sc_law.nd rfl (Or.inl rfl))) (fun _ _ _ _ _ => pts_nil) (fun _ _ _ _ _ => (pe_and (pe_cmpR op_eq (pe_ix ix_tup (pv 16) pe_int (fun _ _ => rfl)) (pv 14) (nomark _)) (pe_and (pe_cmpR op_eq (pe_ix ix_tup (pv 16) pe_int (fun _ _ => rfl)) (pv 12) (nomark _)) (pe_one (pe_cmpR op_le (pe_ix ix_tup (pv 16) pe_int (fun _ _ => rfl)) (pv 15) (nomark _))))))) pa_nil)))) (pss_one (ps_ret pe_bl)) pss_nil)))
    (pss_one (ps_ret pe_bl))))))))))))))))))), ?_⟩
  intro vs H Q E hsp
  obtain ⟨a, sc, rfl, hS, q⟩ := hsp
  have hrt : ∀ v H', RT F00 H (.d (.bool true)) v H' → ({ nx := fun _ H' => Q .non H', rt := Q } : Ends).rt v H' := fun v H' ⟨F', g, o⟩ => by
    rw [dq_bool o]
    exact q H'
  generalize ({ nx := fun _ H' => Q .non H', rt := Q } : Ends) = D at hrt ⊢
  have hN : (numsM sc 240).length = 240 := numsM_len _ _
  have hnum := numsM_num sc 240
  refine first_run (r := .ml ((numsM sc 240).map .int)) (Γ := [.u, .u, .u, .u, .u, .u, .u, .u, .u, .u, .u, .u, .u, .u, .u, .u, .u]) (sat_start (args := [.u]) (N := N_law) same00 (.cons ⟨rfl, trivial⟩ .nil) (show 1 ≤ 17 by decide)) (fun F S Q q => ⟨.ref a, rfl, F, a, sc, 240, S.ex, rfl, by decide, hS, q⟩) (by walk_at "set") ?_
  refine r_freeze (n := 1) rfl (by walk_at "set") ?_
  clear q hS
  generalize F00 = F0 at hrt ⊢
  generalize H = H0 at hrt ⊢
  generalize numsM sc 240 = N at hN hnum ⊢
  refine sr_seq (r_asg (r := .ml (ptL (partsM N 0))) (e_call (a_cons (e_var rfl) (a_cons e_int a_nil)) (.mk N 0 (by omega) hnum)) (by walk_at "set") (nx_go (r_freeze (n := 2) rfl (by walk_at "set") ?_)))
  show SR F0 H0 _ [.u, .d (.list (N.map .int)), .d (ePt (partsM N 0)), .u, .u, .u, .u, .u, .u, .u, .u, .u, .u, .u, .u, .u, .u] D
  have hp := parts_ok (ns := N) (at_ := 0)
  have hll := links_le N 0
  generalize partsM N 0 = p at hp hll ⊢
  have hp0 : 0 < p.places.length := by have := hp.pl.1; omega
  have hw0 : 0 < p.winds.length := by have := hp.wl.1; omega
  refine sr_seq (r_asg (r := .ml ((handsM N 115 p).map eHn)) (e_call (a_cons (e_var rfl) (a_cons e_int (a_cons (e_var rfl) a_nil))) (.mk N 115 p (by omega) hnum hp)) (by walk_at "set") (nx_go (r_freeze (n := 3) rfl (by walk_at "set") ?_)))
  have hh := hands_ok (ns := N) (at_ := 115) hp
  generalize handsM N 115 p = hs at hh ⊢
  refine sr_seq (r_asg (r := .ml ((weatherM N 190 p).map eIS)) (e_call (a_cons (e_var rfl) (a_cons e_int (a_cons (e_var rfl) a_nil))) (.mk N 190 p (by omega) hw0)) (by walk_at "set") (nx_go (r_freeze (n := 4) rfl (by walk_at "set") ?_)))
  have hW := weather_ok (ns := N) (at_ := 190) hw0
  generalize weatherM N 190 p = W at hW ⊢
  have m4 : 0 ≤ atM N 199 % 4 ∧ atM N 199 % 4 < 4 := ⟨Int.emod_nonneg _ (by decide), Int.emod_lt_of_pos _ (by decide)⟩
  have c4 : atM N 199 % 4 = (((atM N 199 % 4).toNat : Nat) : Int) := by omega
  refine sr_seq (r_asg (r := .ml ((rowsM N 200 (atM N 199 % 4).toNat p 15).map eSI)) (e_call (a_cons (e_var rfl) (a_cons e_int (a_cons (e_eq (e_mod (e_cb (d_cons (e_num (k := 199) (e_var rfl) e_int rfl (by omega)) d_nil) cq_int1) e_int (by decide)) (congrArg PyData.int c4)) (a_cons (e_var rfl) (a_cons e_int a_nil))))) (.mk N 200 (atM N 199 % 4).toNat p 15 (by omega) hp0 (by decide) (by omega))) (by walk_at "set") (nx_go (r_freeze (n := 5) rfl (by walk_at "set") ?_)))
  have hst := rows_ok (ns := N) (at_ := 200) (p := p) hp0 (many := (atM N 199 % 4).toNat) (most := 15) (by decide)
  have hsl : (rowsM N 200 (atM N 199 % 4).toNat p 15).length < 1000 := by rw [rows_len]; omega
  generalize rowsM N 200 (atM N 199 % 4).toNat p 15 = st at hst hsl ⊢
  have ask : AskIn p W st hs := ⟨hp, hW, hst, hsl, hh⟩
  have hbl : (breaksM p hs).length < 1000 := ask.fire.bl
  have hsta := stays_len p hs hh
  have bsh : ∀ q ∈ breaksM p hs, (eSI q).canLay0 = true ∧ (eSI q).depth ≤ 1 := fun q hq => si_shape (hp.pn _ (breaks_ok hh q hq).1)
  have esafe : ∀ {Γ : List SV}, Γ[6]? = some (eLand K p) → Γ[4]? = some (.d (eWe W)) → Γ[5]? = some (.d (eRo st)) → Γ[3]? = some (.d (eHs hs)) → Ev (tCall (spQ (R_is_safe K)) [] E0 (tCons (tVar 6) (tCons (tVar 4) (tCons (tVar 5) (tCons (tVar 3) tNil))))) Γ (.d (.bool (dangersM p W st hs).isEmpty)) := fun g1 g2 g3 g4 => e_call (a_cons (e_var g1) (a_cons (e_var g2) (a_cons (e_var g3) (a_cons (e_var g4) a_nil)))) (.mk p W st hs ask)
  refine sr_seq (r_asg (r := eLand K p) (e_call (a_cons (e_var rfl) a_nil) (.mk p hp)) (by walk_at "set") (nx_go ?_))
  refine sr_seq (r_asg (r := .ml ((breaksM p hs).map eSI)) (e_call (a_cons (e_var rfl) (a_cons (e_var rfl) a_nil)) (.mk p hs hp hh)) (by walk_at "set") (nx_go (r_freeze (n := 7) rfl (by walk_at "set") ?_)))
  refine sr_seq (r_ifF (et_test (e_neD (x := .list ((breaksM p hs).map eSI)) (y := .list ((breaksM p hs).map eSI)) (e_freeze (e_call (a_cons (e_var rfl) (a_cons (e_var rfl) a_nil)) (.mk p hs hp hh))) (e_var rfl) (list_shaped bsh) (list_shaped bsh))) (list_same bsh) (sr_next (nx_go ?_)))
  refine sr_seq (r_asg (r := .dic (mapG .int (fireM (anyPt N 215 p) W st (breaksM p hs)))) (e_freezeD (e_call (a_cons (e_var rfl) (a_cons e_int (a_cons (e_var rfl) (a_cons (e_var rfl) (a_cons (e_var rfl) (a_cons (e_var rfl) a_nil)))))) (.mk N 215 p W st (breaksM p hs) (by omega) hp hW hst hbl))) (by walk_at "set") (nx_go ?_))
  refine sr_seq (r_asg (r := .ml []) (by walk_at "ev") (by walk_at "set") (nx_go (sr_seq ?_)))
  refine sr_fold hs eHn (fun (acc : List R4) h => acc ++ rowsH p h) (fun acc => [.u, .d (.list (N.map .int)), .d (ePt p), .d (eHs hs), .d (eWe W), .d (eRo st), eLand K p, .d (eRo (breaksM p hs)), .dic (mapG .int (fireM (anyPt N 215 p) W st (breaksM p hs))), .ml (acc.map eR4), .u, .u, .u, .u, .u, .u, .u]) (fun i acc => acc.length ≤ 31 * i) [] (wk_list (e_var rfl)) (by walk_at "le") (Nat.le_refl _) (fun F1 i q acc gx hq ha _ => ⟨?_, _, g_name (d := eHn q) (by walk_at "set"), ?_⟩) (fun _ => nx_go ?_)
  · have hl := (st_len p q (hh.fd q (List.mem_of_getElem? hq))).1
    have : (rowsH p q).length = (stM p q).length := by unfold rowsH; rw [List.length_map]
    rw [List.length_append]
    omega
  · have hm := List.mem_of_getElem? hq
    have hi := (List.getElem?_eq_some_iff.mp hq).1
    have hfew := hh.few
    have hl := (st_len p q (hh.fd q hm)).1
    have hrl : (rowsH p q).length = (stM p q).length := by unfold rowsH; rw [List.length_map]
    refine r_asg (r := .ml (acc.map eR4 ++ (rowsH p q).map eR4)) (e_catD rfl (e_ixT (x := .list ((rowsH p q).map eR4)) (ds := [.list ((rowsH p q).map eR4), .list ((courseS p q).cu.map eSI), .int (courseS p q).now]) (e_call (a_cons (e_var rfl) (a_cons (e_var rfl) a_nil)) (.mk p q hp (hh.ds q hm) (hh.fd q hm))) e_int (by decide) rfl) ?_) (by walk_at "set") (nx_end rfl ?_)
    · rw [List.length_map, List.length_map, sizeLine_eq]
      omega
    · rw [List.map_append]
      exact .u (.eq (.eq (.eq (.eq (.eq (.eq (.eq (.eq (.eq (.u (.u (.u (.u (.u (.u (.u .nil))))))))))))))))
  rw [rows_fold]
  refine r_freeze (n := 9) rfl (by walk_at "set") ?_
  have told := met_told (ns := N) (at_ := 215) ask
  have snone := safe_none (ns := N) (at_ := 215) ask
  have knot := fun (x : Str) (t : Int) => kept_not (ns := N) (at_ := 215) ask (x := x) (t := t)
  generalize fireM (anyPt N 215 p) W st (breaksM p hs) = B at told snone knot ⊢
  refine sr_seq (r_asg (r := .ml (((staysM p hs).filterMap (metM B)).map eR3)) (e_call (a_cons (e_var rfl) (a_cons (e_var rfl) a_nil)) (.mk (staysM p hs) B (by omega))) (by walk_at "set") (nx_go (r_freeze (n := 11) rfl (by walk_at "set") ?_)))
  refine sr_seq (r_ifF (et_and2 (et_B (esafe rfl rfl rfl rfl)) (et_test (e_gt (e_lenA (e_var rfl) rfl) e_int))) ?_ (sr_next (nx_go ?_)))
  · cases he : (dangersM p W st hs).isEmpty with
    | false => rfl
    | true =>
      rw [snone he]
      rfl
  refine sr_seq (sr_const [.u, .d (.list (N.map .int)), .d (ePt p), .d (eHs hs), .d (eWe W), .d (eRo st), eLand K p, .d (eRo (breaksM p hs)), .dic (mapG .int B), .d (.list ((staysM p hs).map eR4)), .u, .d (.list (((staysM p hs).filterMap (metM B)).map eR3)), .u, .u, .u, .u, .u] (wk_tup (e_pt1 rfl)) (by walk_at "le") (fun F1 i d hd => ?_) (nx_go ?_))
  · obtain ⟨x, hx, rfl⟩ := at_map hd
    have hxm := List.mem_of_getElem? hx
    refine ⟨_, g_name (by walk_at "set"), r_ifF (et_and2 (et_B (e_din (e_var rfl) (k_dic (e_var rfl)))) (et_B (e_call (a_cons (e_var rfl) (a_cons (e_var rfl) (a_cons (e_var rfl) (a_cons (e_var rfl) (a_cons (e_var rfl) a_nil))))) (.mk p W st hs x ask hxm)))) ?_ (sr_next (nx_end rfl (by walk_at "le")))⟩
    rw [valG_map]
    cases hv : valG B x with
    | none => rfl
    | some t =>
      rw [knot x t hv]
      rfl
  refine sr_seq (r_asg (r := .ml ((dangersM p W st hs).map eR3)) (e_call (a_cons (e_var rfl) (a_cons (e_var rfl) (a_cons (e_var rfl) (a_cons (e_var rfl) a_nil)))) (.mk p W st hs ask)) (by walk_at "set") (nx_go (r_freeze (n := 13) rfl (by walk_at "set") ?_)))
  have deq := dangers_eq ask
  have dsh : ∀ r ∈ dangersM p W st hs, (eR3 r).canLay0 = true ∧ (eR3 r).depth ≤ 1 := fun r hr => r3_shape (met_names hp hh _ r hr)
  refine sr_seq (r_ifF (et_or2 (et_test (e_neD (x := .list ((dangersM p W st hs).map eR3)) (y := .list ((dangersM p W st hs).map eR3)) (e_var rfl) (e_eq (e_freeze (e_call (a_cons (e_var rfl) (a_cons (e_freezeD (e_call (a_cons (e_var rfl) (a_cons (e_var rfl) (a_cons (e_var rfl) (a_cons (e_var rfl) (a_cons e_int a_nil))))) (.mk p W st (breaksM p hs) hp hW hst hbl))) a_nil)) (.mk (staysM p hs) (fireM p W st (breaksM p hs)) (by omega)))) (by rw [deq])) (list_shaped dsh) (list_shaped dsh))) (et_test (e_neB (esafe rfl rfl rfl rfl) (e_eqA (e_lenA (e_var rfl) rfl) e_int rfl)))) ?_ (sr_next (nx_go ?_)))
  · rw [list_same dsh, Bool.false_or]
    cases dangersM p W st hs with
    | nil => rfl
    | cons r l =>
      simp only [List.isEmpty_cons, eqF, lenF, List.map_cons, List.length_cons]
      rw [decide_eq_false (show ¬ ((((l.map eR3).length + 1 : Nat) : Int) = 0) by omega)]
      rfl
  refine sr_seq (sr_const [.u, .d (.list (N.map .int)), .d (ePt p), .d (eHs hs), .d (eWe W), .d (eRo st), eLand K p, .d (eRo (breaksM p hs)), .dic (mapG .int B), .d (.list ((staysM p hs).map eR4)), .u, .d (.list (((staysM p hs).filterMap (metM B)).map eR3)), .u, .d (.list ((dangersM p W st hs).map eR3)), .u, .u, .u] (wk_list (e_var rfl)) (by walk_at "le") (fun F1 i d hd => ?_) (nx_go (r_ret e_bl rfl hrt)))
  obtain ⟨r, hr, rfl⟩ := at_map hd
  obtain ⟨r', hr', e1, e2, e3⟩ := told r (List.mem_of_getElem? hr)
  have dl : (dangersM p W st hs).length < sizeLine := by
    have : (dangersM p W st hs).length ≤ (staysM p hs).length := List.length_filterMap_le _ _
    rw [sizeLine_eq]
    omega
  have ex0 : ∀ {Γ : List SV} {q : R3}, Γ[16]? = some (.d (eR3 q)) → Ev (tOp (rIxT K) (tVar 16) (tC (.int 0))) Γ (.d (.str q.1)) := fun {_ q} hg => e_ixT (x := .str q.1) (e_var hg) e_int (by decide) rfl
  have ex1 : ∀ {Γ : List SV} {q : R3}, Γ[16]? = some (.d (eR3 q)) → Ev (tOp (rIxT K) (tVar 16) (tC (.int 1))) Γ (.d (.str q.2.1)) := fun {_ q} hg => e_ixT (x := .str q.2.1) (e_var hg) e_int (by decide) rfl
  have ex2 : ∀ {Γ : List SV} {q : R3}, Γ[16]? = some (.d (eR3 q)) → Ev (tOp (rIxT K) (tVar 16) (tC (.int 2))) Γ (.d (.int q.2.2)) := fun {_ q} hg => e_ixT (x := .int q.2.2) (e_var hg) e_int (by decide) rfl
  refine ⟨_, gd_tup (gds_cons (g_name (by walk_at "set")) (gds_cons (g_name (by walk_at "set")) (gds_cons (g_name (by walk_at "set")) gds_nil))), r_ifF (et_not (et_B (e_cb (d_cons (e_eq (e_freeze (e_lcM (dangersM p W st hs) eR3 (fun o => .bool (decide (o.1 = r.1) && (decide (o.2.1 = r.2.1) && decide (o.2.2 ≤ r.2.2)))) (wk_list (e_var rfl)).c dl fun j o ho => ⟨_, v_name (d := eR3 o) (by walk_at "set"), e_andV2 (e_eqS (ex0 rfl) (e_var rfl)) (e_andV2 (e_eqS (ex1 rfl) (e_var rfl)) (e_le (ex2 rfl) (e_var rfl)))⟩)) (congrArg PyData.list (a₂ := ((dangersM p W st hs).map fun o => decide (o.1 = r.1) && (decide (o.2.1 = r.2.1) && decide (o.2.2 ≤ r.2.2))).map PyData.bool) (by rw [List.map_map]; rfl))) d_nil) cq_any))) ?_ (sr_next (nx_end rfl (by walk_at "le")))⟩
  rw [Bool.not_eq_false', List.any_map, List.any_eq_true]
  refine ⟨r', hr', ?_⟩
  show (decide (r'.1 = r.1) && (decide (r'.2.1 = r.2.1) && decide (r'.2.2 ≤ r.2.2))) = true
  rw [decide_eq_true e1, decide_eq_true e2, decide_eq_true e3]
  rfl
  · exact spL_len K
end Ef
/-! What the head tells, as names' facts; the end. -/
namespace Ef
open PySem PySem.Spec PyProof.Rows L2
theorem tx_of {K : Frag} {h : Heap} {mg : Str → Option Value} (X : K.In h) (G : h.Ns mainGlobals mg) (s : SaysM K) : Nonempty (Tx K mg) := by
  have c := s.d
  obtain ⟨pr, ok⟩ := exL_prop s.ex
  obtain ⟨fdp, Fp⟩ := funA s.fn ok
  obtain ⟨f0, F0⟩ := c.def_ 0 (d := d_check_winds) rfl
  obtain ⟨f1, F1⟩ := c.def_ 1 (d := d_check_changes) rfl
  obtain ⟨f2, F2⟩ := c.def_ 2 (d := d_blowing) rfl
  obtain ⟨f3, F3⟩ := c.def_ 3 (d := d_chances) rfl
  obtain ⟨f4, F4⟩ := c.def_ 4 (d := d_least_numbers) rfl
  obtain ⟨f5, F5⟩ := c.def_ 5 (d := d_is_number) rfl
  obtain ⟨f6, F6⟩ := c.def_ 6 (d := d_check_numbers) rfl
  obtain ⟨f7, F7⟩ := c.def_ 7 (d := d_check_rows) rfl
  obtain ⟨f8, F8⟩ := c.def_ 8 (d := d_least_minutes) rfl
  obtain ⟨f9, F9⟩ := c.def_ 9 (d := d_caught) rfl
  obtain ⟨f10, F10⟩ := c.def_ 10 (d := d_spread) rfl
  obtain ⟨f11, F11⟩ := c.def_ 11 (d := d_check_fire) rfl
  obtain ⟨f12, F12⟩ := c.def_ 12 (d := d_told) rfl
  obtain ⟨f13, F13⟩ := c.def_ 13 (d := d_burning) rfl
  obtain ⟨f14, F14⟩ := c.def_ 14 (d := d_fastest) rfl
  obtain ⟨f15, F15⟩ := c.def_ 15 (d := d_is_name) rfl
  obtain ⟨f16, F16⟩ := c.def_ 16 (d := d_are_different) rfl
  obtain ⟨f17, F17⟩ := c.def_ 17 (d := d_require) rfl
  obtain ⟨f18, F18⟩ := c.def_ 18 (d := d_checked_times) rfl
  obtain ⟨f19, F19⟩ := c.def_ 19 (d := d_Land_init) rfl
  obtain ⟨f20, F20⟩ := c.def_ 20 (d := d_Land_are_ends) rfl
  obtain ⟨f21, F21⟩ := c.def_ 21 (d := d_Land_checked_link) rfl
  obtain ⟨f22, F22⟩ := c.def_ 22 (d := d_Land_checked_path) rfl
  obtain ⟨f23, F23⟩ := c.def_ 23 (d := d_Land_check_place) rfl
  obtain ⟨f24, F24⟩ := c.def_ 24 (d := d_Land_check_wind) rfl
  obtain ⟨f25, F25⟩ := c.def_ 25 (d := d_Land_walks_from) rfl
  obtain ⟨f26, F26⟩ := c.def_ 26 (d := d_Land_minutes_between) rfl
  obtain ⟨f27, F27⟩ := c.def_ 27 (d := d_check_hands) rfl
  obtain ⟨f28, F28⟩ := c.def_ 28 (d := d_Course_init) rfl
  obtain ⟨f29, F29⟩ := c.def_ 29 (d := d_stays) rfl
  obtain ⟨f30, F30⟩ := c.def_ 30 (d := d_breaks_of) rfl
  obtain ⟨f31, F31⟩ := c.def_ 31 (d := d_is_danger) rfl
  obtain ⟨f32, F32⟩ := c.def_ 32 (d := d_dangers) rfl
  obtain ⟨f33, F33⟩ := c.def_ 33 (d := d_is_safe) rfl
  obtain ⟨f34, F34⟩ := c.def_ 34 (d := d_keeps) rfl
  obtain ⟨f35, F35⟩ := c.def_ 35 (d := d_l_row) rfl
  obtain ⟨f36, F36⟩ := c.def_ 36 (d := d_l_numbers) rfl
  obtain ⟨f37, F37⟩ := c.def_ 37 (d := d_l_names) rfl
  obtain ⟨f38, F38⟩ := c.def_ 38 (d := d_l_parts) rfl
  obtain ⟨f39, F39⟩ := c.def_ 39 (d := d_l_weather) rfl
  obtain ⟨f40, F40⟩ := c.def_ 40 (d := d_l_wind) rfl
  obtain ⟨f41, F41⟩ := c.def_ 41 (d := d_l_caught) rfl
  obtain ⟨f42, F42⟩ := c.def_ 42 (d := d_l_fire) rfl
  obtain ⟨f43, F43⟩ := c.def_ 43 (d := d_l_rows) rfl
  obtain ⟨f44, F44⟩ := c.def_ 44 (d := d_l_make) rfl
  obtain ⟨f45, F45⟩ := c.def_ 45 (d := d_l_walks) rfl
  obtain ⟨f46, F46⟩ := c.def_ 46 (d := d_l_hands) rfl
  obtain ⟨f47, F47⟩ := c.def_ 47 (d := d_l_course) rfl
  obtain ⟨f48, F48⟩ := c.def_ 48 (d := d_l_cut) rfl
  obtain ⟨f49, F49⟩ := c.def_ 49 (d := d_l_met) rfl
  obtain ⟨f50, F50⟩ := c.def_ 50 (d := d_l_any_fire) rfl
  obtain ⟨f51, F51⟩ := c.def_ 51 (d := d_law) rfl
  have h0 := He.glo_ok X G (c.fact 0 (f := .glo "check_winds") rfl)
  have h1 := He.glo_ok X G (c.fact 1 (f := .glo "check_changes") rfl)
  have h2 := He.glo_ok X G (c.fact 2 (f := .glo "blowing") rfl)
  have h3 := He.glo_ok X G (c.fact 3 (f := .glo "chances") rfl)
  have h4 := He.glo_ok X G (c.fact 4 (f := .glo "least_numbers") rfl)
  have h5 := He.glo_ok X G (c.fact 5 (f := .glo "is_number") rfl)
  have h6 := He.glo_ok X G (c.fact 6 (f := .glo "check_numbers") rfl)
  have h7 := He.glo_ok X G (c.fact 7 (f := .glo "check_rows") rfl)
  have h8 := He.glo_ok X G (c.fact 8 (f := .glo "least_minutes") rfl)
  have h9 := He.glo_ok X G (c.fact 9 (f := .glo "caught") rfl)
  have h10 := He.glo_ok X G (c.fact 10 (f := .glo "spread") rfl)
  have h11 := He.glo_ok X G (c.fact 11 (f := .glo "check_fire") rfl)
  have h12 := He.glo_ok X G (c.fact 12 (f := .glo "told") rfl)
  have h13 := He.glo_ok X G (c.fact 13 (f := .glo "burning") rfl)
  have h14 := He.glo_ok X G (c.fact 14 (f := .glo "fastest") rfl)
  have h15 := He.glo_ok X G (c.fact 15 (f := .glo "is_name") rfl)
  have h16 := He.glo_ok X G (c.fact 16 (f := .glo "are_different") rfl)
  have h17 := He.glo_ok X G (c.fact 17 (f := .glo "require") rfl)
  have h18 := He.glo_ok X G (c.fact 18 (f := .glo "checked_times") rfl)
  have h19 := He.glo_ok X G (c.fact 19 (f := .glo "check_hands") rfl)
  have h20 := He.glo_ok X G (c.fact 20 (f := .glo "stays") rfl)
  have h21 := He.glo_ok X G (c.fact 21 (f := .glo "breaks_of") rfl)
  have h22 := He.glo_ok X G (c.fact 22 (f := .glo "is_danger") rfl)
  have h23 := He.glo_ok X G (c.fact 23 (f := .glo "dangers") rfl)
  have h24 := He.glo_ok X G (c.fact 24 (f := .glo "is_safe") rfl)
  have h25 := He.glo_ok X G (c.fact 25 (f := .glo "keeps") rfl)
  have h26 := He.glo_ok X G (c.fact 26 (f := .glo "_law_row") rfl)
  have h27 := He.glo_ok X G (c.fact 27 (f := .glo "_law_numbers") rfl)
  have h28 := He.glo_ok X G (c.fact 28 (f := .glo "_law_names") rfl)
  have h29 := He.glo_ok X G (c.fact 29 (f := .glo "_law_parts") rfl)
  have h30 := He.glo_ok X G (c.fact 30 (f := .glo "_law_weather") rfl)
  have h31 := He.glo_ok X G (c.fact 31 (f := .glo "_law_wind") rfl)
  have h32 := He.glo_ok X G (c.fact 32 (f := .glo "_law_caught") rfl)
  have h33 := He.glo_ok X G (c.fact 33 (f := .glo "_law_fire") rfl)
  have h34 := He.glo_ok X G (c.fact 34 (f := .glo "_law_rows") rfl)
  have h35 := He.glo_ok X G (c.fact 35 (f := .glo "_law_make") rfl)
  have h36 := He.glo_ok X G (c.fact 36 (f := .glo "_law_walks") rfl)
  have h37 := He.glo_ok X G (c.fact 37 (f := .glo "_law_hands") rfl)
  have h38 := He.glo_ok X G (c.fact 38 (f := .glo "_law_course") rfl)
  have h39 := He.glo_ok X G (c.fact 39 (f := .glo "_law_cut") rfl)
  have h40 := He.glo_ok X G (c.fact 40 (f := .glo "_law_met") rfl)
  have h41 := He.glo_ok X G (c.fact 41 (f := .glo "_law_any_fire") rfl)
  have h42 := He.glo_ok X G (c.fact 42 (f := .glo "law") rfl)
  have h43 := He.glo_ok X G (c.fact 43 (f := .glo "Land") rfl)
  have h44 := He.glo_ok X G (c.fact 44 (f := .glo "Course") rfl)
  have h45 := He.free_ok X G (c.fact 45 (f := .free "all") rfl)
  have h46 := He.free_ok X G (c.fact 46 (f := .free "any") rfl)
  have h47 := He.free_ok X G (c.fact 47 (f := .free "min") rfl)
  have h48 := He.free_ok X G (c.fact 48 (f := .free "max") rfl)
  have h49 := He.free_ok X G (c.fact 49 (f := .free "len") rfl)
  have h50 := He.free_ok X G (c.fact 50 (f := .free "tuple") rfl)
  have h51 := He.free_ok X G (c.fact 51 (f := .free "list") rfl)
  have h52 := He.free_ok X G (c.fact 52 (f := .free "dict") rfl)
  have h53 := He.free_ok X G (c.fact 53 (f := .free "set") rfl)
  have h54 := He.free_ok X G (c.fact 54 (f := .free "zip") rfl)
  have h55 := He.free_ok X G (c.fact 55 (f := .free "enumerate") rfl)
  have h56 := He.free_ok X G (c.fact 56 (f := .free "range") rfl)
  have h57 := He.free_ok X G (c.fact 57 (f := .free "sorted") rfl)
  have h58 := He.free_ok X G (c.fact 58 (f := .free "int") rfl)
  have h59 := He.free_ok X G (c.fact 59 (f := .free "abs") rfl)
  obtain ⟨t60, h60⟩ := He.int_ok X G (c.fact 60 (f := .int "MOST_CHANGES" 40) rfl)
  obtain ⟨t61, h61⟩ := He.int_ok X G (c.fact 61 (f := .int "MOST_MINUTE" 100000) rfl)
  obtain ⟨t62, h62⟩ := He.int_ok X G (c.fact 62 (f := .int "MOST_NAME_CHARS" 12) rfl)
  obtain ⟨t63, h63⟩ := He.int_ok X G (c.fact 63 (f := .int "MOST_WINDS" 4) rfl)
  obtain ⟨t64, h64⟩ := He.int_ok X G (c.fact 64 (f := .int "MOST_PLACES" 24) rfl)
  obtain ⟨t65, h65⟩ := He.int_ok X G (c.fact 65 (f := .int "MOST_LINKS" 60) rfl)
  obtain ⟨t66, h66⟩ := He.int_ok X G (c.fact 66 (f := .int "MOST_PATHS" 60) rfl)
  obtain ⟨t67, h67⟩ := He.int_ok X G (c.fact 67 (f := .int "MOST_MINUTES_lands" 1000) rfl)
  obtain ⟨t68, h68⟩ := He.int_ok X G (c.fact 68 (f := .int "MOST_HANDS" 5) rfl)
  obtain ⟨t69, h69⟩ := He.int_ok X G (c.fact 69 (f := .int "MOST_DEEDS" 30) rfl)
  obtain ⟨t70, h70⟩ := He.int_ok X G (c.fact 70 (f := .int "MOST_MINUTES_hands" 1000) rfl)
  obtain ⟨t71, h71⟩ := He.str_ok X G (c.fact 71 (f := .str "NAME_CHARS" "abcdefghijklmnopqrstuvwxyz0123456789") rfl)
  have h72 := He.cls_ok (c.fact 72 (f := .cls "Land") rfl)
  have h73 := He.cls_ok (c.fact 73 (f := .cls "Course") rfl)
  have h74 := He.mkr_ok (c.fact 74 (f := .mkr "Land") rfl)
  have h75 := He.mkr_ok (c.fact 75 (f := .mkr "Course") rfl)
  have h76 := He.noat_ok (c.fact 76 (f := .noat "Land" "winds") rfl)
  have h77 := He.noat_ok (c.fact 77 (f := .noat "Land" "places") rfl)
  have h78 := He.noat_ok (c.fact 78 (f := .noat "Land" "links") rfl)
  have h79 := He.noat_ok (c.fact 79 (f := .noat "Land" "paths") rfl)
  have h80 := He.noat_ok (c.fact 80 (f := .noat "Course" "stays") rfl)
  have h81 := He.noat_ok (c.fact 81 (f := .noat "Course" "cuts") rfl)
  have h82 := He.noat_ok (c.fact 82 (f := .noat "Course" "end") rfl)
  have h83 := He.meth_ok (c.fact 83 (f := .meth "Land" "are_ends") rfl)
  have h84 := He.meth_ok (c.fact 84 (f := .meth "Land" "checked_link") rfl)
  have h85 := He.meth_ok (c.fact 85 (f := .meth "Land" "checked_path") rfl)
  have h86 := He.meth_ok (c.fact 86 (f := .meth "Land" "check_place") rfl)
  have h87 := He.meth_ok (c.fact 87 (f := .meth "Land" "check_wind") rfl)
  have h88 := He.meth_ok (c.fact 88 (f := .meth "Land" "walks_from") rfl)
  have h89 := He.meth_ok (c.fact 89 (f := .meth "Land" "minutes_between") rfl)
  exact ⟨{
    fd_check_winds := f0,
    F_check_winds := F0,
    fd_check_changes := f1,
    F_check_changes := F1,
    fd_blowing := f2,
    F_blowing := F2,
    fd_chances := f3,
    F_chances := F3,
    fd_least_numbers := f4,
    F_least_numbers := F4,
    fd_is_number := f5,
    F_is_number := F5,
    fd_check_numbers := f6,
    F_check_numbers := F6,
    fd_check_rows := f7,
    F_check_rows := F7,
    fd_least_minutes := f8,
    F_least_minutes := F8,
    fd_caught := f9,
    F_caught := F9,
    fd_spread := f10,
    F_spread := F10,
    fd_check_fire := f11,
    F_check_fire := F11,
    fd_told := f12,
    F_told := F12,
    fd_burning := f13,
    F_burning := F13,
    fd_fastest := f14,
    F_fastest := F14,
    fd_is_name := f15,
    F_is_name := F15,
    fd_are_different := f16,
    F_are_different := F16,
    fd_require := f17,
    F_require := F17,
    fd_checked_times := f18,
    F_checked_times := F18,
    fd_Land_init := f19,
    F_Land_init := F19,
    fd_Land_are_ends := f20,
    F_Land_are_ends := F20,
    fd_Land_checked_link := f21,
    F_Land_checked_link := F21,
    fd_Land_checked_path := f22,
    F_Land_checked_path := F22,
    fd_Land_check_place := f23,
    F_Land_check_place := F23,
    fd_Land_check_wind := f24,
    F_Land_check_wind := F24,
    fd_Land_walks_from := f25,
    F_Land_walks_from := F25,
    fd_Land_minutes_between := f26,
    F_Land_minutes_between := F26,
    fd_check_hands := f27,
    F_check_hands := F27,
    fd_Course_init := f28,
    F_Course_init := F28,
    fd_stays := f29,
    F_stays := F29,
    fd_breaks_of := f30,
    F_breaks_of := F30,
    fd_is_danger := f31,
    F_is_danger := F31,
    fd_dangers := f32,
    F_dangers := F32,
    fd_is_safe := f33,
    F_is_safe := F33,
    fd_keeps := f34,
    F_keeps := F34,
    fd_l_row := f35,
    F_l_row := F35,
    fd_l_numbers := f36,
    F_l_numbers := F36,
    fd_l_names := f37,
    F_l_names := F37,
    fd_l_parts := f38,
    F_l_parts := F38,
    fd_l_weather := f39,
    F_l_weather := F39,
    fd_l_wind := f40,
    F_l_wind := F40,
    fd_l_caught := f41,
    F_l_caught := F41,
    fd_l_fire := f42,
    F_l_fire := F42,
    fd_l_rows := f43,
    F_l_rows := F43,
    fd_l_make := f44,
    F_l_make := F44,
    fd_l_walks := f45,
    F_l_walks := F45,
    fd_l_hands := f46,
    F_l_hands := F46,
    fd_l_course := f47,
    F_l_course := F47,
    fd_l_cut := f48,
    F_l_cut := F48,
    fd_l_met := f49,
    F_l_met := F49,
    fd_l_any_fire := f50,
    F_l_any_fire := F50,
    fd_law := f51,
    F_law := F51,
    g_check_winds := h0,
    g_check_changes := h1,
    g_blowing := h2,
    g_chances := h3,
    g_least_numbers := h4,
    g_is_number := h5,
    g_check_numbers := h6,
    g_check_rows := h7,
    g_least_minutes := h8,
    g_caught := h9,
    g_spread := h10,
    g_check_fire := h11,
    g_told := h12,
    g_burning := h13,
    g_fastest := h14,
    g_is_name := h15,
    g_are_different := h16,
    g_require := h17,
    g_checked_times := h18,
    g_check_hands := h19,
    g_stays := h20,
    g_breaks_of := h21,
    g_is_danger := h22,
    g_dangers := h23,
    g_is_safe := h24,
    g_keeps := h25,
    g_l_row := h26,
    g_l_numbers := h27,
    g_l_names := h28,
    g_l_parts := h29,
    g_l_weather := h30,
    g_l_wind := h31,
    g_l_caught := h32,
    g_l_fire := h33,
    g_l_rows := h34,
    g_l_make := h35,
    g_l_walks := h36,
    g_l_hands := h37,
    g_l_course := h38,
    g_l_cut := h39,
    g_l_met := h40,
    g_l_any_fire := h41,
    g_law := h42,
    g_Land := h43,
    g_Course := h44,
    m_all := h45,
    m_any := h46,
    m_min := h47,
    m_max := h48,
    m_len := h49,
    m_tuple := h50,
    m_list := h51,
    m_dict := h52,
    m_set := h53,
    m_zip := h54,
    m_enumerate := h55,
    m_range := h56,
    m_sorted := h57,
    m_int := h58,
    m_abs := h59,
    tk_MOST_CHANGES := t60,
    i_MOST_CHANGES := h60,
    tk_MOST_MINUTE := t61,
    i_MOST_MINUTE := h61,
    tk_MOST_NAME_CHARS := t62,
    i_MOST_NAME_CHARS := h62,
    tk_MOST_WINDS := t63,
    i_MOST_WINDS := h63,
    tk_MOST_PLACES := t64,
    i_MOST_PLACES := h64,
    tk_MOST_LINKS := t65,
    i_MOST_LINKS := h65,
    tk_MOST_PATHS := t66,
    i_MOST_PATHS := h66,
    tk_MOST_MINUTES_lands := t67,
    i_MOST_MINUTES_lands := h67,
    tk_MOST_HANDS := t68,
    i_MOST_HANDS := h68,
    tk_MOST_DEEDS := t69,
    i_MOST_DEEDS := h69,
    tk_MOST_MINUTES_hands := t70,
    i_MOST_MINUTES_hands := h70,
    tk_NAME_CHARS := t71,
    i_NAME_CHARS := h71,
    cLand := h72,
    cCourse := h73,
    mkLand := h74,
    mkCourse := h75,
    n_winds := h76,
    n_places := h77,
    n_links := h78,
    n_paths := h79,
    n_stays := h80,
    n_cuts := h81,
    n_end := h82,
    me_are_ends := h83,
    me_checked_link := h84,
    me_checked_path := h85,
    me_check_place := h86,
    me_check_wind := h87,
    me_walks_from := h88,
    me_minutes_between := h89,
    fd_Land_link_names := fdp,
    F_Land_link_names := Fp,
    prop := pr }⟩
end Ef
set_option maxHeartbeats 0
namespace Ef
open PySem PySem.Spec PyProof.Rows L2
theorem law_binds {K : Frag} {mg : Str → Option Value} (T : Tx K mg) : ∀ (s : Shared) (v : Value), BindsTo s T.fd_law ⟨[v], []⟩ [("_law_script", v)] := fun s v =>
  (FunD.bindsA (ps := ["_law_script"]) T.F_law fun _ _ _ _ _ _ us hl => match us, hl with | [_], _ => rfl) s [v] rfl
end Ef
open PySem PySem.W PySem.Calls PyProof.Rows
theorem PySem.Challenge.cw_everyfire_k45_whole_no_fire_meets_safe_h_holds : PySem.Challenge.rw_everyfire_k45_whole_no_fire_meets_safe_h.Holds := by
  w_on; o_law
  refine HandSHeadRun.head_any (r := OpenLaw.row PySem.Challenge.rw_everyfire_k45_whole_no_fire_meets_safe_h) (q := view (OpenLaw.row PySem.Challenge.rw_everyfire_k45_whole_no_fire_meets_safe_h).prog [69]) (H := Ef.hookM 7) (ob := Ef.obR) (M := 6000) (loose := Ef.loo) (d := HandSHeadRun.topDef (OpenLaw.row PySem.Challenge.rw_everyfire_k45_whole_no_fire_meets_safe_h).prog 69) (kwd := []) Ef.obR_eq
    (by kernel_rfl) (fun s => by kernel_rfl) Ef.run (by kernel_rfl) (by kernel_rfl) (by kernel_rfl) (by rfl) (by first | assumption | decide +kernel) (by decide +kernel) ⟨rfl, rfl, rfl, rfl, rfl, by decide +kernel⟩ ?hw ?hc
  case hw => w_witness2
  case hc =>
    refine L2.walk_ofE (l := PySem.Challenge.rw_everyfire_k45_whole_no_fire_meets_safe_h) (n := 63) (k := 10) (x := "_law_script") (CX := L2.CX0) rfl (by decide) (by kernel_rfl) ⟨rfl, by decide, by decide⟩ ?F (fun _ _ _ _ z => z)
    intro w mg fa h Y G hmg0
    obtain ⟨K, KX, c⟩ := Y
    have hmg : mg ("law" : PySem.Str) = some (.ref fa) := by
      have e : (HandSHeadRun.topDef (OpenLaw.row PySem.Challenge.rw_everyfire_k45_whole_no_fire_meets_safe_h).prog 69).name = ("law" : PySem.Str) := by kernel_rfl
      rw [← e]
      exact hmg0
    obtain ⟨T⟩ := Ef.tx_of KX G c
    have e := hmg.symm.trans T.g_law
    cases e
    exact ⟨K, T.fd_law, Ef.spL K, KX, Ef.law_binds T, fun H a ns hl _ hS => ⟨a, ns, rfl, hS, fun _ => rfl⟩, fun base _ _ => Ef.ok_law T⟩
