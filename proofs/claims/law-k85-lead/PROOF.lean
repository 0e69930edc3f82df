import PyProof.Rows.All
import Wide.All
import OpenK.AllK
import Wide.FinOn
import HandS.ForMost
import HandS.Defaults
import HandS.HeadHook1
import HandS.HeadHook2
import HandS.ExcInit
import PySem.Challenge.RW_tailheard_k85_whole_lead_run
import KE.KStateDown
import HandS.Head0
import HandS.Head1
import HandS.Head2
import HandS.HeadEnd
import KE.GoesNew
import KE.GoesEnum
import KE.GoesMore
import HandS.Exc
import HandS.IsInst
import HandS.StrMore
import HandS.TupAny
import HandS.Flow
import HandS.Conv
import HandS.Codes
import PyProof.StrOps2
import PyProof.Rows.RuleB_pow
import HandS.Walk
import KE.KeyNested
import KE.SortData
import KE.KDictKeyed
import HandS.More
import HandS.Replace
import HandS.Strs
import PyProof.CollectStr
import HandS.MapObj
import HandS.TryOnly
import HandS.WordsExc
section
set_option Elab.async false
set_option linter.all false
set_option maxRecDepth 100000
namespace TH
open PySem PySem.Spec PyProof.Rows L2
/-! ### the text by places -/
def topS (i : Nat) : Stmt := PySem.Challenge.pw_tailheard_k85_whole_lead_run.main.body.getD i (.Pass ⟨0, 0, 0, 0⟩)
abbrev s_TooMany_init : Stmt := inClass (topS 17) 0
abbrev s_is_integer : Stmt := topS 24
abbrev s_deep : Stmt := topS 25
abbrev s_is_capital : Stmt := topS 26
abbrev s_is_lot : Stmt := topS 27
abbrev s_is_words : Stmt := topS 28
abbrev s_is_rising : Stmt := topS 29
abbrev s_check_calling : Stmt := topS 30
abbrev s_is_wish : Stmt := topS 31
abbrev s_check_wish : Stmt := topS 32
abbrev s_check_signs : Stmt := topS 34
abbrev s_check_columns : Stmt := topS 35
abbrev s_reached_states : Stmt := topS 36
abbrev s_neighbours_of : Stmt := topS 37
abbrev s_kinds_of_columns : Stmt := topS 38
abbrev s_is_standing : Stmt := topS 40
abbrev s_bad_standing : Stmt := topS 41
abbrev s_Drill_init : Stmt := inClass (topS 42) 1
abbrev s_is_kind : Stmt := topS 44
abbrev s_check_kinds : Stmt := topS 45
abbrev s_seats_of : Stmt := topS 46
abbrev s_Make_init : Stmt := inClass (topS 47) 0
abbrev s_Make_check_name : Stmt := inClass (topS 47) 2
abbrev s_Make_seat_of : Stmt := inClass (topS 47) 4
abbrev s_check_goal : Stmt := topS 49
abbrev s_Field_init : Stmt := inClass (topS 50) 0
abbrev s_Field_first_joint : Stmt := inClass (topS 50) 1
abbrev s_Field_led : Stmt := inClass (topS 50) 2
abbrev s_Field_keeps : Stmt := inClass (topS 50) 3
abbrev s_Field_settled : Stmt := inClass (topS 50) 4
abbrev s_search : Stmt := topS 51
abbrev s_Lead_init : Stmt := inClass (topS 52) 0
abbrev s_Lead_bool : Stmt := inClass (topS 52) 1
abbrev s_check_column : Stmt := topS 54
abbrev s_Column_init : Stmt := inClass (topS 55) 0
abbrev s_is_plan_sign : Stmt := topS 57
abbrev s_is_state : Stmt := topS 58
abbrev s_live_states : Stmt := topS 59
abbrev s_step_rows_of : Stmt := topS 64
abbrev s_Plan_init : Stmt := inClass (topS 65) 0
abbrev s_traced : Stmt := topS 67
abbrev s_gaps_between : Stmt := topS 68
abbrev s_breach_of_rows : Stmt := topS 69
abbrev s_Run_init : Stmt := inClass (topS 70) 0
abbrev s_Run_check_beat : Stmt := inClass (topS 70) 1
abbrev s_Run_standings_at : Stmt := inClass (topS 70) 2
abbrev s_Run_first_breach : Stmt := inClass (topS 70) 6
abbrev s_law_draw : Stmt := topS 72
abbrev s_law_mix : Stmt := topS 73
abbrev s_law_pick : Stmt := topS 74
abbrev s_law_listed : Stmt := topS 75
abbrev s_law_words : Stmt := topS 76
abbrev s_law_names : Stmt := topS 77
abbrev s_law_drill : Stmt := topS 78
abbrev s_law_even_drill : Stmt := topS 79
abbrev s_law_kind : Stmt := topS 80
abbrev s_law_seat : Stmt := topS 81
abbrev s_law_all_names : Stmt := topS 82
abbrev s_law_led : Stmt := topS 83
abbrev s_law_plan : Stmt := topS 84
abbrev s_law_reaches : Stmt := topS 85
abbrev s_law_neighbours : Stmt := topS 86
abbrev s_law_trace : Stmt := topS 87
abbrev s_law_column : Stmt := topS 88
abbrev s_law_run : Stmt := topS 89
abbrev s_law_borne_column : Stmt := topS 90
abbrev s_law_world : Stmt := topS 91
abbrev s_law_single_names : Stmt := topS 92
abbrev s_law_arrives : Stmt := topS 93
abbrev s_law_leads : Stmt := topS 94
abbrev s_law_longer : Stmt := topS 95
abbrev s_law_texts : Stmt := topS 96
abbrev s_law_in_column : Stmt := topS 97
abbrev s_law : Stmt := topS 98
def fnD (at_ : Str × Option Str) (x q : Str) (st : Stmt) (dfl : List He.Dv) : He.DefD := ⟨at_, x, q, defArgs st, defBody st, defScope st, dfl, []⟩
def fn : List He.DefD := [
  fnD ("TooMany", some "__init__") "__init__" "TooMany.__init__" s_TooMany_init [],
  fnD ("is_integer", none) "is_integer" "is_integer" s_is_integer [],
  fnD ("deep", none) "deep" "deep" s_deep [.int 12],
  fnD ("is_capital", none) "is_capital" "is_capital" s_is_capital [],
  fnD ("is_lot", none) "is_lot" "is_lot" s_is_lot [],
  fnD ("is_words", none) "is_words" "is_words" s_is_words [],
  fnD ("is_rising", none) "is_rising" "is_rising" s_is_rising [],
  fnD ("check_calling", none) "check_calling" "check_calling" s_check_calling [.int 400],
  fnD ("is_wish", none) "is_wish" "is_wish" s_is_wish [],
  fnD ("check_wish", none) "check_wish" "check_wish" s_check_wish [],
  fnD ("check_signs", none) "check_signs" "check_signs" s_check_signs [],
  fnD ("check_columns", none) "check_columns" "check_columns" s_check_columns [],
  fnD ("reached_states", none) "reached_states" "reached_states" s_reached_states [],
  fnD ("neighbours_of", none) "neighbours_of" "neighbours_of" s_neighbours_of [],
  fnD ("kinds_of_columns", none) "kinds_of_columns" "kinds_of_columns" s_kinds_of_columns [],
  fnD ("is_standing", none) "is_standing" "is_standing" s_is_standing [],
  fnD ("bad_standing", none) "bad_standing" "bad_standing" s_bad_standing [],
  fnD ("Drill", some "__init__") "__init__" "Drill.__init__" s_Drill_init [],
  fnD ("is_kind", none) "is_kind" "is_kind" s_is_kind [],
  fnD ("check_kinds", none) "check_kinds" "check_kinds" s_check_kinds [],
  fnD ("seats_of", none) "seats_of" "seats_of" s_seats_of [],
  fnD ("Make", some "__init__") "__init__" "Make.__init__" s_Make_init [.int 1, .adr (He.dflAt ("Make", some "__init__") 1)],
  fnD ("Make", some "check_name") "check_name" "Make.check_name" s_Make_check_name [],
  fnD ("Make", some "seat_of") "seat_of" "Make.seat_of" s_Make_seat_of [],
  fnD ("check_goal", none) "check_goal" "check_goal" s_check_goal [],
  fnD ("Field", some "__init__") "__init__" "Field.__init__" s_Field_init [],
  fnD ("Field", some "first_joint") "first_joint" "Field.first_joint" s_Field_first_joint [],
  fnD ("Field", some "led") "led" "Field.led" s_Field_led [],
  fnD ("Field", some "keeps") "keeps" "Field.keeps" s_Field_keeps [],
  fnD ("Field", some "settled") "settled" "Field.settled" s_Field_settled [],
  fnD ("search", none) "search" "search" s_search [],
  fnD ("Lead", some "__init__") "__init__" "Lead.__init__" s_Lead_init [],
  fnD ("Lead", some "__bool__") "__bool__" "Lead.__bool__" s_Lead_bool [],
  fnD ("check_column", none) "check_column" "check_column" s_check_column [.int 60],
  fnD ("Column", some "__init__") "__init__" "Column.__init__" s_Column_init [],
  fnD ("is_plan_sign", none) "is_plan_sign" "is_plan_sign" s_is_plan_sign [],
  fnD ("is_state", none) "is_state" "is_state" s_is_state [],
  fnD ("live_states", none) "live_states" "live_states" s_live_states [],
  fnD ("step_rows_of", none) "step_rows_of" "step_rows_of" s_step_rows_of [],
  fnD ("Plan", some "__init__") "__init__" "Plan.__init__" s_Plan_init [.non],
  fnD ("traced", none) "traced" "traced" s_traced [],
  fnD ("gaps_between", none) "gaps_between" "gaps_between" s_gaps_between [],
  fnD ("breach_of_rows", none) "breach_of_rows" "breach_of_rows" s_breach_of_rows [],
  fnD ("Run", some "__init__") "__init__" "Run.__init__" s_Run_init [.non],
  fnD ("Run", some "check_beat") "check_beat" "Run.check_beat" s_Run_check_beat [],
  fnD ("Run", some "standings_at") "standings_at" "Run.standings_at" s_Run_standings_at [],
  fnD ("Run", some "first_breach") "first_breach" "Run.first_breach" s_Run_first_breach [],
  fnD ("_law_draw", none) "_law_draw" "_law_draw" s_law_draw [],
  fnD ("_law_mix", none) "_law_mix" "_law_mix" s_law_mix [],
  fnD ("_law_pick", none) "_law_pick" "_law_pick" s_law_pick [],
  fnD ("_law_listed", none) "_law_listed" "_law_listed" s_law_listed [],
  fnD ("_law_words", none) "_law_words" "_law_words" s_law_words [],
  fnD ("_law_names", none) "_law_names" "_law_names" s_law_names [],
  fnD ("_law_drill", none) "_law_drill" "_law_drill" s_law_drill [],
  fnD ("_law_even_drill", none) "_law_even_drill" "_law_even_drill" s_law_even_drill [],
  fnD ("_law_kind", none) "_law_kind" "_law_kind" s_law_kind [],
  fnD ("_law_seat", none) "_law_seat" "_law_seat" s_law_seat [],
  fnD ("_law_all_names", none) "_law_all_names" "_law_all_names" s_law_all_names [],
  fnD ("_law_led", none) "_law_led" "_law_led" s_law_led [],
  fnD ("_law_plan", none) "_law_plan" "_law_plan" s_law_plan [],
  fnD ("_law_reaches", none) "_law_reaches" "_law_reaches" s_law_reaches [],
  fnD ("_law_neighbours", none) "_law_neighbours" "_law_neighbours" s_law_neighbours [],
  fnD ("_law_trace", none) "_law_trace" "_law_trace" s_law_trace [],
  fnD ("_law_column", none) "_law_column" "_law_column" s_law_column [],
  fnD ("_law_run", none) "_law_run" "_law_run" s_law_run [],
  fnD ("_law_borne_column", none) "_law_borne_column" "_law_borne_column" s_law_borne_column [],
  fnD ("_law_world", none) "_law_world" "_law_world" s_law_world [],
  fnD ("_law_single_names", none) "_law_single_names" "_law_single_names" s_law_single_names [],
  fnD ("_law_arrives", none) "_law_arrives" "_law_arrives" s_law_arrives [],
  fnD ("_law_leads", none) "_law_leads" "_law_leads" s_law_leads [],
  fnD ("_law_longer", none) "_law_longer" "_law_longer" s_law_longer [],
  fnD ("_law_texts", none) "_law_texts" "_law_texts" s_law_texts [],
  fnD ("_law_in_column", none) "_law_in_column" "_law_in_column" s_law_in_column [],
  fnD ("law", none) "law" "law" s_law []]
def fa : List He.Fa := [.glo "is_integer",
  .glo "deep",
  .glo "is_capital",
  .glo "is_lot",
  .glo "is_words",
  .glo "is_rising",
  .glo "check_calling",
  .glo "is_wish",
  .glo "check_wish",
  .glo "check_signs",
  .glo "check_columns",
  .glo "reached_states",
  .glo "neighbours_of",
  .glo "kinds_of_columns",
  .glo "is_standing",
  .glo "bad_standing",
  .glo "is_kind",
  .glo "check_kinds",
  .glo "seats_of",
  .glo "check_goal",
  .glo "search",
  .glo "check_column",
  .glo "is_plan_sign",
  .glo "is_state",
  .glo "live_states",
  .glo "step_rows_of",
  .glo "traced",
  .glo "gaps_between",
  .glo "breach_of_rows",
  .glo "_law_draw",
  .glo "_law_mix",
  .glo "_law_pick",
  .glo "_law_listed",
  .glo "_law_words",
  .glo "_law_names",
  .glo "_law_drill",
  .glo "_law_even_drill",
  .glo "_law_kind",
  .glo "_law_seat",
  .glo "_law_all_names",
  .glo "_law_led",
  .glo "_law_plan",
  .glo "_law_reaches",
  .glo "_law_neighbours",
  .glo "_law_trace",
  .glo "_law_column",
  .glo "_law_run",
  .glo "_law_borne_column",
  .glo "_law_world",
  .glo "_law_single_names",
  .glo "_law_arrives",
  .glo "_law_leads",
  .glo "_law_longer",
  .glo "_law_texts",
  .glo "_law_in_column",
  .glo "law",
  .glo "Drill",
  .glo "Make",
  .glo "Field",
  .glo "Lead",
  .glo "Column",
  .glo "Plan",
  .glo "Run",
  .glo "TooMany",
  .free "isinstance",
  .free "int",
  .free "bool",
  .free "list",
  .free "tuple",
  .free "str",
  .free "len",
  .free "all",
  .free "zip",
  .free "enumerate",
  .free "range",
  .free "sorted",
  .free "max",
  .free "min",
  .free "abs",
  .free "sum",
  .cls "Drill",
  .mkr "Drill",
  .noat "Drill" "bodies",
  .noat "Drill" "leads",
  .noat "Drill" "signs",
  .noat "Drill" "standings",
  .noat "Drill" "strides",
  .noat "Drill" "words",
  .cls "Make",
  .mkr "Make",
  .noat "Make" "drills",
  .noat "Make" "kinds",
  .noat "Make" "lags",
  .noat "Make" "name_row",
  .noat "Make" "seat_table",
  .noat "Make" "seats",
  .noat "Make" "signs",
  .noat "Make" "space",
  .noat "Make" "words",
  .meth "Make" "check_name",
  .meth "Make" "seat_of",
  .cls "Field",
  .mkr "Field",
  .noat "Field" "goal",
  .noat "Field" "kinds",
  .noat "Field" "make",
  .noat "Field" "twos",
  .noat "Field" "wish",
  .meth "Field" "first_joint",
  .meth "Field" "led",
  .meth "Field" "keeps",
  .meth "Field" "settled",
  .cls "Lead",
  .mkr "Lead",
  .noat "Lead" "calling",
  .noat "Lead" "holds",
  .noat "Lead" "rows",
  .noat "Lead" "table",
  .meth "Lead" "__bool__",
  .cls "Column",
  .mkr "Column",
  .noat "Column" "delay_list",
  .noat "Column" "front_list",
  .noat "Column" "groups",
  .noat "Column" "make",
  .noat "Column" "whole_length",
  .cls "Plan",
  .mkr "Plan",
  .noat "Plan" "ends",
  .noat "Plan" "is_end",
  .noat "Plan" "states",
  .noat "Plan" "step_rows",
  .noat "Plan" "table",
  .cls "Run",
  .mkr "Run",
  .noat "Run" "beats",
  .noat "Run" "calling",
  .noat "Run" "column",
  .noat "Run" "front_rows",
  .noat "Run" "rows",
  .meth "Run" "check_beat",
  .meth "Run" "standings_at",
  .meth "Run" "first_breach",
  .meth "TooMany" "__init__",
  .noat "TooMany" "word",
  .keep "TooMany",
  .exm "TooMany" "TooMany" true]

/-! ### what the head leaves, by names -/
/-- the class TooMany is an own exception class over ValueError -/
def exChk (K : PySem.W.Frag) : Bool := (match K.lookup (He.ga K "TooMany") with
  | some ⟨.type "type", _, .cls cd, sl⟩ => (match cd.mro, sl.toList with
    | .ref C' :: bm, [_, _, _, _, some (.builtin n), _] => C' == He.ga K "TooMany" && n == "ValueError.__new__" && !cd.hasDel && (cd.hasDict && PySem.HandSPX.refsVE bm)
    | _, _ => false)
  | _ => false) && He.eqO (PySem.W.findIn K (.ref (He.ga K "TooMany")) "__setattr__") (some (some (.builtin "object.__setattr__")))
end TH
end
section
set_option Elab.async false
set_option linter.all false
set_option maxRecDepth 100000
set_option maxHeartbeats 0
namespace TH
open PySem PySem.Spec PyProof.Rows L2
/-! ### the head's hook: what the module's names reach, level by level -/
def refX (o : Obj) : List Addr := match o.data with
  | .dict es _ => es.toList.flatMap fun e => He.refV e.val
  | .func fd => He.refV fd.code ++ He.refV fd.defaults
  | .cls cd => [cd.ns]
  | _ => []
def lvX (g : Addr → Option Obj) (as : List Addr) : List Addr := as.flatMap fun a => match g a with
  | some o => refX o
  | none => []
def asX (g : Addr → Option Obj) : List Addr :=
  let l1 := lvX g [mainGlobals]
  let l2 := lvX g l1
  let l3 := lvX g l2
  [mainGlobals] ++ (l1 ++ (l2 ++ (l3 ++ lvX g l3)))
def forceK {α : Type} : PySem.W.Frag → (PySem.W.Frag → α) → α
  | [], k => k []
  | (a, ⟨c, d, dt, sl⟩) :: r, k => HandSHeadRun.frNat a fun a => forceK r fun r => k ((a, ⟨c, d, dt, sl⟩) :: r)
theorem forceK_eq {α : Type} : ∀ (K : PySem.W.Frag) (k : PySem.W.Frag → α), forceK K k = k K
  | [], _ => rfl
  | (a, ⟨c, d, dt, sl⟩) :: r, k => by
    show (HandSHeadRun.frNat a fun a => forceK r fun r => k ((a, ⟨c, d, dt, sl⟩) :: r)) = _
    rw [HandSHeadRun.frNat_eq, forceK_eq]
abbrev AlX : Type := Bool × He.AlD
def obX (g : Addr → Option Obj) : AlX := forceK (He.frG g (asX g)) fun K => (exChk K, He.obsD fa fn K)
def hkX : PySem.W.Hook where
  α := AlX
  obs := fun s => obX s.heap.get?
  val := fun _ => (true, He.valD fn)
  says := fun _ h => ∃ K : PySem.W.Frag, K.In h ∧ exChk K = true ∧ He.SaysD fa fn K
  of := fun w s e => ⟨He.frG s.heap.get? (asX s.heap.get?), He.frG_in, by
    have e1 : obX s.heap.get? = (true, He.valD fn) := e
    unfold obX at e1
    rw [forceK_eq] at e1
    exact ⟨congrArg (fun z : AlX => z.1) e1, congrArg (fun z : AlX => z.2) e1⟩⟩
  keeps := fun _ _ _ ⟨K, hK, c⟩ k => ⟨K, PySem.W.Frag.In.keeps hK k, c⟩
abbrev rowX : PySem.W.OpenRow := PySem.W.OpenLaw.row PySem.Challenge.rw_tailheard_k85_whole_lead_run
def nm0 : List PySem.Str := ["_wall", "TailError", "BadWords", "BadStanding", "BadKind", "BadSpace", "BadSeat", "BadColumn", "BadCalling", "BadBeats", "BadWish", "BadPlan", "BadSign", "BadGoal", "BadNumber", "BadMost", "TooMany", "Twice", "Unknown", "Unlike", "Empty", "NoStanding", "is_integer", "deep", "is_capital", "is_lot", "is_words", "is_rising", "check_calling", "is_wish"]
def nm1 : List PySem.Str := ["check_wish", "check_signs", "check_columns", "reached_states", "neighbours_of", "kinds_of_columns", "is_standing", "bad_standing", "Drill", "is_kind", "check_kinds", "seats_of", "Make", "check_goal", "Field", "search", "Lead", "check_column", "Column", "is_plan_sign", "is_state", "live_states", "classes_of", "least_of", "paired", "ends_within", "step_rows_of", "Plan", "traced", "gaps_between"]
def nm2 : List PySem.Str := ["breach_of_rows", "Run", "_law_draw", "_law_mix", "_law_pick", "_law_listed", "_law_words", "_law_names", "_law_drill", "_law_even_drill", "_law_kind", "_law_seat", "_law_all_names", "_law_led", "_law_plan", "_law_reaches", "_law_neighbours", "_law_trace", "_law_column", "_law_run", "_law_borne_column", "_law_world", "_law_single_names", "_law_arrives", "_law_leads", "_law_longer", "_law_texts", "_law_in_column"]
def namesX : List PySem.Str := nm0 ++ nm1 ++ nm2
def obT (s : PySem.W.SharedT) : AlX := obX (HandSHeadRun.getT s)
theorem obT_eq (s : PySem.W.SharedT) : obT s = hkX.obs s.abs := by
  show obX (HandSHeadRun.getT s) = obX s.abs.heap.get?
  rw [show HandSHeadRun.getT s = s.abs.heap.get? from funext (HandSHeadRun.getT_eq s)]
theorem saysX (w : PySem.World) (os : PySem.OsState) : (HandSHeadRun.endF (HandSHeadRun.stepQ (HandSHeadRun.denQ HandSHeadRun.tabQ) rowX.prog w) 20000 rowX.prog w os).map obT = some (true, He.valD fn) := by
  kernel_rfl
theorem looksX (w : PySem.World) (os : PySem.OsState) : (HandSHeadRun.endF (HandSHeadRun.stepQ (HandSHeadRun.denQ HandSHeadRun.tabQ) rowX.prog w) 20000 rowX.prog w os).map (fun s => (HandSHeadRun.looksF rowX.prog (PySem.W.boot_heap w.params) s.abs, HandSHeadRun.seenQ (PySem.W.view rowX.prog [98]) namesX (importedModules rowX.prog.main.body) (fun s => PySem.W.xlAt (PySem.W.view rowX.prog [98]) [] s && PySem.W.recOk rowX.toRowW.records s) s.abs)) = some (true, PySem.W.openGood (PySem.W.view rowX.prog [98]) namesX) := by
  kernel_rfl
theorem map_both {α β γ δ : Type} {o : Option α} {f : α → β} {g : α → γ} {h : α → δ} {a : β × γ} {b : δ} (e1 : o.map (fun s => (f s, g s)) = some a) (e2 : o.map h = some b) : o.map (fun s => (f s, g s, h s)) = some (a.1, a.2, b) := by
  cases o with
  | none => cases e1
  | some s =>
    have q1 : (f s, g s) = a := Option.some.inj e1
    have q2 : h s = b := Option.some.inj e2
    subst q1 q2
    rfl
theorem runX (w : PySem.World) : HandSHeadRun.RunEq rowX (PySem.W.view rowX.prog [98]) hkX obT 20000 namesX w := fun os => map_both (looksX w os) (saysX w os)
end TH
end
section
set_option Elab.async false
set_option linter.all false
set_option maxRecDepth 100000
/-! zip of two or three, enumerate: over lists, tuples, texts in any mix -/
namespace TH
open PySem PySem.Spec PyProof.Rows L2

set_option maxHeartbeats 1000000 in
theorem meets_enum1 {v : Value} {o : Obj} {H : Heap → Prop} (B : Begins v o H) :
    Meets (Builtin.«enumerate.__new__» ⟨[.type "enumerate", v], []⟩) (fun _ R s => H s.heap ∧
      R (.ok (.ret (.ref (s.heap.push o).objs.size))) { s with heap := (s.heap.push o).push { cls := .type "enumerate", data := .fields #[.none, .bool false, .ref s.heap.objs.size, rawInt 0, .none, .none] } }) :=
  .of_wp fun prog w A R s h => by
    obtain ⟨hp, g, d, tk, os⟩ := s; obtain ⟨h1, h⟩ := h
    have hsub := sub_enumerate
    have q1 : ∀ {A' : Around} {E : Value → Shared → Prop} {Q : Value → Shared → Prop}, Q (.ref hp.objs.size) ⟨hp.push o, g, d, tk, os⟩ → wpAny (model prog w) A' (pyIter v) Q E ⟨hp, g, d, tk, os⟩ :=
      fun q => B.iter prog w _ _ ⟨hp, g, d, tk, os⟩ _ h1 q
    wp_walk using q1
    refine wpAny_stack_any fun st => wpAny_pure ?_
    split
    · rename_i c _ _ _ _ _
      cases (c == Value.type "enumerate")
      · wp_walk using q1
        exact ⟨_, rfl, h⟩
      · wp_walk using q1
        exact ⟨_, rfl, h⟩
    · wp_walk using q1
      exact ⟨_, rfl, h⟩
section
variable {prog : Program} {w : World} {A : Around} {E : Value → Shared → Prop} {s : Shared}
theorem enum_begins1 {v : Value} {o : Obj} {H : Heap → Prop} {Q : Value → Shared → Prop} (B : Begins v o H) (h1 : H s.heap)
    (h : ∀ h', IsEnum h' (s.heap.objs.size + 1) s.heap.objs.size 0 .none → h'.get? s.heap.objs.size = some o → h'.objs.size = s.heap.objs.size + 2 →
      (∀ b o, s.heap.get? b = some o → h'.get? b = some o) → Q (.ref (s.heap.objs.size + 1)) { s with heap := h' }) :
    wpAny (model prog w) A (call (.type "enumerate") [v]) Q E s := by
  refine callType_new F.called_enumerate (by decide) (F.typeCall_enumerate_1 _) (F.newCall_enumerate_1 _) (fun obj => F.args_object_init_2 obj _) F.entry_enumerate_new
    (meets_enum1 B) ⟨h1, ?_⟩
  have hz : (s.heap.push o).objs.size = s.heap.objs.size + 1 := Heap.size_push ..
  show _ ∧ _
  rw [hz]
  have he : IsEnum ((s.heap.push o).push { cls := .type "enumerate", data := .fields #[.none, .bool false, .ref s.heap.objs.size, rawInt 0, .none, .none] }) (s.heap.objs.size + 1) s.heap.objs.size 0 .none := by
    have := Heap.get?_push_size (s.heap.push o) (o := { cls := .type "enumerate", data := .fields #[.none, .bool false, .ref s.heap.objs.size, rawInt 0, .none, .none] }) rfl
    rw [hz] at this; exact this
  refine ⟨⟨_, he, rfl⟩, h _ he (Heap.get?_push_of_some _ (Heap.get?_push_size _ B.free)) (by rw [Heap.size_push, hz]) fun b o x => Heap.get?_push_of_some _ (Heap.get?_push_of_some _ x)⟩
end
inductive Src where
  | lst (a : Addr) | tup (a : Addr) | txt (z : Str)
def Src.v : Src → V
  | .lst a => .ref a
  | .tup a => .ref a
  | .txt z => .str z
def Src.fp : Src → List Addr
  | .lst a => [a]
  | .tup a => [a]
  | .txt _ => []
def signsV (z : Str) : List V := z.cps.toList.map fun c => V.str ⟨#[c]⟩
def SrcOk (K : PySem.W.Frag) (H : Hp) : Src → List V → Prop
  | .lst a, xs => SqL K H a xs
  | .tup a, xs => SqT K H a xs
  | .txt z, xs => xs = signsV z
def ItAt (t : Tok) : Src → Heap → Addr → Nat → Prop
  | .lst a, h, it, i => h.IsListIter it a i
  | .tup a, h, it, i => h.IsTupleIter it a i
  | .txt z, h, it, i => h.IsStrIter it (strIterType z) z t i
section
variable {X : Cx} {pins : List (Addr × Obj)} {σ : L2.St} {H : Hp} {s : Shared}
theorem SrcOk.inj (I : Inv X pins σ H s) {src : Src} {xs ys : List V} (h : SrcOk X.K H src xs) (h' : SrcOk X.K H src ys) : xs = ys := by
  cases src with
  | lst a => exact I.list_inj h h'
  | tup a => exact I.tuple_inj h h'
  | txt z => exact h.trans h'.symm
theorem ItAt.obj {t : Tok} {src : Src} {h : Heap} {it : Addr} {i : Nat} (x : ItAt t src h it i) : ∃ o, h.get? it = some o ∧ ∀ v, o.data ≠ .cell v := by
  cases src with
  | lst a => obtain ⟨o, e, _, d⟩ := x; exact ⟨o, e, fun v q => by rw [d] at q; cases q⟩
  | tup a => obtain ⟨o, e, _, d⟩ := x; exact ⟨o, e, fun v q => by rw [d] at q; cases q⟩
  | txt z => obtain ⟨o, e, _, d⟩ := x; exact ⟨o, e, fun v q => by rw [d] at q; cases q⟩
theorem ItAt.keeps {t : Tok} {src : Src} {h h' : Heap} {it : Addr} {i : Nat} (x : ItAt t src h it i) (k : ∀ o, h.get? it = some o → h'.get? it = some o) : ItAt t src h' it i := by
  cases src with
  | lst a => obtain ⟨o, e, r⟩ := x; exact ⟨o, k o e, r⟩
  | tup a => obtain ⟨o, e, r⟩ := x; exact ⟨o, k o e, r⟩
  | txt z => obtain ⟨o, e, r⟩ := x; exact ⟨o, k o e, r⟩
theorem signs_size (z : Str) : z.cps.size = (signsV z).length := by simp [signsV]
theorem signs_get {z : Str} {i : Nat} {c : Nat} (h : z.cps[i]? = some c) : (signsV z)[i]? = some (.str ⟨#[c]⟩) := by
  unfold signsV
  rw [List.getElem?_map, Array.getElem?_toList, h]
  rfl
/-- what an iterator over a source draws -/
theorem src_draw (I : Inv X pins σ H s) {src : Src} {xs : List V} (ok : SrcOk X.K H src xs) {A : Around} (hh : A.handled = none) {it : Addr} (hne : ∀ b ∈ src.fp, b ≠ it) (t : Tok) :
    ∃ (P : Nat → Value → Prop) (St : Nat → Heap → Prop), Draws X.prog X.w A it (it :: src.fp) xs.length P St ∧ (∀ i, ItAt t src s.heap it i → St i s.heap) ∧ (∀ i h, St i h → ItAt t src h it i) ∧
      ∀ i v, P i v → ∃ x, xs[i]? = some x ∧ RelV x v := by
  cases src with
  | lst a =>
    obtain ⟨its, rv, p, _⟩ := I.list ok
    have e : its.toArray.size = xs.length := by rw [rv.length]; simp
    rw [← e]
    refine ⟨_, _, Draws.list hh it a (hne a (List.mem_cons_self ..)) its.toArray, fun i st => ⟨st, p.isList⟩, fun i h st => st.1, fun i v hv => ?_⟩
    have hv' : its[i]? = some v := by simpa using hv
    obtain ⟨hi, ev⟩ := List.getElem?_eq_some_iff.mp hv'
    have hx : i < xs.length := by rw [rv.length]; exact hi
    obtain ⟨u, hu, ru⟩ := rv.get (List.getElem?_eq_getElem hx)
    rw [hv'] at hu
    cases hu
    exact ⟨_, List.getElem?_eq_getElem hx, ru⟩
  | tup a =>
    obtain ⟨its, rv, p, _⟩ := I.tuple ok
    have e : its.toArray.size = xs.length := by rw [rv.length]; simp
    rw [← e]
    refine ⟨_, _, Draws.tuple hh it a (hne a (List.mem_cons_self ..)) its.toArray, fun i st => ⟨st, p⟩, fun i h st => st.1, fun i v hv => ?_⟩
    have hv' : its[i]? = some v := by simpa using hv
    obtain ⟨hi, ev⟩ := List.getElem?_eq_some_iff.mp hv'
    have hx : i < xs.length := by rw [rv.length]; exact hi
    obtain ⟨u, hu, ru⟩ := rv.get (List.getElem?_eq_getElem hx)
    rw [hv'] at hu
    cases hu
    exact ⟨_, List.getElem?_eq_getElem hx, ru⟩
  | txt z =>
    have e0 : xs = signsV z := ok
    subst e0
    rw [← signs_size z]
    refine ⟨_, _, Draws.text hh it z t, fun i st => st, fun i h st => st, fun i v hv => ?_⟩
    obtain ⟨c, u, hc, rfl⟩ := hv
    exact ⟨_, signs_get hc, ⟨u, rfl⟩⟩
/-- how a source begins to be walked -/
theorem src_begins (I : Inv X pins σ H s) {src : Src} {xs : List V} (ok : SrcOk X.K H src xs) {u : Value} (r : RelV src.v u) :
    ∃ (t : Tok) (o : Obj) (Hp' : Heap → Prop), Begins u o Hp' ∧ Hp' s.heap ∧ (∀ (h : Heap) (it : Addr), h.get? it = some o → ItAt t src h it 0) ∧ ∀ b ∈ src.fp, b < s.heap.objs.size := by
  cases src with
  | lst a =>
    cases r
    obtain ⟨its, rv, p, _⟩ := I.list ok
    refine ⟨0, _, _, begins_list a its.toArray, p.isList, fun h it e => ⟨_, e, rfl, rfl⟩, fun b hb => ?_⟩
    have eb : b = a := by simpa [Src.fp] using hb
    subst eb
    obtain ⟨o, n, e, _⟩ := p
    exact Heap.lt_size e
  | tup a =>
    cases r
    obtain ⟨its, rv, p, _⟩ := I.tuple ok
    refine ⟨0, _, _, begins_tuple a its.toArray, p, fun h it e => ⟨_, e, rfl, rfl⟩, fun b hb => ?_⟩
    have eb : b = a := by simpa [Src.fp] using hb
    subst eb
    obtain ⟨o, e, _⟩ := p
    exact Heap.lt_size e
  | txt z =>
    obtain ⟨t, rfl⟩ := r
    exact ⟨t, _, _, begins_text z t, trivial, fun h it e => ⟨_, e, rfl, rfl⟩, fun b hb => by simp [Src.fp] at hb⟩
theorem tup_new {h' : Heap} {T : Addr} {its : List Value} {xs : List V} (rv : Vals xs its) (hz : xs.length ≤ 4) (hT : h'.IsTuple T its.toArray) : ObjOk X.prog X.w (upd H T (.tup xs)) h' T (.tup xs) :=
  ⟨Nat.le_trans hz (by decide), its, rv, hT⟩
theorem ne_lt {N b : Addr} (h : b < N) (k : Nat) : b ≠ N + k := Nat.ne_of_lt (Nat.lt_of_lt_of_le h (Nat.le_add_right _ _))
theorem ne_lt0 {N b : Addr} (h : b < N) : b ≠ N := Nat.ne_of_lt h

/-! ### zip of two -/
def ItZ2 (K : PySem.W.Frag) (s1 s2 : Src) : It :=
  ⟨fun i H => ∃ xs ys, SrcOk K H s1 xs ∧ SrcOk K H s2 ys ∧ i < min xs.length ys.length,
    fun i H v H' => ∃ T x y, v = .ref T ∧ H T = none ∧ H' = upd H T (.tup [x, y]) ∧ (∀ xs, SrcOk K H s1 xs → xs[i]? = some x) ∧ ∀ ys, SrcOk K H s2 ys → ys[i]? = some y,
    fun i H => ∃ xs ys, SrcOk K H s1 xs ∧ SrcOk K H s2 ys ∧ i = min xs.length ys.length⟩
theorem turn_z2 {P : Program} {w : World} {K : PySem.W.Frag} {elts : List Expr} {kk : Nat} {tpos : Pos} {s1 s2 : Src} {N : Addr} (t1 t2 : Tok) (l1 : ∀ b ∈ s1.fp, b < N) (l2 : ∀ b ∈ s2.fp, b < N) :
    Turn P w K (.Tuple elts kk tpos) (ItZ2 K s1 s2) [N + 4, N + 2, N + 3, N, N + 1] (N + 4) (fun i h => IsZip h (N + 4) (N + 2) (N + 3) .none ∧ IsTupOf2 h (N + 2) (.ref N) (.ref (N + 1)) ∧ (∃ a1 a2, IsTupOf2 h (N + 3) a1 a2) ∧ ItAt t1 s1 h N i ∧ ItAt t2 s2 h (N + 1) i) where
  mem := by simp
  obj := fun i h st c hc => by
    obtain ⟨hz, hTI, ⟨x, y, hTO⟩, h1, h2⟩ := st
    have e' : c = N + 4 ∨ c = N + 2 ∨ c = N + 3 ∨ c = N ∨ c = N + 1 := by simpa using hc
    rcases e' with q | q | q | q | q
    · rw [q]; exact ⟨_, hz, fun v q => nomatch q⟩
    · rw [q]; exact ⟨_, hTI, fun v q => nomatch q⟩
    · rw [q]; exact ⟨_, hTO, fun v q => nomatch q⟩
    · rw [q]; exact h1.obj
    · rw [q]; exact h2.obj
  keep := fun i h h' st k => by
    obtain ⟨hz, hTI, ⟨x, y, hTO⟩, h1, h2⟩ := st
    exact ⟨k _ (by simp) _ hz, k _ (by simp) _ hTI, ⟨x, y, k _ (by simp) _ hTO⟩, h1.keeps fun o q => k _ (by simp) o q, h2.keeps fun o q => k _ (by simp) o q⟩
  item := by
    intro X hP hw hK hc i pins s σ H E I hf st hg
    subst hP hw hK
    obtain ⟨xs, ys, o1, o2, hi⟩ := hg
    have hh : X.A.in1.handled = none := I.ok.hd hc
    obtain ⟨P1, S1, D1, a1, b1, c1⟩ := src_draw I o1 hh (it := N) (fun b hb => ne_lt0 (l1 b hb)) t1
    obtain ⟨P2, S2, D2, a2, b2, c2⟩ := src_draw I o2 hh (it := N + 1) (fun b hb => ne_lt (l2 b hb) 1) t2
    have G := GoesN.zip2 (elts := elts) (x1 := kk) (pos := tpos) (zip_sep2 l1 l2) D1 D2
    have st' := st
    obtain ⟨hz, hTI, hTO, h1, h2⟩ := st'
    refine G.goes i s (fun u sf => ∃ x H', Inv X pins σ H' sf ∧ RelV x u ∧ (ItZ2 X.K s1 s2).yld i H x H' ∧ (IsZip sf.heap (N + 4) (N + 2) (N + 3) .none ∧ IsTupOf2 sf.heap (N + 2) (.ref N) (.ref (N + 1)) ∧ (∃ a1 a2, IsTupOf2 sf.heap (N + 3) a1 a2) ∧ ItAt t1 s1 sf.heap N (i + 1) ∧ ItAt t2 s2 sf.heap (N + 1) (i + 1)) ∧ ∀ b ∈ [N + 4, N + 2, N + 3, N, N + 1], H' b = none) E hi ⟨hz, hTI, hTO, a1 i h1, a2 i h2⟩ fun v h' tk hY st2 hk htk => ?_
    obtain ⟨T, u1, u2, rfl, hnew, p1, p2, hT⟩ := hY
    obtain ⟨x1, e1, r1⟩ := c1 i u1 p1
    obtain ⟨x2, e2, r2⟩ := c2 i u2 p2
    obtain ⟨z1, z2, z3, z4, z5⟩ := st2
    have new : ObjOk X.prog X.w (upd H T (.tup [x1, x2])) h' T (.tup [x1, x2]) := tup_new (.cons r1 (.cons r2 .nil)) (by show 2 ≤ 4; decide) hT
    have hn : H T = none := I.hok.fresh hnew
    refine ⟨.ref T, _, I.turnedNew (t' := tk) (ch := [N + 4, N + 2, N + 3, N, N + 1]) (fun b o hb q => hk b o (fun m => hb (by
      have m' : b = N + 4 ∨ b = N + 3 ∨ b = N ∨ b = N + 1 := by simpa using m
      rcases m' with q | q | q | q <;> simp [q])) q) hf hnew new, rfl, ⟨T, x1, x2, rfl, hn, rfl, fun l hl => by rw [hl.inj I o1]; exact e1, fun l hl => by rw [hl.inj I o2]; exact e2⟩, ⟨z1, z2, z3, b1 _ _ z4, b2 _ _ z5⟩, fun b hb => ?_⟩
    have hbT : b ≠ T := by
      obtain ⟨o, ho, _⟩ : ∃ o, s.heap.get? b = some o ∧ True := by
        have e' : b = N + 4 ∨ b = N + 2 ∨ b = N + 3 ∨ b = N ∨ b = N + 1 := by simpa using hb
        rcases e' with q | q | q | q | q
        · rw [q]; exact ⟨_, hz, trivial⟩
        · rw [q]; exact ⟨_, hTI, trivial⟩
        · rw [q]; obtain ⟨_, _, e⟩ := hTO; exact ⟨_, e, trivial⟩
        · rw [q]; obtain ⟨o, e, _⟩ := h1.obj; exact ⟨o, e, trivial⟩
        · rw [q]; obtain ⟨o, e, _⟩ := h2.obj; exact ⟨o, e, trivial⟩
      exact Nat.ne_of_lt (Nat.lt_of_lt_of_le (Heap.lt_size ho) hnew)
    rw [upd_ne hbT]
    exact (hf b hb).1
  done := by
    intro X hP hw hK hc i pins s σ H E I hf st hg
    subst hP hw hK
    obtain ⟨xs, ys, o1, o2, hi⟩ := hg
    subst hi
    have hh : X.A.in1.handled = none := I.ok.hd hc
    obtain ⟨P1, S1, D1, a1, b1, c1⟩ := src_draw I o1 hh (it := N) (fun b hb => ne_lt0 (l1 b hb)) t1
    obtain ⟨P2, S2, D2, a2, b2, c2⟩ := src_draw I o2 hh (it := N + 1) (fun b hb => ne_lt (l2 b hb) 1) t2
    have G := GoesN.zip2 (elts := elts) (x1 := kk) (pos := tpos) (zip_sep2 l1 l2) D1 D2
    obtain ⟨hz, hTI, hTO, h1, h2⟩ := st
    refine G.stops s (fun sf => Inv X pins σ H sf) E ⟨hz, hTI, hTO, a1 _ h1, a2 _ h2⟩ fun h' tk hk htk => ?_
    exact I.turnedL (t' := tk) (ch := [N + 4, N + 2, N + 3, N, N + 1]) (fun b o hb q => hk b o (fun m => hb (by
      have m' : b = N + 4 ∨ b = N + 3 ∨ b = N ∨ b = N + 1 := by simpa using m
      rcases m' with q | q | q | q <;> simp [q])) q) hf
  self := fun A i s Q E st h => wpAny_pyIter_zip st.1 h
def iZip2 (K : PySem.W.Frag) (ta : TA) : TI := fun σ H R => ta σ H fun vs H1 => ∃ (s1 s2 : Src) (xs ys : List V), vs = [s1.v, s2.v] ∧ SrcOk K H1 s1 xs ∧ SrcOk K H1 s2 ys ∧ R (ItZ2 K s1 s2) H1
theorem pi_z2 {e e2 : Expr} {ta : TA} {p pos tpos : Pos} {elts : List Expr} {kk : Nat} (hg : Gl X "zip") (hm : X.mg "zip" = none) (ha : PA X [e, e2] ta)
    (hs : starEach [e, e2] X.env = (false, eval e X.env) :: starEach [e2] X.env := by rfl) (hpl : (backTo pos (starEach [e2] X.env)).any (·.1) = false := by rfl) :
    PI X (.Tuple elts kk tpos) (.Call (.Name "zip" p) [e, e2] [] pos) (iZip2 X.K ta) := by
  refine ⟨fun pins s σ H R I h => ?_⟩
  refine Call_ (ld_blt I hg hm PyProof.Rows.boot_zip (PyProof.Rows.callWith_type1 (thn (ha.run pos pins s σ H _ I h) fun us sf ⟨vs, H1, I1, r1, q1⟩ => ?_) hs hpl))
  obtain ⟨s1, s2, xs, ys, ex, o1, o2, q⟩ := q1
  subst ex
  cases r1 with
  | cons r rr =>
    cases rr with
    | cons r' rr =>
      cases rr
      obtain ⟨t1, ob1, Hp1, B1, b1, w1, l1⟩ := src_begins I1 o1 r
      obtain ⟨t2, ob2, Hp2, B2, b2, w2, l2⟩ := src_begins I1 o2 r'
      refine zip_begins2 B1 B2 b1 b2 fun h' hz hTI hTO h1 h2 hsz hk => wpAny_pyIter_zip hz ?_
      have I2 : Inv X pins σ H1 { sf with heap := h' } := I1.kept (t' := sf.toks) hk
      refine ⟨sf.heap.objs.size + 4, _, _, _, H1, rfl, I2, turn_z2 t1 t2 l1 l2, ⟨hz, hTI, ⟨_, _, hTO⟩, w1 _ _ h1, w2 _ _ h2⟩, fun c hcm => ?_, q⟩
      have e' : c = sf.heap.objs.size + 4 ∨ c = sf.heap.objs.size + 2 ∨ c = sf.heap.objs.size + 3 ∨ c = sf.heap.objs.size ∨ c = sf.heap.objs.size + 1 := by simpa using hcm
      have hle : sf.heap.objs.size ≤ c := by
        rcases e' with z | z | z | z | z
        · rw [z]; exact Nat.le_add_right _ _
        · rw [z]; exact Nat.le_add_right _ _
        · rw [z]; exact Nat.le_add_right _ _
        · rw [z]; exact Nat.le_refl _
        · rw [z]; exact Nat.le_add_right _ _
      exact I1.fpOk hle (I1.hok.fresh hle)

/-! ### zip of three -/
def ItZ3 (K : PySem.W.Frag) (s1 s2 s3 : Src) : It :=
  ⟨fun i H => ∃ xs ys zs, SrcOk K H s1 xs ∧ SrcOk K H s2 ys ∧ SrcOk K H s3 zs ∧ i < min (min xs.length ys.length) zs.length,
    fun i H v H' => ∃ T x y z, v = .ref T ∧ H T = none ∧ H' = upd H T (.tup [x, y, z]) ∧ (∀ xs, SrcOk K H s1 xs → xs[i]? = some x) ∧ (∀ ys, SrcOk K H s2 ys → ys[i]? = some y) ∧ ∀ zs, SrcOk K H s3 zs → zs[i]? = some z,
    fun i H => ∃ xs ys zs, SrcOk K H s1 xs ∧ SrcOk K H s2 ys ∧ SrcOk K H s3 zs ∧ i = min (min xs.length ys.length) zs.length⟩
theorem turn_z3 {P : Program} {w : World} {K : PySem.W.Frag} {elts : List Expr} {kk : Nat} {tpos : Pos} {s1 s2 s3 : Src} {N : Addr} (t1 t2 t3 : Tok) (l1 : ∀ b ∈ s1.fp, b < N) (l2 : ∀ b ∈ s2.fp, b < N) (l3 : ∀ b ∈ s3.fp, b < N) :
    Turn P w K (.Tuple elts kk tpos) (ItZ3 K s1 s2 s3) [N + 5, N + 3, N + 4, N, N + 1, N + 2] (N + 5) (fun i h => IsZip h (N + 5) (N + 3) (N + 4) .none ∧ IsTupOf3 h (N + 3) (.ref N) (.ref (N + 1)) (.ref (N + 2)) ∧ (∃ a1 a2 a3, IsTupOf3 h (N + 4) a1 a2 a3) ∧ ItAt t1 s1 h N i ∧ ItAt t2 s2 h (N + 1) i ∧ ItAt t3 s3 h (N + 2) i) where
  mem := by simp
  obj := fun i h st c hc => by
    obtain ⟨hz, hTI, ⟨x, y, z, hTO⟩, h1, h2, h3⟩ := st
    have e' : c = N + 5 ∨ c = N + 3 ∨ c = N + 4 ∨ c = N ∨ c = N + 1 ∨ c = N + 2 := by simpa using hc
    rcases e' with q | q | q | q | q | q
    · rw [q]; exact ⟨_, hz, fun v q => nomatch q⟩
    · rw [q]; exact ⟨_, hTI, fun v q => nomatch q⟩
    · rw [q]; exact ⟨_, hTO, fun v q => nomatch q⟩
    · rw [q]; exact h1.obj
    · rw [q]; exact h2.obj
    · rw [q]; exact h3.obj
  keep := fun i h h' st k => by
    obtain ⟨hz, hTI, ⟨x, y, z, hTO⟩, h1, h2, h3⟩ := st
    exact ⟨k _ (by simp) _ hz, k _ (by simp) _ hTI, ⟨x, y, z, k _ (by simp) _ hTO⟩, h1.keeps fun o q => k _ (by simp) o q, h2.keeps fun o q => k _ (by simp) o q, h3.keeps fun o q => k _ (by simp) o q⟩
  item := by
    intro X hP hw hK hc i pins s σ H E I hf st hg
    subst hP hw hK
    obtain ⟨xs, ys, zs, o1, o2, o3, hi⟩ := hg
    have hh : X.A.in1.handled = none := I.ok.hd hc
    obtain ⟨P1, S1, D1, a1, b1, c1⟩ := src_draw I o1 hh (it := N) (fun b hb => ne_lt0 (l1 b hb)) t1
    obtain ⟨P2, S2, D2, a2, b2, c2⟩ := src_draw I o2 hh (it := N + 1) (fun b hb => ne_lt (l2 b hb) 1) t2
    obtain ⟨P3, S3, D3, a3, b3, c3⟩ := src_draw I o3 hh (it := N + 2) (fun b hb => ne_lt (l3 b hb) 2) t3
    have G := GoesN.zip3 (elts := elts) (x1 := kk) (pos := tpos) (zip_sep3 l1 l2 l3) D1 D2 D3
    have st' := st
    obtain ⟨hz, hTI, hTO, h1, h2, h3⟩ := st'
    refine G.goes i s (fun u sf => ∃ x H', Inv X pins σ H' sf ∧ RelV x u ∧ (ItZ3 X.K s1 s2 s3).yld i H x H' ∧ (IsZip sf.heap (N + 5) (N + 3) (N + 4) .none ∧ IsTupOf3 sf.heap (N + 3) (.ref N) (.ref (N + 1)) (.ref (N + 2)) ∧ (∃ a1 a2 a3, IsTupOf3 sf.heap (N + 4) a1 a2 a3) ∧ ItAt t1 s1 sf.heap N (i + 1) ∧ ItAt t2 s2 sf.heap (N + 1) (i + 1) ∧ ItAt t3 s3 sf.heap (N + 2) (i + 1)) ∧ ∀ b ∈ [N + 5, N + 3, N + 4, N, N + 1, N + 2], H' b = none) E hi ⟨hz, hTI, hTO, a1 i h1, a2 i h2, a3 i h3⟩ fun v h' tk hY st2 hk htk => ?_
    obtain ⟨T, u1, u2, u3, rfl, hnew, p1, p2, p3, hT⟩ := hY
    obtain ⟨x1, e1, r1⟩ := c1 i u1 p1
    obtain ⟨x2, e2, r2⟩ := c2 i u2 p2
    obtain ⟨x3, e3, r3⟩ := c3 i u3 p3
    obtain ⟨z1, z2, z3, z4, z5, z6⟩ := st2
    have new : ObjOk X.prog X.w (upd H T (.tup [x1, x2, x3])) h' T (.tup [x1, x2, x3]) := tup_new (.cons r1 (.cons r2 (.cons r3 .nil))) (by show 3 ≤ 4; decide) hT
    have hn : H T = none := I.hok.fresh hnew
    refine ⟨.ref T, _, I.turnedNew (t' := tk) (ch := [N + 5, N + 3, N + 4, N, N + 1, N + 2]) (fun b o hb q => hk b o (fun m => hb (by
      have m' : b = N + 5 ∨ b = N + 4 ∨ b = N ∨ b = N + 1 ∨ b = N + 2 := by simpa using m
      rcases m' with q | q | q | q | q <;> simp [q])) q) hf hnew new, rfl, ⟨T, x1, x2, x3, rfl, hn, rfl, fun l hl => by rw [hl.inj I o1]; exact e1, fun l hl => by rw [hl.inj I o2]; exact e2, fun l hl => by rw [hl.inj I o3]; exact e3⟩, ⟨z1, z2, z3, b1 _ _ z4, b2 _ _ z5, b3 _ _ z6⟩, fun b hb => ?_⟩
    have hbT : b ≠ T := by
      obtain ⟨o, ho, _⟩ : ∃ o, s.heap.get? b = some o ∧ True := by
        have e' : b = N + 5 ∨ b = N + 3 ∨ b = N + 4 ∨ b = N ∨ b = N + 1 ∨ b = N + 2 := by simpa using hb
        rcases e' with q | q | q | q | q | q
        · rw [q]; exact ⟨_, hz, trivial⟩
        · rw [q]; exact ⟨_, hTI, trivial⟩
        · rw [q]; obtain ⟨_, _, _, e⟩ := hTO; exact ⟨_, e, trivial⟩
        · rw [q]; obtain ⟨o, e, _⟩ := h1.obj; exact ⟨o, e, trivial⟩
        · rw [q]; obtain ⟨o, e, _⟩ := h2.obj; exact ⟨o, e, trivial⟩
        · rw [q]; obtain ⟨o, e, _⟩ := h3.obj; exact ⟨o, e, trivial⟩
      exact Nat.ne_of_lt (Nat.lt_of_lt_of_le (Heap.lt_size ho) hnew)
    rw [upd_ne hbT]
    exact (hf b hb).1
  done := by
    intro X hP hw hK hc i pins s σ H E I hf st hg
    subst hP hw hK
    obtain ⟨xs, ys, zs, o1, o2, o3, hi⟩ := hg
    subst hi
    have hh : X.A.in1.handled = none := I.ok.hd hc
    obtain ⟨P1, S1, D1, a1, b1, c1⟩ := src_draw I o1 hh (it := N) (fun b hb => ne_lt0 (l1 b hb)) t1
    obtain ⟨P2, S2, D2, a2, b2, c2⟩ := src_draw I o2 hh (it := N + 1) (fun b hb => ne_lt (l2 b hb) 1) t2
    obtain ⟨P3, S3, D3, a3, b3, c3⟩ := src_draw I o3 hh (it := N + 2) (fun b hb => ne_lt (l3 b hb) 2) t3
    have G := GoesN.zip3 (elts := elts) (x1 := kk) (pos := tpos) (zip_sep3 l1 l2 l3) D1 D2 D3
    obtain ⟨hz, hTI, hTO, h1, h2, h3⟩ := st
    refine G.stops s (fun sf => Inv X pins σ H sf) E ⟨hz, hTI, hTO, a1 _ h1, a2 _ h2, a3 _ h3⟩ fun h' tk hk htk => ?_
    exact I.turnedL (t' := tk) (ch := [N + 5, N + 3, N + 4, N, N + 1, N + 2]) (fun b o hb q => hk b o (fun m => hb (by
      have m' : b = N + 5 ∨ b = N + 4 ∨ b = N ∨ b = N + 1 ∨ b = N + 2 := by simpa using m
      rcases m' with q | q | q | q | q <;> simp [q])) q) hf
  self := fun A i s Q E st h => wpAny_pyIter_zip st.1 h
def iZip3 (K : PySem.W.Frag) (ta : TA) : TI := fun σ H R => ta σ H fun vs H1 => ∃ (s1 s2 s3 : Src) (xs ys zs : List V), vs = [s1.v, s2.v, s3.v] ∧ SrcOk K H1 s1 xs ∧ SrcOk K H1 s2 ys ∧ SrcOk K H1 s3 zs ∧ R (ItZ3 K s1 s2 s3) H1
theorem pi_z3 {e e2 e3 : Expr} {ta : TA} {p pos tpos : Pos} {elts : List Expr} {kk : Nat} (hg : Gl X "zip") (hm : X.mg "zip" = none) (ha : PA X [e, e2, e3] ta)
    (hs : starEach [e, e2, e3] X.env = (false, eval e X.env) :: starEach [e2, e3] X.env := by rfl) (hpl : (backTo pos (starEach [e2, e3] X.env)).any (·.1) = false := by rfl) :
    PI X (.Tuple elts kk tpos) (.Call (.Name "zip" p) [e, e2, e3] [] pos) (iZip3 X.K ta) := by
  refine ⟨fun pins s σ H R I h => ?_⟩
  refine Call_ (ld_blt I hg hm PyProof.Rows.boot_zip (PyProof.Rows.callWith_type1 (thn (ha.run pos pins s σ H _ I h) fun us sf ⟨vs, H1, I1, r1, q1⟩ => ?_) hs hpl))
  obtain ⟨s1, s2, s3, xs, ys, zs, ex, o1, o2, o3, q⟩ := q1
  subst ex
  cases r1 with
  | cons r rr =>
    cases rr with
    | cons r' rr =>
      cases rr with
      | cons r'' rr =>
        cases rr
        obtain ⟨t1, ob1, Hp1, B1, b1, w1, l1⟩ := src_begins I1 o1 r
        obtain ⟨t2, ob2, Hp2, B2, b2, w2, l2⟩ := src_begins I1 o2 r'
        obtain ⟨t3, ob3, Hp3, B3, b3, w3, l3⟩ := src_begins I1 o3 r''
        refine zip_begins3 B1 B2 B3 b1 b2 b3 fun h' hz hTI hTO h1 h2 h3 hsz hk => wpAny_pyIter_zip hz ?_
        have I2 : Inv X pins σ H1 { sf with heap := h' } := I1.kept (t' := sf.toks) hk
        refine ⟨sf.heap.objs.size + 5, _, _, _, H1, rfl, I2, turn_z3 t1 t2 t3 l1 l2 l3, ⟨hz, hTI, ⟨_, _, _, hTO⟩, w1 _ _ h1, w2 _ _ h2, w3 _ _ h3⟩, fun c hcm => ?_, q⟩
        have e' : c = sf.heap.objs.size + 5 ∨ c = sf.heap.objs.size + 3 ∨ c = sf.heap.objs.size + 4 ∨ c = sf.heap.objs.size ∨ c = sf.heap.objs.size + 1 ∨ c = sf.heap.objs.size + 2 := by simpa using hcm
        have hle : sf.heap.objs.size ≤ c := by
          rcases e' with z | z | z | z | z | z
          · rw [z]; exact Nat.le_add_right _ _
          · rw [z]; exact Nat.le_add_right _ _
          · rw [z]; exact Nat.le_add_right _ _
          · rw [z]; exact Nat.le_refl _
          · rw [z]; exact Nat.le_add_right _ _
          · rw [z]; exact Nat.le_add_right _ _
        exact I1.fpOk hle (I1.hok.fresh hle)

/-! ### enumerate -/
def ItE (K : PySem.W.Frag) (s1 : Src) : It :=
  ⟨fun i H => ∃ xs, SrcOk K H s1 xs ∧ i < xs.length,
    fun i H v H' => ∃ T x, v = .ref T ∧ H T = none ∧ H' = upd H T (.tup [.int (i : Nat), x]) ∧ ∀ xs, SrcOk K H s1 xs → xs[i]? = some x,
    fun i H => ∃ xs, SrcOk K H s1 xs ∧ i = xs.length⟩
theorem turn_e {P : Program} {w : World} {K : PySem.W.Frag} {elts : List Expr} {kk : Nat} {tpos : Pos} {s1 : Src} {N : Addr} (t1 : Tok) (l1 : ∀ b ∈ s1.fp, b < N) :
    Turn P w K (.Tuple elts kk tpos) (ItE K s1) [N + 1, N] (N + 1) (fun i h => (∃ old, IsEnum h (N + 1) N (0 + ((i : Nat) : Int)) old) ∧ ItAt t1 s1 h N i) where
  mem := by simp
  obj := fun i h st c hc => by
    obtain ⟨⟨old, he⟩, h1⟩ := st
    have e' : c = N + 1 ∨ c = N := by simpa using hc
    rcases e' with q | q
    · rw [q]; exact ⟨_, he, fun v q => nomatch q⟩
    · rw [q]; exact h1.obj
  keep := fun i h h' st k => by
    obtain ⟨⟨old, he⟩, h1⟩ := st
    exact ⟨⟨old, k _ (by simp) _ he⟩, h1.keeps fun o q => k _ (by simp) o q⟩
  item := by
    intro X hP hw hK hc i pins s σ H E I hf st hg
    subst hP hw hK
    obtain ⟨xs, o1, hi⟩ := hg
    have hh : X.A.in1.handled = none := I.ok.hd hc
    obtain ⟨P1, S1, D1, a1, b1, c1⟩ := src_draw I o1 hh (it := N) (fun b hb => ne_lt0 (l1 b hb)) t1
    have G := GoesN.enumFrom (elts := elts) (x1 := kk) (pos := tpos) 0 D1 (N + 1) (Nat.succ_ne_self N) (fun m => by
      rcases List.mem_cons.mp m with q | q
      · exact Nat.succ_ne_self N q
      · exact absurd (l1 _ q) (Nat.not_lt.mpr (Nat.le_succ N))) (List.mem_cons_self ..)
    have st' := st
    obtain ⟨he, h1⟩ := st'
    refine G.goes i s (fun u sf => ∃ x H', Inv X pins σ H' sf ∧ RelV x u ∧ (ItE X.K s1).yld i H x H' ∧ ((∃ old, IsEnum sf.heap (N + 1) N (0 + ((i + 1 : Nat) : Int)) old) ∧ ItAt t1 s1 sf.heap N (i + 1)) ∧ ∀ b ∈ [N + 1, N], H' b = none) E hi ⟨he, a1 i h1⟩ fun v h' tk hY st2 hk htk => ?_
    obtain ⟨T, t, u1, rfl, hnew, p1, hT⟩ := hY
    obtain ⟨x1, e1, r1⟩ := c1 i u1 p1
    obtain ⟨z1, z2⟩ := st2
    have hT' : h'.IsTuple T [Value.int (i : Nat) t, u1].toArray := by
      have e0 : (0 : Int) + (i : Int) = (i : Int) := Int.zero_add _
      rw [e0] at hT
      exact hT
    have new : ObjOk X.prog X.w (upd H T (.tup [.int (i : Nat), x1])) h' T (.tup [.int (i : Nat), x1]) := tup_new (.cons ⟨t, rfl⟩ (.cons r1 .nil)) (by show 2 ≤ 4; decide) hT'
    have hn : H T = none := I.hok.fresh hnew
    refine ⟨.ref T, _, I.turnedNew (t' := tk) (ch := [N + 1, N]) (fun b o hb q => hk b o hb q) hf hnew new, rfl, ⟨T, x1, rfl, hn, rfl, fun l hl => by rw [hl.inj I o1]; exact e1⟩, ⟨z1, b1 _ _ z2⟩, fun b hb => ?_⟩
    have hbT : b ≠ T := by
      obtain ⟨o, ho, _⟩ : ∃ o, s.heap.get? b = some o ∧ True := by
        have e' : b = N + 1 ∨ b = N := by simpa using hb
        rcases e' with q | q
        · rw [q]; obtain ⟨_, e⟩ := he; exact ⟨_, e, trivial⟩
        · rw [q]; obtain ⟨o, e, _⟩ := h1.obj; exact ⟨o, e, trivial⟩
      exact Nat.ne_of_lt (Nat.lt_of_lt_of_le (Heap.lt_size ho) hnew)
    rw [upd_ne hbT]
    exact (hf b hb).1
  done := by
    intro X hP hw hK hc i pins s σ H E I hf st hg
    subst hP hw hK
    obtain ⟨xs, o1, hi⟩ := hg
    subst hi
    have hh : X.A.in1.handled = none := I.ok.hd hc
    obtain ⟨P1, S1, D1, a1, b1, c1⟩ := src_draw I o1 hh (it := N) (fun b hb => ne_lt0 (l1 b hb)) t1
    have G := GoesN.enumFrom (elts := elts) (x1 := kk) (pos := tpos) 0 D1 (N + 1) (Nat.succ_ne_self N) (fun m => by
      rcases List.mem_cons.mp m with q | q
      · exact Nat.succ_ne_self N q
      · exact absurd (l1 _ q) (Nat.not_lt.mpr (Nat.le_succ N))) (List.mem_cons_self ..)
    obtain ⟨he, h1⟩ := st
    refine G.stops s (fun sf => Inv X pins σ H sf) E ⟨he, a1 _ h1⟩ fun h' tk hk htk => ?_
    exact I.turnedL (t' := tk) (ch := [N + 1, N]) (fun b o hb q => hk b o hb q) hf
  self := fun A i s Q E st h => let ⟨⟨_, he⟩, _⟩ := st; wpAny_pyIter_enum he h
def iEn (K : PySem.W.Frag) (ta : TA) : TI := fun σ H R => ta σ H fun vs H1 => ∃ (s1 : Src) (xs : List V), vs = [s1.v] ∧ SrcOk K H1 s1 xs ∧ R (ItE K s1) H1
theorem pi_en {e : Expr} {ta : TA} {p pos tpos : Pos} {elts : List Expr} {kk : Nat} (hg : Gl X "enumerate") (hm : X.mg "enumerate" = none) (ha : PA X [e] ta) (hs : starEach [e] X.env = [(false, eval e X.env)] := by rfl) :
    PI X (.Tuple elts kk tpos) (.Call (.Name "enumerate" p) [e] [] pos) (iEn X.K ta) := by
  refine ⟨fun pins s σ H R I h => ?_⟩
  refine Call_ (ld_blt I hg hm boot_enumerate (PyProof.Rows.callWith_type1 (thn (ha.run pos pins s σ H _ I h) fun us sf ⟨vs, H1, I1, r1, q1⟩ => ?_) hs rfl))
  obtain ⟨s1, xs, ex, o1, q⟩ := q1
  subst ex
  cases r1 with
  | cons r rr =>
    cases rr
    obtain ⟨t1, ob1, Hp1, B1, b1, w1, l1⟩ := src_begins I1 o1 r
    refine enum_begins1 B1 b1 fun h' he h1 hsz hk => wpAny_pyIter_enum he ?_
    have I2 : Inv X pins σ H1 { sf with heap := h' } := I1.kept (t' := sf.toks) hk
    refine ⟨sf.heap.objs.size + 1, _, _, _, H1, rfl, I2, turn_e t1 l1, ⟨⟨.none, he⟩, w1 _ _ h1⟩, fun b hb => ?_, q⟩
    have e' : b = sf.heap.objs.size + 1 ∨ b = sf.heap.objs.size := by simpa using hb
    have hle : sf.heap.objs.size ≤ b := by
      rcases e' with z | z
      · rw [z]; exact Nat.le_add_right _ _
      · rw [z]; exact Nat.le_refl _
    exact I1.fpOk hle (I1.hok.fresh hle)
end
end TH
end
section
set_option Elab.async false
set_option linter.all false
set_option maxRecDepth 100000
/-! rules of our own: calls of our defs by their promises; what walks a list or a tuple; powers, text * int, text.index -/
namespace TH
open PySem PySem.Spec PyProof.Rows L2
theorem pe_never {X : Cx} {e : Expr} : PE X e (fun _ _ _ => False) := ⟨fun _ _ _ _ _ _ h => h.elim⟩
/-- a def with its promise: how it is bound, what it keeps -/
structure Pr (P : Program) (w : World) (K : PySem.W.Frag) (mg : Str → Option Value) (base : Heap) (CX : CXT) (k : Nat) (ps : List Str) (dvs : List V) (f : Addr) (sp : Sp) : Prop where
  ex : ∃ (fd : FuncData) (ds : List Value), FnOk P w K mg base CX k f fd ps sp ∧ Binds K fd ps ds ∧ Vals dvs ds
  kp : PySem.W.keepIn K (.ref f) = true
section
variable {X : Cx} {CX : CXT} {k : Nat} {f C : Addr} {ps : List Str} {dvs : List V} {sp : Sp} {E : XK} {x m : Str} {p pos apos : Pos} {e o : Expr} {es : List Expr} {t : TA} {ta : TE}
theorem pcall (F : Pr X.prog X.w X.K X.mg X.base CX k ps dvs f sp) (hr : Room k X.A) (hg : Gl X x) (hm : X.mg x = some (.ref f)) (hx : Passes CX X E) (ha : PA X (e :: es) t)
    (hdb : (x == ("__debug__" : Str)) = false := by decide) (he : starEach (e :: es) X.env = (false, eval e X.env) :: starEach es X.env := by rfl) (hpl : (backTo pos (starEach es X.env)).any (·.1) = false := by rfl) :
    PE X (.Call (.Name x p) (e :: es) [] pos) (tCall sp dvs E t) := by
  obtain ⟨fd, ds, F1, b, v⟩ := F.ex
  exact pe_call F1 hr hg hm F.kp b v hx ha hdb he hpl
theorem pmake (F : Pr X.prog X.w X.K X.mg X.base CX k ps dvs f sp) (M : Mk X.K C f) (hr : Room (k + 1) X.A) (hg : Gl X x) (hm : X.mg x = some (.ref C)) (hx : Passes CX X E) (ha : PA X (e :: es) t)
    (hdb : (x == ("__debug__" : Str)) = false := by decide) (he : starEach (e :: es) X.env = (false, eval e X.env) :: starEach es X.env := by rfl) (hpl : (backTo pos (starEach es X.env)).any (·.1) = false := by rfl) :
    PE X (.Call (.Name x p) (e :: es) [] pos) (tMake C sp dvs E t) := by
  obtain ⟨fd, ds, F1, b, v⟩ := F.ex
  exact pe_make M F1 hr hg hm b v hx ha hdb he hpl
theorem pmeth {pl : Sem Bool} (F : Pr X.prog X.w X.K X.mg X.base CX k ps dvs f sp) (ho : PE X o ta) (c : Cls X.K C) (hm : Meth X.K C m f) (hr : Room k X.A) (hx : Passes CX X E) (ha : PA X (e :: es) t)
    (hst : starEach (e :: es) X.env = (false, eval e X.env) :: starEach es X.env := by rfl) (hpl : (backTo pos (starEach es X.env)).any (·.1) = false := by rfl)
    (ht : eval (.Call (.Attribute o m apos) (e :: es) [] pos) X.env = (do
      let ov ← eval o X.env
      standAt apos.atName
      let (f, first) ← holding [ov] (getMethod ov m pl)
      callWith pos f first (backTo pos (starEach (e :: es) X.env)) (backToKw pos (keywordEach [] X.env))) := by rfl) : PE X (.Call (.Attribute o m apos) (e :: es) [] pos) (tMeth C m sp dvs E ta t) := by
  obtain ⟨fd, ds, F1, b, v⟩ := F.ex
  exact pe_meth ho c hm F1 hr b v hx ha hst hpl ht
theorem pmeth0 {pl : Sem Bool} (F : Pr X.prog X.w X.K X.mg X.base CX k ps dvs f sp) (ho : PE X o ta) (c : Cls X.K C) (hm : Meth X.K C m f) (hr : Room k X.A) (hx : Passes CX X E)
    (ht : eval (.Call (.Attribute o m apos) [] [] pos) X.env = (do
      let ov ← eval o X.env
      standAt apos.atName
      let (f, first) ← holding [ov] (getMethod ov m pl)
      callWith pos f first (backTo pos (starEach [] X.env)) (backToKw pos (keywordEach [] X.env))) := by rfl) : PE X (.Call (.Attribute o m apos) [] [] pos) (tMeth C m sp dvs E ta tNil) := by
  obtain ⟨fd, ds, F1, b, v⟩ := F.ex
  exact pe_meth0 ho c hm F1 hr b v hx ht
end
/-- a def as the head leaves it -/
structure Df (K : PySem.W.Frag) (x q : Str) (st : Stmt) (ps : List Str) (dvs : List V) (f : Addr) : Prop where
  ex : ∃ (fd : FuncData) (dfl : List V) (ds : List Value), FunD K x q (defArgs st) (defBody st) (defScope st) dfl [] f fd ∧ Binds K fd ps ds ∧ Vals dvs ds
section
variable {P : Program} {w : World} {K : PySem.W.Frag} {mg : Str → Option Value} {base : Heap} {x q : Str} {st : Stmt} {f : Addr} {N ps : List Str} {dvs : List V} {k : Nat} {sp : Sp}
theorem Df.pr (F : Df K x q st ps dvs f) (S : FnScope N ps (defScope st)) (len : ∀ vs H Q E, sp vs H Q E → vs.length = ps.length)
    (hbody : ∀ (cdv : Value) (A : Around) (outer : List Env) (s : Shared) (H : Hp) (vs : List V) (Q : VK) (E : XK), Room k (A.deeper (envOfC q (defScope st) s.heap.objs.size f cdv)) → sp vs H Q E →
      ∃ t, PSs (cxOf CX0 P w K mg base N q (defScope st) f cdv A outer s H E).nox (defBody st) t ∧ t { nx := fun _ H' => Q .non H', rt := Q } (start N vs) H) : Pr P w K mg base CX0 (k + 1) ps dvs f sp := by
  obtain ⟨fd, dfl, ds, FD, b, v⟩ := F.ex
  refine ⟨⟨fd, ds, FD.ok S len fun cdv A outer s H vs Q E hr hsp => ?_, b, v⟩, FD.kp⟩
  obtain ⟨t, h, q⟩ := hbody cdv A outer s H vs Q E hr hsp
  exact ⟨t, h.nox, q⟩
theorem Df.prX (F : Df K x q st ps dvs f) (S : FnScope N ps (defScope st)) (len : ∀ vs H Q E, sp vs H Q E → vs.length = ps.length)
    (hbody : ∀ (cdv : Value) (A : Around) (outer : List Env) (s : Shared) (H : Hp) (vs : List V) (Q : VK) (E : XK), Room k (A.deeper (envOfC q (defScope st) s.heap.objs.size f cdv)) → sp vs H Q E →
      ∃ t, PSs (cxOf (L2.CX P w) P w K mg base N q (defScope st) f cdv A outer s H E) (defBody st) t ∧ t { nx := fun _ H' => Q .non H', rt := Q } (start N vs) H) : Pr P w K mg base (L2.CX P w) (k + 1) ps dvs f sp := by
  obtain ⟨fd, dfl, ds, FD, b, v⟩ := F.ex
  exact ⟨⟨fd, ds, FD.ok S len fun cdv A outer s H vs Q E hr hsp => hbody cdv A outer s H vs Q E hr hsp, b, v⟩, FD.kp⟩
theorem Df.mkN {fd : FuncData} (F : FunD K x q (defArgs st) (defBody st) (defScope st) [] [] f fd)
    (h : ∀ (kV doc pm : Value) (an : Option Addr) (cdv ct : Value) (us : List Value), us.length = ps.length → bindArgs (PySem.W.fnOf x q (defArgs st) (defBody st) (defScope st) .none kV doc pm an cdv ct) ⟨us, []⟩ = pure (ps.zip us)) : Df K x q st ps [] f :=
  ⟨⟨fd, [], [], F, F.bindsN h, .nil⟩⟩
theorem Df.mkD {fd : FuncData} {dfl : List V} (F : FunD K x q (defArgs st) (defBody st) (defScope st) dfl [] f fd) (n j : Nat) (hd : dfl ≠ []) (hn : n + (dfl.length - j) = ps.length)
    (h : ∀ (T : Addr) (kV doc pm : Value) (an : Option Addr) (cdv ct : Value) (us its : List Value), us.length = n → its.length = dfl.length →
      ∃ k, bindArgs (PySem.W.fnOf x q (defArgs st) (defBody st) (defScope st) (.ref T) kV doc pm an cdv ct) ⟨us, []⟩ = seqItems? (.ref T) >>= k ∧ k (some its.toArray) = pure (ps.zip (us ++ its.drop j))) : Df K x q st ps (dfl.drop j) f := by
  obtain ⟨ds, v, b⟩ := F.binds1 n j hd hn h
  exact ⟨⟨fd, dfl, ds, F, b, v⟩⟩
end
/-! ### what a for walks: a list or a tuple -/
section
variable {X : Cx} {tg l : Expr} {tl : TE}
def iAny (K : PySem.W.Frag) (tl : TE) : TI := fun σ H R => tl σ H fun x H1 => ∃ a, x = .ref a ∧ (((∃ xs, SqL K H1 a xs) ∧ R (Itl K a) H1) ∨ ((∃ xs, SqT K H1 a xs) ∧ R (Itt K a) H1))
theorem pi_any (hl : PE X l tl) : PI X tg l (iAny X.K tl) := by
  refine ⟨fun pins s σ H R I h => ?_⟩
  refine thn (hl.run pins s σ H _ I h) fun v s1 ⟨x, H1, I1, r1, q1⟩ => ?_
  obtain ⟨a, e, q1⟩ := q1
  subst e
  cases r1
  rcases q1 with ⟨⟨xs, hq⟩, q⟩ | ⟨⟨xs, hq⟩, q⟩
  · obtain ⟨its, rv, p, hz⟩ := I1.list hq
    refine wpAny_pyIter_list p.isList ?_
    refine ⟨s1.heap.objs.size, [s1.heap.objs.size], _, _, H1, rfl, I1.kept (t' := s1.toks) fun b o e => Heap.get?_push_of_some _ e, turn_list a _, ⟨_, Heap.get?_push_size _ rfl, rfl, rfl⟩, fun b hb => ?_, q⟩
    have e : b = s1.heap.objs.size := by simpa using hb
    subst e
    exact I1.fpOk (Nat.le_refl _) (I1.hok.fresh (Nat.le_refl _))
  · obtain ⟨its, rv, p, hz⟩ := I1.tuple hq
    refine wpAny_pyIter_tuple (show s1.heap.IsTuple a its.toArray from p) ?_
    refine ⟨s1.heap.objs.size, [s1.heap.objs.size], _, _, H1, rfl, I1.kept (t' := s1.toks) fun b o e => Heap.get?_push_of_some _ e, turn_tuple a _, ⟨_, Heap.get?_push_size _ rfl, rfl, rfl⟩, fun b hb => ?_, q⟩
    have e : b = s1.heap.objs.size := by simpa using hb
    subst e
    exact I1.fpOk (Nat.le_refl _) (I1.hok.fresh (Nat.le_refl _))
end
/-! ### numbers, texts -/
section
variable {X : Cx}
def CPowW (i j : Int) : Prop := 0 ≤ j ∧ (Builtin.Int.intBits i : Int) * j ≤ 2 ^ 27
theorem op_powW : OpR X (binaryOp .Pow) (rI CPowW fun i j => .int (i ^ j.toNat)) := opI fun _ _ _ _ _ _ _ hc q => pow_int hc.1 hc.2 q
/-- '.' * n, a written sign some few times -/
def rMulS : R2 := fun x y H Q => ∃ (c : Nat) (n : Nat), x = .str ⟨#[c]⟩ ∧ y = .int (n : Nat) ∧ 1 ≤ n ∧ n ≤ 100 ∧ Q (.str ⟨(List.replicate n c).toArray⟩) H
theorem rep_eq (c : Nat) : ∀ (n : Nat) (a : Array Nat), (List.replicate n #[c]).foldl (· ++ ·) a = a ++ (List.replicate n c).toArray
  | 0, a => by simp
  | n + 1, a => by
    rw [List.replicate_succ, List.foldl_cons, rep_eq c n, List.replicate_succ]
    apply Array.ext'
    simp
theorem op_mulS : OpR X (binaryOp .Mult) rMulS := by
  intro pins s σ H x y v u Q I rx ry h
  obtain ⟨c, n, rfl, rfl, h1, h2, q⟩ := h
  obtain ⟨t, rfl⟩ := rx
  obtain ⟨t', rfl⟩ := ry
  have hx : (⟨#[c]⟩ : Str).length = 1 := rfl
  have hn : ¬ ((n : Int) < 1) := by omega
  refine P.mul_str (by
    have a1 : ¬ ((n : Int) < -(2 ^ 63 : Int)) := by omega
    have a2 : ¬ ((n : Int) ≥ 2 ^ 63) := by omega
    rw [decide_eq_false a1, decide_eq_false a2]; rfl) (fun _ _ => ?_) (fun _ _ => ?_) ?_
  · rw [hx]
    have e : (1 : Int) ≤ (2 ^ 63 - 1) / (n : Int) := by
      rw [Int.le_ediv_iff_mul_le (by omega)]
      omega
    show ¬ ((1 : Nat) : Int) > (2 ^ 63 - 1) / (n : Int)
    omega
  · rw [hx]
    have e : (n : Int).toNat = n := by omega
    rw [e]
    unfold Builtin.Str.tooLong
    refine decide_eq_false ?_
    rw [sizeLine_eq]
    omega
  · rw [if_neg hn]
    by_cases e1 : n = 1
    · subst e1
      rw [if_pos (by rfl)]
      exact ⟨.str ⟨#[c]⟩, H, I, ⟨_, rfl⟩, q⟩
    · have e2 : ((n : Int) == 1 || (⟨#[c]⟩ : Str).length == 0) = false := by
        rw [hx]
        have : ¬ ((n : Int) = 1) := by omega
        simp [this]
      rw [e2, if_neg Bool.false_ne_true]
      have e3 : (n : Int).toNat = n := by omega
      rw [e3, rep_eq c n #[]]
      rw [Array.empty_append]
      refine ⟨?_, .str _, H, I.tok _, ⟨_, rfl⟩, q⟩
      show (List.replicate n c).toArray.size ≤ sizeLine
      rw [sizeLine_eq]
      simp
      omega
end
end TH
end
section
set_option Elab.async false
set_option linter.all false
set_option maxRecDepth 100000
namespace TH
open PySem PySem.Spec PyProof.Rows L2
structure Tx (K : PySem.W.Frag) (mg : Str → Option Value) : Prop where
  ex : ∃ h : Heap, K.In h ∧ h.Ns mainGlobals mg
  says : He.SaysD fa fn K
  exc : exChk K = true
section
variable {K : PySem.W.Frag} {mg : Str → Option Value}
theorem Tx.glo (T : Tx K mg) {x : Str} (c : (He.Fa.glo x).ok K = true) : mg x = some (.ref (He.ga K x)) := by
  obtain ⟨h, X, G⟩ := T.ex
  exact He.glo_ok X G c
theorem Tx.free (T : Tx K mg) {x : Str} (c : (He.Fa.free x).ok K = true) : mg x = none := by
  obtain ⟨h, X, G⟩ := T.ex
  exact He.free_ok X G c
theorem Tx.g_is_integer (T : Tx K mg) : mg "is_integer" = some (.ref (He.ga K "is_integer")) := T.glo (T.says.fact 0 (f := .glo "is_integer") rfl)
theorem Tx.g_deep (T : Tx K mg) : mg "deep" = some (.ref (He.ga K "deep")) := T.glo (T.says.fact 1 (f := .glo "deep") rfl)
theorem Tx.g_is_capital (T : Tx K mg) : mg "is_capital" = some (.ref (He.ga K "is_capital")) := T.glo (T.says.fact 2 (f := .glo "is_capital") rfl)
theorem Tx.g_is_lot (T : Tx K mg) : mg "is_lot" = some (.ref (He.ga K "is_lot")) := T.glo (T.says.fact 3 (f := .glo "is_lot") rfl)
theorem Tx.g_is_words (T : Tx K mg) : mg "is_words" = some (.ref (He.ga K "is_words")) := T.glo (T.says.fact 4 (f := .glo "is_words") rfl)
theorem Tx.g_is_rising (T : Tx K mg) : mg "is_rising" = some (.ref (He.ga K "is_rising")) := T.glo (T.says.fact 5 (f := .glo "is_rising") rfl)
theorem Tx.g_check_calling (T : Tx K mg) : mg "check_calling" = some (.ref (He.ga K "check_calling")) := T.glo (T.says.fact 6 (f := .glo "check_calling") rfl)
theorem Tx.g_is_wish (T : Tx K mg) : mg "is_wish" = some (.ref (He.ga K "is_wish")) := T.glo (T.says.fact 7 (f := .glo "is_wish") rfl)
theorem Tx.g_check_wish (T : Tx K mg) : mg "check_wish" = some (.ref (He.ga K "check_wish")) := T.glo (T.says.fact 8 (f := .glo "check_wish") rfl)
theorem Tx.g_check_signs (T : Tx K mg) : mg "check_signs" = some (.ref (He.ga K "check_signs")) := T.glo (T.says.fact 9 (f := .glo "check_signs") rfl)
theorem Tx.g_check_columns (T : Tx K mg) : mg "check_columns" = some (.ref (He.ga K "check_columns")) := T.glo (T.says.fact 10 (f := .glo "check_columns") rfl)
theorem Tx.g_reached_states (T : Tx K mg) : mg "reached_states" = some (.ref (He.ga K "reached_states")) := T.glo (T.says.fact 11 (f := .glo "reached_states") rfl)
theorem Tx.g_neighbours_of (T : Tx K mg) : mg "neighbours_of" = some (.ref (He.ga K "neighbours_of")) := T.glo (T.says.fact 12 (f := .glo "neighbours_of") rfl)
theorem Tx.g_kinds_of_columns (T : Tx K mg) : mg "kinds_of_columns" = some (.ref (He.ga K "kinds_of_columns")) := T.glo (T.says.fact 13 (f := .glo "kinds_of_columns") rfl)
theorem Tx.g_is_standing (T : Tx K mg) : mg "is_standing" = some (.ref (He.ga K "is_standing")) := T.glo (T.says.fact 14 (f := .glo "is_standing") rfl)
theorem Tx.g_bad_standing (T : Tx K mg) : mg "bad_standing" = some (.ref (He.ga K "bad_standing")) := T.glo (T.says.fact 15 (f := .glo "bad_standing") rfl)
theorem Tx.g_is_kind (T : Tx K mg) : mg "is_kind" = some (.ref (He.ga K "is_kind")) := T.glo (T.says.fact 16 (f := .glo "is_kind") rfl)
theorem Tx.g_check_kinds (T : Tx K mg) : mg "check_kinds" = some (.ref (He.ga K "check_kinds")) := T.glo (T.says.fact 17 (f := .glo "check_kinds") rfl)
theorem Tx.g_seats_of (T : Tx K mg) : mg "seats_of" = some (.ref (He.ga K "seats_of")) := T.glo (T.says.fact 18 (f := .glo "seats_of") rfl)
theorem Tx.g_check_goal (T : Tx K mg) : mg "check_goal" = some (.ref (He.ga K "check_goal")) := T.glo (T.says.fact 19 (f := .glo "check_goal") rfl)
theorem Tx.g_search (T : Tx K mg) : mg "search" = some (.ref (He.ga K "search")) := T.glo (T.says.fact 20 (f := .glo "search") rfl)
theorem Tx.g_check_column (T : Tx K mg) : mg "check_column" = some (.ref (He.ga K "check_column")) := T.glo (T.says.fact 21 (f := .glo "check_column") rfl)
theorem Tx.g_is_plan_sign (T : Tx K mg) : mg "is_plan_sign" = some (.ref (He.ga K "is_plan_sign")) := T.glo (T.says.fact 22 (f := .glo "is_plan_sign") rfl)
theorem Tx.g_is_state (T : Tx K mg) : mg "is_state" = some (.ref (He.ga K "is_state")) := T.glo (T.says.fact 23 (f := .glo "is_state") rfl)
theorem Tx.g_live_states (T : Tx K mg) : mg "live_states" = some (.ref (He.ga K "live_states")) := T.glo (T.says.fact 24 (f := .glo "live_states") rfl)
theorem Tx.g_step_rows_of (T : Tx K mg) : mg "step_rows_of" = some (.ref (He.ga K "step_rows_of")) := T.glo (T.says.fact 25 (f := .glo "step_rows_of") rfl)
theorem Tx.g_traced (T : Tx K mg) : mg "traced" = some (.ref (He.ga K "traced")) := T.glo (T.says.fact 26 (f := .glo "traced") rfl)
theorem Tx.g_gaps_between (T : Tx K mg) : mg "gaps_between" = some (.ref (He.ga K "gaps_between")) := T.glo (T.says.fact 27 (f := .glo "gaps_between") rfl)
theorem Tx.g_breach_of_rows (T : Tx K mg) : mg "breach_of_rows" = some (.ref (He.ga K "breach_of_rows")) := T.glo (T.says.fact 28 (f := .glo "breach_of_rows") rfl)
theorem Tx.g__law_draw (T : Tx K mg) : mg "_law_draw" = some (.ref (He.ga K "_law_draw")) := T.glo (T.says.fact 29 (f := .glo "_law_draw") rfl)
theorem Tx.g__law_mix (T : Tx K mg) : mg "_law_mix" = some (.ref (He.ga K "_law_mix")) := T.glo (T.says.fact 30 (f := .glo "_law_mix") rfl)
theorem Tx.g__law_pick (T : Tx K mg) : mg "_law_pick" = some (.ref (He.ga K "_law_pick")) := T.glo (T.says.fact 31 (f := .glo "_law_pick") rfl)
theorem Tx.g__law_listed (T : Tx K mg) : mg "_law_listed" = some (.ref (He.ga K "_law_listed")) := T.glo (T.says.fact 32 (f := .glo "_law_listed") rfl)
theorem Tx.g__law_words (T : Tx K mg) : mg "_law_words" = some (.ref (He.ga K "_law_words")) := T.glo (T.says.fact 33 (f := .glo "_law_words") rfl)
theorem Tx.g__law_names (T : Tx K mg) : mg "_law_names" = some (.ref (He.ga K "_law_names")) := T.glo (T.says.fact 34 (f := .glo "_law_names") rfl)
theorem Tx.g__law_drill (T : Tx K mg) : mg "_law_drill" = some (.ref (He.ga K "_law_drill")) := T.glo (T.says.fact 35 (f := .glo "_law_drill") rfl)
theorem Tx.g__law_even_drill (T : Tx K mg) : mg "_law_even_drill" = some (.ref (He.ga K "_law_even_drill")) := T.glo (T.says.fact 36 (f := .glo "_law_even_drill") rfl)
theorem Tx.g__law_kind (T : Tx K mg) : mg "_law_kind" = some (.ref (He.ga K "_law_kind")) := T.glo (T.says.fact 37 (f := .glo "_law_kind") rfl)
theorem Tx.g__law_seat (T : Tx K mg) : mg "_law_seat" = some (.ref (He.ga K "_law_seat")) := T.glo (T.says.fact 38 (f := .glo "_law_seat") rfl)
theorem Tx.g__law_all_names (T : Tx K mg) : mg "_law_all_names" = some (.ref (He.ga K "_law_all_names")) := T.glo (T.says.fact 39 (f := .glo "_law_all_names") rfl)
theorem Tx.g__law_led (T : Tx K mg) : mg "_law_led" = some (.ref (He.ga K "_law_led")) := T.glo (T.says.fact 40 (f := .glo "_law_led") rfl)
theorem Tx.g__law_plan (T : Tx K mg) : mg "_law_plan" = some (.ref (He.ga K "_law_plan")) := T.glo (T.says.fact 41 (f := .glo "_law_plan") rfl)
theorem Tx.g__law_reaches (T : Tx K mg) : mg "_law_reaches" = some (.ref (He.ga K "_law_reaches")) := T.glo (T.says.fact 42 (f := .glo "_law_reaches") rfl)
theorem Tx.g__law_neighbours (T : Tx K mg) : mg "_law_neighbours" = some (.ref (He.ga K "_law_neighbours")) := T.glo (T.says.fact 43 (f := .glo "_law_neighbours") rfl)
theorem Tx.g__law_trace (T : Tx K mg) : mg "_law_trace" = some (.ref (He.ga K "_law_trace")) := T.glo (T.says.fact 44 (f := .glo "_law_trace") rfl)
theorem Tx.g__law_column (T : Tx K mg) : mg "_law_column" = some (.ref (He.ga K "_law_column")) := T.glo (T.says.fact 45 (f := .glo "_law_column") rfl)
theorem Tx.g__law_run (T : Tx K mg) : mg "_law_run" = some (.ref (He.ga K "_law_run")) := T.glo (T.says.fact 46 (f := .glo "_law_run") rfl)
theorem Tx.g__law_borne_column (T : Tx K mg) : mg "_law_borne_column" = some (.ref (He.ga K "_law_borne_column")) := T.glo (T.says.fact 47 (f := .glo "_law_borne_column") rfl)
theorem Tx.g__law_world (T : Tx K mg) : mg "_law_world" = some (.ref (He.ga K "_law_world")) := T.glo (T.says.fact 48 (f := .glo "_law_world") rfl)
theorem Tx.g__law_single_names (T : Tx K mg) : mg "_law_single_names" = some (.ref (He.ga K "_law_single_names")) := T.glo (T.says.fact 49 (f := .glo "_law_single_names") rfl)
theorem Tx.g__law_arrives (T : Tx K mg) : mg "_law_arrives" = some (.ref (He.ga K "_law_arrives")) := T.glo (T.says.fact 50 (f := .glo "_law_arrives") rfl)
theorem Tx.g__law_leads (T : Tx K mg) : mg "_law_leads" = some (.ref (He.ga K "_law_leads")) := T.glo (T.says.fact 51 (f := .glo "_law_leads") rfl)
theorem Tx.g__law_longer (T : Tx K mg) : mg "_law_longer" = some (.ref (He.ga K "_law_longer")) := T.glo (T.says.fact 52 (f := .glo "_law_longer") rfl)
theorem Tx.g__law_texts (T : Tx K mg) : mg "_law_texts" = some (.ref (He.ga K "_law_texts")) := T.glo (T.says.fact 53 (f := .glo "_law_texts") rfl)
theorem Tx.g__law_in_column (T : Tx K mg) : mg "_law_in_column" = some (.ref (He.ga K "_law_in_column")) := T.glo (T.says.fact 54 (f := .glo "_law_in_column") rfl)
theorem Tx.g_law (T : Tx K mg) : mg "law" = some (.ref (He.ga K "law")) := T.glo (T.says.fact 55 (f := .glo "law") rfl)
theorem Tx.g_Drill (T : Tx K mg) : mg "Drill" = some (.ref (He.ga K "Drill")) := T.glo (T.says.fact 56 (f := .glo "Drill") rfl)
theorem Tx.g_Make (T : Tx K mg) : mg "Make" = some (.ref (He.ga K "Make")) := T.glo (T.says.fact 57 (f := .glo "Make") rfl)
theorem Tx.g_Field (T : Tx K mg) : mg "Field" = some (.ref (He.ga K "Field")) := T.glo (T.says.fact 58 (f := .glo "Field") rfl)
theorem Tx.g_Lead (T : Tx K mg) : mg "Lead" = some (.ref (He.ga K "Lead")) := T.glo (T.says.fact 59 (f := .glo "Lead") rfl)
theorem Tx.g_Column (T : Tx K mg) : mg "Column" = some (.ref (He.ga K "Column")) := T.glo (T.says.fact 60 (f := .glo "Column") rfl)
theorem Tx.g_Plan (T : Tx K mg) : mg "Plan" = some (.ref (He.ga K "Plan")) := T.glo (T.says.fact 61 (f := .glo "Plan") rfl)
theorem Tx.g_Run (T : Tx K mg) : mg "Run" = some (.ref (He.ga K "Run")) := T.glo (T.says.fact 62 (f := .glo "Run") rfl)
theorem Tx.g_TooMany (T : Tx K mg) : mg "TooMany" = some (.ref (He.ga K "TooMany")) := T.glo (T.says.fact 63 (f := .glo "TooMany") rfl)
theorem Tx.z_isinstance (T : Tx K mg) : mg "isinstance" = none := T.free (T.says.fact 64 (f := .free "isinstance") rfl)
theorem Tx.z_int (T : Tx K mg) : mg "int" = none := T.free (T.says.fact 65 (f := .free "int") rfl)
theorem Tx.z_bool (T : Tx K mg) : mg "bool" = none := T.free (T.says.fact 66 (f := .free "bool") rfl)
theorem Tx.z_list (T : Tx K mg) : mg "list" = none := T.free (T.says.fact 67 (f := .free "list") rfl)
theorem Tx.z_tuple (T : Tx K mg) : mg "tuple" = none := T.free (T.says.fact 68 (f := .free "tuple") rfl)
theorem Tx.z_str (T : Tx K mg) : mg "str" = none := T.free (T.says.fact 69 (f := .free "str") rfl)
theorem Tx.z_len (T : Tx K mg) : mg "len" = none := T.free (T.says.fact 70 (f := .free "len") rfl)
theorem Tx.z_all (T : Tx K mg) : mg "all" = none := T.free (T.says.fact 71 (f := .free "all") rfl)
theorem Tx.z_zip (T : Tx K mg) : mg "zip" = none := T.free (T.says.fact 72 (f := .free "zip") rfl)
theorem Tx.z_enumerate (T : Tx K mg) : mg "enumerate" = none := T.free (T.says.fact 73 (f := .free "enumerate") rfl)
theorem Tx.z_range (T : Tx K mg) : mg "range" = none := T.free (T.says.fact 74 (f := .free "range") rfl)
theorem Tx.z_sorted (T : Tx K mg) : mg "sorted" = none := T.free (T.says.fact 75 (f := .free "sorted") rfl)
theorem Tx.z_max (T : Tx K mg) : mg "max" = none := T.free (T.says.fact 76 (f := .free "max") rfl)
theorem Tx.z_min (T : Tx K mg) : mg "min" = none := T.free (T.says.fact 77 (f := .free "min") rfl)
theorem Tx.z_abs (T : Tx K mg) : mg "abs" = none := T.free (T.says.fact 78 (f := .free "abs") rfl)
theorem Tx.z_sum (T : Tx K mg) : mg "sum" = none := T.free (T.says.fact 79 (f := .free "sum") rfl)
theorem Tx.c_Drill (T : Tx K mg) : Cls K (He.ga K "Drill") := He.cls_ok (T.says.fact 80 (f := .cls "Drill") rfl)
theorem Tx.mkr_Drill (T : Tx K mg) : Mk K (He.ga K "Drill") (He.ma K (He.ga K "Drill") "__init__") := He.mkr_ok (T.says.fact 81 (f := .mkr "Drill") rfl)
theorem Tx.n_Drill_bodies (T : Tx K mg) : NoAttr K (He.ga K "Drill") "bodies" := He.noat_ok (T.says.fact 82 (f := .noat "Drill" "bodies") rfl)
theorem Tx.n_Drill_leads (T : Tx K mg) : NoAttr K (He.ga K "Drill") "leads" := He.noat_ok (T.says.fact 83 (f := .noat "Drill" "leads") rfl)
theorem Tx.n_Drill_signs (T : Tx K mg) : NoAttr K (He.ga K "Drill") "signs" := He.noat_ok (T.says.fact 84 (f := .noat "Drill" "signs") rfl)
theorem Tx.n_Drill_standings (T : Tx K mg) : NoAttr K (He.ga K "Drill") "standings" := He.noat_ok (T.says.fact 85 (f := .noat "Drill" "standings") rfl)
theorem Tx.n_Drill_strides (T : Tx K mg) : NoAttr K (He.ga K "Drill") "strides" := He.noat_ok (T.says.fact 86 (f := .noat "Drill" "strides") rfl)
theorem Tx.n_Drill_words (T : Tx K mg) : NoAttr K (He.ga K "Drill") "words" := He.noat_ok (T.says.fact 87 (f := .noat "Drill" "words") rfl)
theorem Tx.c_Make (T : Tx K mg) : Cls K (He.ga K "Make") := He.cls_ok (T.says.fact 88 (f := .cls "Make") rfl)
theorem Tx.mkr_Make (T : Tx K mg) : Mk K (He.ga K "Make") (He.ma K (He.ga K "Make") "__init__") := He.mkr_ok (T.says.fact 89 (f := .mkr "Make") rfl)
theorem Tx.n_Make_drills (T : Tx K mg) : NoAttr K (He.ga K "Make") "drills" := He.noat_ok (T.says.fact 90 (f := .noat "Make" "drills") rfl)
theorem Tx.n_Make_kinds (T : Tx K mg) : NoAttr K (He.ga K "Make") "kinds" := He.noat_ok (T.says.fact 91 (f := .noat "Make" "kinds") rfl)
theorem Tx.n_Make_lags (T : Tx K mg) : NoAttr K (He.ga K "Make") "lags" := He.noat_ok (T.says.fact 92 (f := .noat "Make" "lags") rfl)
theorem Tx.n_Make_name_row (T : Tx K mg) : NoAttr K (He.ga K "Make") "name_row" := He.noat_ok (T.says.fact 93 (f := .noat "Make" "name_row") rfl)
theorem Tx.n_Make_seat_table (T : Tx K mg) : NoAttr K (He.ga K "Make") "seat_table" := He.noat_ok (T.says.fact 94 (f := .noat "Make" "seat_table") rfl)
theorem Tx.n_Make_seats (T : Tx K mg) : NoAttr K (He.ga K "Make") "seats" := He.noat_ok (T.says.fact 95 (f := .noat "Make" "seats") rfl)
theorem Tx.n_Make_signs (T : Tx K mg) : NoAttr K (He.ga K "Make") "signs" := He.noat_ok (T.says.fact 96 (f := .noat "Make" "signs") rfl)
theorem Tx.n_Make_space (T : Tx K mg) : NoAttr K (He.ga K "Make") "space" := He.noat_ok (T.says.fact 97 (f := .noat "Make" "space") rfl)
theorem Tx.n_Make_words (T : Tx K mg) : NoAttr K (He.ga K "Make") "words" := He.noat_ok (T.says.fact 98 (f := .noat "Make" "words") rfl)
theorem Tx.m_Make_check_name (T : Tx K mg) : Meth K (He.ga K "Make") "check_name" (He.ma K (He.ga K "Make") "check_name") := He.meth_ok (T.says.fact 99 (f := .meth "Make" "check_name") rfl)
theorem Tx.m_Make_seat_of (T : Tx K mg) : Meth K (He.ga K "Make") "seat_of" (He.ma K (He.ga K "Make") "seat_of") := He.meth_ok (T.says.fact 100 (f := .meth "Make" "seat_of") rfl)
theorem Tx.c_Field (T : Tx K mg) : Cls K (He.ga K "Field") := He.cls_ok (T.says.fact 101 (f := .cls "Field") rfl)
theorem Tx.mkr_Field (T : Tx K mg) : Mk K (He.ga K "Field") (He.ma K (He.ga K "Field") "__init__") := He.mkr_ok (T.says.fact 102 (f := .mkr "Field") rfl)
theorem Tx.n_Field_goal (T : Tx K mg) : NoAttr K (He.ga K "Field") "goal" := He.noat_ok (T.says.fact 103 (f := .noat "Field" "goal") rfl)
theorem Tx.n_Field_kinds (T : Tx K mg) : NoAttr K (He.ga K "Field") "kinds" := He.noat_ok (T.says.fact 104 (f := .noat "Field" "kinds") rfl)
theorem Tx.n_Field_make (T : Tx K mg) : NoAttr K (He.ga K "Field") "make" := He.noat_ok (T.says.fact 105 (f := .noat "Field" "make") rfl)
theorem Tx.n_Field_twos (T : Tx K mg) : NoAttr K (He.ga K "Field") "twos" := He.noat_ok (T.says.fact 106 (f := .noat "Field" "twos") rfl)
theorem Tx.n_Field_wish (T : Tx K mg) : NoAttr K (He.ga K "Field") "wish" := He.noat_ok (T.says.fact 107 (f := .noat "Field" "wish") rfl)
theorem Tx.m_Field_first_joint (T : Tx K mg) : Meth K (He.ga K "Field") "first_joint" (He.ma K (He.ga K "Field") "first_joint") := He.meth_ok (T.says.fact 108 (f := .meth "Field" "first_joint") rfl)
theorem Tx.m_Field_led (T : Tx K mg) : Meth K (He.ga K "Field") "led" (He.ma K (He.ga K "Field") "led") := He.meth_ok (T.says.fact 109 (f := .meth "Field" "led") rfl)
theorem Tx.m_Field_keeps (T : Tx K mg) : Meth K (He.ga K "Field") "keeps" (He.ma K (He.ga K "Field") "keeps") := He.meth_ok (T.says.fact 110 (f := .meth "Field" "keeps") rfl)
theorem Tx.m_Field_settled (T : Tx K mg) : Meth K (He.ga K "Field") "settled" (He.ma K (He.ga K "Field") "settled") := He.meth_ok (T.says.fact 111 (f := .meth "Field" "settled") rfl)
theorem Tx.c_Lead (T : Tx K mg) : Cls K (He.ga K "Lead") := He.cls_ok (T.says.fact 112 (f := .cls "Lead") rfl)
theorem Tx.mkr_Lead (T : Tx K mg) : Mk K (He.ga K "Lead") (He.ma K (He.ga K "Lead") "__init__") := He.mkr_ok (T.says.fact 113 (f := .mkr "Lead") rfl)
theorem Tx.n_Lead_calling (T : Tx K mg) : NoAttr K (He.ga K "Lead") "calling" := He.noat_ok (T.says.fact 114 (f := .noat "Lead" "calling") rfl)
theorem Tx.n_Lead_holds (T : Tx K mg) : NoAttr K (He.ga K "Lead") "holds" := He.noat_ok (T.says.fact 115 (f := .noat "Lead" "holds") rfl)
theorem Tx.n_Lead_rows (T : Tx K mg) : NoAttr K (He.ga K "Lead") "rows" := He.noat_ok (T.says.fact 116 (f := .noat "Lead" "rows") rfl)
theorem Tx.n_Lead_table (T : Tx K mg) : NoAttr K (He.ga K "Lead") "table" := He.noat_ok (T.says.fact 117 (f := .noat "Lead" "table") rfl)
theorem Tx.m_Lead_bool (T : Tx K mg) : Meth K (He.ga K "Lead") "__bool__" (He.ma K (He.ga K "Lead") "__bool__") := He.meth_ok (T.says.fact 118 (f := .meth "Lead" "__bool__") rfl)
theorem Tx.c_Column (T : Tx K mg) : Cls K (He.ga K "Column") := He.cls_ok (T.says.fact 119 (f := .cls "Column") rfl)
theorem Tx.mkr_Column (T : Tx K mg) : Mk K (He.ga K "Column") (He.ma K (He.ga K "Column") "__init__") := He.mkr_ok (T.says.fact 120 (f := .mkr "Column") rfl)
theorem Tx.n_Column_delay_list (T : Tx K mg) : NoAttr K (He.ga K "Column") "delay_list" := He.noat_ok (T.says.fact 121 (f := .noat "Column" "delay_list") rfl)
theorem Tx.n_Column_front_list (T : Tx K mg) : NoAttr K (He.ga K "Column") "front_list" := He.noat_ok (T.says.fact 122 (f := .noat "Column" "front_list") rfl)
theorem Tx.n_Column_groups (T : Tx K mg) : NoAttr K (He.ga K "Column") "groups" := He.noat_ok (T.says.fact 123 (f := .noat "Column" "groups") rfl)
theorem Tx.n_Column_make (T : Tx K mg) : NoAttr K (He.ga K "Column") "make" := He.noat_ok (T.says.fact 124 (f := .noat "Column" "make") rfl)
theorem Tx.n_Column_whole_length (T : Tx K mg) : NoAttr K (He.ga K "Column") "whole_length" := He.noat_ok (T.says.fact 125 (f := .noat "Column" "whole_length") rfl)
theorem Tx.c_Plan (T : Tx K mg) : Cls K (He.ga K "Plan") := He.cls_ok (T.says.fact 126 (f := .cls "Plan") rfl)
theorem Tx.mkr_Plan (T : Tx K mg) : Mk K (He.ga K "Plan") (He.ma K (He.ga K "Plan") "__init__") := He.mkr_ok (T.says.fact 127 (f := .mkr "Plan") rfl)
theorem Tx.n_Plan_ends (T : Tx K mg) : NoAttr K (He.ga K "Plan") "ends" := He.noat_ok (T.says.fact 128 (f := .noat "Plan" "ends") rfl)
theorem Tx.n_Plan_is_end (T : Tx K mg) : NoAttr K (He.ga K "Plan") "is_end" := He.noat_ok (T.says.fact 129 (f := .noat "Plan" "is_end") rfl)
theorem Tx.n_Plan_states (T : Tx K mg) : NoAttr K (He.ga K "Plan") "states" := He.noat_ok (T.says.fact 130 (f := .noat "Plan" "states") rfl)
theorem Tx.n_Plan_step_rows (T : Tx K mg) : NoAttr K (He.ga K "Plan") "step_rows" := He.noat_ok (T.says.fact 131 (f := .noat "Plan" "step_rows") rfl)
theorem Tx.n_Plan_table (T : Tx K mg) : NoAttr K (He.ga K "Plan") "table" := He.noat_ok (T.says.fact 132 (f := .noat "Plan" "table") rfl)
theorem Tx.c_Run (T : Tx K mg) : Cls K (He.ga K "Run") := He.cls_ok (T.says.fact 133 (f := .cls "Run") rfl)
theorem Tx.mkr_Run (T : Tx K mg) : Mk K (He.ga K "Run") (He.ma K (He.ga K "Run") "__init__") := He.mkr_ok (T.says.fact 134 (f := .mkr "Run") rfl)
theorem Tx.n_Run_beats (T : Tx K mg) : NoAttr K (He.ga K "Run") "beats" := He.noat_ok (T.says.fact 135 (f := .noat "Run" "beats") rfl)
theorem Tx.n_Run_calling (T : Tx K mg) : NoAttr K (He.ga K "Run") "calling" := He.noat_ok (T.says.fact 136 (f := .noat "Run" "calling") rfl)
theorem Tx.n_Run_column (T : Tx K mg) : NoAttr K (He.ga K "Run") "column" := He.noat_ok (T.says.fact 137 (f := .noat "Run" "column") rfl)
theorem Tx.n_Run_front_rows (T : Tx K mg) : NoAttr K (He.ga K "Run") "front_rows" := He.noat_ok (T.says.fact 138 (f := .noat "Run" "front_rows") rfl)
theorem Tx.n_Run_rows (T : Tx K mg) : NoAttr K (He.ga K "Run") "rows" := He.noat_ok (T.says.fact 139 (f := .noat "Run" "rows") rfl)
theorem Tx.m_Run_check_beat (T : Tx K mg) : Meth K (He.ga K "Run") "check_beat" (He.ma K (He.ga K "Run") "check_beat") := He.meth_ok (T.says.fact 140 (f := .meth "Run" "check_beat") rfl)
theorem Tx.m_Run_standings_at (T : Tx K mg) : Meth K (He.ga K "Run") "standings_at" (He.ma K (He.ga K "Run") "standings_at") := He.meth_ok (T.says.fact 141 (f := .meth "Run" "standings_at") rfl)
theorem Tx.m_Run_first_breach (T : Tx K mg) : Meth K (He.ga K "Run") "first_breach" (He.ma K (He.ga K "Run") "first_breach") := He.meth_ok (T.says.fact 142 (f := .meth "Run" "first_breach") rfl)
theorem Tx.m_TooMany_init (T : Tx K mg) : Meth K (He.ga K "TooMany") "__init__" (He.ma K (He.ga K "TooMany") "__init__") := He.meth_ok (T.says.fact 143 (f := .meth "TooMany" "__init__") rfl)
theorem Tx.n_TooMany_word (T : Tx K mg) : NoAttr K (He.ga K "TooMany") "word" := He.noat_ok (T.says.fact 144 (f := .noat "TooMany" "word") rfl)
theorem Tx.d_TooMany_init (T : Tx K mg) : Df K "__init__" "TooMany.__init__" s_TooMany_init ["self", "word"] [] (He.ma K (He.ga K "TooMany") "__init__") := by
  obtain ⟨fd, F⟩ := T.says.def_ 0 (d := fnD ("TooMany", some "__init__") "__init__" "TooMany.__init__" s_TooMany_init []) rfl
  exact Df.mkN F fun _ _ _ _ _ _ us hl => match us, hl with | [_, _], _ => rfl
theorem Tx.d_is_integer (T : Tx K mg) : Df K "is_integer" "is_integer" s_is_integer ["thing", "low", "high"] [] (He.ga K "is_integer") := by
  obtain ⟨fd, F⟩ := T.says.def_ 1 (d := fnD ("is_integer", none) "is_integer" "is_integer" s_is_integer []) rfl
  exact Df.mkN F fun _ _ _ _ _ _ us hl => match us, hl with | [_, _, _], _ => rfl
theorem Tx.d_deep (T : Tx K mg) : Df K "deep" "deep" s_deep ["thing", "left"] [] (He.ga K "deep") := by
  obtain ⟨fd, F⟩ := T.says.def_ 2 (d := fnD ("deep", none) "deep" "deep" s_deep [.int 12]) rfl
  exact Df.mkD (dfl := [_]) F 2 1 (List.cons_ne_nil _ _) rfl fun T kV doc pm an cdv ct us its hu hi => match us, its, hu, hi with | [_, _], [_], _, _ => ⟨_, rfl, rfl⟩
theorem Tx.d_deep_d (T : Tx K mg) : Df K "deep" "deep" s_deep ["thing", "left"] [.int 12] (He.ga K "deep") := by
  obtain ⟨fd, F⟩ := T.says.def_ 2 (d := fnD ("deep", none) "deep" "deep" s_deep [.int 12]) rfl
  exact Df.mkD (dfl := [_]) F 1 0 (List.cons_ne_nil _ _) rfl fun T kV doc pm an cdv ct us its hu hi => match us, its, hu, hi with | [_], [_], _, _ => ⟨_, rfl, rfl⟩
theorem Tx.d_is_capital (T : Tx K mg) : Df K "is_capital" "is_capital" s_is_capital ["thing"] [] (He.ga K "is_capital") := by
  obtain ⟨fd, F⟩ := T.says.def_ 3 (d := fnD ("is_capital", none) "is_capital" "is_capital" s_is_capital []) rfl
  exact Df.mkN F fun _ _ _ _ _ _ us hl => match us, hl with | [_], _ => rfl
theorem Tx.d_is_lot (T : Tx K mg) : Df K "is_lot" "is_lot" s_is_lot ["thing"] [] (He.ga K "is_lot") := by
  obtain ⟨fd, F⟩ := T.says.def_ 4 (d := fnD ("is_lot", none) "is_lot" "is_lot" s_is_lot []) rfl
  exact Df.mkN F fun _ _ _ _ _ _ us hl => match us, hl with | [_], _ => rfl
theorem Tx.d_is_words (T : Tx K mg) : Df K "is_words" "is_words" s_is_words ["thing"] [] (He.ga K "is_words") := by
  obtain ⟨fd, F⟩ := T.says.def_ 5 (d := fnD ("is_words", none) "is_words" "is_words" s_is_words []) rfl
  exact Df.mkN F fun _ _ _ _ _ _ us hl => match us, hl with | [_], _ => rfl
theorem Tx.d_is_rising (T : Tx K mg) : Df K "is_rising" "is_rising" s_is_rising ["thing", "low", "high"] [] (He.ga K "is_rising") := by
  obtain ⟨fd, F⟩ := T.says.def_ 6 (d := fnD ("is_rising", none) "is_rising" "is_rising" s_is_rising []) rfl
  exact Df.mkN F fun _ _ _ _ _ _ us hl => match us, hl with | [_, _, _], _ => rfl
theorem Tx.d_check_calling (T : Tx K mg) : Df K "check_calling" "check_calling" s_check_calling ["signs", "calling", "most"] [] (He.ga K "check_calling") := by
  obtain ⟨fd, F⟩ := T.says.def_ 7 (d := fnD ("check_calling", none) "check_calling" "check_calling" s_check_calling [.int 400]) rfl
  exact Df.mkD (dfl := [_]) F 3 1 (List.cons_ne_nil _ _) rfl fun T kV doc pm an cdv ct us its hu hi => match us, its, hu, hi with | [_, _, _], [_], _, _ => ⟨_, rfl, rfl⟩
theorem Tx.d_check_calling_d (T : Tx K mg) : Df K "check_calling" "check_calling" s_check_calling ["signs", "calling", "most"] [.int 400] (He.ga K "check_calling") := by
  obtain ⟨fd, F⟩ := T.says.def_ 7 (d := fnD ("check_calling", none) "check_calling" "check_calling" s_check_calling [.int 400]) rfl
  exact Df.mkD (dfl := [_]) F 2 0 (List.cons_ne_nil _ _) rfl fun T kV doc pm an cdv ct us its hu hi => match us, its, hu, hi with | [_, _], [_], _, _ => ⟨_, rfl, rfl⟩
theorem Tx.d_is_wish (T : Tx K mg) : Df K "is_wish" "is_wish" s_is_wish ["thing"] [] (He.ga K "is_wish") := by
  obtain ⟨fd, F⟩ := T.says.def_ 8 (d := fnD ("is_wish", none) "is_wish" "is_wish" s_is_wish []) rfl
  exact Df.mkN F fun _ _ _ _ _ _ us hl => match us, hl with | [_], _ => rfl
theorem Tx.d_check_wish (T : Tx K mg) : Df K "check_wish" "check_wish" s_check_wish ["thing"] [] (He.ga K "check_wish") := by
  obtain ⟨fd, F⟩ := T.says.def_ 9 (d := fnD ("check_wish", none) "check_wish" "check_wish" s_check_wish []) rfl
  exact Df.mkN F fun _ _ _ _ _ _ us hl => match us, hl with | [_], _ => rfl
theorem Tx.d_check_signs (T : Tx K mg) : Df K "check_signs" "check_signs" s_check_signs ["plan", "signs"] [] (He.ga K "check_signs") := by
  obtain ⟨fd, F⟩ := T.says.def_ 10 (d := fnD ("check_signs", none) "check_signs" "check_signs" s_check_signs []) rfl
  exact Df.mkN F fun _ _ _ _ _ _ us hl => match us, hl with | [_, _], _ => rfl
theorem Tx.d_check_columns (T : Tx K mg) : Df K "check_columns" "check_columns" s_check_columns ["make", "plan"] [] (He.ga K "check_columns") := by
  obtain ⟨fd, F⟩ := T.says.def_ 11 (d := fnD ("check_columns", none) "check_columns" "check_columns" s_check_columns []) rfl
  exact Df.mkN F fun _ _ _ _ _ _ us hl => match us, hl with | [_, _], _ => rfl
theorem Tx.d_reached_states (T : Tx K mg) : Df K "reached_states" "reached_states" s_reached_states ["plan"] [] (He.ga K "reached_states") := by
  obtain ⟨fd, F⟩ := T.says.def_ 12 (d := fnD ("reached_states", none) "reached_states" "reached_states" s_reached_states []) rfl
  exact Df.mkN F fun _ _ _ _ _ _ us hl => match us, hl with | [_], _ => rfl
theorem Tx.d_neighbours_of (T : Tx K mg) : Df K "neighbours_of" "neighbours_of" s_neighbours_of ["plan"] [] (He.ga K "neighbours_of") := by
  obtain ⟨fd, F⟩ := T.says.def_ 13 (d := fnD ("neighbours_of", none) "neighbours_of" "neighbours_of" s_neighbours_of []) rfl
  exact Df.mkN F fun _ _ _ _ _ _ us hl => match us, hl with | [_], _ => rfl
theorem Tx.d_kinds_of_columns (T : Tx K mg) : Df K "kinds_of_columns" "kinds_of_columns" s_kinds_of_columns ["plan"] [] (He.ga K "kinds_of_columns") := by
  obtain ⟨fd, F⟩ := T.says.def_ 14 (d := fnD ("kinds_of_columns", none) "kinds_of_columns" "kinds_of_columns" s_kinds_of_columns []) rfl
  exact Df.mkN F fun _ _ _ _ _ _ us hl => match us, hl with | [_], _ => rfl
theorem Tx.d_is_standing (T : Tx K mg) : Df K "is_standing" "is_standing" s_is_standing ["words", "many", "thing"] [] (He.ga K "is_standing") := by
  obtain ⟨fd, F⟩ := T.says.def_ 15 (d := fnD ("is_standing", none) "is_standing" "is_standing" s_is_standing []) rfl
  exact Df.mkN F fun _ _ _ _ _ _ us hl => match us, hl with | [_, _, _], _ => rfl
theorem Tx.d_bad_standing (T : Tx K mg) : Df K "bad_standing" "bad_standing" s_bad_standing ["words", "standings"] [] (He.ga K "bad_standing") := by
  obtain ⟨fd, F⟩ := T.says.def_ 16 (d := fnD ("bad_standing", none) "bad_standing" "bad_standing" s_bad_standing []) rfl
  exact Df.mkN F fun _ _ _ _ _ _ us hl => match us, hl with | [_, _], _ => rfl
theorem Tx.d_Drill_init (T : Tx K mg) : Df K "__init__" "Drill.__init__" s_Drill_init ["self", "words", "standings"] [] (He.ma K (He.ga K "Drill") "__init__") := by
  obtain ⟨fd, F⟩ := T.says.def_ 17 (d := fnD ("Drill", some "__init__") "__init__" "Drill.__init__" s_Drill_init []) rfl
  exact Df.mkN F fun _ _ _ _ _ _ us hl => match us, hl with | [_, _, _], _ => rfl
theorem Tx.d_is_kind (T : Tx K mg) : Df K "is_kind" "is_kind" s_is_kind ["words", "thing"] [] (He.ga K "is_kind") := by
  obtain ⟨fd, F⟩ := T.says.def_ 18 (d := fnD ("is_kind", none) "is_kind" "is_kind" s_is_kind []) rfl
  exact Df.mkN F fun _ _ _ _ _ _ us hl => match us, hl with | [_, _], _ => rfl
theorem Tx.d_check_kinds (T : Tx K mg) : Df K "check_kinds" "check_kinds" s_check_kinds ["words", "kinds"] [] (He.ga K "check_kinds") := by
  obtain ⟨fd, F⟩ := T.says.def_ 19 (d := fnD ("check_kinds", none) "check_kinds" "check_kinds" s_check_kinds []) rfl
  exact Df.mkN F fun _ _ _ _ _ _ us hl => match us, hl with | [_, _], _ => rfl
theorem Tx.d_seats_of (T : Tx K mg) : Df K "seats_of" "seats_of" s_seats_of ["names", "seats"] [] (He.ga K "seats_of") := by
  obtain ⟨fd, F⟩ := T.says.def_ 20 (d := fnD ("seats_of", none) "seats_of" "seats_of" s_seats_of []) rfl
  exact Df.mkN F fun _ _ _ _ _ _ us hl => match us, hl with | [_, _], _ => rfl
theorem Tx.d_Make_init (T : Tx K mg) : Df K "__init__" "Make.__init__" s_Make_init ["self", "words", "kinds", "space", "seats"] [] (He.ma K (He.ga K "Make") "__init__") := by
  obtain ⟨fd, F⟩ := T.says.def_ 21 (d := fnD ("Make", some "__init__") "__init__" "Make.__init__" s_Make_init [.int 1, .adr (He.dflAt ("Make", some "__init__") 1)]) rfl
  exact Df.mkD (dfl := [_, _]) F 5 2 (List.cons_ne_nil _ _) rfl fun T kV doc pm an cdv ct us its hu hi => match us, its, hu, hi with | [_, _, _, _, _], [_, _], _, _ => ⟨_, rfl, rfl⟩
theorem Tx.d_Make_check_name (T : Tx K mg) : Df K "check_name" "Make.check_name" s_Make_check_name ["self", "name"] [] (He.ma K (He.ga K "Make") "check_name") := by
  obtain ⟨fd, F⟩ := T.says.def_ 22 (d := fnD ("Make", some "check_name") "check_name" "Make.check_name" s_Make_check_name []) rfl
  exact Df.mkN F fun _ _ _ _ _ _ us hl => match us, hl with | [_, _], _ => rfl
theorem Tx.d_Make_seat_of (T : Tx K mg) : Df K "seat_of" "Make.seat_of" s_Make_seat_of ["self", "ahead", "behind"] [] (He.ma K (He.ga K "Make") "seat_of") := by
  obtain ⟨fd, F⟩ := T.says.def_ 23 (d := fnD ("Make", some "seat_of") "seat_of" "Make.seat_of" s_Make_seat_of []) rfl
  exact Df.mkN F fun _ _ _ _ _ _ us hl => match us, hl with | [_, _, _], _ => rfl
theorem Tx.d_check_goal (T : Tx K mg) : Df K "check_goal" "check_goal" s_check_goal ["make", "goal"] [] (He.ga K "check_goal") := by
  obtain ⟨fd, F⟩ := T.says.def_ 24 (d := fnD ("check_goal", none) "check_goal" "check_goal" s_check_goal []) rfl
  exact Df.mkN F fun _ _ _ _ _ _ us hl => match us, hl with | [_, _], _ => rfl
theorem Tx.d_Field_init (T : Tx K mg) : Df K "__init__" "Field.__init__" s_Field_init ["self", "make", "columns", "wish", "goal"] [] (He.ma K (He.ga K "Field") "__init__") := by
  obtain ⟨fd, F⟩ := T.says.def_ 25 (d := fnD ("Field", some "__init__") "__init__" "Field.__init__" s_Field_init []) rfl
  exact Df.mkN F fun _ _ _ _ _ _ us hl => match us, hl with | [_, _, _, _, _], _ => rfl
theorem Tx.d_Field_first_joint (T : Tx K mg) : Df K "first_joint" "Field.first_joint" s_Field_first_joint ["self"] [] (He.ma K (He.ga K "Field") "first_joint") := by
  obtain ⟨fd, F⟩ := T.says.def_ 26 (d := fnD ("Field", some "first_joint") "first_joint" "Field.first_joint" s_Field_first_joint []) rfl
  exact Df.mkN F fun _ _ _ _ _ _ us hl => match us, hl with | [_], _ => rfl
theorem Tx.d_Field_led (T : Tx K mg) : Df K "led" "Field.led" s_Field_led ["self", "joint", "sign"] [] (He.ma K (He.ga K "Field") "led") := by
  obtain ⟨fd, F⟩ := T.says.def_ 27 (d := fnD ("Field", some "led") "led" "Field.led" s_Field_led []) rfl
  exact Df.mkN F fun _ _ _ _ _ _ us hl => match us, hl with | [_, _, _], _ => rfl
theorem Tx.d_Field_keeps (T : Tx K mg) : Df K "keeps" "Field.keeps" s_Field_keeps ["self", "joint"] [] (He.ma K (He.ga K "Field") "keeps") := by
  obtain ⟨fd, F⟩ := T.says.def_ 28 (d := fnD ("Field", some "keeps") "keeps" "Field.keeps" s_Field_keeps []) rfl
  exact Df.mkN F fun _ _ _ _ _ _ us hl => match us, hl with | [_, _], _ => rfl
theorem Tx.d_Field_settled (T : Tx K mg) : Df K "settled" "Field.settled" s_Field_settled ["self", "joint"] [] (He.ma K (He.ga K "Field") "settled") := by
  obtain ⟨fd, F⟩ := T.says.def_ 29 (d := fnD ("Field", some "settled") "settled" "Field.settled" s_Field_settled []) rfl
  exact Df.mkN F fun _ _ _ _ _ _ us hl => match us, hl with | [_, _], _ => rfl
theorem Tx.d_search (T : Tx K mg) : Df K "search" "search" s_search ["field"] [] (He.ga K "search") := by
  obtain ⟨fd, F⟩ := T.says.def_ 30 (d := fnD ("search", none) "search" "search" s_search []) rfl
  exact Df.mkN F fun _ _ _ _ _ _ us hl => match us, hl with | [_], _ => rfl
theorem Tx.d_Lead_init (T : Tx K mg) : Df K "__init__" "Lead.__init__" s_Lead_init ["self", "make", "columns", "wish", "goal"] [] (He.ma K (He.ga K "Lead") "__init__") := by
  obtain ⟨fd, F⟩ := T.says.def_ 31 (d := fnD ("Lead", some "__init__") "__init__" "Lead.__init__" s_Lead_init []) rfl
  exact Df.mkN F fun _ _ _ _ _ _ us hl => match us, hl with | [_, _, _, _, _], _ => rfl
theorem Tx.d_Lead_bool (T : Tx K mg) : Df K "__bool__" "Lead.__bool__" s_Lead_bool ["self"] [] (He.ma K (He.ga K "Lead") "__bool__") := by
  obtain ⟨fd, F⟩ := T.says.def_ 32 (d := fnD ("Lead", some "__bool__") "__bool__" "Lead.__bool__" s_Lead_bool []) rfl
  exact Df.mkN F fun _ _ _ _ _ _ us hl => match us, hl with | [_], _ => rfl
theorem Tx.d_check_column (T : Tx K mg) : Df K "check_column" "check_column" s_check_column ["make", "groups", "most"] [] (He.ga K "check_column") := by
  obtain ⟨fd, F⟩ := T.says.def_ 33 (d := fnD ("check_column", none) "check_column" "check_column" s_check_column [.int 60]) rfl
  exact Df.mkD (dfl := [_]) F 3 1 (List.cons_ne_nil _ _) rfl fun T kV doc pm an cdv ct us its hu hi => match us, its, hu, hi with | [_, _, _], [_], _, _ => ⟨_, rfl, rfl⟩
theorem Tx.d_check_column_d (T : Tx K mg) : Df K "check_column" "check_column" s_check_column ["make", "groups", "most"] [.int 60] (He.ga K "check_column") := by
  obtain ⟨fd, F⟩ := T.says.def_ 33 (d := fnD ("check_column", none) "check_column" "check_column" s_check_column [.int 60]) rfl
  exact Df.mkD (dfl := [_]) F 2 0 (List.cons_ne_nil _ _) rfl fun T kV doc pm an cdv ct us its hu hi => match us, its, hu, hi with | [_, _], [_], _, _ => ⟨_, rfl, rfl⟩
theorem Tx.d_Column_init (T : Tx K mg) : Df K "__init__" "Column.__init__" s_Column_init ["self", "make", "groups"] [] (He.ma K (He.ga K "Column") "__init__") := by
  obtain ⟨fd, F⟩ := T.says.def_ 34 (d := fnD ("Column", some "__init__") "__init__" "Column.__init__" s_Column_init []) rfl
  exact Df.mkN F fun _ _ _ _ _ _ us hl => match us, hl with | [_, _, _], _ => rfl
theorem Tx.d_is_plan_sign (T : Tx K mg) : Df K "is_plan_sign" "is_plan_sign" s_is_plan_sign ["sign"] [] (He.ga K "is_plan_sign") := by
  obtain ⟨fd, F⟩ := T.says.def_ 35 (d := fnD ("is_plan_sign", none) "is_plan_sign" "is_plan_sign" s_is_plan_sign []) rfl
  exact Df.mkN F fun _ _ _ _ _ _ us hl => match us, hl with | [_], _ => rfl
theorem Tx.d_is_state (T : Tx K mg) : Df K "is_state" "is_state" s_is_state ["many", "state"] [] (He.ga K "is_state") := by
  obtain ⟨fd, F⟩ := T.says.def_ 36 (d := fnD ("is_state", none) "is_state" "is_state" s_is_state []) rfl
  exact Df.mkN F fun _ _ _ _ _ _ us hl => match us, hl with | [_, _], _ => rfl
theorem Tx.d_live_states (T : Tx K mg) : Df K "live_states" "live_states" s_live_states ["tables", "ends"] [] (He.ga K "live_states") := by
  obtain ⟨fd, F⟩ := T.says.def_ 37 (d := fnD ("live_states", none) "live_states" "live_states" s_live_states []) rfl
  exact Df.mkN F fun _ _ _ _ _ _ us hl => match us, hl with | [_, _], _ => rfl
theorem Tx.d_step_rows_of (T : Tx K mg) : Df K "step_rows_of" "step_rows_of" s_step_rows_of ["rows", "flags"] [] (He.ga K "step_rows_of") := by
  obtain ⟨fd, F⟩ := T.says.def_ 38 (d := fnD ("step_rows_of", none) "step_rows_of" "step_rows_of" s_step_rows_of []) rfl
  exact Df.mkN F fun _ _ _ _ _ _ us hl => match us, hl with | [_, _], _ => rfl
theorem Tx.d_Plan_init (T : Tx K mg) : Df K "__init__" "Plan.__init__" s_Plan_init ["self", "states", "ends"] [] (He.ma K (He.ga K "Plan") "__init__") := by
  obtain ⟨fd, F⟩ := T.says.def_ 39 (d := fnD ("Plan", some "__init__") "__init__" "Plan.__init__" s_Plan_init [.non]) rfl
  exact Df.mkD (dfl := [_]) F 3 1 (List.cons_ne_nil _ _) rfl fun T kV doc pm an cdv ct us its hu hi => match us, its, hu, hi with | [_, _, _], [_], _, _ => ⟨_, rfl, rfl⟩
theorem Tx.d_traced (T : Tx K mg) : Df K "traced" "traced" s_traced ["drill", "calling", "beats"] [] (He.ga K "traced") := by
  obtain ⟨fd, F⟩ := T.says.def_ 40 (d := fnD ("traced", none) "traced" "traced" s_traced []) rfl
  exact Df.mkN F fun _ _ _ _ _ _ us hl => match us, hl with | [_, _, _], _ => rfl
theorem Tx.d_gaps_between (T : Tx K mg) : Df K "gaps_between" "gaps_between" s_gaps_between ["column", "standings", "fronts"] [] (He.ga K "gaps_between") := by
  obtain ⟨fd, F⟩ := T.says.def_ 41 (d := fnD ("gaps_between", none) "gaps_between" "gaps_between" s_gaps_between []) rfl
  exact Df.mkN F fun _ _ _ _ _ _ us hl => match us, hl with | [_, _, _], _ => rfl
theorem Tx.d_breach_of_rows (T : Tx K mg) : Df K "breach_of_rows" "breach_of_rows" s_breach_of_rows ["column", "wish", "rows", "front_rows"] [] (He.ga K "breach_of_rows") := by
  obtain ⟨fd, F⟩ := T.says.def_ 42 (d := fnD ("breach_of_rows", none) "breach_of_rows" "breach_of_rows" s_breach_of_rows []) rfl
  exact Df.mkN F fun _ _ _ _ _ _ us hl => match us, hl with | [_, _, _, _], _ => rfl
theorem Tx.d_Run_init (T : Tx K mg) : Df K "__init__" "Run.__init__" s_Run_init ["self", "column", "calling", "beats"] [] (He.ma K (He.ga K "Run") "__init__") := by
  obtain ⟨fd, F⟩ := T.says.def_ 43 (d := fnD ("Run", some "__init__") "__init__" "Run.__init__" s_Run_init [.non]) rfl
  exact Df.mkD (dfl := [_]) F 4 1 (List.cons_ne_nil _ _) rfl fun T kV doc pm an cdv ct us its hu hi => match us, its, hu, hi with | [_, _, _, _], [_], _, _ => ⟨_, rfl, rfl⟩
theorem Tx.d_Run_check_beat (T : Tx K mg) : Df K "check_beat" "Run.check_beat" s_Run_check_beat ["self", "beat"] [] (He.ma K (He.ga K "Run") "check_beat") := by
  obtain ⟨fd, F⟩ := T.says.def_ 44 (d := fnD ("Run", some "check_beat") "check_beat" "Run.check_beat" s_Run_check_beat []) rfl
  exact Df.mkN F fun _ _ _ _ _ _ us hl => match us, hl with | [_, _], _ => rfl
theorem Tx.d_Run_standings_at (T : Tx K mg) : Df K "standings_at" "Run.standings_at" s_Run_standings_at ["self", "beat"] [] (He.ma K (He.ga K "Run") "standings_at") := by
  obtain ⟨fd, F⟩ := T.says.def_ 45 (d := fnD ("Run", some "standings_at") "standings_at" "Run.standings_at" s_Run_standings_at []) rfl
  exact Df.mkN F fun _ _ _ _ _ _ us hl => match us, hl with | [_, _], _ => rfl
theorem Tx.d_Run_first_breach (T : Tx K mg) : Df K "first_breach" "Run.first_breach" s_Run_first_breach ["self", "wish"] [] (He.ma K (He.ga K "Run") "first_breach") := by
  obtain ⟨fd, F⟩ := T.says.def_ 46 (d := fnD ("Run", some "first_breach") "first_breach" "Run.first_breach" s_Run_first_breach []) rfl
  exact Df.mkN F fun _ _ _ _ _ _ us hl => match us, hl with | [_, _], _ => rfl
theorem Tx.d__law_draw (T : Tx K mg) : Df K "_law_draw" "_law_draw" s_law_draw ["_law_script"] [] (He.ga K "_law_draw") := by
  obtain ⟨fd, F⟩ := T.says.def_ 47 (d := fnD ("_law_draw", none) "_law_draw" "_law_draw" s_law_draw []) rfl
  exact Df.mkN F fun _ _ _ _ _ _ us hl => match us, hl with | [_], _ => rfl
theorem Tx.d__law_mix (T : Tx K mg) : Df K "_law_mix" "_law_mix" s_law_mix ["_law_cell", "_law_turn"] [] (He.ga K "_law_mix") := by
  obtain ⟨fd, F⟩ := T.says.def_ 48 (d := fnD ("_law_mix", none) "_law_mix" "_law_mix" s_law_mix []) rfl
  exact Df.mkN F fun _ _ _ _ _ _ us hl => match us, hl with | [_, _], _ => rfl
theorem Tx.d__law_pick (T : Tx K mg) : Df K "_law_pick" "_law_pick" s_law_pick ["_law_draw_here", "_law_many"] [] (He.ga K "_law_pick") := by
  obtain ⟨fd, F⟩ := T.says.def_ 49 (d := fnD ("_law_pick", none) "_law_pick" "_law_pick" s_law_pick []) rfl
  exact Df.mkN F fun _ _ _ _ _ _ us hl => match us, hl with | [_, _], _ => rfl
theorem Tx.d__law_listed (T : Tx K mg) : Df K "_law_listed" "_law_listed" s_law_listed ["_law_thing"] [] (He.ga K "_law_listed") := by
  obtain ⟨fd, F⟩ := T.says.def_ 50 (d := fnD ("_law_listed", none) "_law_listed" "_law_listed" s_law_listed []) rfl
  exact Df.mkN F fun _ _ _ _ _ _ us hl => match us, hl with | [_], _ => rfl
theorem Tx.d__law_words (T : Tx K mg) : Df K "_law_words" "_law_words" s_law_words ["_law_draw_here", "_law_many"] [] (He.ga K "_law_words") := by
  obtain ⟨fd, F⟩ := T.says.def_ 51 (d := fnD ("_law_words", none) "_law_words" "_law_words" s_law_words []) rfl
  exact Df.mkN F fun _ _ _ _ _ _ us hl => match us, hl with | [_, _], _ => rfl
theorem Tx.d__law_names (T : Tx K mg) : Df K "_law_names" "_law_names" s_law_names ["_law_draw_here", "_law_many"] [] (He.ga K "_law_names") := by
  obtain ⟨fd, F⟩ := T.says.def_ 52 (d := fnD ("_law_names", none) "_law_names" "_law_names" s_law_names []) rfl
  exact Df.mkN F fun _ _ _ _ _ _ us hl => match us, hl with | [_, _], _ => rfl
theorem Tx.d__law_drill (T : Tx K mg) : Df K "_law_drill" "_law_drill" s_law_drill ["_law_draw_here", "_law_words_here", "_law_many", "_law_steady"] [] (He.ga K "_law_drill") := by
  obtain ⟨fd, F⟩ := T.says.def_ 53 (d := fnD ("_law_drill", none) "_law_drill" "_law_drill" s_law_drill []) rfl
  exact Df.mkN F fun _ _ _ _ _ _ us hl => match us, hl with | [_, _, _, _], _ => rfl
theorem Tx.d__law_even_drill (T : Tx K mg) : Df K "_law_even_drill" "_law_even_drill" s_law_even_drill ["_law_draw_here", "_law_words_here", "_law_many", "_law_steady"] [] (He.ga K "_law_even_drill") := by
  obtain ⟨fd, F⟩ := T.says.def_ 54 (d := fnD ("_law_even_drill", none) "_law_even_drill" "_law_even_drill" s_law_even_drill []) rfl
  exact Df.mkN F fun _ _ _ _ _ _ us hl => match us, hl with | [_, _, _, _], _ => rfl
theorem Tx.d__law_kind (T : Tx K mg) : Df K "_law_kind" "_law_kind" s_law_kind ["_law_make", "_law_name"] [] (He.ga K "_law_kind") := by
  obtain ⟨fd, F⟩ := T.says.def_ 55 (d := fnD ("_law_kind", none) "_law_kind" "_law_kind" s_law_kind []) rfl
  exact Df.mkN F fun _ _ _ _ _ _ us hl => match us, hl with | [_, _], _ => rfl
theorem Tx.d__law_seat (T : Tx K mg) : Df K "_law_seat" "_law_seat" s_law_seat ["_law_make", "_law_ahead", "_law_behind"] [] (He.ga K "_law_seat") := by
  obtain ⟨fd, F⟩ := T.says.def_ 56 (d := fnD ("_law_seat", none) "_law_seat" "_law_seat" s_law_seat []) rfl
  exact Df.mkN F fun _ _ _ _ _ _ us hl => match us, hl with | [_, _, _], _ => rfl
theorem Tx.d__law_all_names (T : Tx K mg) : Df K "_law_all_names" "_law_all_names" s_law_all_names ["_law_make"] [] (He.ga K "_law_all_names") := by
  obtain ⟨fd, F⟩ := T.says.def_ 57 (d := fnD ("_law_all_names", none) "_law_all_names" "_law_all_names" s_law_all_names []) rfl
  exact Df.mkN F fun _ _ _ _ _ _ us hl => match us, hl with | [_], _ => rfl
theorem Tx.d__law_led (T : Tx K mg) : Df K "_law_led" "_law_led" s_law_led ["_law_words_here", "_law_rows", "_law_standing", "_law_sign"] [] (He.ga K "_law_led") := by
  obtain ⟨fd, F⟩ := T.says.def_ 58 (d := fnD ("_law_led", none) "_law_led" "_law_led" s_law_led []) rfl
  exact Df.mkN F fun _ _ _ _ _ _ us hl => match us, hl with | [_, _, _, _], _ => rfl
theorem Tx.d__law_plan (T : Tx K mg) : Df K "_law_plan" "_law_plan" s_law_plan ["_law_draw_here", "_law_signs", "_law_many"] [] (He.ga K "_law_plan") := by
  obtain ⟨fd, F⟩ := T.says.def_ 59 (d := fnD ("_law_plan", none) "_law_plan" "_law_plan" s_law_plan []) rfl
  exact Df.mkN F fun _ _ _ _ _ _ us hl => match us, hl with | [_, _, _], _ => rfl
theorem Tx.d__law_reaches (T : Tx K mg) : Df K "_law_reaches" "_law_reaches" s_law_reaches ["_law_states", "_law_ends", "_law_begin"] [] (He.ga K "_law_reaches") := by
  obtain ⟨fd, F⟩ := T.says.def_ 60 (d := fnD ("_law_reaches", none) "_law_reaches" "_law_reaches" s_law_reaches []) rfl
  exact Df.mkN F fun _ _ _ _ _ _ us hl => match us, hl with | [_, _, _], _ => rfl
theorem Tx.d__law_neighbours (T : Tx K mg) : Df K "_law_neighbours" "_law_neighbours" s_law_neighbours ["_law_plan_here"] [] (He.ga K "_law_neighbours") := by
  obtain ⟨fd, F⟩ := T.says.def_ 61 (d := fnD ("_law_neighbours", none) "_law_neighbours" "_law_neighbours" s_law_neighbours []) rfl
  exact Df.mkN F fun _ _ _ _ _ _ us hl => match us, hl with | [_], _ => rfl
theorem Tx.d__law_trace (T : Tx K mg) : Df K "_law_trace" "_law_trace" s_law_trace ["_law_words_here", "_law_rows", "_law_text", "_law_moments"] [] (He.ga K "_law_trace") := by
  obtain ⟨fd, F⟩ := T.says.def_ 62 (d := fnD ("_law_trace", none) "_law_trace" "_law_trace" s_law_trace []) rfl
  exact Df.mkN F fun _ _ _ _ _ _ us hl => match us, hl with | [_, _, _, _], _ => rfl
theorem Tx.d__law_column (T : Tx K mg) : Df K "_law_column" "_law_column" s_law_column ["_law_make", "_law_groups"] [] (He.ga K "_law_column") := by
  obtain ⟨fd, F⟩ := T.says.def_ 63 (d := fnD ("_law_column", none) "_law_column" "_law_column" s_law_column []) rfl
  exact Df.mkN F fun _ _ _ _ _ _ us hl => match us, hl with | [_, _], _ => rfl
theorem Tx.d__law_run (T : Tx K mg) : Df K "_law_run" "_law_run" s_law_run ["_law_make", "_law_groups", "_law_text", "_law_moments"] [] (He.ga K "_law_run") := by
  obtain ⟨fd, F⟩ := T.says.def_ 64 (d := fnD ("_law_run", none) "_law_run" "_law_run" s_law_run []) rfl
  exact Df.mkN F fun _ _ _ _ _ _ us hl => match us, hl with | [_, _, _, _], _ => rfl
theorem Tx.d__law_borne_column (T : Tx K mg) : Df K "_law_borne_column" "_law_borne_column" s_law_borne_column ["_law_draw_here", "_law_plan_here", "_law_most"] [] (He.ga K "_law_borne_column") := by
  obtain ⟨fd, F⟩ := T.says.def_ 65 (d := fnD ("_law_borne_column", none) "_law_borne_column" "_law_borne_column" s_law_borne_column []) rfl
  exact Df.mkN F fun _ _ _ _ _ _ us hl => match us, hl with | [_, _, _], _ => rfl
theorem Tx.d__law_world (T : Tx K mg) : Df K "_law_world" "_law_world" s_law_world ["_law_draw_here"] [] (He.ga K "_law_world") := by
  obtain ⟨fd, F⟩ := T.says.def_ 66 (d := fnD ("_law_world", none) "_law_world" "_law_world" s_law_world []) rfl
  exact Df.mkN F fun _ _ _ _ _ _ us hl => match us, hl with | [_], _ => rfl
theorem Tx.d__law_single_names (T : Tx K mg) : Df K "_law_single_names" "_law_single_names" s_law_single_names ["_law_plan_here"] [] (He.ga K "_law_single_names") := by
  obtain ⟨fd, F⟩ := T.says.def_ 67 (d := fnD ("_law_single_names", none) "_law_single_names" "_law_single_names" s_law_single_names []) rfl
  exact Df.mkN F fun _ _ _ _ _ _ us hl => match us, hl with | [_], _ => rfl
theorem Tx.d__law_arrives (T : Tx K mg) : Df K "_law_arrives" "_law_arrives" s_law_arrives ["_law_raw", "_law_goal", "_law_groups", "_law_text", "_law_low", "_law_high"] [] (He.ga K "_law_arrives") := by
  obtain ⟨fd, F⟩ := T.says.def_ 68 (d := fnD ("_law_arrives", none) "_law_arrives" "_law_arrives" s_law_arrives []) rfl
  exact Df.mkN F fun _ _ _ _ _ _ us hl => match us, hl with | [_, _, _, _, _, _], _ => rfl
theorem Tx.d__law_leads (T : Tx K mg) : Df K "_law_leads" "_law_leads" s_law_leads ["_law_raw", "_law_goal", "_law_singles", "_law_pairs", "_law_text", "_law_low", "_law_high"] [] (He.ga K "_law_leads") := by
  obtain ⟨fd, F⟩ := T.says.def_ 69 (d := fnD ("_law_leads", none) "_law_leads" "_law_leads" s_law_leads []) rfl
  exact Df.mkN F fun _ _ _ _ _ _ us hl => match us, hl with | [_, _, _, _, _, _, _], _ => rfl
theorem Tx.d__law_longer (T : Tx K mg) : Df K "_law_longer" "_law_longer" s_law_longer ["_law_texts_here", "_law_signs"] [] (He.ga K "_law_longer") := by
  obtain ⟨fd, F⟩ := T.says.def_ 70 (d := fnD ("_law_longer", none) "_law_longer" "_law_longer" s_law_longer []) rfl
  exact Df.mkN F fun _ _ _ _ _ _ us hl => match us, hl with | [_, _], _ => rfl
theorem Tx.d__law_texts (T : Tx K mg) : Df K "_law_texts" "_law_texts" s_law_texts ["_law_signs", "_law_size"] [] (He.ga K "_law_texts") := by
  obtain ⟨fd, F⟩ := T.says.def_ 71 (d := fnD ("_law_texts", none) "_law_texts" "_law_texts" s_law_texts []) rfl
  exact Df.mkN F fun _ _ _ _ _ _ us hl => match us, hl with | [_, _], _ => rfl
theorem Tx.d__law_in_column (T : Tx K mg) : Df K "_law_in_column" "_law_in_column" s_law_in_column ["_law_make", "_law_raw", "_law_goal", "_law_groups", "_law_text", "_law_low", "_law_high"] [] (He.ga K "_law_in_column") := by
  obtain ⟨fd, F⟩ := T.says.def_ 72 (d := fnD ("_law_in_column", none) "_law_in_column" "_law_in_column" s_law_in_column []) rfl
  exact Df.mkN F fun _ _ _ _ _ _ us hl => match us, hl with | [_, _, _, _, _, _, _], _ => rfl
theorem Tx.d_law (T : Tx K mg) : Df K "law" "law" s_law ["_law_script"] [] (He.ga K "law") := by
  obtain ⟨fd, F⟩ := T.says.def_ 73 (d := fnD ("law", none) "law" "law" s_law []) rfl
  exact Df.mkN F fun _ _ _ _ _ _ us hl => match us, hl with | [_], _ => rfl
theorem scs_TooMany_init : FnScope ["self", "word"] ["self", "word"] (defScope s_TooMany_init) := ⟨rfl, rfl, rfl, by decide +kernel, rfl, by decide +kernel, by decide +kernel⟩
theorem scs_is_integer : FnScope ["thing", "low", "high"] ["thing", "low", "high"] (defScope s_is_integer) := ⟨rfl, rfl, rfl, by decide +kernel, rfl, by decide +kernel, by decide +kernel⟩
theorem scs_deep : FnScope ["thing", "left", "part"] ["thing", "left"] (defScope s_deep) := ⟨rfl, rfl, rfl, by decide +kernel, rfl, by decide +kernel, by decide +kernel⟩
theorem scs_is_capital : FnScope ["thing"] ["thing"] (defScope s_is_capital) := ⟨rfl, rfl, rfl, by decide +kernel, rfl, by decide +kernel, by decide +kernel⟩
theorem scs_is_lot : FnScope ["thing", "letter", "one", "two"] ["thing"] (defScope s_is_lot) := ⟨rfl, rfl, rfl, by decide +kernel, rfl, by decide +kernel, by decide +kernel⟩
theorem scs_is_words : FnScope ["thing"] ["thing"] (defScope s_is_words) := ⟨rfl, rfl, rfl, by decide +kernel, rfl, by decide +kernel, by decide +kernel⟩
theorem scs_is_rising : FnScope ["thing", "low", "high", "part", "one", "two"] ["thing", "low", "high"] (defScope s_is_rising) := ⟨rfl, rfl, rfl, by decide +kernel, rfl, by decide +kernel, by decide +kernel⟩
theorem scs_check_calling : FnScope ["signs", "calling", "most", "at", "sign"] ["signs", "calling", "most"] (defScope s_check_calling) := ⟨rfl, rfl, rfl, by decide +kernel, rfl, by decide +kernel, by decide +kernel⟩
theorem scs_is_wish : FnScope ["thing"] ["thing"] (defScope s_is_wish) := ⟨rfl, rfl, rfl, by decide +kernel, rfl, by decide +kernel, by decide +kernel⟩
theorem scs_check_wish : FnScope ["thing", "wish"] ["thing"] (defScope s_check_wish) := ⟨rfl, rfl, rfl, by decide +kernel, rfl, by decide +kernel, by decide +kernel⟩
theorem scs_check_signs : FnScope ["plan", "signs", "state", "sign", "after"] ["plan", "signs"] (defScope s_check_signs) := ⟨rfl, rfl, rfl, by decide +kernel, rfl, by decide +kernel, by decide +kernel⟩
theorem scs_check_columns : FnScope ["make", "plan"] ["make", "plan"] (defScope s_check_columns) := ⟨rfl, rfl, rfl, by decide +kernel, rfl, by decide +kernel, by decide +kernel⟩
theorem scs_reached_states : FnScope ["plan", "there", "order", "at", "sign", "after"] ["plan"] (defScope s_reached_states) := ⟨rfl, rfl, rfl, by decide +kernel, rfl, by decide +kernel, by decide +kernel⟩
theorem scs_neighbours_of : FnScope ["plan", "found", "state", "ahead", "after", "behind", "last"] ["plan"] (defScope s_neighbours_of) := ⟨rfl, rfl, rfl, by decide +kernel, rfl, by decide +kernel, by decide +kernel⟩
theorem scs_kinds_of_columns : FnScope ["plan", "found", "state", "name", "after"] ["plan"] (defScope s_kinds_of_columns) := ⟨rfl, rfl, rfl, by decide +kernel, rfl, by decide +kernel, by decide +kernel⟩
theorem scs_is_standing : FnScope ["words", "many", "thing", "number"] ["words", "many", "thing"] (defScope s_is_standing) := ⟨rfl, rfl, rfl, by decide +kernel, rfl, by decide +kernel, by decide +kernel⟩
theorem scs_bad_standing : FnScope ["words", "standings", "number", "standing"] ["words", "standings"] (defScope s_bad_standing) := ⟨rfl, rfl, rfl, by decide +kernel, rfl, by decide +kernel, by decide +kernel⟩
theorem scs_Drill_init : FnScope ["self", "words", "standings", "rows", "number", "row", "leads", "lead", "sign"] ["self", "words", "standings"] (defScope s_Drill_init) := ⟨rfl, rfl, rfl, by decide +kernel, rfl, by decide +kernel, by decide +kernel⟩
theorem scs_is_kind : FnScope ["words", "thing"] ["words", "thing"] (defScope s_is_kind) := ⟨rfl, rfl, rfl, by decide +kernel, rfl, by decide +kernel, by decide +kernel⟩
theorem scs_check_kinds : FnScope ["words", "kinds", "number", "kind", "there"] ["words", "kinds"] (defScope s_check_kinds) := ⟨rfl, rfl, rfl, by decide +kernel, rfl, by decide +kernel, by decide +kernel⟩
theorem scs_seats_of : FnScope ["names", "seats", "told", "number", "seat"] ["names", "seats"] (defScope s_seats_of) := ⟨rfl, rfl, rfl, by decide +kernel, rfl, by decide +kernel, by decide +kernel⟩
theorem scs_Make_init : FnScope ["self", "words", "kinds", "space", "seats", "names", "name", "lag", "standings", "kind"] ["self", "words", "kinds", "space", "seats"] (defScope s_Make_init) := ⟨rfl, rfl, rfl, by decide +kernel, rfl, by decide +kernel, by decide +kernel⟩
theorem scs_Make_check_name : FnScope ["self", "name"] ["self", "name"] (defScope s_Make_check_name) := ⟨rfl, rfl, rfl, by decide +kernel, rfl, by decide +kernel, by decide +kernel⟩
theorem scs_Make_seat_of : FnScope ["self", "ahead", "behind"] ["self", "ahead", "behind"] (defScope s_Make_seat_of) := ⟨rfl, rfl, rfl, by decide +kernel, rfl, by decide +kernel, by decide +kernel⟩
theorem scs_check_goal : FnScope ["make", "goal", "told", "found", "number", "name", "drill"] ["make", "goal"] (defScope s_check_goal) := ⟨rfl, rfl, rfl, by decide +kernel, rfl, by decide +kernel, by decide +kernel⟩
theorem scs_Field_init : FnScope ["self", "make", "columns", "wish", "goal", "name"] ["self", "make", "columns", "wish", "goal"] (defScope s_Field_init) := ⟨rfl, rfl, rfl, by decide +kernel, rfl, by decide +kernel, by decide +kernel⟩
theorem scs_Field_first_joint : FnScope ["self", "rows", "ahead", "behind", "name"] ["self"] (defScope s_Field_first_joint) := ⟨rfl, rfl, rfl, by decide +kernel, rfl, by decide +kernel, by decide +kernel⟩
theorem scs_Field_led : FnScope ["self", "joint", "sign", "standings", "rows", "fresh", "name", "standing", "found", "ahead", "behind", "second", "window", "gap", "at", "one", "two", "late"] ["self", "joint", "sign"] (defScope s_Field_led) := ⟨rfl, rfl, rfl, by decide +kernel, rfl, by decide +kernel, by decide +kernel⟩
theorem scs_Field_keeps : FnScope ["self", "joint", "row"] ["self", "joint"] (defScope s_Field_keeps) := ⟨rfl, rfl, rfl, by decide +kernel, rfl, by decide +kernel, by decide +kernel⟩
theorem scs_Field_settled : FnScope ["self", "joint", "seen"] ["self", "joint"] (defScope s_Field_settled) := ⟨rfl, rfl, rfl, by decide +kernel, rfl, by decide +kernel, by decide +kernel⟩
theorem scs_search : FnScope ["field", "begin", "there", "listed", "level", "fresh", "joint", "text", "sign", "after"] ["field"] (defScope s_search) := ⟨rfl, rfl, rfl, by decide +kernel, rfl, by decide +kernel, by decide +kernel⟩
theorem scs_Lead_init : FnScope ["self", "make", "columns", "wish", "goal", "told", "field", "calling", "joints"] ["self", "make", "columns", "wish", "goal"] (defScope s_Lead_init) := ⟨rfl, rfl, rfl, by decide +kernel, rfl, by decide +kernel, by decide +kernel⟩
theorem scs_Lead_bool : FnScope ["self"] ["self"] (defScope s_Lead_bool) := ⟨rfl, rfl, rfl, by decide +kernel, rfl, by decide +kernel, by decide +kernel⟩
theorem scs_check_column : FnScope ["make", "groups", "most", "at", "name"] ["make", "groups", "most"] (defScope s_check_column) := ⟨rfl, rfl, rfl, by decide +kernel, rfl, by decide +kernel, by decide +kernel⟩
theorem scs_Column_init : FnScope ["self", "make", "groups", "delays", "fronts", "ahead", "behind", "body"] ["self", "make", "groups"] (defScope s_Column_init) := ⟨rfl, rfl, rfl, by decide +kernel, rfl, by decide +kernel, by decide +kernel⟩
theorem scs_is_plan_sign : FnScope ["sign"] ["sign"] (defScope s_is_plan_sign) := ⟨rfl, rfl, rfl, by decide +kernel, rfl, by decide +kernel, by decide +kernel⟩
theorem scs_is_state : FnScope ["many", "state", "last", "pair"] ["many", "state"] (defScope s_is_state) := ⟨rfl, rfl, rfl, by decide +kernel, rfl, by decide +kernel, by decide +kernel⟩
theorem scs_live_states : FnScope ["tables", "ends", "back", "state", "table", "sign", "live", "waiting", "before", "end"] ["tables", "ends"] (defScope s_live_states) := ⟨rfl, rfl, rfl, by decide +kernel, rfl, by decide +kernel, by decide +kernel⟩
theorem scs_step_rows_of : FnScope ["rows", "flags", "found", "state", "row", "ways"] ["rows", "flags"] (defScope s_step_rows_of) := ⟨rfl, rfl, rfl, by decide +kernel, rfl, by decide +kernel, by decide +kernel⟩
theorem scs_Plan_init : FnScope ["self", "states", "ends", "rows", "finals", "table", "number", "state", "row", "sign", "after", "flags", "live"] ["self", "states", "ends"] (defScope s_Plan_init) := ⟨rfl, rfl, rfl, by decide +kernel, rfl, by decide +kernel, by decide +kernel⟩
theorem scs_traced : FnScope ["drill", "calling", "beats", "standings", "walks", "beat", "sign", "standing"] ["drill", "calling", "beats"] (defScope s_traced) := ⟨rfl, rfl, rfl, by decide +kernel, rfl, by decide +kernel, by decide +kernel⟩
theorem scs_gaps_between : FnScope ["column", "standings", "fronts", "rears", "name", "standing", "front", "rear"] ["column", "standings", "fronts"] (defScope s_gaps_between) := ⟨rfl, rfl, rfl, by decide +kernel, rfl, by decide +kernel, by decide +kernel⟩
theorem scs_breach_of_rows : FnScope ["column", "wish", "rows", "front_rows", "beat", "standings", "number", "gap"] ["column", "wish", "rows", "front_rows"] (defScope s_breach_of_rows) := ⟨rfl, rfl, rfl, by decide +kernel, rfl, by decide +kernel, by decide +kernel⟩
theorem scs_Run_init : FnScope ["self", "column", "calling", "beats", "traces", "name", "rows", "fronts", "beat", "row", "places", "delay", "front", "heard"] ["self", "column", "calling", "beats"] (defScope s_Run_init) := ⟨rfl, rfl, rfl, by decide +kernel, rfl, by decide +kernel, by decide +kernel⟩
theorem scs_Run_check_beat : FnScope ["self", "beat"] ["self", "beat"] (defScope s_Run_check_beat) := ⟨rfl, rfl, rfl, by decide +kernel, rfl, by decide +kernel, by decide +kernel⟩
theorem scs_Run_standings_at : FnScope ["self", "beat"] ["self", "beat"] (defScope s_Run_standings_at) := ⟨rfl, rfl, rfl, by decide +kernel, rfl, by decide +kernel, by decide +kernel⟩
theorem scs_Run_first_breach : FnScope ["self", "wish"] ["self", "wish"] (defScope s_Run_first_breach) := ⟨rfl, rfl, rfl, by decide +kernel, rfl, by decide +kernel, by decide +kernel⟩
theorem scs_law_draw : FnScope ["_law_script", "_law_cells", "_law_cell"] ["_law_script"] (defScope s_law_draw) := ⟨rfl, rfl, rfl, by decide +kernel, rfl, by decide +kernel, by decide +kernel⟩
theorem scs_law_mix : FnScope ["_law_cell", "_law_turn", "_law_one", "_law_two"] ["_law_cell", "_law_turn"] (defScope s_law_mix) := ⟨rfl, rfl, rfl, by decide +kernel, rfl, by decide +kernel, by decide +kernel⟩
theorem scs_law_pick : FnScope ["_law_draw_here", "_law_many", "_law_cell", "_law_digit", "_law_found"] ["_law_draw_here", "_law_many"] (defScope s_law_pick) := ⟨rfl, rfl, rfl, by decide +kernel, rfl, by decide +kernel, by decide +kernel⟩
theorem scs_law_listed : FnScope ["_law_thing", "_law_part"] ["_law_thing"] (defScope s_law_listed) := ⟨rfl, rfl, rfl, by decide +kernel, rfl, by decide +kernel, by decide +kernel⟩
theorem scs_law_words : FnScope ["_law_draw_here", "_law_many", "_law_pool", "_law_found", "_law_turn", "_law_letter"] ["_law_draw_here", "_law_many"] (defScope s_law_words) := ⟨rfl, rfl, rfl, by decide +kernel, rfl, by decide +kernel, by decide +kernel⟩
theorem scs_law_names : FnScope ["_law_draw_here", "_law_many", "_law_pool", "_law_found", "_law_turn", "_law_letter"] ["_law_draw_here", "_law_many"] (defScope s_law_names) := ⟨rfl, rfl, rfl, by decide +kernel, rfl, by decide +kernel, by decide +kernel⟩
theorem scs_law_drill : FnScope ["_law_draw_here", "_law_words_here", "_law_many", "_law_steady", "_law_rows", "_law_number", "_law_stride", "_law_body", "_law_silent", "_law_nexts", "_law_word"] ["_law_draw_here", "_law_words_here", "_law_many", "_law_steady"] (defScope s_law_drill) := ⟨rfl, rfl, rfl, by decide +kernel, rfl, by decide +kernel, by decide +kernel⟩
theorem scs_law_even_drill : FnScope ["_law_draw_here", "_law_words_here", "_law_many", "_law_steady", "_law_body", "_law_rows", "_law_stride", "_law_other", "_law_nexts"] ["_law_draw_here", "_law_words_here", "_law_many", "_law_steady"] (defScope s_law_even_drill) := ⟨rfl, rfl, rfl, by decide +kernel, rfl, by decide +kernel, by decide +kernel⟩
theorem scs_law_kind : FnScope ["_law_make", "_law_name", "_law_kind_here"] ["_law_make", "_law_name"] (defScope s_law_kind) := ⟨rfl, rfl, rfl, by decide +kernel, rfl, by decide +kernel, by decide +kernel⟩
theorem scs_law_seat : FnScope ["_law_make", "_law_ahead", "_law_behind", "_law_seat_here"] ["_law_make", "_law_ahead", "_law_behind"] (defScope s_law_seat) := ⟨rfl, rfl, rfl, by decide +kernel, rfl, by decide +kernel, by decide +kernel⟩
theorem scs_law_all_names : FnScope ["_law_make", "_law_kind_here"] ["_law_make"] (defScope s_law_all_names) := ⟨rfl, rfl, rfl, by decide +kernel, rfl, by decide +kernel, by decide +kernel⟩
theorem scs_law_led : FnScope ["_law_words_here", "_law_rows", "_law_standing", "_law_sign"] ["_law_words_here", "_law_rows", "_law_standing", "_law_sign"] (defScope s_law_led) := ⟨rfl, rfl, rfl, by decide +kernel, rfl, by decide +kernel, by decide +kernel⟩
theorem scs_law_plan : FnScope ["_law_draw_here", "_law_signs", "_law_many", "_law_states", "_law_state", "_law_row", "_law_sign", "_law_kind_here", "_law_ends"] ["_law_draw_here", "_law_signs", "_law_many"] (defScope s_law_plan) := ⟨rfl, rfl, rfl, by decide +kernel, rfl, by decide +kernel, by decide +kernel⟩
theorem scs_law_reaches : FnScope ["_law_states", "_law_ends", "_law_begin", "_law_there", "_law_order", "_law_turn", "_law_sign", "_law_after"] ["_law_states", "_law_ends", "_law_begin"] (defScope s_law_reaches) := ⟨rfl, rfl, rfl, by decide +kernel, rfl, by decide +kernel, by decide +kernel⟩
theorem scs_law_neighbours : FnScope ["_law_plan_here", "_law_there", "_law_order", "_law_turn", "_law_sign", "_law_after", "_law_found", "_law_state", "_law_ahead", "_law_behind", "_law_last"] ["_law_plan_here"] (defScope s_law_neighbours) := ⟨rfl, rfl, rfl, by decide +kernel, rfl, by decide +kernel, by decide +kernel⟩
theorem scs_law_trace : FnScope ["_law_words_here", "_law_rows", "_law_text", "_law_moments", "_law_stands", "_law_walks", "_law_beat", "_law_sign"] ["_law_words_here", "_law_rows", "_law_text", "_law_moments"] (defScope s_law_trace) := ⟨rfl, rfl, rfl, by decide +kernel, rfl, by decide +kernel, by decide +kernel⟩
theorem scs_law_column : FnScope ["_law_make", "_law_groups", "_law_delays", "_law_places", "_law_at", "_law_lag", "_law_rows"] ["_law_make", "_law_groups"] (defScope s_law_column) := ⟨rfl, rfl, rfl, by decide +kernel, rfl, by decide +kernel, by decide +kernel⟩
theorem scs_law_run : FnScope ["_law_make", "_law_groups", "_law_text", "_law_moments", "_law_delays", "_law_places", "_law_traces", "_law_found", "_law_beat", "_law_stands", "_law_fronts", "_law_at", "_law_heard", "_law_gaps", "_law_body", "_law_name"] ["_law_make", "_law_groups", "_law_text", "_law_moments"] (defScope s_law_run) := ⟨rfl, rfl, rfl, by decide +kernel, rfl, by decide +kernel, by decide +kernel⟩
theorem scs_law_borne_column : FnScope ["_law_draw_here", "_law_plan_here", "_law_most", "_law_state", "_law_text", "_law_turn", "_law_ways", "_law_sign"] ["_law_draw_here", "_law_plan_here", "_law_most"] (defScope s_law_borne_column) := ⟨rfl, rfl, rfl, by decide +kernel, rfl, by decide +kernel, by decide +kernel⟩
theorem scs_law_world : FnScope ["_law_draw_here", "_law_words_here", "_law_kinds", "_law_name", "_law_rows"] ["_law_draw_here"] (defScope s_law_world) := ⟨rfl, rfl, rfl, by decide +kernel, rfl, by decide +kernel, by decide +kernel⟩
theorem scs_law_single_names : FnScope ["_law_plan_here", "_law_there", "_law_order", "_law_found", "_law_turn", "_law_sign", "_law_after"] ["_law_plan_here"] (defScope s_law_single_names) := ⟨rfl, rfl, rfl, by decide +kernel, rfl, by decide +kernel, by decide +kernel⟩
theorem scs_law_arrives : FnScope ["_law_raw", "_law_goal", "_law_groups", "_law_text", "_law_low", "_law_high", "_law_names_here", "_law_delays", "_law_rows", "_law_stands", "_law_fronts", "_law_gaps", "_law_at", "_law_gap"] ["_law_raw", "_law_goal", "_law_groups", "_law_text", "_law_low", "_law_high"] (defScope s_law_arrives) := ⟨rfl, rfl, rfl, by decide +kernel, rfl, by decide +kernel, by decide +kernel⟩
theorem scs_law_leads : FnScope ["_law_raw", "_law_goal", "_law_singles", "_law_pairs", "_law_text", "_law_low", "_law_high", "_law_name", "_law_pair"] ["_law_raw", "_law_goal", "_law_singles", "_law_pairs", "_law_text", "_law_low", "_law_high"] (defScope s_law_leads) := ⟨rfl, rfl, rfl, by decide +kernel, rfl, by decide +kernel, by decide +kernel⟩
theorem scs_law_longer : FnScope ["_law_texts_here", "_law_signs", "_law_out", "_law_text", "_law_sign"] ["_law_texts_here", "_law_signs"] (defScope s_law_longer) := ⟨rfl, rfl, rfl, by decide +kernel, rfl, by decide +kernel, by decide +kernel⟩
theorem scs_law_texts : FnScope ["_law_signs", "_law_size", "_law_found", "_law_turn"] ["_law_signs", "_law_size"] (defScope s_law_texts) := ⟨rfl, rfl, rfl, by decide +kernel, rfl, by decide +kernel, by decide +kernel⟩
theorem scs_law_in_column : FnScope ["_law_make", "_law_raw", "_law_goal", "_law_groups", "_law_text", "_law_low", "_law_high", "_law_moments", "_law_run_here", "_law_rows"] ["_law_make", "_law_raw", "_law_goal", "_law_groups", "_law_text", "_law_low", "_law_high"] (defScope s_law_in_column) := ⟨rfl, rfl, rfl, by decide +kernel, rfl, by decide +kernel, by decide +kernel⟩
theorem scs_law : FnScope ["_law_script", "_law_draw_here", "_law_raw", "_law_plan_here", "_law_low", "_law_high", "_law_make", "_law_goal", "_law_told", "_law_singles", "_law_pairs", "_law_size", "_law_text", "_law_turn", "_law_groups", "_law_many", "_law_name", "_law_sign"] ["_law_script"] (defScope s_law) := ⟨rfl, rfl, rfl, by decide +kernel, rfl, by decide +kernel, by decide +kernel⟩

theorem exm_parts {K : PySem.W.Frag} {c : Addr} (h : PySem.W.exmOne K (.ref c) (.ref c) = some true) : PySem.W.subIn K (.ref c) (.type "BaseException") = some true := by
  unfold PySem.W.exmOne at h
  split at h
  · rename_i q
    simpa using q
  · cases h
theorem exm_type {K : PySem.W.Frag} {c : Addr} (h : PySem.W.exmOne K (.ref c) (.ref c) = some true) : PySem.W.typeIn K (.ref c) = some (.type "type") := by
  unfold PySem.W.exmOne PySem.W.kitCls at h
  split at h
  · dsimp only at h
    split at h
    · rename_i q
      rw [Bool.and_eq_true] at q
      simpa using q.2
    · cases h
  · cases h
theorem Tx.te (T : Tx K mg) : PySem.W.exmOne K (.ref (He.ga K "TooMany")) (.ref (He.ga K "TooMany")) = some true := He.exm_ok (T.says.fact 146 (f := .exm "TooMany" "TooMany" true) rfl)
theorem Tx.oex (T : Tx K mg) : OexC K (He.ga K "TooMany") := by
  obtain ⟨q, sa⟩ := He.ba T.exc
  refine ⟨?_, He.eqO_ok sa, exm_parts T.te, exm_type T.te, T.says.fact 145 (f := .keep "TooMany") rfl⟩
  split at q
  · rename_i dd cd sl ho
    split at q
    · rename_i C' bm k0 k1 k2 k3 n k5 hm hs
      simp only [Bool.and_eq_true, beq_iff_eq, Bool.not_eq_true'] at q
      obtain ⟨⟨⟨hc, rfl⟩, hdel⟩, hdi, ht⟩ := q
      obtain ⟨nm, bs, mro, ns, qn, hd, sn, sub, ab, col, del⟩ := cd
      dsimp only at hm hdel hdi
      subst hm hdel hdi hc
      have hsl : sl = #[k0, k1, k2, k3, some (.builtin "ValueError.__new__"), k5] := by
        obtain ⟨l⟩ := sl
        simp only at hs
        rw [hs]
      subst hsl
      exact ⟨nm, qn, ns, bs, bm, sn, sub, ab, col, dd, k0, k1, k2, k3, k5, ho, ht⟩
    · cases q
  · cases q
end
end TH
end
section
set_option Elab.async false
set_option linter.all false
set_option maxRecDepth 100000
/-! data of tuples as keys (NestedKey); frames; short forms of readings -/
namespace TH
open PySem PySem.Spec PyProof.Rows L2

/-! ### frames -/
/-- all but lists is as it was -/
def Kp (H H' : Hp) : Prop := ∀ b o, (∀ xs, o ≠ .lst xs) → H b = some o → H' b = some o
/-- all but the list at d is as it was -/
def Sb (d : Addr) (H H' : Hp) : Prop := ∀ b o, b ≠ d → H b = some o → H' b = some o
theorem Kp.refl (H : Hp) : Kp H H := fun _ _ _ h => h
theorem Kp.trans {H H1 H2 : Hp} (a : Kp H H1) (b : Kp H1 H2) : Kp H H2 := fun c o n h => b c o n (a c o n h)
theorem Kp.of {H H' : Hp} (s : Same H H') : Kp H H' := fun b o _ h => s b o h
theorem Sb.refl (d : Addr) (H : Hp) : Sb d H H := fun _ _ _ h => h
theorem Sb.trans {d : Addr} {H H1 H2 : Hp} (a : Sb d H H1) (b : Sb d H1 H2) : Sb d H H2 := fun c o n h => b c o n (a c o n h)
theorem Sb.of {d : Addr} {H H' : Hp} (s : Same H H') : Sb d H H' := fun b o _ h => s b o h
theorem Sb.kp {d : Addr} {H H' : Hp} {xs : List V} (s : Sb d H H') (h : H d = some (.lst xs)) : Kp H H' := fun b o n e => by
  by_cases q : b = d
  · subst q
    rw [h] at e
    cases e
    exact (n xs rfl).elim
  · exact s b o q e
theorem same_upd {H : Hp} {p : Addr} {o : HO} (h : H p = none) : Same H (upd H p o) := fun b x e => by
  rw [upd_ne (ne_of_none e h)]
  exact e
theorem _root_.L2.Same.upd {H H' : Hp} {p : Addr} {o : HO} (s : Same H H') (h : H' p = none) : Same H (L2.upd H' p o) := s.trans (same_upd h)
theorem sb_upd {H : Hp} {d : Addr} {o : HO} : Sb d H (upd H d o) := fun b x n e => by
  rw [upd_ne n]
  exact e
/-- a change of what H does not know -/
theorem _root_.L2.Same.mut {H H' : Hp} {p : Addr} {o : HO} (s : Same H H') (h : H p = none) : Same H (L2.upd H' p o) := fun b x e => by
  rw [upd_ne (ne_of_none e h)]
  exact s b x e
theorem _root_.L2.Same.back {H H' : Hp} {p : Addr} (s : Same H H') (h : H' p = none) : H p = none := s.free h
theorem Sb.back {d : Addr} {H H' : Hp} {p : Addr} (s : Sb d H H') (hd : H' d ≠ none) (h : H' p = none) : H p = none := by
  cases q : H p with
  | none => rfl
  | some o =>
    by_cases e : p = d
    · subst e
      exact absurd h hd
    · rw [s p o e q] at h
      cases h
theorem Kp.tup {K : PySem.W.Frag} {H H' : Hp} {a : Addr} {xs : List V} (s : Kp H H') (h : SqT K H a xs) : SqT K H' a xs := by
  rcases h with (h | ⟨o, h⟩) | h
  · exact .inl (.inl (s _ _ (fun _ z => nomatch z) h))
  · exact .inl (.inr ⟨o, s _ _ (fun _ z => nomatch z) h⟩)
  · exact .inr h
theorem _root_.L2.Same.tup {K : PySem.W.Frag} {H H' : Hp} {a : Addr} {xs : List V} (s : Same H H') (h : SqT K H a xs) : SqT K H' a xs := (Kp.of s).tup h
theorem _root_.L2.Same.lst {K : PySem.W.Frag} {H H' : Hp} {a : Addr} {xs : List V} (s : Same H H') (h : SqL K H a xs) : SqL K H' a xs := s.seq h

/-! ### data -/
abbrev NK := NestedKey
mutual
/-- the value is this nest of tuples (ints, texts, None within) -/
inductive Tp (K : PySem.W.Frag) (H : Hp) : V → NK → Prop
  | non : Tp K H .non .none
  | int (i : Int) : Tp K H (.int i) (.num i)
  | str (x : Str) : Tp K H (.str x) (.text x)
  | tup {a : Addr} {xs : List V} {ks : List NK} : SqT K H a xs → xs.length ≤ 2000 → TpAll K H xs ks → Tp K H (.ref a) (.tup ks)
inductive TpAll (K : PySem.W.Frag) (H : Hp) : List V → List NK → Prop
  | nil : TpAll K H [] []
  | cons {v : V} {vs : List V} {k : NK} {ks : List NK} : Tp K H v k → TpAll K H vs ks → TpAll K H (v :: vs) (k :: ks)
end
mutual
theorem Tp.kp {K : PySem.W.Frag} {H H' : Hp} (s : Kp H H') : ∀ {v : V} {k : NK}, Tp K H v k → Tp K H' v k
  | _, _, .non => .non
  | _, _, .int i => .int i
  | _, _, .str x => .str x
  | _, _, .tup h l a => .tup (s.tup h) l (TpAll.kp s a)
theorem TpAll.kp {K : PySem.W.Frag} {H H' : Hp} (s : Kp H H') : ∀ {vs : List V} {ks : List NK}, TpAll K H vs ks → TpAll K H' vs ks
  | _, _, .nil => .nil
  | _, _, .cons h a => .cons (Tp.kp s h) (TpAll.kp s a)
end
theorem Tp.same {K : PySem.W.Frag} {H H' : Hp} {v : V} {k : NK} (h : Tp K H v k) (s : Same H H') : Tp K H' v k := h.kp (Kp.of s)
theorem TpAll.same {K : PySem.W.Frag} {H H' : Hp} {vs : List V} {ks : List NK} (h : TpAll K H vs ks) (s : Same H H') : TpAll K H' vs ks := h.kp (Kp.of s)
section
variable {K : PySem.W.Frag} {H : Hp}
theorem TpAll.length : ∀ {vs : List V} {ks : List NK}, TpAll K H vs ks → vs.length = ks.length
  | _, _, .nil => rfl
  | _, _, .cons _ a => congrArg Nat.succ (TpAll.length a)
theorem TpAll.get : ∀ {vs : List V} {ks : List NK} {i : Nat} {k : NK}, TpAll K H vs ks → ks[i]? = some k → ∃ v, vs[i]? = some v ∧ Tp K H v k
  | _, _, _, _, .nil, e => by simp at e
  | _, _, 0, _, .cons h _, e => by
    have e' := Option.some.inj e
    subst e'
    exact ⟨_, rfl, h⟩
  | _, _, i + 1, _, .cons _ a, e => TpAll.get (i := i) a e
theorem TpAll.at : ∀ {vs : List V} {ks : List NK} {i : Nat} {v : V}, TpAll K H vs ks → vs[i]? = some v → ∃ k, ks[i]? = some k ∧ Tp K H v k
  | _, _, _, _, .nil, e => by simp at e
  | _, _, 0, _, .cons h _, e => by
    have e' := Option.some.inj e
    subst e'
    exact ⟨_, rfl, h⟩
  | _, _, i + 1, _, .cons _ a, e => TpAll.at (i := i) a e
theorem TpAll.append : ∀ {vs ws : List V} {ks ls : List NK}, TpAll K H vs ks → TpAll K H ws ls → TpAll K H (vs ++ ws) (ks ++ ls)
  | _, _, _, _, .nil, b => b
  | _, _, _, _, .cons h a, b => .cons h (TpAll.append a b)
theorem TpAll.one {v : V} {k : NK} (h : Tp K H v k) : TpAll K H [v] [k] := .cons h .nil
theorem TpAll.snoc {vs : List V} {ks : List NK} {v : V} {k : NK} (a : TpAll K H vs ks) (h : Tp K H v k) : TpAll K H (vs ++ [v]) (ks ++ [k]) := a.append (.one h)
theorem Tp.tup_inv {v : V} {ks : List NK} (h : Tp K H v (.tup ks)) : ∃ a xs, v = .ref a ∧ SqT K H a xs ∧ xs.length ≤ 2000 ∧ TpAll K H xs ks := by
  cases h with
  | tup h l a => exact ⟨_, _, rfl, h, l, a⟩
theorem Tp.int_inv {v : V} {i : Int} (h : Tp K H v (.num i)) : v = .int i := by
  cases h
  rfl
theorem Tp.str_inv {v : V} {x : Str} (h : Tp K H v (.text x)) : v = .str x := by
  cases h
  rfl
theorem TpAll.ints : ∀ (ns : List Int), TpAll K H (ns.map V.int) (ns.map .num)
  | [] => .nil
  | n :: ns => .cons (.int n) (TpAll.ints ns)
theorem TpAll.ints_inv : ∀ {ns : List Int} {vs : List V}, TpAll K H vs (ns.map .num) → vs = ns.map V.int
  | [], _, h => by
    cases h
    rfl
  | n :: ns, _, h => by
    cases h with
    | cons h a =>
      rw [h.int_inv, TpAll.ints_inv a]
      rfl
theorem TpAll.strs : ∀ (ns : List Str), TpAll K H (ns.map V.str) (ns.map .text)
  | [] => .nil
  | n :: ns => .cons (.str n) (TpAll.strs ns)
theorem TpAll.strs_inv : ∀ {ns : List Str} {vs : List V}, TpAll K H vs (ns.map .text) → vs = ns.map V.str
  | [], _, h => by
    cases h
    rfl
  | n :: ns, _, h => by
    cases h with
    | cons h a =>
      rw [h.str_inv, TpAll.strs_inv a]
      rfl
end
mutual
/-- as PyData -/
def nkD : NK → PyData
  | .none => .none
  | .num i => .int i
  | .text x => .str x
  | .tup ks => .tuple (nkDs ks)
def nkDs : List NK → List PyData
  | [] => []
  | k :: ks => nkD k :: nkDs ks
end
mutual
theorem Tp.dp {K : PySem.W.Frag} {H : Hp} : ∀ {v : V} {k : NK}, Tp K H v k → Dp K H v (nkD k)
  | _, _, .non => .non
  | _, _, .int i => .int i
  | _, _, .str x => .str x
  | _, _, .tup h l a => .tup h (TpAll.dp a)
theorem TpAll.dp {K : PySem.W.Frag} {H : Hp} : ∀ {vs : List V} {ks : List NK}, TpAll K H vs ks → DpAll K H vs (nkDs ks)
  | _, _, .nil => .nil
  | _, _, .cons h a => .cons (Tp.dp h) (TpAll.dp a)
end
/-! in the heap -/
mutual
theorem Tp.raw {X : Cx} {pins : List (Addr × Obj)} {σ : L2.St} {H : Hp} {s : Shared} (I : Inv X pins σ H s) : ∀ {v : V} {k : NK} {u : Value}, Tp X.K H v k → RelV v u → NestedIs s.heap k u
  | _, _, _, .non, r => by
    cases r
    exact .none
  | _, _, _, .int i, r => by
    obtain ⟨t, rfl⟩ := r
    exact .int i t
  | _, _, _, .str x, r => by
    obtain ⟨t, rfl⟩ := r
    exact .text x t
  | _, _, _, .tup h l a, r => by
    cases r
    obtain ⟨its, rv, ⟨o, e, c, n, d⟩, _⟩ := I.tuple h
    exact .tup e c d (by simpa using TpAll.raw I a rv)
theorem TpAll.raw {X : Cx} {pins : List (Addr × Obj)} {σ : L2.St} {H : Hp} {s : Shared} (I : Inv X pins σ H s) : ∀ {vs : List V} {ks : List NK} {us : List Value}, TpAll X.K H vs ks → Vals vs us → NestedAll s.heap ks us
  | _, _, _, .nil, .nil => .nil
  | _, _, _, .cons h a, .cons r rr => .cons (Tp.raw I h r) (TpAll.raw I a rr)
end
mutual
/-- the same nest, of tuples or lists -/
inductive Dd (K : PySem.W.Frag) (H : Hp) : V → NK → Prop
  | non : Dd K H .non .none
  | int (i : Int) : Dd K H (.int i) (.num i)
  | str (x : Str) : Dd K H (.str x) (.text x)
  | tup {a : Addr} {xs : List V} {ks : List NK} : SqT K H a xs → xs.length ≤ 2000 → DdAll K H xs ks → Dd K H (.ref a) (.tup ks)
  | lst {a : Addr} {xs : List V} {ks : List NK} : SqL K H a xs → xs.length ≤ 2000 → DdAll K H xs ks → Dd K H (.ref a) (.tup ks)
inductive DdAll (K : PySem.W.Frag) (H : Hp) : List V → List NK → Prop
  | nil : DdAll K H [] []
  | cons {v : V} {vs : List V} {k : NK} {ks : List NK} : Dd K H v k → DdAll K H vs ks → DdAll K H (v :: vs) (k :: ks)
end
mutual
theorem Dd.same {K : PySem.W.Frag} {H H' : Hp} (s : Same H H') : ∀ {v : V} {k : NK}, Dd K H v k → Dd K H' v k
  | _, _, .non => .non
  | _, _, .int i => .int i
  | _, _, .str x => .str x
  | _, _, .tup h l a => .tup (s.tup h) l (DdAll.same s a)
  | _, _, .lst h l a => .lst (s.seq h) l (DdAll.same s a)
theorem DdAll.same {K : PySem.W.Frag} {H H' : Hp} (s : Same H H') : ∀ {vs : List V} {ks : List NK}, DdAll K H vs ks → DdAll K H' vs ks
  | _, _, .nil => .nil
  | _, _, .cons h a => .cons (Dd.same s h) (DdAll.same s a)
end
mutual
theorem Tp.dd {K : PySem.W.Frag} {H : Hp} : ∀ {v : V} {k : NK}, Tp K H v k → Dd K H v k
  | _, _, .non => .non
  | _, _, .int i => .int i
  | _, _, .str x => .str x
  | _, _, .tup h l a => .tup h l (TpAll.dd a)
theorem TpAll.dd {K : PySem.W.Frag} {H : Hp} : ∀ {vs : List V} {ks : List NK}, TpAll K H vs ks → DdAll K H vs ks
  | _, _, .nil => .nil
  | _, _, .cons h a => .cons (Tp.dd h) (TpAll.dd a)
end
section
variable {K : PySem.W.Frag} {H : Hp}
theorem DdAll.length : ∀ {vs : List V} {ks : List NK}, DdAll K H vs ks → vs.length = ks.length
  | _, _, .nil => rfl
  | _, _, .cons _ a => congrArg Nat.succ (DdAll.length a)
theorem DdAll.at : ∀ {vs : List V} {ks : List NK} {i : Nat} {v : V}, DdAll K H vs ks → vs[i]? = some v → ∃ k, ks[i]? = some k ∧ Dd K H v k
  | _, _, _, _, .nil, e => by simp at e
  | _, _, 0, _, .cons h _, e => by
    have e' := Option.some.inj e
    subst e'
    exact ⟨_, rfl, h⟩
  | _, _, i + 1, _, .cons _ a, e => DdAll.at (i := i) a e
end
theorem room65 {A : Around} {k : Nat} (hr : Room k A) : A.units + 65 < cLine := by
  have := hr.un
  omega
theorem sz2 {n : Nat} (h : n ≤ 2000) : n ≤ sizeLine := Nat.le_trans h (by decide)
theorem sz2l {n : Nat} (h : n ≤ 2000) : n < sizeLine := Nat.lt_of_le_of_lt h (by decide)
/-! ### isinstance -/
section
variable {K : PySem.W.Frag} {H : Hp}
theorem ty_tup {a : Addr} {xs : List V} (h : SqT K H a xs) : TyX K H (.ref a) (.type "tuple") := by
  rcases h with (h | ⟨o, h⟩) | ⟨o, its, n, h, c, _⟩
  · exact .base (.tup h)
  · exact .fTuple h
  · exact .kTuple h c
theorem ty_lst {a : Addr} {xs : List V} (h : SqL K H a xs) : TyX K H (.ref a) (.type "list") := by
  rcases h with (h | ⟨o, h⟩) | ⟨o, its, n, h, c, _⟩
  · exact .base (.lst h)
  · exact .base (.frz h)
  · exact .kList h c
def rIsiS (K : PySem.W.Frag) : List V → Hp → VK → Prop := fun xs H Q => ∃ (x : V) (T t : String) (b : Bool), xs = [x, .ty T] ∧ TyX K H x (.type t) ∧ kitB t T = some b ∧ Q (.bl b) H
def rIsiP (K : PySem.W.Frag) : List V → Hp → VK → Prop := fun xs H Q => ∃ (x : V) (p : Addr) (T U t : String) (b c : Bool), xs = [x, .ref p] ∧ H p = some (.tup [.ty T, .ty U]) ∧ TyX K H x (.type t) ∧ kitB t T = some b ∧ kitB t U = some c ∧ Q (.bl (b || c)) H
theorem call_isiS {X : Cx} : CallR X (.builtin "isinstance") (rIsiS X.K) := by
  intro pins s σ H xs us Q I r h
  obtain ⟨x, T, t, b, rfl, ht, hk, q⟩ := h
  exact call_isi pins s σ H _ us Q I r ⟨x, _, _, _, b, rfl, .ty T, ht, kit_ty hk, q⟩
theorem call_isiP {X : Cx} : CallR X (.builtin "isinstance") (rIsiP X.K) := by
  intro pins s σ H xs us Q I r h
  obtain ⟨x, p, T, U, t, b, c, rfl, hp, ht, h1, h2, q⟩ := h
  refine call_isiT pins s σ H _ us Q I r ⟨x, p, _, _, _, b || c, rfl, hp, .cons (.ty T) (.cons (.ty U) .nil), ht, ?_, q⟩
  refine kitAny_cons (kit_ty h1) (fun e => ?_) fun e => by rw [e]; rfl
  rw [e]
  exact kitAny_cons (kit_ty h2) (fun e => by rw [e]; exact kitAny_nil) fun e => by rw [e]; rfl
end
/-- the heap with a new thing, by what holds of it -/
theorem new_of {H1 : Hp} {p : Addr} {o : HO} {R : Hp → Prop} (np : H1 p = none) (h : ∀ H2, Same H1 H2 → H2 p = some o → R H2) : R (upd H1 p o) := h _ (same_upd np) upd_same
/-- the heap behind a change -/
theorem mut_of {H1 : Hp} {p : Addr} {o : HO} {R : Hp → Prop} (h : ∀ H2, Sb p H1 H2 → H2 p = some o → R H2) : R (upd H1 p o) := h _ sb_upd upd_same
theorem _root_.L2.Same.sb {H0 H1 H2 : Hp} {l : Addr} (s : Same H0 H1) (n : H0 l = none) (b : Sb l H1 H2) : Same H0 H2 := fun c o e => b _ _ (ne_of_none e n) (s _ _ e)
/-- a comprehension whose turns only grow the heap -/
theorem lc_map {J : It} {n : Nat} {G : Hp → Prop} {Y : Nat → Hp → V → Hp → Prop} (w : Walk J n G Y) {g : TG} {tt : TT} {te : TE} {vs : List Nat} {σ : L2.St} {H1 : Hp} {D : Addr} {Qd : Hp → Prop} (hD : H1 D = none) (hn : n ≤ 2000) (hG : ∀ H', Same H1 H' → G H')
    (Acc : Nat → List V → Hp → Prop) (mono : ∀ i acc H H', Kp H H' → Acc i acc H → Acc i acc H') (a0 : Acc 0 [] H1)
    (hs : ∀ i x H H' acc (k : VK) (ks : Hp → Prop), i < n → Same H1 H → Acc i acc H → acc.length ≤ i → Y i H x H' → (∀ y H4, Same H H4 → Acc (i + 1) (acc ++ [y]) H4 → k y H4) → (∀ H4, Same H H4 → Acc (i + 1) acc H4 → ks H4) →
      g x (wipe σ vs) H' fun σ2 H2 => wipe σ2 vs = wipe σ vs ∧ tt σ2 H2 fun b H3 => if b = true then te σ2 H3 k else ks H3)
    (hd : ∀ H2 acc, Same H1 H2 → H2 D = some (.lst acc) → acc.length ≤ n → Acc n acc H2 → Qd H2) :
    ∃ W : Nat → Nat → Hp → Prop, (∃ m, W 0 m (upd H1 D (.lst []))) ∧ ∀ i m H, W i m H →
      (J.stop i H ∧ Qd H) ∨ (J.go i H ∧ ∃ Nx : Hp → Prop, (∀ H', Nx H' → ∃ m', m' < m ∧ W (i + 1) m' H') ∧ ∀ x H', J.yld i H x H' → g x (wipe σ vs) H' fun σ2 H2 => wipe σ2 vs = wipe σ vs ∧ tt σ2 H2 fun b H3 =>
        if b = true then te σ2 H3 fun y H4 => ∃ acc, H4 D = some (.lst acc) ∧ acc.length < sizeLine ∧ Nx (upd H4 D (.lst (acc ++ [y]))) else Nx H3) := by
  refine lc_it w (fun i H => Same H1 H ∧ ∃ acc, H D = some (.lst acc) ∧ acc.length ≤ i ∧ Acc i acc H) ⟨same_upd hD, [], upd_same, Nat.le_refl _, mono _ _ _ _ (Kp.of (same_upd hD)) a0⟩ (fun i H _ h => hG H h.1) (fun i x H H' hi h y => ?_) fun H h => ?_
  · obtain ⟨s1, acc, e1, l1, a1⟩ := h
    refine hs i x H H' acc _ _ hi s1 a1 l1 y (fun y H4 s4 a4 => ?_) fun H4 s4 a4 => ⟨s1.trans s4, acc, s4 _ _ e1, Nat.le_succ_of_le l1, a4⟩
    exact ⟨acc, s4 _ _ e1, sz2l (by omega), (s1.trans s4).sb hD sb_upd, acc ++ [y], upd_same, by simp; omega, mono _ _ _ _ (sb_upd.kp (s4 _ _ e1)) a4⟩
  · obtain ⟨s1, acc, e1, l1, a1⟩ := h
    exact hd H acc s1 e1 l1 a1
theorem yes_if {te : TE} {σ : L2.St} {H : Hp} {k : VK} {ks : Hp → Prop} (h : te σ H k) : tYes σ H fun b H3 => if b = true then te σ H3 k else ks H3 := by
  show (if true = true then te σ H k else ks H)
  exact iteT h
/-! ### zip and enumerate as walks -/
section
variable {K : PySem.W.Frag} {xs ys zs : List V}
theorem walk_z2 {s1 s2 : Src} {n : Nat} (hn : n = min xs.length ys.length) : Walk (ItZ2 K s1 s2) n (fun H => SrcOk K H s1 xs ∧ SrcOk K H s2 ys)
    (fun i H v H' => ∃ T x y, v = .ref T ∧ H T = none ∧ Same H H' ∧ H' T = some (.tup [x, y]) ∧ xs[i]? = some x ∧ ys[i]? = some y) :=
  ⟨fun i _ hi q => ⟨xs, ys, q.1, q.2, hn ▸ hi⟩, fun _ q => ⟨xs, ys, q.1, q.2, hn⟩, fun i H v H' _ q y => by
    obtain ⟨T, x, y, a, b, c, d, e⟩ := y
    exact ⟨T, x, y, a, b, c ▸ same_upd b, c ▸ upd_same, d _ q.1, e _ q.2⟩⟩
theorem walk_z3 {s1 s2 s3 : Src} {n : Nat} (hn : n = min (min xs.length ys.length) zs.length) : Walk (ItZ3 K s1 s2 s3) n (fun H => SrcOk K H s1 xs ∧ SrcOk K H s2 ys ∧ SrcOk K H s3 zs)
    (fun i H v H' => ∃ T x y z, v = .ref T ∧ H T = none ∧ Same H H' ∧ H' T = some (.tup [x, y, z]) ∧ xs[i]? = some x ∧ ys[i]? = some y ∧ zs[i]? = some z) :=
  ⟨fun i _ hi q => ⟨xs, ys, zs, q.1, q.2.1, q.2.2, hn ▸ hi⟩, fun _ q => ⟨xs, ys, zs, q.1, q.2.1, q.2.2, hn⟩, fun i H v H' _ q y => by
    obtain ⟨T, x, y, z, a, b, c, d, e, f⟩ := y
    exact ⟨T, x, y, z, a, b, c ▸ same_upd b, c ▸ upd_same, d _ q.1, e _ q.2.1, f _ q.2.2⟩⟩
theorem walk_en {s1 : Src} : Walk (ItE K s1) xs.length (fun H => SrcOk K H s1 xs)
    (fun i H v H' => ∃ T x, v = .ref T ∧ H T = none ∧ Same H H' ∧ H' T = some (.tup [.int (i : Nat), x]) ∧ xs[i]? = some x) :=
  ⟨fun i _ hi q => ⟨xs, q, hi⟩, fun _ q => ⟨xs, q, rfl⟩, fun i H v H' _ q y => by
    obtain ⟨T, x, a, b, c, d⟩ := y
    exact ⟨T, x, a, b, c ▸ same_upd b, c ▸ upd_same, d _ q⟩⟩
theorem _root_.L2.Same.src {H H' : Hp} (s : Same H H') {src : Src} {xs : List V} (h : SrcOk K H src xs) : SrcOk K H' src xs := by
  cases src with
  | lst a => exact s.seq h
  | tup a => exact s.tup h
  | txt z => exact h
end
/-! ### the same with the written part as a letter (for what stands in a comprehension) -/
section
variable {X : Cx} {K : PySem.W.Frag}
theorem ix_tupK (h : X.K = K) : IxR X (rIxT K) := h ▸ ix_tup
theorem ix_listK (h : X.K = K) : IxR X (rIxL K) := h ▸ ix_list
theorem op_in_seqK (h : X.K = K) : OpR X (compareOp .In) (rIn K false) := h ▸ op_in_seq
theorem len_seqK (h : X.K = K) : CallR X (.builtin "len") (fun xs H Q => ∃ p ys, xs = [.ref p] ∧ (SqL K H p ys ∨ SqT K H p ys) ∧ Q (.int ys.length) H) := h ▸ call_len_seq
theorem pe_fldK {e : Expr} {ta : TE} {f : Str} {pos : Pos} (h : X.K = K) (he : PE X e ta) (hb : attributeBase e f X.env (eval e X.env) = eval e X.env) : PE X (.Attribute e f pos) (tFld K ta f) := h ▸ pe_fld he hb
theorem pg_tupK {es : List Expr} {k : Nat} {t : TGs} {n : Nat} {pos : Pos} (h : X.K = K) (hc : X.calm = true) (hp : PGs X es t)
    (hn : (assignEach es X.env).length = n) (hst : (assignEach es X.env).findIdx? (·.1) = none) : PG X (.Tuple es k pos) (gTup K n t) := h ▸ pg_tup hc hp hn hst
end
/-! ### tuples cut, joined, made: the heap behind by what holds of it -/
section
variable {X : Cx} {K : PySem.W.Frag}
def rSlU (K : PySem.W.Frag) : V → Option Int → Option Int → Hp → VK → Prop := fun x lo hi H Q => ∃ a xs, x = .ref a ∧ SqT K H a xs ∧ ∀ p H2, Same H H2 → SqT K H2 p (cutV xs lo hi) → Q (.ref p) H2
theorem sl_tupU : SlR X (rSlU X.K) := by
  intro pins s σ H x v vl vu lo hi sl Q I rx hs pl pu h
  obtain ⟨a, xs, rfl, hx, q⟩ := h
  refine sl_tupA pins s σ H _ v vl vu lo hi sl Q I rx hs pl pu ⟨a, xs, rfl, hx, fun e => ?_, fun _ p np => q p _ (same_upd np) (.inl (.inl upd_same))⟩
  have ec : cutV xs lo hi = xs := by
    unfold cutV
    rw [e.1, e.2, List.drop_zero, Nat.sub_zero, List.take_length]
  exact q a H (Same.refl H) (by rw [ec]; exact hx)
def rCatU (K : PySem.W.Frag) : R2 := fun x y H Q => ∃ a b xs ys, x = .ref a ∧ y = .ref b ∧ SqT K H a xs ∧ SqT K H b ys ∧ xs.length + ys.length ≤ sizeLine ∧ ∀ p H2, Same H H2 → SqT K H2 p (xs ++ ys) → Q (.ref p) H2
theorem op_catU : OpR X (binaryOp .Add) (rCatU X.K) := by
  intro pins s σ H x y v u Q I rx ry h
  obtain ⟨a, b, xs, ys, rfl, rfl, ha, hb, hz, q⟩ := h
  refine op_catA pins s σ H _ _ v u Q I rx ry ⟨a, b, xs, ys, rfl, rfl, ha, hb, hz, fun e => ?_, fun _ e => ?_, fun _ _ p np => q p _ (same_upd np) (.inl (.inl upd_same))⟩
  · subst e
    exact q b H (Same.refl H) hb
  · subst e
    exact q a H (Same.refl H) (by rw [List.append_nil]; exact ha)
def rTupU (K : PySem.W.Frag) : List V → Hp → VK → Prop := fun xs H Q => ∃ p ys, xs = [.ref p] ∧ (SqL K H p ys ∨ SqT K H p ys) ∧ ∀ l H2, Same H H2 → SqT K H2 l ys → Q (.ref l) H2
theorem call_tupU : CallR X (.type "tuple") (rTupU X.K) := by
  intro pins s σ H xs us Q I r h
  obtain ⟨p, ys, rfl, hp, q⟩ := h
  refine call_tuple_of pins s σ H _ us Q I r ⟨p, ys, rfl, ?_⟩
  rcases hp with hp | hp
  · exact .inl ⟨hp, fun l nl => q l _ (same_upd nl) (.inl (.inl upd_same))⟩
  · exact .inr ⟨hp, q p H (Same.refl H) hp⟩
def rLstU (K : PySem.W.Frag) : List V → Hp → VK → Prop := fun xs H Q => ∃ p ys, xs = [.ref p] ∧ (SqL K H p ys ∨ SqT K H p ys) ∧ ∀ l H2, H l = none → Same H H2 → H2 l = some (.lst ys) → Q (.ref l) H2
theorem call_lstU : CallR X (.type "list") (rLstU X.K) := by
  intro pins s σ H xs us Q I r h
  obtain ⟨p, ys, rfl, hp, q⟩ := h
  exact call_list_of pins s σ H _ us Q I r ⟨p, ys, rfl, hp, fun l nl => q l _ nl (same_upd nl) upd_same⟩
/-- xs.append(y) -/
def rAppU : V → List V → Hp → VK → Prop := fun x vs H Q => ∃ l xs y, x = .ref l ∧ vs = [y] ∧ H l = some (.lst xs) ∧ xs.length ≤ 2000 ∧ ∀ H2, Sb l H H2 → H2 l = some (.lst (xs ++ [y])) → Q .non H2
theorem mt_appU : MtR X "list.append" rAppU := by
  intro pins s σ H x xs v us Q I rx rxs h
  obtain ⟨l, ys, y, rfl, rfl, hl, hz, q⟩ := h
  exact mt_append pins s σ H _ _ v us Q I rx rxs ⟨l, ys, y, rfl, rfl, hl, sz2l hz, q _ sb_upd upd_same⟩
theorem call_tupUK (h : X.K = K) : CallR X (.type "tuple") (rTupU K) := h ▸ call_tupU
end
end TH
end
section
set_option Elab.async false
set_option linter.all false
set_option maxRecDepth 100000
set_option maxHeartbeats 4000000
/-! further rules of our own: dicts whose keys are nested tuples, sorted of tuples, of texts, of a dict with tuple keys -/
namespace TH
open PySem PySem.Spec PyProof.Rows L2

/-! ### sorted -/
mutual
theorem Tp.rds {X : Cx} {pins : List (Addr × Obj)} {σ : L2.St} {H : Hp} {s : Shared} (I : Inv X pins σ H s) : ∀ {v : V} {k : NK} {u : Value}, Tp X.K H v k → RelV v u → Reads s.heap u (nkD k) []
  | _, _, _, .non, r => by
    cases r
    exact .none
  | _, _, _, .int i, r => by
    obtain ⟨t, rfl⟩ := r
    exact .int i t
  | _, _, _, .str x, r => by
    obtain ⟨t, rfl⟩ := r
    exact .str x t
  | _, _, _, .tup h l a, r => by
    cases r
    obtain ⟨its, rv, ⟨o, e, c, n, d⟩, _⟩ := I.tuple h
    exact .tuple e c d (by simpa using TpAll.rds I a rv)
theorem TpAll.rds {X : Cx} {pins : List (Addr × Obj)} {σ : L2.St} {H : Hp} {s : Shared} (I : Inv X pins σ H s) : ∀ {vs : List V} {ks : List NK} {us : List Value}, TpAll X.K H vs ks → Vals vs us → ReadsAll s.heap us (nkDs ks) []
  | _, _, _, .nil, .nil => .nil
  | _, _, _, .cons h a, .cons r rr => .cons (as := []) (bs := []) (Tp.rds I h r) (TpAll.rds I a rr)
end
abbrev SB := V × NK
abbrev sEnc (b : SB) : PyData := nkD b.2
section
variable {X : Cx} {pins : List (Addr × Obj)} {σ : L2.St} {H : Hp} {s : Shared}
theorem each_sb : ∀ {xs : List V} {ks : List NK} {us : List Value}, TpAll X.K H xs ks → Vals xs us → PySem.W.EachIs (fun (v : Value) (b : SB) => RelV b.1 v ∧ Tp X.K H b.1 b.2) us (xs.zip ks)
  | _, _, _, .nil, .nil => .nil
  | _, _, _, .cons h a, .cons r rr => .cons ⟨r, h⟩ (each_sb a rr)
theorem zip_fst : ∀ {xs : List V} {ks : List NK}, TpAll X.K H xs ks → (xs.zip ks).map (·.1) = xs ∧ (xs.zip ks).map (·.2) = ks
  | _, _, .nil => ⟨rfl, rfl⟩
  | _, _, .cons h a => by
    obtain ⟨e1, e2⟩ := zip_fst a
    exact ⟨by simp [e1], by simp [e2]⟩
theorem each_vals : ∀ {us : List Value} {bs : List SB}, PySem.W.EachIs (fun (v : Value) (b : SB) => RelV b.1 v ∧ Tp X.K H b.1 b.2) us bs → Vals (bs.map (·.1)) us ∧ TpAll X.K H (bs.map (·.1)) (bs.map (·.2))
  | _, _, .nil => ⟨.nil, .nil⟩
  | _, _, .cons h a => ⟨.cons h.1 (each_vals a).1, .cons h.2 (each_vals a).2⟩
/-- data that may be sorted: pairs of texts, or a text and a number -/
def SortK (ks : List NK) : Prop := (∀ k ∈ ks, ∃ a b, k = .tup [.text a, .text b]) ∨ ∀ k ∈ ks, ∃ a b, k = .tup [.text a, .num b]
theorem SortK.al {ks : List NK} (h : SortK ks) : PySem.W.AllAlike (ks.map nkD) ∧ PySem.W.Sortable (ks.map nkD) ∧ ∀ k ∈ ks, (nkD k).depth ≤ 3 := by
  refine ⟨fun d hd d' hd' => ?_, .inl fun d hd => ?_, fun k hk => ?_⟩
  · obtain ⟨k, hk, rfl⟩ := List.mem_map.mp hd
    obtain ⟨k', hk', rfl⟩ := List.mem_map.mp hd'
    rcases h with h | h
    · obtain ⟨a, b, rfl⟩ := h k hk
      obtain ⟨a', b', rfl⟩ := h k' hk'
      simp [nkD, nkDs, PySem.W.alike, PySem.W.alikeAll]
    · obtain ⟨a, b, rfl⟩ := h k hk
      obtain ⟨a', b', rfl⟩ := h k' hk'
      simp [nkD, nkDs, PySem.W.alike, PySem.W.alikeAll]
  · obtain ⟨k, hk, rfl⟩ := List.mem_map.mp hd
    rcases h with h | h
    · obtain ⟨a, b, rfl⟩ := h k hk
      exact ⟨_, _, rfl⟩
    · obtain ⟨a, b, rfl⟩ := h k hk
      exact ⟨_, _, rfl⟩
  · rcases h with h | h
    · obtain ⟨a, b, rfl⟩ := h k hk
      simp [nkD, nkDs, PyData.depth, PyData.depthAll]
    · obtain ⟨a, b, rfl⟩ := h k hk
      simp [nkD, nkDs, PyData.depth, PyData.depthAll]
end
/-- sorted(xs), xs a list of such pairs: a new list of the same, in some order -/
def rSortTS (K : PySem.W.Frag) : List V → Hp → VK → Prop := fun vs H Q => ∃ (a : Addr) (xs : List V) (ks : List NK), vs = [V.ref a] ∧ SqL K H a xs ∧ TpAll K H xs ks ∧ SortK ks ∧
  ∀ (ys : List V) (ls : List NK) (p : Addr), H p = none → ls.Perm ks → ys.length = ls.length → TpAll K H ys ls → Q (.ref p) (upd H p (.lst ys))
section
variable {X : Cx}
theorem cr_sortedTS (hu : X.A.units + 65 < cLine) : CallR X (.builtin "sorted") (rSortTS X.K) := by
  intro pins s σ H vs us Q I r h
  obtain ⟨a, xs, ks, rfl, hs, ht, sk, q⟩ := h
  obtain ⟨its, rv, hl, hz⟩ := I.list hs
  rw [Vals.ref1 r]
  obtain ⟨h1, h2, h3⟩ := sk.al
  obtain ⟨z1, z2⟩ := zip_fst ht
  have e0 := each_sb ht rv
  have lx : (xs.zip ks).length = xs.length := by
    have := congrArg List.length z1
    simpa using this
  have mp : (xs.zip ks).map sEnc = ks.map nkD := by
    rw [show ks.map nkD = ((xs.zip ks).map (·.2)).map nkD by rw [z2], List.map_map]
    rfl
  refine PySem.W.sorted_data (enc := sEnc) (bs := xs.zip ks) hl.isList e0 (e0.mono fun v b hb => ⟨_, Tp.rds I hb.2 hb.1⟩) (by rw [mp]; exact h1) (by rw [mp]; exact h2) (by rw [lx]; exact hz) (fun b hb => ?_) fun out lo e1 => ?_
  · have hk : b.2 ∈ ks := by
      rw [← z2]
      exact List.mem_map.mpr ⟨b, hb, rfl⟩
    have := h3 _ hk
    show X.A.units + 2 + (nkD b.2).depth < cLine
    omega
  · obtain ⟨ep, he'⟩ := PyProof.Rows.sortedAll_at s.heap its out.toArray
    obtain ⟨v1, v2⟩ := each_vals e1
    have pm : ((xs.zip ks).mergeSort (PySem.W.dataLe false sEnc)).Perm (xs.zip ks) := List.mergeSort_perm ..
    have hlen : (((xs.zip ks).mergeSort (PySem.W.dataLe false sEnc)).map (·.1)).length ≤ sizeLine := by
      rw [List.length_map, pm.length_eq, lx]
      exact hz
    refine ⟨.ref _, upd H (s.heap.objs.size + 1) (.lst _), I.laid (t' := s.toks) (fun _ _ => PyProof.Rows.sortedAll_old) (Nat.le_succ _) ⟨hlen, out, ep, v1, he'⟩, rfl, q _ _ _ (I.hok.fresh (Nat.le_succ _)) ?_ (by simp) v2⟩
    have := pm.map (·.2)
    rw [z2] at this
    exact this
/-- sorted(text), few signs -/
def rSortText : List V → Hp → VK → Prop := fun vs H Q => ∃ z : Str, vs = [.str z] ∧ z.cps.size < 64 ∧
  ∀ (ys : List Str) (p : Addr), ys.Perm (z.cps.toList.map fun c => ⟨#[c]⟩) → sortedS ys = true → H p = none → Q (.ref p) (upd H p (.lst (ys.map V.str)))
theorem cr_sortedText (hc : X.calm = true) : CallR X (.builtin "sorted") rSortText := by
  intro pins s σ H vs us Q I r h
  obtain ⟨z, rfl, h64, q⟩ := h
  obtain ⟨u, rfl, ru⟩ := vals1 r
  obtain ⟨t, rfl⟩ := ru
  refine Calls.call_function_entry PyProof.Rows.kind_sorted PyProof.Rows.plain_sorted PyProof.Rows.entry_sorted (PyProof.Rows.args_sorted1 _) ?_
  unfold Builtin.«sorted»
  refine wpAny_bind (m := checkCount "sorted" 1 1 _) (wpAny_pure ?_)
  refine wpAny_bind (wpAny_collect_str (A := X.A.in1) (I.ok.hd hc) z t (fun s' acc hk hg hd ho hacc => ?_) (by rw [sizeLine_eq]; omega))
  have hal : acc.toList.length = z.cps.size := by rw [Array.length_toList, hacc.1]
  have hS : StrsAre acc.toList (z.cps.toList.map fun c => (⟨#[c]⟩ : Str)) := strs_at (by rw [hal]; simp) fun j v e => by
    obtain ⟨c, u, hc', ev⟩ := hacc.2 j v (by rw [← Array.getElem?_toList]; exact e)
    refine ⟨⟨#[c]⟩, u, ?_, ev⟩
    rw [List.getElem?_map, Array.getElem?_toList, hc']
    rfl
  obtain ⟨hp', g', d', tk, os'⟩ := s'
  have e1 : g' = s.gens := hg
  have e2 : d' = s.drawn := hd
  have e3 : os' = s.os := ho
  subst e1 e2 e3
  have I1 : Inv X pins σ H { s with heap := hp', toks := tk } := I.kept hk
  refine wpAny_bind (wpAny_newList ?_ (by rw [hal, sizeLine_eq]; omega))
  have hoL : (hp'.push (seqObj "list" acc.toList.toArray 0)).get? hp'.objs.size = some (seqObj "list" acc.toList.toArray 0) := Heap.get?_push_size _ rfl
  show wpAny _ _ _ _ _ { s with heap := hp'.push (seqObj "list" acc.toList.toArray 0), toks := tk }
  refine wpAny_bind (wpAny_holding (wpAny_call_entry PyProof.Rows.slot_list_sort ⟨_, hoL, rfl⟩ PyProof.Rows.entry_list_sort
    (list_sort_treeK strKind_oneLt (s := { s with heap := hp'.push (seqObj "list" acc.toList.toArray 0), toks := tk }) hoL hS.keysOf (fun v₁ v₂ rest e => keyKind_strs (by rw [← e]; exact hS)) (by rw [hal]; exact h64) fun st' hp hs => ⟨_, rfl, ?_⟩)
    (PyProof.Rows.args_list_sort _)))
  obtain ⟨ys, g1, g2, g3⟩ := sorted_out_str hS hp hs
  obtain ⟨e', he'⟩ := PyProof.Rows.sortedHeap_at (vs := acc.toList) (out := (arrOf st').map (·.2)) hoL
  have hlen : (ys.map V.str).length ≤ sizeLine := by
    rw [List.length_map, g2.length_eq, List.length_map, Array.length_toList, sizeLine_eq]
    omega
  refine wpAny_pure ⟨_, rfl, .ref hp'.objs.size, upd H hp'.objs.size (.lst (ys.map V.str)), I1.laid (t' := tk) (fun b u e => ?_) (Nat.le_refl _)
    (show ObjOk X.prog X.w _ _ _ (.lst (ys.map V.str)) from ⟨hlen, ((arrOf st').map (·.2)).toList, e', vals_of_strs g1, by rw [Array.toArray_toList]; exact he'⟩), rfl, q ys _ g2 g3 (I1.hok.fresh (Nat.le_refl _))⟩
  have hb : b < hp'.objs.size := Heap.lt_size e
  rw [PyProof.Rows.sortedHeap_old (Nat.ne_of_lt hb) (by rw [size_push']; exact Nat.lt_succ_of_lt hb)]
  exact Heap.get?_push_of_some _ e
/-- sorted(d), d's keys pairs of texts: a new list of the same tuples, in some order -/
def pK (q : Str × Str) : L2.Key → Prop := fun _ => True
def rSortDT (K : PySem.W.Frag) : List V → Hp → VK → Prop := fun vs H Q => ∃ (d : Addr) (kvs : List (List L2.Key × V)) (ab : List (Str × Str)), vs = [V.ref d] ∧ H d = some (.dT kvs) ∧ kvs.map (·.1) = ab.map (fun q => [Sum.inr q.1, Sum.inr q.2]) ∧
  ∀ (ys : List V) (ls : List NK) (p : Addr), H p = none → ls.Perm (ab.map fun q => NestedKey.tup [.text q.1, .text q.2]) → ys.length = ls.length → TpAll K H ys ls → Q (.ref p) (upd H p (.lst ys))
theorem keys_tp {K : PySem.W.Frag} {H : Hp} : ∀ {kvs : List (List L2.Key × V)} {bs : List Addr} {ab : List (Str × Str)}, IsKeys H kvs bs → kvs.map (·.1) = ab.map (fun q => [Sum.inr q.1, Sum.inr q.2]) →
    TpAll K H (bs.map V.ref) (ab.map fun q => NestedKey.tup [.text q.1, .text q.2])
  | _, _, [], .nil, _ => .nil
  | _, _, _ :: _, .nil, e => by simp at e
  | _, _, [], .cons _ _, e => by simp at e
  | _, _, q :: ab, .cons h t, e => by
    rw [List.map_cons, List.map_cons] at e
    obtain ⟨e1, e2⟩ := List.cons.inj e
    rw [List.map_cons, List.map_cons]
    refine .cons (.tup (.inl (.inl ?_)) (xs := [.str q.1, .str q.2]) (by simp) (.cons (.str _) (.cons (.str _) .nil))) (keys_tp t e2)
    rw [h, e1]
    rfl
theorem cr_sortedDT (hc : X.calm = true) (hu : X.A.units + 65 < cLine) : CallR X (.builtin "sorted") (rSortDT X.K) := by
  intro pins s σ H vs us Q I r h
  obtain ⟨d, kvs, ab, rfl, hd, hk, q⟩ := h
  obtain ⟨u, rfl, rx⟩ := r.one
  cases rx
  obtain ⟨z, hs, ks, pr, o, es, ep, ho, hx, hdt, he, hn⟩ := (show ObjOk X.prog X.w H s.heap d (.dT kvs) from I.hok d _ hd)
  have l1 : es.size = ks.length := size_of_entries he
  have l2 : kvs.length = ks.length := Paired.length pr
  refine Calls.call_function_entry PyProof.Rows.kind_sorted PyProof.Rows.plain_sorted PyProof.Rows.entry_sorted (PyProof.Rows.args_sorted1 _) ?_
  unfold Builtin.«sorted»
  refine wpAny_bind (m := checkCount "sorted" 1 1 _) (wpAny_pure ?_)
  refine wpAny_bind (PySem.W.kdu_collect (A := X.A.in1) (kdl_raw hs hx hdt) (I.ok.hd hc) ho (by omega) fun h' tk acc' kp it => ?_)
  have ea : acc'.toList = ks.map fun x => Value.ref x.2.1 := by
    have hl : acc'.toList.length = ks.length := by rw [Array.length_toList, it.1]; exact l1
    apply List.ext_getElem?
    intro j
    rw [List.getElem?_map]
    cases hj : acc'.toList[j]? with
    | none =>
      have h1 := List.getElem?_eq_none_iff.mp hj
      rw [List.getElem?_eq_none (by omega)]
      all_goals rfl
    | some v =>
      obtain ⟨en, hen, hv⟩ := it.2 j v (by rw [← Array.getElem?_toList]; exact hj)
      have qe := entry_at he j
      rw [hen] at qe
      cases hb : ks[j]? with
      | none =>
        rw [hb] at qe
        exact nomatch (show some en = none from qe)
      | some b =>
        rw [hb] at qe
        have e2 : en = entryOfKey (tupleKind (mixKind X.prog X.w)) b := Option.some.inj qe
        rw [hv, e2]
        all_goals rfl
  have eb : acc'.toList = (ks.map fun x => x.2.1).map Value.ref := by rw [ea, List.map_map]; all_goals rfl
  have rv : Vals ((ks.map fun x => x.2.1).map V.ref) acc'.toList := by rw [eb]; exact vals_refs _
  have I1 : Inv X pins σ H { s with heap := h', toks := tk } := I.kept kp
  have tp := keys_tp (K := X.K) (isKeys_of pr) hk
  have hal : acc'.toList.length = ks.length := by rw [ea, List.length_map]
  refine wpAny_bind (wpAny_newList ?_ (by omega))
  have hoL : (h'.push (seqObj "list" acc'.toList.toArray 0)).get? h'.objs.size = some (seqObj "list" acc'.toList.toArray 0) := Heap.get?_push_size _ rfl
  show wpAny _ _ _ _ _ { s with heap := h'.push (seqObj "list" acc'.toList.toArray 0), toks := tk }
  have I2 : Inv X pins σ H { s with heap := h'.push (seqObj "list" acc'.toList.toArray 0), toks := tk } := I1.kept (t' := tk) fun b o e => Heap.get?_push_of_some _ e
  have sk : SortK (ab.map fun q => NestedKey.tup [.text q.1, .text q.2]) := .inl fun k hk => by
    obtain ⟨q, _, rfl⟩ := List.mem_map.mp hk
    exact ⟨_, _, rfl⟩
  obtain ⟨h1, h2, h3⟩ := sk.al
  generalize hxs : (ks.map fun x => x.2.1).map V.ref = xs at *
  generalize hks : (ab.map fun q => NestedKey.tup [.text q.1, .text q.2]) = kk at *
  obtain ⟨z1, z2⟩ := zip_fst tp
  have e0 := each_sb tp rv
  have lx : (xs.zip kk).length = xs.length := by
    have := congrArg List.length z1
    simpa using this
  have lxx : xs.length = ks.length := by rw [rv.length, hal]
  have mp : (xs.zip kk).map sEnc = kk.map nkD := by
    rw [show kk.map nkD = ((xs.zip kk).map (·.2)).map nkD by rw [z2], List.map_map]
    rfl
  refine wpAny_bind (wpAny_holding (PySem.W.list_sort_data (s := { s with heap := h'.push (seqObj "list" acc'.toList.toArray 0), toks := tk }) (enc := sEnc) (bs := xs.zip kk) hoL e0 (e0.mono fun v b hb => ⟨[], Tp.rds I2 hb.2 hb.1, by simp⟩) (by rw [mp]; exact h1) (by rw [mp]; exact h2) (by omega) (fun b hb => ?_) fun out lo e1 => ?_))
  · have hk : b.2 ∈ kk := by
      rw [← z2]
      exact List.mem_map.mpr ⟨b, hb, rfl⟩
    have := h3 _ hk
    show X.A.in1.units + 1 + (nkD b.2).depth < cLine
    have : X.A.in1.units = X.A.units + 1 := rfl
    omega
  · obtain ⟨e', he'⟩ := PyProof.Rows.sortedHeap_at (vs := acc'.toList) (out := out.toArray) hoL
    obtain ⟨v1, v2⟩ := each_vals e1
    have pm : ((xs.zip kk).mergeSort (PySem.W.dataLe false sEnc)).Perm (xs.zip kk) := List.mergeSort_perm ..
    have hlen : (((xs.zip kk).mergeSort (PySem.W.dataLe false sEnc)).map (·.1)).length ≤ sizeLine := by
      rw [List.length_map, pm.length_eq, lx]
      omega
    refine wpAny_pure ⟨_, rfl, .ref h'.objs.size, upd H h'.objs.size (.lst _), I1.laid (t' := tk) (fun b u e => ?_) (Nat.le_refl _)
      (show ObjOk X.prog X.w _ _ _ (.lst _) from ⟨hlen, out, e', v1, he'⟩), rfl, q _ _ _ (I1.hok.fresh (Nat.le_refl _)) ?_ (by simp) v2⟩
    · have hb : b < h'.objs.size := Heap.lt_size e
      rw [PyProof.Rows.sortedHeap_old (Nat.ne_of_lt hb) (by rw [size_push']; exact Nat.lt_succ_of_lt hb)]
      exact Heap.get?_push_of_some _ e
    · have := pm.map (·.2)
      rw [z2] at this
      exact this
end

/-! ### dicts whose keys are nested tuples -/
/-- all tuples are as they were -/
def Kt (K : PySem.W.Frag) (H H' : Hp) : Prop := ∀ a xs, SqT K H a xs → SqT K H' a xs
mutual
theorem Tp.kt {K : PySem.W.Frag} {H H' : Hp} : ∀ {v : V} {k : NK}, Tp K H v k → Kt K H H' → Tp K H' v k
  | _, _, .non, _ => .non
  | _, _, .int i, _ => .int i
  | _, _, .str x, _ => .str x
  | _, _, .tup h l a, s => .tup (s _ _ h) l (TpAll.kt a s)
theorem TpAll.kt {K : PySem.W.Frag} {H H' : Hp} : ∀ {vs : List V} {ks : List NK}, TpAll K H vs ks → Kt K H H' → TpAll K H' vs ks
  | _, _, .nil, _ => .nil
  | _, _, .cons h a, s => .cons (Tp.kt h s) (TpAll.kt a s)
end
theorem sb_tup {K : PySem.W.Frag} {H H' : Hp} {d : Addr} {φ : Heap → Prop} (s : Sb d H H') (e : H d = some (.ext φ)) : Kt K H H' := fun a xs h => by
  rcases h with (h | ⟨o, h⟩) | h
  · exact .inl (.inl (s _ _ (fun z => by rw [z, e] at h; cases h) h))
  · exact .inl (.inr ⟨o, s _ _ (fun z => by rw [z, e] at h; cases h) h⟩)
  · exact .inr h
def JOf (P : Program) (w : World) (d : Addr) (xs : List (NK × Addr)) : Heap → Prop := fun h => xs.length ≤ sizeLine ∧ (d == sysModules) = false ∧ ∃ o es ep, h.get? d = some o ∧ o.ExactDict ∧ o.data = .dict es ep ∧
  es.toList = (xs.map fun x => (x.1, x.2, Value.bool true)).map (entryOfKey (nestedKind P w)) ∧ (xs.map (·.1)).Nodup
def JO (P : Program) (w : World) (d : Addr) (xs : List (NK × Addr)) : HO := .ext (JOf P w d xs)
theorem jo_ok {P : Program} {w : World} {H : Hp} {h : Heap} {d : Addr} {xs : List (NK × Addr)} (x : JOf P w d xs h) : ObjOk P w H h d (JO P w d xs) := by
  refine ⟨x, ?_, fun h1 h2 y k => ?_⟩
  · obtain ⟨_, _, o, _, _, e, _⟩ := x
    exact ⟨o, e⟩
  · obtain ⟨l, z, o, es, ep, e, r⟩ := y
    exact ⟨l, z, o, es, ep, k _ e, r⟩
theorem jo_at {P : Program} {w : World} {H : Hp} {h : Heap} {d : Addr} {xs : List (NK × Addr)} (ok : HOk P w H h) (e : H d = some (JO P w d xs)) : JOf P w d xs h := by
  have x : ObjOk P w H h d (.ext (JOf P w d xs)) := ok d _ e
  exact x.1
/-- a dict with these keys (each True) -/
structure JD (P : Program) (w : World) (K : PySem.W.Frag) (H : Hp) (d : Addr) (ks : List NK) : Prop where
  ex : ∃ xs : List (NK × Addr), H d = some (JO P w d xs) ∧ xs.map (·.1) = ks ∧ ∀ x ∈ xs, Tp K H (.ref x.2) x.1 ∧ x.1.depth ≤ 8
theorem JD.kp {P : Program} {w : World} {K : PySem.W.Frag} {H H' : Hp} {d : Addr} {ks : List NK} (x : JD P w K H d ks) (s : Kp H H') : JD P w K H' d ks := by
  obtain ⟨xs, e, m, a⟩ := x.ex
  exact ⟨xs, s _ _ (fun _ z => nomatch z) e, m, fun x hx => ⟨(a x hx).1.kp s, (a x hx).2⟩⟩
section
variable {X : Cx} {pins : List (Addr × Obj)} {σ : L2.St} {H : Hp} {s : Shared} {d : Addr} {ks : List NK}
theorem JD.dict (I : Inv X pins σ H s) (x : JD X.prog X.w X.K H d ks) : ∃ xs : List (NK × Addr), H d = some (JO X.prog X.w d xs) ∧ xs.map (·.1) = ks ∧ (d == sysModules) = false ∧ xs.length ≤ sizeLine ∧ s.heap.DictOfH (nestedKind X.prog X.w) d (xs.map fun x => (x.1, x.2, Value.bool true)) ∧
    ∀ x ∈ xs, Tp X.K H (.ref x.2) x.1 ∧ x.1.depth ≤ 8 := by
  obtain ⟨xs, e, m, a⟩ := x.ex
  obtain ⟨l, z, o, es, ep, e1, e2, e3, e4, e5⟩ := jo_at I.hok e
  refine ⟨xs, e, m, z, l, ⟨o, es, ep, e1, e2, e3, e4, fun y hy => ?_, ?_⟩, a⟩
  · obtain ⟨q, hq, rfl⟩ := List.mem_map.mp hy
    obtain ⟨a1, a2⟩ := a q hq
    exact ⟨Tp.raw I a1 rfl, a2⟩
  · rw [List.map_map]
    exact e5
theorem atKey_some {xs : List (NK × Addr)} {k : NK} : (atKey (xs.map fun x => (x.1, x.2, Value.bool true)) k).isSome = decide (k ∈ xs.map (·.1)) := by
  induction xs with
  | nil => rfl
  | cons x xs ih =>
    by_cases e : x.1 = k
    · subst e
      simp [atKey]
    · have e' : ¬ k = x.1 := fun z => e z.symm
      rw [List.map_cons, List.map_cons]
      have : (atKey ((x.1, x.2, Value.bool true) :: xs.map fun x => (x.1, x.2, Value.bool true)) k) = atKey (xs.map fun x => (x.1, x.2, Value.bool true)) k := by
        unfold atKey
        rw [List.find?_cons_of_neg (by simpa using e)]
      rw [this, ih]
      simp [e']
end
/-- y in d -/
def tJIn (P : Program) (w : World) (K : PySem.W.Frag) (ty td : TE) : TE := fun σ H Q => ty σ H fun y H1 => td σ H1 fun x H2 => ∃ a ks k, x = .ref a ∧ JD P w K H2 a ks ∧ Tp K H2 y k ∧ (∃ l, k = .tup l) ∧ k.depth ≤ 8 ∧ Q (.bl (decide (k ∈ ks))) H2
def tJNotIn (P : Program) (w : World) (K : PySem.W.Frag) (ty td : TE) : TE := fun σ H Q => ty σ H fun y H1 => td σ H1 fun x H2 => ∃ a ks k, x = .ref a ∧ JD P w K H2 a ks ∧ Tp K H2 y k ∧ (∃ l, k = .tup l) ∧ k.depth ≤ 8 ∧ Q (.bl (!decide (k ∈ ks))) H2
def sJPut (P : Program) (w : World) (K : PySem.W.Frag) (td ty : TE) : TS := fun D σ H => td σ H fun x H1 => ty σ H1 fun y H2 => ∃ a ks k, x = .ref a ∧ JD P w K H2 a ks ∧ Tp K H2 y k ∧ (∃ l, k = .tup l) ∧ k.depth ≤ 8 ∧ k ∉ ks ∧ ks.length ≤ 2000 ∧
  ∀ H3, (∀ b o, b ≠ a → H2 b = some o → H3 b = some o) → JD P w K H3 a (ks ++ [k]) → D.nx σ H3
def tJNew (P : Program) (w : World) (K : PySem.W.Frag) : TE := fun _ H Q => ∀ p H2, H p = none → Same H H2 → JD P w K H2 p [] → Q (.ref p) H2
section
variable {X : Cx} {o i : Expr} {pos pos' tpos : Pos} {td ty : TE}
theorem pc_jin (hu : X.A.units + 65 < cLine) (hi : PE X i ty) (ho : PE X o td) : PC X .In i o (tJIn X.prog X.w X.K ty td) := by
  refine ⟨fun pins s σ H Q I h => ?_⟩
  refine thn (hi.run pins s σ H _ I h) fun iv s1 ⟨y, H1, I1, ry, q1⟩ => thn (ho.run pins s1 σ H1 _ I1 q1) fun u s2 ⟨x, H2, I2, rx, a, ks, k, ex, jd, tk, ⟨l, el⟩, dk, q2⟩ => ?_
  subst ex
  obtain rfl : u = Value.ref a := rx
  subst el
  obtain ⟨b, xs0, rfl, hs0, _, _⟩ := tk.tup_inv
  obtain rfl : iv = Value.ref b := ry
  obtain ⟨xs, e, m, z, hl, dd, _⟩ := jd.dict I2
  refine wpAny_in_heap (knd := nestedKind X.prog X.w) (by show X.A.in1.units + 8 < cLine; have : X.A.in1.units = X.A.units + 1 := rfl; omega) ⟨Tp.raw I2 tk rfl, dk⟩ z dd ⟨_, H2, I2.tok _, ?_, q2⟩
  rw [atKey_some, m]
  rfl
theorem pc_jnotin (hu : X.A.units + 65 < cLine) (hi : PE X i ty) (ho : PE X o td) : PC X .NotIn i o (tJNotIn X.prog X.w X.K ty td) := by
  refine ⟨fun pins s σ H Q I h => ?_⟩
  refine thn (hi.run pins s σ H _ I h) fun iv s1 ⟨y, H1, I1, ry, q1⟩ => thn (ho.run pins s1 σ H1 _ I1 q1) fun u s2 ⟨x, H2, I2, rx, a, ks, k, ex, jd, tk, ⟨l, el⟩, dk, q2⟩ => ?_
  subst ex
  obtain rfl : u = Value.ref a := rx
  subst el
  obtain ⟨b, xs0, rfl, hs0, _, _⟩ := tk.tup_inv
  obtain rfl : iv = Value.ref b := ry
  obtain ⟨xs, e, m, z, hl, dd, _⟩ := jd.dict I2
  refine wpAny_notIn_heap (knd := nestedKind X.prog X.w) (by show X.A.in1.units + 8 < cLine; have : X.A.in1.units = X.A.units + 1 := rfl; omega) ⟨Tp.raw I2 tk rfl, dk⟩ z dd ⟨_, H2, I2.tok _, ?_, q2⟩
  rw [atKey_some, m]
  rfl
theorem ps_jput {j : Nat} {p2 pos : Pos} (hu : X.A.units + 65 < cLine) (ho : PE X o td) (hi : PE X i ty) (hs : swapsWith (.Constant (.bool true) j p2) (some (.Subscript o i pos')) pos.line X.env = pure false) :
    PS X (.Assign [.Subscript o i pos'] (.Constant (.bool true) j p2) pos) (sJPut X.prog X.w X.K td ty) := by
  refine ⟨fun pins s σ H D I h => ?_⟩
  refine wpAny_Assign_Subscript (thn (pe_bl.run pins s σ H (fun v H1 => v = .bl true ∧ H1 = H) I ⟨rfl, rfl⟩) fun r s1 ⟨v, H1, I1, rv, e1, e2⟩ => ?_) hs
  subst e1 e2
  refine thn (ho.run pins s1 σ H1 _ I1 h) fun u s2 ⟨x, H2, I2, rx, q2⟩ => thn (hi.run pins s2 σ H2 _ I2 q2) fun iv s3 ⟨y, H3, I3, ry, a, ks, k, ex, jd, tk, ⟨l, el⟩, dk, nk, lk, q3⟩ => ?_
  subst ex
  obtain rfl : u = Value.ref a := rx
  obtain rfl : r = Value.bool true := rv
  subst el
  have tk' := tk
  obtain ⟨b, xs0, rfl, hs0, _, _⟩ := tk.tup_inv
  obtain rfl : iv = Value.ref b := ry
  obtain ⟨xs, e, m, z, hl, dd, ha⟩ := jd.dict I3
  have lx : xs.length = ks.length := by rw [← m, List.length_map]
  have na : atKey (xs.map fun x => (x.1, x.2, Value.bool true)) (.tup l) = none := by
    have := atKey_some (xs := xs) (k := .tup l)
    rw [m, decide_eq_false nk] at this
    simpa using this
  refine wpAny_setItem_heap (knd := nestedKind X.prog X.w) (hsz := by rw [List.length_map]; exact hl) (by show X.A.in1.units + 8 < cLine; have : X.A.in1.units = X.A.units + 1 := rfl; omega) ⟨Tp.raw I3 tk' rfl, dk⟩ dd fun h' dd' hs => ?_
  rw [storedH_new na] at dd'
  obtain ⟨q, es, ep, hq, h2, h3, h4, h4b, h5⟩ := dd'
  have jo : JOf X.prog X.w a (xs ++ [(.tup l, b)]) h' := by
    refine ⟨?_, z, q, es, ep, hq, h2, h3, ?_, ?_⟩
    · rw [List.length_append, List.length_singleton, lx]
      have : (2001 : Nat) ≤ sizeLine := by decide
      omega
    · rw [h4]
      simp
    · rw [List.map_append, List.map_map] at h5
      rw [List.map_append]
      exact h5
  have I4 : Inv X pins σ (upd H3 a (JO X.prog X.w a (xs ++ [(.tup l, b)]))) { s3 with heap := h', toks := s3.toks + (nestedKind X.prog X.w).draws (.tup l) } := d_write I3 (by rw [e]; exact True.intro) hs ⟨q, hq⟩ (jo_ok jo)
  have tn : ∀ {v : V} {k : NK}, Tp X.K H3 v k → Tp X.K (upd H3 a (JO X.prog X.w a (xs ++ [(.tup l, b)]))) v k := fun {v k} ht => ht.kt (sb_tup sb_upd e)
  refine ⟨σ, _, I4, q3 _ (fun c o hc ho => by rw [upd_ne hc]; exact ho) ⟨_, upd_same, by rw [List.map_append, m]; rfl, fun x hx => ?_⟩⟩
  rcases List.mem_append.mp hx with hx | hx
  · exact ⟨tn (ha x hx).1, (ha x hx).2⟩
  · rw [List.mem_singleton.mp hx]
    exact ⟨tn tk', dk⟩
theorem pe_jnew : PE X (.Dict [] [] pos) (tJNew X.prog X.w X.K) := ⟨fun pins s σ H Q I h =>
  wpAny_Dict_empty ⟨.ref s.heap.objs.size, _, I.laid (a := s.heap.objs.size) (o := JO X.prog X.w s.heap.objs.size []) (t' := s.toks) (fun _ _ q => Heap.get?_push_of_some _ q) (Nat.le_refl _) (jo_ok ⟨Nat.zero_le _, beq_eq_false_iff_ne.mpr (Ne.symm (Nat.ne_of_lt I.big)), _, #[], 0, Heap.get?_push_size _ rfl, ⟨rfl, rfl, rfl⟩, rfl, rfl, List.nodup_nil⟩), rfl,
    h _ _ (I.hok.fresh (Nat.le_refl _)) (same_upd (I.hok.fresh (Nat.le_refl _))) ⟨[], upd_same, rfl, fun _ h => nomatch h⟩⟩⟩
end
/-! ### tuples that are known to the object: their methods -/
def PlT (o : Obj) : Prop := o.cls = .type "tuple" ∧ o.dict = none
def PlTup (H : Hp) (v : V) : Prop := ∃ a o xs, v = .ref a ∧ H a = some (.frz o (.tup xs)) ∧ PlT o
theorem PlTup.kp {H H' : Hp} {v : V} (h : PlTup H v) (s : Kp H H') : PlTup H' v := by
  obtain ⟨a, o, xs, e, h1, h2⟩ := h
  exact ⟨a, o, xs, e, s _ _ (fun _ z => nomatch z) h1, h2⟩
theorem PlTup.sb {H H' : Hp} {v : V} {x C dx : Addr} {fs : List (Str × V)} (h : PlTup H v) (s : Sb x H H') (e : H x = some (.ins C dx fs)) : PlTup H' v := by
  obtain ⟨a, o, xs, ev, h1, h2⟩ := h
  exact ⟨a, o, xs, ev, s _ _ (fun z => by rw [z, e] at h1; cases h1) h1, h2⟩
section
variable {X : Cx}
def rTupF (K : PySem.W.Frag) : List V → Hp → VK → Prop := fun vs H Q => ∃ p ys, vs = [.ref p] ∧ SqL K H p ys ∧ ∀ l H2, Same H H2 → SqT K H2 l ys → PlTup H2 (.ref l) → Q (.ref l) H2
theorem call_tupF : CallR X (.type "tuple") (rTupF X.K) := by
  intro pins s σ H xs us Q I r h
  obtain ⟨p, ys, rfl, hq, q⟩ := h
  obtain ⟨u, rfl, rx⟩ := vals1 r
  cases rx
  obtain ⟨its, r', pl, hz⟩ := I.list hq
  have hlen := r'.length
  refine call_tuple_list pl.isList (fun h' kp => ?_) (by simp only [List.size_toArray] <;> omega)
  have I1 : Inv X pins σ H { s with heap := h' } := I.kept (t' := s.toks) kp
  have I2 : Inv X pins σ (upd H h'.objs.size (.frz { cls := .type "tuple", data := .seq its.toArray } (.tup ys))) { s with heap := h'.push { cls := .type "tuple", data := .seq its.toArray } } :=
    I1.laid (t' := s.toks) (fun b o e => Heap.get?_push_of_some _ e) (Nat.le_refl _) (show ObjOk X.prog X.w _ _ _ (.frz _ (.tup ys)) from ⟨Heap.get?_push_size _ rfl, hz, its, r', IsTup.new _ _⟩)
  exact ⟨.ref h'.objs.size, _, I2, rfl, q _ _ (same_upd (I1.hok.fresh (Nat.le_refl _))) (.inl (.inr ⟨_, upd_same⟩)) ⟨_, _, _, rfl, upd_same, rfl, rfl⟩⟩
def tBMT (r : V → List V → Hp → VK → Prop) (to : TE) (t : TA) : TE := fun σ H Q => to σ H fun x H1 => PlTup H1 x ∧ t σ H1 fun xs H2 => r x xs H2 Q
variable {o e : Expr} {es : List Expr} {to : TE} {t : TA} {name : Str} {apos cpos : Pos} {id : String} {r : V → List V → Hp → VK → Prop}
theorem pe_bmT (pa : PlainAttrs "tuple") (slot : Slot "tuple" name id) (hty : typeOf (.builtin id) = pure (.type "method_descriptor")) (hm : MtR X id r) (ho : PE X o to) (ha : PA X (e :: es) t)
    (hbase : attributeBase o name X.env (eval o X.env) = eval o X.env := by rfl)
    (hfew : ((backTo cpos (starEach (e :: es) X.env)).all (fun x => !x.1) && (backToKw cpos (keywordEach [] X.env)).all (fun x => x.1.isSome)
      && decide ((e :: es).length + ([] : List Keyword).length + (if ([] : List Keyword).isEmpty then 0 else 1) < 30)) = true := by rfl)
    (hline : (apos.endLine == cpos.line) = true := by rfl) (hs : starEach (e :: es) X.env = (false, eval e X.env) :: starEach es X.env := by rfl) (hplain : (backTo cpos (starEach es X.env)).any (·.1) = false := by rfl) :
    PE X (.Call (.Attribute o name apos) (e :: es) [] cpos) (tBMT r to t) := by
  refine ⟨fun pins s σ H Q I h => ?_⟩
  refine wpAny_Call_method_late hbase hfew hline rfl (thn (ho.run pins s σ H _ I h) fun v s1 ⟨x, H1, I1, r1, ⟨a, ob, xs0, ex, hob, hcl, hdi⟩, q1⟩ => ?_)
  subst ex
  obtain rfl : v = .ref a := r1
  obtain ⟨hg, _⟩ := (show ObjOk X.prog X.w H1 s1.heap a (.frz ob (.tup xs0)) from I1.hok a _ hob)
  refine ⟨"tuple", id, pa, slot, hty, ⟨ob, hg, hcl⟩, (fun b eb => by cases eb; exact ⟨ob, hg, hdi⟩), ?_⟩
  have hA := ha.run cpos pins s1 σ H1 _ I1 q1
  rw [hs] at hA ⊢
  refine Calls.callWith_builtin (by show (false || (backTo cpos (starEach es X.env)).any (·.1)) = false; rw [hplain] <;> rfl) (Calls.evalArgs_plain ?_)
  exact thn hA fun us s2 ⟨vs, H2, I2, r2, q2⟩ => hm pins s2 σ H2 (.ref a) vs (.ref a) us Q I2 rfl r2 q2
end
end TH
end
section
set_option Elab.async false
set_option linter.all false
set_option maxRecDepth 100000
set_option maxHeartbeats 4000000
namespace TH
open PySem PySem.Spec PyProof.Rows L2
section
variable {P : Program} {w : World} {K : PySem.W.Frag} {mg : Str → Option Value} {base : Heap}
/-! plain.py -/
def spIsInteger : Sp := fun vs H Q _ => ∃ i lo hi : Int, vs = [.int i, .int lo, .int hi] ∧ Q (.bl (decide (lo ≤ i ∧ i ≤ hi))) H
theorem p_is_integer (T : Tx K mg) : Pr P w K mg base CX0 1 ["thing", "low", "high"] [] (He.ga K "is_integer") spIsInteger := by
  refine T.d_is_integer.pr scs_is_integer (fun vs H Q E h => ?_) (fun cdv A outer s H vs Q E hr h => ?_)
  · obtain ⟨i, lo, hi, rfl, _⟩ := h
    rfl
  · obtain ⟨i, lo, hi, rfl, q⟩ := h
    refine ⟨_, (pss_one (ps_ret (pe_and (pe_callB call_isiS (by rfl) T.z_isinstance (by decide +kernel) (pa_cons (pv 0) (pa_cons (pe_bltn (v := .ty "int") (by rfl) T.z_int (by decide +kernel : bootBuiltins "int" = some (.type "int")) rfl) pa_nil))) (pe_and (pe_not (pe_callB call_isiS (by rfl) T.z_isinstance (by decide +kernel) (pa_cons (pv 0) (pa_cons (pe_bltn (v := .ty "bool") (by rfl) T.z_bool (by decide +kernel : bootBuiltins "bool" = some (.type "bool")) rfl) pa_nil)))) (pe_one (pe_chain op_le op_le (pv 1) (pv 0) (pv 2))))))), ?_⟩
    refine ⟨.int i, rfl, _, _, "int", true, rfl, .base (.int i), by decide +kernel, true, rfl, iteT ?_⟩
    refine ⟨.int i, rfl, _, _, "int", false, rfl, .base (.int i), by decide +kernel, false, rfl, true, rfl, iteT ?_⟩
    refine ⟨.int lo, rfl, .int i, rfl, lo, i, rfl, rfl, _, rfl, ite2 (fun e => ?_) (fun e => ?_)⟩
    · refine ⟨.int hi, rfl, i, hi, rfl, rfl, ?_⟩
      have e1 := of_decide_eq_true e
      have : decide (i ≤ hi) = decide (lo ≤ i ∧ i ≤ hi) := by simp [e1]
      show Q (.bl (decide (i ≤ hi))) H
      rw [this]
      exact q
    · have e1 : ¬ (lo ≤ i) := fun z => e (decide_eq_true z)
      have : decide (lo ≤ i ∧ i ≤ hi) = false := by simp [e1]
      rw [this] at q
      exact q
/-- one capital letter -/
def spIsCapital : Sp := fun vs H Q _ => ∃ c : Nat, vs = [.str ⟨#[c]⟩] ∧ 65 ≤ c ∧ c ≤ 90 ∧ Q (.bl true) H
theorem lt_one (a b : Nat) : decide (([a] : List Nat) < [b]) = decide (a < b) := by
  by_cases h : a < b
  · rw [decide_eq_true h]
    exact decide_eq_true (List.Lex.rel h)
  · rw [decide_eq_false h]
    refine decide_eq_false fun z => ?_
    cases z with
    | rel z => exact h z
    | cons z => cases z
theorem p_is_capital (T : Tx K mg) : Pr P w K mg base CX0 1 ["thing"] [] (He.ga K "is_capital") spIsCapital := by
  refine T.d_is_capital.pr scs_is_capital (fun vs H Q E h => ?_) (fun cdv A outer s H vs Q E hr h => ?_)
  · obtain ⟨c, rfl, _⟩ := h
    rfl
  · obtain ⟨c, rfl, h1, h2, q⟩ := h
    refine ⟨_, (pss_one (ps_ret (pe_and (pe_callB call_isiS (by rfl) T.z_isinstance (by decide +kernel) (pa_cons (pv 0) (pa_cons (pe_bltn (v := .ty "str") (by rfl) T.z_str (by decide +kernel : bootBuiltins "str" = some (.type "str")) rfl) pa_nil))) (pe_and (pe_cmpR op_eq (pe_callB call_len_str (by rfl) T.z_len PySem.boot_len (pa_cons (pv 0) pa_nil)) pe_int (nomark _)) (pe_one (pe_chain op_le_str op_le_str pe_str (pv 0) pe_str)))))), ?_⟩
    refine ⟨_, rfl, _, _, "str", true, rfl, .base (.str _), by decide +kernel, true, rfl, iteT ?_⟩
    refine ⟨_, rfl, ⟨#[c]⟩, rfl, by show 1 ≤ sizeLine; decide, rfl, _, rfl, iteT ?_⟩
    refine ⟨_, rfl, "A", ⟨#[c]⟩, rfl, rfl, _, rfl, ?_⟩
    have e1 : decide (([c] : List Nat) < [65]) = false := by
      rw [lt_one]
      exact decide_eq_false (by omega)
    have e2 : decide (([90] : List Nat) < [c]) = false := by
      rw [lt_one]
      exact decide_eq_false (by omega)
    rw [show (Str.cps ⟨#[c]⟩).toList = [c] from rfl, show (Str.cps ("A" : Str)).toList = [65] from by decide +kernel, e1]
    refine iteT ?_
    refine ⟨⟨#[c]⟩, "Z", rfl, rfl, ?_⟩
    rw [show (Str.cps ⟨#[c]⟩).toList = [c] from rfl, show (Str.cps ("Z" : Str)).toList = [90] from by decide +kernel, e2]
    exact q

/-- signs that rise -/
def Rise : List Nat → Prop := List.Pairwise (· < ·)
def small (l : List Nat) : Prop := ∀ c ∈ l, 97 ≤ c ∧ c ≤ 122
def str (l : List Nat) : Str := ⟨l.toArray⟩
theorem str_tl (l : List Nat) : (str l).cps.toList = l := rfl
theorem str_len (l : List Nat) : (str l).length = l.length := by simp [str, Str.length]
theorem str_size (l : List Nat) : (str l).cps.size = l.length := by simp [str]
theorem str_at {l : List Nat} {i : Nat} {c : Nat} (h : (str l).cps[i]? = some c) : l[i]? = some c := by simpa [str] using h
theorem signs_str (l : List Nat) : signsV (str l) = l.map fun c => V.str ⟨#[c]⟩ := rfl
/-- an ascending text of one to four small letters -/
def spLot : Sp := fun vs H Q _ => ∃ l : List Nat, vs = [.str (str l)] ∧ small l ∧ Rise l ∧ l.length ≤ 4 ∧ ∀ H', Same H H' → Q (.bl true) H'
theorem all_true {n : Nat} : (List.replicate n true).all id = true := by
  induction n with
  | zero => rfl
  | succ n ih => rw [List.replicate_succ, List.all_cons, ih]; rfl
theorem cutL1 {α : Type} (l : List α) (n : Nat) (hn : n = l.length) : (l.drop (HT.sIx n 0 (some 1))).take (HT.sIx n n none - HT.sIx n 0 (some 1)) = l.drop 1 := by
  subst hn
  rw [show HT.sIx l.length 0 (some 1) = min 1 l.length from HT.sIx_nat l.length 0 1, HT.sIx_none]
  cases l with
  | nil => rfl
  | cons x r =>
    rw [show min 1 (x :: r).length = 1 by
      rw [List.length_cons]
      omega]
    show (List.take ((x :: r).length - 1) r) = r
    rw [List.length_cons, Nat.add_sub_cancel]
    exact List.take_length
theorem cut1 (l : List Nat) : cutS (str l) (some 1) none = str (l.drop 1) := by
  unfold cutS
  rw [str_tl, str_len, cutL1 l l.length rfl]
  rfl
theorem cutV1 (xs : List V) : cutV xs (some 1) none = xs.drop 1 := cutL1 xs xs.length rfl
theorem rep_bl (n : Nat) : (List.replicate n (V.bl true)) = (List.replicate n true).map V.bl := by simp
theorem p_is_lot (T : Tx K mg) : Pr P w K mg base CX0 1 ["thing"] [] (He.ga K "is_lot") spLot := by
  refine T.d_is_lot.pr scs_is_lot (fun vs H Q E h => ?_) (fun cdv A outer s H vs Q E hr h => ?_)
  · obtain ⟨l, rfl, _⟩ := h
    rfl
  · obtain ⟨l, rfl, hs, hi, hl, q⟩ := h
    refine ⟨_, (pss_cons (ps_if (pw_or (pt_not (pt_val (pe_callB call_isiS (by rfl) T.z_isinstance (by decide +kernel) (pa_cons (pv 0) (pa_cons (pe_bltn (v := .ty "str") (by rfl) T.z_str (by decide +kernel : bootBuiltins "str" = some (.type "str")) rfl) pa_nil))))) (pw_or1 (pt_not (pt_val (pe_callB (cr_all rfl) (by rfl) T.z_all (by decide +kernel) (pa_cons (pe_lc (own := [("letter", 1)]) rfl scs_is_lot.nd (pi_str (pv 0)) (blkOk_by (N := ["thing", "letter", "one", "two"]) (sc := defScope s_is_lot) (by decide +kernel)) (fun _ _ _ _ _ => (pg_name (i := 1) scs_is_lot.nd rfl (.inl rfl) (.inr rfl))) (fun _ _ _ _ _ => pts_nil) (fun _ _ _ _ _ => (pe_chain op_le_str op_le_str pe_str (pv 1) pe_str))) pa_nil)))))).pt
      (pss_one (ps_ret pe_bl))
      pss_nil)
    (pss_one (ps_ret (pe_callB (cr_all rfl) (by rfl) T.z_all (by decide +kernel) (pa_cons (pe_lc (own := [("one", 2), ("two", 3)]) rfl scs_is_lot.nd (pi_z2 (by rfl) T.z_zip (pa_cons (pv 0) (pa_cons (pe_slice sl_str (pv 0) (po_some pe_int) po_none) pa_nil))) (blkOk_by (N := ["thing", "letter", "one", "two"]) (sc := defScope s_is_lot) (by decide +kernel)) (fun _ _ _ _ _ => (pg_tupK (K := K) rfl (n := 2) rfl (pgs_cons (pg_name (i := 2) scs_is_lot.nd rfl (.inl rfl) (.inr rfl)) (pgs_cons (pg_name (i := 3) scs_is_lot.nd rfl (.inl rfl) (.inr rfl)) pgs_nil)) rfl rfl)) (fun _ _ _ _ _ => pts_nil) (fun _ _ _ _ _ => (pe_cmpR op_lt_str (pv 2) (pv 3) (nomark _)))) pa_nil))))), ?_⟩
    refine ⟨_, rfl, _, _, "str", true, rfl, .base (.str _), by decide +kernel, true, rfl, iteF ?_⟩
    refine ⟨.str (str l), rfl, str l, rfl, ?_⟩
    refine fun D hD => lc_map (walk_str (z := str l)) hD (by rw [str_size]; omega) (fun _ _ => trivial) (fun i acc _ => acc = List.replicate i (.bl true)) (fun _ _ _ _ _ h => h) rfl (fun i x H1 H2 acc k ks hi1 s1 a1 l1 y hk _ => ?_) fun H1 acc s1 eD lD aD => ?_
    · obtain ⟨rfl, c, hc, rfl⟩ := y
      have hm := List.mem_of_getElem? (str_at hc)
      obtain ⟨c1, c2⟩ := hs c hm
      refine ⟨rfl, yes_if ?_⟩
      refine ⟨_, rfl, "a", ⟨#[c]⟩, rfl, rfl, _, rfl, ?_⟩
      have e1 : decide (([c] : List Nat) < [97]) = false := by
        rw [lt_one]
        exact decide_eq_false (by omega)
      have e2 : decide (([122] : List Nat) < [c]) = false := by
        rw [lt_one]
        exact decide_eq_false (by omega)
      rw [show (Str.cps ⟨#[c]⟩).toList = [c] from rfl, show (Str.cps ("a" : Str)).toList = [97] from by decide +kernel, e1]
      refine iteT ⟨⟨#[c]⟩, "z", rfl, rfl, ?_⟩
      rw [show (Str.cps ⟨#[c]⟩).toList = [c] from rfl, show (Str.cps ("z" : Str)).toList = [122] from by decide +kernel, e2]
      refine hk _ _ (Same.refl _) ?_
      rw [a1, List.replicate_succ']
      rfl
    · refine ⟨D, List.replicate l.length true, rfl, ?_, ?_⟩
      · rw [← rep_bl, ← str_size, ← aD]
        exact .inl (.inl eD)
      · rw [all_true]
        refine ⟨true, rfl, iteF ?_⟩
        refine ⟨.str (str l), rfl, .str (str l), rfl, 1, rfl, str l, rfl, by rw [str_len]; exact sz2 (by omega), ?_⟩
        rw [cut1]
        refine ⟨.txt (str l), .txt (str (l.drop 1)), signsV (str l), signsV (str (l.drop 1)), rfl, rfl, rfl, ?_⟩
        have W := walk_z2 (K := K) (s1 := .txt (str l)) (s2 := .txt (str (l.drop 1))) (xs := signsV (str l)) (ys := signsV (str (l.drop 1))) (n := l.length - 1) (by simp [signs_str])
        refine fun D2 hD2 => lc_map W hD2 (by omega) (fun _ _ => ⟨rfl, rfl⟩) (fun i acc _ => acc = List.replicate i (.bl true)) (fun _ _ _ _ _ h => h) rfl (fun i x H2 H3 acc k ks hi1 s2 a2 l2 y hk _ => ?_) fun H2 acc s2 eD2 lD2 aD2 => ?_
        · obtain ⟨Tq, x1, x2, rfl, nT, s4, e4, g1, g2⟩ := y
          rw [signs_str, List.getElem?_map] at g1 g2
          obtain ⟨a, ha, rfl⟩ := Option.map_eq_some_iff.mp g1
          obtain ⟨b, hb, rfl⟩ := Option.map_eq_some_iff.mp g2
          rw [List.getElem?_drop] at hb
          have lt : a < b := by
            obtain ⟨i1, e1⟩ := List.getElem?_eq_some_iff.mp ha
            obtain ⟨i2, e2⟩ := List.getElem?_eq_some_iff.mp hb
            rw [← e1, ← e2]
            exact List.pairwise_iff_getElem.mp hi _ _ _ _ (by omega)
          refine ⟨Tq, _, rfl, .inl (.inl e4), rfl, _, _, rfl, _, _, rfl, rfl, rfl, yes_if ?_⟩
          refine ⟨_, rfl, _, rfl, ⟨#[a]⟩, ⟨#[b]⟩, rfl, rfl, ?_⟩
          rw [show (Str.cps ⟨#[a]⟩).toList = [a] from rfl, show (Str.cps ⟨#[b]⟩).toList = [b] from rfl, lt_one, decide_eq_true lt]
          refine hk _ _ s4 ?_
          rw [a2, List.replicate_succ']
        · refine ⟨D2, List.replicate (l.length - 1) true, rfl, ?_, ?_⟩
          · rw [← rep_bl, ← aD2]
            exact .inl (.inl eD2)
          · rw [all_true]
            exact q _ (s1.trans s2)
theorem p_is_words (T : Tx K mg) : Pr P w K mg base CX0 2 ["thing"] [] (He.ga K "is_words") (fun vs H Q _ => ∃ l : List Nat, vs = [.str (str l)] ∧ small l ∧ Rise l ∧ 1 ≤ l.length ∧ l.length ≤ 4 ∧ ∀ H', Same H H' → Q (.bl true) H') := by
  refine T.d_is_words.pr scs_is_words (fun vs H Q E h => ?_) (fun cdv A outer s H vs Q E hr h => ?_)
  · obtain ⟨l, rfl, _⟩ := h
    rfl
  · obtain ⟨l, rfl, hs, hi, h0, hl, q⟩ := h
    refine ⟨_, (pss_one (ps_ret (pe_and (pcall (p_is_lot T) (hr.mono (by decide)) (by rfl) T.g_is_lot pass0 (pa_cons (pv 0) pa_nil)) (pe_one (pe_chain op_le op_le pe_int (pe_callB call_len_str (by rfl) T.z_len PySem.boot_len (pa_cons (pv 0) pa_nil)) pe_int))))), ?_⟩
    refine ⟨_, rfl, l, rfl, hs, hi, hl, fun H1 s1 => ⟨true, rfl, iteT ?_⟩⟩
    refine ⟨.str (str l), rfl, str l, rfl, by rw [str_len]; exact sz2 (by omega), 1, (str l).length, rfl, rfl, _, rfl, ?_⟩
    rw [str_len, decide_eq_true (show (1 : Int) ≤ (l.length : Int) by omega)]
    refine iteT ⟨(l.length : Nat), 4, rfl, rfl, ?_⟩
    have e : decide (((l.length : Nat) : Int) ≤ 4) = true := decide_eq_true (by omega)
    show Q (.bl (decide (((l.length : Nat) : Int) ≤ 4))) H1
    rw [e]
    exact q _ s1

end
end TH
end
section
set_option Elab.async false
set_option linter.all false
set_option maxRecDepth 100000
set_option maxHeartbeats 4000000
namespace TH
open PySem PySem.Spec PyProof.Rows L2
section
variable {P : Program} {w : World} {K : PySem.W.Frag} {mg : Str → Option Value} {base : Heap}
/-! plain.py, further -/
/-- a tuple of ints -/
def IsInts (K : PySem.W.Frag) (H : Hp) (v : V) (ns : List Int) : Prop := ∃ a, v = .ref a ∧ SqT K H a (ns.map V.int)
theorem IsInts.kp {H H' : Hp} {v : V} {ns : List Int} (h : IsInts K H v ns) (s : Kp H H') : IsInts K H' v ns := by
  obtain ⟨a, e, h⟩ := h
  exact ⟨a, e, s.tup h⟩
theorem Tp.isInts {H : Hp} {v : V} {ns : List Int} (h : Tp K H v (.tup (ns.map .num))) : IsInts K H v ns := by
  obtain ⟨a, xs, rfl, hs, hl, ha⟩ := h.tup_inv
  rw [ha.ints_inv] at hs
  exact ⟨a, rfl, hs⟩
theorem IsInts.tp {H : Hp} {v : V} {ns : List Int} (h : IsInts K H v ns) (hl : ns.length ≤ 2000) : Tp K H v (.tup (ns.map .num)) := by
  obtain ⟨a, rfl, h⟩ := h
  exact .tup h (by simpa using hl) (TpAll.ints ns)
/-- True for each -/
theorem len_bl {n : Nat} : (List.replicate n (V.bl true)).length = n := by simp
theorem acc_true {H : Hp} {D : Addr} {n : Nat} (h : H D = some (.lst (List.replicate n (V.bl true)))) : SqL K H D ((List.replicate n true).map V.bl) := by
  rw [← rep_bl]
  exact .inl (.inl h)
theorem p_is_rising (T : Tx K mg) : Pr P w K mg base CX0 2 ["thing", "low", "high"] [] (He.ga K "is_rising")
    (fun vs H Q _ => ∃ (a : Addr) (ns : List Int) (lo hi : Int), vs = [.ref a, .int lo, .int hi] ∧ SqT K H a (ns.map V.int) ∧ ns.length ≤ 2000 ∧ (∀ n ∈ ns, lo ≤ n ∧ n ≤ hi) ∧ ns.Pairwise (· < ·) ∧ ∀ H', Same H H' → Q (.bl true) H') := by
  refine T.d_is_rising.pr scs_is_rising (fun vs H Q E h => ?_) (fun cdv A outer s H vs Q E hr h => ?_)
  · obtain ⟨a, ns, lo, hi, rfl, _⟩ := h
    rfl
  · obtain ⟨a, ns, lo, hi, rfl, hs, hl, hb, hp, q⟩ := h
    refine ⟨_, (pss_cons (ps_if (pw_or (pt_not (pt_val (pe_callB call_isiS (by rfl) T.z_isinstance (by decide +kernel) (pa_cons (pv 0) (pa_cons (pe_bltn (v := .ty "tuple") (by rfl) T.z_tuple (by decide +kernel : bootBuiltins "tuple" = some (.type "tuple")) rfl) pa_nil))))) (pw_or1 (pt_not (pt_val (pe_callB (cr_all rfl) (by rfl) T.z_all (by decide +kernel) (pa_cons (pe_lc (own := [("part", 3)]) rfl scs_is_rising.nd (pi_tup (pv 0)) (blkOk_by (N := ["thing", "low", "high", "part", "one", "two"]) (sc := defScope s_is_rising) (by decide +kernel)) (fun _ _ _ _ _ => (pg_name (i := 3) scs_is_rising.nd rfl (.inl rfl) (.inr rfl))) (fun _ _ _ _ _ => pts_nil) (fun _ _ _ _ _ => (pcall (p_is_integer T) (hr.mono (by decide)) (by rfl) T.g_is_integer pass0 (pa_cons (pv 3) (pa_cons (pv 1) (pa_cons (pv 2) pa_nil)))))) pa_nil)))))).pt
      (pss_one (ps_ret pe_bl))
      pss_nil)
    (pss_one (ps_ret (pe_callB (cr_all rfl) (by rfl) T.z_all (by decide +kernel) (pa_cons (pe_lc (own := [("one", 4), ("two", 5)]) rfl scs_is_rising.nd (pi_z2 (by rfl) T.z_zip (pa_cons (pv 0) (pa_cons (pe_slice sl_tupU (pv 0) (po_some pe_int) po_none) pa_nil))) (blkOk_by (N := ["thing", "low", "high", "part", "one", "two"]) (sc := defScope s_is_rising) (by decide +kernel)) (fun _ _ _ _ _ => (pg_tupK (K := K) rfl (n := 2) rfl (pgs_cons (pg_name (i := 4) scs_is_rising.nd rfl (.inl rfl) (.inr rfl)) (pgs_cons (pg_name (i := 5) scs_is_rising.nd rfl (.inl rfl) (.inr rfl)) pgs_nil)) rfl rfl)) (fun _ _ _ _ _ => pts_nil) (fun _ _ _ _ _ => (pe_cmpR op_lt (pv 4) (pv 5) (nomark _)))) pa_nil))))), ?_⟩
    refine ⟨_, rfl, _, _, "tuple", true, rfl, ty_tup hs, by decide +kernel, true, rfl, iteF ?_⟩
    refine ⟨_, rfl, a, rfl, ⟨_, hs⟩, fun D hD => lc_map (walk_tup (xs := ns.map V.int)) hD (by simpa using hl) (fun H' s' => s'.tup hs) (fun i acc _ => acc = List.replicate i (.bl true)) (fun _ _ _ _ _ h => h) rfl (fun i x H1 H2 acc k ks hi1 s1 a1 l1 y hk _ => ?_) fun H1 acc s1 eD lD aD => ?_⟩
    · obtain ⟨rfl, g⟩ := y
      rw [List.getElem?_map] at g
      obtain ⟨n, hn, rfl⟩ := Option.map_eq_some_iff.mp g
      refine ⟨rfl, yes_if ⟨_, rfl, _, rfl, _, rfl, n, lo, hi, rfl, ?_⟩⟩
      rw [decide_eq_true (hb n (List.mem_of_getElem? hn))]
      refine hk _ _ (Same.refl _) ?_
      rw [a1, List.replicate_succ']
    · rw [aD] at eD
      refine ⟨D, _, rfl, acc_true eD, true, by rw [all_true], iteF ?_⟩
      refine ⟨_, rfl, _, rfl, 1, rfl, a, _, rfl, s1.tup hs, ?_⟩
      rw [cutV1]
      intro p H2 s2' e2
      have s2 := s1.trans s2'
      have W := walk_z2 (K := K) (s1 := .tup a) (s2 := .tup p) (xs := ns.map V.int) (ys := (ns.map V.int).drop 1) (n := ns.length - 1) (by simp)
      refine ⟨.tup a, .tup p, _, _, rfl, s2.tup hs, e2, fun D2 hD2 => lc_map W hD2 (by omega) (fun H' s' => ⟨(s2.trans s').tup hs, s'.tup e2⟩) (fun i acc _ => acc = List.replicate i (.bl true)) (fun _ _ _ _ _ h => h) rfl (fun i x H4 H3 acc k ks hi1 s3 a2 l2 y hk _ => ?_) fun H4 acc s3 eD2 lD2 aD2 => ?_⟩
      · obtain ⟨Tq, x1, x2, rfl, nT, s4, e4, g1, g2⟩ := y
        rw [List.getElem?_map] at g1
        rw [List.getElem?_drop, List.getElem?_map] at g2
        obtain ⟨n1, h1, rfl⟩ := Option.map_eq_some_iff.mp g1
        obtain ⟨n2, h2, rfl⟩ := Option.map_eq_some_iff.mp g2
        have lt : n1 < n2 := by
          obtain ⟨i1, e1⟩ := List.getElem?_eq_some_iff.mp h1
          obtain ⟨i2, e2⟩ := List.getElem?_eq_some_iff.mp h2
          rw [← e1, ← e2]
          exact List.pairwise_iff_getElem.mp hp _ _ _ _ (by omega)
        refine ⟨Tq, _, rfl, .inl (.inl e4), rfl, _, _, rfl, _, _, rfl, rfl, rfl, yes_if ⟨_, rfl, _, rfl, n1, n2, rfl, rfl, ?_⟩⟩
        show k (.bl (decide (n1 < n2))) H3
        rw [decide_eq_true lt]
        refine hk _ _ s4 ?_
        rw [a2, List.replicate_succ']
      · rw [aD2] at eD2
        refine ⟨D2, _, rfl, acc_true eD2, ?_⟩
        rw [all_true]
        exact q _ (s2.trans s3)
/-- all signs of the calling are signs -/
theorem p_check_calling (T : Tx K mg) : Pr P w K mg base CX0 1 ["signs", "calling", "most"] [.int 400] (He.ga K "check_calling")
    (fun vs H Q _ => ∃ (g l : List Nat), vs = [.str (str g), .str (str l), .int 400] ∧ l.length ≤ 400 ∧ (∀ c ∈ l, c ∈ g) ∧ ∀ H', Same H H' → Q .non H') := by
  refine T.d_check_calling_d.pr scs_check_calling (fun vs H Q E h => ?_) (fun cdv A outer s H vs Q E hr h => ?_)
  · obtain ⟨g, l, rfl, _⟩ := h
    rfl
  · obtain ⟨g, l, rfl, hl, hm, q⟩ := h
    refine ⟨_, (pss_cons (ps_if (pw_or (pt_not (pt_val (pe_callB call_isiS (by rfl) T.z_isinstance (by decide +kernel) (pa_cons (pv 1) (pa_cons (pe_bltn (v := .ty "str") (by rfl) T.z_str (by decide +kernel : bootBuiltins "str" = some (.type "str")) rfl) pa_nil))))) (pw_or1 (pt_cmpR op_gt (pe_callB call_len_str (by rfl) T.z_len PySem.boot_len (pa_cons (pv 1) pa_nil)) (pv 2) (nomark _)))).pt
      (pss_one ps_never)
      pss_nil)
    (pss_one (ps_for PassesOwn.never rfl (pi_en (by rfl) T.z_enumerate (pa_cons (pv 1) pa_nil)) (pg_tup rfl (pgs_cons (pg_name (i := 3) scs_check_calling.nd rfl (.inl rfl) (.inl rfl)) (pgs_cons (pg_name (i := 4) scs_check_calling.nd rfl (.inl rfl) (.inl rfl)) pgs_nil)))
      (pss_one (ps_if (pt_cmpR op_notIn_sign (pv 4) (pv 0) rfl)
        (pss_one ps_never)
        pss_nil))))), ?_⟩
    refine ⟨_, rfl, _, _, "str", true, rfl, .base (.str _), by decide +kernel, true, rfl, iteF ?_⟩
    refine ⟨_, rfl, str l, rfl, by rw [str_len]; exact sz2 (by omega), _, rfl, ((str l).length : Nat), 400, rfl, rfl, _, rfl, ?_⟩
    rw [str_len, decide_eq_false (show ¬ ((400 : Int) < (l.length : Int)) by omega)]
    refine iteF ?_
    refine ⟨_, rfl, .txt (str l), signsV (str l), rfl, rfl, for_it (walk_en (K := K) (s1 := .txt (str l)) (xs := signsV (str l))) (fun i σ H1 => Same H H1 ∧ ∃ x3 x4, σ = [some (.str (str g)), some (.str (str l)), some (.int 400), x3, x4]) ⟨Same.refl _, _, _, rfl⟩ (fun _ _ _ _ _ => rfl) (fun i x σ H1 H2 hi h y => ?_) fun σ H1 h => q _ h.1⟩
    obtain ⟨s1, x3, x4, rfl⟩ := h
    obtain ⟨Tq, x1, rfl, nT, s2, e2, g1⟩ := y
    rw [signs_str, List.getElem?_map] at g1
    obtain ⟨c, hc, rfl⟩ := Option.map_eq_some_iff.mp g1
    refine ⟨Tq, _, rfl, .inl (.inl e2), rfl, _, _, rfl, _, _, rfl, rfl, ?_⟩
    refine ⟨_, rfl, _, rfl, c, str g, rfl, rfl, _, rfl, ?_⟩
    rw [str_tl, decide_eq_true (hm c (List.mem_of_getElem? hc))]
    exact iteF ⟨s1.trans s2, _, _, rfl⟩
theorem p_is_wish (T : Tx K mg) : Pr P w K mg base CX0 2 ["thing"] [] (He.ga K "is_wish")
    (fun vs H Q _ => ∃ (a : Addr) (lo hi : Int), vs = [.ref a] ∧ SqT K H a [.int lo, .int hi] ∧ 0 ≤ lo ∧ lo ≤ hi ∧ hi ≤ 60 ∧ Q (.bl true) H) := by
  refine T.d_is_wish.pr scs_is_wish (fun vs H Q E h => ?_) (fun cdv A outer s H vs Q E hr h => ?_)
  · obtain ⟨a, lo, hi, rfl, _⟩ := h
    rfl
  · obtain ⟨a, lo, hi, rfl, hs, h0, h1, h2, q⟩ := h
    refine ⟨_, (pss_cons (ps_if (pw_or (pt_not (pt_val (pe_callB call_isiS (by rfl) T.z_isinstance (by decide +kernel) (pa_cons (pv 0) (pa_cons (pe_bltn (v := .ty "tuple") (by rfl) T.z_tuple (by decide +kernel : bootBuiltins "tuple" = some (.type "tuple")) rfl) pa_nil))))) (pw_or1 (pt_cmpR op_ne (pe_callB call_len_seq (by rfl) T.z_len PySem.boot_len (pa_cons (pv 0) pa_nil)) pe_int (nomark _)))).pt
      (pss_one (ps_ret pe_bl))
      pss_nil)
    (pss_cons (ps_if (pw_or (pt_not (pt_val (pcall (p_is_integer T) (hr.mono (by decide)) (by rfl) T.g_is_integer pass0 (pa_cons (pe_ix ix_tup (pv 0) pe_int (fun _ _ => rfl)) (pa_cons pe_int (pa_cons pe_int pa_nil)))))) (pw_or1 (pt_not (pt_val (pcall (p_is_integer T) (hr.mono (by decide)) (by rfl) T.g_is_integer pass0 (pa_cons (pe_ix ix_tup (pv 0) pe_int (fun _ _ => rfl)) (pa_cons pe_int (pa_cons pe_int pa_nil)))))))).pt
      (pss_one (ps_ret pe_bl))
      pss_nil)
    (pss_one (ps_ret (pe_cmpR op_le (pe_ix ix_tup (pv 0) pe_int (fun _ _ => rfl)) (pe_ix ix_tup (pv 0) pe_int (fun _ _ => rfl)) (nomark _)))))), ?_⟩
    refine ⟨_, rfl, _, _, "tuple", true, rfl, ty_tup hs, by decide +kernel, true, rfl, iteF ?_⟩
    refine ⟨_, rfl, a, _, rfl, .inr hs, rfl, _, rfl, iteF ?_⟩
    refine ⟨_, rfl, a, _, _, _, rfl, rfl, hs, atI_nat (j := 0) rfl, lo, 0, 60, rfl, ?_⟩
    rw [decide_eq_true (show (0 : Int) ≤ lo ∧ lo ≤ 60 by omega)]
    refine ⟨true, rfl, iteF ?_⟩
    refine ⟨_, rfl, a, _, _, _, rfl, rfl, hs, atI_nat (j := 1) rfl, hi, 0, 60, rfl, ?_⟩
    rw [decide_eq_true (show (0 : Int) ≤ hi ∧ hi ≤ 60 by omega)]
    refine ⟨true, rfl, iteF ?_⟩
    refine ⟨_, rfl, a, _, _, _, rfl, rfl, hs, atI_nat (j := 0) rfl, _, rfl, a, _, _, _, rfl, rfl, hs, atI_nat (j := 1) rfl, lo, hi, rfl, rfl, ?_⟩
    show Q (.bl (decide (lo ≤ hi))) H
    rw [decide_eq_true h1]
    exact q

/-! ### deep: lists and tuples as tuples -/
def spDeep (K : PySem.W.Frag) (n : Nat) : Sp := fun vs H Q _ => ∃ (v : V) (l : Int) (k : NK), vs = [v, .int l] ∧ Dd K H v k ∧ k.depth ≤ n ∧ (n : Int) ≤ l ∧ ∀ H' v', Same H H' → Tp K H' v' k → Q v' H'
theorem depth_le {k : NK} {n : Nat} : ∀ {ks : List NK}, k ∈ ks → NestedKey.depthAll ks ≤ n → k.depth ≤ n
  | [], h, _ => by cases h
  | a :: r, h, e => by
    have e' : max a.depth (NestedKey.depthAll r) ≤ n := by
      have := e
      simpa [NestedKey.depthAll] using this
    rcases List.mem_cons.mp h with q | q
    · rw [q]
      omega
    · exact depth_le q (by omega)
theorem Dd.scalar {H : Hp} {v : V} {k : NK} (h : Dd K H v k) (h0 : k.depth ≤ 0) : Tp K H v k ∧ ∃ t, TyX K H v (.type t) ∧ kitB t "list" = some false ∧ kitB t "tuple" = some false := by
  cases h with
  | non => exact ⟨.non, "NoneType", .base .non, by decide +kernel, by decide +kernel⟩
  | int i => exact ⟨.int i, "int", .base (.int i), by decide +kernel, by decide +kernel⟩
  | str x => exact ⟨.str x, "str", .base (.str x), by decide +kernel, by decide +kernel⟩
  | tup _ _ _ => simp [NestedKey.depth] at h0
  | lst _ _ _ => simp [NestedKey.depth] at h0
theorem TpAll.step {H H4 : Hp} {acc : List V} {ks : List NK} {i : Nat} {k : NK} {y : V} (a : TpAll K H acc (ks.take i)) (s : Same H H4) (hk : ks[i]? = some k) (h : Tp K H4 y k) : TpAll K H4 (acc ++ [y]) (ks.take (i + 1)) := by
  rw [List.take_add_one, hk]
  exact (a.same s).append (.one h)
theorem TpAll.done {H : Hp} {acc : List V} {ks : List NK} {n : Nat} (a : TpAll K H acc (ks.take n)) (h : n = ks.length) : TpAll K H acc ks := by
  rw [h, List.take_length] at a
  exact a
theorem deep_step (T : Tx K mg) (n : Nat) (ih : Pr P w K mg base CX0 (n + 1) ["thing", "left"] [] (He.ga K "deep") (spDeep K n)) {dvs : List V} (D : Df K "deep" "deep" s_deep ["thing", "left"] dvs (He.ga K "deep")) :
    Pr P w K mg base CX0 (n + 2) ["thing", "left"] dvs (He.ga K "deep") (spDeep K (n + 1)) := by
    refine D.pr scs_deep (fun vs H Q E h => ?_) (fun cdv A outer s H vs Q E hr h => ?_)
    · obtain ⟨v, l, k, rfl, _⟩ := h
      rfl
    · obtain ⟨v, l, k, rfl, hd, h0, hl, q⟩ := h
      refine ⟨_, (pss_cons (ps_if (pw_and (pt_cmpR op_gt (pv 1) pe_int (nomark _)) (pw_and1 (pt_val (pe_callB call_isiP (by rfl) T.z_isinstance (by decide +kernel) (pa_cons (pv 0) (pa_cons (pe_tup (pa_cons (pe_bltn (v := .ty "list") (by rfl) T.z_list (by decide +kernel : bootBuiltins "list" = some (.type "list")) rfl) (pa_cons (pe_bltn (v := .ty "tuple") (by rfl) T.z_tuple (by decide +kernel : bootBuiltins "tuple" = some (.type "tuple")) rfl) pa_nil))) pa_nil)))))).pt
        (pss_one (ps_ret (pe_callTy call_tupU (by rfl) T.z_tuple (by decide +kernel) (pa_cons (pe_lc (own := [("part", 2)]) rfl scs_deep.nd (pi_any (pv 0)) (blkOk_by (N := ["thing", "left", "part"]) (sc := defScope s_deep) (by decide +kernel)) (fun _ _ _ _ _ => (pg_name (i := 2) scs_deep.nd rfl (.inl rfl) (.inr rfl))) (fun _ _ _ _ _ => pts_nil) (fun _ _ _ _ _ => (pcall ih hr (by rfl) T.g_deep pass0 (pa_cons (pv 2) (pa_cons (pe_op op_sub (pv 1) pe_int) pa_nil))))) pa_nil))))
        pss_nil)
        (pss_one (ps_ret (pv 0)))), ?_⟩
      refine ⟨_, rfl, l, 0, rfl, rfl, _, rfl, ?_⟩
      rw [decide_eq_true (show (0 : Int) < l by omega)]
      refine iteT ⟨v, rfl, by show 2 ≤ sizeLine; decide, fun p np => ?_⟩
      have s0 := same_upd (o := .tup [.ty "list", .ty "tuple"]) np
      cases hd with
      | non => exact ⟨_, p, "list", "tuple", "NoneType", false, false, rfl, upd_same, .base .non, by decide +kernel, by decide +kernel, false, rfl, ⟨_, rfl, q _ _ s0 .non⟩⟩
      | int i => exact ⟨_, p, "list", "tuple", "int", false, false, rfl, upd_same, .base (.int i), by decide +kernel, by decide +kernel, false, rfl, ⟨_, rfl, q _ _ s0 (.int i)⟩⟩
      | str x => exact ⟨_, p, "list", "tuple", "str", false, false, rfl, upd_same, .base (.str x), by decide +kernel, by decide +kernel, false, rfl, ⟨_, rfl, q _ _ s0 (.str x)⟩⟩
      | @tup a xs ks hs hl2 ha =>
        refine ⟨_, p, "list", "tuple", "tuple", false, true, rfl, upd_same, ty_tup (s0.tup hs), by decide +kernel, by decide +kernel, true, rfl, ?_⟩
        have dk : NestedKey.depthAll ks ≤ n := by
          have := h0
          simp only [NestedKey.depth] at this
          omega
        refine ⟨_, rfl, a, rfl, .inr ⟨⟨xs, s0.tup hs⟩, fun D hD => lc_map (walk_tup (xs := xs)) hD hl2 (fun H' s' => s'.tup (s0.tup hs)) (fun i acc H' => TpAll K H' acc (ks.take i)) (fun _ _ _ _ s' h => h.kp s') (by rw [List.take_zero]; exact .nil) (fun i x H1 H2 acc k' ks' hi1 s1 a1 l1 y hk _ => ?_) fun H1 acc s1 eD lD aD => ?_⟩⟩
        · obtain ⟨rfl, g⟩ := y
          obtain ⟨kx, gk, dx⟩ := ha.at g
          refine ⟨rfl, yes_if ⟨x, rfl, _, rfl, l, 1, rfl, rfl, x, l - 1, kx, rfl, dx.same (s0.trans s1), depth_le (List.mem_of_getElem? gk) dk, by omega, fun H' v' s' t' => hk v' H' s' (a1.step s' gk t')⟩⟩
        · exact ⟨D, acc, rfl, .inl (.inl (.inl eD)), fun l' H2 s2 h2 => q H2 _ (s0.trans (s1.trans s2)) (.tup h2 (by omega) ((aD.done ha.length).same s2))⟩
      | @lst a xs ks hs hl2 ha =>
        refine ⟨_, p, "list", "tuple", "list", true, false, rfl, upd_same, ty_lst (s0.seq hs), by decide +kernel, by decide +kernel, true, rfl, ?_⟩
        have dk : NestedKey.depthAll ks ≤ n := by
          have := h0
          simp only [NestedKey.depth] at this
          omega
        refine ⟨_, rfl, a, rfl, .inl ⟨⟨xs, s0.seq hs⟩, fun D hD => lc_map (walk_list (xs := xs)) hD hl2 (fun H' s' => s'.seq (s0.seq hs)) (fun i acc H' => TpAll K H' acc (ks.take i)) (fun _ _ _ _ s' h => h.kp s') (by rw [List.take_zero]; exact .nil) (fun i x H1 H2 acc k' ks' hi1 s1 a1 l1 y hk _ => ?_) fun H1 acc s1 eD lD aD => ?_⟩⟩
        · obtain ⟨rfl, g⟩ := y
          obtain ⟨kx, gk, dx⟩ := ha.at g
          refine ⟨rfl, yes_if ⟨x, rfl, _, rfl, l, 1, rfl, rfl, x, l - 1, kx, rfl, dx.same (s0.trans s1), depth_le (List.mem_of_getElem? gk) dk, by omega, fun H' v' s' t' => hk v' H' s' (a1.step s' gk t')⟩⟩
        · exact ⟨D, acc, rfl, .inl (.inl (.inl eD)), fun l' H2 s2 h2 => q H2 _ (s0.trans (s1.trans s2)) (.tup h2 (by omega) ((aD.done ha.length).same s2))⟩
theorem p_deep (T : Tx K mg) : ∀ n : Nat, Pr P w K mg base CX0 (n + 1) ["thing", "left"] [] (He.ga K "deep") (spDeep K n)
  | 0 => by
    refine T.d_deep.pr scs_deep (fun vs H Q E h => ?_) (fun cdv A outer s H vs Q E hr h => ?_)
    · obtain ⟨v, l, k, rfl, _⟩ := h
      rfl
    · obtain ⟨v, l, k, rfl, hd, h0, hl, q⟩ := h
      obtain ⟨tp, t, ty, k1, k2⟩ := hd.scalar h0
      refine ⟨_, (pss_cons (ps_if (pw_and (pt_cmpR op_gt (pv 1) pe_int (nomark _)) (pw_and1 (pt_val (pe_callB call_isiP (by rfl) T.z_isinstance (by decide +kernel) (pa_cons (pv 0) (pa_cons (pe_tup (pa_cons (pe_bltn (v := .ty "list") (by rfl) T.z_list (by decide +kernel : bootBuiltins "list" = some (.type "list")) rfl) (pa_cons (pe_bltn (v := .ty "tuple") (by rfl) T.z_tuple (by decide +kernel : bootBuiltins "tuple" = some (.type "tuple")) rfl) pa_nil))) pa_nil)))))).pt
        (pss_one (ps_ret pe_never))
        pss_nil)
        (pss_one (ps_ret (pv 0)))), ?_⟩
      refine ⟨_, rfl, l, 0, rfl, rfl, _, rfl, ite2 (fun e => ?_) (fun e => ?_)⟩
      · refine ⟨v, rfl, by show 2 ≤ sizeLine; decide, fun p np => ⟨v, p, "list", "tuple", t, false, false, rfl, upd_same, ?_, k1, k2, false, rfl, ?_⟩⟩
        · cases hd with
          | non => cases ty with | base b => cases b; exact .base .non
          | int i => cases ty with | base b => cases b; exact .base (.int i)
          | str x => cases ty with | base b => cases b; exact .base (.str x)
          | tup _ _ _ => simp [NestedKey.depth] at h0
          | lst _ _ _ => simp [NestedKey.depth] at h0
        · exact ⟨v, rfl, q _ v (same_upd np) (tp.same (same_upd np))⟩
      · exact ⟨v, rfl, q _ v (Same.refl H) tp⟩
  | n + 1 => deep_step T n (p_deep T n) T.d_deep
theorem p_deep_d (T : Tx K mg) : Pr P w K mg base CX0 7 ["thing", "left"] [.int 12] (He.ga K "deep") (spDeep K 6) := deep_step T 5 (p_deep T 5) T.d_deep_d
/-- the wish as a tuple -/
theorem p_check_wish (T : Tx K mg) : Pr P w K mg base CX0 8 ["thing"] [] (He.ga K "check_wish")
    (fun vs H Q _ => ∃ (v : V) (lo hi : Int), vs = [v] ∧ Tp K H v (.tup [.num lo, .num hi]) ∧ 0 ≤ lo ∧ lo ≤ hi ∧ hi ≤ 60 ∧ ∀ H' v', Same H H' → Tp K H' v' (.tup [.num lo, .num hi]) → Q v' H') := by
  refine T.d_check_wish.pr scs_check_wish (fun vs H Q E h => ?_) (fun cdv A outer s H vs Q E hr h => ?_)
  · obtain ⟨a, lo, hi, rfl, _⟩ := h
    rfl
  · obtain ⟨v, lo, hi, rfl, hv, h0, h1, h2, q⟩ := h
    refine ⟨_, (pss_cons (ps_set (i := 1) scs_check_wish.nd rfl (.inl rfl) (pcall (p_deep_d T) (hr.mono (by decide)) (by rfl) T.g_deep pass0 (pa_cons (pv 0) pa_nil)))
    (pss_cons (ps_if (pt_not (pt_val (pcall (p_is_wish T) (hr.mono (by decide)) (by rfl) T.g_is_wish pass0 (pa_cons (pv 1) pa_nil))))
      (pss_one ps_never)
      pss_nil)
    (pss_one (ps_ret (pv 1))))), ?_⟩
    refine ⟨v, rfl, v, 12, _, rfl, hv.dd, by simp [NestedKey.depth, NestedKey.depthAll], by decide, fun H1 v1 s1 t1 => ?_⟩
    obtain ⟨a, xs, rfl, hs, _, ha⟩ := t1.tup_inv
    have ex : xs = [.int lo, .int hi] := ha.ints_inv (ns := [lo, hi])
    subst ex
    refine ⟨_, rfl, a, lo, hi, rfl, hs, h0, h1, h2, true, rfl, iteF ?_⟩
    exact ⟨_, rfl, q H1 _ s1 t1⟩

end
end TH
end
section
set_option Elab.async false
set_option linter.all false
set_option maxRecDepth 100000
set_option maxHeartbeats 4000000
namespace TH
open PySem PySem.Spec PyProof.Rows L2
section
variable {P : Program} {w : World} {K : PySem.W.Frag} {mg : Str → Option Value} {base : Heap}
/-! the model: rows, kinds, worlds, plans; how they stand as data and as objects -/
structure Row where
  stride : Int
  body : Int
  nexts : List Nat
structure Knd where
  name : Nat
  lag : Nat
  rows : List Row
structure Wld where
  words : List Nat
  kinds : List Knd
  space : Nat
abbrev PState := List (Nat × Nat)
structure Pl where
  states : List PState
  ends : List Nat
def Wld.signs (W : Wld) : List Nat := 46 :: W.words
def one (c : Nat) : Str := ⟨#[c]⟩
theorem one_inj {a b : Nat} (h : one a = one b) : a = b := by
  have : (one a).cps.toList = (one b).cps.toList := by rw [h]
  simpa [one] using this
theorem str_one (c : Nat) : str [c] = one c := rfl
def kC (c : Nat) : NK := .text (one c)
def kS (l : List Nat) : NK := .text (str l)
def kN (n : Nat) : NK := .num (n : Int)
def encRow (r : Row) : NK := .tup [.num r.stride, .num r.body, .tup (r.nexts.map kN)]
def encRows (rs : List Row) : NK := .tup (rs.map encRow)
def encKnd (k : Knd) : NK := .tup [kC k.name, kN k.lag, encRows k.rows]
def encKnds (ks : List Knd) : NK := .tup (ks.map encKnd)
def encW (W : Wld) : NK := .tup [kS W.words, encKnds W.kinds, kN W.space, .tup []]
def encState (s : PState) : NK := .tup (s.map fun p => .tup [kC p.1, kN p.2])
def encStates (s : List PState) : NK := .tup (s.map encState)
def encPl (p : Pl) : NK := .tup [encStates p.states, .tup (p.ends.map kN)]
def natsV (ns : List Nat) : List V := ns.map fun n => V.int (n : Nat)
theorem nats_inv {H : Hp} {ns : List Nat} {vs : List V} (h : TpAll K H vs (ns.map kN)) : vs = natsV ns := by
  have e : ns.map kN = (ns.map fun n => ((n : Nat) : Int)).map .num := by
    rw [List.map_map]
    rfl
  rw [e] at h
  rw [h.ints_inv, List.map_map]
  rfl
theorem nats_tp {H : Hp} (ns : List Nat) : TpAll K H (natsV ns) (ns.map kN) := by
  induction ns with
  | nil => exact .nil
  | cons n ns ih => exact .cons (.int _) ih
/-- a row's own rule: lengths, ranges, silence stays -/
structure RowOk (many nw : Nat) (r : Row) : Prop where
  s : -3 ≤ r.stride ∧ r.stride ≤ 3
  b : 1 ≤ r.body ∧ r.body ≤ 12
  l : r.nexts.length = nw + 1
  n : ∀ x ∈ r.nexts, x < many
structure RowsOk (nw : Nat) (rs : List Row) : Prop where
  len : 1 ≤ rs.length ∧ rs.length ≤ 6
  row : ∀ r ∈ rs, RowOk rs.length nw r
  rest : ∀ r, rs[0]? = some r → r.stride = 0
  still : ∀ (i : Nat) (r : Row), rs[i]? = some r → r.nexts[0]? = some i
structure WOk (W : Wld) : Prop where
  sm : small W.words
  rise : Rise W.words
  wl : 1 ≤ W.words.length ∧ W.words.length ≤ 2
  kl : 1 ≤ W.kinds.length ∧ W.kinds.length ≤ 2
  nm : ∀ k ∈ W.kinds, 65 ≤ k.name ∧ k.name ≤ 90
  nd : (W.kinds.map (·.name)).Nodup
  lag : ∀ k ∈ W.kinds, 1 ≤ k.lag ∧ k.lag ≤ 2
  rows : ∀ k ∈ W.kinds, RowsOk W.words.length k.rows
  sp : W.space ≤ 3
/-! ### objects -/
structure IsPlan (K : PySem.W.Frag) (H : Hp) (v : V) (p : Pl) : Prop where
  ex : ∃ (a dx : Addr) (fs : List (Str × V)) (sv : V), v = .ref a ∧ H a = some (.ins (He.ga K "Plan") dx fs) ∧ fs.lookup ("states" : Str) = some sv ∧ Tp K H sv (encStates p.states)
theorem IsPlan.kp {H H' : Hp} {v : V} {p : Pl} (h : IsPlan K H v p) (s : Kp H H') : IsPlan K H' v p := by
  obtain ⟨a, dx, fs, sv, e, ha, l, t⟩ := h.ex
  exact ⟨a, dx, fs, sv, e, s _ _ (fun _ z => nomatch z) ha, l, t.kp s⟩
/-- a dict from each sign to where it leads -/
def LeadD (H : Hp) (v : V) (signs : List Nat) (r : Row) : Prop := ∃ (d : Addr) (kvs : List (Key × V)), v = .ref d ∧ H d = some (.dK kvs) ∧ ∀ (j c n : Nat), signs[j]? = some c → r.nexts[j]? = some n → valV kvs (.inr (one c)) = some (.int (n : Nat))
structure IsDrill (K : PySem.W.Frag) (H : Hp) (v : V) (words : List Nat) (rs : List Row) : Prop where
  ex : ∃ (a dx : Addr) (fs : List (Str × V)) (sv st bd ld : V), v = .ref a ∧ H a = some (.ins (He.ga K "Drill") dx fs) ∧ fs.lookup ("standings" : Str) = some sv ∧ fs.lookup ("strides" : Str) = some st ∧ fs.lookup ("bodies" : Str) = some bd ∧ fs.lookup ("leads" : Str) = some ld ∧
    Tp K H sv (encRows rs) ∧ IsInts K H st (rs.map (·.stride)) ∧ IsInts K H bd (rs.map (·.body)) ∧
    ∃ (la : Addr) (lds : List V), ld = .ref la ∧ SqT K H la lds ∧ lds.length = rs.length ∧ ∀ (i : Nat) (r : Row), rs[i]? = some r → ∃ x, lds[i]? = some x ∧ LeadD H x (46 :: words) r
theorem IsDrill.kp {H H' : Hp} {v : V} {ws : List Nat} {rs : List Row} (h : IsDrill K H v ws rs) (s : Kp H H') : IsDrill K H' v ws rs := by
  obtain ⟨a, dx, fs, sv, st, bd, ld, e, ha, l1, l2, l3, l4, t1, t2, t3, la, lds, e2, h2, hl, hx⟩ := h.ex
  refine ⟨a, dx, fs, sv, st, bd, ld, e, s _ _ (fun _ z => nomatch z) ha, l1, l2, l3, l4, t1.kp s, t2.kp s, t3.kp s, la, lds, e2, s.tup h2, hl, fun i r hr => ?_⟩
  obtain ⟨x, hx1, d, kvs, ex, hd, hk⟩ := hx i r hr
  exact ⟨x, hx1, d, kvs, ex, s _ _ (fun _ z => nomatch z) hd, hk⟩
/-- some order of the names, ascending -/
def Wld.names (W : Wld) : List Nat := W.kinds.map (·.name)
structure IsMake (K : PySem.W.Frag) (H : Hp) (v : V) (W : Wld) (row : List Nat) : Prop where
  perm : row.Perm W.names
  rise : Rise row
  ex : ∃ (a dx t dd ll : Addr) (fs : List (Str × V)) (kd kl : List (Key × V)), v = .ref a ∧ H a = some (.ins (He.ga K "Make") dx fs) ∧ fs.lookup ("check_name" : Str) = none ∧ fs.lookup ("seat_of" : Str) = none ∧
    fs.lookup ("signs" : Str) = some (.str (str W.signs)) ∧ fs.lookup ("space" : Str) = some (.int (W.space : Nat)) ∧ fs.lookup ("name_row" : Str) = some (.str (str row)) ∧
    fs.lookup ("seat_table" : Str) = some (.ref t) ∧ H t = some (.dT []) ∧ fs.lookup ("drills" : Str) = some (.ref dd) ∧ H dd = some (.dK kd) ∧ fs.lookup ("lags" : Str) = some (.ref ll) ∧ H ll = some (.dK kl) ∧
    (∀ k ∈ W.kinds, ∃ dv, valV kd (.inr (one k.name)) = some dv ∧ IsDrill K H dv W.words k.rows) ∧ ∀ k ∈ W.kinds, valV kl (.inr (one k.name)) = some (.int (k.lag : Nat))
theorem IsMake.kp {H H' : Hp} {v : V} {W : Wld} {row : List Nat} (h : IsMake K H v W row) (s : Kp H H') : IsMake K H' v W row := by
  refine ⟨h.perm, h.rise, ?_⟩
  obtain ⟨a, dx, t, dd, ll, fs, kd, kl, e, ha, m1, m2, l1, l2, l3, l4, ht, l5, hd, l6, hl, q1, q2⟩ := h.ex
  refine ⟨a, dx, t, dd, ll, fs, kd, kl, e, s _ _ (fun _ z => nomatch z) ha, m1, m2, l1, l2, l3, l4, s _ _ (fun _ z => nomatch z) ht, l5, s _ _ (fun _ z => nomatch z) hd, l6, s _ _ (fun _ z => nomatch z) hl, fun k hk => ?_, q2⟩
  obtain ⟨dv, e1, e2⟩ := q1 k hk
  exact ⟨dv, e1, e2.kp s⟩
theorem IsPlan.same {H H' : Hp} {v : V} {p : Pl} (h : IsPlan K H v p) (s : Same H H') : IsPlan K H' v p := h.kp (Kp.of s)
theorem IsDrill.same {H H' : Hp} {v : V} {ws : List Nat} {rs : List Row} (h : IsDrill K H v ws rs) (s : Same H H') : IsDrill K H' v ws rs := h.kp (Kp.of s)
theorem IsMake.same {H H' : Hp} {v : V} {W : Wld} {row : List Nat} (h : IsMake K H v W row) (s : Same H H') : IsMake K H' v W row := h.kp (Kp.of s)
theorem IsInts.same {H H' : Hp} {v : V} {ns : List Int} (h : IsInts K H v ns) (s : Same H H') : IsInts K H' v ns := h.kp (Kp.of s)
/-! ### plans -/
inductive Reach (p : Pl) : Nat → Prop
  | zero : Reach p 0
  | step {s c s' : Nat} {st : PState} : Reach p s → p.states[s]? = some st → (c, s') ∈ st → Reach p s'
def Nb (p : Pl) (a b : Nat) : Prop := ∃ s st s' st' s2, Reach p s ∧ p.states[s]? = some st ∧ (a, s') ∈ st ∧ p.states[s']? = some st' ∧ (b, s2) ∈ st'
def Kd (p : Pl) (a : Nat) : Prop := ∃ s st s', Reach p s ∧ p.states[s]? = some st ∧ (a, s') ∈ st
structure PlOk (names : List Nat) (p : Pl) : Prop where
  len : 1 ≤ p.states.length ∧ p.states.length ≤ 2
  st : ∀ s ∈ p.states, s.length ≤ 2 ∧ (s.map (·.1)).Pairwise (· < ·) ∧ ∀ q ∈ s, q.1 ∈ names ∧ q.2 < p.states.length
theorem state_inv {H : Hp} {v : V} {s : PState} (h : Tp K H v (encState s)) : ∃ a xs, v = .ref a ∧ SqT K H a xs ∧ xs.length ≤ 2000 ∧ TpAll K H xs (s.map fun p => .tup [kC p.1, kN p.2]) := h.tup_inv
theorem pair_inv {H : Hp} {v : V} {c n : Nat} (h : Tp K H v (.tup [kC c, kN n])) : ∃ a, v = .ref a ∧ SqT K H a [.str (one c), .int (n : Nat)] := by
  obtain ⟨a, xs, rfl, hs, _, ha⟩ := h.tup_inv
  cases ha with
  | cons h1 h2 =>
    cases h2 with
    | cons h2 h3 =>
      cases h3
      rw [h1.str_inv, h2.int_inv] at hs
      exact ⟨a, rfl, hs⟩

end
end TH
end
section
set_option Elab.async false
set_option linter.all false
set_option maxRecDepth 100000
set_option maxHeartbeats 4000000
namespace TH
open PySem PySem.Spec PyProof.Rows L2
section
variable {P : Program} {w : World} {K : PySem.W.Frag} {mg : Str → Option Value} {base : Heap}
/-! heard.py: signs, reached states -/
theorem p_check_signs (T : Tx K mg) : Pr P w K mg base CX0 1 ["plan", "signs"] [] (He.ga K "check_signs")
    (fun vs H Q _ => ∃ (v : V) (p : Pl) (row : List Nat), vs = [v, .str (str row)] ∧ IsPlan K H v p ∧ (∀ s ∈ p.states, ∀ q ∈ s, q.1 ∈ row) ∧ ∀ H', Same H H' → Q .non H') := by
  refine T.d_check_signs.pr scs_check_signs (fun vs H Q E h => ?_) (fun cdv A outer s H vs Q E hr h => ?_)
  · obtain ⟨v, p, row, rfl, _⟩ := h
    rfl
  · obtain ⟨v, p, row, rfl, hp, hm, q⟩ := h
    refine ⟨_, (pss_one (ps_for PassesOwn.never rfl (pi_tup (pe_fld (pv 0) rfl)) (pg_name (i := 2) scs_check_signs.nd rfl (.inl rfl) (.inl rfl))
      (pss_one (ps_for PassesOwn.never rfl (pi_tup (pv 2)) (pg_tup rfl (pgs_cons (pg_name (i := 3) scs_check_signs.nd rfl (.inl rfl) (.inl rfl)) (pgs_cons (pg_name (i := 4) scs_check_signs.nd rfl (.inl rfl) (.inl rfl)) pgs_nil)))
        (pss_one (ps_if (pt_cmpR op_notIn_sign (pv 3) (pv 1) rfl)
          (pss_one ps_never)
          pss_nil)))))), ?_⟩
    obtain ⟨a, dx, fs, sv, rfl, ha, l, t⟩ := hp.ex
    obtain ⟨sa, xs, rfl, hs, _, hx⟩ := t.tup_inv
    refine ⟨_, rfl, a, _, dx, fs, _, rfl, ha, T.c_Plan, T.n_Plan_states, l, sa, rfl, ⟨xs, hs⟩, ?_⟩
    refine for_it (walk_tup (xs := xs)) (fun i σ H1 => Same H H1 ∧ ∃ x2 x3 x4, σ = [some (.ref a), some (.str (str row)), x2, x3, x4]) ⟨Same.refl _, _, _, _, rfl⟩ (fun i σ H1 _ h => h.1.tup hs) (fun i x σ H1 H2 hi h y => ?_) fun σ H1 h => q _ h.1
    obtain ⟨s1, x2, x3, x4, rfl⟩ := h
    obtain ⟨rfl, g⟩ := y
    obtain ⟨k, gk, tk⟩ := hx.at g
    rw [List.getElem?_map] at gk
    obtain ⟨st, gst, rfl⟩ := Option.map_eq_some_iff.mp gk
    obtain ⟨ta, ys, rfl, hs2, _, hy⟩ := state_inv tk
    refine ⟨_, rfl, ta, rfl, ⟨ys, s1.tup hs2⟩, for_it (walk_tup (xs := ys)) (fun i σ H1 => Same H H1 ∧ ∃ x2 x3 x4, σ = [some (.ref a), some (.str (str row)), x2, x3, x4]) ⟨s1, _, _, _, rfl⟩ (fun i σ H1 _ h => h.1.tup hs2) (fun i x σ H1 H2 hi h y => ?_) fun σ H1 h => h⟩
    obtain ⟨s1, x2, x3, x4, rfl⟩ := h
    obtain ⟨rfl, g⟩ := y
    obtain ⟨k, gk, tk⟩ := hy.at g
    rw [List.getElem?_map] at gk
    obtain ⟨⟨c, n⟩, gq, rfl⟩ := Option.map_eq_some_iff.mp gk
    obtain ⟨b, rfl, hb⟩ := pair_inv tk
    refine ⟨b, _, rfl, s1.tup hb, rfl, _, _, rfl, _, _, rfl, rfl, _, rfl, _, rfl, c, str row, rfl, rfl, _, rfl, ?_⟩
    rw [str_tl, decide_eq_true (hm st (List.mem_of_getElem? gst) (c, n) (List.mem_of_getElem? gq))]
    exact iteF ⟨s1, _, _, _, rfl⟩
theorem p_check_columns (T : Tx K mg) : Pr P w K mg base CX0 2 ["make", "plan"] [] (He.ga K "check_columns")
    (fun vs H Q _ => ∃ (m v : V) (W : Wld) (p : Pl) (row : List Nat), vs = [m, v] ∧ IsMake K H m W row ∧ IsPlan K H v p ∧ (∀ s ∈ p.states, ∀ q ∈ s, q.1 ∈ row) ∧ ∀ H', Same H H' → Q .non H') := by
  refine T.d_check_columns.pr scs_check_columns (fun vs H Q E h => ?_) (fun cdv A outer s H vs Q E hr h => ?_)
  · obtain ⟨m, v, W, p, row, rfl, _⟩ := h
    rfl
  · obtain ⟨m, v, W, p, row, rfl, hm, hp, hq, q⟩ := h
    refine ⟨_, (pss_one (ps_expr (pcall (p_check_signs T) (hr.mono (by decide)) (by rfl) T.g_check_signs pass0 (pa_cons (pv 1) (pa_cons (pe_fld (pv 0) rfl) pa_nil))))), ?_⟩
    obtain ⟨a, dx, t, dd, ll, fs, kd, kl, rfl, ha, m1, m2, l1, l2, l3, r⟩ := hm.ex
    exact ⟨_, rfl, _, rfl, a, _, dx, fs, _, rfl, ha, T.c_Make, T.n_Make_name_row, l3, v, p, row, rfl, hp, hq, fun H' s' => q H' s'⟩
/-- the states that strings reach -/
structure Reached (p : Pl) (os : List Nat) : Prop where
  nd : os.Nodup
  lt : ∀ s ∈ os, s < p.states.length
  to : ∀ s ∈ os, Reach p s
  all : ∀ s, Reach p s → s ∈ os
def Closed (p : Pl) (os : List Nat) (i : Nat) : Prop := ∀ (j s : Nat) (st : PState) (c s' : Nat), j < i → os[j]? = some s → p.states[s]? = some st → (c, s') ∈ st → s' ∈ os
theorem nat_len : ∀ (l D : List Nat), l.Nodup → (∀ x ∈ l, x ∈ D) → l.length ≤ D.length
  | [], _, _, _ => Nat.zero_le _
  | x :: l, D, hn, hs => by
    obtain ⟨h1, h2⟩ := List.nodup_cons.mp hn
    have hx : x ∈ D := hs x List.mem_cons_self
    have ih := nat_len l (D.erase x) h2 fun y hy => by
      have hne : y ≠ x := fun e => h1 (e ▸ hy)
      exact (List.mem_erase_of_ne hne).2 (hs y (List.mem_cons_of_mem _ hy))
    have e := List.length_erase_of_mem hx
    have hp : 0 < D.length := List.length_pos_of_mem hx
    rw [List.length_cons]
    omega
theorem nodup_le {os : List Nat} {n : Nat} (nd : os.Nodup) (lt : ∀ s ∈ os, s < n) : os.length ≤ n := by
  have := nat_len os (List.range n) nd fun x hx => List.mem_range.mpr (lt x hx)
  simpa using this
/-- what holds of the order so far -/
structure ROrd (p : Pl) (os : List Nat) : Prop where
  nd : os.Nodup
  lt : ∀ s ∈ os, s < p.states.length
  to : ∀ s ∈ os, Reach p s
  z : 0 ∈ os
theorem ROrd.snoc {p : Pl} {os : List Nat} {x : Nat} (h : ROrd p os) (hx : x ∉ os) (hl : x < p.states.length) (hr : Reach p x) : ROrd p (os ++ [x]) := by
  refine ⟨nd_snoc h.nd hx, fun s hs => ?_, fun s hs => ?_, List.mem_append_left _ h.z⟩
  · rcases List.mem_append.mp hs with q | q
    · exact h.lt s q
    · rw [List.mem_singleton.mp q]
      exact hl
  · rcases List.mem_append.mp hs with q | q
    · exact h.to s q
    · rw [List.mem_singleton.mp q]
      exact hr
theorem Closed.ext {p : Pl} {os os' : List Nat} {i : Nat} (h : Closed p os i) (hi : i ≤ os.length) (e : os' = os ++ os'.drop os.length) : Closed p os' i := fun j s st c s' hj hs hst hm => by
  have hj' : j < os.length := by omega
  rw [e, List.getElem?_append_left hj'] at hs
  rw [e]
  exact List.mem_append_left _ (h j s st c s' hj hs hst hm)
theorem ROrd.reached {p : Pl} {os : List Nat} (h : ROrd p os) (c : Closed p os os.length) : Reached p os := by
  refine ⟨h.nd, h.lt, h.to, fun s r => ?_⟩
  induction r with
  | zero => exact h.z
  | step r hst hm ih =>
    obtain ⟨j, hj, e⟩ := List.mem_iff_getElem.mp ih
    exact c j _ _ _ _ hj (by rw [List.getElem?_eq_getElem hj, e]) hst hm
/-- the dict of those met -/
def Met (kvs : List (Key × V)) (os : List Nat) : Prop := ∀ j : Nat, (valV kvs (.inl (j : Int))).isSome = decide (j ∈ os)
theorem Met.put {kvs : List (Key × V)} {os : List Nat} {x : Nat} {v : V} (h : Met kvs os) : Met (putK kvs (.inl (x : Int)) v) (os ++ [x]) := fun j => by
  rw [valV_put]
  by_cases e : j = x
  · subst e
    simp
  · have e' : ¬ (Sum.inl (j : Int) : Key) = Sum.inl (x : Int) := fun z => e (by
      have := Sum.inl.inj z
      omega)
    rw [if_neg e', h j]
    simp [e]
theorem putK_le {κ : Type} [DecidableEq κ] (kvs : List (κ × V)) (k : κ) (v : V) : (putK kvs k v).length ≤ kvs.length + 1 := by
  unfold putK
  split
  · simp
  · simp
structure RSt (H H' : Hp) (t o : Addr) (p : Pl) (os : List Nat) : Prop where
  s : Same H H'
  ht : H t = none
  ho : H o = none
  ord : ROrd p os
  ol : H' o = some (.lst (natsV os))
  met : ∃ kvs, H' t = some (.dK kvs) ∧ Met kvs os ∧ kvs.length ≤ os.length
theorem natsV_snoc (os : List Nat) (x : Nat) : natsV (os ++ [x]) = natsV os ++ [.int (x : Nat)] := by simp [natsV]
theorem natsV_at {os : List Nat} {i : Nat} {s : Nat} (h : os[i]? = some s) : (natsV os)[i]? = some (.int (s : Nat)) := by
  unfold natsV
  rw [List.getElem?_map, h]
  rfl
/-- x is met: it joins the order -/
theorem RSt.add {H H' : Hp} {t o : Addr} {p : Pl} {os : List Nat} {x : Nat} (h : RSt H H' t o p os) (ne : t ≠ o) (hx : x ∉ os) (hl : x < p.states.length) (hr : Reach p x) (hp : p.states.length ≤ 60) {kvs : List (Key × V)} {H3 : Hp} (hk : H' t = some (.dK kvs))
    (b : Sb o (upd H' t (.dK (putK kvs (.inl (x : Int)) (.bl true)))) H3) (e3 : H3 o = some (.lst (natsV os ++ [.int (x : Nat)]))) : RSt H H3 t o p (os ++ [x]) := by
  obtain ⟨kvs', hk', m, l⟩ := h.met
  rw [hk] at hk'
  cases hk'
  refine ⟨((h.s.sb h.ht sb_upd).sb h.ho b), h.ht, h.ho, h.ord.snoc hx hl hr, by rw [natsV_snoc]; exact e3, _, b _ _ ne upd_same, m.put, ?_⟩
  have := putK_le kvs (.inl (x : Int)) (.bl true)
  simp only [List.length_append, List.length_cons, List.length_nil]
  omega
theorem p_reached_states (T : Tx K mg) : Pr P w K mg base CX0 1 ["plan"] [] (He.ga K "reached_states")
    (fun vs H Q _ => ∃ (v : V) (p : Pl) (names : List Nat), vs = [v] ∧ IsPlan K H v p ∧ PlOk names p ∧ ∀ H' o os, Same H H' → H o = none → H' o = some (.lst (natsV os)) → Reached p os → Q (.ref o) H') := by
  refine T.d_reached_states.pr scs_reached_states (fun vs H Q E h => ?_) (fun cdv A outer s H vs Q E hr h => ?_)
  · obtain ⟨v, p, row, rfl, _⟩ := h
    rfl
  · obtain ⟨v, p, names, rfl, hp, ok, q⟩ := h
    have hu := hu_of hr
    refine ⟨_, (pss_cons (ps_set (i := 1) scs_reached_states.nd rfl (.inl rfl) pe_dnewK)
    (pss_cons (ps_dput hu (pv 1) pe_int pe_bl rfl)
    (pss_cons (ps_set (i := 2) scs_reached_states.nd rfl (.inl rfl) (pe_lst (pa_cons pe_int pa_nil)))
    (pss_cons (ps_set (i := 3) scs_reached_states.nd rfl (.inl rfl) pe_int)
    (pss_cons (ps_while PassesOwn.never (pt_cmpR op_lt (pv 3) (pe_callB call_len_seq (by rfl) T.z_len PySem.boot_len (pa_cons (pv 2) pa_nil)) (nomark _))
      (pss_cons (ps_for PassesOwn.never rfl (pi_tup (pe_ix ix_tup (pe_fld (pv 0) rfl) (pe_ix ix_list (pv 2) (pv 3) (fun _ _ => rfl)) (fun _ _ => rfl))) (pg_tup rfl (pgs_cons (pg_name (i := 4) scs_reached_states.nd rfl (.inl rfl) (.inl rfl)) (pgs_cons (pg_name (i := 5) scs_reached_states.nd rfl (.inl rfl) (.inl rfl)) pgs_nil)))
        (pss_one (ps_if (pt_cmp (pc_dnotin hu (pv 5) (pv 1)))
          (pss_cons (ps_dput hu (pv 1) (pv 5) pe_bl rfl)
          (pss_one (ps_expr (pe_bm PySem.F.plainAttrs_list PySem.F.slot_list_append PySem.F.type_list_append mt_appU (pv 2) (pa_cons (pv 5) pa_nil)))))
          pss_nil)))
      (pss_one (ps_set (i := 3) scs_reached_states.nd rfl (.inl rfl) (pe_op op_add (pv 3) pe_int)))))
    (pss_one (ps_ret (pv 2)))))))), ?_⟩
    obtain ⟨a, dx, fs, sv, rfl, ha, l, tp⟩ := hp.ex
    obtain ⟨sa, xs, rfl, hs, _, hx⟩ := tp.tup_inv
    have pl : p.states.length ≤ 60 := by have := ok.len; omega
    intro t nt
    refine ⟨_, rfl, t, _, rfl, DPut.k (k := .inl 0) upd_same (by show 0 < sizeLine; decide), ?_⟩
    rw [upd_upd]
    refine ⟨by show 1 ≤ sizeLine; decide, fun o no => ?_⟩
    have ne : t ≠ o := fun e => by
      rw [← e, upd_same] at no
      cases no
    have no' : H o = none := by
      rw [upd_ne ne.symm] at no
      exact no
    have r0 : RSt H (upd (upd H t (.dK (putK [] (.inl 0) (.bl true)))) o (.lst [.int 0])) t o p [0] := by
      refine ⟨(same_upd nt).trans (same_upd no), nt, no', ⟨by simp, fun s hs => ?_, fun s hs => ?_, by simp⟩, upd_same, _, by rw [upd_ne ne]; exact upd_same, fun j => ?_, by decide⟩
      · rw [List.mem_singleton.mp hs]
        have := ok.len
        omega
      · rw [List.mem_singleton.mp hs]
        exact .zero
      · have e : putK ([] : List (Key × V)) (.inl 0) (.bl true) = [(.inl 0, .bl true)] := rfl
        rw [e]
        by_cases ej : j = 0
        · subst ej
          rfl
        · have : ¬ (Sum.inl 0 : Key) = Sum.inl (j : Int) := fun z => ej (by
            have := Sum.inl.inj z
            omega)
          rw [valV_neg this, valV_nil]
          simp [ej]
    refine ⟨fun m σ H' => ∃ (os : List Nat) (at_ : Nat) (x4 x5 : Option V), σ = [some (.ref a), some (.ref t), some (.ref o), some (.int (at_ : Nat)), x4, x5] ∧ m = 60 - at_ ∧ RSt H H' t o p os ∧ at_ ≤ os.length ∧ Closed p os at_,
      ⟨60, [0], 0, none, none, rfl, rfl, r0, Nat.zero_le _, fun j s st c s' hj => by omega⟩, fun m σ H' h => ?_⟩
    obtain ⟨os, at_, x4, x5, rfl, rfl, R, hat, cl⟩ := h
    have lo : os.length ≤ p.states.length := nodup_le R.ord.nd R.ord.lt
    refine ⟨_, rfl, _, rfl, o, natsV os, rfl, .inl (.inl (.inl R.ol)), (at_ : Nat), ((natsV os).length : Nat), rfl, rfl, _, rfl, ite2 (fun e => ?_) (fun e => ?_)⟩
    · have lt : at_ < os.length := by
        have := of_decide_eq_true e
        simp only [natsV, List.length_map] at this
        omega
      have gs : os[at_]? = some os[at_] := List.getElem?_eq_getElem lt
      have ls := R.ord.lt _ (List.mem_of_getElem? gs)
      obtain ⟨xk, gx, tk⟩ := hx.get (i := os[at_]) (k := encState p.states[os[at_]]) (by rw [List.getElem?_map, List.getElem?_eq_getElem ls]; rfl)
      obtain ⟨ta, ys, rfl, hs2, _, hy⟩ := state_inv tk
      refine ⟨fun σ' H' => ∃ (os' : List Nat) (x4 x5 : Option V), σ' = [some (.ref a), some (.ref t), some (.ref o), some (.int ((at_ + 1 : Nat) : Int)), x4, x5] ∧ RSt H H' t o p os' ∧ at_ + 1 ≤ os'.length ∧ Closed p os' (at_ + 1), fun σ' H' h => ?_, ?_⟩
      · obtain ⟨os', x4, x5, rfl, R', h1, h2⟩ := h
        exact ⟨60 - (at_ + 1), by omega, os', at_ + 1, x4, x5, rfl, rfl, R', h1, h2⟩
      · refine ⟨_, rfl, a, _, dx, fs, _, rfl, R.s _ _ ha, T.c_Plan, T.n_Plan_states, l, _, rfl, _, rfl, o, _, _, _, rfl, rfl, .inl (.inl R.ol), atI_nat (natsV_at gs), sa, _, _, _, rfl, rfl, R.s.tup hs, atI_nat gx, ta, rfl, ⟨ys, R.s.tup hs2⟩, ?_⟩
        refine for_it (walk_tup (xs := ys)) (fun i σ H1 => ∃ (os' : List Nat) (x4 x5 : Option V), σ = [some (.ref a), some (.ref t), some (.ref o), some (.int (at_ : Nat)), x4, x5] ∧ RSt H H1 t o p os' ∧ os' = os ++ os'.drop os.length ∧ ∀ (j c n : Nat), j < i → p.states[os[at_]][j]? = some (c, n) → n ∈ os')
          ⟨os, _, _, rfl, R, by simp, fun j c n hj => by omega⟩ (fun i σ H1 _ h => by obtain ⟨_, _, _, _, h, _⟩ := h; exact h.s.tup hs2) (fun i x σ H1 H2 hi h y => ?_) fun σ H1 h => ?_
        · obtain ⟨os', y4, y5, rfl, R', ex, hd⟩ := h
          obtain ⟨rfl, g⟩ := y
          obtain ⟨k, gk, tk2⟩ := hy.at g
          rw [List.getElem?_map] at gk
          obtain ⟨⟨c, n⟩, gq, rfl⟩ := Option.map_eq_some_iff.mp gk
          have hmem : (c, n) ∈ p.states[os[at_]] := List.mem_of_getElem? gq
          have hn := ((ok.st _ (List.getElem_mem ls)).2.2 _ hmem).2
          have hreach : Reach p n := .step (R.ord.to _ (List.mem_of_getElem? gs)) (List.getElem?_eq_getElem ls) hmem
          obtain ⟨b, rfl, hb⟩ := pair_inv tk2
          obtain ⟨kvs, hk, m, lk⟩ := R'.met
          have lo' : os'.length ≤ p.states.length := nodup_le R'.ord.nd R'.ord.lt
          refine ⟨b, _, rfl, R'.s.tup hb, rfl, _, _, rfl, _, _, rfl, rfl, ?_⟩
          refine ⟨_, rfl, _, rfl, t, _, rfl, DGet.k (k := .inl (n : Int)) hk, _, rfl, ?_⟩
          rw [m n]
          by_cases hin : n ∈ os'
          · refine iteNS hin ⟨os', _, _, rfl, R', ex, fun j c' n' hj hq => ?_⟩
            by_cases ej : j = i
            · subst ej
              rw [gq] at hq
              cases hq
              exact hin
            · exact hd j c' n' (by omega) hq
          · rw [decide_eq_false hin]
            refine iteT ⟨_, rfl, _, rfl, t, _, rfl, DPut.k (k := .inl (n : Int)) hk (sz2l (by omega)), ?_⟩
            have eo : (upd H2 t (.dK (putK kvs (.inl (n : Int)) (.bl true)))) o = some (.lst (natsV os')) := by
              rw [upd_ne ne.symm]
              exact R'.ol
            refine ⟨_, rfl, .inl ⟨rfl, _, .inl (.inl eo)⟩, _, rfl, o, natsV os', _, rfl, rfl, eo, by rw [natsV, List.length_map]; omega, fun H3 b3 e3 => ?_⟩
            refine ⟨os' ++ [n], _, _, rfl, R'.add ne hin hn hreach pl hk b3 e3, ?_, fun j c' n' hj hq => ?_⟩
            · have l1 : os.length ≤ os'.length := by rw [ex]; simp
              rw [List.drop_append_of_le_length l1, ← List.append_assoc, ← ex]
            · by_cases ej : j = i
              · subst ej
                rw [gq] at hq
                cases hq
                exact List.mem_append_right _ (List.mem_singleton.mpr rfl)
              · exact List.mem_append_left _ (hd j c' n' (by omega) hq)
        · obtain ⟨os', y4, y5, rfl, R', ex, hd⟩ := h
          have l1 : os.length ≤ os'.length := by rw [ex]; simp
          refine ⟨_, rfl, (at_ : Nat), 1, rfl, rfl, os', y4, y5, ?_, R', by omega, fun j s st c s' hj hjs hst hm => ?_⟩
          · rw [Int.natCast_add]
            rfl
          · by_cases ej : j = at_
            · subst ej
              have e1 : os'[j]? = os[j]? := by
                rw [ex, List.getElem?_append_left lt]
              rw [e1, gs] at hjs
              cases hjs
              rw [List.getElem?_eq_getElem ls] at hst
              cases hst
              obtain ⟨q, hq, eq⟩ := List.mem_iff_getElem.mp hm
              refine hd q c s' ?_ (by rw [List.getElem?_eq_getElem hq, eq])
              have := hy.length
              simp only [List.length_map] at this
              omega
            · exact (cl.ext hat ex) j s st c s' (by omega) hjs hst hm
    · have ee : at_ = os.length := by
        have := mt decide_eq_true e
        simp only [natsV, List.length_map] at this
        omega
      subst ee
      exact ⟨_, rfl, q _ _ _ R.s no' R.ol (R.ord.reached cl)⟩

end
end TH
end
section
set_option Elab.async false
set_option linter.all false
set_option maxRecDepth 100000
set_option maxHeartbeats 4000000
namespace TH
open PySem PySem.Spec PyProof.Rows L2
section
variable {P : Program} {w : World} {K : PySem.W.Frag} {mg : Str → Option Value} {base : Heap}
/-! heard.py: neighbours, kinds -/
section
variable {α : Type} [DecidableEq α]
def insL (l : List α) (x : α) : List α := if x ∈ l then l else l ++ [x]
def insAll (L : List α) : List α := L.foldl insL []
theorem insAll_snoc (L : List α) (x : α) : insAll (L ++ [x]) = insL (insAll L) x := by simp [insAll]
theorem mem_insL {l : List α} {x y : α} : y ∈ insL l x ↔ y ∈ l ∨ y = x := by
  unfold insL
  by_cases h : x ∈ l
  · rw [if_pos h]
    exact ⟨.inl, fun z => z.elim id fun e => e ▸ h⟩
  · rw [if_neg h]
    simp
theorem insL_nodup {l : List α} {x : α} (h : l.Nodup) : (insL l x).Nodup := by
  unfold insL
  by_cases hx : x ∈ l
  · rw [if_pos hx]
    exact h
  · rw [if_neg hx]
    exact nd_snoc h hx
theorem mem_foldl : ∀ (L l : List α) (y : α), y ∈ L.foldl insL l ↔ y ∈ l ∨ y ∈ L
  | [], l, y => by simp
  | x :: L, l, y => by
    rw [List.foldl_cons, mem_foldl L, mem_insL, List.mem_cons]
    constructor
    · rintro ((h | h) | h)
      · exact .inl h
      · exact .inr (.inl h)
      · exact .inr (.inr h)
    · rintro (h | h | h)
      · exact .inl (.inl h)
      · exact .inl (.inr h)
      · exact .inr h
theorem mem_insAll {L : List α} {y : α} : y ∈ insAll L ↔ y ∈ L := by
  rw [insAll, mem_foldl]
  simp
theorem foldl_nodup : ∀ (L l : List α), l.Nodup → (L.foldl insL l).Nodup
  | [], l, h => h
  | x :: L, l, h => foldl_nodup L _ (insL_nodup h)
theorem insAll_nodup {L : List α} : (insAll L).Nodup := foldl_nodup L [] List.nodup_nil
theorem insL_len (l : List α) (x : α) : (insL l x).length ≤ l.length + 1 := by
  unfold insL
  split <;> simp
theorem foldl_len : ∀ (L l : List α), (L.foldl insL l).length ≤ l.length + L.length
  | [], l => by simp
  | x :: L, l => by
    have := foldl_len L (insL l x)
    have := insL_len l x
    simp only [List.foldl_cons, List.length_cons]
    omega
theorem insAll_len (L : List α) : (insAll L).length ≤ L.length := by
  have := foldl_len L []
  simpa [insAll] using this
end
theorem put_keys {κ : Type} [DecidableEq κ] {kvs : List (κ × V)} {k : κ} {v : V} : (putK kvs k v).map (·.1) = insL (kvs.map (·.1)) k := by
  unfold putK insL
  have e : (kvs.any fun kv => decide (kv.1 = k)) = decide (k ∈ kvs.map (·.1)) := by
    induction kvs with
    | nil => rfl
    | cons p r ih =>
      by_cases h : p.1 = k
      · simp [h]
      · have h' : ¬ k = p.1 := fun z => h z.symm
        simp [h, h', ih]
  by_cases h : k ∈ kvs.map (·.1)
  · rw [if_pos (by simpa using h), if_pos h, List.map_map]
    refine List.map_congr_left fun x _ => ?_
    by_cases q : x.1 = k
    · simp [q]
    · simp [q]
  · rw [if_neg (by simpa using h), if_neg h]
    simp
theorem ins_map {α β : Type} [DecidableEq α] [DecidableEq β] {f : α → β} (hf : ∀ a b, f a = f b → a = b) (l : List α) (x : α) : insL (l.map f) (f x) = (insL l x).map f := by
  unfold insL
  by_cases h : x ∈ l
  · rw [if_pos h, if_pos (List.mem_map.mpr ⟨x, h, rfl⟩)]
  · rw [if_neg h, if_neg fun z => h (by
      obtain ⟨y, hy, e⟩ := List.mem_map.mp z
      rw [← hf _ _ e]
      exact hy)]
    simp
theorem take_snoc {α : Type} {l : List α} {i : Nat} {x : α} (h : l[i]? = some x) : l.take (i + 1) = l.take i ++ [x] := by
  rw [List.take_succ, h]
  rfl
theorem map_at {α β : Type} {f : α → β} {l : List α} {i : Nat} {y : β} (h : (l.map f)[i]? = some y) : ∃ x, l[i]? = some x ∧ f x = y := by
  rw [List.getElem?_map] at h
  exact Option.map_eq_some_iff.mp h
def stOf (p : Pl) (s : Nat) : PState := (p.states[s]?).getD []
def pairsOf (p : Pl) (s : Nat) : List (Nat × Nat) := (stOf p s).flatMap fun q => (stOf p q.2).map fun r => (q.1, r.1)
def namesOf (p : Pl) (s : Nat) : List Nat := (stOf p s).map (·.1)
theorem stOf_at {p : Pl} {s : Nat} {st : PState} (h : p.states[s]? = some st) : stOf p s = st := by rw [stOf, h]; rfl
theorem stOf_lt {p : Pl} {s : Nat} (h : s < p.states.length) : p.states[s]? = some (stOf p s) := by
  rw [stOf, List.getElem?_eq_getElem h]
  rfl
theorem stOf_ok {names : List Nat} {p : Pl} (ok : PlOk names p) (s : Nat) : (stOf p s).length ≤ 2 ∧ ∀ q ∈ stOf p s, q.1 ∈ names ∧ q.2 < p.states.length := by
  by_cases h : s < p.states.length
  · have := ok.st _ (List.mem_of_getElem? (stOf_lt h))
    exact ⟨this.1, this.2.2⟩
  · rw [stOf, List.getElem?_eq_none (by omega)]
    exact ⟨Nat.zero_le _, fun q hq => nomatch hq⟩
theorem stOf_mem {p : Pl} {s c n : Nat} (h : (c, n) ∈ stOf p s) : ∃ st, p.states[s]? = some st ∧ (c, n) ∈ st := by
  unfold stOf at h
  cases e : p.states[s]? with
  | none =>
    rw [e] at h
    cases h
  | some st =>
    rw [e] at h
    exact ⟨st, rfl, h⟩
theorem nb_iff {p : Pl} {os : List Nat} (r : Reached p os) (a b : Nat) : (a, b) ∈ os.flatMap (pairsOf p) ↔ Nb p a b := by
  rw [List.mem_flatMap]
  constructor
  · rintro ⟨s, hs, h⟩
    obtain ⟨⟨c, s'⟩, h1, h2⟩ := List.mem_flatMap.mp h
    obtain ⟨⟨c2, s2⟩, h3, h4⟩ := List.mem_map.mp h2
    cases h4
    obtain ⟨st, e1, m1⟩ := stOf_mem h1
    obtain ⟨st', e2, m2⟩ := stOf_mem h3
    exact ⟨s, st, s', st', s2, r.to s hs, e1, m1, e2, m2⟩
  · rintro ⟨s, st, s', st', s2, hr, e1, m1, e2, m2⟩
    refine ⟨s, r.all s hr, List.mem_flatMap.mpr ⟨(a, s'), by rw [stOf_at e1]; exact m1, List.mem_map.mpr ⟨(b, s2), by rw [stOf_at e2]; exact m2, rfl⟩⟩⟩
theorem kd_iff {p : Pl} {os : List Nat} (r : Reached p os) (a : Nat) : a ∈ os.flatMap (namesOf p) ↔ Kd p a := by
  rw [List.mem_flatMap]
  constructor
  · rintro ⟨s, hs, h⟩
    obtain ⟨⟨c, s'⟩, h1, h2⟩ := List.mem_map.mp h
    cases h2
    obtain ⟨st, e1, m1⟩ := stOf_mem h1
    exact ⟨s, st, s', r.to s hs, e1, m1⟩
  · rintro ⟨s, st, s', hr, e1, m1⟩
    exact ⟨s, r.all s hr, List.mem_map.mpr ⟨(a, s'), by rw [stOf_at e1]; exact m1, rfl⟩⟩
theorem flat_len {α β : Type} (f : α → List β) (n : Nat) : ∀ (l : List α), (∀ x ∈ l, (f x).length ≤ n) → (l.flatMap f).length ≤ l.length * n
  | [], _ => by simp
  | x :: l, h => by
    have h1 := h x List.mem_cons_self
    have h2 := flat_len f n l fun y hy => h y (List.mem_cons_of_mem _ hy)
    rw [List.flatMap_cons, List.length_append, List.length_cons, Nat.add_mul, Nat.one_mul]
    omega
theorem pairs_len {names : List Nat} {p : Pl} (ok : PlOk names p) (s : Nat) : (pairsOf p s).length ≤ 4 := by
  have h := flat_len (fun q => (stOf p q.2).map fun r => (q.1, r.1)) 2 (stOf p s) fun q _ => by
    rw [List.length_map]
    exact (stOf_ok ok _).1
  have := (stOf_ok ok s).1
  unfold pairsOf
  omega
theorem os_len {names : List Nat} {p : Pl} {os : List Nat} (ok : PlOk names p) (r : Reached p os) : os.length ≤ 2 := by
  have := nodup_le r.nd r.lt
  have := ok.len
  omega
/-- the entries of a plan's state in the heap -/
theorem row_of {H : Hp} {sv : V} {p : Pl} (h : Tp K H sv (encStates p.states)) {s : Nat} (hs : s < p.states.length) : ∃ (sa : Addr) (xs : List V) (ta : Addr) (ys : List V), sv = .ref sa ∧ SqT K H sa xs ∧ xs[s]? = some (.ref ta) ∧ SqT K H ta ys ∧ TpAll K H ys ((stOf p s).map fun p => .tup [kC p.1, kN p.2]) := by
  obtain ⟨sa, xs, rfl, h1, _, hx⟩ := h.tup_inv
  obtain ⟨xk, gx, tk⟩ := hx.get (i := s) (k := encState (stOf p s)) (by rw [List.getElem?_map, stOf_lt hs]; rfl)
  obtain ⟨ta, ys, rfl, h2, _, hy⟩ := state_inv tk
  exact ⟨sa, xs, ta, ys, rfl, h1, gx, h2, hy⟩
theorem row_at {H : Hp} {st : PState} {ys : List V} {i : Nat} {x : V} (h : TpAll K H ys (st.map fun p => .tup [kC p.1, kN p.2])) (g : ys[i]? = some x) : ∃ c n b, st[i]? = some (c, n) ∧ x = .ref b ∧ SqT K H b [.str (one c), .int (n : Nat)] := by
  obtain ⟨k, gk, tk⟩ := h.at g
  obtain ⟨⟨c, n⟩, gq, rfl⟩ := map_at gk
  obtain ⟨b, rfl, hb⟩ := pair_inv tk
  exact ⟨c, n, b, gq, rfl, hb⟩
theorem nats_at {os : List Nat} {i : Nat} {x : V} (h : (natsV os)[i]? = some x) : ∃ s, os[i]? = some s ∧ x = .int (s : Nat) := by
  obtain ⟨s, h1, h2⟩ := map_at h
  exact ⟨s, h1, h2.symm⟩
/-- a dict whose keys are pairs of signs -/
def pKey (q : Nat × Nat) : List Key := [.inr (one q.1), .inr (one q.2)]
theorem pKey_inj (a b : Nat × Nat) (h : pKey a = pKey b) : a = b := by
  obtain ⟨a1, a2⟩ := a
  obtain ⟨b1, b2⟩ := b
  simp only [pKey, List.cons.injEq, Sum.inr.injEq, and_true] at h
  rw [one_inj h.1, one_inj h.2]
def PD (H : Hp) (t : Addr) (L : List (Nat × Nat)) : Prop := ∃ kvs, H t = some (.dT kvs) ∧ kvs.map (·.1) = (insAll L).map pKey
theorem PD.len {H : Hp} {t : Addr} {L : List (Nat × Nat)} {kvs : List (List Key × V)} (h : kvs.map (·.1) = (insAll L).map pKey) : kvs.length ≤ L.length := by
  have := congrArg List.length h
  have := insAll_len L
  simp only [List.length_map] at *
  omega
theorem PD.put {H : Hp} {t : Addr} {L : List (Nat × Nat)} {kvs : List (List Key × V)} {v : V} {a b : Nat} (h : kvs.map (·.1) = (insAll L).map pKey) : PD (upd H t (.dT (putK kvs (pKey (a, b)) v))) t (L ++ [(a, b)]) :=
  ⟨_, upd_same, by rw [put_keys, h, ins_map pKey_inj, insAll_snoc]⟩
def encPair (q : Nat × Nat) : NK := .tup [kC q.1, kC q.2]
theorem perm_map_inv {α β : Type} (f : α → β) : ∀ (l : List α) (m : List β), m.Perm (l.map f) → ∃ l' : List α, l'.Perm l ∧ m = l'.map f := by
  intro l m h
  have key : ∀ {m n : List β}, m.Perm n → ∀ l : List α, n = l.map f → ∃ l' : List α, l'.Perm l ∧ m = l'.map f := by
    intro m n h
    induction h with
    | nil =>
      intro l e
      exact ⟨l, .refl _, e⟩
    | cons x h ih =>
      intro l e
      cases l with
      | nil => cases e
      | cons y l =>
        rw [List.map_cons] at e
        obtain ⟨e1, e2⟩ := List.cons.inj e
        obtain ⟨l', h1, h2⟩ := ih l e2
        exact ⟨y :: l', h1.cons _, by rw [List.map_cons, ← e1, h2]⟩
    | swap x y n =>
      intro l e
      cases l with
      | nil => cases e
      | cons a l =>
        cases l with
        | nil => cases e
        | cons b l =>
          rw [List.map_cons, List.map_cons] at e
          obtain ⟨e1, e2⟩ := List.cons.inj e
          obtain ⟨e3, e4⟩ := List.cons.inj e2
          exact ⟨b :: a :: l, .swap _ _ _, by rw [List.map_cons, List.map_cons, e1, e3, e4]⟩
    | trans h1 h2 ih1 ih2 =>
      intro l e
      obtain ⟨l2, a1, a2⟩ := ih2 l e
      obtain ⟨l3, b1, b2⟩ := ih1 l2 a2
      exact ⟨l3, b1.trans a1, b2⟩
  exact key h l rfl
structure Twos (p : Pl) (tw : List (Nat × Nat)) : Prop where
  iff : ∀ a b, (a, b) ∈ tw ↔ Nb p a b
  len : tw.length ≤ 8
structure Kinds (p : Pl) (ks : List Nat) : Prop where
  iff : ∀ a, a ∈ ks ↔ Kd p a
  len : ks.length ≤ 4
  nd : ks.Nodup
theorem p_neighbours_of (T : Tx K mg) : Pr P w K mg base CX0 2 ["plan"] [] (He.ga K "neighbours_of")
    (fun vs H Q _ => ∃ (v : V) (p : Pl) (names : List Nat), vs = [v] ∧ IsPlan K H v p ∧ PlOk names p ∧ ∀ H' u tw, Same H H' → Tp K H' u (.tup (tw.map encPair)) → Twos p tw → Q u H') := by
  refine T.d_neighbours_of.pr scs_neighbours_of (fun vs H Q E h => ?_) (fun cdv A outer s H vs Q E hr h => ?_)
  · obtain ⟨v, p, row, rfl, _⟩ := h
    rfl
  · obtain ⟨v, p, names, rfl, hp, ok, q⟩ := h
    have hu := hu_of hr
    have hu65 := room65 hr
    refine ⟨_, (pss_cons (ps_set (i := 1) scs_neighbours_of.nd rfl (.inl rfl) pe_dnewT)
    (pss_cons (ps_for PassesOwn.never rfl (pi_list (pcall (p_reached_states T) (hr.mono (by decide)) (by rfl) T.g_reached_states pass0 (pa_cons (pv 0) pa_nil))) (pg_name (i := 2) scs_neighbours_of.nd rfl (.inl rfl) (.inl rfl))
      (pss_one (ps_for PassesOwn.never rfl (pi_tup (pe_ix ix_tup (pe_fld (pv 0) rfl) (pv 2) (fun _ _ => rfl))) (pg_tup rfl (pgs_cons (pg_name (i := 3) scs_neighbours_of.nd rfl (.inl rfl) (.inl rfl)) (pgs_cons (pg_name (i := 4) scs_neighbours_of.nd rfl (.inl rfl) (.inl rfl)) pgs_nil)))
        (pss_one (ps_for PassesOwn.never rfl (pi_tup (pe_ix ix_tup (pe_fld (pv 0) rfl) (pv 4) (fun _ _ => rfl))) (pg_tup rfl (pgs_cons (pg_name (i := 5) scs_neighbours_of.nd rfl (.inl rfl) (.inl rfl)) (pgs_cons (pg_name (i := 6) scs_neighbours_of.nd rfl (.inl rfl) (.inl rfl)) pgs_nil)))
          (pss_one (ps_dput hu (pv 1) (pe_tup (pa_cons (pv 3) (pa_cons (pv 5) pa_nil))) pe_bl rfl)))))))
    (pss_one (ps_ret (pe_callTy call_tupU (by rfl) T.z_tuple (by decide +kernel) (pa_cons (pe_callB (cr_sortedDT rfl hu65) (by rfl) T.z_sorted (by decide +kernel) (pa_cons (pv 1) pa_nil)) pa_nil)))))), ?_⟩
    obtain ⟨a, dx, fs, sv, rfl, ha, l, tp⟩ := hp.ex
    intro t nt
    have s0 : Same H (upd H t (.dT [])) := same_upd nt
    refine ⟨_, rfl, _, p, names, rfl, hp.same s0, ok, fun H1 o os s1 no eo ro => ?_⟩
    have no' : t ≠ o := fun e => by
      rw [← e, upd_same] at no
      cases no
    refine ⟨o, rfl, ⟨_, .inl (.inl eo)⟩, for_it (walk_list (xs := natsV os)) (fun i σ H' => Same H H' ∧ H' o = some (.lst (natsV os)) ∧ PD H' t ((os.take i).flatMap (pairsOf p)) ∧ ∃ x2 x3 x4 x5 x6, σ = [some (.ref a), some (.ref t), x2, x3, x4, x5, x6])
      ⟨s0.trans s1, eo, ⟨[], s1 _ _ upd_same, rfl⟩, _, _, _, _, _, rfl⟩ (fun i σ H' _ h => .inl (.inl h.2.1)) (fun i x σ H1 H2 hi h y => ?_) fun σ H' h => ?_⟩
    · obtain ⟨s2, e2, pd, x2, x3, x4, x5, x6, rfl⟩ := h
      obtain ⟨rfl, g⟩ := y
      obtain ⟨s', gs, rfl⟩ := nats_at g
      have ls := ro.lt _ (List.mem_of_getElem? gs)
      obtain ⟨sa, xs, ta, ys, rfl, hs, gx, hs2, hy⟩ := row_of tp ls
      have L0 : ((os.take i).flatMap (pairsOf p)).length ≤ 8 := by
        have := flat_len (pairsOf p) 4 (os.take i) fun s _ => pairs_len ok s
        have := os_len ok ro
        have : (os.take i).length ≤ 2 := by rw [List.length_take]; omega
        omega
      refine ⟨_, rfl, a, _, dx, fs, _, rfl, s2 _ _ ha, T.c_Plan, T.n_Plan_states, l, _, rfl, sa, _, _, _, rfl, rfl, s2.tup hs, atI_nat gx, ta, rfl, ⟨ys, s2.tup hs2⟩, ?_⟩
      refine for_it (walk_tup (xs := ys)) (fun j σ H' => Same H H' ∧ H' o = some (.lst (natsV os)) ∧ PD H' t ((os.take i).flatMap (pairsOf p) ++ ((stOf p s').take j).flatMap fun q => (stOf p q.2).map fun r => (q.1, r.1)) ∧ ∃ x3 x4 x5 x6, σ = [some (.ref a), some (.ref t), some (.int (s' : Nat)), x3, x4, x5, x6])
        ⟨s2, e2, by simpa using pd, _, _, _, _, rfl⟩ (fun i σ H' _ h => h.1.tup hs2) (fun j x σ H1 H2' hj h y => ?_) fun σ H' h => ?_
      · obtain ⟨s3, e3, pd3, x3, x4, x5, x6, rfl⟩ := h
        obtain ⟨rfl, g⟩ := y
        obtain ⟨c, n, b, gq, rfl, hb⟩ := row_at hy g
        have ln := ((stOf_ok ok _).2 _ (List.mem_of_getElem? gq)).2
        obtain ⟨sa', xs', ta', ys', esa, hs', gx', hs2', hy'⟩ := row_of tp ln
        cases esa
        have L1 : (((stOf p s').take j).flatMap fun q => (stOf p q.2).map fun r => (q.1, r.1)).length ≤ 4 := by
          have h := flat_len (fun q : Nat × Nat => (stOf p q.2).map fun r => (q.1, r.1)) 2 ((stOf p s').take j) fun q _ => by
            rw [List.length_map]
            exact (stOf_ok ok _).1
          have := (stOf_ok ok s').1
          have : ((stOf p s').take j).length ≤ 2 := by rw [List.length_take]; omega
          omega
        refine ⟨b, _, rfl, s3.tup hb, rfl, _, _, rfl, _, _, rfl, rfl, ?_⟩
        refine ⟨_, rfl, a, _, dx, fs, _, rfl, s3 _ _ ha, T.c_Plan, T.n_Plan_states, l, _, rfl, sa, _, _, _, rfl, rfl, s3.tup hs', atI_nat gx', ta', rfl, ⟨ys', s3.tup hs2'⟩, ?_⟩
        refine for_it (walk_tup (xs := ys')) (fun k σ H' => Same H H' ∧ H' o = some (.lst (natsV os)) ∧ PD H' t (((os.take i).flatMap (pairsOf p) ++ ((stOf p s').take j).flatMap fun q => (stOf p q.2).map fun r => (q.1, r.1)) ++ ((stOf p n).take k).map fun r => (c, r.1)) ∧ ∃ x5 x6, σ = [some (.ref a), some (.ref t), some (.int (s' : Nat)), some (.str (one c)), some (.int (n : Nat)), x5, x6])
          ⟨s3, e3, by simpa using pd3, _, _, rfl⟩ (fun i σ H' _ h => h.1.tup hs2') (fun k x σ H1 H2' hk h y => ?_) fun σ H' h => ?_
        · obtain ⟨s4, e4, ⟨kvs, hk4, ek4⟩, x5, x6, rfl⟩ := h
          obtain ⟨rfl, g⟩ := y
          obtain ⟨c2, n2, b2, gq2, rfl, hb2⟩ := row_at hy' g
          refine ⟨b2, _, rfl, s4.tup hb2, rfl, _, _, rfl, _, _, rfl, rfl, ?_⟩
          have lk := PD.len (t := t) (H := H2') ek4
          have lk2 : kvs.length ≤ 100 := by
            have : (((stOf p n).take k).map fun r => (c, r.1)).length ≤ 2 := by
              have := (stOf_ok ok n).1
              rw [List.length_map, List.length_take]
              omega
            simp only [List.length_append] at lk
            omega
          refine ⟨_, rfl, _, rfl, _, rfl, by show 2 ≤ sizeLine; decide, fun u nu => ⟨t, _, rfl, DPut.t (kvs := kvs) (k := pKey (c, c2)) ?_ upd_same (sz2l (by omega)), ?_⟩⟩
          · rw [upd_ne (fun z => by rw [z, nu] at hk4; cases hk4)]
            exact hk4
          · have nto : o ≠ t := no'.symm
            have s5 : Same H (upd H2' u (.tup [.str (one c), .str (one c2)])) := s4.upd nu
            refine ⟨s5.sb nt sb_upd, ?_, ?_, _, _, rfl⟩
            · rw [upd_ne nto, upd_ne (fun z => by rw [z, nu] at e4; cases e4)]
              exact e4
            · rw [take_snoc gq2, List.map_append, ← List.append_assoc]
              exact PD.put ek4
        · obtain ⟨s4, e4, pd4, x5, x6, rfl⟩ := h
          refine ⟨s4, e4, ?_, _, _, _, _, rfl⟩
          have ly : ys'.length = (stOf p n).length := by simpa using hy'.length
          rw [ly, List.take_length] at pd4
          rw [take_snoc gq, List.flatMap_append, ← List.append_assoc]
          simpa using pd4
      · obtain ⟨s3, e3, pd3, x3, x4, x5, x6, rfl⟩ := h
        refine ⟨s3, e3, ?_, _, _, _, _, _, rfl⟩
        have ly : ys.length = (stOf p s').length := by simpa using hy.length
        rw [ly, List.take_length] at pd3
        rw [take_snoc gs, List.flatMap_append]
        simpa [pairsOf] using pd3
    · obtain ⟨s2, e2, ⟨kvs, hk2, ek2⟩, x2, x3, x4, x5, x6, rfl⟩ := h
      have lo : (natsV os).length = os.length := by simp [natsV]
      rw [lo, List.take_length] at ek2
      refine ⟨_, rfl, t, kvs, (insAll (os.flatMap (pairsOf p))).map fun q => (one q.1, one q.2), rfl, hk2, by rw [ek2, List.map_map]; rfl, fun ys ls p' np pm ll tpy => ?_⟩
      rw [List.map_map] at pm
      obtain ⟨tw, pt, rfl⟩ := perm_map_inv _ _ _ pm
      have s3 : Same H (upd H' p' (.lst ys)) := s2.upd np
      refine ⟨p', ys, rfl, .inl (.inl (.inl upd_same)), fun u H3 s4 hu3 => ?_⟩
      have lt : tw.length ≤ 8 := by
        rw [pt.length_eq]
        have := insAll_len (os.flatMap (pairsOf p))
        have := flat_len (pairsOf p) 4 os fun s _ => pairs_len ok s
        have := os_len ok ro
        omega
      have ly : ys.length = tw.length := by simpa using ll
      refine q H3 (.ref u) tw (s3.trans s4) (.tup hu3 (by omega) ?_) ⟨fun a b => ?_, lt⟩
      · exact (tpy.same (same_upd np)).same s4
      · rw [pt.mem_iff, mem_insAll]
        exact nb_iff ro a b
/-- a dict whose keys are signs -/
def cKey (c : Nat) : Key := .inr (one c)
theorem cKey_inj (a b : Nat) (h : cKey a = cKey b) : a = b := one_inj (Sum.inr.inj h)
def CD (H : Hp) (t : Addr) (L : List Nat) : Prop := ∃ kvs : List (Key × V), H t = some (.dK kvs) ∧ kvs.map (·.1) = (insAll L).map cKey
theorem CD.len {L : List Nat} {kvs : List (Key × V)} (h : kvs.map (·.1) = (insAll L).map cKey) : kvs.length ≤ L.length := by
  have := congrArg List.length h
  have := insAll_len L
  simp only [List.length_map] at *
  omega
theorem CD.put {H : Hp} {t : Addr} {L : List Nat} {kvs : List (Key × V)} {v : V} {a : Nat} (h : kvs.map (·.1) = (insAll L).map cKey) : CD (upd H t (.dK (putK kvs (cKey a) v))) t (L ++ [a]) :=
  ⟨_, upd_same, by rw [put_keys, h, ins_map cKey_inj, insAll_snoc]⟩
theorem names_len {names : List Nat} {p : Pl} (ok : PlOk names p) (s : Nat) : (namesOf p s).length ≤ 2 := by
  have := (stOf_ok ok s).1
  simpa [namesOf] using this
theorem nodup_perm {α : Type} {l m : List α} (h : l.Perm m) (n : m.Nodup) : l.Nodup := h.nodup_iff.mpr n
theorem p_kinds_of_columns (T : Tx K mg) : Pr P w K mg base CX0 2 ["plan"] [] (He.ga K "kinds_of_columns")
    (fun vs H Q _ => ∃ (v : V) (p : Pl) (names : List Nat), vs = [v] ∧ IsPlan K H v p ∧ PlOk names p ∧ ∀ H' u ks, Same H H' → PlTup H' u → Tp K H' u (.tup (ks.map kC)) → Kinds p ks → Q u H') := by
  refine T.d_kinds_of_columns.pr scs_kinds_of_columns (fun vs H Q E h => ?_) (fun cdv A outer s H vs Q E hr h => ?_)
  · obtain ⟨v, p, row, rfl, _⟩ := h
    rfl
  · obtain ⟨v, p, names, rfl, hp, ok, q⟩ := h
    have hu := hu_of hr
    refine ⟨_, (pss_cons (ps_set (i := 1) scs_kinds_of_columns.nd rfl (.inl rfl) pe_dnewK)
    (pss_cons (ps_for PassesOwn.never rfl (pi_list (pcall (p_reached_states T) (hr.mono (by decide)) (by rfl) T.g_reached_states pass0 (pa_cons (pv 0) pa_nil))) (pg_name (i := 2) scs_kinds_of_columns.nd rfl (.inl rfl) (.inl rfl))
      (pss_one (ps_for PassesOwn.never rfl (pi_tup (pe_ix ix_tup (pe_fld (pv 0) rfl) (pv 2) (fun _ _ => rfl))) (pg_tup rfl (pgs_cons (pg_name (i := 3) scs_kinds_of_columns.nd rfl (.inl rfl) (.inl rfl)) (pgs_cons (pg_name (i := 4) scs_kinds_of_columns.nd rfl (.inl rfl) (.inl rfl)) pgs_nil)))
        (pss_one (ps_dput hu (pv 1) (pv 3) pe_bl rfl)))))
    (pss_one (ps_ret (pe_callTy call_tupF (by rfl) T.z_tuple (by decide +kernel) (pa_cons (pe_callB (call_sortedD rfl) (by rfl) T.z_sorted (by decide +kernel) (pa_cons (pv 1) pa_nil)) pa_nil)))))), ?_⟩
    obtain ⟨a, dx, fs, sv, rfl, ha, l, tp⟩ := hp.ex
    intro t nt
    have s0 : Same H (upd H t (.dK [])) := same_upd nt
    refine ⟨_, rfl, _, p, names, rfl, hp.same s0, ok, fun H1 o os s1 no eo ro => ?_⟩
    have no' : t ≠ o := fun e => by
      rw [← e, upd_same] at no
      cases no
    refine ⟨o, rfl, ⟨_, .inl (.inl eo)⟩, for_it (walk_list (xs := natsV os)) (fun i σ H' => Same H H' ∧ H' o = some (.lst (natsV os)) ∧ CD H' t ((os.take i).flatMap (namesOf p)) ∧ ∃ x2 x3 x4, σ = [some (.ref a), some (.ref t), x2, x3, x4])
      ⟨s0.trans s1, eo, ⟨[], s1 _ _ upd_same, rfl⟩, _, _, _, rfl⟩ (fun i σ H' _ h => .inl (.inl h.2.1)) (fun i x σ H1 H2 hi h y => ?_) fun σ H' h => ?_⟩
    · obtain ⟨s2, e2, pd, x2, x3, x4, rfl⟩ := h
      obtain ⟨rfl, g⟩ := y
      obtain ⟨s', gs, rfl⟩ := nats_at g
      have ls := ro.lt _ (List.mem_of_getElem? gs)
      obtain ⟨sa, xs, ta, ys, rfl, hs, gx, hs2, hy⟩ := row_of tp ls
      have L0 : ((os.take i).flatMap (namesOf p)).length ≤ 4 := by
        have := flat_len (namesOf p) 2 (os.take i) fun s _ => names_len ok s
        have := os_len ok ro
        have : (os.take i).length ≤ 2 := by rw [List.length_take]; omega
        omega
      refine ⟨_, rfl, a, _, dx, fs, _, rfl, s2 _ _ ha, T.c_Plan, T.n_Plan_states, l, _, rfl, sa, _, _, _, rfl, rfl, s2.tup hs, atI_nat gx, ta, rfl, ⟨ys, s2.tup hs2⟩, ?_⟩
      refine for_it (walk_tup (xs := ys)) (fun k σ H' => Same H H' ∧ H' o = some (.lst (natsV os)) ∧ CD H' t ((os.take i).flatMap (namesOf p) ++ ((stOf p s').take k).map (·.1)) ∧ ∃ x3 x4, σ = [some (.ref a), some (.ref t), some (.int (s' : Nat)), x3, x4])
        ⟨s2, e2, by simpa using pd, _, _, rfl⟩ (fun i σ H' _ h => h.1.tup hs2) (fun k x σ H1 H2' hk h y => ?_) fun σ H' h => ?_
      · obtain ⟨s4, e4, ⟨kvs, hk4, ek4⟩, x5, x6, rfl⟩ := h
        obtain ⟨rfl, g⟩ := y
        obtain ⟨c2, n2, b2, gq2, rfl, hb2⟩ := row_at hy g
        refine ⟨b2, _, rfl, s4.tup hb2, rfl, _, _, rfl, _, _, rfl, rfl, ?_⟩
        have lk := CD.len ek4
        have lk2 : kvs.length ≤ 100 := by
          have : (((stOf p s').take k).map (·.1)).length ≤ 2 := by
            have := (stOf_ok ok s').1
            rw [List.length_map, List.length_take]
            omega
          simp only [List.length_append] at lk
          omega
        refine ⟨_, rfl, _, rfl, t, _, rfl, DPut.k (k := cKey c2) hk4 (sz2l (by omega)), ?_⟩
        refine ⟨s4.sb nt sb_upd, ?_, ?_, _, _, rfl⟩
        · rw [upd_ne no'.symm]
          exact e4
        · rw [take_snoc gq2, List.map_append, ← List.append_assoc]
          exact CD.put ek4
      · obtain ⟨s4, e4, pd4, x5, x6, rfl⟩ := h
        refine ⟨s4, e4, ?_, _, _, _, rfl⟩
        have ly : ys.length = (stOf p s').length := by simpa using hy.length
        rw [ly, List.take_length] at pd4
        rw [take_snoc gs, List.flatMap_append]
        simpa [namesOf] using pd4
    · obtain ⟨s2, e2, ⟨kvs, hk2, ek2⟩, x2, x3, x4, rfl⟩ := h
      have lo : (natsV os).length = os.length := by simp [natsV]
      rw [lo, List.take_length] at ek2
      have lt : (insAll (os.flatMap (namesOf p))).length ≤ 4 := by
        have := insAll_len (os.flatMap (namesOf p))
        have := flat_len (namesOf p) 2 os fun s _ => names_len ok s
        have := os_len ok ro
        omega
      refine ⟨_, rfl, t, kvs, (insAll (os.flatMap (namesOf p))).map one, rfl, .inl hk2, by rw [ek2, List.map_map]; rfl, by rw [List.length_map]; omega, fun ys p' pm _ np => ?_⟩
      obtain ⟨ks, pt, rfl⟩ := perm_map_inv _ _ _ pm
      refine ⟨p', _, rfl, .inl (.inl upd_same), fun u H3 s4 hu3 pk => ?_⟩
      have lk : ks.length ≤ 4 := by rw [pt.length_eq]; exact lt
      refine q H3 (.ref u) ks ((s2.upd np).trans s4) pk (.tup hu3 (by simp only [List.length_map]; omega) ?_) ⟨fun a => ?_, lk, nodup_perm pt insAll_nodup⟩
      · have := TpAll.strs (K := K) (H := H3) (ks.map one)
        rw [List.map_map, List.map_map] at this
        rw [List.map_map]
        exact this
      · rw [pt.mem_iff, mem_insAll]
        exact kd_iff ro a

end
end TH
end
section
set_option Elab.async false
set_option linter.all false
set_option maxRecDepth 100000
set_option maxHeartbeats 4000000
namespace TH
open PySem PySem.Spec PyProof.Rows L2
section
variable {P : Program} {w : World} {K : PySem.W.Frag} {mg : Str → Option Value} {base : Heap}
/-! drills.py -/
theorem iteS {c A B : Prop} [Decidable c] (hc : c) (h : A) : if decide c = true then A else B := by
  rw [decide_eq_true hc]
  exact iteT h
theorem iteN {c A B : Prop} [Decidable c] (hc : ¬ c) (h : B) : if decide c = true then A else B := by
  rw [decide_eq_false hc]
  exact iteF h
theorem iteNN {c A B : Prop} [Decidable c] (hc : ¬ c) (h : A) : if (!decide c) = true then A else B := by
  rw [decide_eq_false hc]
  exact iteT h
theorem iteD {c A B : Prop} [Decidable c] (h1 : c → A) (h2 : ¬ c → B) : if decide c = true then A else B := ite2 (fun e => h1 (of_decide_eq_true e)) (fun e => h2 fun z => e (decide_eq_true z))
theorem rowk_inv {H : Hp} {v : V} {r : Row} (h : Tp K H v (encRow r)) : ∃ a b, v = .ref a ∧ SqT K H a [.int r.stride, .int r.body, .ref b] ∧ SqT K H b (natsV r.nexts) ∧ (natsV r.nexts).length ≤ 2000 := by
  obtain ⟨a, xs, rfl, hs, _, ha⟩ := h.tup_inv
  cases ha with
  | cons h1 h2 =>
    cases h2 with
    | cons h2 h3 =>
      cases h3 with
      | cons h3 h4 =>
        cases h4
        obtain ⟨b, ys, rfl, hb, lb, hy⟩ := h3.tup_inv
        rw [nats_inv hy] at hb lb
        rw [h1.int_inv, h2.int_inv] at hs
        exact ⟨a, b, rfl, hs, hb, lb⟩
theorem rows_inv {H : Hp} {v : V} {rs : List Row} (h : Tp K H v (encRows rs)) : ∃ a xs, v = .ref a ∧ SqT K H a xs ∧ xs.length = rs.length ∧ TpAll K H xs (rs.map encRow) := by
  obtain ⟨a, xs, rfl, hs, _, ha⟩ := h.tup_inv
  exact ⟨a, xs, rfl, hs, by simpa using ha.length, ha⟩
theorem rows_at {H : Hp} {rs : List Row} {xs : List V} {i : Nat} {x : V} (h : TpAll K H xs (rs.map encRow)) (g : xs[i]? = some x) : ∃ r, rs[i]? = some r ∧ Tp K H x (encRow r) := by
  obtain ⟨k, gk, tk⟩ := h.at g
  obtain ⟨r, gr, rfl⟩ := map_at gk
  exact ⟨r, gr, tk⟩
theorem p_is_standing (T : Tx K mg) : Pr P w K mg base CX0 2 ["words", "many", "thing"] [] (He.ga K "is_standing")
    (fun vs H Q _ => ∃ (ws : List Nat) (many : Nat) (x : V) (r : Row), vs = [.str (str ws), .int (many : Nat), x] ∧ Tp K H x (encRow r) ∧ RowOk many ws.length r ∧ ws.length ≤ 2 ∧ ∀ H', Same H H' → Q (.bl true) H') := by
  refine T.d_is_standing.pr scs_is_standing (fun vs H Q E h => ?_) (fun cdv A outer s H vs Q E hr h => ?_)
  · obtain ⟨ws, many, x, r, rfl, _⟩ := h
    rfl
  · obtain ⟨ws, many, x, r, rfl, hx, ok, lw, q⟩ := h
    obtain ⟨a, b, rfl, ha, hb, lb⟩ := rowk_inv hx
    refine ⟨_, (pss_cons (ps_if (pw_or (pt_not (pt_val (pe_callB call_isiS (by rfl) T.z_isinstance (by decide +kernel) (pa_cons (pv 2) (pa_cons (pe_bltn (v := .ty "tuple") (by rfl) T.z_tuple (by decide +kernel : bootBuiltins "tuple" = some (.type "tuple")) rfl) pa_nil))))) (pw_or1 (pt_cmpR op_ne (pe_callB call_len_seq (by rfl) T.z_len PySem.boot_len (pa_cons (pv 2) pa_nil)) pe_int (nomark _)))).pt
      (pss_one (ps_ret pe_bl))
      pss_nil)
    (pss_cons (ps_if (pw_or (pt_not (pt_val (pcall (p_is_integer T) (hr.mono (by decide)) (by rfl) T.g_is_integer pass0 (pa_cons (pe_ix ix_tup (pv 2) pe_int (fun _ _ => rfl)) (pa_cons (pe_un un_neg pe_int) (pa_cons pe_int pa_nil)))))) (pw_or1 (pt_not (pt_val (pcall (p_is_integer T) (hr.mono (by decide)) (by rfl) T.g_is_integer pass0 (pa_cons (pe_ix ix_tup (pv 2) pe_int (fun _ _ => rfl)) (pa_cons pe_int (pa_cons pe_int pa_nil)))))))).pt
      (pss_one (ps_ret pe_bl))
      pss_nil)
    (pss_cons (ps_if (pw_or (pt_not (pt_val (pe_callB call_isiS (by rfl) T.z_isinstance (by decide +kernel) (pa_cons (pe_ix ix_tup (pv 2) pe_int (fun _ _ => rfl)) (pa_cons (pe_bltn (v := .ty "tuple") (by rfl) T.z_tuple (by decide +kernel : bootBuiltins "tuple" = some (.type "tuple")) rfl) pa_nil))))) (pw_or1 (pt_cmpR op_ne (pe_callB call_len_seq (by rfl) T.z_len PySem.boot_len (pa_cons (pe_ix ix_tup (pv 2) pe_int (fun _ _ => rfl)) pa_nil)) (pe_op op_add (pe_callB call_len_str (by rfl) T.z_len PySem.boot_len (pa_cons (pv 0) pa_nil)) pe_int) (nomark _)))).pt
      (pss_one (ps_ret pe_bl))
      pss_nil)
    (pss_one (ps_ret (pe_callB (cr_all rfl) (by rfl) T.z_all (by decide +kernel) (pa_cons (pe_lc (own := [("number", 3)]) rfl scs_is_standing.nd (pi_tup (pe_ix ix_tup (pv 2) pe_int (fun _ _ => rfl))) (blkOk_by (N := ["words", "many", "thing", "number"]) (sc := defScope s_is_standing) (by decide +kernel)) (fun _ _ _ _ _ => (pg_name (i := 3) scs_is_standing.nd rfl (.inl rfl) (.inr rfl))) (fun _ _ _ _ _ => pts_nil) (fun _ _ _ _ _ => (pcall (p_is_integer T) (hr.mono (by decide)) (by rfl) T.g_is_integer pass0 (pa_cons (pv 3) (pa_cons pe_int (pa_cons (pe_op op_sub (pv 1) pe_int) pa_nil)))))) pa_nil))))))), ?_⟩
    refine ⟨_, rfl, _, _, "tuple", true, rfl, ty_tup ha, by decide +kernel, true, rfl, iteF ?_⟩
    refine ⟨_, rfl, a, _, rfl, .inr ha, rfl, _, rfl, iteNS rfl ?_⟩
    refine ⟨_, rfl, a, _, 0, _, rfl, rfl, ha, rfl, 3, rfl, r.stride, -3, 3, rfl, ?_⟩
    rw [decide_eq_true ok.s]
    refine ⟨true, rfl, iteF ?_⟩
    refine ⟨_, rfl, a, _, 1, _, rfl, rfl, ha, rfl, r.body, 1, 12, rfl, ?_⟩
    rw [decide_eq_true ok.b]
    refine ⟨true, rfl, iteF ?_⟩
    refine ⟨_, rfl, a, _, 2, _, rfl, rfl, ha, rfl, _, _, "tuple", true, rfl, ty_tup hb, by decide +kernel, true, rfl, iteF ?_⟩
    have ln : (natsV r.nexts).length = ws.length + 1 := by simp [natsV, ok.l]
    refine ⟨_, rfl, a, _, 2, _, rfl, rfl, ha, rfl, b, _, rfl, .inr hb, _, rfl, str ws, rfl, by rw [str_len]; exact sz2 (by omega), ((str ws).length : Nat), 1, rfl, rfl, rfl, _, rfl, iteNS (by rw [ln, str_len]; rfl) ?_⟩
    refine ⟨_, rfl, a, _, 2, _, rfl, rfl, ha, rfl, b, rfl, ⟨_, hb⟩, fun D hD => lc_map (walk_tup (xs := natsV r.nexts)) hD (by omega) (fun H' s' => s'.tup hb) (fun i acc _ => acc = List.replicate i (.bl true)) (fun _ _ _ _ _ h => h) rfl (fun i x H1 H2 acc k ks hi1 s1 a1 l1 y hk _ => ?_) fun H1 acc s1 eD lD aD => ?_⟩
    · obtain ⟨rfl, g⟩ := y
      obtain ⟨n, gn, rfl⟩ := nats_at g
      refine ⟨rfl, yes_if ⟨_, rfl, _, rfl, (many : Nat), 1, rfl, rfl, (n : Nat), 0, ((many : Nat) - 1 : Int), rfl, ?_⟩⟩
      have := ok.n n (List.mem_of_getElem? gn)
      rw [decide_eq_true (show (0 : Int) ≤ (n : Int) ∧ (n : Int) ≤ ((many : Nat) - 1 : Int) by omega)]
      refine hk _ _ (Same.refl _) ?_
      rw [a1, List.replicate_succ']
    · rw [aD] at eD
      refine ⟨D, _, rfl, acc_true eD, ?_⟩
      rw [all_true]
      exact q _ s1
theorem p_bad_standing (T : Tx K mg) : Pr P w K mg base CX0 3 ["words", "standings"] [] (He.ga K "bad_standing")
    (fun vs H Q _ => ∃ (ws : List Nat) (x : V) (rs : List Row), vs = [.str (str ws), x] ∧ Tp K H x (encRows rs) ∧ RowsOk ws.length rs ∧ ws.length ≤ 2 ∧ ∀ H', Same H H' → Q .non H') := by
  refine T.d_bad_standing.pr scs_bad_standing (fun vs H Q E h => ?_) (fun cdv A outer s H vs Q E hr h => ?_)
  · obtain ⟨ws, x, rs, rfl, _⟩ := h
    rfl
  · obtain ⟨ws, x, rs, rfl, hx, ok, lw, q⟩ := h
    obtain ⟨a, xs, rfl, ha, lx, tx⟩ := rows_inv hx
    have hl := ok.len
    refine ⟨_, (pss_cons (ps_if (pw_or (pt_not (pt_val (pe_callB call_isiS (by rfl) T.z_isinstance (by decide +kernel) (pa_cons (pv 1) (pa_cons (pe_bltn (v := .ty "tuple") (by rfl) T.z_tuple (by decide +kernel : bootBuiltins "tuple" = some (.type "tuple")) rfl) pa_nil))))) (pw_or1 (pt_not (pt_chain op_le op_le pe_int (pe_callB call_len_seq (by rfl) T.z_len PySem.boot_len (pa_cons (pv 1) pa_nil)) pe_int)))).pt
      (pss_one (ps_ret (pe_un un_neg pe_int)))
      pss_nil)
    (pss_cons (ps_for PassesOwn.never rfl (pi_en (by rfl) T.z_enumerate (pa_cons (pv 1) pa_nil)) (pg_tup rfl (pgs_cons (pg_name (i := 2) scs_bad_standing.nd rfl (.inl rfl) (.inl rfl)) (pgs_cons (pg_name (i := 3) scs_bad_standing.nd rfl (.inl rfl) (.inl rfl)) pgs_nil)))
      (pss_cons (ps_if (pt_not (pt_val (pcall (p_is_standing T) (hr.mono (by decide)) (by rfl) T.g_is_standing pass0 (pa_cons (pv 0) (pa_cons (pe_callB call_len_seq (by rfl) T.z_len PySem.boot_len (pa_cons (pv 1) pa_nil)) (pa_cons (pv 3) pa_nil))))))
        (pss_one (ps_ret (pv 2)))
        pss_nil)
      (pss_one (ps_if (pw_and (pt_cmpR op_eq (pv 2) pe_int (nomark _)) (pw_and1 (pw_or (pt_cmpR op_ne (pe_ix ix_tup (pv 3) pe_int (fun _ _ => rfl)) pe_int (nomark _)) (pw_or1 (pt_cmpR op_ne (pe_ix ix_tup (pe_ix ix_tup (pv 3) pe_int (fun _ _ => rfl)) pe_int (fun _ _ => rfl)) pe_int (nomark _)))).pt)).pt
        (pss_one (ps_ret pe_int))
        pss_nil))))
    (pss_one (ps_ret pe_non)))), ?_⟩
    refine ⟨_, rfl, _, _, "tuple", true, rfl, ty_tup ha, by decide +kernel, true, rfl, iteF ?_⟩
    refine ⟨_, rfl, a, xs, rfl, .inr ha, 1, (xs.length : Nat), rfl, rfl, _, rfl, ?_⟩
    rw [decide_eq_true (show (1 : Int) ≤ (xs.length : Nat) by omega)]
    refine iteT ⟨(xs.length : Nat), 6, rfl, rfl, _, rfl, ?_⟩
    rw [decide_eq_true (show ((xs.length : Nat) : Int) ≤ 6 by omega)]
    refine iteF ⟨_, rfl, .tup a, xs, rfl, ha, for_it (walk_en (K := K) (s1 := .tup a) (xs := xs)) (fun i σ H1 => Same H H1 ∧ ∃ x2 x3, σ = [some (.str (str ws)), some (.ref a), x2, x3]) ⟨Same.refl _, _, _, rfl⟩ (fun i σ H1 _ h => h.1.tup ha) (fun i x σ H1 H2 hi h y => ?_) fun σ H1 h => q _ h.1⟩
    obtain ⟨s1, x2, x3, rfl⟩ := h
    obtain ⟨Tq, x1, rfl, nT, s2, e2, g1⟩ := y
    obtain ⟨r, gr, tr⟩ := rows_at tx g1
    have rok := ok.row r (List.mem_of_getElem? gr)
    have s3 := s1.trans s2
    refine ⟨Tq, _, rfl, .inl (.inl e2), rfl, _, _, rfl, _, _, rfl, rfl, ?_⟩
    refine ⟨_, rfl, _, rfl, a, xs, rfl, .inr (s3.tup ha), _, rfl, ws, rs.length, x1, r, by rw [lx]; rfl, tr.same s3, rok, lw, fun H4 s4 => ⟨true, rfl, iteF ?_⟩⟩
    refine ⟨_, rfl, rfl, _, rfl, iteD (fun e => ?_) (fun e => ⟨s3.trans s4, _, _, rfl⟩)⟩
    have e0 : i = 0 := by
      have := V.int.inj e
      omega
    subst e0
    obtain ⟨b, c, rfl, hb, hc, _⟩ := rowk_inv (tr.same (s3.trans s4))
    refine ⟨_, rfl, b, _, 0, _, rfl, rfl, hb, rfl, rfl, _, rfl, iteNS (by rw [ok.rest r gr]) ?_⟩
    have := ok.still 0 r gr
    refine ⟨_, rfl, b, _, 2, _, rfl, rfl, hb, rfl, c, _, 0, _, rfl, rfl, hc, atI_nat (natsV_at this), rfl, _, rfl, iteNS rfl ⟨s3.trans s4, _, _, rfl⟩⟩

/-! ### an object that is being made -/
structure Bld (H H' : Hp) (x C dx : Addr) (fs : List (Str × V)) : Prop where
  s : Sb x H H'
  o : H' x = some (.ins C dx fs)
theorem Bld.grow {H H1 H2 : Hp} {x C dx : Addr} {fs : List (Str × V)} (b : Bld H H1 x C dx fs) (s : Same H1 H2) : Bld H H2 x C dx fs := ⟨b.s.trans (Sb.of s), s _ _ b.o⟩
theorem Bld.put {H H1 : Hp} {x C dx : Addr} {fs gs : List (Str × V)} (b : Bld H H1 x C dx fs) : Bld H (upd H1 x (.ins C dx gs)) x C dx gs := ⟨b.s.trans sb_upd, upd_same⟩
/-- a change of one's own instance keeps the tuples -/
theorem sb_ins {H H' : Hp} {d C dx : Addr} {fs : List (Str × V)} (s : Sb d H H') (e : H d = some (.ins C dx fs)) : Kt K H H' := fun a xs h => by
  rcases h with (h | ⟨o, h⟩) | h
  · exact .inl (.inl (s _ _ (fun z => by rw [z, e] at h; cases h) h))
  · exact .inl (.inr ⟨o, s _ _ (fun z => by rw [z, e] at h; cases h) h⟩)
  · exact .inr h
theorem made_same {H : Hp} {x dx C : Addr} {fs : List (Str × V)} (hx : H x = none) (hd : H dx = none) (ne : dx ≠ x) : Same H (upd (upd H dx (.own x)) x (.ins C dx fs)) := (same_upd hd).upd (by rw [upd_ne ne.symm]; exact hx)
theorem Sb.same {H0 H1 H2 : Hp} {x : Addr} (s : Same H0 H1) (hx : H0 x = none) (b : Sb x H1 H2) : Same H0 H2 := s.sb hx b
theorem ints_of {H : Hp} {D : Addr} {acc : List V} {ns : List Int} (e : H D = some (.lst acc)) (h : acc = ns.map V.int) : SqL K H D (ns.map V.int) := by
  rw [h] at e
  exact .inl (.inl e)
theorem look_same (f : Str) (v : V) (fs : List (Str × V)) : (putF f v fs).lookup f = some v := by rw [lookup_putF, if_pos rfl]
theorem look_ne {f g : Str} {v : V} {fs : List (Str × V)} {o : Option V} (h : g ≠ f) (e : fs.lookup g = o) : (putF f v fs).lookup g = o := by rw [lookup_putF, if_neg h, e]
theorem leadD_kp {H H' : Hp} {v : V} {sg : List Nat} {r : Row} (h : LeadD H v sg r) (s : ∀ b kvs, H b = some (.dK kvs) → H' b = some (.dK kvs)) : LeadD H' v sg r := by
  obtain ⟨d, kvs, e, hd, hk⟩ := h
  exact ⟨d, kvs, e, s _ _ hd, hk⟩
theorem small_nodup {ws : List Nat} (h1 : small ws) (h2 : Rise ws) : (46 :: ws).Nodup := by
  refine List.nodup_cons.mpr ⟨fun h => ?_, h2.imp fun {a b} h => by omega⟩
  have := h1 _ h
  omega
theorem key_ne {a b : Nat} (h : a ≠ b) : ¬ (Sum.inr (one a) : Key) = Sum.inr (one b) := fun z => h (one_inj (Sum.inr.inj z))

/-- a field is put -/
theorem Bld.step {H H1 : Hp} {x C dx : Addr} {fs : List (Str × V)} (b : Bld H H1 x C dx fs) (f : Str) (v : V) {n : Nat} (hn : fs.length ≤ n) {R : Hp → Prop}
    (h : ∀ H2 gs, Bld H H2 x C dx gs → gs = putF f v fs → gs.length ≤ n + 1 → Sb x H1 H2 → Kt K H1 H2 → R H2) : R (upd H1 x (.ins C dx (putF f v fs))) :=
  h _ _ b.put rfl (Nat.le_trans (length_putF _ _ _) (by omega)) sb_upd (sb_ins sb_upd b.o)
theorem sb_dK {H H' : Hp} {d C dx : Addr} {fs : List (Str × V)} (s : Sb d H H') (e : H d = some (.ins C dx fs)) (b : Addr) (kvs : List (Key × V)) (h : H b = some (.dK kvs)) : H' b = some (.dK kvs) := s _ _ (fun z => by rw [z, e] at h; cases h) h

/-! ### a heap of which a part is hidden -/
open Classical in
noncomputable def hid (D : Addr → Prop) (H : Hp) : Hp := fun b => if D b then none else H b
theorem hid_at {D : Addr → Prop} {H : Hp} {b : Addr} (h : ¬ D b) : hid D H b = H b := by
  unfold hid
  rw [if_neg h]
theorem hid_same (D : Addr → Prop) (H : Hp) : Same (hid D H) H := fun b o e => by
  by_cases h : D b
  · unfold hid at e
    rw [if_pos h] at e
    cases e
  · rw [hid_at h] at e
    exact e
theorem hid_not {D : Addr → Prop} {H : Hp} {b : Addr} {o : HO} (e : hid D H b = some o) : ¬ D b := fun h => by
  unfold hid at e
  rw [if_pos h] at e
  cases e
def AllD (D : Addr → Prop) (H : Hp) : Prop := ∀ b, D b → ∃ o, H b = some o ∧ (∀ xs, o ≠ .tup xs) ∧ ∀ ob u, o ≠ .frz ob u
theorem hid_kt {D : Addr → Prop} {H : Hp} (h : AllD D H) : Kt K H (hid D H) := fun a xs hs => by
  rcases hs with (hs | ⟨o, hs⟩) | hs
  · refine .inl (.inl ?_)
    rw [hid_at fun z => ?_]
    · exact hs
    · obtain ⟨u, e, n, _⟩ := h a z
      rw [hs] at e
      exact n _ (Option.some.inj e).symm
  · refine .inl (.inr ⟨o, ?_⟩)
    rw [hid_at fun z => ?_]
    · exact hs
    · obtain ⟨u, e, _, n⟩ := h a z
      rw [hs] at e
      exact n _ _ (Option.some.inj e).symm
  · exact .inr hs
/-- the dict stands where nothing was in H -/
def LeadF (H H' : Hp) (v : V) (signs : List Nat) (r : Row) : Prop := ∃ (d : Addr) (kvs : List (Key × V)), v = .ref d ∧ H d = none ∧ H' d = some (.dK kvs) ∧ ∀ (j c n : Nat), signs[j]? = some c → r.nexts[j]? = some n → valV kvs (.inr (one c)) = some (.int (n : Nat))
theorem leadF_kp {H0 H H' : Hp} {v : V} {sg : List Nat} {r : Row} (h : LeadF H0 H v sg r) (s : ∀ b kvs, H b = some (.dK kvs) → H' b = some (.dK kvs)) : LeadF H0 H' v sg r := by
  obtain ⟨d, kvs, e, n, hd, hk⟩ := h
  exact ⟨d, kvs, e, n, s _ _ hd, hk⟩

end
end TH
end
section
set_option Elab.async false
set_option linter.all false
set_option maxRecDepth 100000
set_option maxHeartbeats 4000000
namespace TH
open PySem PySem.Spec PyProof.Rows L2
section
variable {P : Program} {w : World} {K : PySem.W.Frag} {mg : Str → Option Value} {base : Heap}
/-! Drill.__init__ -/
theorem depthAll_le (n : Nat) : ∀ (ks : List NK), (∀ k ∈ ks, k.depth ≤ n) → NestedKey.depthAll ks ≤ n
  | [], _ => Nat.zero_le _
  | k :: ks, h => by
    have h1 := h k List.mem_cons_self
    have h2 := depthAll_le n ks fun y hy => h y (List.mem_cons_of_mem _ hy)
    rw [NestedKey.depthAll]
    omega
theorem depth_nats (ns : List Nat) : NestedKey.depthAll (ns.map kN) ≤ 0 := depthAll_le 0 _ fun k hk => by
  obtain ⟨n, _, rfl⟩ := List.mem_map.mp hk
  simp [kN, NestedKey.depth]
theorem depth_row (r : Row) : (encRow r).depth ≤ 2 := by
  have := depth_nats r.nexts
  simp only [encRow, NestedKey.depth, NestedKey.depthAll]
  omega
theorem depth_rows (rs : List Row) : (encRows rs).depth ≤ 3 := by
  have := depthAll_le 2 (rs.map encRow) fun k hk => by
    obtain ⟨r, _, rfl⟩ := List.mem_map.mp hk
    exact depth_row r
  simp only [encRows, NestedKey.depth]
  omega
theorem nodup_at {l : List Nat} (h : l.Nodup) {i j : Nat} {c : Nat} (hi : l[i]? = some c) (hj : l[j]? = some c) : i = j := by
  obtain ⟨i1, e1⟩ := List.getElem?_eq_some_iff.mp hi
  obtain ⟨j1, e2⟩ := List.getElem?_eq_some_iff.mp hj
  rcases Nat.lt_trichotomy i j with q | q | q
  · exact absurd (e1.trans e2.symm) (List.pairwise_iff_getElem.mp h i j i1 j1 q)
  · exact q
  · exact absurd (e2.trans e1.symm) (List.pairwise_iff_getElem.mp h j i j1 i1 q)
theorem p_Drill_init (T : Tx K mg) : Pr P w K mg base CX0 8 ["self", "words", "standings"] [] (He.ma K (He.ga K "Drill") "__init__")
    (fun vs H Q _ => ∃ (x dx : Addr) (ws : List Nat) (v : V) (rs : List Row), vs = [.ref x, .str (str ws), v] ∧ H x = some (.ins (He.ga K "Drill") dx []) ∧ small ws ∧ Rise ws ∧ 1 ≤ ws.length ∧ ws.length ≤ 2 ∧ Tp K H v (encRows rs) ∧ RowsOk ws.length rs ∧ ∀ H', Sb x H H' → (∀ D, ¬ D x → AllD D H → IsDrill K (hid D H') (.ref x) ws rs) → Q .non H') := by
  refine T.d_Drill_init.pr scs_Drill_init (fun vs H Q E h => ?_) (fun cdv A outer s H vs Q E hr h => ?_)
  · obtain ⟨x, dx, ws, v, rs, rfl, _⟩ := h
    rfl
  · obtain ⟨x, dx, ws, v, rs, rfl, hx, sm, ri, l1, l2, hv, ok, q⟩ := h
    have hu := hu_of hr
    refine ⟨_, (pss_cons (ps_if (pt_not (pt_val (pcall (p_is_words T) (hr.mono (by decide)) (by rfl) T.g_is_words pass0 (pa_cons (pv 1) pa_nil))))
      (pss_one ps_never)
      pss_nil)
    (pss_cons (ps_set (i := 3) scs_Drill_init.nd rfl (.inl rfl) (pcall (p_deep_d T) (hr.mono (by decide)) (by rfl) T.g_deep pass0 (pa_cons (pv 2) pa_nil)))
    (pss_cons (ps_set (i := 4) scs_Drill_init.nd rfl (.inl rfl) (pcall (p_bad_standing T) (hr.mono (by decide)) (by rfl) T.g_bad_standing pass0 (pa_cons (pv 1) (pa_cons (pv 3) pa_nil))))
    (pss_cons (ps_if (pt_cmpR op_notN (pv 4) pe_non (nomark _))
      (pss_one ps_never)
      pss_nil)
    (pss_cons (ps_fld (pv 0) (pv 1) rfl)
    (pss_cons (ps_fld (pv 0) (pv 3) rfl)
    (pss_cons (ps_fld (pv 0) (pe_op op_add_str pe_str (pv 1)) rfl)
    (pss_cons (ps_fld (pv 0) (pe_callTy call_tupU (by rfl) T.z_tuple (by decide +kernel) (pa_cons (pe_lc (own := [("row", 5)]) rfl scs_Drill_init.nd (pi_tup (pv 3)) (blkOk_by (N := ["self", "words", "standings", "rows", "number", "row", "leads", "lead", "sign"]) (sc := defScope s_Drill_init) (by decide +kernel)) (fun _ _ _ _ _ => (pg_name (i := 5) scs_Drill_init.nd rfl (.inl rfl) (.inr rfl))) (fun _ _ _ _ _ => pts_nil) (fun _ _ _ _ _ => (pe_ix (ix_tupK (K := K) rfl) (pv 5) pe_int (fun _ _ => rfl)))) pa_nil)) rfl)
    (pss_cons (ps_fld (pv 0) (pe_callTy call_tupU (by rfl) T.z_tuple (by decide +kernel) (pa_cons (pe_lc (own := [("row", 5)]) rfl scs_Drill_init.nd (pi_tup (pv 3)) (blkOk_by (N := ["self", "words", "standings", "rows", "number", "row", "leads", "lead", "sign"]) (sc := defScope s_Drill_init) (by decide +kernel)) (fun _ _ _ _ _ => (pg_name (i := 5) scs_Drill_init.nd rfl (.inl rfl) (.inr rfl))) (fun _ _ _ _ _ => pts_nil) (fun _ _ _ _ _ => (pe_ix (ix_tupK (K := K) rfl) (pv 5) pe_int (fun _ _ => rfl)))) pa_nil)) rfl)
    (pss_cons (ps_set (i := 6) scs_Drill_init.nd rfl (.inl rfl) (pe_lst pa_nil))
    (pss_cons (ps_for PassesOwn.never rfl (pi_tup (pv 3)) (pg_name (i := 5) scs_Drill_init.nd rfl (.inl rfl) (.inl rfl))
      (pss_cons (ps_set (i := 7) scs_Drill_init.nd rfl (.inl rfl) pe_dnewK)
      (pss_cons (ps_for PassesOwn.never rfl (pi_z2 (by rfl) T.z_zip (pa_cons (pe_fld (pv 0) rfl) (pa_cons (pe_ix ix_tup (pv 5) pe_int (fun _ _ => rfl)) pa_nil))) (pg_tup rfl (pgs_cons (pg_name (i := 8) scs_Drill_init.nd rfl (.inl rfl) (.inl rfl)) (pgs_cons (pg_name (i := 4) scs_Drill_init.nd rfl (.inl rfl) (.inl rfl)) pgs_nil)))
        (pss_one (ps_dput hu (pv 7) (pv 8) (pv 4) rfl)))
      (pss_one (ps_expr (pe_bm PySem.F.plainAttrs_list PySem.F.slot_list_append PySem.F.type_list_append mt_appU (pv 6) (pa_cons (pv 7) pa_nil)))))))
    (pss_one (ps_fld (pv 0) (pe_callTy call_tupU (by rfl) T.z_tuple (by decide +kernel) (pa_cons (pv 6) pa_nil)) rfl))))))))))))), ?_⟩
    refine ⟨_, rfl, ws, rfl, sm, ri, l1, by omega, fun H1 s1 => ⟨true, rfl, iteF ?_⟩⟩
    refine ⟨v, rfl, v, 12, _, rfl, (hv.same s1).dd, Nat.le_trans (depth_rows rs) (by decide), by decide, fun H2 v2 s2 t2 => ?_⟩
    refine ⟨_, rfl, _, rfl, ws, v2, rs, rfl, t2, ok, l2, fun H3 s3 => ?_⟩
    refine ⟨_, rfl, rfl, _, rfl, iteNS rfl ?_⟩
    have t3 := t2.same s3
    have b3 : Bld H H3 x (He.ga K "Drill") dx [] := ⟨Sb.of ((s1.trans s2).trans s3), ((s1.trans s2).trans s3) _ _ hx⟩
    refine ⟨_, rfl, _, rfl, x, _, dx, _, rfl, b3.o, T.c_Drill, T.n_Drill_words, by decide, b3.step (K := K) "words" _ (n := 0) (by decide) fun H4 f4 b4 e4 n4 _ k4 => ?_⟩
    have t4 := t3.kt k4
    refine ⟨_, rfl, _, rfl, x, _, dx, _, rfl, b4.o, T.c_Drill, T.n_Drill_standings, by omega, b4.step (K := K) "standings" _ n4 fun H5 f5 b5 e5 n5 _ k5 => ?_⟩
    have t5 := t4.kt k5
    have es : (("." : Str) ++ str ws) = str (46 :: ws) := by
      unfold str
      show (⟨(#[46] : Array Nat) ++ ws.toArray⟩ : Str) = _
      congr 1
      simp
    have zs : ("." : Str).length + (str ws).length ≤ sizeLine := by
      rw [str_len]
      have : (100 : Nat) ≤ sizeLine := by decide
      have : ("." : Str).length = 1 := rfl
      omega
    refine ⟨_, rfl, ("." : Str), str ws, rfl, rfl, zs, ?_⟩
    rw [es]
    refine ⟨_, rfl, x, _, dx, _, rfl, b5.o, T.c_Drill, T.n_Drill_signs, by omega, b5.step (K := K) "signs" _ n5 fun H6 f6 b6 e6 n6 _ k6 => ?_⟩
    have t6 := t5.kt k6
    obtain ⟨ra, xs, rfl, hra, lx, tx⟩ := rows_inv t6
    have hlen := ok.len
    refine ⟨_, rfl, ra, rfl, ⟨xs, hra⟩, fun D hD => lc_map (walk_tup (xs := xs)) hD (by omega) (fun H' s' => s'.tup hra) (fun i acc _ => acc = (rs.take i).map fun r => V.int r.stride) (fun _ _ _ _ _ h => h) rfl (fun i y H1 H2 acc k ks hi1 s1 a1 l1 y hk _ => ?_) fun H7 acc s7 eD lD aD => ?_⟩
    · obtain ⟨rfl, g⟩ := y
      obtain ⟨r, gr, tr⟩ := rows_at tx g
      obtain ⟨a, b, rfl, ha, _, _⟩ := rowk_inv (tr.same s1)
      refine ⟨rfl, yes_if ⟨_, rfl, a, _, 0, _, rfl, rfl, ha, rfl, hk _ _ (Same.refl _) ?_⟩⟩
      rw [a1, take_snoc gr, List.map_append]
      rfl
    have aD' : acc = (rs.map (·.stride)).map V.int := by
      rw [aD, lx, List.take_length, List.map_map]
      rfl
    refine ⟨D, _, rfl, .inl (ints_of eD aD'), fun u8 H8 s8 h8 => ?_⟩
    have b8 := (b6.grow s7).grow s8
    have r8 := (s7.trans s8).tup hra
    have i8 : IsInts K H8 (.ref u8) (rs.map (·.stride)) := ⟨u8, rfl, h8⟩
    refine ⟨_, rfl, x, _, dx, _, rfl, b8.o, T.c_Drill, T.n_Drill_strides, by omega, b8.step (K := K) "strides" _ n6 fun H9 f9 b9 e9 n9 _ k9 => ?_⟩
    have t9 := (t6.same (s7.trans s8)).kt k9
    have r9 := k9 _ _ r8
    have tx9 := (tx.same (s7.trans s8)).kt k9
    have i9 := k9 _ _ h8
    refine ⟨_, rfl, ra, rfl, ⟨xs, r9⟩, fun D hD => lc_map (walk_tup (xs := xs)) hD (by omega) (fun H' s' => s'.tup r9) (fun i acc _ => acc = (rs.take i).map fun r => V.int r.body) (fun _ _ _ _ _ h => h) rfl (fun i y H1 H2 acc k ks hi1 s1 a1 l1 y hk _ => ?_) fun H10 acc s10 eD lD aD => ?_⟩
    · obtain ⟨rfl, g⟩ := y
      obtain ⟨r, gr, tr⟩ := rows_at tx9 g
      obtain ⟨a, b, rfl, ha, _, _⟩ := rowk_inv (tr.same s1)
      refine ⟨rfl, yes_if ⟨_, rfl, a, _, 1, _, rfl, rfl, ha, rfl, hk _ _ (Same.refl _) ?_⟩⟩
      rw [a1, take_snoc gr, List.map_append]
      rfl
    have aD' : acc = (rs.map (·.body)).map V.int := by
      rw [aD, lx, List.take_length, List.map_map]
      rfl
    refine ⟨D, _, rfl, .inl (ints_of eD aD'), fun u11 H11 s11 h11 => ?_⟩
    have b11 := (b9.grow s10).grow s11
    have r11 := (s10.trans s11).tup r9
    refine ⟨_, rfl, x, _, dx, _, rfl, b11.o, T.c_Drill, T.n_Drill_bodies, by omega, b11.step (K := K) "bodies" _ n9 fun H12 f12 b12 e12 n12 _ k12 => ?_⟩
    have t12 := (t9.same (s10.trans s11)).kt k12
    have r12 := k12 _ _ r11
    have tx12 := (tx9.same (s10.trans s11)).kt k12
    have i12 := k12 _ _ ((s10.trans s11).tup i9)
    have j12 := k12 _ _ h11
    have lk12 : f12.lookup ("signs" : Str) = some (.str (str (46 :: ws))) := by
      rw [e12, e9, e6]
      exact look_ne (by decide) (look_ne (by decide) (look_same _ _ _))
    refine ⟨by show 0 ≤ sizeLine; decide, fun lo nlo => ?_⟩
    have nd := small_nodup sm ri
    refine new_of nlo fun H13 s13 e13 => ?_
    refine ⟨_, rfl, ra, rfl, ⟨xs, s13.tup r12⟩, for_it (walk_tup (xs := xs)) (fun i σ H' => Same H12 H' ∧ (∃ lds, H' lo = some (.lst lds) ∧ lds.length = i ∧ ∀ (j : Nat) (r : Row), j < i → rs[j]? = some r → ∃ v, lds[j]? = some v ∧ LeadF H H' v (46 :: ws) r) ∧ ∃ x4 x5 x7 x8, σ = [some (.ref x), some (.str (str ws)), some v, some (.ref ra), x4, x5, some (.ref lo), x7, x8])
      ⟨s13, ⟨[], e13, rfl, fun j r hj => by omega⟩, _, _, _, _, rfl⟩ (fun i σ H' _ h => h.1.tup r12) (fun i y σ H1 H2 hi h y => ?_) fun σ H' h => ?_⟩
    · obtain ⟨s14, ⟨lds, e14, l14, p14⟩, x4, x5, x7, x8, rfl⟩ := h
      obtain ⟨rfl, g⟩ := y
      obtain ⟨r, gr, tr⟩ := rows_at tx12 g
      obtain ⟨a, b, rfl, ha, hb, lb⟩ := rowk_inv (tr.same s14)
      have rok := ok.row r (List.mem_of_getElem? gr)
      intro ld nld
      refine new_of nld fun H15 s15 e15 => ?_
      have W := walk_z2 (K := K) (s1 := .txt (str (46 :: ws))) (s2 := .tup b) (xs := signsV (str (46 :: ws))) (ys := natsV r.nexts) (n := ws.length + 1) (by simp [signs_str, natsV, rok.l])
      refine ⟨_, rfl, x, _, dx, _, _, rfl, s15 _ _ (s14 _ _ b12.o), T.c_Drill, T.n_Drill_signs, lk12, _, rfl, a, _, 2, _, rfl, rfl, s15.tup ha, rfl, .txt (str (46 :: ws)), .tup b, _, _, rfl, rfl, s15.tup hb, ?_⟩
      refine for_it W (fun i σ H' => Same H2 H' ∧ (∃ kvs, H' ld = some (.dK kvs) ∧ kvs.length ≤ i ∧ ∀ (j c n : Nat), j < i → (46 :: ws)[j]? = some c → r.nexts[j]? = some n → valV kvs (.inr (one c)) = some (.int (n : Nat))) ∧ ∃ x4 x8, σ = [some (.ref x), some (.str (str ws)), some v, some (.ref ra), x4, some (.ref a), some (.ref lo), some (.ref ld), x8])
        ⟨s15, ⟨[], e15, Nat.le_refl _, fun j c n hj => by omega⟩, _, _, rfl⟩ (fun i σ H' _ h => ⟨rfl, h.1.tup hb⟩) (fun i y σ H1 H2' hi h y => ?_) fun σ H' h => ?_
      · obtain ⟨s16, ⟨kvs, ek, lk, pk⟩, x4, x8, rfl⟩ := h
        obtain ⟨Tq, x1, x2, rfl, nT, s17, e17, g1, g2⟩ := y
        rw [signs_str, List.getElem?_map] at g1
        obtain ⟨c, hc, rfl⟩ := Option.map_eq_some_iff.mp g1
        obtain ⟨n, hn, rfl⟩ := nats_at g2
        refine ⟨Tq, _, rfl, .inl (.inl e17), rfl, _, _, rfl, _, _, rfl, rfl, ?_⟩
        refine ⟨_, rfl, _, rfl, _, rfl, ld, _, rfl, DPut.k (kvs := kvs) (k := .inr (one c)) (s17 _ _ ek) (sz2l (by omega)), ?_⟩
        refine ⟨(s16.trans s17).sb nld sb_upd, ⟨_, upd_same, Nat.le_trans (putK_le _ _ _) (by omega), fun j c' n' hj hc' hn' => ?_⟩, _, _, rfl⟩
        rw [valV_put]
        by_cases ej : j = i
        · subst ej
          rw [hc] at hc'
          rw [hn] at hn'
          cases hc'
          cases hn'
          rw [if_pos rfl]
        · rw [if_neg fun z => ej (nodup_at nd hc' (by rw [one_inj (Sum.inr.inj z)]; exact hc))]
          exact pk j c' n' (by omega) hc' hn'
      · obtain ⟨s16, ⟨kvs, ek, lk, pk⟩, x4, x8, rfl⟩ := h
        refine ⟨_, rfl, .inl ⟨rfl, _, .inl (.inl (s16 _ _ e14))⟩, _, rfl, lo, lds, _, rfl, rfl, s16 _ _ e14, by omega, fun H17 b17 e17 => ?_⟩
        have kp : Kp H2 H17 := (Kp.of s16).trans (b17.kp (s16 _ _ e14))
        refine ⟨(s14.trans s16).sb nlo b17, ⟨_, e17, by simp [l14], fun j r' hj hr' => ?_⟩, _, _, _, _, rfl⟩
        by_cases ej : j = i
        · subst ej
          rw [gr] at hr'
          cases hr'
          refine ⟨.ref ld, by rw [← l14]; simp, ld, kvs, rfl, b12.s.back (by rw [b12.o]; exact fun z => nomatch z) (s14.back nld), b17.kp (s16 _ _ e14) _ _ (fun _ z => nomatch z) ek, fun j' c n h1 h2 => ?_⟩
          refine pk j' c n ?_ h1 h2
          have := (List.getElem?_eq_some_iff.mp h1).1
          simpa using this
        · obtain ⟨v', h1, h2⟩ := p14 j r' (by omega) hr'
          refine ⟨v', ?_, leadF_kp h2 fun b kvs hb => kp _ _ (fun _ z => nomatch z) hb⟩
          rw [List.getElem?_append_left (by have := (List.getElem?_eq_some_iff.mp h1).1; exact this)]
          exact h1
    · obtain ⟨s14, ⟨lds, e14, l14, p14⟩, x4, x5, x7, x8, rfl⟩ := h
      refine ⟨_, rfl, lo, lds, rfl, .inl (.inl (.inl e14)), fun la H18 s18 h18 => ?_⟩
      have b18 := (b12.grow s14).grow s18
      refine ⟨_, rfl, x, _, dx, _, rfl, b18.o, T.c_Drill, T.n_Drill_leads, by omega, b18.step (K := K) "leads" _ n12 fun H19 f19 b19 e19 n19 sb19 k19 => ?_⟩
      refine q H19 b19.s fun D nx hD => ?_
      have hk := hid_kt (K := K) (D := D) (H := H19) fun b hb => by
        obtain ⟨o, e, n⟩ := hD b hb
        exact ⟨o, b19.s _ _ (fun z => nx (z ▸ hb)) e, n⟩
      refine ⟨x, dx, f19, .ref ra, .ref u8, .ref u11, .ref la, rfl, by rw [hid_at nx]; exact b19.o, ?_, ?_, ?_, ?_, ((t12.same (s14.trans s18)).kt k19).kt hk, ⟨u8, rfl, hk _ _ (k19 _ _ ((s14.trans s18).tup i12))⟩, ⟨u11, rfl, hk _ _ (k19 _ _ ((s14.trans s18).tup j12))⟩, la, lds, rfl, hk _ _ (k19 _ _ h18), by rw [l14, lx], fun j r hr => ?_⟩
      · rw [e19, e12, e9, e6, e5]
        exact look_ne (by decide) (look_ne (by decide) (look_ne (by decide) (look_ne (by decide) (look_same _ _ _))))
      · rw [e19, e12, e9]
        exact look_ne (by decide) (look_ne (by decide) (look_same _ _ _))
      · rw [e19, e12]
        exact look_ne (by decide) (look_same _ _ _)
      · rw [e19]
        exact look_same _ _ _
      · obtain ⟨v', h1, h2⟩ := p14 j r (by rw [lx]; exact (List.getElem?_eq_some_iff.mp hr).1) hr
        obtain ⟨d, kvs, ed, nd', hd, hk'⟩ := leadF_kp h2 fun b kvs hb => sb_dK sb19 b18.o _ _ (s18 _ _ hb)
        refine ⟨v', h1, d, kvs, ed, ?_, hk'⟩
        rw [hid_at fun z => ?_]
        · exact hd
        · obtain ⟨_, e, _⟩ := hD d z
          rw [nd'] at e
          cases e

end
end TH
end
section
set_option Elab.async false
set_option linter.all false
set_option maxRecDepth 100000
set_option maxHeartbeats 4000000
namespace TH
open PySem PySem.Spec PyProof.Rows L2
section
variable {P : Program} {w : World} {K : PySem.W.Frag} {mg : Str → Option Value} {base : Heap}
/-! makes.py -/
theorem valV_in {κ : Type} [DecidableEq κ] {kvs : List (κ × V)} {k : κ} : (valV kvs k).isSome = decide (k ∈ kvs.map (·.1)) := by
  rw [← valV_any]
  induction kvs with
  | nil => rfl
  | cons p r ih =>
    by_cases h : p.1 = k
    · simp [h]
    · have h' : ¬ k = p.1 := fun z => h z.symm
      simp [h, h', ih]
theorem valV_no {κ : Type} [DecidableEq κ] {kvs : List (κ × V)} {k : κ} (h : k ∉ kvs.map (·.1)) : valV kvs k = none := by
  have := valV_in (kvs := kvs) (k := k)
  rw [decide_eq_false h] at this
  simpa using this
theorem ltCps_one (a b : Nat) : ltCps [a] [b] = decide (a < b) := by
  simp [ltCps]
theorem rising_ones : ∀ (l : List Nat) (p : Nat), PyProof.Rows.risingS (one p) (l.map one) = true → (p :: l).Pairwise (· ≤ ·)
  | [], p, _ => by simp
  | x :: l, p, h => by
    rw [List.map_cons, PyProof.Rows.risingS, Bool.and_eq_true] at h
    have e : ltCps (one x).cps.toList (one p).cps.toList = decide (x < p) := ltCps_one x p
    rw [e] at h
    have h1 : ¬ x < p := by simpa using h.1
    have ih := rising_ones l x h.2
    refine List.pairwise_cons.mpr ⟨fun y hy => ?_, ih⟩
    rcases List.mem_cons.mp hy with rfl | hy
    · omega
    · have := (List.pairwise_cons.mp ih).1 y hy
      omega
theorem sorted_ones {l : List Nat} (h : PyProof.Rows.sortedS (l.map one) = true) (n : l.Nodup) : Rise l := by
  have p : l.Pairwise (· ≤ ·) := by
    cases l with
    | nil => exact .nil
    | cons x l => exact rising_ones l x h
  have := p.and n
  exact this.imp fun {a b} h => Nat.lt_of_le_of_ne h.1 h.2
theorem join_ones (l : List Nat) : Txt.join ("" : Str) (l.map one) = str l := by
  have key : ∀ l : List Nat, TL.joinL [] (l.map fun c => [c]) = l := by
    intro l
    induction l with
    | nil => rfl
    | cons x l ih =>
      cases l with
      | nil => rfl
      | cons y l =>
        rw [List.map_cons, List.map_cons, TL.joinL, List.nil_append]
        rw [List.map_cons] at ih
        rw [ih]
        rfl
  refine TL.ext_tl ?_
  refine (congrArg TL.tl (TL.join_eq ("" : Str) (l.map one))).trans ?_
  rw [TL.tl_join, List.map_map]
  show TL.joinL [] (l.map fun c => [c]) = l
  exact key l
theorem sum_ones (l : List Nat) : ((l.map one).map (·.length)).sum = l.length := by
  induction l with
  | nil => rfl
  | cons x l ih =>
    rw [List.map_cons, List.map_cons, List.sum_cons, ih, List.length_cons]
    show 1 + l.length = _
    omega
theorem knd_inv {H : Hp} {v : V} {k : Knd} (h : Tp K H v (encKnd k)) : ∃ a b, v = .ref a ∧ SqT K H a [.str (one k.name), .int (k.lag : Nat), .ref b] ∧ Tp K H (.ref b) (encRows k.rows) := by
  obtain ⟨a, xs, rfl, hs, _, ha⟩ := h.tup_inv
  cases ha with
  | cons h1 h2 =>
    cases h2 with
    | cons h2 h3 =>
      cases h3 with
      | cons h3 h4 =>
        cases h4
        have h3' := h3
        obtain ⟨b, ys, rfl, hb, lb, hy⟩ := h3.tup_inv
        rw [h1.str_inv, h2.int_inv] at hs
        exact ⟨a, b, rfl, hs, h3'⟩
theorem knds_inv {H : Hp} {v : V} {ks : List Knd} (h : Tp K H v (encKnds ks)) : ∃ a xs, v = .ref a ∧ SqT K H a xs ∧ xs.length = ks.length ∧ TpAll K H xs (ks.map encKnd) := by
  obtain ⟨a, xs, rfl, hs, _, ha⟩ := h.tup_inv
  exact ⟨a, xs, rfl, hs, by simpa using ha.length, ha⟩
theorem knds_at {H : Hp} {ks : List Knd} {xs : List V} {i : Nat} {x : V} (h : TpAll K H xs (ks.map encKnd)) (g : xs[i]? = some x) : ∃ k, ks[i]? = some k ∧ Tp K H x (encKnd k) := by
  obtain ⟨k, gk, tk⟩ := h.at g
  obtain ⟨r, gr, rfl⟩ := map_at gk
  exact ⟨r, gr, tk⟩
structure KOk (nw : Nat) (k : Knd) : Prop where
  nm : 65 ≤ k.name ∧ k.name ≤ 90
  lag : 1 ≤ k.lag ∧ k.lag ≤ 2
  rows : RowsOk nw k.rows
theorem p_is_kind (T : Tx K mg) : Pr P w K mg base CX0 4 ["words", "thing"] [] (He.ga K "is_kind")
    (fun vs H Q _ => ∃ (ws : List Nat) (x : V) (k : Knd), vs = [.str (str ws), x] ∧ Tp K H x (encKnd k) ∧ KOk ws.length k ∧ ws.length ≤ 2 ∧ ∀ H', Same H H' → Q (.bl true) H') := by
  refine T.d_is_kind.pr scs_is_kind (fun vs H Q E h => ?_) (fun cdv A outer s H vs Q E hr h => ?_)
  · obtain ⟨ws, x, r, rfl, _⟩ := h
    rfl
  · obtain ⟨ws, x, k, rfl, hx, ok, lw, q⟩ := h
    obtain ⟨a, b, rfl, ha, hb⟩ := knd_inv hx
    refine ⟨_, (pss_cons (ps_if (pw_or (pt_not (pt_val (pe_callB call_isiS (by rfl) T.z_isinstance (by decide +kernel) (pa_cons (pv 1) (pa_cons (pe_bltn (v := .ty "tuple") (by rfl) T.z_tuple (by decide +kernel : bootBuiltins "tuple" = some (.type "tuple")) rfl) pa_nil))))) (pw_or1 (pt_cmpR op_ne (pe_callB call_len_seq (by rfl) T.z_len PySem.boot_len (pa_cons (pv 1) pa_nil)) pe_int (nomark _)))).pt
      (pss_one (ps_ret pe_bl))
      pss_nil)
    (pss_cons (ps_if (pw_or (pt_not (pt_val (pcall (p_is_capital T) (hr.mono (by decide)) (by rfl) T.g_is_capital pass0 (pa_cons (pe_ix ix_tup (pv 1) pe_int (fun _ _ => rfl)) pa_nil)))) (pw_or1 (pt_not (pt_val (pcall (p_is_integer T) (hr.mono (by decide)) (by rfl) T.g_is_integer pass0 (pa_cons (pe_ix ix_tup (pv 1) pe_int (fun _ _ => rfl)) (pa_cons pe_int (pa_cons pe_int pa_nil)))))))).pt
      (pss_one (ps_ret pe_bl))
      pss_nil)
    (pss_one (ps_ret (pe_cmpR op_isN (pcall (p_bad_standing T) (hr.mono (by decide)) (by rfl) T.g_bad_standing pass0 (pa_cons (pv 0) (pa_cons (pe_ix ix_tup (pv 1) pe_int (fun _ _ => rfl)) pa_nil))) pe_non (nomark _)))))), ?_⟩
    refine ⟨_, rfl, _, _, "tuple", true, rfl, ty_tup ha, by decide +kernel, true, rfl, iteF ?_⟩
    refine ⟨_, rfl, a, _, rfl, .inr ha, rfl, _, rfl, iteNS rfl ?_⟩
    refine ⟨_, rfl, a, _, 0, _, rfl, rfl, ha, rfl, k.name, rfl, ok.nm.1, ok.nm.2, true, rfl, iteF ?_⟩
    refine ⟨_, rfl, a, _, 1, _, rfl, rfl, ha, rfl, (k.lag : Nat), 1, 3, rfl, ?_⟩
    have := ok.lag
    rw [decide_eq_true (show (1 : Int) ≤ ((k.lag : Nat) : Int) ∧ ((k.lag : Nat) : Int) ≤ 3 by omega)]
    refine ⟨true, rfl, iteF ?_⟩
    refine ⟨_, rfl, _, rfl, a, _, 2, _, rfl, rfl, ha, rfl, ws, .ref b, k.rows, rfl, hb, ok.rows, lw, fun H1 s1 => ⟨rfl, q H1 s1⟩⟩
theorem p_check_kinds (T : Tx K mg) : Pr P w K mg base CX0 5 ["words", "kinds"] [] (He.ga K "check_kinds")
    (fun vs H Q _ => ∃ (ws : List Nat) (x : V) (ks : List Knd), vs = [.str (str ws), x] ∧ Tp K H x (encKnds ks) ∧ (∀ k ∈ ks, KOk ws.length k) ∧ 1 ≤ ks.length ∧ ks.length ≤ 2 ∧ (ks.map (·.name)).Nodup ∧ ws.length ≤ 2 ∧ ∀ H', Same H H' → Q .non H') := by
  refine T.d_check_kinds.pr scs_check_kinds (fun vs H Q E h => ?_) (fun cdv A outer s H vs Q E hr h => ?_)
  · obtain ⟨ws, x, r, rfl, _⟩ := h
    rfl
  · obtain ⟨ws, x, ks, rfl, hx, ok, l1, l2, nd, lw, q⟩ := h
    obtain ⟨a, xs, rfl, ha, lx, tx⟩ := knds_inv hx
    have hu := hu_of hr
    refine ⟨_, (pss_cons (ps_if (pw_or (pt_not (pt_val (pe_callB call_isiS (by rfl) T.z_isinstance (by decide +kernel) (pa_cons (pv 1) (pa_cons (pe_bltn (v := .ty "tuple") (by rfl) T.z_tuple (by decide +kernel : bootBuiltins "tuple" = some (.type "tuple")) rfl) pa_nil))))) (pw_or1 (pt_not (pt_chain op_le op_le pe_int (pe_callB call_len_seq (by rfl) T.z_len PySem.boot_len (pa_cons (pv 1) pa_nil)) pe_int)))).pt
      (pss_one ps_never)
      pss_nil)
    (pss_cons (ps_for PassesOwn.never rfl (pi_en (by rfl) T.z_enumerate (pa_cons (pv 1) pa_nil)) (pg_tup rfl (pgs_cons (pg_name (i := 2) scs_check_kinds.nd rfl (.inl rfl) (.inl rfl)) (pgs_cons (pg_name (i := 3) scs_check_kinds.nd rfl (.inl rfl) (.inl rfl)) pgs_nil)))
      (pss_one (ps_if (pt_not (pt_val (pcall (p_is_kind T) (hr.mono (by decide)) (by rfl) T.g_is_kind pass0 (pa_cons (pv 0) (pa_cons (pv 3) pa_nil)))))
        (pss_one ps_never)
        pss_nil)))
    (pss_cons (ps_set (i := 4) scs_check_kinds.nd rfl (.inl rfl) pe_dnewK)
    (pss_one (ps_for PassesOwn.never rfl (pi_tup (pv 1)) (pg_name (i := 3) scs_check_kinds.nd rfl (.inl rfl) (.inl rfl))
      (pss_cons (ps_if (pt_cmp (pc_din hu (pe_ix ix_tup (pv 3) pe_int (fun _ _ => rfl)) (pv 4)))
        (pss_one ps_never)
        pss_nil)
      (pss_one (ps_dput hu (pv 4) (pe_ix ix_tup (pv 3) pe_int (fun _ _ => rfl)) pe_bl rfl)))))))), ?_⟩
    refine ⟨_, rfl, _, _, "tuple", true, rfl, ty_tup ha, by decide +kernel, true, rfl, iteF ?_⟩
    refine ⟨_, rfl, a, xs, rfl, .inr ha, 1, (xs.length : Nat), rfl, rfl, _, rfl, ?_⟩
    rw [decide_eq_true (show (1 : Int) ≤ (xs.length : Nat) by omega)]
    refine iteT ⟨(xs.length : Nat), 4, rfl, rfl, _, rfl, ?_⟩
    rw [decide_eq_true (show ((xs.length : Nat) : Int) ≤ 4 by omega)]
    refine iteF ⟨_, rfl, .tup a, xs, rfl, ha, for_it (walk_en (K := K) (s1 := .tup a) (xs := xs)) (fun i σ H1 => Same H H1 ∧ ∃ x2 x3 x4, σ = [some (.str (str ws)), some (.ref a), x2, x3, x4]) ⟨Same.refl _, _, _, _, rfl⟩ (fun i σ H1 _ h => h.1.tup ha) (fun i x σ H1 H2 hi h y => ?_) fun σ H1 h => ?_⟩
    · obtain ⟨s1, x2, x3, x4, rfl⟩ := h
      obtain ⟨Tq, x1, rfl, nT, s2, e2, g1⟩ := y
      obtain ⟨r, gr, tr⟩ := knds_at tx g1
      have s3 := s1.trans s2
      refine ⟨Tq, _, rfl, .inl (.inl e2), rfl, _, _, rfl, _, _, rfl, rfl, ?_⟩
      exact ⟨_, rfl, _, rfl, ws, x1, r, rfl, tr.same s3, ok r (List.mem_of_getElem? gr), lw, fun H4 s4 => ⟨true, rfl, iteF ⟨s3.trans s4, _, _, _, rfl⟩⟩⟩
    · obtain ⟨s1, x2, x3, x4, rfl⟩ := h
      intro t nt
      refine new_of nt fun H2 s2 e2 => ?_
      have s3 := s1.trans s2
      refine ⟨_, rfl, a, rfl, ⟨xs, s3.tup ha⟩, for_it (walk_tup (xs := xs)) (fun i σ H' => Same H1 H' ∧ (∃ kvs, H' t = some (.dK kvs) ∧ kvs.map (·.1) = (ks.take i).map fun k => cKey k.name) ∧ ∃ x2 x3, σ = [some (.str (str ws)), some (.ref a), x2, x3, some (.ref t)])
        ⟨s2, ⟨[], e2, rfl⟩, _, _, rfl⟩ (fun i σ H' _ h => (s1.trans h.1).tup ha) (fun i x σ H3 H4 hi h y => ?_) fun σ H3 h => q _ (s1.trans h.1)⟩
      obtain ⟨s5, ⟨kvs, ek, mk⟩, x2, x3, rfl⟩ := h
      obtain ⟨rfl, g⟩ := y
      obtain ⟨k, gk, tk⟩ := knds_at tx g
      obtain ⟨c, b, rfl, hc, _⟩ := knd_inv (tk.same (s1.trans s5))
      have nk : cKey k.name ∉ kvs.map (·.1) := by
        rw [mk]
        intro h
        obtain ⟨k', hk', e⟩ := List.mem_map.mp h
        obtain ⟨j, hj, e2⟩ := List.mem_iff_getElem.mp hk'
        rw [List.length_take] at hj
        rw [List.getElem_take] at e2
        have ij : i = j := nodup_at nd (c := k.name) (by rw [List.getElem?_map, gk]; rfl) (by rw [List.getElem?_map, List.getElem?_eq_getElem (by omega), e2]; exact congrArg some (cKey_inj _ _ e))
        omega
      have lk : kvs.length ≤ 2 := by
        have := congrArg List.length mk
        simp only [List.length_map, List.length_take] at this
        omega
      have vn : valV kvs (cKey k.name) = none := valV_no nk
      refine ⟨_, rfl, c, _, 0, _, rfl, rfl, hc, rfl, _, rfl, t, _, rfl, DGet.k (k := cKey k.name) ek, _, rfl, ?_⟩
      rw [vn]
      refine iteF ⟨_, rfl, _, rfl, c, _, 0, _, rfl, rfl, hc, rfl, t, _, rfl, DPut.k (k := cKey k.name) ek (sz2l (by omega)), ?_⟩
      refine ⟨s5.sb nt sb_upd, ⟨_, upd_same, ?_⟩, _, _, rfl⟩
      rw [put_keys, insL, if_neg nk, mk, take_snoc gk, List.map_append]
      rfl
theorem p_seats_of (T : Tx K mg) : Pr P w K mg base CX0 2 ["names", "seats"] [] (He.ga K "seats_of")
    (fun vs H Q _ => ∃ (n : Str) (x : V), vs = [.str n, x] ∧ Tp K H x (.tup []) ∧ ∀ H' t, Same H H' → H' t = some (.dT []) → Q (.ref t) H') := by
  refine T.d_seats_of.pr scs_seats_of (fun vs H Q E h => ?_) (fun cdv A outer s H vs Q E hr h => ?_)
  · obtain ⟨ws, x, rfl, _⟩ := h
    rfl
  · obtain ⟨n, x, rfl, hx, q⟩ := h
    obtain ⟨a, xs, rfl, ha, _, tx⟩ := hx.tup_inv
    cases tx
    have hu := hu_of hr
    refine ⟨_, (pss_cons (ps_if (pt_not (pt_val (pe_callB call_isiS (by rfl) T.z_isinstance (by decide +kernel) (pa_cons (pv 1) (pa_cons (pe_bltn (v := .ty "tuple") (by rfl) T.z_tuple (by decide +kernel : bootBuiltins "tuple" = some (.type "tuple")) rfl) pa_nil)))))
      (pss_one ps_never)
      pss_nil)
    (pss_cons (ps_set (i := 2) scs_seats_of.nd rfl (.inl rfl) pe_dnewT)
    (pss_cons (ps_for PassesOwn.never rfl (pi_en (by rfl) T.z_enumerate (pa_cons (pv 1) pa_nil)) (pg_tup rfl (pgs_cons (pg_name (i := 3) scs_seats_of.nd rfl (.inl rfl) (.inl rfl)) (pgs_cons (pg_name (i := 4) scs_seats_of.nd rfl (.inl rfl) (.inl rfl)) pgs_nil)))
      (pss_cons (ps_if (pw_or (pt_not (pt_val (pe_callB call_isiS (by rfl) T.z_isinstance (by decide +kernel) (pa_cons (pv 4) (pa_cons (pe_bltn (v := .ty "tuple") (by rfl) T.z_tuple (by decide +kernel : bootBuiltins "tuple" = some (.type "tuple")) rfl) pa_nil))))) (pw_or1 (pt_cmpR op_ne (pe_callB call_len_seq (by rfl) T.z_len PySem.boot_len (pa_cons (pv 4) pa_nil)) pe_int (nomark _)))).pt
        (pss_one ps_never)
        pss_nil)
      (pss_cons (ps_if (pw_or (pt_not (pt_val (pcall (p_is_capital T) (hr.mono (by decide)) (by rfl) T.g_is_capital pass0 (pa_cons (pe_ix ix_tup (pv 4) pe_int (fun _ _ => rfl)) pa_nil)))) (pw_or1 (pt_cmpR op_notIn_sign (pe_ix ix_tup (pv 4) pe_int (fun _ _ => rfl)) (pv 0) rfl))).pt
        (pss_one ps_never)
        pss_nil)
      (pss_cons (ps_if (pw_or (pt_not (pt_val (pcall (p_is_capital T) (hr.mono (by decide)) (by rfl) T.g_is_capital pass0 (pa_cons (pe_ix ix_tup (pv 4) pe_int (fun _ _ => rfl)) pa_nil)))) (pw_or1 (pt_cmpR op_notIn_sign (pe_ix ix_tup (pv 4) pe_int (fun _ _ => rfl)) (pv 0) rfl))).pt
        (pss_one ps_never)
        pss_nil)
      (pss_cons (ps_if (pw_or (pt_not (pt_val (pcall (p_is_integer T) (hr.mono (by decide)) (by rfl) T.g_is_integer pass0 (pa_cons (pe_ix ix_tup (pv 4) pe_int (fun _ _ => rfl)) (pa_cons pe_int (pa_cons pe_int pa_nil)))))) (pw_or1 (pt_cmp (pc_din hu (pe_tup (pa_cons (pe_ix ix_tup (pv 4) pe_int (fun _ _ => rfl)) (pa_cons (pe_ix ix_tup (pv 4) pe_int (fun _ _ => rfl)) pa_nil))) (pv 2))))).pt
        (pss_one ps_never)
        pss_nil)
      (pss_one (ps_dput hu (pv 2) (pe_tup (pa_cons (pe_ix ix_tup (pv 4) pe_int (fun _ _ => rfl)) (pa_cons (pe_ix ix_tup (pv 4) pe_int (fun _ _ => rfl)) pa_nil))) (pe_ix ix_tup (pv 4) pe_int (fun _ _ => rfl)) rfl)))))))
    (pss_one (ps_ret (pv 2)))))), ?_⟩
    refine ⟨_, rfl, _, _, "tuple", true, rfl, ty_tup ha, by decide +kernel, true, rfl, iteF ?_⟩
    intro t nt
    refine new_of nt fun H2 s2 e2 => ?_
    refine ⟨_, rfl, .tup a, [], rfl, s2.tup ha, for_it (walk_en (K := K) (s1 := .tup a) (xs := [])) (fun i σ H1 => H1 = H2 ∧ ∃ x2 x3, σ = [some (.str n), some (.ref a), some (.ref t), x2, x3]) ⟨rfl, _, _, rfl⟩ (fun i σ H1 _ h => by rw [h.1]; exact s2.tup ha) (fun i x σ H1 H2 hi h y => absurd hi (Nat.not_lt_zero _)) fun σ H1 h => ?_⟩
    obtain ⟨rfl, x2, x3, rfl⟩ := h
    exact ⟨_, rfl, q _ t s2 e2⟩

end
end TH
end
section
set_option Elab.async false
set_option linter.all false
set_option maxRecDepth 100000
set_option maxHeartbeats 4000000
namespace TH
open PySem PySem.Spec PyProof.Rows L2
section
variable {P : Program} {w : World} {K : PySem.W.Frag} {mg : Str → Option Value} {base : Heap}
/-! Make -/
theorem p_Make_check_name (T : Tx K mg) : Pr P w K mg base CX0 2 ["self", "name"] [] (He.ma K (He.ga K "Make") "check_name")
    (fun vs H Q _ => ∃ (m : V) (W : Wld) (row : List Nat) (c : Nat), vs = [m, .str (one c)] ∧ IsMake K H m W row ∧ WOk W ∧ c ∈ W.names ∧ Q .non H) := by
  refine T.d_Make_check_name.pr scs_Make_check_name (fun vs H Q E h => ?_) (fun cdv A outer s H vs Q E hr h => ?_)
  · obtain ⟨m, W, row, c, rfl, _⟩ := h
    rfl
  · obtain ⟨m, W, row, c, rfl, hm, ok, hc, q⟩ := h
    have hu := hu_of hr
    obtain ⟨a, dx, t, dd, ll, fs, kd, kl, rfl, ha, m1, m2, l1, l2, l3, l4, ht, l5, hd, l6, hl, q1, q2⟩ := hm.ex
    obtain ⟨k, hk, rfl⟩ := List.mem_map.mp hc
    have nm := ok.nm k hk
    refine ⟨_, (pss_one (ps_if (pw_or (pt_not (pt_val (pcall (p_is_capital T) (hr.mono (by decide)) (by rfl) T.g_is_capital pass0 (pa_cons (pv 1) pa_nil)))) (pw_or1 (pt_cmp (pc_dnotin hu (pv 1) (pe_fld (pv 0) rfl))))).pt
      (pss_one ps_never)
      pss_nil)), ?_⟩
    refine ⟨_, rfl, k.name, rfl, nm.1, nm.2, true, rfl, iteF ?_⟩
    refine ⟨_, rfl, _, rfl, a, _, dx, fs, _, rfl, ha, T.c_Make, T.n_Make_lags, l6, ll, _, rfl, DGet.k (k := .inr (one k.name)) hl, _, rfl, ?_⟩
    rw [q2 k hk]
    exact iteF q
theorem p_Make_seat_of (T : Tx K mg) : Pr P w K mg base CX0 3 ["self", "ahead", "behind"] [] (He.ma K (He.ga K "Make") "seat_of")
    (fun vs H Q _ => ∃ (m : V) (W : Wld) (row : List Nat) (b c : Nat), vs = [m, .str (one b), .str (one c)] ∧ IsMake K H m W row ∧ WOk W ∧ b ∈ W.names ∧ c ∈ W.names ∧ ∀ H', Same H H' → Q (.int (W.space : Nat)) H') := by
  refine T.d_Make_seat_of.pr scs_Make_seat_of (fun vs H Q E h => ?_) (fun cdv A outer s H vs Q E hr h => ?_)
  · obtain ⟨m, W, row, b, c, rfl, _⟩ := h
    rfl
  · obtain ⟨m, W, row, b, c, rfl, hm, ok, hb, hc, q⟩ := h
    have hu := hu_of hr
    have hm' := hm
    obtain ⟨a, dx, t, dd, ll, fs, kd, kl, rfl, ha, m1, m2, l1, l2, l3, l4, ht, l5, hd, l6, hl, q1, q2⟩ := hm.ex
    refine ⟨_, (pss_cons (ps_expr (pmeth (p_Make_check_name T) (pv 0) T.c_Make T.m_Make_check_name (hr.mono (by decide)) pass0 (pa_cons (pv 1) pa_nil)))
    (pss_cons (ps_expr (pmeth (p_Make_check_name T) (pv 0) T.c_Make T.m_Make_check_name (hr.mono (by decide)) pass0 (pa_cons (pv 2) pa_nil)))
    (pss_one (ps_ret (pe_dget2 hu (pe_fld (pv 0) rfl) (pe_tup (pa_cons (pv 1) (pa_cons (pv 2) pa_nil))) (pe_fld (pv 0) rfl) ⟨rfl, rfl, rfl, rfl⟩))))), ?_⟩
    refine ⟨_, rfl, a, dx, fs, rfl, ha, m1, _, rfl, .ref a, W, row, b, rfl, hm', ok, hb, ?_⟩
    refine ⟨_, rfl, a, dx, fs, rfl, ha, m1, _, rfl, .ref a, W, row, c, rfl, hm', ok, hc, ?_⟩
    refine ⟨_, rfl, a, _, dx, fs, _, rfl, ha, T.c_Make, T.n_Make_seat_table, l4, t, rfl, .inr ⟨_, .inl ht⟩, _, rfl, _, rfl, by show 2 ≤ sizeLine; decide, fun p np => ?_⟩
    have s1 := same_upd (o := .tup [.str (one b), .str (one c)]) np
    refine ⟨_, rfl, a, _, dx, fs, _, rfl, s1 _ _ ha, T.c_Make, T.n_Make_space, l2, none, DGet.t (kvs := []) (k := [.inr (one b), .inr (one c)]) (s1 _ _ ht) upd_same, ?_⟩
    exact q _ s1

end
end TH
end
section
set_option Elab.async false
set_option linter.all false
set_option maxRecDepth 100000
set_option maxHeartbeats 4000000
namespace TH
open PySem PySem.Spec PyProof.Rows L2
section
variable {P : Program} {w : World} {K : PySem.W.Frag} {mg : Str → Option Value} {base : Heap}
/-! Make.__init__ -/
theorem depth_knd (k : Knd) : (encKnd k).depth ≤ 4 := by
  have := depth_rows k.rows
  simp only [encKnd, kC, kN, NestedKey.depth, NestedKey.depthAll]
  omega
theorem depth_knds (ks : List Knd) : (encKnds ks).depth ≤ 5 := by
  have := depthAll_le 4 (ks.map encKnd) fun k hk => by
    obtain ⟨r, _, rfl⟩ := List.mem_map.mp hk
    exact depth_knd r
  simp only [encKnds, NestedKey.depth]
  omega
theorem WOk.kok {W : Wld} (ok : WOk W) : ∀ k ∈ W.kinds, KOk W.words.length k := fun k hk => ⟨ok.nm k hk, ok.lag k hk, ok.rows k hk⟩
theorem dot_str (ws : List Nat) : (("." : Str) ++ str ws) = str (46 :: ws) := by
  unfold str
  show (⟨(#[46] : Array Nat) ++ ws.toArray⟩ : Str) = _
  congr 1
  simp
theorem dot_len {ws : List Nat} (h : ws.length ≤ 2000) : ("." : Str).length + (str ws).length ≤ sizeLine := by
  rw [str_len]
  have : (2001 : Nat) ≤ sizeLine := by decide
  have : ("." : Str).length = 1 := rfl
  omega
theorem hid_kp {D : Addr → Prop} {H H' : Hp} (s : ∀ b o, ¬ D b → (∀ xs, o ≠ .lst xs) → H b = some o → H' b = some o) : Kp (hid D H) (hid D H') := fun b o n e => by
  have nd := hid_not e
  rw [hid_at nd] at e
  rw [hid_at nd]
  exact s b o nd n e
structure MSt (K : PySem.W.Frag) (H H' : Hp) (x dd ll : Addr) (W : Wld) (i : Nat) : Prop where
  fr : ∀ b o, b ≠ dd → b ≠ ll → H b = some o → H' b = some o
  dr : ∃ kd, H' dd = some (.dK kd) ∧ kd.length ≤ i ∧ ∀ (j : Nat) (k : Knd), j < i → W.kinds[j]? = some k → ∃ dv, valV kd (.inr (one k.name)) = some dv ∧ IsDrill K (hid (fun b => b = dd ∨ b = ll ∨ b = x) H') dv W.words k.rows
  lg : ∃ kl, H' ll = some (.dK kl) ∧ kl.length ≤ i ∧ ∀ (j : Nat) (k : Knd), j < i → W.kinds[j]? = some k → valV kl (.inr (one k.name)) = some (.int (k.lag : Nat))
theorem p_Make_init (T : Tx K mg) : Pr P w K mg base CX0 10 ["self", "words", "kinds", "space", "seats"] [] (He.ma K (He.ga K "Make") "__init__")
    (fun vs H Q _ => ∃ (x dx : Addr) (W : Wld) (kv sv : V), vs = [.ref x, .str (str W.words), kv, .int (W.space : Nat), sv] ∧ H x = some (.ins (He.ga K "Make") dx []) ∧ WOk W ∧ Tp K H kv (encKnds W.kinds) ∧ Tp K H sv (.tup []) ∧ ∀ H' row, Sb x H H' → IsMake K H' (.ref x) W row → Q .non H') := by
  refine T.d_Make_init.pr scs_Make_init (fun vs H Q E h => ?_) (fun cdv A outer s H vs Q E hr h => ?_)
  · obtain ⟨x, dx, W, kv, sv, rfl, _⟩ := h
    rfl
  · obtain ⟨x, dx, W, kv, sv, rfl, hx, ok, hk, hs, q⟩ := h
    have hu := hu_of hr
    refine ⟨_, (pss_cons (ps_if (pt_not (pt_val (pcall (p_is_words T) (hr.mono (by decide)) (by rfl) T.g_is_words pass0 (pa_cons (pv 1) pa_nil))))
      (pss_one ps_never)
      pss_nil)
    (pss_cons (ps_set (i := 2) scs_Make_init.nd rfl (.inl rfl) (pcall (p_deep_d T) (hr.mono (by decide)) (by rfl) T.g_deep pass0 (pa_cons (pv 2) pa_nil)))
    (pss_cons (ps_expr (pcall (p_check_kinds T) (hr.mono (by decide)) (by rfl) T.g_check_kinds pass0 (pa_cons (pv 1) (pa_cons (pv 2) pa_nil))))
    (pss_cons (ps_if (pt_not (pt_val (pcall (p_is_integer T) (hr.mono (by decide)) (by rfl) T.g_is_integer pass0 (pa_cons (pv 3) (pa_cons pe_int (pa_cons pe_int pa_nil))))))
      (pss_one ps_never)
      pss_nil)
    (pss_cons (ps_set (i := 5) scs_Make_init.nd rfl (.inl rfl) (pe_join pe_str (pe_callB cr_sortedS (by rfl) T.z_sorted (by decide +kernel) (pa_cons (pe_lc (own := [("kind", 9)]) rfl scs_Make_init.nd (pi_tup (pv 2)) (blkOk_by (N := ["self", "words", "kinds", "space", "seats", "names", "name", "lag", "standings", "kind"]) (sc := defScope s_Make_init) (by decide +kernel)) (fun _ _ _ _ _ => (pg_name (i := 9) scs_Make_init.nd rfl (.inl rfl) (.inr rfl))) (fun _ _ _ _ _ => pts_nil) (fun _ _ _ _ _ => (pe_ix (ix_tupK (K := K) rfl) (pv 9) pe_int (fun _ _ => rfl)))) pa_nil))))
    (pss_cons (ps_set (i := 4) scs_Make_init.nd rfl (.inl rfl) (pcall (p_deep_d T) (hr.mono (by decide)) (by rfl) T.g_deep pass0 (pa_cons (pv 4) pa_nil)))
    (pss_cons (ps_fld (pv 0) (pcall (p_seats_of T) (hr.mono (by decide)) (by rfl) T.g_seats_of pass0 (pa_cons (pv 5) (pa_cons (pv 4) pa_nil))) rfl)
    (pss_cons (ps_fld (pv 0) (pv 1) rfl)
    (pss_cons (ps_fld (pv 0) (pv 2) rfl)
    (pss_cons (ps_fld (pv 0) (pv 3) rfl)
    (pss_cons (ps_fld (pv 0) (pv 4) rfl)
    (pss_cons (ps_fld (pv 0) (pe_op op_add_str pe_str (pv 1)) rfl)
    (pss_cons (ps_fld (pv 0) pe_dnewK rfl)
    (pss_cons (ps_fld (pv 0) pe_dnewK rfl)
    (pss_cons (ps_for PassesOwn.never rfl (pi_tup (pv 2)) (pg_tup rfl (pgs_cons (pg_name (i := 6) scs_Make_init.nd rfl (.inl rfl) (.inl rfl)) (pgs_cons (pg_name (i := 7) scs_Make_init.nd rfl (.inl rfl) (.inl rfl)) (pgs_cons (pg_name (i := 8) scs_Make_init.nd rfl (.inl rfl) (.inl rfl)) pgs_nil))))
      (pss_cons (ps_dput hu (pe_fld (pv 0) rfl) (pv 6) (pmake (p_Drill_init T) T.mkr_Drill (hr.mono (by decide)) (by rfl) T.g_Drill pass0 (pa_cons (pv 1) (pa_cons (pv 8) pa_nil))) rfl)
      (pss_one (ps_dput hu (pe_fld (pv 0) rfl) (pv 6) (pv 7) rfl))))
    (pss_one (ps_fld (pv 0) (pv 5) rfl))))))))))))))))), ?_⟩
    refine ⟨_, rfl, W.words, rfl, ok.sm, ok.rise, ok.wl.1, by have := ok.wl; omega, fun H1 s1 => ⟨true, rfl, iteF ?_⟩⟩
    refine ⟨kv, rfl, kv, 12, _, rfl, (hk.same s1).dd, Nat.le_trans (depth_knds _) (by decide), by decide, fun H2 v2 s2 t2 => ?_⟩
    refine ⟨_, rfl, _, rfl, W.words, v2, W.kinds, rfl, t2, ok.kok, ok.kl.1, ok.kl.2, ok.nd, ok.wl.2, fun H3 s3 => ?_⟩
    refine ⟨_, rfl, (W.space : Nat), 0, 20, rfl, ?_⟩
    have sp := ok.sp
    rw [decide_eq_true (show (0 : Int) ≤ ((W.space : Nat) : Int) ∧ ((W.space : Nat) : Int) ≤ 20 by omega)]
    refine ⟨true, rfl, iteF ?_⟩
    have t3 := t2.same s3
    obtain ⟨ka, xs, rfl, hka, lx, tx⟩ := knds_inv t3
    have kl := ok.kl
    refine ⟨⟨_, rfl⟩, _, rfl, ka, rfl, ⟨xs, hka⟩, fun D hD => lc_map (walk_tup (xs := xs)) hD (by omega) (fun H' s' => s'.tup hka) (fun i acc _ => acc = (W.kinds.take i).map fun k => V.str (one k.name)) (fun _ _ _ _ _ h => h) rfl (fun i y H1 H2 acc k ks hi1 s1 a1 l1 y hk _ => ?_) fun H4 acc s4 eD lD aD => ?_⟩
    · obtain ⟨rfl, g⟩ := y
      obtain ⟨r, gr, tr⟩ := knds_at tx g
      obtain ⟨a, b, rfl, ha, _⟩ := knd_inv (tr.same s1)
      refine ⟨rfl, yes_if ⟨_, rfl, a, _, 0, _, rfl, rfl, ha, rfl, hk _ _ (Same.refl _) ?_⟩⟩
      rw [a1, take_snoc gr, List.map_append]
      rfl
    have aD' : acc = (W.names.map one).map V.str := by
      rw [aD, lx, List.take_length, Wld.names, List.map_map, List.map_map]
      rfl
    rw [aD'] at eD
    have nl : W.names.length = W.kinds.length := by simp [Wld.names]
    refine ⟨D, W.names.map one, rfl, .inl (.inl eD), by rw [List.length_map]; omega, fun ys p pm so np => ?_⟩
    obtain ⟨row, pr, rfl⟩ := perm_map_inv _ _ _ pm
    have rise := sorted_ones so (nodup_perm pr ok.nd)
    have rl : row.length ≤ 2 := by rw [pr.length_eq]; omega
    have s5 := same_upd (o := .lst ((row.map one).map V.str)) np
    have e5 : (upd H4 p (.lst ((row.map one).map V.str))) p = some (.lst ((row.map one).map V.str)) := upd_same
    generalize upd H4 p (.lst ((row.map one).map V.str)) = H5 at s5 e5 ⊢
    refine ⟨("" : Str), p, row.map one, rfl, rfl, .inl (.inl (.inl e5)), ?_, ?_⟩
    · rw [sum_ones, List.length_map]
      show row.length + row.length * 0 ≤ _
      omega
    rw [join_ones]
    have s05 := ((((s1.trans s2).trans s3).trans s4).trans s5)
    refine ⟨sv, rfl, sv, 12, _, rfl, (hs.same s05).dd, by decide, by decide, fun H6 v6 s6 t6 => ?_⟩
    refine ⟨_, rfl, _, rfl, str row, v6, rfl, t6, fun H7 t s7 e7 => ?_⟩
    have s07 := (s05.trans s6).trans s7
    have b7 : Bld H H7 x (He.ga K "Make") dx [] := ⟨Sb.of s07, s07 _ _ hx⟩
    have t7 := t3.same (((s4.trans s5).trans s6).trans s7)
    refine ⟨_, rfl, x, _, dx, _, rfl, b7.o, T.c_Make, T.n_Make_seat_table, by decide, b7.step (K := K) "seat_table" _ (n := 0) (by decide) fun H8 f8 b8 e8 n8 sb8 k8 => ?_⟩
    have e8t : H8 t = some (.dT []) := sb8 _ _ (fun z => by rw [z, b7.o] at e7; cases e7) e7
    have t8 := t7.kt k8
    refine ⟨_, rfl, _, rfl, x, _, dx, _, rfl, b8.o, T.c_Make, T.n_Make_words, by omega, b8.step (K := K) "words" _ n8 fun H9 f9 b9 e9 n9 sb9 k9 => ?_⟩
    have e9t : H9 t = some (.dT []) := sb9 _ _ (fun z => by rw [z, b8.o] at e8t; cases e8t) e8t
    have t9 := t8.kt k9
    refine ⟨_, rfl, _, rfl, x, _, dx, _, rfl, b9.o, T.c_Make, T.n_Make_kinds, by omega, b9.step (K := K) "kinds" _ n9 fun H10 f10 b10 e10 n10 sb10 k10 => ?_⟩
    have e10t : H10 t = some (.dT []) := sb10 _ _ (fun z => by rw [z, b9.o] at e9t; cases e9t) e9t
    have t10 := t9.kt k10
    refine ⟨_, rfl, _, rfl, x, _, dx, _, rfl, b10.o, T.c_Make, T.n_Make_space, by omega, b10.step (K := K) "space" _ n10 fun H11 f11 b11 e11 n11 sb11 k11 => ?_⟩
    have e11t : H11 t = some (.dT []) := sb11 _ _ (fun z => by rw [z, b10.o] at e10t; cases e10t) e10t
    have t11 := t10.kt k11
    refine ⟨_, rfl, _, rfl, x, _, dx, _, rfl, b11.o, T.c_Make, T.n_Make_seats, by omega, b11.step (K := K) "seats" _ n11 fun H12 f12 b12 e12 n12 sb12 k12 => ?_⟩
    have e12t : H12 t = some (.dT []) := sb12 _ _ (fun z => by rw [z, b11.o] at e11t; cases e11t) e11t
    have t12 := t11.kt k12
    have wl := ok.wl
    refine ⟨_, rfl, ("." : Str), str W.words, rfl, rfl, dot_len (by omega), ?_⟩
    rw [dot_str]
    refine ⟨_, rfl, x, _, dx, _, rfl, b12.o, T.c_Make, T.n_Make_signs, by omega, b12.step (K := K) "signs" _ n12 fun H13 f13 b13 e13 n13 sb13 k13 => ?_⟩
    have e13t : H13 t = some (.dT []) := sb13 _ _ (fun z => by rw [z, b12.o] at e12t; cases e12t) e12t
    have t13 := t12.kt k13
    intro dd ndd
    have s14 := same_upd (o := .dK []) ndd
    have e14d : (upd H13 dd (.dK [])) dd = some (.dK []) := upd_same
    generalize upd H13 dd (.dK []) = H14 at s14 e14d ⊢
    have b14 := b13.grow s14
    refine ⟨_, rfl, x, _, dx, _, rfl, b14.o, T.c_Make, T.n_Make_drills, by omega, b14.step (K := K) "drills" _ n13 fun H15 f15 b15 e15 n15 sb15 k15 => ?_⟩
    have e15t : H15 t = some (.dT []) := sb15 _ _ (fun z => by rw [z, b13.o] at e13t; cases e13t) (s14 _ _ e13t)
    have e15d : H15 dd = some (.dK []) := sb15 _ _ (fun z => by rw [z, b14.o] at e14d; cases e14d) e14d
    have t15 := (t13.same s14).kt k15
    intro ll nll
    have s16 := same_upd (o := .dK []) nll
    have e16l : (upd H15 ll (.dK [])) ll = some (.dK []) := upd_same
    generalize upd H15 ll (.dK []) = H16 at s16 e16l ⊢
    have b16 := b15.grow s16
    refine ⟨_, rfl, x, _, dx, _, rfl, b16.o, T.c_Make, T.n_Make_lags, by omega, b16.step (K := K) "lags" _ n15 fun H17 f17 b17 e17 n17 sb17 k17 => ?_⟩
    have e17t : H17 t = some (.dT []) := sb17 _ _ (fun z => by rw [z, b15.o] at e15t; cases e15t) (s16 _ _ e15t)
    have e17d : H17 dd = some (.dK []) := sb17 _ _ (fun z => by rw [z, b15.o] at e15d; cases e15d) (s16 _ _ e15d)
    have e17l : H17 ll = some (.dK []) := sb17 _ _ (fun z => by rw [z, b16.o] at e16l; cases e16l) e16l
    have t17 := (t15.same s16).kt k17
    have ndl : dd ≠ ll := fun z => by rw [z, nll] at e15d; cases e15d
    obtain ⟨ka', xs', eka, hka17, lx17, tx17⟩ := knds_inv t17
    cases eka
    have lkd : f17.lookup ("drills" : Str) = some (.ref dd) := by
      rw [e17, e15]
      exact look_ne (by decide) (look_same _ _ _)
    have lkl : f17.lookup ("lags" : Str) = some (.ref ll) := by
      rw [e17]
      exact look_same _ _ _
    have nxd : x ≠ dd := fun z => by rw [← z, b17.o] at e17d; cases e17d
    have nxl : x ≠ ll := fun z => by rw [← z, b17.o] at e17l; cases e17l
    refine ⟨_, rfl, ka, rfl, ⟨xs', hka17⟩, for_it (walk_tup (xs := xs')) (fun i σ H' => MSt K H17 H' x dd ll W i ∧ ∃ x6 x7 x8 x9, σ = [some (.ref x), some (.str (str W.words)), some (.ref ka), some (.int (W.space : Nat)), some v6, some (.str (str row)), x6, x7, x8, x9])
      ⟨⟨fun _ _ _ _ h => h, ⟨[], e17d, Nat.le_refl _, fun j k hj => by omega⟩, ⟨[], e17l, Nat.le_refl _, fun j k hj => by omega⟩⟩, _, _, _, _, rfl⟩ (fun i σ H' _ h => ?_) (fun i y σ H1 H2 hi h y => ?_) fun σ H' h => ?_⟩
    · refine (show Kt K H17 H' from fun a xs hs => ?_) _ _ hka17
      rcases hs with (hs | ⟨o, hs⟩) | hs
      · exact .inl (.inl (h.1.fr _ _ (fun z => by rw [z, e17d] at hs; cases hs) (fun z => by rw [z, e17l] at hs; cases hs) hs))
      · exact .inl (.inr ⟨o, h.1.fr _ _ (fun z => by rw [z, e17d] at hs; cases hs) (fun z => by rw [z, e17l] at hs; cases hs) hs⟩)
      · exact .inr hs
    · obtain ⟨M, x6, x7, x8, x9, rfl⟩ := h
      obtain ⟨rfl, g⟩ := y
      obtain ⟨k, gk, tk⟩ := knds_at tx17 g
      have kt : Kt K H17 H2 := fun a xs hs => by
        rcases hs with (hs | ⟨o, hs⟩) | hs
        · exact .inl (.inl (M.fr _ _ (fun z => by rw [z, e17d] at hs; cases hs) (fun z => by rw [z, e17l] at hs; cases hs) hs))
        · exact .inl (.inr ⟨o, M.fr _ _ (fun z => by rw [z, e17d] at hs; cases hs) (fun z => by rw [z, e17l] at hs; cases hs) hs⟩)
        · exact .inr hs
      obtain ⟨c, b, rfl, hc, hb⟩ := knd_inv (tk.kt kt)
      have km := List.mem_of_getElem? gk
      obtain ⟨kd, ekd, lkd', pkd⟩ := M.dr
      obtain ⟨kg, ekg, lkg', pkg⟩ := M.lg
      have hx2 := M.fr _ _ nxd nxl b17.o
      refine ⟨c, _, rfl, hc, rfl, _, _, rfl, _, _, rfl, _, _, rfl, rfl, ?_⟩
      refine ⟨_, rfl, _, rfl, fun y dy ny nyd ne => ?_⟩
      have sm := made_same (C := He.ga K "Drill") (fs := []) ny nyd ne
      refine ⟨y, dy, W.words, .ref b, k.rows, rfl, upd_same, ok.sm, ok.rise, wl.1, wl.2, hb.same sm, ok.rows k km, fun H3 sb3 dr => ⟨rfl, ?_⟩⟩
      have s3 : Same H2 H3 := Sb.same sm ny sb3
      have d3 := dr (fun b => b = dd ∨ b = ll ∨ b = x) (fun z => by
        rcases z with z | z | z
        · rw [z, ekd] at ny
          cases ny
        · rw [z, ekg] at ny
          cases ny
        · rw [z, hx2] at ny
          cases ny) fun b hb => by
        rcases hb with rfl | rfl | rfl
        · exact ⟨_, sm _ _ ekd, (fun _ z => nomatch z), fun _ _ z => nomatch z⟩
        · exact ⟨_, sm _ _ ekg, (fun _ z => nomatch z), fun _ _ z => nomatch z⟩
        · exact ⟨_, sm _ _ hx2, (fun _ z => nomatch z), fun _ _ z => nomatch z⟩
      refine ⟨_, rfl, x, _, dx, f17, _, rfl, s3 _ _ hx2, T.c_Make, T.n_Make_drills, lkd, _, rfl, dd, _, rfl, DPut.k (kvs := kd) (k := .inr (one k.name)) (s3 _ _ ekd) (sz2l (by omega)), ?_⟩
      refine ⟨_, rfl, _, rfl, x, _, dx, f17, _, rfl, (by rw [upd_ne nxd]; exact s3 _ _ hx2), T.c_Make, T.n_Make_lags, lkl, _, rfl, ll, _, rfl, DPut.k (kvs := kg) (k := .inr (one k.name)) (by rw [upd_ne ndl.symm]; exact s3 _ _ ekg) (sz2l (by omega)), ?_⟩
      have f2 : ∀ b o, b ≠ dd → b ≠ ll → H2 b = some o → (upd (upd H3 dd (.dK (putK kd (.inr (one k.name)) (.ref y)))) ll (.dK (putK kg (.inr (one k.name)) (.int (k.lag : Nat))))) b = some o := fun b o n1 n2 e => by
        rw [upd_ne n2, upd_ne n1]
        exact s3 _ _ e
      have same_name : ∀ (j : Nat) (k' : Knd), W.kinds[j]? = some k' → k'.name = k.name → j = i := fun j k' hj hn => nodup_at ok.nd (c := k.name) (by rw [List.getElem?_map, hj]; exact congrArg some hn) (by rw [List.getElem?_map, gk]; rfl)
      refine ⟨⟨fun b o n1 n2 e => f2 b o n1 n2 (M.fr b o n1 n2 e), ⟨_, by rw [upd_ne ndl]; exact upd_same, Nat.le_trans (putK_le _ _ _) (by omega), fun j k' hj hk' => ?_⟩, ⟨_, upd_same, Nat.le_trans (putK_le _ _ _) (by omega), fun j k' hj hk' => ?_⟩⟩, _, _, _, _, rfl⟩
      · have kp : Kp (hid (fun b => b = dd ∨ b = ll ∨ b = x) H3) (hid (fun b => b = dd ∨ b = ll ∨ b = x) (upd (upd H3 dd (.dK (putK kd (.inr (one k.name)) (.ref y)))) ll (.dK (putK kg (.inr (one k.name)) (.int (k.lag : Nat)))))) :=
          hid_kp fun b o nd _ e => by
            rw [upd_ne (fun z => nd (.inr (.inl z))), upd_ne (fun z => nd (.inl z))]
            exact e
        rw [valV_put]
        by_cases ej : j = i
        · subst ej
          rw [gk] at hk'
          cases hk'
          rw [if_pos rfl]
          exact ⟨_, rfl, d3.kp kp⟩
        · rw [if_neg fun z => ej (same_name j k' hk' (one_inj (Sum.inr.inj z)))]
          obtain ⟨dv, h1, h2⟩ := pkd j k' (by omega) hk'
          exact ⟨dv, h1, (h2.kp (hid_kp fun b o _ _ e => s3 _ _ e)).kp kp⟩
      · rw [valV_put]
        by_cases ej : j = i
        · subst ej
          rw [gk] at hk'
          cases hk'
          rw [if_pos rfl]
        · rw [if_neg fun z => ej (same_name j k' hk' (one_inj (Sum.inr.inj z)))]
          exact pkg j k' (by omega) hk'
    · obtain ⟨M, x6, x7, x8, x9, rfl⟩ := h
      obtain ⟨kd, ekd, lkd', pkd⟩ := M.dr
      obtain ⟨kg, ekg, lkg', pkg⟩ := M.lg
      have hx2 := M.fr _ _ nxd nxl b17.o
      have et2 := M.fr _ _ (fun z => by rw [z, e17d] at e17t; cases e17t) (fun z => by rw [z, e17l] at e17t; cases e17t) e17t
      have ndd0 : H dd = none := b13.s.back (by rw [b13.o]; exact fun z => nomatch z) ndd
      have nll0 : H ll = none := b15.s.back (by rw [b15.o]; exact fun z => nomatch z) nll
      have sbH : Sb x H H' := fun b o n e => M.fr _ _ (fun z => by rw [z, ndd0] at e; cases e) (fun z => by rw [z, nll0] at e; cases e) (b17.s b o n e)
      have bH : Bld H H' x (He.ga K "Make") dx f17 := ⟨sbH, hx2⟩
      refine ⟨_, rfl, _, rfl, x, _, dx, _, rfl, hx2, T.c_Make, T.n_Make_name_row, by omega, bH.step (K := K) "name_row" _ n17 fun H19 f19 b19 e19 n19 sb19 k19 => ?_⟩
      refine q H19 row b19.s ⟨pr, rise, x, dx, t, dd, ll, f19, kd, kg, rfl, b19.o, ?_, ?_, ?_, ?_, ?_, ?_, sb19 _ _ (fun z => by rw [z, hx2] at et2; cases et2) et2, ?_, sb19 _ _ nxd.symm ekd, ?_, sb19 _ _ nxl.symm ekg, fun k hk => ?_, fun k hk => ?_⟩
      · rw [e19, e17, e15, e13, e12, e11, e10, e9, e8]
        exact look_ne (by decide) (look_ne (by decide) (look_ne (by decide) (look_ne (by decide) (look_ne (by decide) (look_ne (by decide) (look_ne (by decide) (look_ne (by decide) (look_ne (by decide) rfl))))))))
      · rw [e19, e17, e15, e13, e12, e11, e10, e9, e8]
        exact look_ne (by decide) (look_ne (by decide) (look_ne (by decide) (look_ne (by decide) (look_ne (by decide) (look_ne (by decide) (look_ne (by decide) (look_ne (by decide) (look_ne (by decide) rfl))))))))
      · rw [e19, e17, e15, e13]
        exact look_ne (by decide) (look_ne (by decide) (look_ne (by decide) (look_same _ _ _)))
      · rw [e19, e17, e15, e13, e12, e11]
        exact look_ne (by decide) (look_ne (by decide) (look_ne (by decide) (look_ne (by decide) (look_ne (by decide) (look_same _ _ _)))))
      · rw [e19]
        exact look_same _ _ _
      · rw [e19, e17, e15, e13, e12, e11, e10, e9, e8]
        exact look_ne (by decide) (look_ne (by decide) (look_ne (by decide) (look_ne (by decide) (look_ne (by decide) (look_ne (by decide) (look_ne (by decide) (look_ne (by decide) (look_same _ _ _))))))))
      · rw [e19]
        exact look_ne (by decide) lkd
      · rw [e19]
        exact look_ne (by decide) lkl
      · obtain ⟨j, hj, ej⟩ := List.mem_iff_getElem.mp hk
        obtain ⟨dv, h1, h2⟩ := pkd j k (by rw [lx17]; exact hj) (by rw [List.getElem?_eq_getElem hj, ej])
        refine ⟨dv, h1, ?_⟩
        refine (h2.kp (hid_kp (D := fun b => b = dd ∨ b = ll ∨ b = x) (H' := H19) fun b o nd _ e => sb19 _ _ (fun z => nd (.inr (.inr z))) e)).same (hid_same _ _)
      · obtain ⟨j, hj, ej⟩ := List.mem_iff_getElem.mp hk
        exact pkg j k (by rw [lx17]; exact hj) (by rw [List.getElem?_eq_getElem hj, ej])

end
end TH
end
section
set_option Elab.async false
set_option linter.all false
set_option maxRecDepth 100000
set_option maxHeartbeats 4000000
namespace TH
open PySem PySem.Spec PyProof.Rows L2
section
variable {P : Program} {w : World} {K : PySem.W.Frag} {mg : Str → Option Value} {base : Heap}
/-! plans.py -/
theorem lt_ones (a b : Nat) : decide ((one a).cps.toList < (one b).cps.toList) = decide (a < b) := lt_one a b
theorem cps_A : (Str.cps ("A" : Str)).toList = [65] := by decide +kernel
theorem cps_Z : (Str.cps ("Z" : Str)).toList = [90] := by decide +kernel
theorem cps_E : (Str.cps ("" : Str)).toList = [] := by decide +kernel
theorem p_is_plan_sign (T : Tx K mg) : Pr P w K mg base CX0 1 ["sign"] [] (He.ga K "is_plan_sign") (fun vs H Q _ => ∃ c : Nat, vs = [.str (one c)] ∧ 65 ≤ c ∧ c ≤ 90 ∧ Q (.bl true) H) := by
  refine T.d_is_plan_sign.pr scs_is_plan_sign (fun vs H Q E h => ?_) (fun cdv A outer s H vs Q E hr h => ?_)
  · obtain ⟨c, rfl, _⟩ := h
    rfl
  · obtain ⟨c, rfl, h1, h2, q⟩ := h
    refine ⟨_, (pss_cons (ps_if (pw_or (pt_not (pt_val (pe_callB call_isiS (by rfl) T.z_isinstance (by decide +kernel) (pa_cons (pv 0) (pa_cons (pe_bltn (v := .ty "str") (by rfl) T.z_str (by decide +kernel : bootBuiltins "str" = some (.type "str")) rfl) pa_nil))))) (pw_or1 (pt_cmpR op_ne (pe_callB call_len_str (by rfl) T.z_len PySem.boot_len (pa_cons (pv 0) pa_nil)) pe_int (nomark _)))).pt
      (pss_one (ps_ret pe_bl))
      pss_nil)
    (pss_one (ps_ret (pe_or (pe_cmpR op_eq (pv 0) pe_str (nomark _)) (pe_or (pe_chain op_le_str op_le_str pe_str (pv 0) pe_str) (pe_one (pe_chain op_le_str op_le_str pe_str (pv 0) pe_str))))))), ?_⟩
    refine ⟨_, rfl, _, _, "str", true, rfl, .base (.str _), by decide +kernel, true, rfl, iteF ?_⟩
    refine ⟨_, rfl, one c, rfl, by show 1 ≤ sizeLine; decide, rfl, _, rfl, iteNS rfl ?_⟩
    refine ⟨_, rfl, rfl, _, rfl, iteN (fun z => ?_) ?_⟩
    · have z' := one_inj (V.str.inj z : one c = one 46)
      omega
    · refine ⟨_, rfl, "A", one c, rfl, rfl, _, rfl, ?_⟩
      have e1 : decide ((one c).cps.toList < (Str.cps ("A" : Str)).toList) = false := by
        rw [cps_A]
        exact (lt_one c 65).trans (decide_eq_false (by omega))
      have e2 : decide ((Str.cps ("Z" : Str)).toList < (one c).cps.toList) = false := by
        rw [cps_Z]
        exact (lt_one 90 c).trans (decide_eq_false (by omega))
      rw [e1]
      refine iteT ⟨one c, "Z", rfl, rfl, ?_⟩
      show (∃ b : Bool, _)
      rw [e2]
      exact ⟨true, rfl, iteT q⟩
theorem p_is_state (T : Tx K mg) : Pr P w K mg base CX0 2 ["many", "state"] [] (He.ga K "is_state")
    (fun vs H Q _ => ∃ (n : Nat) (v : V) (st : PState), vs = [.int (n : Nat), v] ∧ Tp K H v (encState st) ∧ (st.map (·.1)).Pairwise (· < ·) ∧ (∀ q ∈ st, 65 ≤ q.1 ∧ q.1 ≤ 90 ∧ q.2 < n) ∧ Q (.bl true) H) := by
  refine T.d_is_state.pr scs_is_state (fun vs H Q E h => ?_) (fun cdv A outer s H vs Q E hr h => ?_)
  · obtain ⟨n, v, st, rfl, _⟩ := h
    rfl
  · obtain ⟨n, v, st, rfl, hv, pw, hq, q⟩ := h
    obtain ⟨a, xs, rfl, ha, _, hx⟩ := state_inv hv
    refine ⟨_, (pss_cons (ps_if (pt_not (pt_val (pe_callB call_isiS (by rfl) T.z_isinstance (by decide +kernel) (pa_cons (pv 1) (pa_cons (pe_bltn (v := .ty "tuple") (by rfl) T.z_tuple (by decide +kernel : bootBuiltins "tuple" = some (.type "tuple")) rfl) pa_nil)))))
      (pss_one (ps_ret pe_bl))
      pss_nil)
    (pss_cons (ps_set (i := 2) scs_is_state.nd rfl (.inl rfl) pe_str)
    (pss_cons (ps_for PassesOwn.never rfl (pi_tup (pv 1)) (pg_name (i := 3) scs_is_state.nd rfl (.inl rfl) (.inl rfl))
      (pss_cons (ps_if (pw_or (pt_not (pt_val (pe_callB call_isiS (by rfl) T.z_isinstance (by decide +kernel) (pa_cons (pv 3) (pa_cons (pe_bltn (v := .ty "tuple") (by rfl) T.z_tuple (by decide +kernel : bootBuiltins "tuple" = some (.type "tuple")) rfl) pa_nil))))) (pw_or (pt_cmpR op_ne (pe_callB call_len_seq (by rfl) T.z_len PySem.boot_len (pa_cons (pv 3) pa_nil)) pe_int (nomark _)) (pw_or1 (pt_not (pt_val (pcall (p_is_plan_sign T) (hr.mono (by decide)) (by rfl) T.g_is_plan_sign pass0 (pa_cons (pe_ix ix_tup (pv 3) pe_int (fun _ _ => rfl)) pa_nil))))))).pt
        (pss_one (ps_ret pe_bl))
        pss_nil)
      (pss_cons (ps_if (pw_or (pt_cmpR op_le_str (pe_ix ix_tup (pv 3) pe_int (fun _ _ => rfl)) (pv 2) (nomark _)) (pw_or1 (pt_not (pt_val (pcall (p_is_integer T) (hr.mono (by decide)) (by rfl) T.g_is_integer pass0 (pa_cons (pe_ix ix_tup (pv 3) pe_int (fun _ _ => rfl)) (pa_cons pe_int (pa_cons (pe_op op_sub (pv 0) pe_int) pa_nil)))))))).pt
        (pss_one (ps_ret pe_bl))
        pss_nil)
      (pss_one (ps_set (i := 2) scs_is_state.nd rfl (.inl rfl) (pe_ix ix_tup (pv 3) pe_int (fun _ _ => rfl)))))))
    (pss_one (ps_ret pe_bl))))), ?_⟩
    refine ⟨_, rfl, _, _, "tuple", true, rfl, ty_tup ha, by decide +kernel, true, rfl, iteF ?_⟩
    refine ⟨_, rfl, a, rfl, ⟨_, ha⟩, for_it (walk_tup (xs := xs)) (fun i σ H1 => H1 = H ∧ ∃ (l : Str) (x3 : Option V), σ = [some (.int (n : Nat)), some (.ref a), some (.str l), x3] ∧ (l = "" ∨ ∃ (j c m : Nat), j < i ∧ st[j]? = some (c, m) ∧ l = one c)) ⟨rfl, "", _, rfl, .inl rfl⟩ (fun i σ H1 _ h => by rw [h.1]; exact ha) (fun i x σ H1 H2 hi h y => ?_) fun σ H1 h => ?_⟩
    · obtain ⟨rfl, l, x3, rfl, hl⟩ := h
      obtain ⟨rfl, g⟩ := y
      obtain ⟨c, m, b, gq, rfl, hb⟩ := row_at hx g
      obtain ⟨h1, h2, h3⟩ := hq _ (List.mem_of_getElem? gq)
      refine ⟨_, rfl, _, _, "tuple", true, rfl, ty_tup hb, by decide +kernel, true, rfl, iteF ?_⟩
      refine ⟨_, rfl, b, _, rfl, .inr hb, rfl, _, rfl, iteNS rfl ?_⟩
      refine ⟨_, rfl, b, _, 0, _, rfl, rfl, hb, rfl, c, rfl, h1, h2, true, rfl, iteF ?_⟩
      refine ⟨_, rfl, b, _, 0, _, rfl, rfl, hb, rfl, _, rfl, one c, l, rfl, rfl, _, rfl, ?_⟩
      have e : decide (l.cps.toList < (one c).cps.toList) = true := by
        rcases hl with rfl | ⟨j, c', m', hj, hg, rfl⟩
        · rw [cps_E]
          exact decide_eq_true List.Lex.nil
        · rw [lt_ones]
          refine decide_eq_true ?_
          have p1 : (st.map (·.1))[j]? = some c' := by rw [List.getElem?_map, hg]; rfl
          have p2 : (st.map (·.1))[i]? = some c := by rw [List.getElem?_map, gq]; rfl
          obtain ⟨i1, e1⟩ := List.getElem?_eq_some_iff.mp p1
          obtain ⟨i2, e2⟩ := List.getElem?_eq_some_iff.mp p2
          rw [← e1, ← e2]
          exact List.pairwise_iff_getElem.mp pw j i i1 i2 hj
      rw [e]
      refine iteF ⟨_, rfl, b, _, 1, _, rfl, rfl, hb, rfl, _, rfl, (n : Nat), 1, rfl, rfl, (m : Nat), 0, ((n : Nat) - 1 : Int), rfl, ?_⟩
      rw [decide_eq_true (show (0 : Int) ≤ (m : Int) ∧ (m : Int) ≤ ((n : Nat) - 1 : Int) by omega)]
      refine ⟨true, rfl, iteF ⟨_, rfl, b, _, 0, _, rfl, rfl, hb, rfl, rfl, one c, _, rfl, .inr ⟨i, c, m, Nat.lt_succ_self i, gq, rfl⟩⟩⟩
    · obtain ⟨rfl, l, x3, rfl, hl⟩ := h
      exact q

end
end TH
end
section
set_option Elab.async false
set_option linter.all false
set_option maxRecDepth 100000
set_option maxHeartbeats 4000000
namespace TH
open PySem PySem.Spec PyProof.Rows L2
section
variable {P : Program} {w : World} {K : PySem.W.Frag} {mg : Str → Option Value} {base : Heap}
/-! live states -/
theorem walk_rng {n : Nat} : Walk (Itr 0 n) n (fun _ => True) (fun _ H x H' => True ∧ H' = H ∧ ∃ i : Nat, x = .int (i : Nat)) := (walk_range (lo := 0) (n := n)).mono (fun _ h => h) fun i H x H' _ _ y => ⟨trivial, y.1, i, by rw [y.2]; show V.int (0 + (i : Int)) = _; rw [Int.zero_add]⟩
theorem walk_rn {n : Nat} : Walk (Itr 0 n) n (fun _ => True) (fun i H x H' => H' = H ∧ x = .int (i : Nat)) := (walk_range (lo := 0) (n := n)).mono (fun _ h => h) fun i H x H' _ _ y => ⟨y.1, by rw [y.2]; show V.int (0 + (i : Int)) = _; rw [Int.zero_add]⟩
def tabK (st : PState) : List (Key × V) := st.map fun q => (cKey q.1, V.int (q.2 : Nat))
def TabAt (H : Hp) (v : V) (st : PState) : Prop := ∃ d, v = .ref d ∧ H d = some (.dK (tabK st))
theorem tab_val : ∀ {st : PState} {c n : Nat}, (st.map (·.1)).Nodup → (c, n) ∈ st → valV (tabK st) (.inr (one c)) = some (.int (n : Nat))
  | [], _, _, _, h => nomatch h
  | q :: st, c, n, nd, h => by
    rw [List.map_cons] at nd
    obtain ⟨h1, h2⟩ := List.nodup_cons.mp nd
    show valV ((cKey q.1, V.int (q.2 : Nat)) :: tabK st) _ = _
    rcases List.mem_cons.mp h with e | h
    · rw [← e]
      exact valV_pos rfl
    · rw [valV_neg fun z => h1 ?_]
      · exact tab_val h2 h
      · have z' : cKey q.1 = cKey c := z
        rw [cKey_inj _ _ z']
        exact List.mem_map.mpr ⟨_, h, rfl⟩
def preds (E : List (Nat × Nat)) (t : Nat) : List Nat := (E.filter fun e => e.2 == t).map (·.1)
theorem preds_snoc (E : List (Nat × Nat)) (s t x : Nat) : preds (E ++ [(s, t)]) x = if t = x then preds E x ++ [s] else preds E x := by
  unfold preds
  rw [List.filter_append]
  by_cases h : t = x
  · subst h
    simp
  · simp [h]
theorem preds_len (E : List (Nat × Nat)) (t : Nat) : (preds E t).length ≤ E.length := by
  unfold preds
  rw [List.length_map]
  exact List.length_filter_le ..
theorem mem_preds {E : List (Nat × Nat)} {s t : Nat} : s ∈ preds E t ↔ (s, t) ∈ E := by
  unfold preds
  simp
def BackOk (K : PySem.W.Frag) (H : Hp) (t : Addr) (E : List (Nat × Nat)) : Prop := ∃ kvs : List (Key × V), H t = some (.dK kvs) ∧ kvs.length ≤ E.length ∧ ∀ x : Nat, (valV kvs (.inl (x : Int)) = none ∧ preds E x = []) ∨ ∃ a, valV kvs (.inl (x : Int)) = some (.ref a) ∧ SqT K H a (natsV (preds E x))
theorem BackOk.kt {H H' : Hp} {t : Addr} {E : List (Nat × Nat)} (b : BackOk K H t E) (k : Kt K H H') (e : H' t = H t) : BackOk K H' t E := by
  obtain ⟨kvs, h1, h2, h3⟩ := b
  refine ⟨kvs, e.trans h1, h2, fun x => ?_⟩
  rcases h3 x with h | ⟨a, h4, h5⟩
  · exact .inl h
  · exact .inr ⟨a, h4, k _ _ h5⟩
theorem kt_lock {H : Hp} {d : Addr} {kvs : List (Key × V)} {od : Obj} (e : H d = some (.dK kvs)) : Kt K H (upd H d (.frz od (.dK kvs))) := fun a xs h => by
  rcases h with (h | ⟨o, h⟩) | h
  · exact .inl (.inl (by rw [upd_ne (fun z => by rw [z, e] at h; cases h)]; exact h))
  · exact .inl (.inr ⟨o, by rw [upd_ne (fun z => by rw [z, e] at h; cases h)]; exact h⟩)
  · exact .inr h
theorem kt_unlock {H : Hp} {d : Addr} {kvs : List (Key × V)} {od : Obj} (e : H d = some (.frz od (.dK kvs))) : Kt K H (upd H d (.dK kvs)) := fun a xs h => by
  rcases h with (h | ⟨o, h⟩) | h
  · exact .inl (.inl (by rw [upd_ne (fun z => by rw [z, e] at h; cases h)]; exact h))
  · exact .inl (.inr ⟨o, by rw [upd_ne (fun z => by rw [z, e] at h; cases h)]; exact h⟩)
  · exact .inr h
theorem kt_of {H H' : Hp} (s : Same H H') : Kt K H H' := fun _ _ h => s.tup h
theorem kt_dK {H : Hp} {t : Addr} {kvs kvs' : List (Key × V)} (e : H t = some (.dK kvs)) : Kt K H (upd H t (.dK kvs')) := fun a xs h => by
  rcases h with (h | ⟨o, h⟩) | h
  · exact .inl (.inl (by rw [upd_ne (fun z => by rw [z, e] at h; cases h)]; exact h))
  · exact .inl (.inr ⟨o, by rw [upd_ne (fun z => by rw [z, e] at h; cases h)]; exact h⟩)
  · exact .inr h
theorem BackOk.put {H : Hp} {t : Addr} {E : List (Nat × Nat)} {kvs : List (Key × V)} {s n : Nat} {p : Addr} (h1 : H t = some (.dK kvs)) (h2 : kvs.length ≤ E.length) (h3 : ∀ x : Nat, (valV kvs (.inl (x : Int)) = none ∧ preds E x = []) ∨ ∃ a, valV kvs (.inl (x : Int)) = some (.ref a) ∧ SqT K H a (natsV (preds E x)))
    (hp : SqT K H p (natsV (preds E n ++ [s]))) : BackOk K (upd H t (.dK (putK kvs (.inl (n : Int)) (.ref p)))) t (E ++ [(s, n)]) := by
  have k := kt_dK (K := K) (kvs' := putK kvs (.inl (n : Int)) (.ref p)) h1
  refine ⟨_, upd_same, Nat.le_trans (putK_le _ _ _) (by simp; omega), fun x => ?_⟩
  rw [valV_put, preds_snoc]
  by_cases e : n = x
  · subst e
    rw [if_pos rfl, if_pos rfl]
    exact .inr ⟨p, rfl, k _ _ hp⟩
  · have e' : ¬ (Sum.inl (x : Int) : Key) = Sum.inl (n : Int) := fun z => e (by
      have := Sum.inl.inj z
      omega)
    rw [if_neg e', if_neg e]
    rcases h3 x with h | ⟨a, h4, h5⟩
    · exact .inl h
    · exact .inr ⟨a, h4, k _ _ h5⟩
def edgesOf (p : Pl) (n : Nat) : List (Nat × Nat) := (List.range n).flatMap fun s => (stOf p s).map fun q => (s, q.2)
/-- an end is reached from s -/
inductive LiveS (p : Pl) : Nat → Prop
  | fin {s : Nat} : s ∈ p.ends → LiveS p s
  | step {s c s' : Nat} : (c, s') ∈ stOf p s → LiveS p s' → LiveS p s
def falses (lb : List Bool) : Nat := (lb.filter fun b => !b).length
theorem falses_set : ∀ {lb : List Bool} {i : Nat}, lb[i]? = some false → falses (lb.set i true) + 1 = falses lb
  | [], i, h => by simp at h
  | b :: lb, 0, h => by
    have h' : b = false := by simpa using h
    subst h'
    simp [falses]
  | b :: lb, i + 1, h => by
    have ih := falses_set (lb := lb) (i := i) (by simpa using h)
    cases b <;> simp [falses, List.set_cons_succ] at * <;> omega
structure LSt (p : Pl) (n : Nat) (lb : List Bool) (wl : List Nat) (out : Option Nat) (done : List Nat) : Prop where
  len : lb.length = n
  w : ∀ x ∈ wl, lb[x]? = some true
  e : ∀ x, x < n → x ∈ p.ends → lb[x]? = some true
  cl : ∀ x, lb[x]? = some true → x ∉ wl → some x ≠ out → ∀ b ∈ preds (edgesOf p n) x, lb[b]? = some true
  dn : ∀ b ∈ done, lb[b]? = some true
  o : ∀ x, out = some x → lb[x]? = some true
theorem edge_mem {p : Pl} {n s c t : Nat} (hs : s < n) (h : (c, t) ∈ stOf p s) : s ∈ preds (edgesOf p n) t := by
  rw [mem_preds, edgesOf, List.mem_flatMap]
  exact ⟨s, List.mem_range.mpr hs, List.mem_map.mpr ⟨_, h, rfl⟩⟩
theorem LSt.all {p : Pl} {n : Nat} {lb : List Bool} (h : LSt p n lb [] none []) (hp : ∀ s q, q ∈ stOf p s → q.2 < n ∧ s < n) : ∀ s, LiveS p s → s < n → lb[s]? = some true := by
  intro s hl
  induction hl with
  | fin he => exact fun hs => h.e _ hs he
  | step hm _ ih =>
    intro hs
    obtain ⟨h1, h2⟩ := hp _ _ hm
    exact h.cl _ (ih h1) (by simp) (by simp) _ (edge_mem hs hm)
theorem list_true : ∀ {lb : List Bool}, (∀ s, s < lb.length → lb[s]? = some true) → lb = List.replicate lb.length true
  | [], _ => rfl
  | b :: lb, h => by
    have h0 := h 0 (by simp)
    have h0' : b = true := by simpa using h0
    rw [h0', List.length_cons, List.replicate_succ, ← list_true fun s hs => by simpa using h (s + 1) (by simpa using hs)]
theorem bl_at {lb : List Bool} {i : Nat} {b : Bool} (h : lb[i]? = some b) : (lb.map V.bl)[i]? = some (.bl b) := by rw [List.getElem?_map, h]; rfl
theorem nat_at {l : List Nat} {i : Nat} {x : Nat} (h : l[i]? = some x) : (natsV l)[i]? = some (.int (x : Nat)) := natsV_at h
theorem ixN_n {n j : Nat} (hj : j < n) : ixN n (j : Int) = some j := by
  unfold ixN
  rw [if_pos (by omega), if_pos (by omega)]
  simp

end
end TH
end
section
set_option Elab.async false
set_option linter.all false
set_option maxRecDepth 100000
set_option maxHeartbeats 4000000
namespace TH
open PySem PySem.Spec PyProof.Rows L2
section
variable {P : Program} {w : World} {K : PySem.W.Frag} {mg : Str → Option Value} {base : Heap}
/-! live_states -/
theorem p_live_states (T : Tx K mg) : Pr P w K mg base CX0 1 ["tables", "ends"] [] (He.ga K "live_states")
    (fun vs H Q _ => ∃ (la fa : Addr) (p : Pl) (names : List Nat) (tabs : List V) (fl : List Bool), vs = [.ref la, .ref fa] ∧ H la = some (.lst tabs) ∧ tabs.length = p.states.length ∧ (∀ (i : Nat) (v : V), tabs[i]? = some v → TabAt H v (stOf p i)) ∧
      H fa = some (.lst (fl.map V.bl)) ∧ fl.length = p.states.length ∧ (∀ i, i < p.states.length → fl[i]? = some (decide (i ∈ p.ends))) ∧ PlOk names p ∧ (∀ s, s < p.states.length → LiveS p s) ∧
      ∀ H' o, Same H H' → H' o = some (.lst (List.replicate p.states.length (.bl true))) → Q (.ref o) H') := by
  refine T.d_live_states.pr scs_live_states (fun vs H Q E h => ?_) (fun cdv A outer s H vs Q E hr h => ?_)
  · obtain ⟨la, fa, p, names, tabs, fl, rfl, _⟩ := h
    rfl
  · obtain ⟨la, fa, p, names, tabs, fl, rfl, hla, lt, ht, hfa, lf, hf, ok, live, q⟩ := h
    have hu := hu_of hr
    have pl := ok.len
    refine ⟨_, (pss_cons (ps_set (i := 2) scs_live_states.nd rfl (.inl rfl) pe_dnewK)
    (pss_cons (ps_for PassesOwn.never rfl (pi_en (by rfl) T.z_enumerate (pa_cons (pv 0) pa_nil)) (pg_tup rfl (pgs_cons (pg_name (i := 3) scs_live_states.nd rfl (.inl rfl) (.inl rfl)) (pgs_cons (pg_name (i := 4) scs_live_states.nd rfl (.inl rfl) (.inl rfl)) pgs_nil)))
      (pss_one (ps_lock (ps_for PassesOwn.never rfl (pi_keys (pv 4)) (pg_name (i := 5) scs_live_states.nd rfl (.inl rfl) (.inl rfl))
        (pss_one (ps_dput hu (pv 2) (pe_dget hu (pv 4) (pv 5) (fun _ _ => rfl)) (pe_op op_catU (pe_dget2 hu (pv 2) (pe_dget hu (pv 4) (pv 5) (fun _ _ => rfl)) (pe_tup pa_nil) ⟨rfl, rfl, rfl, rfl⟩) (pe_tup (pa_cons (pv 3) pa_nil))) rfl))))))
    (pss_cons (ps_set (i := 6) scs_live_states.nd rfl (.inr rfl) (pe_lc (own := [("end", 9)]) rfl scs_live_states.nd (pi_list (pv 1)) (blkOk_by (N := ["tables", "ends", "back", "state", "table", "sign", "live", "waiting", "before", "end"]) (sc := defScope s_live_states) (by decide +kernel)) (fun _ _ _ _ _ => (pg_name (i := 9) scs_live_states.nd rfl (.inl rfl) (.inr rfl))) (fun _ _ _ _ _ => pts_nil) (fun _ _ _ _ _ => (pe_callTy call_bool1 (by rfl) T.z_bool (by decide +kernel) (pa_cons (pv 9) pa_nil)))))
    (pss_cons (ps_setLc (i := 7) (own := [("state", 3)]) rfl scs_live_states.nd rfl rfl (sw_true rfl rfl rfl (by decide +kernel)) (pi_range1 (by rfl) T.z_range (pa_cons (pe_callB call_len_seq (by rfl) T.z_len PySem.boot_len (pa_cons (pv 0) pa_nil)) pa_nil)) (blkOk_by (N := ["tables", "ends", "back", "state", "table", "sign", "live", "waiting", "before", "end"]) (sc := defScope s_live_states) (by decide +kernel)) (fun _ _ _ _ _ => (pg_name (i := 3) scs_live_states.nd rfl (.inl rfl) (.inr rfl))) (fun _ _ _ _ _ => (pts_one (pt_val (pe_ix (ix_listK (K := K) rfl) (pv 6) (pv 3) (fun _ _ => rfl))))) (fun _ _ _ _ _ => (pv 3)))
    (pss_cons (ps_while PassesOwn.never (pt_truth (pv 7) (fun _ => rfl))
      (pss_cons (ps_set (i := 3) scs_live_states.nd rfl (.inl rfl) (pe_bm0 PySem.F.plainAttrs_list PySem.F.slot_list_pop PySem.F.type_list_pop mt_pop (pv 7)))
      (pss_one (ps_for PassesOwn.never rfl (pi_tup (pe_dget2 hu (pv 2) (pv 3) (pe_tup pa_nil) ⟨rfl, rfl, rfl, rfl⟩)) (pg_name (i := 8) scs_live_states.nd rfl (.inl rfl) (.inl rfl))
        (pss_one (ps_if (pt_not (pt_val (pe_ix ix_list (pv 6) (pv 8) (fun _ _ => rfl))))
          (pss_cons (ps_asg pe_bl (pg_sub (pv 6) (pv 8) set_list))
          (pss_one (ps_expr (pe_bm PySem.F.plainAttrs_list PySem.F.slot_list_append PySem.F.type_list_append mt_appU (pv 7) (pa_cons (pv 8) pa_nil)))))
          pss_nil))))))
    (pss_one (ps_ret (pv 6)))))))), ?_⟩
    intro t nt
    have s1 := same_upd (o := .dK []) nt
    have e1 : (upd H t (.dK [])) t = some (.dK []) := upd_same
    generalize upd H t (.dK []) = H1 at s1 e1 ⊢
    have edge_len : ∀ n, n ≤ 2 → (edgesOf p n).length ≤ 4 := fun n hn => by
      have h := flat_len (fun s => (stOf p s).map fun q => (s, q.2)) 2 (List.range n) fun s _ => by
        rw [List.length_map]
        exact (stOf_ok ok s).1
      rw [List.length_range] at h
      unfold edgesOf
      omega
    refine ⟨_, rfl, .lst la, tabs, rfl, .inl (.inl (s1 _ _ hla)), for_it (walk_en (K := K) (s1 := .lst la) (xs := tabs)) (fun i σ H' => Same H H' ∧ BackOk K H' t (edgesOf p i) ∧ ∃ x3 x4 x5 x6 x7 x8 x9, σ = [some (.ref la), some (.ref fa), some (.ref t), x3, x4, x5, x6, x7, x8, x9])
      ⟨s1, ⟨[], e1, Nat.le_refl _, fun x => .inl ⟨rfl, rfl⟩⟩, _, _, _, _, _, _, _, rfl⟩ (fun i σ H' _ h => .inl (.inl (h.1 _ _ hla))) (fun i x σ H2 H3 hi h y => ?_) fun σ H2 h => ?_⟩
    · obtain ⟨s2, bk, x3, x4, x5, x6, x7, x8, x9, rfl⟩ := h
      obtain ⟨Tq, x1, rfl, nT, s3, e3, g1⟩ := y
      obtain ⟨d, rfl, hd⟩ := ht i x1 g1
      have hd3 : H3 d = some (.dK (tabK (stOf p i))) := s3 _ _ (s2 _ _ hd)
      have et3 : H3 t = H2 t := by
        obtain ⟨kvs, h1, _⟩ := bk
        rw [h1]
        exact s3 _ _ h1
      have bk3 := bk.kt (kt_of s3) et3
      refine ⟨Tq, _, rfl, .inl (.inl e3), rfl, _, _, rfl, _, _, rfl, rfl, ?_⟩
      have ntd : t ≠ d := fun z => by rw [← z, nt] at hd; cases hd
      refine ⟨d, _, hd3, trivial, fun od => ?_⟩
      refine ⟨_, rfl, d, od, rfl, .inl ⟨_, upd_same, ?_⟩⟩
      refine for_it (walk_keys (d := d) (o := od) (kvs := tabK (stOf p i))) (fun j σ H' => Sb d H H' ∧ H' d = some (.frz od (.dK (tabK (stOf p i)))) ∧ BackOk K H' t (edgesOf p i ++ ((stOf p i).take j).map fun q => (i, q.2)) ∧ ∃ x5 x6 x7 x8 x9, σ = [some (.ref la), some (.ref fa), some (.ref t), some (.int (i : Nat)), some (.ref d), x5, x6, x7, x8, x9])
        ⟨fun b o n e => by rw [upd_ne n]; exact s3 _ _ (s2 _ _ e), upd_same, by simpa using bk3.kt (kt_lock hd3) (by rw [upd_ne ntd]), _, _, _, _, _, rfl⟩ (fun j σ H' _ h => h.2.1) (fun j x σ H4 H5 hj h y => ?_) fun σ H4 h => ?_
      · obtain ⟨s4, hd4, ⟨kvs, k1, k2, k3⟩, x5, x6, x7, x8, x9, rfl⟩ := h
        obtain ⟨rfl, kk, vv, gk, rfl⟩ := y
        obtain ⟨⟨c, n⟩, gq, ekv⟩ := map_at gk
        cases ekv
        have hmem := List.mem_of_getElem? gq
        have tv := tab_val ((ok.st _ (List.mem_of_getElem? (stOf_lt (by omega : i < p.states.length)))).2.1.imp fun h => Nat.ne_of_lt h) hmem
        have kl : kvs.length ≤ 10 := by
          have h1 := edge_len i (by omega)
          have h2 := (stOf_ok ok i).1
          simp only [List.length_append, List.length_map, List.length_take] at k2
          omega
        refine ⟨_, rfl, t, rfl, .inl ⟨kvs, .inl k1⟩, _, rfl, _, rfl, d, _, rfl, .inl ⟨_, .inr (one c), .inr ⟨od, hd4⟩, rfl, tv.symm⟩, by show 0 ≤ sizeLine; decide, fun u nu => ?_⟩
        have ntu : t ≠ u := fun z => by rw [← z, k1] at nu; cases nu
        have ndu : d ≠ u := fun z => by rw [← z, hd4] at nu; cases nu
        refine ⟨_, DGet.k (kvs := kvs) (k := .inl (n : Int)) (by rw [upd_ne ntu]; exact k1), _, rfl, by show 1 ≤ sizeLine; decide, fun u2 nu2 => ?_⟩
        have su : Same H5 (upd H5 u (.tup [])) := same_upd nu
        have su2 : Same H5 (upd (upd H5 u (.tup [])) u2 (.tup [.int (i : Nat)])) := su.upd nu2
        have ex : ∃ a : Addr, (valV kvs (.inl (n : Int))).getD (.ref u) = .ref a ∧ SqT K (upd (upd H5 u (.tup [])) u2 (.tup [.int (i : Nat)])) a (natsV (preds (edgesOf p i ++ ((stOf p i).take j).map fun q => (i, q.2)) n)) := by
          rcases k3 n with ⟨h1, h2⟩ | ⟨a, h1, h2⟩
          · rw [h1, h2]
            exact ⟨u, rfl, .inl (.inl (same_upd nu2 _ _ upd_same))⟩
          · rw [h1]
            exact ⟨a, rfl, su2.tup h2⟩
        obtain ⟨a, ea, ha⟩ := ex
        have pls := preds_len (edgesOf p i ++ ((stOf p i).take j).map fun q => (i, q.2)) n
        have zs : (natsV (preds (edgesOf p i ++ ((stOf p i).take j).map fun q => (i, q.2)) n)).length + [V.int (i : Nat)].length ≤ sizeLine := by
          have h1 := edge_len i (by omega)
          have h2 := (stOf_ok ok i).1
          have : (100 : Nat) ≤ sizeLine := by decide
          simp only [natsV, List.length_map, List.length_append, List.length_take, List.length_cons, List.length_nil] at *
          omega
        refine ⟨a, u2, _, _, ea, rfl, ha, .inl (.inl upd_same), zs, fun pz H6 s6 h6 => ?_⟩
        have s56 : Same H5 H6 := su2.trans s6
        have k1' : H6 t = some (.dK kvs) := s56 _ _ k1
        have hd6 : H6 d = some (.frz od (.dK (tabK (stOf p i)))) := s56 _ _ hd4
        refine ⟨_, rfl, _, rfl, _, rfl, d, _, rfl, .inl ⟨_, .inr (one c), .inr ⟨od, hd6⟩, rfl, tv.symm⟩, t, _, rfl, DPut.k (kvs := kvs) (k := .inl (n : Int)) k1' (sz2l (by omega)), ?_⟩
        refine ⟨fun b o nb e => ?_, by rw [upd_ne ntd.symm]; exact hd6, ?_, _, _, _, _, _, rfl⟩
        · rw [upd_ne (fun z => by rw [z, nt] at e; cases e)]
          exact s56 _ _ (s4 _ _ nb e)
        · rw [take_snoc gq, List.map_append, ← List.append_assoc]
          refine BackOk.put k1' k2 (fun x => ?_) ?_
          · rcases k3 x with h | ⟨a, h4, h5⟩
            · exact .inl h
            · exact .inr ⟨a, h4, s56.tup h5⟩
          · rw [natsV_snoc]
            exact h6
      · obtain ⟨s4, hd4, bk4, x5, x6, x7, x8, x9, rfl⟩ := h
        refine ⟨hd4, fun b o e => ?_, ?_, _, _, _, _, _, _, _, rfl⟩
        · by_cases z : b = d
          · subst z
            rw [hd] at e
            cases e
            exact upd_same
          · rw [upd_ne z]
            exact s4 _ _ z e
        · have ly : (tabK (stOf p i)).length = (stOf p i).length := by simp [tabK]
          rw [ly, List.take_length] at bk4
          have ee : edgesOf p (i + 1) = edgesOf p i ++ (stOf p i).map fun q => (i, q.2) := by
            unfold edgesOf
            rw [List.range_succ, List.flatMap_append]
            simp
          rw [ee]
          exact bk4.kt (kt_unlock hd4) (by rw [upd_ne ntd])
    · obtain ⟨s2, bk, x3, x4, x5, x6, x7, x8, x9, rfl⟩ := h
      refine ⟨_, rfl, fa, rfl, ⟨_, .inl (.inl (s2 _ _ hfa))⟩, fun D hD => lc_map (walk_list (xs := fl.map V.bl)) hD (by rw [List.length_map]; omega) (fun H' s' => .inl (.inl (s' _ _ (s2 _ _ hfa)))) (fun i acc _ => acc = (fl.take i).map V.bl) (fun _ _ _ _ _ h => h) rfl (fun i y H3 H4 acc k ks hi1 s3 a1 l1 y hk _ => ?_) fun H3 acc s3 eD lD aD => ?_⟩
      · obtain ⟨rfl, g⟩ := y
        obtain ⟨b, gb, rfl⟩ := map_at g
        refine ⟨rfl, yes_if ⟨_, rfl, .inr ⟨b, rfl, hk _ _ (Same.refl _) ?_⟩⟩⟩
        rw [a1, take_snoc gb, List.map_append]
        rfl
      · rw [List.length_map, List.take_length] at aD
        subst aD
        have s23 := s2.trans s3
        have nD0 : H D = none := s2.back hD
        obtain ⟨kvs0, kb1, kb2, kb3⟩ := bk
        have hla3 := s23 _ _ hla
        refine ⟨_, rfl, la, _, rfl, .inl (.inl (.inl hla3)), (tabs.length : Nat), rfl, by omega, by omega, fun D2 hD2 => lc_map (walk_rn (n := tabs.length)) hD2 (by omega) (fun H' s' => trivial) (fun i acc _ => acc = natsV ((List.range i).filter fun j => fl[j]? == some true)) (fun _ _ _ _ _ h => h) rfl (fun i y H5 H6 acc k ks hi1 s5 a1 l1 y hk hk2 => ?_) fun H5 acc s5 eD2 lD2 aD2 => ?_⟩
        · obtain ⟨rfl, rfl⟩ := y
          have hf' := hf i (by omega)
          refine ⟨rfl, ?_⟩
          refine ⟨_, rfl, _, rfl, D, _, (i : Nat), _, rfl, rfl, .inl (.inl (s5 _ _ eD)), atI_nat (bl_at hf'), ?_⟩
          refine ⟨_, rfl, ?_⟩
          by_cases he : i ∈ p.ends
          · refine iteS he ⟨_, rfl, hk _ _ (Same.refl _) ?_⟩
            rw [a1, List.range_succ, List.filter_append]
            have : (fl[i]? == some true) = true := by rw [hf']; simp [he]
            simp [this, natsV]
          · refine iteN he (hk2 _ (Same.refl _) ?_)
            rw [a1, List.range_succ, List.filter_append]
            have : (fl[i]? == some true) = false := by rw [hf']; simp [he]
            simp [this]
        · subst aD2
          have nD2 : H D2 = none := s23.back hD2
          have nDD : D ≠ D2 := fun z => by rw [← z, eD] at hD2; cases hD2
          have s25 := s23.trans s5
          have bk5 : BackOk K H5 t (edgesOf p tabs.length) := ⟨kvs0, (s3.trans s5) _ _ kb1, kb2, fun x => (kb3 x).imp id fun ⟨a, h1, h2⟩ => ⟨a, h1, (s3.trans s5).tup h2⟩⟩
          have fil : ∀ x, x ∈ (List.range tabs.length).filter (fun j => fl[j]? == some true) ↔ x < tabs.length ∧ fl[x]? = some true := fun x => by simp
          refine ⟨fun m σ H' => ∃ (lb : List Bool) (wl : List Nat) (x3 x4 x5 x8 x9 : Option V), σ = [some (.ref la), some (.ref fa), some (.ref t), x3, x4, x5, some (.ref D), some (.ref D2), x8, x9] ∧ m = wl.length + 2 * falses lb ∧ Same H H' ∧ H' D = some (.lst (lb.map V.bl)) ∧ H' D2 = some (.lst (natsV wl)) ∧ BackOk K H' t (edgesOf p tabs.length) ∧ LSt p tabs.length lb wl none [] ∧ wl.length + 2 * falses lb ≤ 100,
            ⟨_, fl, (List.range tabs.length).filter (fun j => fl[j]? == some true), _, _, _, _, _, rfl, rfl, s25, s5 _ _ eD, eD2, bk5, ⟨by omega, fun x hx => ((fil x).mp hx).2, fun x hx he => by rw [hf x (by omega)]; simp [he], fun x hx hnw _ => ?_, (fun _ h => nomatch h), fun _ h => nomatch h⟩, ?_⟩, fun m σ H' h => ?_⟩
          · refine absurd ((fil x).mpr ⟨?_, hx⟩) hnw
            have := (List.getElem?_eq_some_iff.mp hx).1
            omega
          · have := List.length_filter_le (fun j => fl[j]? == some true) (List.range tabs.length)
            rw [List.length_range] at this
            have h2 : falses fl ≤ fl.length := List.length_filter_le _ _
            omega
          · obtain ⟨lb, wl, x3, x4, x5, x8, x9, rfl, rfl, s6, h6D, h6W, bk6, L, wl100⟩ := h
            refine ⟨_, rfl, _, .inl ⟨natsV wl, .inl (.inl h6W), rfl⟩, ?_⟩
            rcases (show wl = [] ∨ ∃ wl' x, wl = wl' ++ [x] from (List.eq_nil_or_concat wl).imp id fun ⟨a, b, h⟩ => ⟨a, b, by rw [h, List.concat_eq_append]⟩) with rfl | ⟨wl', x, rfl⟩
            · refine iteF ⟨_, rfl, q H' D s6 ?_⟩
              have al := L.all (fun s q hq => by
                have h1 := ((stOf_ok ok s).2 q hq).2
                refine ⟨by omega, ?_⟩
                by_cases hs : s < p.states.length
                · omega
                · rw [stOf, List.getElem?_eq_none (by omega)] at hq
                  cases hq)
              have e := list_true (lb := lb) fun s hs => al s (live s (by have := L.len; omega)) (by have := L.len; omega)
              rw [h6D, e, L.len, lt]
              simp
            · have hx := L.w x (by simp)
              have hxn := (List.getElem?_eq_some_iff.mp hx).1
              have ne : (natsV (wl' ++ [x])).isEmpty = false := by simp [natsV]
              rw [ne]
              refine iteT ⟨fun σ' H' => ∃ (lb2 : List Bool) (wl2 : List Nat) (x3 x4 x5 x8 x9 : Option V), σ' = [some (.ref la), some (.ref fa), some (.ref t), x3, x4, x5, some (.ref D), some (.ref D2), x8, x9] ∧ wl2.length + 2 * falses lb2 < (wl' ++ [x]).length + 2 * falses lb ∧ Same H H' ∧ H' D = some (.lst (lb2.map V.bl)) ∧ H' D2 = some (.lst (natsV wl2)) ∧ BackOk K H' t (edgesOf p tabs.length) ∧ LSt p tabs.length lb2 wl2 none [], fun σ' H' h => ?_, ?_⟩
              · obtain ⟨lb2, wl2, y3, y4, y5, y8, y9, h1, h2, h3, h4, h5, h6, h7⟩ := h
                exact ⟨_, h2, lb2, wl2, y3, y4, y5, y8, y9, h1, rfl, h3, h4, h5, h6, h7, by omega⟩
              · refine ⟨_, rfl, .inl ⟨rfl, _, .inl (.inl h6W)⟩, D2, _, .int (x : Nat), rfl, rfl, h6W, by simp [natsV], ?_⟩
                have dl : (natsV (wl' ++ [x])).dropLast = natsV wl' := by simp [natsV]
                rw [dl]
                have nDD2 : D ≠ D2 := nDD
                have s7 : Same H (upd H' D2 (.lst (natsV wl'))) := s6.sb nD2 sb_upd
                have h7D : (upd H' D2 (.lst (natsV wl'))) D = some (.lst (lb.map V.bl)) := by rw [upd_ne nDD]; exact h6D
                have h7W : (upd H' D2 (.lst (natsV wl'))) D2 = some (.lst (natsV wl')) := upd_same
                have ntW : t ≠ D2 := fun z => by rw [← z, s3 _ _ kb1] at hD2; cases hD2
                have ntD : t ≠ D := fun z => by rw [← z, kb1] at hD; cases hD
                have bk7 : BackOk K (upd H' D2 (.lst (natsV wl'))) t (edgesOf p tabs.length) := bk6.kt (fun a xs h => (sb_upd.kp h6W).tup h) (by rw [upd_ne ntW])
                generalize upd H' D2 (.lst (natsV wl')) = H7 at s7 h7D h7W bk7 ⊢
                obtain ⟨kvs, k1, k2, k3⟩ := bk7
                refine ⟨_, rfl, t, rfl, .inl ⟨kvs, .inl k1⟩, _, rfl, by show 0 ≤ sizeLine; decide, fun u nu => ⟨_, DGet.k (kvs := kvs) (k := .inl (x : Int)) (by rw [upd_ne (fun z => by rw [z, nu] at k1; cases k1)]; exact k1), ?_⟩⟩
                have su : Same H7 (upd H7 u (.tup [])) := same_upd nu
                have ex : ∃ a : Addr, (valV kvs (.inl (x : Int))).getD (.ref u) = .ref a ∧ SqT K (upd H7 u (.tup [])) a (natsV (preds (edgesOf p tabs.length) x)) := by
                  rcases k3 x with ⟨h1, h2⟩ | ⟨a, h1, h2⟩
                  · rw [h1, h2]
                    exact ⟨u, rfl, .inl (.inl upd_same)⟩
                  · rw [h1]
                    exact ⟨a, rfl, su.tup h2⟩
                obtain ⟨a, ea, ha⟩ := ex
                refine ⟨a, ea, ⟨_, ha⟩, for_it (walk_tup (xs := natsV (preds (edgesOf p tabs.length) x))) (fun j σ' H' => ∃ (lb2 : List Bool) (wl2 : List Nat) (x8 : Option V), σ' = [some (.ref la), some (.ref fa), some (.ref t), some (.int (x : Nat)), x4, x5, some (.ref D), some (.ref D2), x8, x9] ∧ wl2.length + 2 * falses lb2 < (wl' ++ [x]).length + 2 * falses lb ∧ Kp (upd H7 u (.tup [])) H' ∧ Same H H' ∧ H' D = some (.lst (lb2.map V.bl)) ∧ H' D2 = some (.lst (natsV wl2)) ∧ LSt p tabs.length lb2 wl2 (some x) ((preds (edgesOf p tabs.length) x).take j))
                  ⟨lb, wl', _, rfl, by simp, Kp.refl _, s7.trans su, su _ _ h7D, su _ _ h7W, ⟨L.len, fun z hz => L.w z (List.mem_append_left _ hz), L.e, fun z hz hn ho => L.cl z hz (fun hm => by
                    rcases List.mem_append.mp hm with hm | hm
                    · exact hn hm
                    · exact ho (by rw [List.mem_singleton.mp hm])) (by simp), (fun b hb => by simp at hb), fun z hz => by cases hz; exact hx⟩⟩ (fun j σ' H' _ h => ?_) (fun j y σ' H8 H9 hj h yy => ?_) fun σ' H' h => ?_⟩
                · obtain ⟨_, _, _, _, _, kp, _⟩ := h
                  exact kp.tup ha
                · obtain ⟨lb2, wl2, x8, rfl, hm, kp8, s8, h8D, h8W, L8⟩ := h
                  obtain ⟨rfl, g⟩ := yy
                  obtain ⟨b, gb, rfl⟩ := nats_at g
                  have hb : b < tabs.length := by
                    have := mem_preds.mp (List.mem_of_getElem? gb)
                    unfold edgesOf at this
                    obtain ⟨s, hs, h2⟩ := List.mem_flatMap.mp this
                    obtain ⟨_, _, h3⟩ := List.mem_map.mp h2
                    have : s = b := (Prod.mk.inj h3).1
                    rw [← this]
                    exact List.mem_range.mp hs
                  obtain ⟨bv, hbv⟩ : ∃ bv, lb2[b]? = some bv := ⟨lb2[b]'(by rw [L8.len]; exact hb), List.getElem?_eq_getElem _⟩
                  refine ⟨_, rfl, _, rfl, D, _, (b : Nat), _, rfl, rfl, .inl (.inl h8D), atI_nat (bl_at hbv), bv, rfl, ?_⟩
                  cases bv with
                  | true =>
                    refine iteF ⟨lb2, wl2, _, rfl, hm, kp8, s8, h8D, h8W, ⟨L8.len, L8.w, L8.e, L8.cl, fun z hz => ?_, L8.o⟩⟩
                    rw [take_snoc gb] at hz
                    rcases List.mem_append.mp hz with hz | hz
                    · exact L8.dn z hz
                    · rw [List.mem_singleton.mp hz]
                      exact hbv
                  | false =>
                    refine iteT ⟨_, rfl, _, rfl, D, _, (b : Nat), b, rfl, rfl, h8D, ?_, ?_⟩
                    · rw [List.length_map, L8.len]
                      exact ixN_n hb
                    have es : (lb2.map V.bl).set b (.bl true) = (lb2.set b true).map V.bl := by rw [List.map_set]
                    rw [es]
                    have nWD : D2 ≠ D := nDD.symm
                    have h9W : (upd H9 D (.lst ((lb2.set b true).map V.bl))) D2 = some (.lst (natsV wl2)) := by rw [upd_ne nWD]; exact h8W
                    refine ⟨_, rfl, .inl ⟨rfl, _, .inl (.inl h9W)⟩, _, rfl, D2, natsV wl2, _, rfl, rfl, h9W, by simp only [natsV, List.length_map]; omega, fun H10 b10 e10 => ?_⟩
                    have hz := falses_set hbv
                    have kp9 : Kp H9 (upd H9 D (.lst ((lb2.set b true).map V.bl))) := sb_upd.kp h8D
                    have kp10 : Kp (upd H9 D (.lst ((lb2.set b true).map V.bl))) H10 := b10.kp h9W
                    have keep : ∀ z : Nat, lb2[z]? = some true → (lb2.set b true)[z]? = some true := fun z hz => by
                      by_cases e : b = z
                      · subst e
                        rw [List.getElem?_set_self (by rw [L8.len]; exact hb)]
                      · rw [List.getElem?_set_ne e]
                        exact hz
                    have bset : (lb2.set b true)[b]? = some true := List.getElem?_set_self (by rw [L8.len]; exact hb)
                    refine ⟨lb2.set b true, wl2 ++ [b], _, rfl, ?_, kp8.trans (kp9.trans kp10), (s8.sb nD0 sb_upd).sb nD2 b10, b10 _ _ nDD upd_same, by rw [natsV_snoc]; exact e10, ⟨by rw [List.length_set]; exact L8.len, fun z hz => ?_, fun z h1 h2 => keep z (L8.e z h1 h2), fun z hz hn ho c hc => ?_, fun z hz => ?_, fun z hz => keep z (L8.o z hz)⟩⟩
                    · simp only [List.length_append, List.length_cons, List.length_nil] at *
                      omega
                    · rcases List.mem_append.mp hz with hz | hz
                      · exact keep z (L8.w z hz)
                      · rw [List.mem_singleton.mp hz]
                        exact bset
                    · have nzb : b ≠ z := fun e => hn (by rw [e]; simp)
                      rw [List.getElem?_set_ne nzb] at hz
                      exact keep c (L8.cl z hz (fun h => hn (List.mem_append_left _ h)) ho c hc)
                    · rw [take_snoc gb] at hz
                      rcases List.mem_append.mp hz with hz | hz
                      · exact keep z (L8.dn z hz)
                      · rw [List.mem_singleton.mp hz]
                        exact bset
                · obtain ⟨lb2, wl2, x8, rfl, hm, kp8, s8, h8D, h8W, L8⟩ := h
                  have ly : (natsV (preds (edgesOf p tabs.length) x)).length = (preds (edgesOf p tabs.length) x).length := by simp [natsV]
                  rw [ly, List.take_length] at L8
                  refine ⟨lb2, wl2, _, _, _, _, _, rfl, hm, s8, h8D, h8W, ⟨kvs, kp8 _ _ (fun _ z => nomatch z) (su _ _ k1), k2, fun z => (k3 z).imp id fun ⟨a, h1, h2⟩ => ⟨a, h1, kp8.tup (su.tup h2)⟩⟩, ⟨L8.len, L8.w, L8.e, fun z hz hn _ => ?_, (fun _ h => nomatch h), fun _ h => nomatch h⟩⟩
                  by_cases ez : z = x
                  · subst ez
                    exact L8.dn
                  · exact L8.cl z hz hn fun h => ez (Option.some.inj h)

end
end TH
end
section
set_option Elab.async false
set_option linter.all false
set_option maxRecDepth 100000
set_option maxHeartbeats 4000000
namespace TH
open PySem PySem.Spec PyProof.Rows L2
section
variable {P : Program} {w : World} {K : PySem.W.Frag} {mg : Str → Option Value} {base : Heap}
/-! step_rows_of -/
def TN (ks : List NK) : Prop := ∀ k ∈ ks, ∃ a b, k = .tup [.text a, .num b]
theorem TN.snoc {ks : List NK} (h : TN ks) (a : Str) (b : Int) : TN (ks ++ [.tup [.text a, .num b]]) := fun k hk => by
  rcases List.mem_append.mp hk with hk | hk
  · exact h k hk
  · exact ⟨a, b, List.mem_singleton.mp hk⟩
theorem TN.perm {ks ls : List NK} (h : TN ks) (p : ls.Perm ks) : TN ls := fun k hk => h k (p.mem_iff.mp hk)
theorem TN.st (st : PState) : TN (st.map fun p => .tup [kC p.1, kN p.2]) := fun k hk => by
  obtain ⟨q, _, rfl⟩ := List.mem_map.mp hk
  exact ⟨_, _, rfl⟩
theorem two_tp {H : Hp} {u : Addr} {a : Str} {b : Int} (h : H u = some (.tup [.str a, .int b])) : Tp K H (.ref u) (.tup [.text a, .num b]) := .tup (.inl (.inl h)) (by simp) (.cons (.str a) (.cons (.int b) .nil))
/-- what the dict of steps says so far -/
def Fnd (K : PySem.W.Frag) (H : Hp) (t : Addr) (i : Nat) : Prop := ∃ kvs : List (Key × V), H t = some (.dK kvs) ∧ kvs.length ≤ i ∧ ∀ x : Nat, x < i → ∃ a ys ls, valV kvs (.inl (x : Int)) = some (.ref a) ∧ SqT K H a ys ∧ TpAll K H ys ls ∧ TN ls ∧ ys.length ≤ 10
theorem p_step_rows_of (T : Tx K mg) : Pr P w K mg base CX0 1 ["rows", "flags"] [] (He.ga K "step_rows_of")
    (fun vs H Q _ => ∃ (rv : V) (fa : Addr) (p : Pl) (names : List Nat) (fl : List Bool), vs = [rv, .ref fa] ∧ Tp K H rv (encStates p.states) ∧ H fa = some (.lst (fl.map V.bl)) ∧ fl.length = p.states.length ∧ PlOk names p ∧ ∀ H' u, Same H H' → Q u H') := by
  refine T.d_step_rows_of.pr scs_step_rows_of (fun vs H Q E h => ?_) (fun cdv A outer s H vs Q E hr h => ?_)
  · obtain ⟨rv, fa, p, names, fl, rfl, _⟩ := h
    rfl
  · obtain ⟨rv, fa, p, names, fl, rfl, hr', hfa, lf, ok, q⟩ := h
    have hu := hu_of hr
    have hu65 := room65 hr
    have pl := ok.len
    obtain ⟨ra, xs, rfl, hra, _, hx⟩ := hr'.tup_inv
    have lx : xs.length = p.states.length := by simpa using hx.length
    refine ⟨_, (pss_cons (ps_set (i := 2) scs_step_rows_of.nd rfl (.inl rfl) pe_dnewK)
    (pss_cons (ps_for PassesOwn.never rfl (pi_en (by rfl) T.z_enumerate (pa_cons (pv 0) pa_nil)) (pg_tup rfl (pgs_cons (pg_name (i := 3) scs_step_rows_of.nd rfl (.inl rfl) (.inl rfl)) (pgs_cons (pg_name (i := 4) scs_step_rows_of.nd rfl (.inl rfl) (.inl rfl)) pgs_nil)))
      (pss_cons (ps_set (i := 5) scs_step_rows_of.nd rfl (.inl rfl) (pe_callTy call_lstU (by rfl) T.z_list (by decide +kernel) (pa_cons (pv 4) pa_nil)))
      (pss_cons (ps_if (pt_val (pe_ix ix_list (pv 1) (pv 3) (fun _ _ => rfl)))
        (pss_one (ps_expr (pe_bm PySem.F.plainAttrs_list PySem.F.slot_list_append PySem.F.type_list_append mt_appU (pv 5) (pa_cons (pe_tup (pa_cons pe_str (pa_cons (pe_un un_neg pe_int) pa_nil))) pa_nil))))
        pss_nil)
      (pss_one (ps_dput hu (pv 2) (pv 3) (pe_callTy call_tupU (by rfl) T.z_tuple (by decide +kernel) (pa_cons (pe_callB (cr_sortedTS hu65) (by rfl) T.z_sorted (by decide +kernel) (pa_cons (pv 5) pa_nil)) pa_nil)) rfl)))))
    (pss_cons (ps_dput hu (pv 2) (pe_un un_neg pe_int) (pe_tup (pa_cons (pe_tup (pa_cons pe_str (pa_cons (pe_un un_neg pe_int) pa_nil))) pa_nil)) rfl)
    (pss_cons (ps_dput hu (pv 2) (pe_un un_neg pe_int) (pe_callTy call_tupU (by rfl) T.z_tuple (by decide +kernel) (pa_cons (pe_callB (cr_sortedTS hu65) (by rfl) T.z_sorted (by decide +kernel) (pa_cons (pe_op op_cat (pe_callTy call_lstU (by rfl) T.z_list (by decide +kernel) (pa_cons (pe_dget hu (pv 2) pe_int (fun _ _ => rfl)) pa_nil)) (pe_lst (pa_cons (pe_tup (pa_cons pe_str (pa_cons (pe_un un_neg pe_int) pa_nil))) pa_nil))) pa_nil)) pa_nil)) rfl)
    (pss_one (ps_ret (pv 2))))))), ?_⟩
    intro t nt
    have s1 := same_upd (o := .dK []) nt
    have e1 : (upd H t (.dK [])) t = some (.dK []) := upd_same
    generalize upd H t (.dK []) = H1 at s1 e1 ⊢
    refine ⟨_, rfl, .tup ra, xs, rfl, s1.tup hra, for_it (walk_en (K := K) (s1 := .tup ra) (xs := xs)) (fun i σ H' => Same H H' ∧ Fnd K H' t i ∧ ∃ x3 x4 x5, σ = [some (.ref ra), some (.ref fa), some (.ref t), x3, x4, x5])
      ⟨s1, ⟨[], e1, Nat.le_refl _, fun x hx => by omega⟩, _, _, _, rfl⟩ (fun i σ H' _ h => h.1.tup hra) (fun i x σ H2 H3 hi h y => ?_) fun σ H2 h => ?_⟩
    · obtain ⟨s2, fd, x3, x4, x5, rfl⟩ := h
      obtain ⟨Tq, x1, rfl, nT, s3, e3, g1⟩ := y
      obtain ⟨k, gk, tk⟩ := hx.at g1
      obtain ⟨st, gst, rfl⟩ := map_at gk
      have lst := (ok.st _ (List.mem_of_getElem? gst)).1
      have s23 := s2.trans s3
      obtain ⟨ta, ys, rfl, hs2, _, hy⟩ := state_inv (tk.same s23)
      have ly : ys.length ≤ 2 := by
        have := hy.length
        simp only [List.length_map] at this
        omega
      obtain ⟨kvs, k1, k2, k3⟩ := fd
      have fb : ∃ b, fl[i]? = some b := ⟨fl[i]'(by omega), List.getElem?_eq_getElem _⟩
      obtain ⟨b, hb⟩ := fb
      refine ⟨Tq, _, rfl, .inl (.inl e3), rfl, _, _, rfl, _, _, rfl, rfl, ?_⟩
      refine ⟨_, rfl, ta, ys, rfl, .inr hs2, fun l H4 nl s4 e4 => ?_⟩
      refine ⟨_, rfl, _, rfl, fa, _, (i : Nat), _, rfl, rfl, .inl (.inl (s4 _ _ (s23 _ _ hfa))), atI_nat (bl_at hb), b, rfl, ?_⟩
      have nlH : H l = none := s23.back nl
      have t4 : TpAll K H4 ys (st.map fun p => .tup [kC p.1, kN p.2]) := hy.same s4
      obtain ⟨zs, hzs⟩ : ∃ zs, zs = ys := ⟨_, rfl⟩
      obtain ⟨ks, hks⟩ : ∃ ks, ks = st.map fun p => NestedKey.tup [kC p.1, kN p.2] := ⟨_, rfl⟩
      rw [← hzs] at e4
      rw [← hzs, ← hks] at t4
      have n4 : TN ks := by rw [hks]; exact TN.st st
      have l4 : zs.length ≤ 3 := by rw [hzs]; omega
      obtain ⟨H5, hH5⟩ : ∃ H5, H5 = H4 := ⟨_, rfl⟩
      cases b with
      | false =>
        refine iteF ?_
        have s5 : Same H3 H5 := by rw [hH5]; exact s4
        have e5 : H5 l = some (.lst zs) := by rw [hH5]; exact e4
        have t5 : TpAll K H5 zs ks := by rw [hH5]; exact t4
        rw [← hH5]
        refine ⟨_, rfl, l, _, _, rfl, .inl (.inl e5), t5, .inr n4, fun ys' ls' p10 np10 pm ll tt => ?_⟩
        have s10 := same_upd (o := .lst ys') np10
        refine ⟨p10, ys', rfl, .inl (.inl (.inl upd_same)), fun z H11 s11 h11 => ?_⟩
        have s3b := (s5.trans s10).trans s11
        have lm : ys'.length ≤ 3 := by
          have h1 := pm.length_eq
          have h2 := t5.length
          omega
        refine ⟨_, rfl, _, rfl, t, _, rfl, DPut.k (kvs := kvs) (k := .inl (i : Int)) (s3b _ _ (s3 _ _ k1)) (sz2l (by omega)), ?_⟩
        refine ⟨(s23.trans s3b).sb nt sb_upd, ⟨_, upd_same, Nat.le_trans (putK_le _ _ _) (by omega), fun x hx' => ?_⟩, _, _, _, rfl⟩
        have ktf : Kt K H11 (upd H11 t (.dK (putK kvs (.inl (i : Int)) (.ref z)))) := kt_dK (s3b _ _ (s3 _ _ k1))
        rw [valV_put]
        by_cases ex : x = i
        · subst ex
          rw [if_pos rfl]
          exact ⟨z, ys', ls', rfl, ktf _ _ h11, ((tt.same s10).same s11).kt ktf, n4.perm pm, by omega⟩
        · have e' : ¬ (Sum.inl (x : Int) : Key) = Sum.inl (i : Int) := fun z => ex (by
            have := Sum.inl.inj z
            omega)
          rw [if_neg e']
          obtain ⟨a, ys, ls, h1, h2, h3, h4, h5⟩ := k3 x (by omega)
          exact ⟨a, ys, ls, h1, ktf _ _ ((s3.trans s3b).tup h2), ((h3.same (s3.trans s3b))).kt ktf, h4, h5⟩
      | true =>
        refine iteT ⟨_, rfl, .inl ⟨rfl, _, .inl (.inl e4)⟩, 1, rfl, by show 2 ≤ sizeLine; decide, fun u nu => ?_⟩
        have su := same_upd (o := .tup [.str ".", .int (-1)]) nu
        refine ⟨l, zs, .ref u, rfl, rfl, su _ _ e4, by omega, fun H6 b6 e6 => ?_⟩
        have kp6 : Kp (upd H4 u (.tup [.str ".", .int (-1)])) H6 := b6.kp (su _ _ e4)
        have s5 : Same H3 H6 := (s4.trans su).sb nl b6
        have t5 : TpAll K H6 (zs ++ [.ref u]) (ks ++ [.tup [.text ".", .num (-1)]]) := ((t4.same su).kp kp6).snoc ((two_tp upd_same).kp kp6)
        replace n4 := n4.snoc "." (-1)
        have l4 : (zs ++ [V.ref u]).length ≤ 3 := by rw [hzs]; simp; omega
        have e5 := e6
        refine ⟨_, rfl, l, _, _, rfl, .inl (.inl e5), t5, .inr n4, fun ys' ls' p10 np10 pm ll tt => ?_⟩
        have s10 := same_upd (o := .lst ys') np10
        refine ⟨p10, ys', rfl, .inl (.inl (.inl upd_same)), fun z H11 s11 h11 => ?_⟩
        have s3b := (s5.trans s10).trans s11
        have lm : ys'.length ≤ 3 := by
          have h1 := pm.length_eq
          have h2 := t5.length
          omega
        refine ⟨_, rfl, _, rfl, t, _, rfl, DPut.k (kvs := kvs) (k := .inl (i : Int)) (s3b _ _ (s3 _ _ k1)) (sz2l (by omega)), ?_⟩
        refine ⟨(s23.trans s3b).sb nt sb_upd, ⟨_, upd_same, Nat.le_trans (putK_le _ _ _) (by omega), fun x hx' => ?_⟩, _, _, _, rfl⟩
        have ktf : Kt K H11 (upd H11 t (.dK (putK kvs (.inl (i : Int)) (.ref z)))) := kt_dK (s3b _ _ (s3 _ _ k1))
        rw [valV_put]
        by_cases ex : x = i
        · subst ex
          rw [if_pos rfl]
          exact ⟨z, ys', ls', rfl, ktf _ _ h11, ((tt.same s10).same s11).kt ktf, n4.perm pm, by omega⟩
        · have e' : ¬ (Sum.inl (x : Int) : Key) = Sum.inl (i : Int) := fun z => ex (by
            have := Sum.inl.inj z
            omega)
          rw [if_neg e']
          obtain ⟨a, ys, ls, h1, h2, h3, h4, h5⟩ := k3 x (by omega)
          exact ⟨a, ys, ls, h1, ktf _ _ ((s3.trans s3b).tup h2), ((h3.same (s3.trans s3b))).kt ktf, h4, h5⟩
    · obtain ⟨s2, ⟨kvs, k1, k2, k3⟩, x3, x4, x5, rfl⟩ := h
      refine ⟨1, rfl, by show 2 ≤ sizeLine; decide, fun u nu => ?_⟩
      have s3 := same_upd (o := .tup [.str ".", .int (-1)]) nu
      refine ⟨by show 1 ≤ sizeLine; decide, fun u2 nu2 => ?_⟩
      have s4 : Same H2 (upd (upd H2 u (.tup [.str ".", .int (-1)])) u2 (.tup [.ref u])) := s3.upd nu2
      generalize upd (upd H2 u (.tup [.str ".", .int (-1)])) u2 (.tup [.ref u]) = H4 at s4 ⊢
      refine ⟨_, rfl, 1, rfl, t, _, rfl, DPut.k (kvs := kvs) (k := .inl (-1)) (s4 _ _ k1) (sz2l (by omega)), ?_⟩
      have s5 : Same H (upd H4 t (.dK (putK kvs (.inl (-1)) (.ref u2)))) := (s2.trans s4).sb nt sb_upd
      obtain ⟨a, ys, ls, h1, h2, h3, h4, h5⟩ := k3 0 (by omega)
      have kt := (kt_of (K := K) s4)
      have kt5 : Kt K H4 (upd H4 t (.dK (putK kvs (.inl (-1)) (.ref u2)))) := kt_dK (s4 _ _ k1)
      have h2' := kt5 _ _ (kt _ _ h2)
      have h3' := (h3.kt kt).kt kt5
      have k1' : (upd H4 t (.dK (putK kvs (.inl (-1)) (.ref u2)))) t = some (.dK (putK kvs (.inl (-1)) (.ref u2))) := upd_same
      generalize upd H4 t (.dK (putK kvs (.inl (-1)) (.ref u2))) = H5 at s5 h2' h3' k1' ⊢
      have hv : some (V.ref a) = valV (putK kvs (.inl (-1)) (.ref u2)) (.inl 0) := by
        rw [valV_put, if_neg (by decide), ← h1]
        rfl
      refine ⟨_, rfl, t, .ref a, rfl, .inl ⟨_, .inl 0, .inl k1', rfl, hv⟩, a, ys, rfl, .inr h2', fun l H6 nl s6 e6 => ?_⟩
      refine ⟨2, rfl, by show 2 ≤ sizeLine; decide, fun u3 nu3 => ?_⟩
      have s7 := same_upd (o := .tup [.str ".", .int (-2)]) nu3
      have e7 : (upd H6 u3 (.tup [.str ".", .int (-2)])) u3 = some (.tup [.str ".", .int (-2)]) := upd_same
      generalize upd H6 u3 (.tup [.str ".", .int (-2)]) = H7 at s7 e7 ⊢
      refine ⟨by show 1 ≤ sizeLine; decide, fun u4 nu4 => ?_⟩
      have s8 := same_upd (o := .lst [.ref u3]) nu4
      have e8 : (upd H7 u4 (.lst [.ref u3])) u4 = some (.lst [.ref u3]) := upd_same
      generalize upd H7 u4 (.lst [.ref u3]) = H8 at s8 e8 ⊢
      refine ⟨l, u4, ys, [.ref u3], rfl, rfl, s8 _ _ (s7 _ _ e6), e8, by have : (100 : Nat) ≤ sizeLine := by decide
                                                                         simp; omega, fun p9 np9 => ?_⟩
      have s9 := same_upd (o := .lst (ys ++ [.ref u3])) np9
      have e9 : (upd H8 p9 (.lst (ys ++ [.ref u3]))) p9 = some (.lst (ys ++ [.ref u3])) := upd_same
      generalize upd H8 p9 (.lst (ys ++ [.ref u3])) = H9 at s9 e9 ⊢
      have s59 := ((s6.trans s7).trans s8).trans s9
      have t9 : TpAll K H9 (ys ++ [.ref u3]) (ls ++ [.tup [.text ".", .num (-2)]]) := (h3'.same s59).snoc ((two_tp e7).same (s8.trans s9))
      refine ⟨p9, _, _, rfl, .inl (.inl e9), t9, .inr (h4.snoc _ _), fun ys' ls' p10 np10 pm ll tt => ?_⟩
      have s10 := same_upd (o := .lst ys') np10
      have e10 : (upd H9 p10 (.lst ys')) p10 = some (.lst ys') := upd_same
      generalize upd H9 p10 (.lst ys') = H10 at s10 e10 ⊢
      refine ⟨p10, ys', rfl, .inl (.inl (.inl e10)), fun z H11 s11 h11 => ?_⟩
      refine ⟨_, rfl, 2, rfl, t, _, rfl, DPut.k (kvs := putK kvs (.inl (-1)) (.ref u2)) (k := .inl (-2)) (s11 _ _ (s10 _ _ (s59 _ _ k1'))) (Nat.lt_of_le_of_lt (putK_le _ _ _) (sz2l (by omega))), ?_⟩
      exact ⟨_, rfl, q _ _ (((s5.trans s59).trans (s10.trans s11)).sb nt sb_upd)⟩

end
end TH
end
section
set_option Elab.async false
set_option linter.all false
set_option maxRecDepth 100000
set_option maxHeartbeats 4000000
namespace TH
open PySem PySem.Spec PyProof.Rows L2
section
variable {P : Program} {w : World} {K : PySem.W.Frag} {mg : Str → Option Value} {base : Heap}
/-! Plan.__init__ -/
structure PlanOk (names : List Nat) (p : Pl) : Prop where
  ok : PlOk names p
  nm : ∀ s ∈ p.states, ∀ q ∈ s, 65 ≤ q.1 ∧ q.1 ≤ 90
  er : p.ends.Pairwise (· < ·)
  el : ∀ e ∈ p.ends, e < p.states.length
  en : p.ends ≠ []
  live : ∀ s, s < p.states.length → LiveS p s
theorem depth_state (s : PState) : (encState s).depth ≤ 2 := by
  have := depthAll_le 1 (s.map fun p => NestedKey.tup [kC p.1, kN p.2]) fun k hk => by
    obtain ⟨q, _, rfl⟩ := List.mem_map.mp hk
    simp [kC, kN, NestedKey.depth, NestedKey.depthAll]
  simp only [encState, NestedKey.depth]
  omega
theorem depth_states (s : List PState) : (encStates s).depth ≤ 3 := by
  have := depthAll_le 2 (s.map encState) fun k hk => by
    obtain ⟨q, _, rfl⟩ := List.mem_map.mp hk
    exact depth_state q
  simp only [encStates, NestedKey.depth]
  omega
theorem nat_ints (ns : List Nat) : natsV ns = (ns.map fun n => ((n : Nat) : Int)).map V.int := by
  rw [List.map_map]
  rfl
theorem inV_nats (i : Nat) (ns : List Nat) : inV (.int (i : Nat)) (natsV ns) = decide (i ∈ ns) := by
  induction ns with
  | nil => rfl
  | cons n ns ih =>
    have e : inV (.int (i : Nat)) (natsV (n :: ns)) = ((n : Int) == (i : Int) || inV (.int (i : Nat)) (natsV ns)) := rfl
    rw [e, ih]
    by_cases h : i = n
    · subst h
      simp
    · have h1 : ¬ n = i := fun z => h z.symm
      have h2 : ¬ (n : Int) = (i : Int) := fun z => h1 (by omega)
      simp only [List.mem_cons, h, false_or]
      simp [beq_eq_false_iff_ne.mpr h2]
theorem flat_nats (ns : List Nat) : (natsV ns).all flatV = true := by
  induction ns with
  | nil => rfl
  | cons n ns ih => exact ih
theorem tab_put {st : PState} {i : Nat} {c n : Nat} (nd : (st.map (·.1)).Nodup) (h : st[i]? = some (c, n)) : putK (tabK (st.take i)) (cKey c) (.int (n : Nat)) = tabK (st.take (i + 1)) := by
  have hn : cKey c ∉ (tabK (st.take i)).map (·.1) := by
    intro hm
    obtain ⟨⟨k, v⟩, hk, e⟩ := List.mem_map.mp hm
    obtain ⟨q, hq, e2⟩ := List.mem_map.mp hk
    obtain ⟨j, hj, e3⟩ := List.mem_iff_getElem.mp hq
    rw [List.length_take] at hj
    rw [List.getElem_take] at e3
    have e4 : q.1 = c := cKey_inj _ _ (by rw [← e, ← e2])
    have := nodup_at nd (i := j) (j := i) (c := c) (by rw [List.getElem?_map, List.getElem?_eq_getElem (by omega), e3]; exact congrArg some e4) (by rw [List.getElem?_map, h]; rfl)
    omega
  rw [putK_new _ (valV_no hn), take_snoc h]
  simp [tabK]
theorem p_Plan_init (T : Tx K mg) : Pr P w K mg base CX0 8 ["self", "states", "ends"] [] (He.ma K (He.ga K "Plan") "__init__")
    (fun vs H Q _ => ∃ (x dx : Addr) (sv ev : V) (p : Pl) (names : List Nat), vs = [.ref x, sv, ev] ∧ H x = some (.ins (He.ga K "Plan") dx []) ∧ Tp K H sv (encStates p.states) ∧ Tp K H ev (.tup (p.ends.map kN)) ∧ PlanOk names p ∧ ∀ H', Sb x H H' → IsPlan K H' (.ref x) p → Q .non H') := by
  refine T.d_Plan_init.pr scs_Plan_init (fun vs H Q E h => ?_) (fun cdv A outer s H vs Q E hr h => ?_)
  · obtain ⟨x, dx, sv, ev, p, names, rfl, _⟩ := h
    rfl
  · obtain ⟨x, dx, sv, ev, p, names, rfl, hx, hsv, hev, ok, q⟩ := h
    have hu := hu_of hr
    have pl := ok.ok.len
    refine ⟨_, (pss_cons (ps_set (i := 3) scs_Plan_init.nd rfl (.inl rfl) (pcall (p_deep_d T) (hr.mono (by decide)) (by rfl) T.g_deep pass0 (pa_cons (pv 1) pa_nil)))
    (pss_cons (ps_if (pw_or (pt_not (pt_val (pe_callB call_isiS (by rfl) T.z_isinstance (by decide +kernel) (pa_cons (pv 3) (pa_cons (pe_bltn (v := .ty "tuple") (by rfl) T.z_tuple (by decide +kernel : bootBuiltins "tuple" = some (.type "tuple")) rfl) pa_nil))))) (pw_or1 (pt_not (pt_chain op_le op_le pe_int (pe_callB call_len_seq (by rfl) T.z_len PySem.boot_len (pa_cons (pv 3) pa_nil)) pe_int)))).pt
      (pss_one ps_never)
      pss_nil)
    (pss_cons (ps_set (i := 4) scs_Plan_init.nd rfl (.inr rfl) (pe_ifExp (pt_cmpR op_isN (pv 2) pe_non (nomark _)) (pe_callTy call_tupU (by rfl) T.z_tuple (by decide +kernel) (pa_cons pe_never pa_nil)) (pcall (p_deep_d T) (hr.mono (by decide)) (by rfl) T.g_deep pass0 (pa_cons (pv 2) pa_nil))))
    (pss_cons (ps_if (pw_or (pt_not (pt_val (pcall (p_is_rising T) (hr.mono (by decide)) (by rfl) T.g_is_rising pass0 (pa_cons (pv 4) (pa_cons pe_int (pa_cons (pe_op op_sub (pe_callB call_len_seq (by rfl) T.z_len PySem.boot_len (pa_cons (pv 3) pa_nil)) pe_int) pa_nil)))))) (pw_or1 (pt_cmpR op_eq (pe_callB call_len_seq (by rfl) T.z_len PySem.boot_len (pa_cons (pv 4) pa_nil)) pe_int (nomark _)))).pt
      (pss_one ps_never)
      pss_nil)
    (pss_cons (ps_set (i := 5) scs_Plan_init.nd rfl (.inl rfl) (pe_lst pa_nil))
    (pss_cons (ps_for PassesOwn.never rfl (pi_en (by rfl) T.z_enumerate (pa_cons (pv 3) pa_nil)) (pg_tup rfl (pgs_cons (pg_name (i := 6) scs_Plan_init.nd rfl (.inl rfl) (.inl rfl)) (pgs_cons (pg_name (i := 7) scs_Plan_init.nd rfl (.inl rfl) (.inl rfl)) pgs_nil)))
      (pss_cons (ps_if (pt_not (pt_val (pcall (p_is_state T) (hr.mono (by decide)) (by rfl) T.g_is_state pass0 (pa_cons (pe_callB call_len_seq (by rfl) T.z_len PySem.boot_len (pa_cons (pv 3) pa_nil)) (pa_cons (pv 7) pa_nil)))))
        (pss_one ps_never)
        pss_nil)
      (pss_cons (ps_set (i := 8) scs_Plan_init.nd rfl (.inl rfl) pe_dnewK)
      (pss_cons (ps_for PassesOwn.never rfl (pi_tup (pv 7)) (pg_tup rfl (pgs_cons (pg_name (i := 9) scs_Plan_init.nd rfl (.inl rfl) (.inl rfl)) (pgs_cons (pg_name (i := 10) scs_Plan_init.nd rfl (.inl rfl) (.inl rfl)) pgs_nil)))
        (pss_one (ps_dput hu (pv 8) (pv 9) (pv 10) rfl)))
      (pss_one (ps_expr (pe_bm PySem.F.plainAttrs_list PySem.F.slot_list_append PySem.F.type_list_append mt_appU (pv 5) (pa_cons (pv 8) pa_nil))))))))
    (pss_cons (ps_setLc (i := 11) (own := [("number", 6)]) rfl scs_Plan_init.nd rfl rfl (sw_true rfl rfl rfl (by decide +kernel)) (pi_range1 (by rfl) T.z_range (pa_cons (pe_callB call_len_seq (by rfl) T.z_len PySem.boot_len (pa_cons (pv 3) pa_nil)) pa_nil)) (blkOk_by (N := ["self", "states", "ends", "rows", "finals", "table", "number", "state", "row", "sign", "after", "flags", "live"]) (sc := defScope s_Plan_init) (by decide +kernel)) (fun _ _ _ _ _ => (pg_name (i := 6) scs_Plan_init.nd rfl (.inl rfl) (.inr rfl))) (fun _ _ _ _ _ => pts_nil) (fun _ _ _ _ _ => (pe_cmpR (op_in_seqK (K := K) rfl) (pv 6) (pv 4) rfl)))
    (pss_cons (ps_for PassesOwn.never rfl (pi_en (by rfl) T.z_enumerate (pa_cons (pcall (p_live_states T) (hr.mono (by decide)) (by rfl) T.g_live_states pass0 (pa_cons (pv 5) (pa_cons (pv 11) pa_nil))) pa_nil)) (pg_tup rfl (pgs_cons (pg_name (i := 6) scs_Plan_init.nd rfl (.inl rfl) (.inl rfl)) (pgs_cons (pg_name (i := 12) scs_Plan_init.nd rfl (.inl rfl) (.inl rfl)) pgs_nil)))
      (pss_one (ps_if (pt_not (pt_val (pv 12)))
        (pss_one ps_never)
        pss_nil)))
    (pss_cons (ps_fld (pv 0) (pv 3) rfl)
    (pss_cons (ps_fld (pv 0) (pv 4) rfl)
    (pss_cons (ps_fld (pv 0) (pe_callTy call_tupU (by rfl) T.z_tuple (by decide +kernel) (pa_cons (pv 5) pa_nil)) rfl)
    (pss_cons (ps_fld (pv 0) (pe_callTy call_tupU (by rfl) T.z_tuple (by decide +kernel) (pa_cons (pv 11) pa_nil)) rfl)
    (pss_one (ps_fld (pv 0) (pcall (p_step_rows_of T) (hr.mono (by decide)) (by rfl) T.g_step_rows_of pass0 (pa_cons (pv 3) (pa_cons (pv 11) pa_nil))) rfl)))))))))))))), ?_⟩
    refine ⟨sv, rfl, sv, 12, _, rfl, hsv.dd, Nat.le_trans (depth_states _) (by decide), by decide, fun H1 v1 s1 t1 => ?_⟩
    have t1' := t1
    obtain ⟨ra, xs, rfl, hra, _, hx1⟩ := t1.tup_inv
    have lx : xs.length = p.states.length := by simpa using hx1.length
    refine ⟨_, rfl, _, _, "tuple", true, rfl, ty_tup hra, by decide +kernel, true, rfl, iteF ?_⟩
    refine ⟨_, rfl, ra, xs, rfl, .inr hra, 1, (xs.length : Nat), rfl, rfl, _, rfl, ?_⟩
    rw [decide_eq_true (show (1 : Int) ≤ (xs.length : Nat) by omega)]
    refine iteT ⟨(xs.length : Nat), 60, rfl, rfl, _, rfl, ?_⟩
    rw [decide_eq_true (show ((xs.length : Nat) : Int) ≤ 60 by omega)]
    refine iteF ?_
    have hev1 := hev.same s1
    have hevx := hev1
    obtain ⟨ea, _, rfl, _⟩ := hevx.tup_inv
    refine ⟨_, rfl, rfl, _, rfl, iteN (fun z => nomatch z) ?_⟩
    have dn : (NestedKey.tup (p.ends.map kN)).depth ≤ 6 := by
      have := depth_nats p.ends
      simp only [NestedKey.depth]
      omega
    refine ⟨_, rfl, .ref ea, 12, _, rfl, hev1.dd, dn, by decide, fun H2 v2 s2 t2 => ?_⟩
    obtain ⟨fa, ys, rfl, hfa, lfa, hy⟩ := t2.tup_inv
    have ey := nats_inv hy
    subst ey
    have ne : p.ends.length ≠ 0 := fun z => ok.en (List.length_eq_zero_iff.mp z)
    have hra2 := s2.tup hra
    refine ⟨_, rfl, _, rfl, ra, xs, rfl, .inr hra2, (xs.length : Nat), 1, rfl, rfl, fa, p.ends.map fun n => ((n : Nat) : Int), 0, ((xs.length : Nat) - 1 : Int), rfl, by rw [← nat_ints]; exact hfa, by simpa [natsV] using lfa, fun n hn => ?_, ?_, fun H3 s3 => ⟨true, rfl, iteF ?_⟩⟩
    · obtain ⟨e, he, rfl⟩ := List.mem_map.mp hn
      have := ok.el e he
      omega
    · rw [List.pairwise_map]
      exact ok.er.imp fun h => by omega
    refine ⟨_, rfl, fa, _, rfl, .inr (s3.tup hfa), rfl, _, rfl, iteN (fun z => ne ?_) ?_⟩
    · have z' := V.int.inj z
      have : (natsV p.ends).length = p.ends.length := by simp [natsV]
      omega
    have s03 := (s1.trans s2).trans s3
    have hra3 := (s2.trans s3).tup hra
    have hx3 := hx1.same (s2.trans s3)
    have hfa3 := s3.tup hfa
    have t3 := t1'.same (s2.trans s3)
    refine ⟨by show 0 ≤ sizeLine; decide, fun lo nlo => ?_⟩
    have s4 := same_upd (o := .lst []) nlo
    have e4 : (upd H3 lo (.lst [])) lo = some (.lst []) := upd_same
    generalize upd H3 lo (.lst []) = H4 at s4 e4 ⊢
    refine ⟨_, rfl, .tup ra, xs, rfl, s4.tup hra3, for_it (walk_en (K := K) (s1 := .tup ra) (xs := xs)) (fun i σ H' => Same H3 H' ∧ (∃ tabs, H' lo = some (.lst tabs) ∧ tabs.length = i ∧ ∀ (j : Nat) (v : V), tabs[j]? = some v → TabAt H' v (stOf p j)) ∧ ∃ x6 x7 x8 x9 x10 x11 x12, σ = [some (.ref x), some sv, some (.ref ea), some (.ref ra), some (.ref fa), some (.ref lo), x6, x7, x8, x9, x10, x11, x12])
      ⟨s4, ⟨[], e4, rfl, fun j v h => by simp at h⟩, _, _, _, _, _, _, _, rfl⟩ (fun i σ H' _ h => h.1.tup hra3) (fun i x' σ H5 H6 hi h y => ?_) fun σ H5 h => ?_⟩
    · obtain ⟨s5, ⟨tabs, e5, l5, p5⟩, x6, x7, x8, x9, x10, x11, x12, rfl⟩ := h
      obtain ⟨Tq, y1, rfl, nT, s6, e6, g1⟩ := y
      obtain ⟨k, gk, tk⟩ := hx3.at g1
      obtain ⟨st, gst, rfl⟩ := map_at gk
      have s56 := s5.trans s6
      have hst := ok.ok.st _ (List.mem_of_getElem? gst)
      have hst2 := ok.nm _ (List.mem_of_getElem? gst)
      have est : stOf p i = st := stOf_at gst
      have tk6 := tk.same s56
      refine ⟨Tq, _, rfl, .inl (.inl e6), rfl, _, _, rfl, _, _, rfl, rfl, ?_⟩
      refine ⟨_, rfl, ra, xs, rfl, .inr (s56.tup hra3), _, rfl, p.states.length, y1, st, by rw [lx]; rfl, tk6, hst.2.1, fun q hq => ⟨(hst2 q hq).1, (hst2 q hq).2, (hst.2.2 q hq).2⟩, true, rfl, iteF ?_⟩
      obtain ⟨ta, ys', rfl, hs2, _, hy'⟩ := state_inv tk6
      intro ld nld
      have s7 := same_upd (o := .dK []) nld
      have e7 : (upd H6 ld (.dK [])) ld = some (.dK []) := upd_same
      generalize upd H6 ld (.dK []) = H7 at s7 e7 ⊢
      have ndd : (st.map (·.1)).Nodup := hst.2.1.imp fun h => Nat.ne_of_lt h
      refine ⟨_, rfl, ta, rfl, ⟨ys', s7.tup hs2⟩, for_it (walk_tup (xs := ys')) (fun j σ H' => Same H6 H' ∧ H' ld = some (.dK (tabK (st.take j))) ∧ ∃ x9 x10 x11 x12, σ = [some (.ref x), some sv, some (.ref ea), some (.ref ra), some (.ref fa), some (.ref lo), some (.int (i : Nat)), some (.ref ta), some (.ref ld), x9, x10, x11, x12])
        ⟨s7, e7, _, _, _, _, rfl⟩ (fun j σ H' _ h => h.1.tup hs2) (fun j y' σ H8 H9 hj h y => ?_) fun σ H8 h => ?_⟩
      · obtain ⟨s8, e8, x9, x10, x11, x12, rfl⟩ := h
        obtain ⟨rfl, g⟩ := y
        obtain ⟨c, n, b, gq, rfl, hb⟩ := row_at hy' g
        have lk : (tabK (st.take j)).length ≤ 2 := by
          have := hst.1
          simp only [tabK, List.length_map, List.length_take]
          omega
        refine ⟨b, _, rfl, s8.tup hb, rfl, _, _, rfl, _, _, rfl, rfl, ?_⟩
        refine ⟨_, rfl, _, rfl, _, rfl, ld, _, rfl, DPut.k (kvs := tabK (st.take j)) (k := cKey c) e8 (sz2l (by omega)), s8.sb nld sb_upd, ?_, _, _, _, _, rfl⟩
        rw [← tab_put ndd gq]
        exact upd_same
      · obtain ⟨s8, e8, x9, x10, x11, x12, rfl⟩ := h
        have ly : ys'.length = st.length := by simpa using hy'.length
        rw [ly, List.take_length] at e8
        have e8l := s8 _ _ (s6 _ _ e5)
        refine ⟨_, rfl, .inl ⟨rfl, _, .inl (.inl e8l)⟩, _, rfl, lo, tabs, _, rfl, rfl, e8l, by omega, fun H9 b9 e9 => ?_⟩
        have kp : Kp H5 H9 := (Kp.of (s6.trans s8)).trans (b9.kp e8l)
        refine ⟨(s56.trans s8).sb nlo b9, ⟨_, e9, by simp [l5], fun j v hj => ?_⟩, _, _, _, _, _, _, _, rfl⟩
        by_cases ej : j < tabs.length
        · rw [List.getElem?_append_left ej] at hj
          obtain ⟨d, h1, h2⟩ := p5 j v hj
          exact ⟨d, h1, kp _ _ (fun _ z => nomatch z) h2⟩
        · have ej' : j = i := by
            have := (List.getElem?_eq_some_iff.mp hj).1
            simp at this
            omega
          subst ej'
          rw [List.getElem?_append_right (by omega), l5] at hj
          simp at hj
          subst hj
          rw [est]
          exact ⟨ld, rfl, b9.kp e8l _ _ (fun _ z => nomatch z) e8⟩
    · obtain ⟨s5, ⟨tabs, e5, l5, p5⟩, x6, x7, x8, x9, x10, x11, x12, rfl⟩ := h
      have hra5 := s5.tup hra3
      refine ⟨_, rfl, ra, xs, rfl, .inr hra5, (xs.length : Nat), rfl, by omega, by omega, fun D hD => lc_map (walk_rn (n := xs.length)) hD (by omega) (fun H' s' => trivial) (fun i acc _ => acc = ((List.range i).map fun j => decide (j ∈ p.ends)).map V.bl) (fun _ _ _ _ _ h => h) rfl (fun i y H6 H7 acc k ks hi1 s6 a1 l1 y hk hk2 => ?_) fun H6 acc s6 eD lD aD => ?_⟩
      · obtain ⟨rfl, rfl⟩ := y
        refine ⟨rfl, yes_if ⟨_, rfl, _, rfl, fa, _, rfl, .inr ((s5.trans s6).tup hfa3), rfl, flat_nats _, hk _ _ (Same.refl _) ?_⟩⟩
        rw [a1, List.range_succ, List.map_append, List.map_append]
        simp [inV_nats]
      · subst aD
        have s36 := s5.trans s6
        refine ⟨_, rfl, _, rfl, lo, D, p, names, tabs, (List.range xs.length).map fun j => decide (j ∈ p.ends), rfl, s6 _ _ e5, by omega, fun j v hj => ?_, eD, by simp [lx], fun i hi => ?_, ok.ok, ok.live, fun H7 o s7 e7 => ?_⟩
        · obtain ⟨d, h1, h2⟩ := p5 j v hj
          exact ⟨d, h1, s6 _ _ h2⟩
        · rw [List.getElem?_map, List.getElem?_range (by omega)]
          rfl
        · refine ⟨.lst o, _, rfl, .inl (.inl e7), for_it (walk_en (K := K) (s1 := .lst o) (xs := List.replicate p.states.length (.bl true))) (fun i σ H' => Same H7 H' ∧ ∃ x6 x7 x8 x9 x10 x12, σ = [some (.ref x), some sv, some (.ref ea), some (.ref ra), some (.ref fa), some (.ref lo), x6, x7, x8, x9, x10, some (.ref D), x12])
            ⟨Same.refl _, _, _, _, _, _, _, rfl⟩ (fun i σ H' _ h => .inl (.inl (h.1 _ _ e7))) (fun j y' σ H8 H9 hj h y => ?_) fun σ H8 h => ?_⟩
          · obtain ⟨s8, x6, x7, x8, x9, x10, x12, rfl⟩ := h
            obtain ⟨Tq, y1, rfl, nT, s9, e9, g1⟩ := y
            have ey : y1 = .bl true := List.eq_of_mem_replicate (List.mem_of_getElem? g1)
            subst ey
            refine ⟨Tq, _, rfl, .inl (.inl e9), rfl, _, _, rfl, _, _, rfl, rfl, ?_⟩
            exact ⟨_, rfl, true, rfl, iteF ⟨s8.trans s9, _, _, _, _, _, _, rfl⟩⟩
          · obtain ⟨s8, x6, x7, x8, x9, x10, x12, rfl⟩ := h
            have s38 := (s36.trans s7).trans s8
            have b8 : Bld H H8 x (He.ga K "Plan") dx [] := ⟨Sb.of (s03.trans s38), (s03.trans s38) _ _ hx⟩
            have t8 := t3.same s38
            refine ⟨_, rfl, _, rfl, x, _, dx, _, rfl, b8.o, T.c_Plan, T.n_Plan_states, by decide, b8.step (K := K) "states" _ (n := 0) (by decide) fun H9 f9 b9 e9 n9 sb9 k9 => ?_⟩
            refine ⟨_, rfl, _, rfl, x, _, dx, _, rfl, b9.o, T.c_Plan, T.n_Plan_ends, by omega, b9.step (K := K) "ends" _ n9 fun H10 f10 b10 e10 n10 sb10 k10 => ?_⟩
            have nxl : lo ≠ x := fun z => by
              have := s03 _ _ hx
              rw [← z, nlo] at this
              cases this
            have nDx : D ≠ x := fun z => by
              have := (s03.trans s5) _ _ hx
              rw [← z, hD] at this
              cases this
            have e10l : H10 lo = some (.lst tabs) := sb10 _ _ nxl (sb9 _ _ nxl ((s7.trans s8) _ _ (s6 _ _ e5)))
            refine ⟨_, rfl, lo, tabs, rfl, .inl (.inl (.inl e10l)), fun u11 H11 s11 h11 => ?_⟩
            have b11 := b10.grow s11
            refine ⟨_, rfl, x, _, dx, _, rfl, b11.o, T.c_Plan, T.n_Plan_table, by omega, b11.step (K := K) "table" _ n10 fun H12 f12 b12 e12 n12 sb12 k12 => ?_⟩
            have e12D : H12 D = some (.lst (((List.range xs.length).map fun j => decide (j ∈ p.ends)).map V.bl)) := sb12 _ _ nDx (s11 _ _ (sb10 _ _ nDx (sb9 _ _ nDx ((s7.trans s8) _ _ eD))))
            refine ⟨_, rfl, D, _, rfl, .inl (.inl (.inl e12D)), fun u13 H13 s13 h13 => ?_⟩
            have b13 := b12.grow s13
            refine ⟨_, rfl, x, _, dx, _, rfl, b13.o, T.c_Plan, T.n_Plan_is_end, by omega, b13.step (K := K) "is_end" _ n12 fun H14 f14 b14 e14 n14 sb14 k14 => ?_⟩
            have t14 := (((((t8.kt k9).kt k10).same s11).kt k12).same s13).kt k14
            refine ⟨_, rfl, _, rfl, .ref ra, D, p, names, _, rfl, t14, sb14 _ _ nDx (s13 _ _ e12D), by simp [lx], ok.ok, fun H15 u15 s15 => ?_⟩
            have b15 := b14.grow s15
            refine ⟨_, rfl, x, _, dx, _, rfl, b15.o, T.c_Plan, T.n_Plan_step_rows, by omega, b15.step (K := K) "step_rows" _ n14 fun H16 f16 b16 e16 n16 sb16 k16 => ?_⟩
            refine q H16 b16.s ⟨x, dx, f16, .ref ra, rfl, b16.o, ?_, (t14.same s15).kt k16⟩
            rw [e16, e14, e12, e10, e9]
            exact look_ne (by decide) (look_ne (by decide) (look_ne (by decide) (look_ne (by decide) (look_same _ _ _))))

end
end TH
end
section
set_option Elab.async false
set_option linter.all false
set_option maxRecDepth 100000
set_option maxHeartbeats 4000000
namespace TH
open PySem PySem.Spec PyProof.Rows L2
section
variable {P : Program} {w : World} {K : PySem.W.Frag} {mg : Str → Option Value} {base : Heap}
/-! the model: how a drill goes, columns, gaps -/
def d0 : Row := ⟨0, 1, []⟩
def rowAt (rs : List Row) (s : Nat) : Row := (rs[s]?).getD d0
def go (sg : List Nat) (rs : List Row) (s c : Nat) : Nat := ((rowAt rs s).nexts[sg.idxOf c]?).getD 0
def stand (sg : List Nat) (rs : List Row) (t : List Nat) : Nat := t.foldl (go sg rs) 0
def walkF (sg : List Nat) (rs : List Row) : Nat → List Nat → Int
  | _, [] => 0
  | s, c :: t => (rowAt rs (go sg rs s c)).stride + walkF sg rs (go sg rs s c) t
def walkT (sg : List Nat) (rs : List Row) (t : List Nat) : Int := walkF sg rs 0 t
theorem stand_snoc (sg : List Nat) (rs : List Row) (t : List Nat) (c : Nat) : stand sg rs (t ++ [c]) = go sg rs (stand sg rs t) c := by simp [stand]
theorem walkF_snoc (sg : List Nat) (rs : List Row) (c : Nat) : ∀ (t : List Nat) (s : Nat), walkF sg rs s (t ++ [c]) = walkF sg rs s t + (rowAt rs (go sg rs (t.foldl (go sg rs) s) c)).stride
  | [], s => by simp [walkF]
  | x :: t, s => by
    rw [List.cons_append, walkF, walkF_snoc sg rs c t, walkF, List.foldl_cons, Int.add_assoc]
theorem walk_snoc (sg : List Nat) (rs : List Row) (t : List Nat) (c : Nat) : walkT sg rs (t ++ [c]) = walkT sg rs t + (rowAt rs (stand sg rs (t ++ [c]))).stride := by
  rw [stand_snoc]
  exact walkF_snoc sg rs c t 0
def pad (T : List Nat) (n : Nat) : List Nat := T.take n ++ List.replicate (n - T.length) 46
theorem pad_zero (T : List Nat) : pad T 0 = [] := by simp [pad]
theorem pad_succ (T : List Nat) (n : Nat) : pad T (n + 1) = pad T n ++ [(T[n]?).getD 46] := by
  unfold pad
  by_cases h : n < T.length
  · have e : T[n]? = some T[n] := List.getElem?_eq_getElem h
    rw [take_snoc e, e]
    have h1 : n + 1 - T.length = 0 := by omega
    have h2 : n - T.length = 0 := by omega
    rw [h1, h2]
    simp
  · have e : T[n]? = none := List.getElem?_eq_none (by omega)
    rw [e, List.take_of_length_le (by omega), List.take_of_length_le (by omega)]
    have h1 : n + 1 - T.length = (n - T.length) + 1 := by omega
    rw [h1, List.replicate_succ']
    simp
theorem pad_len (T : List Nat) (n : Nat) : (pad T n).length = n := by
  unfold pad
  simp only [List.length_append, List.length_take, List.length_replicate]
  omega
theorem pad_all (T : List Nat) : pad T T.length = T := by simp [pad]
theorem pad_le {T : List Nat} {n : Nat} (h : n ≤ T.length) : pad T n = T.take n := by
  unfold pad
  rw [show n - T.length = 0 by omega]
  simp
theorem pad_take {T : List Nat} {n m : Nat} (h : m ≤ n) : (pad T n).take m = pad T m := by
  unfold pad
  rw [List.take_append, List.take_take, List.take_replicate]
  congr 1
  · rw [show min m n = m by omega]
  · congr 1
    rw [List.length_take]
    omega
theorem pad_mem {T sg : List Nat} (h : ∀ c ∈ T, c ∈ sg) (h0 : 46 ∈ sg) (n : Nat) : ∀ c ∈ pad T n, c ∈ sg := fun c hc => by
  rcases List.mem_append.mp hc with hc | hc
  · exact h c (List.mem_of_mem_take hc)
  · rw [List.eq_of_mem_replicate hc]
    exact h0
/-- of rows that are as told -/
theorem rowAt_of {rs : List Row} {s : Nat} (h : s < rs.length) : rs[s]? = some (rowAt rs s) := by
  rw [rowAt, List.getElem?_eq_getElem h]
  rfl
theorem idx_at {sg : List Nat} {c : Nat} (h : c ∈ sg) : sg[sg.idxOf c]? = some c := by
  rw [List.getElem?_eq_getElem (List.idxOf_lt_length_of_mem h)]
  exact congrArg some (List.getElem_idxOf (List.idxOf_lt_length_of_mem h))
theorem go_at {sg : List Nat} {rs : List Row} {nw s c : Nat} (ok : RowsOk nw rs) (hl : sg.length = nw + 1) (hs : s < rs.length) (hc : c ∈ sg) : (rowAt rs s).nexts[sg.idxOf c]? = some (go sg rs s c) ∧ go sg rs s c < rs.length := by
  have ro := ok.row _ (List.mem_of_getElem? (rowAt_of hs))
  have lt : sg.idxOf c < (rowAt rs s).nexts.length := by
    rw [ro.l, ← hl]
    exact List.idxOf_lt_length_of_mem hc
  have e : (rowAt rs s).nexts[sg.idxOf c]? = some (go sg rs s c) := by
    unfold go
    rw [List.getElem?_eq_getElem lt]
    rfl
  exact ⟨e, ro.n _ (List.mem_of_getElem? e)⟩
theorem stand_lt {sg : List Nat} {rs : List Row} {nw : Nat} (ok : RowsOk nw rs) (hl : sg.length = nw + 1) : ∀ (t : List Nat) (s : Nat), s < rs.length → (∀ c ∈ t, c ∈ sg) → t.foldl (go sg rs) s < rs.length
  | [], s, hs, _ => hs
  | c :: t, s, hs, h => stand_lt ok hl t _ (go_at ok hl hs (h c List.mem_cons_self)).2 fun d hd => h d (List.mem_cons_of_mem _ hd)
theorem go_dot {ws : List Nat} {rs : List Row} {nw s : Nat} (ok : RowsOk nw rs) (hs : s < rs.length) : go (46 :: ws) rs s 46 = s := by
  unfold go
  have : (46 :: ws).idxOf 46 = 0 := by simp
  rw [this, ok.still s _ (rowAt_of hs)]
  rfl
/-! a world's kinds -/
def kOf (W : Wld) (c : Nat) : Knd := (W.kinds.find? fun k => k.name == c).getD ⟨0, 1, []⟩
theorem kOf_mem {W : Wld} {c : Nat} (h : c ∈ W.names) : kOf W c ∈ W.kinds ∧ (kOf W c).name = c := by
  unfold kOf
  obtain ⟨k, hk, rfl⟩ := List.mem_map.mp h
  cases e : W.kinds.find? fun k' => k'.name == k.name with
  | none =>
    have := List.find?_eq_none.mp e k hk
    simp at this
  | some k' =>
    have h1 := List.mem_of_find?_eq_some e
    have h2 := List.find?_some e
    exact ⟨h1, by simpa using h2⟩
theorem kOf_name {W : Wld} (ok : WOk W) {k : Knd} (h : k ∈ W.kinds) : kOf W k.name = k := by
  obtain ⟨h1, h2⟩ := kOf_mem (W := W) (c := k.name) (List.mem_map.mpr ⟨k, h, rfl⟩)
  obtain ⟨i, hi, e1⟩ := List.mem_iff_getElem.mp h
  obtain ⟨j, hj, e2⟩ := List.mem_iff_getElem.mp h1
  have : i = j := nodup_at ok.nd (c := k.name) (by rw [List.getElem?_map, List.getElem?_eq_getElem hi, e1]; rfl) (by rw [List.getElem?_map, List.getElem?_eq_getElem hj, e2]; exact congrArg some h2)
  subst this
  exact e2.symm.trans e1
def stA (W : Wld) (c : Nat) (T : List Nat) : Nat := stand W.signs (kOf W c).rows T
def wkA (W : Wld) (c : Nat) (T : List Nat) : Int := walkT W.signs (kOf W c).rows T
def bdA (W : Wld) (c : Nat) (s : Nat) : Int := (rowAt (kOf W c).rows s).body
def lgA (W : Wld) (c : Nat) : Nat := (kOf W c).lag
def gapX (W : Wld) (a b : Nat) (X : List Nat) : Int := bdA W a 0 + (W.space : Nat) + wkA W a X - bdA W a (stA W a X) - wkA W b (X.take (X.length - lgA W a))
def gap2 (W : Wld) (a b : Nat) (T : List Nat) (n : Nat) : Int := gapX W a b (pad T n)
theorem gap2_eq (W : Wld) (a b : Nat) (T : List Nat) (n : Nat) : gap2 W a b T n = bdA W a 0 + (W.space : Nat) + wkA W a (pad T n) - bdA W a (stA W a (pad T n)) - wkA W b (pad T (n - lgA W a)) := by
  unfold gap2 gapX
  rw [pad_len, pad_take (Nat.sub_le _ _)]
def delAt (W : Wld) (G : List Nat) (i : Nat) : Nat := ((G.take i).map (lgA W)).sum
def froAt (W : Wld) (G : List Nat) (i : Nat) : Int := ((G.take i).map fun c => - (bdA W c 0) - (W.space : Nat)).sum
theorem delAt_succ {W : Wld} {G : List Nat} {i a : Nat} (h : G[i]? = some a) : delAt W G (i + 1) = delAt W G i + lgA W a := by
  unfold delAt
  rw [take_snoc h]
  simp
theorem froAt_succ {W : Wld} {G : List Nat} {i a : Nat} (h : G[i]? = some a) : froAt W G (i + 1) = froAt W G i - bdA W a 0 - (W.space : Nat) := by
  unfold froAt
  rw [take_snoc h]
  simp
  omega
theorem delAt_zero (W : Wld) (G : List Nat) : delAt W G 0 = 0 := by simp [delAt]
theorem froAt_zero (W : Wld) (G : List Nat) : froAt W G 0 = 0 := by simp [froAt]
/-- how the group at i stands at a beat, where its front is, the gap behind it -/
def stG (W : Wld) (G T : List Nat) (beat i : Nat) : Nat := stA W ((G[i]?).getD 0) (pad T (beat - delAt W G i))
def frG (W : Wld) (G T : List Nat) (beat i : Nat) : Int := froAt W G i + wkA W ((G[i]?).getD 0) (pad T (beat - delAt W G i))
def gpG (W : Wld) (G T : List Nat) (beat i : Nat) : Int := frG W G T beat i - bdA W ((G[i]?).getD 0) (stG W G T beat i) - frG W G T beat (i + 1)
theorem gpG_eq {W : Wld} {G T : List Nat} {beat i a b : Nat} (ha : G[i]? = some a) (hb : G[i + 1]? = some b) : gpG W G T beat i = gap2 W a b T (beat - delAt W G i) := by
  rw [gap2_eq]
  unfold gpG frG stG
  rw [ha, hb, froAt_succ ha, delAt_succ ha, ← Nat.sub_sub]
  simp only [Option.getD_some]
  omega

end
end TH
end
section
set_option Elab.async false
set_option linter.all false
set_option maxRecDepth 100000
set_option maxHeartbeats 4000000
namespace TH
open PySem PySem.Spec PyProof.Rows L2
section
variable {P : Program} {w : World} {K : PySem.W.Frag} {mg : Str → Option Value} {base : Heap}
/-! Column -/
theorem IsDrill.sbn {H H' : Hp} {x C dx : Addr} {v : V} {ws : List Nat} {rs : List Row} (h : IsDrill K H v ws rs) (hx : H x = some (.ins C dx [])) (s : Sb x H H') : IsDrill K H' v ws rs := by
  obtain ⟨a, dx', fs, sv, st, bd, ld, e, ha, l1, l2, l3, l4, t1, t2, t3, la, lds, e2, h2, hl, hx'⟩ := h.ex
  have k := sb_ins (K := K) s hx
  refine ⟨a, dx', fs, sv, st, bd, ld, e, s _ _ (fun z => ?_) ha, l1, l2, l3, l4, t1.kt k, ?_, ?_, la, lds, e2, k _ _ h2, hl, fun i r hr => ?_⟩
  · rw [z, hx] at ha
    cases ha
    cases l1
  · obtain ⟨b, e, h⟩ := t2
    exact ⟨b, e, k _ _ h⟩
  · obtain ⟨b, e, h⟩ := t3
    exact ⟨b, e, k _ _ h⟩
  · obtain ⟨y, hy, d, kvs, ex, hd, hk⟩ := hx' i r hr
    exact ⟨y, hy, d, kvs, ex, s _ _ (fun z => by rw [z, hx] at hd; cases hd) hd, hk⟩
theorem IsMake.sbn {H H' : Hp} {x C dx : Addr} {v : V} {W : Wld} {row : List Nat} (h : IsMake K H v W row) (hx : H x = some (.ins C dx [])) (s : Sb x H H') : IsMake K H' v W row := by
  refine ⟨h.perm, h.rise, ?_⟩
  obtain ⟨a, dx', t, dd, ll, fs, kd, kl, e, ha, m1, m2, l1, l2, l3, l4, ht, l5, hd, l6, hl, q1, q2⟩ := h.ex
  refine ⟨a, dx', t, dd, ll, fs, kd, kl, e, s _ _ (fun z => ?_) ha, m1, m2, l1, l2, l3, l4, s _ _ (fun z => by rw [z, hx] at ht; cases ht) ht, l5, s _ _ (fun z => by rw [z, hx] at hd; cases hd) hd, l6, s _ _ (fun z => by rw [z, hx] at hl; cases hl) hl, fun k hk => ?_, q2⟩
  · rw [z, hx] at ha
    cases ha
    cases l1
  · obtain ⟨dv, e1, e2⟩ := q1 k hk
    exact ⟨dv, e1, e2.sbn hx s⟩
/-- the drill of a name -/
theorem IsMake.drill {H : Hp} {v : V} {W : Wld} {row : List Nat} (h : IsMake K H v W row) {c : Nat} (hc : c ∈ W.names) : ∃ (a dx dd : Addr) (fs : List (Str × V)) (kd : List (Key × V)) (dv : V), v = .ref a ∧ H a = some (.ins (He.ga K "Make") dx fs) ∧ fs.lookup ("drills" : Str) = some (.ref dd) ∧ H dd = some (.dK kd) ∧
    valV kd (.inr (one c)) = some dv ∧ IsDrill K H dv W.words (kOf W c).rows := by
  obtain ⟨a, dx', t, dd, ll, fs, kd, kl, e, ha, m1, m2, l1, l2, l3, l4, ht, l5, hd, l6, hl, q1, q2⟩ := h.ex
  obtain ⟨hk, hn⟩ := kOf_mem hc
  obtain ⟨dv, e1, e2⟩ := q1 _ hk
  rw [hn] at e1
  exact ⟨a, dx', dd, fs, kd, dv, e, ha, l5, hd, e1, e2⟩
theorem IsMake.lag {H : Hp} {v : V} {W : Wld} {row : List Nat} (h : IsMake K H v W row) {c : Nat} (hc : c ∈ W.names) : ∃ (a dx ll : Addr) (fs : List (Str × V)) (kl : List (Key × V)), v = .ref a ∧ H a = some (.ins (He.ga K "Make") dx fs) ∧ fs.lookup ("lags" : Str) = some (.ref ll) ∧ H ll = some (.dK kl) ∧
    valV kl (.inr (one c)) = some (.int (lgA W c : Nat)) := by
  obtain ⟨a, dx', t, dd, ll, fs, kd, kl, e, ha, m1, m2, l1, l2, l3, l4, ht, l5, hd, l6, hl, q1, q2⟩ := h.ex
  obtain ⟨hk, hn⟩ := kOf_mem hc
  have e1 := q2 _ hk
  rw [hn] at e1
  exact ⟨a, dx', ll, fs, kl, e, ha, l6, hl, e1⟩
theorem IsDrill.bodies {H : Hp} {v : V} {ws : List Nat} {rs : List Row} (h : IsDrill K H v ws rs) {s : Nat} (hs : s < rs.length) : ∃ (a dx b : Addr) (fs : List (Str × V)) (xs : List V), v = .ref a ∧ H a = some (.ins (He.ga K "Drill") dx fs) ∧ fs.lookup ("bodies" : Str) = some (.ref b) ∧ SqT K H b xs ∧ xs[s]? = some (.int (rowAt rs s).body) := by
  obtain ⟨a, dx', fs, sv, st, bd, ld, e, ha, l1, l2, l3, l4, t1, t2, ⟨b, eb, hb⟩, la, lds, e2, h2, hl, hx'⟩ := h.ex
  subst eb
  exact ⟨a, dx', b, fs, _, e, ha, l3, hb, by rw [List.getElem?_map, List.getElem?_map, rowAt_of hs]; rfl⟩
theorem IsDrill.strides {H : Hp} {v : V} {ws : List Nat} {rs : List Row} (h : IsDrill K H v ws rs) {s : Nat} (hs : s < rs.length) : ∃ (a dx b : Addr) (fs : List (Str × V)) (xs : List V), v = .ref a ∧ H a = some (.ins (He.ga K "Drill") dx fs) ∧ fs.lookup ("strides" : Str) = some (.ref b) ∧ SqT K H b xs ∧ xs[s]? = some (.int (rowAt rs s).stride) := by
  obtain ⟨a, dx', fs, sv, st, bd, ld, e, ha, l1, l2, l3, l4, t1, ⟨b, eb, hb⟩, t3, la, lds, e2, h2, hl, hx'⟩ := h.ex
  subst eb
  exact ⟨a, dx', b, fs, _, e, ha, l2, hb, by rw [List.getElem?_map, List.getElem?_map, rowAt_of hs]; rfl⟩
theorem IsDrill.leads {H : Hp} {v : V} {ws : List Nat} {rs : List Row} (h : IsDrill K H v ws rs) (ok : RowsOk ws.length rs) {s c : Nat} (hs : s < rs.length) (hc : c ∈ 46 :: ws) : ∃ (a dx b d : Addr) (fs : List (Str × V)) (xs : List V) (kvs : List (Key × V)), v = .ref a ∧ H a = some (.ins (He.ga K "Drill") dx fs) ∧ fs.lookup ("leads" : Str) = some (.ref b) ∧ SqT K H b xs ∧
    xs[s]? = some (.ref d) ∧ H d = some (.dK kvs) ∧ valV kvs (.inr (one c)) = some (.int (go (46 :: ws) rs s c : Nat)) := by
  obtain ⟨a, dx', fs, sv, st, bd, ld, e, ha, l1, l2, l3, l4, t1, t2, t3, la, lds, e2, h2, hl, hx'⟩ := h.ex
  subst e2
  obtain ⟨y, hy, d, kvs, ex, hd, hk⟩ := hx' s _ (rowAt_of hs)
  subst ex
  exact ⟨a, dx', la, d, fs, lds, kvs, e, ha, l4, h2, hy, hd, hk _ _ _ (idx_at hc) (go_at ok (by simp) hs hc).1⟩
/-! a column -/
def dlV (W : Wld) (G : List Nat) (n : Nat) : List V := (List.range n).map fun i => V.int (delAt W G i : Nat)
def frV (W : Wld) (G : List Nat) (n : Nat) : List V := (List.range n).map fun i => V.int (froAt W G i)
theorem atI_last {α : Type} (xs : List α) (v : α) : atI (xs ++ [v]) (-1) = some v := by
  unfold atI ixN
  rw [if_neg (by decide), if_pos (by simp; omega)]
  have : ((-1 : Int) + ((xs ++ [v]).length : Nat)).toNat = xs.length := by simp; omega
  rw [this]
  simp
theorem dlV_succ (W : Wld) (G : List Nat) (n : Nat) : dlV W G (n + 1) = dlV W G n ++ [.int (delAt W G n : Nat)] := by simp [dlV, List.range_succ]
theorem frV_succ (W : Wld) (G : List Nat) (n : Nat) : frV W G (n + 1) = frV W G n ++ [.int (froAt W G n)] := by simp [frV, List.range_succ]
structure IsCol (K : PySem.W.Frag) (H : Hp) (v : V) (W : Wld) (row G : List Nat) : Prop where
  ex : ∃ (a dx dl fr : Addr) (fs : List (Str × V)) (mv : V), v = .ref a ∧ H a = some (.ins (He.ga K "Column") dx fs) ∧ fs.lookup ("make" : Str) = some mv ∧ IsMake K H mv W row ∧ fs.lookup ("groups" : Str) = some (.str (str G)) ∧
    fs.lookup ("delay_list" : Str) = some (.ref dl) ∧ SqT K H dl (dlV W G G.length) ∧ fs.lookup ("front_list" : Str) = some (.ref fr) ∧ SqT K H fr (frV W G G.length)
theorem IsCol.kp {H H' : Hp} {v : V} {W : Wld} {row G : List Nat} (h : IsCol K H v W row G) (s : Kp H H') : IsCol K H' v W row G := by
  obtain ⟨a, dx, dl, fr, fs, mv, e, ha, l1, m, l2, l3, h3, l4, h4⟩ := h.ex
  exact ⟨a, dx, dl, fr, fs, mv, e, s _ _ (fun _ z => nomatch z) ha, l1, m.kp s, l2, l3, s.tup h3, l4, s.tup h4⟩
theorem IsCol.same {H H' : Hp} {v : V} {W : Wld} {row G : List Nat} (h : IsCol K H v W row G) (s : Same H H') : IsCol K H' v W row G := h.kp (Kp.of s)
structure GOk (W : Wld) (G : List Nat) : Prop where
  l : 1 ≤ G.length ∧ G.length ≤ 60
  m : ∀ c ∈ G, c ∈ W.names
theorem p_check_column_d (T : Tx K mg) : Pr P w K mg base CX0 1 ["make", "groups", "most"] [.int 60] (He.ga K "check_column")
    (fun vs H Q _ => ∃ (m : V) (W : Wld) (row G : List Nat), vs = [m, .str (str G), .int 60] ∧ IsMake K H m W row ∧ GOk W G ∧ ∀ H', Same H H' → Q .non H') := by
  refine T.d_check_column_d.pr scs_check_column (fun vs H Q E h => ?_) (fun cdv A outer s H vs Q E hr h => ?_)
  · obtain ⟨m, W, row, G, rfl, _⟩ := h
    rfl
  · obtain ⟨m, W, row, G, rfl, hm, ok, q⟩ := h
    have hu := hu_of hr
    have gl := ok.l
    refine ⟨_, (pss_cons (ps_if (pw_or (pt_not (pt_val (pe_callB call_isiS (by rfl) T.z_isinstance (by decide +kernel) (pa_cons (pv 1) (pa_cons (pe_bltn (v := .ty "str") (by rfl) T.z_str (by decide +kernel : bootBuiltins "str" = some (.type "str")) rfl) pa_nil))))) (pw_or1 (pt_not (pt_chain op_le op_le pe_int (pe_callB call_len_str (by rfl) T.z_len PySem.boot_len (pa_cons (pv 1) pa_nil)) (pv 2))))).pt
      (pss_one ps_never)
      pss_nil)
    (pss_one (ps_for PassesOwn.never rfl (pi_en (by rfl) T.z_enumerate (pa_cons (pv 1) pa_nil)) (pg_tup rfl (pgs_cons (pg_name (i := 3) scs_check_column.nd rfl (.inl rfl) (.inl rfl)) (pgs_cons (pg_name (i := 4) scs_check_column.nd rfl (.inl rfl) (.inl rfl)) pgs_nil)))
      (pss_one (ps_if (pt_cmp (pc_dnotin hu (pv 4) (pe_fld (pv 0) rfl)))
        (pss_one ps_never)
        pss_nil))))), ?_⟩
    refine ⟨_, rfl, _, _, "str", true, rfl, .base (.str _), by decide +kernel, true, rfl, iteF ?_⟩
    refine ⟨_, rfl, str G, rfl, by rw [str_len]; exact sz2 (by omega), 1, ((str G).length : Nat), rfl, rfl, _, rfl, ?_⟩
    rw [str_len, decide_eq_true (show (1 : Int) ≤ (G.length : Nat) by omega)]
    refine iteT ⟨_, rfl, (G.length : Nat), 60, rfl, rfl, _, rfl, ?_⟩
    rw [decide_eq_true (show ((G.length : Nat) : Int) ≤ 60 by omega)]
    refine iteF ⟨_, rfl, .txt (str G), signsV (str G), rfl, rfl, for_it (walk_en (K := K) (s1 := .txt (str G)) (xs := signsV (str G))) (fun i σ H1 => Same H H1 ∧ ∃ x3 x4, σ = [some m, some (.str (str G)), some (.int 60), x3, x4]) ⟨Same.refl _, _, _, rfl⟩ (fun _ _ _ _ _ => rfl) (fun i x σ H1 H2 hi h y => ?_) fun σ H1 h => q _ h.1⟩
    obtain ⟨s1, x3, x4, rfl⟩ := h
    obtain ⟨Tq, x1, rfl, nT, s2, e2, g1⟩ := y
    rw [signs_str, List.getElem?_map] at g1
    obtain ⟨c, hc, rfl⟩ := Option.map_eq_some_iff.mp g1
    obtain ⟨a, dx, ll, fs, kl, em, ha, l5, hd, vl⟩ := (hm.same (s1.trans s2)).lag (ok.m c (List.mem_of_getElem? hc))
    refine ⟨Tq, _, rfl, .inl (.inl e2), rfl, _, _, rfl, _, _, rfl, rfl, ?_⟩
    refine ⟨_, rfl, _, rfl, a, _, dx, fs, _, em, ha, T.c_Make, T.n_Make_lags, l5, ll, _, rfl, DGet.k (k := .inr (one c)) hd, _, rfl, ?_⟩
    rw [vl]
    exact iteF ⟨s1.trans s2, _, _, rfl⟩

end
end TH
end
section
set_option Elab.async false
set_option linter.all false
set_option maxRecDepth 100000
set_option maxHeartbeats 4000000
namespace TH
open PySem PySem.Spec PyProof.Rows L2
section
variable {P : Program} {w : World} {K : PySem.W.Frag} {mg : Str → Option Value} {base : Heap}
/-! Column.__init__ -/
theorem IsMake.seat {H : Hp} {v : V} {W : Wld} {row : List Nat} (h : IsMake K H v W row) : ∃ (a dx : Addr) (fs : List (Str × V)), v = .ref a ∧ H a = some (.ins (He.ga K "Make") dx fs) ∧ fs.lookup ("seat_of" : Str) = none := by
  obtain ⟨a, dx', t, dd, ll, fs, kd, kl, e, ha, m1, m2, r⟩ := h.ex
  exact ⟨a, dx', fs, e, ha, m2⟩
theorem chars_at {z : List Nat} {i : Nat} {x : V} (h : (signsV (str z))[i]? = some x) : ∃ c, z[i]? = some c ∧ x = .str (one c) := by
  rw [signs_str, List.getElem?_map] at h
  obtain ⟨c, hc, e⟩ := Option.map_eq_some_iff.mp h
  exact ⟨c, hc, e.symm⟩
theorem dlV_len (W : Wld) (G : List Nat) (n : Nat) : (dlV W G n).length = n := by simp [dlV]
theorem frV_len (W : Wld) (G : List Nat) (n : Nat) : (frV W G n).length = n := by simp [frV]
theorem p_Column_init (T : Tx K mg) : Pr P w K mg base CX0 4 ["self", "make", "groups"] [] (He.ma K (He.ga K "Column") "__init__")
    (fun vs H Q _ => ∃ (x dx : Addr) (m : V) (W : Wld) (row G : List Nat), vs = [.ref x, m, .str (str G)] ∧ H x = some (.ins (He.ga K "Column") dx []) ∧ IsMake K H m W row ∧ WOk W ∧ GOk W G ∧ ∀ H', Sb x H H' → IsCol K H' (.ref x) W row G → Q .non H') := by
  refine T.d_Column_init.pr scs_Column_init (fun vs H Q E h => ?_) (fun cdv A outer s H vs Q E hr h => ?_)
  · obtain ⟨x, dx, m, W, row, G, rfl, _⟩ := h
    rfl
  · obtain ⟨x, dx, m, W, row, G, rfl, hx, hm, wok, ok, q⟩ := h
    have hu := hu_of hr
    have gl := ok.l
    refine ⟨_, (pss_cons (ps_expr (pcall (p_check_column_d T) (hr.mono (by decide)) (by rfl) T.g_check_column pass0 (pa_cons (pv 1) (pa_cons (pv 2) pa_nil))))
    (pss_cons (ps_fld (pv 0) (pv 1) rfl)
    (pss_cons (ps_fld (pv 0) (pv 2) rfl)
    (pss_cons (ps_set (i := 3) scs_Column_init.nd rfl (.inl rfl) (pe_lst (pa_cons pe_int pa_nil)))
    (pss_cons (ps_set (i := 4) scs_Column_init.nd rfl (.inl rfl) (pe_lst (pa_cons pe_int pa_nil)))
    (pss_cons (ps_for PassesOwn.never rfl (pi_z2 (by rfl) T.z_zip (pa_cons (pv 2) (pa_cons (pe_slice sl_str (pv 2) (po_some pe_int) po_none) pa_nil))) (pg_tup rfl (pgs_cons (pg_name (i := 5) scs_Column_init.nd rfl (.inl rfl) (.inl rfl)) (pgs_cons (pg_name (i := 6) scs_Column_init.nd rfl (.inl rfl) (.inl rfl)) pgs_nil)))
      (pss_cons (ps_expr (pe_bm PySem.F.plainAttrs_list PySem.F.slot_list_append PySem.F.type_list_append mt_appU (pv 3) (pa_cons (pe_op op_add (pe_ix ix_list (pv 3) (pe_un un_neg pe_int) (fun _ _ => rfl)) (pe_dget hu (pe_fld (pv 1) rfl) (pv 5) (fun _ _ => rfl))) pa_nil)))
      (pss_cons (ps_set (i := 7) scs_Column_init.nd rfl (.inl rfl) (pe_ix ix_tup (pe_fld (pe_dget hu (pe_fld (pv 1) rfl) (pv 5) (fun _ _ => rfl)) rfl) pe_int (fun _ _ => rfl)))
      (pss_one (ps_expr (pe_bm PySem.F.plainAttrs_list PySem.F.slot_list_append PySem.F.type_list_append mt_appU (pv 4) (pa_cons (pe_op op_sub (pe_op op_sub (pe_ix ix_list (pv 4) (pe_un un_neg pe_int) (fun _ _ => rfl)) (pv 7)) (pmeth (p_Make_seat_of T) (pv 1) T.c_Make T.m_Make_seat_of (hr.mono (by decide)) pass0 (pa_cons (pv 5) (pa_cons (pv 6) pa_nil)))) pa_nil)))))))
    (pss_cons (ps_fld (pv 0) (pe_callTy call_tupU (by rfl) T.z_tuple (by decide +kernel) (pa_cons (pv 3) pa_nil)) rfl)
    (pss_cons (ps_fld (pv 0) (pe_callTy call_tupU (by rfl) T.z_tuple (by decide +kernel) (pa_cons (pv 4) pa_nil)) rfl)
    (pss_one (ps_fld (pv 0) (pe_op op_sub (pe_ix ix_tup (pe_fld (pe_dget hu (pe_fld (pv 1) rfl) (pe_ix ix_str (pv 2) (pe_un un_neg pe_int) (fun _ _ => rfl)) (fun _ _ => rfl)) rfl) pe_int (fun _ _ => rfl)) (pe_ix ix_list (pv 4) (pe_un un_neg pe_int) (fun _ _ => rfl))) rfl)))))))))), ?_⟩
    refine ⟨_, rfl, _, rfl, m, W, row, G, rfl, hm, ok, fun H1 s1 => ?_⟩
    have b1 : Bld H H1 x (He.ga K "Column") dx [] := ⟨Sb.of s1, s1 _ _ hx⟩
    refine ⟨_, rfl, _, rfl, x, _, dx, _, rfl, b1.o, T.c_Column, T.n_Column_make, by decide, b1.step (K := K) "make" _ (n := 0) (by decide) fun H2 f2 b2 e2 n2 sb2 k2 => ?_⟩
    refine ⟨_, rfl, _, rfl, x, _, dx, _, rfl, b2.o, T.c_Column, T.n_Column_groups, by omega, b2.step (K := K) "groups" _ n2 fun H3 f3 b3 e3 n3 sb3 k3 => ?_⟩
    refine ⟨by show 1 ≤ sizeLine; decide, fun d nd => ?_⟩
    have s4 := same_upd (o := .lst [.int 0]) nd
    have e4 : (upd H3 d (.lst [.int 0])) d = some (.lst [.int 0]) := upd_same
    generalize upd H3 d (.lst [.int 0]) = H4 at s4 e4 ⊢
    refine ⟨by show 1 ≤ sizeLine; decide, fun f nf => ?_⟩
    have s5 := same_upd (o := .lst [.int 0]) nf
    have e5 : (upd H4 f (.lst [.int 0])) f = some (.lst [.int 0]) := upd_same
    generalize upd H4 f (.lst [.int 0]) = H5 at s5 e5 ⊢
    have ndf : d ≠ f := fun z => by rw [← z, e4] at nf; cases nf
    have nf3 : H3 f = none := s4.back nf
    refine ⟨_, rfl, _, rfl, 1, rfl, str G, rfl, by rw [str_len]; exact sz2 (by omega), ?_⟩
    rw [cut1]
    have W' := walk_z2 (K := K) (s1 := .txt (str G)) (s2 := .txt (str (G.drop 1))) (xs := signsV (str G)) (ys := signsV (str (G.drop 1))) (n := G.length - 1) (by simp [signs_str])
    refine ⟨.txt (str G), .txt (str (G.drop 1)), _, _, rfl, rfl, rfl, for_it W' (fun i σ H' => Same H3 H' ∧ H' d = some (.lst (dlV W G (i + 1))) ∧ H' f = some (.lst (frV W G (i + 1))) ∧ ∃ x5 x6 x7, σ = [some (.ref x), some m, some (.str (str G)), some (.ref d), some (.ref f), x5, x6, x7])
      ⟨s4.trans s5, ?_, ?_, _, _, _, rfl⟩ (fun i σ H' _ h => ⟨rfl, rfl⟩) (fun i y σ H6 H7 hi h y => ?_) fun σ H6 h => ?_⟩
    · rw [s5 _ _ e4]
      simp [dlV, delAt_zero]
    · rw [e5]
      simp [frV, froAt_zero]
    · obtain ⟨s6, ed, ef, x5, x6, x7, rfl⟩ := h
      obtain ⟨Tq, y1, y2, rfl, nT, s7, e7, g1, g2⟩ := y
      obtain ⟨a, ga, rfl⟩ := chars_at g1
      obtain ⟨b, gb, rfl⟩ := chars_at g2
      rw [List.getElem?_drop, Nat.add_comm] at gb
      have ma := ok.m a (List.mem_of_getElem? ga)
      have mb := ok.m b (List.mem_of_getElem? gb)
      have rok := wok.rows _ (kOf_mem ma).1
      have rlen : 0 < (kOf W a).rows.length := by have := rok.len; omega
      have s67 := s6.trans s7
      have sbx : Sb x H H7 := b3.s.trans (Sb.of s67)
      have hm7 := hm.sbn hx sbx
      refine ⟨Tq, _, rfl, .inl (.inl e7), rfl, _, _, rfl, _, _, rfl, rfl, ?_⟩
      obtain ⟨ma1, mdx, ll, mfs, kl, em, hma, l5, hll, vl⟩ := hm7.lag ma
      have ed7 := s7 _ _ ed
      have ef7 := s7 _ _ ef
      refine ⟨_, rfl, .inl ⟨rfl, _, .inl (.inl ed7)⟩, _, rfl, 1, rfl, d, _, -1, _, rfl, rfl, .inl (.inl ed7), by rw [dlV_succ]; exact atI_last _ _, ?_⟩
      refine ⟨_, rfl, ma1, _, mdx, mfs, _, em, hma, T.c_Make, T.n_Make_lags, l5, _, rfl, ll, _, rfl, .inl ⟨kl, .inr (one a), .inl hll, rfl, vl.symm⟩, (delAt W G i : Nat), (lgA W a : Nat), rfl, rfl, ?_⟩
      refine ⟨d, _, _, rfl, rfl, ed7, by rw [dlV_len]; omega, fun H8 b8 e8 => ?_⟩
      have s8 : Same H3 H8 := s67.sb nd b8
      have hm8 := hm.sbn hx (b3.s.trans (Sb.of s8))
      obtain ⟨ma2, mdx2, dd, mfs2, kd, dv, em2, hma2, l6, hdd, vd, isd⟩ := hm8.drill ma
      obtain ⟨da, ddx, bb, dfs, bxs, edv, hda, l7, hbb, vb⟩ := isd.bodies rlen
      refine ⟨_, rfl, ma2, _, mdx2, mfs2, _, em2, hma2, T.c_Make, T.n_Make_drills, l6, _, rfl, dd, _, rfl, .inl ⟨kd, .inr (one a), .inl hdd, rfl, vd.symm⟩, da, _, ddx, dfs, _, edv, hda, T.c_Drill, T.n_Drill_bodies, l7, bb, _, 0, _, rfl, rfl, hbb, atI_nat (j := 0) vb, ?_⟩
      have ef8 : H8 f = some (.lst (frV W G (i + 1))) := b8 _ _ ndf.symm ef7
      obtain ⟨ma3, mdx3, mfs3, em3, hma3, m3⟩ := hm8.seat
      refine ⟨_, rfl, .inl ⟨rfl, _, .inl (.inl ef8)⟩, _, rfl, 1, rfl, f, _, -1, _, rfl, rfl, .inl (.inl ef8), by rw [frV_succ]; exact atI_last _ _, _, rfl, (froAt W G i), bdA W a 0, rfl, rfl, ?_⟩
      refine ⟨_, rfl, ma3, mdx3, mfs3, em3, hma3, m3, _, rfl, _, rfl, m, W, row, a, b, rfl, hm8, wok, ma, mb, fun H9 s9 => ⟨(froAt W G i - bdA W a 0), (W.space : Nat), rfl, rfl, ?_⟩⟩
      have ef9 := s9 _ _ ef8
      have ed9 := s9 _ _ e8
      refine ⟨f, _, _, rfl, rfl, ef9, by rw [frV_len]; omega, fun H10 b10 e10 => ?_⟩
      refine ⟨(s8.trans s9).sb nf3 b10, ?_, ?_, _, _, _, rfl⟩
      · rw [b10 _ _ ndf ed9, dlV_succ W G (i + 1), delAt_succ ga, Int.natCast_add]
      · rw [e10, frV_succ W G (i + 1), froAt_succ ga]
    · obtain ⟨s6, ed, ef, x5, x6, x7, rfl⟩ := h
      rw [show G.length - 1 + 1 = G.length by omega] at ed ef
      have b6 := b3.grow s6
      refine ⟨_, rfl, d, _, rfl, .inl (.inl (.inl ed)), fun u7 H7 s7 h7 => ?_⟩
      have b7 := b6.grow s7
      refine ⟨_, rfl, x, _, dx, _, rfl, b7.o, T.c_Column, T.n_Column_delay_list, by omega, b7.step (K := K) "delay_list" _ n3 fun H8 f8 b8 e8 n8 sb8 k8 => ?_⟩
      have nfx : f ≠ x := fun z => by
        have := b3.o
        rw [← z, nf3] at this
        cases this
      have ef8 : H8 f = some (.lst (frV W G G.length)) := sb8 _ _ nfx (s7 _ _ ef)
      refine ⟨_, rfl, f, _, rfl, .inl (.inl (.inl ef8)), fun u9 H9 s9 h9 => ?_⟩
      have b9 := b8.grow s9
      refine ⟨_, rfl, x, _, dx, _, rfl, b9.o, T.c_Column, T.n_Column_front_list, by omega, b9.step (K := K) "front_list" _ n8 fun H10 f10 b10 e10 n10 sb10 k10 => ?_⟩
      have ef10 : H10 f = some (.lst (frV W G G.length)) := sb10 _ _ nfx (s9 _ _ ef8)
      obtain ⟨G', g, hG⟩ : ∃ G' g, G = G' ++ [g] := by
        rcases List.eq_nil_or_concat G with e | ⟨a, b, h⟩
        · rw [e] at gl
          simp at gl
        · exact ⟨a, b, by rw [h, List.concat_eq_append]⟩
      have mg' := ok.m g (by rw [hG]; simp)
      have rok := wok.rows _ (kOf_mem mg').1
      have rlen : 0 < (kOf W g).rows.length := by have := rok.len; omega
      have hm10 := hm.sbn hx b10.s
      obtain ⟨ma2, mdx2, dd, mfs2, kd, dv, em2, hma2, l6, hdd, vd, isd⟩ := hm10.drill mg'
      obtain ⟨da, ddx, bb, dfs, bxs, edv, hda, l7, hbb, vb⟩ := isd.bodies rlen
      have lastc : atI (str G).cps.toList (-1) = some g := by
        rw [str_tl, hG]
        exact atI_last _ _
      refine ⟨_, rfl, ma2, _, mdx2, mfs2, _, em2, hma2, T.c_Make, T.n_Make_drills, l6, _, rfl, 1, rfl, str G, -1, g, rfl, rfl, by rw [str_len]; exact sz2 (by omega), lastc, dd, _, rfl, .inl ⟨kd, .inr (one g), .inl hdd, rfl, vd.symm⟩, da, _, ddx, dfs, _, edv, hda, T.c_Drill, T.n_Drill_bodies, l7, bb, _, 0, _, rfl, rfl, hbb, atI_nat (j := 0) vb, ?_⟩
      have lastf : atI (frV W G G.length) (-1) = some (.int (froAt W G (G.length - 1))) := by
        rw [show G.length = (G.length - 1) + 1 by omega, frV_succ]
        exact atI_last _ _
      refine ⟨_, rfl, 1, rfl, f, _, -1, _, rfl, rfl, .inl (.inl ef10), lastf, _, _, rfl, rfl, ?_⟩
      refine ⟨_, rfl, x, _, dx, _, rfl, b10.o, T.c_Column, T.n_Column_whole_length, by omega, b10.step (K := K) "whole_length" _ n10 fun H11 f11 b11 e11 n11 sb11 k11 => ?_⟩
      refine q H11 b11.s ⟨x, dx, u7, u9, f11, m, rfl, b11.o, ?_, hm.sbn hx b11.s, ?_, ?_, k11 _ _ (k10 _ _ (s9.tup (k8 _ _ h7))), ?_, k11 _ _ (k10 _ _ h9)⟩
      · rw [e11, e10, e8, e3, e2]
        exact look_ne (by decide) (look_ne (by decide) (look_ne (by decide) (look_ne (by decide) (look_same _ _ _))))
      · rw [e11, e10, e8, e3]
        exact look_ne (by decide) (look_ne (by decide) (look_ne (by decide) (look_same _ _ _)))
      · rw [e11, e10, e8]
        exact look_ne (by decide) (look_ne (by decide) (look_same _ _ _))
      · rw [e11, e10]
        exact look_ne (by decide) (look_same _ _ _)

end
end TH
end
section
set_option Elab.async false
set_option linter.all false
set_option maxRecDepth 100000
set_option maxHeartbeats 4000000
namespace TH
open PySem PySem.Spec PyProof.Rows L2
section
variable {P : Program} {w : World} {K : PySem.W.Frag} {mg : Str → Option Value} {base : Heap}
/-! runs.py: traced, gaps -/
theorem p_check_calling_d (T : Tx K mg) : Pr P w K mg base CX0 1 ["signs", "calling", "most"] [.int 400] (He.ga K "check_calling")
    (fun vs H Q _ => ∃ (g l : List Nat), vs = [.str (str g), .str (str l), .int 400] ∧ l.length ≤ 400 ∧ (∀ c ∈ l, c ∈ g) ∧ ∀ H', Same H H' → Q .non H') := p_check_calling T
def stV (sg : List Nat) (rs : List Row) (T : List Nat) (n : Nat) : List V := (List.range n).map fun k => V.int (stand sg rs (pad T k) : Nat)
def wkV (sg : List Nat) (rs : List Row) (T : List Nat) (n : Nat) : List V := (List.range n).map fun k => V.int (walkT sg rs (pad T k))
theorem stV_succ (sg : List Nat) (rs : List Row) (T : List Nat) (n : Nat) : stV sg rs T (n + 1) = stV sg rs T n ++ [.int (stand sg rs (pad T n) : Nat)] := by simp [stV, List.range_succ]
theorem wkV_succ (sg : List Nat) (rs : List Row) (T : List Nat) (n : Nat) : wkV sg rs T (n + 1) = wkV sg rs T n ++ [.int (walkT sg rs (pad T n))] := by simp [wkV, List.range_succ]
theorem stV_len (sg : List Nat) (rs : List Row) (T : List Nat) (n : Nat) : (stV sg rs T n).length = n := by simp [stV]
theorem wkV_len (sg : List Nat) (rs : List Row) (T : List Nat) (n : Nat) : (wkV sg rs T n).length = n := by simp [wkV]
theorem stV_at {sg : List Nat} {rs : List Row} {T : List Nat} {n k : Nat} (h : k < n) : (stV sg rs T n)[k]? = some (.int (stand sg rs (pad T k) : Nat)) := by simp [stV, h]
theorem wkV_at {sg : List Nat} {rs : List Row} {T : List Nat} {n k : Nat} (h : k < n) : (wkV sg rs T n)[k]? = some (.int (walkT sg rs (pad T k))) := by simp [wkV, h]
theorem p_traced (T : Tx K mg) : Pr P w K mg base CX0 1 ["drill", "calling", "beats"] [] (He.ga K "traced")
    (fun vs H Q _ => ∃ (dv : V) (ws X : List Nat) (rs : List Row) (n : Nat), vs = [dv, .str (str X), .int (n : Nat)] ∧ IsDrill K H dv ws rs ∧ RowsOk ws.length rs ∧ (∀ c ∈ X, c ∈ 46 :: ws) ∧ X.length ≤ 1000 ∧ n ≤ 1500 ∧
      ∀ H' z s1 w1, Same H H' → H' z = some (.tup [.ref s1, .ref w1]) → H' s1 = some (.lst (stV (46 :: ws) rs X (n + 1))) → H' w1 = some (.lst (wkV (46 :: ws) rs X (n + 1))) → Q (.ref z) H') := by
  refine T.d_traced.pr scs_traced (fun vs H Q E h => ?_) (fun cdv A outer s H vs Q E hr h => ?_)
  · obtain ⟨dv, ws, X, rs, n, rfl, _⟩ := h
    rfl
  · obtain ⟨dv, ws, X, rs, n, rfl, hd, ok, hX, lX, ln, q⟩ := h
    have hu := hu_of hr
    refine ⟨_, (pss_cons (ps_set (i := 3) scs_traced.nd rfl (.inl rfl) (pe_lst (pa_cons pe_int pa_nil)))
    (pss_cons (ps_set (i := 4) scs_traced.nd rfl (.inl rfl) (pe_lst (pa_cons pe_int pa_nil)))
    (pss_cons (ps_for PassesOwn.never rfl (pi_range1 (by rfl) T.z_range (pa_cons (pv 2) pa_nil)) (pg_name (i := 5) scs_traced.nd rfl (.inl rfl) (.inl rfl))
      (pss_cons (ps_set (i := 6) scs_traced.nd rfl (.inl rfl) pe_str)
      (pss_cons (ps_if (pt_cmpR op_lt (pv 5) (pe_callB call_len_str (by rfl) T.z_len PySem.boot_len (pa_cons (pv 1) pa_nil)) (nomark _))
        (pss_one (ps_set (i := 6) scs_traced.nd rfl (.inl rfl) (pe_ix ix_str (pv 1) (pv 5) (fun _ _ => rfl))))
        pss_nil)
      (pss_cons (ps_set (i := 7) scs_traced.nd rfl (.inl rfl) (pe_dget hu (pe_ix ix_tup (pe_fld (pv 0) rfl) (pe_ix ix_list (pv 3) (pe_un un_neg pe_int) (fun _ _ => rfl)) (fun _ _ => rfl)) (pv 6) (fun _ _ => rfl)))
      (pss_cons (ps_expr (pe_bm PySem.F.plainAttrs_list PySem.F.slot_list_append PySem.F.type_list_append mt_appU (pv 3) (pa_cons (pv 7) pa_nil)))
      (pss_one (ps_expr (pe_bm PySem.F.plainAttrs_list PySem.F.slot_list_append PySem.F.type_list_append mt_appU (pv 4) (pa_cons (pe_op op_add (pe_ix ix_list (pv 4) (pe_un un_neg pe_int) (fun _ _ => rfl)) (pe_ix ix_tup (pe_fld (pv 0) rfl) (pv 7) (fun _ _ => rfl))) pa_nil)))))))))
    (pss_one (ps_ret (pe_tup (pa_cons (pv 3) (pa_cons (pv 4) pa_nil)))))))), ?_⟩
    refine ⟨by show 1 ≤ sizeLine; decide, fun a na => ?_⟩
    have s1 := same_upd (o := .lst [.int 0]) na
    have e1 : (upd H a (.lst [.int 0])) a = some (.lst [.int 0]) := upd_same
    generalize upd H a (.lst [.int 0]) = H1 at s1 e1 ⊢
    refine ⟨by show 1 ≤ sizeLine; decide, fun b nb => ?_⟩
    have s2 := same_upd (o := .lst [.int 0]) nb
    have e2 : (upd H1 b (.lst [.int 0])) b = some (.lst [.int 0]) := upd_same
    generalize upd H1 b (.lst [.int 0]) = H2 at s2 e2 ⊢
    have nab : a ≠ b := fun z => by rw [← z, e1] at nb; cases nb
    have nbH : H b = none := s1.back nb
    have rlen : 0 < rs.length := by have := ok.len; omega
    refine ⟨_, rfl, (n : Nat), rfl, by omega, by omega, for_it (walk_rn (n := n)) (fun i σ H' => Same H H' ∧ H' a = some (.lst (stV (46 :: ws) rs X (i + 1))) ∧ H' b = some (.lst (wkV (46 :: ws) rs X (i + 1))) ∧ ∃ x5 x6 x7, σ = [some dv, some (.str (str X)), some (.int (n : Nat)), some (.ref a), some (.ref b), x5, x6, x7])
      ⟨s1.trans s2, ?_, ?_, _, _, _, rfl⟩ (fun i σ H' _ h => trivial) (fun i y σ H3 H4 hi h y => ?_) fun σ H3 h => ?_⟩
    · rw [s2 _ _ e1]
      simp [stV, pad_zero, stand]
    · rw [e2]
      simp [wkV, pad_zero, walkT, walkF]
    · obtain ⟨s3, ea, eb, x5, x6, x7, rfl⟩ := h
      obtain ⟨rfl, rfl⟩ := y
      have st_lt : stand (46 :: ws) rs (pad X i) < rs.length := stand_lt ok (by simp) _ _ rlen (pad_mem hX (by simp) i)
      obtain ⟨c, hc⟩ : ∃ c, (X[i]?).getD 46 = c := ⟨_, rfl⟩
      have mc : c ∈ 46 :: ws := by
        rw [← hc]
        by_cases h : i < X.length
        · rw [List.getElem?_eq_getElem h]
          exact hX _ (List.getElem_mem h)
        · rw [List.getElem?_eq_none (by omega)]
          simp
      refine ⟨_, rfl, _, rfl, str X, rfl, by rw [str_len]; exact sz2 (by omega), (i : Nat), ((str X).length : Nat), rfl, rfl, _, rfl, ?_⟩
      rw [str_len]
      refine iteD (fun h => ?_) (fun h => ?_)
      · have hi' : i < X.length := by omega
        have ec : X[i]? = some c := by
          rw [List.getElem?_eq_getElem hi'] at hc ⊢
          exact congrArg some hc
        refine ⟨_, rfl, _, rfl, str X, (i : Nat), c, rfl, rfl, by rw [str_len]; exact sz2 (by omega), atI_nat (by rw [str_tl]; exact ec), ?_⟩
        obtain ⟨da, ddx, lb, ld, dfs, lxs, lkvs, edv, hda, l4, hlb, vlb, hld, vld⟩ := (hd.same s3).leads ok st_lt mc
        refine ⟨_, rfl, da, _, ddx, dfs, _, edv, hda, T.c_Drill, T.n_Drill_leads, l4, _, rfl, 1, rfl, a, _, -1, _, rfl, rfl, .inl (.inl ea), by rw [stV_succ]; exact atI_last _ _, lb, lxs, (stand (46 :: ws) rs (pad X i) : Nat), _, rfl, rfl, hlb, atI_nat vlb, _, rfl, ld, _, rfl, .inl ⟨lkvs, .inr (one c), .inl hld, rfl, vld.symm⟩, ?_⟩
        refine ⟨_, rfl, .inl ⟨rfl, _, .inl (.inl ea)⟩, _, rfl, a, _, _, rfl, rfl, ea, by rw [stV_len]; omega, fun H5 b5 e5 => ?_⟩
        have s5 : Same H H5 := s3.sb na b5
        have gl := (go_at ok (by simp) st_lt mc).2
        obtain ⟨da2, ddx2, sb, dfs2, sxs, edv2, hda2, l5, hsb, vsb⟩ := (hd.same s5).strides gl
        have eb5 : H5 b = some (.lst (wkV (46 :: ws) rs X (i + 1))) := b5 _ _ nab.symm eb
        refine ⟨_, rfl, .inl ⟨rfl, _, .inl (.inl eb5)⟩, _, rfl, 1, rfl, b, _, -1, _, rfl, rfl, .inl (.inl eb5), by rw [wkV_succ]; exact atI_last _ _, _, rfl, da2, _, ddx2, dfs2, _, edv2, hda2, T.c_Drill, T.n_Drill_strides, l5, _, rfl, sb, sxs, (go (46 :: ws) rs (stand (46 :: ws) rs (pad X i)) c : Nat), _, rfl, rfl, hsb, atI_nat vsb, _, _, rfl, rfl, ?_⟩
        refine ⟨b, _, _, rfl, rfl, eb5, by rw [wkV_len]; omega, fun H6 b6 e6 => ?_⟩
        have ps : pad X (i + 1) = pad X i ++ [c] := by rw [pad_succ, hc]
        refine ⟨s5.sb nbH b6, ?_, ?_, _, _, _, rfl⟩
        · rw [b6 _ _ nab e5, stV_succ (46 :: ws) rs X (i + 1), ps, stand_snoc]
        · rw [e6, wkV_succ (46 :: ws) rs X (i + 1), ps, walk_snoc, stand_snoc]
      · have hi' : ¬ i < X.length := by omega
        have ec : c = 46 := by
          rw [← hc, List.getElem?_eq_none (by omega)]
          rfl
        have e46 : ("." : Str) = one c := by rw [ec]; rfl
        rw [e46]
        obtain ⟨da, ddx, lb, ld, dfs, lxs, lkvs, edv, hda, l4, hlb, vlb, hld, vld⟩ := (hd.same s3).leads ok st_lt mc
        refine ⟨_, rfl, da, _, ddx, dfs, _, edv, hda, T.c_Drill, T.n_Drill_leads, l4, _, rfl, 1, rfl, a, _, -1, _, rfl, rfl, .inl (.inl ea), by rw [stV_succ]; exact atI_last _ _, lb, lxs, (stand (46 :: ws) rs (pad X i) : Nat), _, rfl, rfl, hlb, atI_nat vlb, _, rfl, ld, _, rfl, .inl ⟨lkvs, .inr (one c), .inl hld, rfl, vld.symm⟩, ?_⟩
        refine ⟨_, rfl, .inl ⟨rfl, _, .inl (.inl ea)⟩, _, rfl, a, _, _, rfl, rfl, ea, by rw [stV_len]; omega, fun H5 b5 e5 => ?_⟩
        have s5 : Same H H5 := s3.sb na b5
        have gl := (go_at ok (by simp) st_lt mc).2
        obtain ⟨da2, ddx2, sb, dfs2, sxs, edv2, hda2, l5, hsb, vsb⟩ := (hd.same s5).strides gl
        have eb5 : H5 b = some (.lst (wkV (46 :: ws) rs X (i + 1))) := b5 _ _ nab.symm eb
        refine ⟨_, rfl, .inl ⟨rfl, _, .inl (.inl eb5)⟩, _, rfl, 1, rfl, b, _, -1, _, rfl, rfl, .inl (.inl eb5), by rw [wkV_succ]; exact atI_last _ _, _, rfl, da2, _, ddx2, dfs2, _, edv2, hda2, T.c_Drill, T.n_Drill_strides, l5, _, rfl, sb, sxs, (go (46 :: ws) rs (stand (46 :: ws) rs (pad X i)) c : Nat), _, rfl, rfl, hsb, atI_nat vsb, _, _, rfl, rfl, ?_⟩
        refine ⟨b, _, _, rfl, rfl, eb5, by rw [wkV_len]; omega, fun H6 b6 e6 => ?_⟩
        have ps : pad X (i + 1) = pad X i ++ [c] := by rw [pad_succ, hc]
        refine ⟨s5.sb nbH b6, ?_, ?_, _, _, _, rfl⟩
        · rw [b6 _ _ nab e5, stV_succ (46 :: ws) rs X (i + 1), ps, stand_snoc]
        · rw [e6, wkV_succ (46 :: ws) rs X (i + 1), ps, walk_snoc, stand_snoc]
    · obtain ⟨s3, ea, eb, x5, x6, x7, rfl⟩ := h
      refine ⟨_, rfl, _, rfl, by show 2 ≤ sizeLine; decide, fun z nz => ?_⟩
      have sz := same_upd (o := .tup [.ref a, .ref b]) nz
      exact q _ z a b (s3.trans sz) upd_same (sz _ _ ea) (sz _ _ eb)

end
end TH
end
section
set_option Elab.async false
set_option linter.all false
set_option maxRecDepth 100000
set_option maxHeartbeats 4000000
namespace TH
open PySem PySem.Spec PyProof.Rows L2
section
variable {P : Program} {w : World} {K : PySem.W.Frag} {mg : Str → Option Value} {base : Heap}
/-! gaps_between, breach_of_rows -/
def stGV (W : Wld) (G T : List Nat) (beat n : Nat) : List V := (List.range n).map fun i => V.int (stG W G T beat i : Nat)
def frGV (W : Wld) (G T : List Nat) (beat n : Nat) : List V := (List.range n).map fun i => V.int (frG W G T beat i)
def gpGV (W : Wld) (G T : List Nat) (beat n : Nat) : List V := (List.range n).map fun i => V.int (gpG W G T beat i)
def rrGV (W : Wld) (G T : List Nat) (beat n : Nat) : List V := (List.range n).map fun i => V.int (frG W G T beat i - bdA W ((G[i]?).getD 0) (stG W G T beat i))
theorem rng_len {α : Type} (f : Nat → α) (n : Nat) : ((List.range n).map f).length = n := by simp
theorem rng_at {α : Type} {f : Nat → α} {n i : Nat} (h : i < n) : ((List.range n).map f)[i]? = some (f i) := by simp [h]
theorem rng_inv {α : Type} {f : Nat → α} {n i : Nat} {x : α} (h : ((List.range n).map f)[i]? = some x) : i < n ∧ x = f i := by
  have hl := (List.getElem?_eq_some_iff.mp h).1
  rw [List.length_map, List.length_range] at hl
  rw [rng_at hl] at h
  exact ⟨hl, (Option.some.inj h).symm⟩
theorem rng_succ {α : Type} (f : Nat → α) (n : Nat) : (List.range (n + 1)).map f = (List.range n).map f ++ [f n] := by simp [List.range_succ]
theorem stG_lt {W : Wld} {G T : List Nat} {beat i : Nat} (wok : WOk W) (gok : GOk W G) (hT : ∀ c ∈ T, c ∈ W.signs) (hi : i < G.length) : stG W G T beat i < (kOf W ((G[i]?).getD 0)).rows.length := by
  have e : G[i]? = some G[i] := List.getElem?_eq_getElem hi
  have m := gok.m _ (List.getElem_mem hi)
  have rok := wok.rows _ (kOf_mem m).1
  unfold stG stA
  rw [e]
  exact stand_lt rok (by simp [Wld.signs]) _ _ (by have := rok.len; show 0 < (kOf W G[i]).rows.length; omega) (pad_mem hT (by simp [Wld.signs]) _)
theorem IsCol.make {H : Hp} {v : V} {W : Wld} {row G : List Nat} (h : IsCol K H v W row G) : ∃ (a dx : Addr) (fs : List (Str × V)) (mv : V), v = .ref a ∧ H a = some (.ins (He.ga K "Column") dx fs) ∧ fs.lookup ("make" : Str) = some mv ∧ IsMake K H mv W row ∧ fs.lookup ("groups" : Str) = some (.str (str G)) := by
  obtain ⟨a, dx, dl, fr, fs, mv, e, ha, l1, m, l2, r⟩ := h.ex
  exact ⟨a, dx, fs, mv, e, ha, l1, m, l2⟩
theorem p_gaps_between (T : Tx K mg) : Pr P w K mg base CX0 1 ["column", "standings", "fronts"] [] (He.ga K "gaps_between")
    (fun vs H Q _ => ∃ (cv : V) (W : Wld) (row G X : List Nat) (beat : Nat) (sa fa : Addr), vs = [cv, .ref sa, .ref fa] ∧ IsCol K H cv W row G ∧ WOk W ∧ GOk W G ∧ (∀ c ∈ X, c ∈ W.signs) ∧ SqT K H sa (stGV W G X beat G.length) ∧ SqT K H fa (frGV W G X beat G.length) ∧
      ∀ H' u, Same H H' → SqT K H' u (gpGV W G X beat (G.length - 1)) → Q (.ref u) H') := by
  refine T.d_gaps_between.pr scs_gaps_between (fun vs H Q E h => ?_) (fun cdv A outer s H vs Q E hr h => ?_)
  · obtain ⟨cv, W, row, G, X, beat, sa, fa, rfl, _⟩ := h
    rfl
  · obtain ⟨cv, W, row, G, X, beat, sa, fa, rfl, hc, wok, gok, hX, hsa, hfa, q⟩ := h
    have hu := hu_of hr
    have gl := gok.l
    refine ⟨_, (pss_cons (ps_set (i := 3) scs_gaps_between.nd rfl (.inl rfl) (pe_lst pa_nil))
    (pss_cons (ps_for PassesOwn.never rfl (pi_z3 (by rfl) T.z_zip (pa_cons (pe_fld (pv 0) rfl) (pa_cons (pv 1) (pa_cons (pv 2) pa_nil)))) (pg_tup rfl (pgs_cons (pg_name (i := 4) scs_gaps_between.nd rfl (.inl rfl) (.inl rfl)) (pgs_cons (pg_name (i := 5) scs_gaps_between.nd rfl (.inl rfl) (.inl rfl)) (pgs_cons (pg_name (i := 6) scs_gaps_between.nd rfl (.inl rfl) (.inl rfl)) pgs_nil))))
      (pss_one (ps_expr (pe_bm PySem.F.plainAttrs_list PySem.F.slot_list_append PySem.F.type_list_append mt_appU (pv 3) (pa_cons (pe_op op_sub (pv 6) (pe_ix ix_tup (pe_fld (pe_dget hu (pe_fld (pe_fld (pv 0) rfl) rfl) (pv 4) (fun _ _ => rfl)) rfl) (pv 5) (fun _ _ => rfl))) pa_nil)))))
    (pss_one (ps_ret (pe_callTy call_tupU (by rfl) T.z_tuple (by decide +kernel) (pa_cons (pe_lc (own := [("rear", 7), ("front", 6)]) rfl scs_gaps_between.nd (pi_z2 (by rfl) T.z_zip (pa_cons (pv 3) (pa_cons (pe_slice sl_tupU (pv 2) (po_some pe_int) po_none) pa_nil))) (blkOk_by (N := ["column", "standings", "fronts", "rears", "name", "standing", "front", "rear"]) (sc := defScope s_gaps_between) (by decide +kernel)) (fun _ _ _ _ _ => (pg_tupK (K := K) rfl (n := 2) rfl (pgs_cons (pg_name (i := 7) scs_gaps_between.nd rfl (.inl rfl) (.inr rfl)) (pgs_cons (pg_name (i := 6) scs_gaps_between.nd rfl (.inl rfl) (.inr rfl)) pgs_nil)) rfl rfl)) (fun _ _ _ _ _ => pts_nil) (fun _ _ _ _ _ => (pe_op op_sub (pv 7) (pv 6)))) pa_nil)))))), ?_⟩
    refine ⟨by show 0 ≤ sizeLine; decide, fun r nr => ?_⟩
    have s1 := same_upd (o := .lst []) nr
    have e1 : (upd H r (.lst [])) r = some (.lst []) := upd_same
    generalize upd H r (.lst []) = H1 at s1 e1 ⊢
    obtain ⟨ca, cdx, cfs, mv, ecv, hca, l1, hm, l2⟩ := (hc.same s1).make
    have W3 := walk_z3 (K := K) (s1 := .txt (str G)) (s2 := .tup sa) (s3 := .tup fa) (xs := signsV (str G)) (ys := stGV W G X beat G.length) (zs := frGV W G X beat G.length) (n := G.length) (by simp [signs_str, stGV, frGV])
    refine ⟨_, rfl, ca, _, cdx, cfs, _, ecv, hca, T.c_Column, T.n_Column_groups, l2, _, rfl, _, rfl, .txt (str G), .tup sa, .tup fa, _, _, _, rfl, rfl, s1.tup hsa, s1.tup hfa, for_it W3 (fun i σ H' => Same H H' ∧ H' r = some (.lst (rrGV W G X beat i)) ∧ ∃ x4 x5 x6 x7, σ = [some cv, some (.ref sa), some (.ref fa), some (.ref r), x4, x5, x6, x7])
      ⟨s1, e1, _, _, _, _, rfl⟩ (fun i σ H' _ h => ⟨rfl, h.1.tup hsa, h.1.tup hfa⟩) (fun i y σ H2 H3 hi h y => ?_) fun σ H2 h => ?_⟩
    · obtain ⟨s2, er, x4, x5, x6, x7, rfl⟩ := h
      obtain ⟨Tq, y1, y2, y3, rfl, nT, s3, e3, g1, g2, g3⟩ := y
      obtain ⟨a, ga, rfl⟩ := chars_at g1
      obtain ⟨_, rfl⟩ := rng_inv g2
      obtain ⟨_, rfl⟩ := rng_inv g3
      have s23 := s2.trans s3
      have ma := gok.m a (List.mem_of_getElem? ga)
      have sl := stG_lt (beat := beat) wok gok hX hi
      rw [ga] at sl
      obtain ⟨ca, cdx, cfs, mv, ecv, hca, l1, hm, l2⟩ := (hc.same s23).make
      obtain ⟨ma2, mdx2, dd, mfs2, kd, dv, em2, hma2, l6, hdd, vd, isd⟩ := hm.drill ma
      obtain ⟨da, ddx, bb, dfs, bxs, edv, hda, l7, hbb, vb⟩ := isd.bodies sl
      refine ⟨Tq, _, rfl, .inl (.inl e3), rfl, _, _, rfl, _, _, rfl, _, _, rfl, rfl, ?_⟩
      have er3 := s3 _ _ er
      refine ⟨_, rfl, .inl ⟨rfl, _, .inl (.inl er3)⟩, _, rfl, _, rfl, ca, _, cdx, cfs, _, ecv, hca, T.c_Column, T.n_Column_make, l1, ma2, _, mdx2, mfs2, _, em2, hma2, T.c_Make, T.n_Make_drills, l6, _, rfl, dd, _, rfl, .inl ⟨kd, .inr (one a), .inl hdd, rfl, vd.symm⟩, da, _, ddx, dfs, _, edv, hda, T.c_Drill, T.n_Drill_bodies, l7, _, rfl, bb, bxs, (stG W G X beat i : Nat), _, rfl, rfl, hbb, atI_nat vb, _, _, rfl, rfl, ?_⟩
      refine ⟨r, _, _, rfl, rfl, er3, by simp [rrGV]; omega, fun H4 b4 e4 => ⟨s23.sb nr b4, ?_, _, _, _, _, rfl⟩⟩
      rw [e4]
      unfold rrGV
      rw [rng_succ, ga]
      rfl
    · obtain ⟨s2, er, x4, x5, x6, x7, rfl⟩ := h
      refine ⟨_, rfl, _, rfl, 1, rfl, fa, _, rfl, s2.tup hfa, ?_⟩
      rw [cutV1]
      intro p H3 s3 e3
      have s23 := s2.trans s3
      have W2 := walk_z2 (K := K) (s1 := .lst r) (s2 := .tup p) (xs := rrGV W G X beat G.length) (ys := (frGV W G X beat G.length).drop 1) (n := G.length - 1) (by simp [rrGV, frGV])
      refine ⟨.lst r, .tup p, _, _, rfl, .inl (.inl (s3 _ _ er)), e3, fun D hD => lc_map W2 hD (by omega) (fun H' s' => ⟨.inl (.inl (s' _ _ (s3 _ _ er))), s'.tup e3⟩) (fun i acc _ => acc = gpGV W G X beat i) (fun _ _ _ _ _ h => h) rfl (fun i y H4 H5 acc k ks hi1 s4 a1 l1 y hk _ => ?_) fun H4 acc s4 eD lD aD => ?_⟩
      · obtain ⟨Tq, y1, y2, rfl, nT, s5, e5, g1, g2⟩ := y
        obtain ⟨_, rfl⟩ := rng_inv g1
        rw [List.getElem?_drop, Nat.add_comm] at g2
        obtain ⟨_, rfl⟩ := rng_inv g2
        refine ⟨Tq, _, rfl, .inl (.inl e5), rfl, _, _, rfl, _, _, rfl, rfl, rfl, yes_if ⟨_, rfl, _, rfl, _, _, rfl, rfl, hk _ _ s5 ?_⟩⟩
        rw [a1]
        unfold gpGV
        rw [rng_succ]
        rfl
      · subst aD
        exact ⟨D, _, rfl, .inl (.inl (.inl eD)), fun u H6 s6 h6 => q H6 u ((s23.trans s4).trans s6) h6⟩
/-- a tuple of tuples, by number -/
def RowsAt (K : PySem.W.Frag) (H : Hp) (ra : Addr) (f : Nat → List V) (n : Nat) : Prop := ∃ xs, SqT K H ra xs ∧ xs.length = n ∧ ∀ b, b < n → ∃ x, xs[b]? = some (.ref x) ∧ SqT K H x (f b)
theorem RowsAt.kp {H H' : Hp} {ra : Addr} {f : Nat → List V} {n : Nat} (h : RowsAt K H ra f n) (s : Kt K H H') : RowsAt K H' ra f n := by
  obtain ⟨xs, h1, h2, h3⟩ := h
  refine ⟨xs, s _ _ h1, h2, fun b hb => ?_⟩
  obtain ⟨x, e, h⟩ := h3 b hb
  exact ⟨x, e, s _ _ h⟩
theorem p_breach_of_rows (T : Tx K mg) : Pr P w K mg base CX0 2 ["column", "wish", "rows", "front_rows"] [] (He.ga K "breach_of_rows")
    (fun vs H Q _ => ∃ (cv wv : V) (W : Wld) (row G X : List Nat) (n : Nat) (ra fa : Addr) (lo hi : Int), vs = [cv, wv, .ref ra, .ref fa] ∧ IsCol K H cv W row G ∧ WOk W ∧ GOk W G ∧ (∀ c ∈ X, c ∈ W.signs) ∧ Tp K H wv (.tup [.num lo, .num hi]) ∧ RowsAt K H ra (fun b => stGV W G X b G.length) n ∧ RowsAt K H fa (fun b => frGV W G X b G.length) n ∧
      (∀ b i, b < n → i < G.length - 1 → lo ≤ gpG W G X b i ∧ gpG W G X b i ≤ hi) ∧ ∀ H', Same H H' → Q .non H') := by
  refine T.d_breach_of_rows.pr scs_breach_of_rows (fun vs H Q E h => ?_) (fun cdv A outer s H vs Q E hr h => ?_)
  · obtain ⟨cv, wv, W, row, G, X, n, ra, fa, lo, hi, rfl, _⟩ := h
    rfl
  · obtain ⟨cv, wv, W, row, G, X, n, ra, fa, lo, hi, rfl, hc, wok, gok, hX, hw, hra, hfa, hg, q⟩ := h
    refine ⟨_, (pss_cons (ps_for PassesOwn.never rfl (pi_en (by rfl) T.z_enumerate (pa_cons (pv 2) pa_nil)) (pg_tup rfl (pgs_cons (pg_name (i := 4) scs_breach_of_rows.nd rfl (.inl rfl) (.inl rfl)) (pgs_cons (pg_name (i := 5) scs_breach_of_rows.nd rfl (.inl rfl) (.inl rfl)) pgs_nil)))
      (pss_one (ps_for PassesOwn.never rfl (pi_en (by rfl) T.z_enumerate (pa_cons (pcall (p_gaps_between T) (hr.mono (by decide)) (by rfl) T.g_gaps_between pass0 (pa_cons (pv 0) (pa_cons (pv 5) (pa_cons (pe_ix ix_tup (pv 3) (pv 4) (fun _ _ => rfl)) pa_nil)))) pa_nil)) (pg_tup rfl (pgs_cons (pg_name (i := 6) scs_breach_of_rows.nd rfl (.inl rfl) (.inl rfl)) (pgs_cons (pg_name (i := 7) scs_breach_of_rows.nd rfl (.inl rfl) (.inl rfl)) pgs_nil)))
        (pss_one (ps_if (pt_not (pt_chain op_le op_le (pe_ix ix_tup (pv 1) pe_int (fun _ _ => rfl)) (pv 7) (pe_ix ix_tup (pv 1) pe_int (fun _ _ => rfl))))
          (pss_one (ps_ret (pe_tup (pa_cons (pv 4) (pa_cons (pv 6) pa_nil)))))
          pss_nil)))))
    (pss_one (ps_ret pe_non))), ?_⟩
    obtain ⟨wa, wxs, rfl, hwa, _, hw2⟩ := hw.tup_inv
    have ew : wxs = [.int lo, .int hi] := hw2.ints_inv (ns := [lo, hi])
    subst ew
    obtain ⟨xs, h1, h2, h3⟩ := hra
    obtain ⟨ys, k1, k2, k3⟩ := hfa
    refine ⟨_, rfl, .tup ra, xs, rfl, h1, for_it (walk_en (K := K) (s1 := .tup ra) (xs := xs)) (fun i σ H' => Same H H' ∧ ∃ x4 x5 x6 x7, σ = [some cv, some (.ref wa), some (.ref ra), some (.ref fa), x4, x5, x6, x7])
      ⟨Same.refl _, _, _, _, _, rfl⟩ (fun i σ H' _ h => h.1.tup h1) (fun i y σ H2 H3 hi' h y => ?_) fun σ H2 h => q _ h.1⟩
    obtain ⟨s2, x4, x5, x6, x7, rfl⟩ := h
    obtain ⟨Tq, y1, rfl, nT, s3, e3, g1⟩ := y
    have hin : i < n := by omega
    obtain ⟨x, ex, hx⟩ := h3 i hin
    rw [ex] at g1
    cases g1
    obtain ⟨y, ey, hy⟩ := k3 i hin
    have s23 := s2.trans s3
    refine ⟨Tq, _, rfl, .inl (.inl e3), rfl, _, _, rfl, _, _, rfl, rfl, ?_⟩
    refine ⟨_, rfl, _, rfl, _, rfl, _, rfl, fa, ys, (i : Nat), _, rfl, rfl, s23.tup k1, atI_nat ey, cv, W, row, G, X, i, x, y, rfl, hc.same s23, wok, gok, hX, s23.tup hx, s23.tup hy, fun H4 u s4 h4 => ?_⟩
    refine ⟨.tup u, _, rfl, h4, for_it (walk_en (K := K) (s1 := .tup u) (xs := gpGV W G X i (G.length - 1))) (fun j σ H' => Same H4 H' ∧ ∃ x4 x5 x6 x7, σ = [some cv, some (.ref wa), some (.ref ra), some (.ref fa), x4, x5, x6, x7])
      ⟨Same.refl _, _, _, _, _, rfl⟩ (fun j σ H' _ h => h.1.tup h4) (fun j y σ H5 H6 hj h y => ?_) fun σ H5 h => ?_⟩
    · obtain ⟨s5, x4, x5, x6, x7, rfl⟩ := h
      obtain ⟨Tq2, y1, rfl, nT2, s6, e6, g2⟩ := y
      obtain ⟨hj', rfl⟩ := rng_inv g2
      obtain ⟨b1, b2⟩ := hg i j hin hj'
      have hwa6 := ((s23.trans s4).trans (s5.trans s6)).tup hwa
      refine ⟨Tq2, _, rfl, .inl (.inl e6), rfl, _, _, rfl, _, _, rfl, rfl, ?_⟩
      refine ⟨_, rfl, wa, _, 0, _, rfl, rfl, hwa6, rfl, _, rfl, lo, gpG W G X i j, rfl, rfl, _, rfl, ?_⟩
      rw [decide_eq_true b1]
      refine iteT ⟨_, rfl, wa, _, 1, _, rfl, rfl, hwa6, rfl, gpG W G X i j, hi, rfl, rfl, _, rfl, ?_⟩
      rw [decide_eq_true b2]
      exact iteF ⟨s5.trans s6, _, _, _, _, rfl⟩
    · obtain ⟨s5, x4, x5, x6, x7, rfl⟩ := h
      exact ⟨(s23.trans s4).trans s5, _, _, _, _, rfl⟩

end
end TH
end
section
set_option Elab.async false
set_option linter.all false
set_option maxRecDepth 100000
set_option maxHeartbeats 4000000
namespace TH
open PySem PySem.Spec PyProof.Rows L2
section
variable {P : Program} {w : World} {K : PySem.W.Frag} {mg : Str → Option Value} {base : Heap}
/-! Run -/
theorem IsCol.sbn {H H' : Hp} {x C dx : Addr} {v : V} {W : Wld} {row G : List Nat} (h : IsCol K H v W row G) (hx : H x = some (.ins C dx [])) (s : Sb x H H') : IsCol K H' v W row G := by
  obtain ⟨a, dx', dl, fr, fs, mv, e, ha, l1, m, l2, l3, h3, l4, h4⟩ := h.ex
  have k := sb_ins (K := K) s hx
  exact ⟨a, dx', dl, fr, fs, mv, e, s _ _ (fun z => by rw [z, hx] at ha; cases ha; cases l1) ha, l1, m.sbn hx s, l2, l3, k _ _ h3, l4, k _ _ h4⟩
theorem IsMake.signs {H : Hp} {v : V} {W : Wld} {row : List Nat} (h : IsMake K H v W row) : ∃ (a dx : Addr) (fs : List (Str × V)), v = .ref a ∧ H a = some (.ins (He.ga K "Make") dx fs) ∧ fs.lookup ("signs" : Str) = some (.str (str W.signs)) ∧ fs.lookup ("name_row" : Str) = some (.str (str row)) := by
  obtain ⟨a, dx', t, dd, ll, fs, kd, kl, e, ha, m1, m2, l1, l2, l3, r⟩ := h.ex
  exact ⟨a, dx', fs, e, ha, l1, l3⟩
structure IsRun (K : PySem.W.Frag) (H : Hp) (v : V) (W : Wld) (row G X : List Nat) (n : Nat) : Prop where
  ex : ∃ (a dx ra fa : Addr) (fs : List (Str × V)) (cv : V), v = .ref a ∧ H a = some (.ins (He.ga K "Run") dx fs) ∧ fs.lookup ("check_beat" : Str) = none ∧ fs.lookup ("standings_at" : Str) = none ∧ fs.lookup ("first_breach" : Str) = none ∧
    fs.lookup ("column" : Str) = some cv ∧ IsCol K H cv W row G ∧ fs.lookup ("beats" : Str) = some (.int (n : Nat)) ∧ fs.lookup ("rows" : Str) = some (.ref ra) ∧ RowsAt K H ra (fun b => stGV W G X b G.length) (n + 1) ∧ fs.lookup ("front_rows" : Str) = some (.ref fa) ∧ RowsAt K H fa (fun b => frGV W G X b G.length) (n + 1)
theorem IsRun.same {H H' : Hp} {v : V} {W : Wld} {row G X : List Nat} {n : Nat} (h : IsRun K H v W row G X n) (s : Same H H') : IsRun K H' v W row G X n := by
  obtain ⟨a, dx, ra, fa, fs, cv, e, ha, m1, m2, m3, l1, c, l2, l3, h3, l4, h4⟩ := h.ex
  exact ⟨a, dx, ra, fa, fs, cv, e, s _ _ ha, m1, m2, m3, l1, c.same s, l2, l3, h3.kp (kt_of s), l4, h4.kp (kt_of s)⟩
def Trc (H : Hp) (W : Wld) (X : List Nat) (n c : Nat) (v : V) : Prop := ∃ z s1 w1, v = .ref z ∧ H z = some (.tup [.ref s1, .ref w1]) ∧ H s1 = some (.lst (stV W.signs (kOf W c).rows X (n + 1))) ∧ H w1 = some (.lst (wkV W.signs (kOf W c).rows X (n + 1)))
theorem Trc.same {H H' : Hp} {W : Wld} {X : List Nat} {n c : Nat} {v : V} (h : Trc H W X n c v) (s : Same H H') : Trc H' W X n c v := by
  obtain ⟨z, s1, w1, e, h1, h2, h3⟩ := h
  exact ⟨z, s1, w1, e, s _ _ h1, s _ _ h2, s _ _ h3⟩
theorem Trc.dict {H : Hp} {W : Wld} {X : List Nat} {n c : Nat} {v : V} {t : Addr} {kvs kvs' : List (Key × V)} (h : Trc H W X n c v) (e : H t = some (.dK kvs)) : Trc (upd H t (.dK kvs')) W X n c v := by
  obtain ⟨z, s1, w1, ev, h1, h2, h3⟩ := h
  exact ⟨z, s1, w1, ev, by rw [upd_ne (fun y => by rw [y, e] at h1; cases h1)]; exact h1, by rw [upd_ne (fun y => by rw [y, e] at h2; cases h2)]; exact h2, by rw [upd_ne (fun y => by rw [y, e] at h3; cases h3)]; exact h3⟩
theorem max0 (b d : Nat) : (if ((b : Int) - (d : Int)) > 0 then ((b : Int) - (d : Int)) else 0) = ((b - d : Nat) : Int) := by
  split <;> omega
/-- a list of refs to tuples, being built -/
def LstRows (K : PySem.W.Frag) (H : Hp) (r : Addr) (f : Nat → List V) (n : Nat) : Prop := ∃ xs, H r = some (.lst xs) ∧ xs.length = n ∧ ∀ b, b < n → ∃ x, xs[b]? = some (.ref x) ∧ SqT K H x (f b)
theorem LstRows.same {H H' : Hp} {r : Addr} {f : Nat → List V} {n : Nat} (h : LstRows K H r f n) (s : Same H H') : LstRows K H' r f n := by
  obtain ⟨xs, h1, h2, h3⟩ := h
  refine ⟨xs, s _ _ h1, h2, fun b hb => ?_⟩
  obtain ⟨x, e, h⟩ := h3 b hb
  exact ⟨x, e, s.tup h⟩
theorem LstRows.other {H H' : Hp} {r d : Addr} {f : Nat → List V} {n : Nat} {ys : List V} (h : LstRows K H r f n) (b : Sb d H H') (e : H d = some (.lst ys)) (ne : r ≠ d) : LstRows K H' r f n := by
  obtain ⟨xs, h1, h2, h3⟩ := h
  refine ⟨xs, b _ _ ne h1, h2, fun j hj => ?_⟩
  obtain ⟨x, e', h⟩ := h3 j hj
  exact ⟨x, e', (b.kp e).tup h⟩
theorem LstRows.snoc {H H' : Hp} {r x : Addr} {f : Nat → List V} {n : Nat} {xs : List V} (h1 : H r = some (.lst xs)) (h2 : xs.length = n) (h3 : ∀ b, b < n → ∃ x, xs[b]? = some (.ref x) ∧ SqT K H x (f b)) (b : Sb r H H') (e : H' r = some (.lst (xs ++ [.ref x]))) (hx : SqT K H x (f n)) : LstRows K H' r f (n + 1) := by
  refine ⟨_, e, by simp [h2], fun j hj => ?_⟩
  have kp := b.kp h1
  by_cases ej : j = n
  · subst ej
    exact ⟨x, by rw [← h2]; simp, kp.tup hx⟩
  · obtain ⟨y, e', h⟩ := h3 j (by omega)
    refine ⟨y, ?_, kp.tup h⟩
    rw [List.getElem?_append_left (by omega)]
    exact e'
theorem LstRows.tup {H : Hp} {u : Addr} {f : Nat → List V} {n : Nat} {xs : List V} (h2 : xs.length = n) (h3 : ∀ b, b < n → ∃ x, xs[b]? = some (.ref x) ∧ SqT K H x (f b)) {H' : Hp} (s : Same H H') (hu : SqT K H' u xs) : RowsAt K H' u f n :=
  ⟨xs, hu, h2, fun b hb => by
    obtain ⟨x, e, h⟩ := h3 b hb
    exact ⟨x, e, s.tup h⟩⟩
theorem p_Run_init (T : Tx K mg) : Pr P w K mg base CX0 3 ["self", "column", "calling", "beats"] [] (He.ma K (He.ga K "Run") "__init__")
    (fun vs H Q _ => ∃ (x dx : Addr) (cv : V) (W : Wld) (row G X : List Nat) (n : Nat), vs = [.ref x, cv, .str (str X), .int (n : Nat)] ∧ H x = some (.ins (He.ga K "Run") dx []) ∧ IsCol K H cv W row G ∧ WOk W ∧ GOk W G ∧ (∀ c ∈ X, c ∈ W.signs) ∧ X.length ≤ 400 ∧ n ≤ 1000 ∧ ∀ H', Sb x H H' → IsRun K H' (.ref x) W row G X n → Q .non H') := by
  refine T.d_Run_init.pr scs_Run_init (fun vs H Q E h => ?_) (fun cdv A outer s H vs Q E hr h => ?_)
  · obtain ⟨x, dx, cv, W, row, G, X, n, rfl, _⟩ := h
    rfl
  · obtain ⟨x, dx, cv, W, row, G, X, n, rfl, hx, hc, wok, gok, hX, lX, ln, q⟩ := h
    have hu := hu_of hr
    have gl := gok.l
    refine ⟨_, (pss_cons (ps_expr (pcall (p_check_calling_d T) (hr.mono (by decide)) (by rfl) T.g_check_calling pass0 (pa_cons (pe_fld (pe_fld (pv 1) rfl) rfl) (pa_cons (pv 2) pa_nil))))
    (pss_cons (ps_if (pt_cmpR op_isN (pv 3) pe_non (nomark _))
      (pss_one (ps_set (i := 3) scs_Run_init.nd rfl (.inl rfl) (pe_op op_add (pe_callB call_len_str (by rfl) T.z_len PySem.boot_len (pa_cons (pv 2) pa_nil)) (pe_ix ix_tup (pe_fld (pv 1) rfl) (pe_un un_neg pe_int) (fun _ _ => rfl)))))
      (pss_one (ps_if (pt_not (pt_val (pcall (p_is_integer T) (hr.mono (by decide)) (by rfl) T.g_is_integer pass0 (pa_cons (pv 3) (pa_cons pe_int (pa_cons pe_int pa_nil))))))
        (pss_one ps_never)
        pss_nil)))
    (pss_cons (ps_fld (pv 0) (pv 1) rfl)
    (pss_cons (ps_fld (pv 0) (pv 2) rfl)
    (pss_cons (ps_fld (pv 0) (pv 3) rfl)
    (pss_cons (ps_set (i := 4) scs_Run_init.nd rfl (.inl rfl) pe_dnewK)
    (pss_cons (ps_for PassesOwn.never rfl (pi_str (pe_fld (pv 1) rfl)) (pg_name (i := 5) scs_Run_init.nd rfl (.inl rfl) (.inl rfl))
      (pss_one (ps_if (pt_cmp (pc_dnotin hu (pv 5) (pv 4)))
        (pss_one (ps_dput hu (pv 4) (pv 5) (pcall (p_traced T) (hr.mono (by decide)) (by rfl) T.g_traced pass0 (pa_cons (pe_dget hu (pe_fld (pe_fld (pv 1) rfl) rfl) (pv 5) (fun _ _ => rfl)) (pa_cons (pv 2) (pa_cons (pv 3) pa_nil)))) rfl))
        pss_nil)))
    (pss_cons (ps_set (i := 6) scs_Run_init.nd rfl (.inl rfl) (pe_lst pa_nil))
    (pss_cons (ps_set (i := 7) scs_Run_init.nd rfl (.inl rfl) (pe_lst pa_nil))
    (pss_cons (ps_for PassesOwn.never rfl (pi_range1 (by rfl) T.z_range (pa_cons (pe_op op_add (pv 3) pe_int) pa_nil)) (pg_name (i := 8) scs_Run_init.nd rfl (.inl rfl) (.inl rfl))
      (pss_cons (ps_set (i := 9) scs_Run_init.nd rfl (.inl rfl) (pe_lst pa_nil))
      (pss_cons (ps_set (i := 10) scs_Run_init.nd rfl (.inl rfl) (pe_lst pa_nil))
      (pss_cons (ps_for PassesOwn.never rfl (pi_z3 (by rfl) T.z_zip (pa_cons (pe_fld (pv 1) rfl) (pa_cons (pe_fld (pv 1) rfl) (pa_cons (pe_fld (pv 1) rfl) pa_nil)))) (pg_tup rfl (pgs_cons (pg_name (i := 5) scs_Run_init.nd rfl (.inl rfl) (.inl rfl)) (pgs_cons (pg_name (i := 11) scs_Run_init.nd rfl (.inl rfl) (.inl rfl)) (pgs_cons (pg_name (i := 12) scs_Run_init.nd rfl (.inl rfl) (.inl rfl)) pgs_nil))))
        (pss_cons (ps_set (i := 13) scs_Run_init.nd rfl (.inl rfl) (pe_callB (call_max2 rfl) (by rfl) T.z_max (by decide +kernel) (pa_cons pe_int (pa_cons (pe_op op_sub (pv 8) (pv 11)) pa_nil))))
        (pss_cons (ps_expr (pe_bm PySem.F.plainAttrs_list PySem.F.slot_list_append PySem.F.type_list_append mt_appU (pv 9) (pa_cons (pe_ix ix_list (pe_ix ix_tup (pe_dget hu (pv 4) (pv 5) (fun _ _ => rfl)) pe_int (fun _ _ => rfl)) (pv 13) (fun _ _ => rfl)) pa_nil)))
        (pss_one (ps_expr (pe_bm PySem.F.plainAttrs_list PySem.F.slot_list_append PySem.F.type_list_append mt_appU (pv 10) (pa_cons (pe_op op_add (pv 12) (pe_ix ix_list (pe_ix ix_tup (pe_dget hu (pv 4) (pv 5) (fun _ _ => rfl)) pe_int (fun _ _ => rfl)) (pv 13) (fun _ _ => rfl))) pa_nil)))))))
      (pss_cons (ps_expr (pe_bm PySem.F.plainAttrs_list PySem.F.slot_list_append PySem.F.type_list_append mt_appU (pv 6) (pa_cons (pe_callTy call_tupU (by rfl) T.z_tuple (by decide +kernel) (pa_cons (pv 9) pa_nil)) pa_nil)))
      (pss_one (ps_expr (pe_bm PySem.F.plainAttrs_list PySem.F.slot_list_append PySem.F.type_list_append mt_appU (pv 7) (pa_cons (pe_callTy call_tupU (by rfl) T.z_tuple (by decide +kernel) (pa_cons (pv 10) pa_nil)) pa_nil)))))))))
    (pss_cons (ps_fld (pv 0) (pe_callTy call_tupU (by rfl) T.z_tuple (by decide +kernel) (pa_cons (pv 6) pa_nil)) rfl)
    (pss_one (ps_fld (pv 0) (pe_callTy call_tupU (by rfl) T.z_tuple (by decide +kernel) (pa_cons (pv 7) pa_nil)) rfl))))))))))))), ?_⟩
    obtain ⟨ca, cdx, cfs, mv, ecv, hca, l1, hm, l2⟩ := hc.make
    obtain ⟨ma, mdx, mfs, em, hma, l3, _⟩ := hm.signs
    refine ⟨_, rfl, ca, _, cdx, cfs, _, ecv, hca, T.c_Column, T.n_Column_make, l1, ma, _, mdx, mfs, _, em, hma, T.c_Make, T.n_Make_signs, l3, _, rfl, W.signs, X, rfl, lX, hX, fun H1 s1 => ?_⟩
    refine ⟨_, rfl, rfl, _, rfl, iteN (fun z => nomatch z) ?_⟩
    refine ⟨_, rfl, (n : Nat), 0, 1000, rfl, ?_⟩
    rw [decide_eq_true (show (0 : Int) ≤ ((n : Nat) : Int) ∧ ((n : Nat) : Int) ≤ 1000 by omega)]
    refine ⟨true, rfl, iteF ?_⟩
    have b1 : Bld H H1 x (He.ga K "Run") dx [] := ⟨Sb.of s1, s1 _ _ hx⟩
    refine ⟨_, rfl, _, rfl, x, _, dx, _, rfl, b1.o, T.c_Run, T.n_Run_column, by decide, b1.step (K := K) "column" _ (n := 0) (by decide) fun H2 f2 b2 e2 n2 sb2 k2 => ?_⟩
    refine ⟨_, rfl, _, rfl, x, _, dx, _, rfl, b2.o, T.c_Run, T.n_Run_calling, by omega, b2.step (K := K) "calling" _ n2 fun H3 f3 b3 e3 n3 sb3 k3 => ?_⟩
    refine ⟨_, rfl, _, rfl, x, _, dx, _, rfl, b3.o, T.c_Run, T.n_Run_beats, by omega, b3.step (K := K) "beats" _ n3 fun H4 f4 b4 e4 n4 sb4 k4 => ?_⟩
    have hc4 := hc.sbn hx b4.s
    intro t nt
    have s5 := same_upd (o := .dK []) nt
    have e5 : (upd H4 t (.dK [])) t = some (.dK []) := upd_same
    generalize upd H4 t (.dK []) = H5 at s5 e5 ⊢
    obtain ⟨ca, cdx, cfs, mv, ecv, hca, l1, hm, l2⟩ := (hc4.same s5).make
    refine ⟨_, rfl, ca, _, cdx, cfs, _, ecv, hca, T.c_Column, T.n_Column_groups, l2, str G, rfl, for_it (walk_str (z := str G)) (fun i σ H' => Same H4 H' ∧ (∃ kvs, H' t = some (.dK kvs) ∧ kvs.length ≤ i ∧ (∀ (c : Nat) (v : V), c ∈ G → valV kvs (.inr (one c)) = some v → Trc H' W X n c v) ∧ ∀ j c, j < i → G[j]? = some c → (valV kvs (.inr (one c))).isSome = true) ∧ ∃ x5 x6 x7 x8 x9 x10 x11 x12 x13, σ = [some (.ref x), some cv, some (.str (str X)), some (.int (n : Nat)), some (.ref t), x5, x6, x7, x8, x9, x10, x11, x12, x13])
      ⟨s5, ⟨[], e5, Nat.le_refl _, fun c v _ h => (by cases h), fun j c hj => by omega⟩, _, _, _, _, _, _, _, _, _, rfl⟩ (fun i σ H' _ h => trivial) (fun i y σ H6 H7 hi h y => ?_) fun σ H6 h => ?_⟩
    · obtain ⟨s6, ⟨kvs, k1, k2', k3', k4'⟩, x5, x6, x7, x8, x9, x10, x11, x12, x13, rfl⟩ := h
      obtain ⟨rfl, c, hc', rfl⟩ := y
      have gc : G[i]? = some c := str_at hc'
      have mc := List.mem_of_getElem? gc
      have mW := gok.m c mc
      refine ⟨_, rfl, _, rfl, t, _, rfl, DGet.k (k := .inr (one c)) k1, _, rfl, ?_⟩
      cases hv : valV kvs (.inr (one c)) with
      | some v =>
        refine iteF ⟨s6, ⟨kvs, k1, by omega, k3', fun j c' hj hjc => ?_⟩, _, _, _, _, _, _, _, _, _, rfl⟩
        by_cases ej : j = i
        · subst ej
          rw [gc] at hjc
          cases hjc
          rw [hv]
          rfl
        · exact k4' j c' (by omega) hjc
      | none =>
        obtain ⟨ca, cdx, cfs, mv, ecv, hca, l1, hm, l2⟩ := (hc4.same s6).make
        obtain ⟨ma2, mdx2, dd, mfs2, kd, dv, em2, hma2, l6, hdd, vd, isd⟩ := hm.drill mW
        have rok := wok.rows _ (kOf_mem mW).1
        refine iteT ⟨_, rfl, ca, _, cdx, cfs, _, ecv, hca, T.c_Column, T.n_Column_make, l1, ma2, _, mdx2, mfs2, _, em2, hma2, T.c_Make, T.n_Make_drills, l6, _, rfl, dd, _, rfl, .inl ⟨kd, .inr (one c), .inl hdd, rfl, vd.symm⟩, _, rfl, _, rfl, dv, W.words, X, (kOf W c).rows, n, rfl, isd, rok, hX, by omega, by omega, fun H8 z q1 q2 s8 hz h1 h2 => ?_⟩
        refine ⟨_, rfl, _, rfl, t, _, rfl, DPut.k (kvs := kvs) (k := .inr (one c)) (s8 _ _ k1) (sz2l (by rw [str_size] at hi; omega)), ?_⟩
        refine ⟨(s6.trans s8).sb nt sb_upd, ⟨_, upd_same, Nat.le_trans (putK_le _ _ _) (by omega), fun c' v' mc' hv' => ?_, fun j c' hj hjc => ?_⟩, _, _, _, _, _, _, _, _, _, rfl⟩
        · rw [valV_put] at hv'
          by_cases ec : c' = c
          · subst ec
            rw [if_pos rfl] at hv'
            cases hv'
            exact Trc.dict ⟨z, q1, q2, rfl, hz, h1, h2⟩ (s8 _ _ k1)
          · rw [if_neg fun z => ec (one_inj (Sum.inr.inj z))] at hv'
            exact ((k3' c' v' mc' hv').same s8).dict (s8 _ _ k1)
        · rw [valV_put]
          by_cases ec : c' = c
          · subst ec
            rw [if_pos rfl]
            rfl
          · rw [if_neg fun z => ec (one_inj (Sum.inr.inj z))]
            refine k4' j c' ?_ hjc
            rcases Nat.lt_or_ge j i with h | h
            · exact h
            · have : j = i := by omega
              subst this
              rw [gc] at hjc
              exact absurd (Option.some.inj hjc).symm ec
    · obtain ⟨s6, ⟨kvs, k1, k2', k3', k4'⟩, x5, x6, x7, x8, x9, x10, x11, x12, x13, rfl⟩ := h
      have trc : ∀ i c, G[i]? = some c → ∃ v, valV kvs (.inr (one c)) = some v ∧ Trc H6 W X n c v := fun i c hi => by
        have h1 := k4' i c (by rw [str_size]; exact (List.getElem?_eq_some_iff.mp hi).1) hi
        obtain ⟨v, hv⟩ := Option.isSome_iff_exists.mp h1
        exact ⟨v, hv, k3' c v (List.mem_of_getElem? hi) hv⟩
      have b6 : Bld H H6 x (He.ga K "Run") dx f4 := b4.grow s6
      refine ⟨by show 0 ≤ sizeLine; decide, fun r nr => ?_⟩
      have s7 := same_upd (o := .lst []) nr
      have e7 : (upd H6 r (.lst [])) r = some (.lst []) := upd_same
      generalize upd H6 r (.lst []) = H7 at s7 e7 ⊢
      refine ⟨by show 0 ≤ sizeLine; decide, fun f nf => ?_⟩
      have s8 := same_upd (o := .lst []) nf
      have e8 : (upd H7 f (.lst [])) f = some (.lst []) := upd_same
      generalize upd H7 f (.lst []) = H8 at s8 e8 ⊢
      have nrf : r ≠ f := fun z => by rw [← z, e7] at nf; cases nf
      have nf6 : H6 f = none := s7.back nf
      have en : ((n : Nat) : Int) + 1 = ((n + 1 : Nat) : Int) := by omega
      refine ⟨_, rfl, (n : Nat), 1, rfl, rfl, ((n + 1 : Nat) : Int), rfl, by omega, by omega, ?_⟩
      refine for_it (walk_rn (n := n + 1)) (fun b σ H' => Same H6 H' ∧ LstRows K H' r (fun b => stGV W G X b G.length) b ∧ LstRows K H' f (fun b => frGV W G X b G.length) b ∧ ∃ x5 x8 x9 x10 x11 x12 x13, σ = [some (.ref x), some cv, some (.str (str X)), some (.int (n : Nat)), some (.ref t), x5, some (.ref r), some (.ref f), x8, x9, x10, x11, x12, x13])
        ⟨s7.trans s8, ⟨[], s8 _ _ e7, rfl, fun b hb => by omega⟩, ⟨[], e8, rfl, fun b hb => by omega⟩, _, _, _, _, _, _, _, rfl⟩ (fun i σ H' _ h => trivial) (fun b y σ H9 H10 hb h y => ?_) fun σ H9 h => ?_
      · obtain ⟨s9, lr, lf, x5, x8, x9, x10, x11, x12, x13, rfl⟩ := h
        obtain ⟨rfl, rfl⟩ := y
        refine ⟨by show 0 ≤ sizeLine; decide, fun rw' nrw => ?_⟩
        have s11 := same_upd (o := .lst []) nrw
        have e11 : (upd H10 rw' (.lst [])) rw' = some (.lst []) := upd_same
        generalize upd H10 rw' (.lst []) = H11 at s11 e11 ⊢
        refine ⟨by show 0 ≤ sizeLine; decide, fun pl npl => ?_⟩
        have s12 := same_upd (o := .lst []) npl
        have e12 : (upd H11 pl (.lst [])) pl = some (.lst []) := upd_same
        generalize upd H11 pl (.lst []) = H12 at s12 e12 ⊢
        have nrp : rw' ≠ pl := fun z => by rw [← z, e11] at npl; cases npl
        have npl10 : H10 pl = none := s11.back npl
        have s412 := s6.trans (s9.trans (s11.trans s12))
        obtain ⟨ca, cdx, dl, fr, cfs, mv, ecv, hca, l1, hm, l2, l3, h3, l4, h4⟩ := (hc4.same s412).ex
        have W3 := walk_z3 (K := K) (s1 := .txt (str G)) (s2 := .tup dl) (s3 := .tup fr) (xs := signsV (str G)) (ys := dlV W G G.length) (zs := frV W G G.length) (n := G.length) (by simp [signs_str, dlV, frV])
        refine ⟨_, rfl, ca, _, cdx, cfs, _, ecv, hca, T.c_Column, T.n_Column_groups, l2, _, rfl, ca, _, cdx, cfs, _, ecv, hca, T.c_Column, T.n_Column_delay_list, l3, _, rfl, ca, _, cdx, cfs, _, ecv, hca, T.c_Column, T.n_Column_front_list, l4, .txt (str G), .tup dl, .tup fr, _, _, _, rfl, rfl, h3, h4, for_it W3 (fun i σ H' => Same H10 H' ∧ Kp H12 H' ∧ H' rw' = some (.lst (stGV W G X b i)) ∧ H' pl = some (.lst (frGV W G X b i)) ∧ ∃ x5 x11 x12 x13, σ = [some (.ref x), some cv, some (.str (str X)), some (.int (n : Nat)), some (.ref t), x5, some (.ref r), some (.ref f), some (.int (b : Nat)), some (.ref rw'), some (.ref pl), x11, x12, x13])
          ⟨s11.trans s12, Kp.refl _, s12 _ _ e11, e12, _, _, _, _, rfl⟩ (fun i σ H' _ h => ⟨rfl, h.2.1.tup h3, h.2.1.tup h4⟩) (fun i y σ H13 H14 hi h y => ?_) fun σ H13 h => ?_⟩
        · obtain ⟨s13, kp13, er, ep, x5, x11, x12, x13, rfl⟩ := h
          obtain ⟨Tq, y1, y2, y3, rfl, nT, s14, e14, g1, g2, g3⟩ := y
          obtain ⟨c, gc, rfl⟩ := chars_at g1
          obtain ⟨_, rfl⟩ := rng_inv g2
          obtain ⟨_, rfl⟩ := rng_inv g3
          obtain ⟨v, hv, tr⟩ := trc i c gc
          have s614 : Same H6 H14 := s9.trans (s13.trans s14)
          obtain ⟨z, q1, q2, rfl, hz, h1, h2⟩ := tr.same s614
          have k1'' : H14 t = some (.dK kvs) := s614 _ _ k1
          have er14 := s14 _ _ er
          have ep14 := s14 _ _ ep
          have hle : b - delAt W G i < n + 1 := by omega
          refine ⟨Tq, _, rfl, .inl (.inl e14), rfl, _, _, rfl, _, _, rfl, _, _, rfl, rfl, ?_⟩
          refine ⟨_, rfl, _, rfl, (b : Nat), (delAt W G i : Nat), rfl, rfl, 0, ((b : Nat) : Int) - (delAt W G i : Nat), rfl, ?_⟩
          rw [max0]
          refine ⟨_, rfl, .inl ⟨rfl, _, .inl (.inl er14)⟩, _, rfl, _, rfl, t, _, rfl, .inl ⟨kvs, .inr (one c), .inl k1'', rfl, hv.symm⟩, z, _, 0, _, rfl, rfl, .inl (.inl hz), rfl, _, rfl, q1, _, ((b - delAt W G i : Nat) : Int), _, rfl, rfl, .inl (.inl h1), atI_nat (stV_at hle), ?_⟩
          refine ⟨rw', _, _, rfl, rfl, er14, by simp [stGV]; omega, fun H15 b15 e15 => ?_⟩
          have kp15 : Kp H14 H15 := b15.kp er14
          have ep15 : H15 pl = some (.lst (frGV W G X b i)) := b15 _ _ nrp.symm ep14
          have s15 : Same H10 H15 := (s13.trans s14).sb nrw b15
          have s615 : Same H6 H15 := s9.trans s15
          obtain ⟨z2, q3, q4, ez, hz2, h12, h22⟩ := tr.same s615
          cases ez
          refine ⟨_, rfl, .inl ⟨rfl, _, .inl (.inl ep15)⟩, _, rfl, _, rfl, _, rfl, t, _, rfl, .inl ⟨kvs, .inr (one c), .inl (s615 _ _ k1), rfl, hv.symm⟩, z, _, 1, _, rfl, rfl, .inl (.inl hz2), rfl, _, rfl, q4, _, ((b - delAt W G i : Nat) : Int), _, rfl, rfl, .inl (.inl h22), atI_nat (wkV_at hle), froAt W G i, _, rfl, rfl, ?_⟩
          refine ⟨pl, _, _, rfl, rfl, ep15, by simp [frGV]; omega, fun H16 b16 e16 => ?_⟩
          refine ⟨s15.sb npl10 b16, kp13.trans ((Kp.of s14).trans (kp15.trans (b16.kp ep15))), ?_, ?_, _, _, _, _, rfl⟩
          · rw [b16 _ _ nrp e15]
            unfold stGV
            rw [rng_succ]
            unfold stG stA
            rw [gc]
            rfl
          · rw [e16]
            unfold frGV
            rw [rng_succ]
            unfold frG wkA
            rw [gc]
            rfl
        · obtain ⟨s13, kp13, er, ep, x5, x11, x12, x13, rfl⟩ := h
          obtain ⟨xs, r1, r2, r3⟩ := lr.same s13
          have r1' := r1
          refine ⟨_, rfl, .inl ⟨rfl, _, .inl (.inl r1)⟩, _, rfl, rw', _, rfl, .inl (.inl (.inl er)), fun u14 H14 s14 h14 => ?_⟩
          have r14 := s14 _ _ r1
          refine ⟨r, xs, .ref u14, rfl, rfl, r14, by omega, fun H15 b15 e15 => ?_⟩
          have nr10 : rw' ≠ r := fun z => by
            obtain ⟨xs', q1, _⟩ := lr
            rw [← z, nrw] at q1
            cases q1
          have npr : pl ≠ r := fun z => by
            obtain ⟨xs', q1, _⟩ := lr
            rw [← z, npl10] at q1
            cases q1
          have lr15 : LstRows K H15 r (fun b => stGV W G X b G.length) (b + 1) := LstRows.snoc r14 r2 (fun j hj => by
            obtain ⟨y, e, h⟩ := r3 j hj
            exact ⟨y, e, s14.tup h⟩) b15 e15 h14
          have ep15 : H15 pl = some (.lst (frGV W G X b G.length)) := b15 _ _ npr (s14 _ _ ep)
          have lf15 : LstRows K H15 f (fun b => frGV W G X b G.length) b := ((lf.same s13).same s14).other b15 r14 nrf.symm
          obtain ⟨ys, f1, f2', f3'⟩ := lf15
          refine ⟨_, rfl, .inl ⟨rfl, _, .inl (.inl f1)⟩, _, rfl, pl, _, rfl, .inl (.inl (.inl ep15)), fun u16 H16 s16 h16 => ?_⟩
          have f16 := s16 _ _ f1
          refine ⟨f, ys, .ref u16, rfl, rfl, f16, by omega, fun H17 b17 e17 => ?_⟩
          have s615 : Same H6 H15 := (s9.trans (s13.trans s14)).sb nr b15
          refine ⟨(s615.trans s16).sb nf6 b17, (lr15.same s16).other b17 f16 nrf, LstRows.snoc f16 f2' (fun j hj => by
            obtain ⟨y, e, h⟩ := f3' j hj
            exact ⟨y, e, s16.tup h⟩) b17 e17 h16, _, _, _, _, _, _, _, rfl⟩
      · obtain ⟨s9, ⟨xs, r1, r2, r3⟩, ⟨ys, f1, f2', f3'⟩, x5, x8, x9, x10, x11, x12, x13, rfl⟩ := h
        have b9 := b6.grow s9
        refine ⟨_, rfl, r, xs, rfl, .inl (.inl (.inl r1)), fun u10 H10 s10 h10 => ?_⟩
        have b10 := b9.grow s10
        have rw10 : RowsAt K H10 u10 (fun b => stGV W G X b G.length) (n + 1) := LstRows.tup r2 r3 s10 h10
        refine ⟨_, rfl, x, _, dx, _, rfl, b10.o, T.c_Run, T.n_Run_rows, by omega, b10.step (K := K) "rows" _ n4 fun H11 f11 b11 e11 n11 sb11 k11 => ?_⟩
        have nfx : f ≠ x := fun z => by
          have := b6.o
          rw [← z, nf6] at this
          cases this
        have f1' : H11 f = some (.lst ys) := sb11 _ _ nfx (s10 _ _ f1)
        refine ⟨_, rfl, f, ys, rfl, .inl (.inl (.inl f1')), fun u12 H12 s12 h12 => ?_⟩
        have b12 := b11.grow s12
        have fr12 : RowsAt K H12 u12 (fun b => frGV W G X b G.length) (n + 1) := LstRows.tup f2' (fun j hj => by
          obtain ⟨y, e, h⟩ := f3' j hj
          exact ⟨y, e, k11 _ _ (s10.tup h)⟩) s12 h12
        refine ⟨_, rfl, x, _, dx, _, rfl, b12.o, T.c_Run, T.n_Run_front_rows, by omega, b12.step (K := K) "front_rows" _ n11 fun H13 f13 b13 e13 n13 sb13 k13 => ?_⟩
        refine q H13 b13.s ⟨x, dx, u10, u12, f13, cv, rfl, b13.o, ?_, ?_, ?_, ?_, hc.sbn hx b13.s, ?_, ?_, (rw10.kp k11).kp (fun a xs h => k13 _ _ (s12.tup h)), ?_, fr12.kp k13⟩
        · rw [e13, e11, e4, e3, e2]
          exact look_ne (by decide) (look_ne (by decide) (look_ne (by decide) (look_ne (by decide) (look_ne (by decide) rfl))))
        · rw [e13, e11, e4, e3, e2]
          exact look_ne (by decide) (look_ne (by decide) (look_ne (by decide) (look_ne (by decide) (look_ne (by decide) rfl))))
        · rw [e13, e11, e4, e3, e2]
          exact look_ne (by decide) (look_ne (by decide) (look_ne (by decide) (look_ne (by decide) (look_ne (by decide) rfl))))
        · rw [e13, e11, e4, e3, e2]
          exact look_ne (by decide) (look_ne (by decide) (look_ne (by decide) (look_ne (by decide) (look_same _ _ _))))
        · rw [e13, e11, e4]
          exact look_ne (by decide) (look_ne (by decide) (look_same _ _ _))
        · rw [e13, e11]
          exact look_ne (by decide) (look_same _ _ _)
        · rw [e13]
          exact look_same _ _ _
theorem p_Run_check_beat (T : Tx K mg) : Pr P w K mg base CX0 2 ["self", "beat"] [] (He.ma K (He.ga K "Run") "check_beat")
    (fun vs H Q _ => ∃ (v : V) (W : Wld) (row G X : List Nat) (n b : Nat), vs = [v, .int (b : Nat)] ∧ IsRun K H v W row G X n ∧ b ≤ n ∧ Q .non H) := by
  refine T.d_Run_check_beat.pr scs_Run_check_beat (fun vs H Q E h => ?_) (fun cdv A outer s H vs Q E hr h => ?_)
  · obtain ⟨v, W, row, G, X, n, b, rfl, _⟩ := h
    rfl
  · obtain ⟨v, W, row, G, X, n, b, rfl, hv, hb, q⟩ := h
    refine ⟨_, (pss_one (ps_if (pt_not (pt_val (pcall (p_is_integer T) (hr.mono (by decide)) (by rfl) T.g_is_integer pass0 (pa_cons (pv 1) (pa_cons pe_int (pa_cons (pe_fld (pv 0) rfl) pa_nil))))))
      (pss_one ps_never)
      pss_nil)), ?_⟩
    obtain ⟨a, dx, ra, fa, fs, cv, rfl, ha, m1, m2, m3, l1, c, l2, r⟩ := hv.ex
    refine ⟨_, rfl, _, rfl, a, _, dx, fs, _, rfl, ha, T.c_Run, T.n_Run_beats, l2, (b : Nat), 0, (n : Nat), rfl, ?_⟩
    rw [decide_eq_true (show (0 : Int) ≤ ((b : Nat) : Int) ∧ ((b : Nat) : Int) ≤ (n : Nat) by omega)]
    exact ⟨true, rfl, iteF q⟩
theorem p_Run_standings_at (T : Tx K mg) : Pr P w K mg base CX0 3 ["self", "beat"] [] (He.ma K (He.ga K "Run") "standings_at")
    (fun vs H Q _ => ∃ (v : V) (W : Wld) (row G X : List Nat) (n b : Nat), vs = [v, .int (b : Nat)] ∧ IsRun K H v W row G X n ∧ b ≤ n ∧ ∀ u, SqT K H u (stGV W G X b G.length) → Q (.ref u) H) := by
  refine T.d_Run_standings_at.pr scs_Run_standings_at (fun vs H Q E h => ?_) (fun cdv A outer s H vs Q E hr h => ?_)
  · obtain ⟨v, W, row, G, X, n, b, rfl, _⟩ := h
    rfl
  · obtain ⟨v, W, row, G, X, n, b, rfl, hv, hb, q⟩ := h
    refine ⟨_, (pss_cons (ps_expr (pmeth (p_Run_check_beat T) (pv 0) T.c_Run T.m_Run_check_beat (hr.mono (by decide)) pass0 (pa_cons (pv 1) pa_nil)))
    (pss_one (ps_ret (pe_ix ix_tup (pe_fld (pv 0) rfl) (pv 1) (fun _ _ => rfl))))), ?_⟩
    have hv' := hv
    obtain ⟨a, dx, ra, fa, fs, cv, rfl, ha, m1, m2, m3, l1, c, l2, l3, ⟨xs, h1, h2, h3⟩, r⟩ := hv.ex
    obtain ⟨x, ex, hx⟩ := h3 b (by omega)
    refine ⟨_, rfl, a, dx, fs, rfl, ha, m1, _, rfl, .ref a, W, row, G, X, n, b, rfl, hv', hb, ?_⟩
    exact ⟨_, rfl, a, _, dx, fs, _, rfl, ha, T.c_Run, T.n_Run_rows, l3, _, rfl, ra, xs, (b : Nat), _, rfl, rfl, h1, atI_nat ex, q x hx⟩
theorem p_Run_first_breach (T : Tx K mg) : Pr P w K mg base CX0 9 ["self", "wish"] [] (He.ma K (He.ga K "Run") "first_breach")
    (fun vs H Q _ => ∃ (v wv : V) (W : Wld) (row G X : List Nat) (n : Nat) (lo hi : Int), vs = [v, wv] ∧ IsRun K H v W row G X n ∧ WOk W ∧ GOk W G ∧ (∀ c ∈ X, c ∈ W.signs) ∧ Tp K H wv (.tup [.num lo, .num hi]) ∧ 0 ≤ lo ∧ lo ≤ hi ∧ hi ≤ 60 ∧
      (∀ b i, b < n + 1 → i < G.length - 1 → lo ≤ gpG W G X b i ∧ gpG W G X b i ≤ hi) ∧ ∀ H', Same H H' → Q .non H') := by
  refine T.d_Run_first_breach.pr scs_Run_first_breach (fun vs H Q E h => ?_) (fun cdv A outer s H vs Q E hr h => ?_)
  · obtain ⟨v, wv, W, row, G, X, n, lo, hi, rfl, _⟩ := h
    rfl
  · obtain ⟨v, wv, W, row, G, X, n, lo, hi, rfl, hv, wok, gok, hX, hw, h0, h1, h2, hg, q⟩ := h
    refine ⟨_, (pss_one (ps_ret (pcall (p_breach_of_rows T) (hr.mono (by decide)) (by rfl) T.g_breach_of_rows pass0 (pa_cons (pe_fld (pv 0) rfl) (pa_cons (pcall (p_check_wish T) (hr.mono (by decide)) (by rfl) T.g_check_wish pass0 (pa_cons (pv 1) pa_nil)) (pa_cons (pe_fld (pv 0) rfl) (pa_cons (pe_fld (pv 0) rfl) pa_nil))))))), ?_⟩
    obtain ⟨a, dx, ra, fa, fs, cv, rfl, ha, m1, m2, m3, l1, c, l2, l3, h3, l4, h4⟩ := hv.ex
    refine ⟨_, rfl, a, _, dx, fs, _, rfl, ha, T.c_Run, T.n_Run_column, l1, _, rfl, wv, lo, hi, rfl, hw, h0, h1, h2, fun H1 v1 s1 t1 => ?_⟩
    exact ⟨_, rfl, a, _, dx, fs, _, rfl, s1 _ _ ha, T.c_Run, T.n_Run_rows, l3, _, rfl, a, _, dx, fs, _, rfl, s1 _ _ ha, T.c_Run, T.n_Run_front_rows, l4, cv, v1, W, row, G, X, n + 1, ra, fa, lo, hi, rfl, c.same s1, wok, gok, hX, t1, h3.kp (kt_of s1), h4.kp (kt_of s1), hg, fun H2 s2 => q H2 (s1.trans s2)⟩

end
end TH
end
section
set_option Elab.async false
set_option linter.all false
set_option maxRecDepth 100000
set_option maxHeartbeats 4000000
namespace TH
open PySem PySem.Spec PyProof.Rows L2
section
variable {P : Program} {w : World} {K : PySem.W.Frag} {mg : Str → Option Value} {base : Heap}
/-! joints: the model -/
structure Fld where
  W : Wld
  kinds : List Nat
  twos : List (Nat × Nat)
  lo : Int
  hi : Int
  goal : List Nat
abbrev JRow := Nat × List Nat × Int
structure Jt where
  st : List Nat
  rows : List JRow
def rowJ (W : Wld) (X : List Nat) (q : Nat × Nat) : JRow := (stA W q.2 (X.take (X.length - lgA W q.1)), (List.replicate (lgA W q.1) 46 ++ X).drop X.length, gapX W q.1 q.2 X)
def jt (F : Fld) (X : List Nat) : Jt := ⟨F.kinds.map fun c => stA F.W c X, F.twos.map (rowJ F.W X)⟩
def encJR (r : JRow) : NK := .tup [kN r.1, kS r.2.1, .num r.2.2]
def encJ (j : Jt) : NK := .tup [.tup (j.st.map kN), .tup (j.rows.map encJR)]
structure FOk (F : Fld) : Prop where
  w : WOk F.W
  kn : ∀ c ∈ F.kinds, c ∈ F.W.names
  tw : ∀ q ∈ F.twos, q.1 ∈ F.kinds ∧ q.2 ∈ F.kinds
  wi : F.lo ≤ F.hi ∧ F.hi ≤ F.lo + 8
  lw : 0 ≤ F.lo ∧ F.hi ≤ 60
  gl : F.goal.length = F.kinds.length
  kl : F.kinds.length ≤ 10
  tl : F.twos.length ≤ 10
def SgOk (F : Fld) (X : List Nat) : Prop := ∀ c ∈ X, c ∈ F.W.signs
theorem str_inj {a b : List Nat} (h : str a = str b) : a = b := by
  have := congrArg (fun s : Str => s.cps.toList) h
  exact this
theorem kN_inj {a b : Nat} (h : kN a = kN b) : a = b := by
  have : (a : Int) = (b : Int) := NestedKey.num.inj h
  omega
theorem map_inj {α β : Type} {f : α → β} (hf : ∀ a b, f a = f b → a = b) : ∀ {l m : List α}, l.map f = m.map f → l = m
  | [], [], _ => rfl
  | [], _ :: _, h => by simp at h
  | _ :: _, [], h => by simp at h
  | a :: l, b :: m, h => by
    rw [List.map_cons, List.map_cons] at h
    obtain ⟨h1, h2⟩ := List.cons.inj h
    rw [hf _ _ h1, map_inj hf h2]
theorem encJR_inj (a b : JRow) (h : encJR a = encJR b) : a = b := by
  obtain ⟨a1, a2, a3⟩ := a
  obtain ⟨b1, b2, b3⟩ := b
  have h' := NestedKey.tup.inj h
  simp only [List.cons.injEq, and_true] at h'
  obtain ⟨h1, h2, h3⟩ := h'
  rw [kN_inj h1, str_inj (NestedKey.text.inj h2), NestedKey.num.inj h3]
theorem encJ_inj {a b : Jt} (h : encJ a = encJ b) : a = b := by
  obtain ⟨a1, a2⟩ := a
  obtain ⟨b1, b2⟩ := b
  have h' := NestedKey.tup.inj h
  simp only [List.cons.injEq, and_true] at h'
  obtain ⟨h1, h2⟩ := h'
  have e1 := map_inj (fun a b => kN_inj) (NestedKey.tup.inj h1)
  have e2 := map_inj encJR_inj (NestedKey.tup.inj h2)
  rw [show a1 = b1 from e1, show a2 = b2 from e2]
/-! behind a sign -/
def ledR (F : Fld) (j : Jt) (c : Nat) (q : Nat × Nat) (r : JRow) : JRow :=
  let at_ := F.kinds.idxOf q.1
  let s0 := (j.st[at_]?).getD 0
  let s1 := go F.W.signs (kOf F.W q.1).rows s0 c
  let late := go F.W.signs (kOf F.W q.2).rows r.1 ((r.2.1[0]?).getD 0)
  (late, r.2.1.drop 1 ++ [c], r.2.2 + (rowAt (kOf F.W q.1).rows s1).stride + bdA F.W q.1 s0 - bdA F.W q.1 s1 - (rowAt (kOf F.W q.2).rows late).stride)
def ledJ (F : Fld) (j : Jt) (c : Nat) : Jt := ⟨(F.kinds.zip j.st).map fun p => go F.W.signs (kOf F.W p.1).rows p.2 c, (F.twos.zip j.rows).map fun p => ledR F j c p.1 p.2⟩
theorem zip_map_self {α β : Type} (f : α → β) : ∀ l : List α, l.zip (l.map f) = l.map fun x => (x, f x)
  | [] => rfl
  | x :: l => by rw [List.map_cons, List.zip_cons_cons, zip_map_self f l, List.map_cons]
theorem stA_snoc (W : Wld) (c : Nat) (X : List Nat) (d : Nat) : stA W c (X ++ [d]) = go W.signs (kOf W c).rows (stA W c X) d := stand_snoc _ _ _ _
theorem wkA_snoc (W : Wld) (c : Nat) (X : List Nat) (d : Nat) : wkA W c (X ++ [d]) = wkA W c X + (rowAt (kOf W c).rows (stA W c (X ++ [d]))).stride := walk_snoc _ _ _ _
theorem FOk.rok {F : Fld} (ok : FOk F) {c : Nat} (h : c ∈ F.kinds) : RowsOk F.W.words.length (kOf F.W c).rows := ok.w.rows _ (kOf_mem (ok.kn c h)).1
theorem FOk.lg {F : Fld} (ok : FOk F) {c : Nat} (h : c ∈ F.kinds) : 1 ≤ lgA F.W c ∧ lgA F.W c ≤ 2 := ok.w.lag _ (kOf_mem (ok.kn c h)).1
theorem idx_map {α β : Type} [DecidableEq α] (f : α → β) {l : List α} {a : α} (h : a ∈ l) : (l.map f)[l.idxOf a]? = some (f a) := by
  rw [List.getElem?_map, List.getElem?_eq_getElem (List.idxOf_lt_length_of_mem h), List.getElem_idxOf (List.idxOf_lt_length_of_mem h)]
  rfl
theorem row_snoc {F : Fld} (ok : FOk F) {X : List Nat} {c : Nat} {q : Nat × Nat} (hq : q ∈ F.twos) : rowJ F.W (X ++ [c]) q = ledR F (jt F X) c q (rowJ F.W X q) := by
  obtain ⟨a, b⟩ := q
  have ha : a ∈ F.kinds := (ok.tw _ hq).1
  have hb : b ∈ F.kinds := (ok.tw _ hq).2
  have la : 1 ≤ lgA F.W a ∧ lgA F.W a ≤ 2 := ok.lg ha
  have rb : RowsOk F.W.words.length (kOf F.W b).rows := ok.rok hb
  have e0 : ((jt F X).st[F.kinds.idxOf a]?).getD 0 = stA F.W a X := by
    show ((F.kinds.map fun c => stA F.W c X)[F.kinds.idxOf a]?).getD 0 = _
    rw [idx_map (fun c => stA F.W c X) ha]
    rfl
  unfold ledR
  simp only [e0]
  have len : (X ++ [c]).length = X.length + 1 := by simp
  -- the one behind
  have hl : stA F.W b ((X ++ [c]).take ((X ++ [c]).length - lgA F.W a)) = go F.W.signs (kOf F.W b).rows (stA F.W b (X.take (X.length - lgA F.W a))) ((((List.replicate (lgA F.W a) 46 ++ X).drop X.length)[0]?).getD 0) ∧
      wkA F.W b ((X ++ [c]).take ((X ++ [c]).length - lgA F.W a)) = wkA F.W b (X.take (X.length - lgA F.W a)) + (rowAt (kOf F.W b).rows (stA F.W b ((X ++ [c]).take ((X ++ [c]).length - lgA F.W a)))).stride := by
    rw [len]
    by_cases h : X.length < lgA F.W a
    · have h1 : X.length + 1 - lgA F.W a = 0 := by omega
      have h2 : X.length - lgA F.W a = 0 := by omega
      rw [h1, h2, List.take_zero, List.take_zero]
      have e : ((List.replicate (lgA F.W a) 46 ++ X).drop X.length)[0]? = some 46 := by
        rw [List.getElem?_drop, List.getElem?_append_left (by simp; omega)]
        simp [h]
      rw [e]
      have z0 : stA F.W b [] = 0 := rfl
      have hs : 0 < (kOf F.W b).rows.length := by have := rb.len; omega
      rw [z0]
      constructor
      · exact (go_dot rb hs).symm
      · have := rb.rest _ (rowAt_of hs)
        rw [this]
        simp
    · have h1 : X.length + 1 - lgA F.W a = (X.length - lgA F.W a) + 1 := by omega
      have hlt : X.length - lgA F.W a < X.length := by omega
      have e2 : X[X.length - lgA F.W a]? = some X[X.length - lgA F.W a] := List.getElem?_eq_getElem hlt
      have e : ((List.replicate (lgA F.W a) 46 ++ X).drop X.length)[0]? = some X[X.length - lgA F.W a] := by
        rw [List.getElem?_drop, List.getElem?_append_right (by simp; omega)]
        simp only [List.length_replicate, Nat.add_zero]
        exact e2
      have e3 : (X ++ [c]).take (X.length - lgA F.W a + 1) = X.take (X.length - lgA F.W a) ++ [X[X.length - lgA F.W a]] := by
        rw [List.take_append_of_le_length (by omega), take_snoc e2]
      rw [h1, e, e3]
      exact ⟨stA_snoc _ _ _ _, wkA_snoc _ _ _ _⟩
  show (_, _, _) = (_, _, _)
  rw [Prod.mk.injEq, Prod.mk.injEq]
  refine ⟨hl.1, ?_, ?_⟩
  · show (List.replicate (lgA F.W a) 46 ++ (X ++ [c])).drop (X ++ [c]).length = ((List.replicate (lgA F.W a) 46 ++ X).drop X.length).drop 1 ++ [c]
    rw [len, List.drop_drop, ← List.append_assoc, List.drop_append_of_le_length (by simp; omega)]
  · show gapX F.W a b (X ++ [c]) = _
    unfold gapX
    rw [hl.2]
    have hst := hl.1
    simp only [rowJ] at *
    rw [← hst, wkA_snoc, ← stA_snoc]
    unfold gapX
    omega
theorem jt_snoc {F : Fld} (ok : FOk F) (X : List Nat) (c : Nat) : jt F (X ++ [c]) = ledJ F (jt F X) c := by
  unfold ledJ
  show (⟨_, _⟩ : Jt) = ⟨_, _⟩
  have e1 : (jt F X).st = F.kinds.map fun c => stA F.W c X := rfl
  have e2 : (jt F X).rows = F.twos.map (rowJ F.W X) := rfl
  rw [e1, e2, zip_map_self, zip_map_self, List.map_map, List.map_map]
  congr 1
  · exact List.map_congr_left fun x _ => stA_snoc _ _ _ _
  · exact List.map_congr_left fun q hq => row_snoc ok hq
def keeps (F : Fld) (X : List Nat) : Prop := ∀ q ∈ F.twos, F.lo ≤ gapX F.W q.1 q.2 X ∧ gapX F.W q.1 q.2 X ≤ F.hi
theorem keeps_j {F : Fld} {X Y : List Nat} (h : jt F X = jt F Y) : keeps F X ↔ keeps F Y := by
  have e : ∀ q ∈ F.twos, gapX F.W q.1 q.2 X = gapX F.W q.1 q.2 Y := by
    have e2 : F.twos.map (rowJ F.W X) = F.twos.map (rowJ F.W Y) := congrArg Jt.rows h
    intro q hq
    have := List.map_inj_left.mp e2 q hq
    exact congrArg (fun r : JRow => r.2.2) this
  unfold keeps
  constructor
  · intro k q hq
    rw [← e q hq]
    exact k q hq
  · intro k q hq
    rw [e q hq]
    exact k q hq
theorem jt_app {F : Fld} (ok : FOk F) {X Y : List Nat} (h : jt F X = jt F Y) : ∀ Z : List Nat, jt F (X ++ Z) = jt F (Y ++ Z) := by
  intro Z
  have key : ∀ (n : Nat) (Z : List Nat), Z.length = n → jt F (X ++ Z) = jt F (Y ++ Z) := by
    intro n
    induction n with
    | zero =>
      intro Z hz
      rw [List.length_eq_zero_iff.mp hz, List.append_nil, List.append_nil]
      exact h
    | succ n ih =>
      intro Z hz
      rcases List.eq_nil_or_concat Z with e | ⟨Z', z, e⟩
      · rw [e] at hz
        simp at hz
      · rw [e, List.concat_eq_append, ← List.append_assoc, ← List.append_assoc, jt_snoc ok, jt_snoc ok, ih Z' (by rw [e] at hz; simpa using hz)]
  exact key Z.length Z rfl
def sil (X : List Nat) (n : Nat) : List Nat := X ++ List.replicate n 46
theorem sil_succ (X : List Nat) (n : Nat) : sil X (n + 1) = sil X n ++ [46] := by
  unfold sil
  rw [List.replicate_succ', List.append_assoc]
theorem sil_len (X : List Nat) (n : Nat) : (sil X n).length = X.length + n := by simp [sil]
theorem sil_sil (X : List Nat) (n m : Nat) : sil (sil X n) m = sil X (n + m) := by
  unfold sil
  rw [List.append_assoc, List.replicate_append_replicate]
def Settled (F : Fld) (X : List Nat) : Prop := F.kinds.map (fun c => stA F.W c X) = F.goal ∧ ∀ n, keeps F (sil X n)
theorem settled_j {F : Fld} (ok : FOk F) {X Y : List Nat} (h : jt F X = jt F Y) : Settled F X ↔ Settled F Y := by
  have e1 : F.kinds.map (fun c => stA F.W c X) = F.kinds.map (fun c => stA F.W c Y) := congrArg Jt.st h
  have e2 : ∀ n, keeps F (sil X n) ↔ keeps F (sil Y n) := fun n => keeps_j (jt_app ok h _)
  unfold Settled
  rw [e1]
  exact ⟨fun k => ⟨k.1, fun n => (e2 n).mp (k.2 n)⟩, fun k => ⟨k.1, fun n => (e2 n).mpr (k.2 n)⟩⟩
/-! under silence -/
theorem sgOk_sil {F : Fld} {X : List Nat} (h : SgOk F X) (n : Nat) : SgOk F (sil X n) := fun c hc => by
  rcases List.mem_append.mp hc with hc | hc
  · exact h c hc
  · rw [List.eq_of_mem_replicate hc]
    simp [Wld.signs]
theorem st_lt {F : Fld} (ok : FOk F) {X : List Nat} (h : SgOk F X) {c : Nat} (hc : c ∈ F.kinds) : stA F.W c X < (kOf F.W c).rows.length :=
  stand_lt (ok.rok hc) (by simp [Wld.signs]) _ _ (by have := (ok.rok hc).len; omega) h
theorem st_sil {F : Fld} (ok : FOk F) {X : List Nat} (h : SgOk F X) {c : Nat} (hc : c ∈ F.kinds) : ∀ n, stA F.W c (sil X n) = stA F.W c X
  | 0 => by simp [sil]
  | n + 1 => by
    rw [sil_succ, stA_snoc, st_sil ok h hc n]
    exact go_dot (ok.rok hc) (st_lt ok h hc)
theorem wk_sil {F : Fld} (ok : FOk F) {X : List Nat} (h : SgOk F X) {c : Nat} (hc : c ∈ F.kinds) : ∀ n, wkA F.W c (sil X n) = wkA F.W c X + (n : Int) * (rowAt (kOf F.W c).rows (stA F.W c X)).stride
  | 0 => by simp [sil]
  | n + 1 => by
    rw [sil_succ, wkA_snoc, ← sil_succ, st_sil ok h hc, wk_sil ok h hc n, Int.natCast_succ, Int.add_mul]
    omega
theorem sil_take (X : List Nat) (n l : Nat) (h : l ≤ n) : (sil X n).take ((sil X n).length - l) = sil X (n - l) := by
  unfold sil
  simp only [List.length_append, List.length_replicate]
  rw [List.take_append, List.take_of_length_le (by omega), List.take_replicate]
  congr 2
  omega
/-- the drift of a pair -/
def drift (F : Fld) (X : List Nat) (q : Nat × Nat) : Int := (rowAt (kOf F.W q.1).rows (stA F.W q.1 X)).stride - (rowAt (kOf F.W q.2).rows (stA F.W q.2 X)).stride
theorem gap_sil {F : Fld} (ok : FOk F) {X : List Nat} (h : SgOk F X) {q : Nat × Nat} (hq : q ∈ F.twos) {n : Nat} (hn : lgA F.W q.1 ≤ n) (m : Nat) : gapX F.W q.1 q.2 (sil X (n + m)) = gapX F.W q.1 q.2 (sil X n) + (m : Int) * drift F X q := by
  obtain ⟨ha, hb⟩ := ok.tw q hq
  unfold gapX drift
  rw [sil_take X (n + m) _ (by omega), sil_take X n _ hn, st_sil ok h ha, st_sil ok h ha, wk_sil ok h ha, wk_sil ok h ha, wk_sil ok h hb, wk_sil ok h hb]
  have e1 : ((n + m - lgA F.W q.1 : Nat) : Int) = ((n - lgA F.W q.1 : Nat) : Int) + (m : Int) := by omega
  rw [e1, Int.natCast_add, Int.add_mul, Int.add_mul, Int.mul_sub]
  omega
/-- gaps that stay within ten turns do not drift -/
theorem no_drift {F : Fld} (ok : FOk F) {X : List Nat} (h : SgOk F X) {q : Nat × Nat} (hq : q ∈ F.twos) {n : Nat} (hn : lgA F.W q.1 ≤ n) (h0 : F.lo ≤ gapX F.W q.1 q.2 (sil X n) ∧ gapX F.W q.1 q.2 (sil X n) ≤ F.hi) {m : Nat} (hm : F.hi - F.lo < (m : Int))
    (h1 : F.lo ≤ gapX F.W q.1 q.2 (sil X (n + m)) ∧ gapX F.W q.1 q.2 (sil X (n + m)) ≤ F.hi) : drift F X q = 0 := by
  rw [gap_sil ok h hq hn m] at h1
  have m0 : 0 ≤ (m : Int) := by omega
  rcases Int.lt_trichotomy (drift F X q) 0 with d | d | d
  · have : (m : Int) * drift F X q ≤ (m : Int) * (-1) := Int.mul_le_mul_of_nonneg_left (by omega) m0
    omega
  · exact d
  · have : (m : Int) * 1 ≤ (m : Int) * drift F X q := Int.mul_le_mul_of_nonneg_left (by omega) m0
    omega
theorem jt_steady {F : Fld} (ok : FOk F) {X : List Nat} (h : SgOk F X) (hd : ∀ q ∈ F.twos, drift F X q = 0) {n : Nat} (hn : 2 ≤ n) : jt F (sil X (n + 1)) = jt F (sil X n) := by
  show (⟨_, _⟩ : Jt) = ⟨_, _⟩
  congr 1
  · exact List.map_congr_left fun c hc => by rw [st_sil ok h hc, st_sil ok h hc]
  · refine List.map_congr_left fun q hq => ?_
    obtain ⟨ha, hb⟩ := ok.tw q hq
    have la := ok.lg ha
    unfold rowJ
    rw [sil_take X (n + 1) _ (by omega), sil_take X n _ (by omega), st_sil ok h hb, st_sil ok h hb, gap_sil ok h hq (n := n) (by omega) 1, hd q hq]
    have e : (List.replicate (lgA F.W q.1) 46 ++ sil X (n + 1)).drop (sil X (n + 1)).length = (List.replicate (lgA F.W q.1) 46 ++ sil X n).drop (sil X n).length := by
      have key : ∀ k, lgA F.W q.1 ≤ k → (List.replicate (lgA F.W q.1) 46 ++ sil X k).drop (sil X k).length = List.replicate (lgA F.W q.1) 46 := by
        intro k hk
        have e3 : (List.replicate (lgA F.W q.1) 46 ++ sil X k) = (List.replicate (lgA F.W q.1) 46 ++ (X ++ List.replicate (k - lgA F.W q.1) 46)) ++ List.replicate (lgA F.W q.1) 46 := by
          unfold sil
          rw [List.append_assoc, List.append_assoc, List.replicate_append_replicate, show k - lgA F.W q.1 + lgA F.W q.1 = k by omega]
        rw [e3, List.drop_left' (by rw [sil_len]; simp; omega)]
      rw [key _ (by omega), key _ (by omega)]
    rw [e]
    simp
/-- thirteen turns that keep the wish: two joints are alike -/
theorem steady13 {F : Fld} (ok : FOk F) {X : List Nat} (h : SgOk F X) (hk : ∀ k, k ≤ 12 → keeps F (sil X k)) : jt F (sil X 3) = jt F (sil X 2) := by
  refine jt_steady ok h (fun q hq => ?_) (Nat.le_refl _)
  have la := ok.lg (ok.tw q hq).1
  have := ok.wi
  exact no_drift ok h hq (n := 2) la.2 (hk 2 (by omega) q hq) (m := 10) (by omega) (hk 12 (by omega) q hq)
/-- joints that come again -/
theorem again {F : Fld} (ok : FOk F) {X : List Nat} {n i : Nat} (hi : i < n) (e : jt F (sil X n) = jt F (sil X i)) : ∀ m, ∃ k, k < n ∧ jt F (sil X m) = jt F (sil X k)
  | 0 => ⟨0, by omega, rfl⟩
  | m + 1 => by
    obtain ⟨k, hk, ek⟩ := again ok hi e m
    have e1 : jt F (sil X (m + 1)) = jt F (sil X (k + 1)) := by
      rw [sil_succ, sil_succ]
      exact jt_app ok ek _
    by_cases h : k + 1 < n
    · exact ⟨k + 1, h, e1⟩
    · have : k + 1 = n := by omega
      rw [this, e] at e1
      exact ⟨i, hi, e1⟩

end
end TH
end
section
set_option Elab.async false
set_option linter.all false
set_option maxRecDepth 100000
set_option maxHeartbeats 4000000
namespace TH
open PySem PySem.Spec PyProof.Rows L2
section
variable {P : Program} {w : World} {K : PySem.W.Frag} {mg : Str → Option Value} {base : Heap}
/-! check_goal, Field.__init__ -/
theorem IsDrill.stnd {H : Hp} {v : V} {ws : List Nat} {rs : List Row} (h : IsDrill K H v ws rs) : ∃ (a dx b : Addr) (fs : List (Str × V)) (xs : List V), v = .ref a ∧ H a = some (.ins (He.ga K "Drill") dx fs) ∧ fs.lookup ("standings" : Str) = some (.ref b) ∧ SqT K H b xs ∧ xs.length = rs.length := by
  obtain ⟨a, dx', fs, sv, st, bd, ld, e, ha, l1, l2, l3, l4, t1, r⟩ := h.ex
  obtain ⟨b, xs, rfl, hb, lx, _⟩ := rows_inv t1
  exact ⟨a, dx', b, fs, xs, e, ha, l1, hb, lx⟩
def goalOf (row goal : List Nat) (c : Nat) : Nat := (goal[row.idxOf c]?).getD 0
theorem depth_goal (goal : List Nat) : (NestedKey.tup (goal.map kN)).depth ≤ 6 := by
  have := depth_nats goal
  simp only [NestedKey.depth]
  omega
structure GoalOk (W : Wld) (row goal : List Nat) : Prop where
  l : goal.length = row.length
  lt : ∀ i c g : Nat, row[i]? = some c → goal[i]? = some g → g < (kOf W c).rows.length
theorem p_check_goal (T : Tx K mg) : Pr P w K mg base CX0 8 ["make", "goal"] [] (He.ga K "check_goal")
    (fun vs H Q _ => ∃ (m gv : V) (W : Wld) (row goal : List Nat), vs = [m, gv] ∧ IsMake K H m W row ∧ WOk W ∧ Dd K H gv (.tup (goal.map kN)) ∧ GoalOk W row goal ∧
      ∀ H' t kvs, Same H H' → H' t = some (.dK kvs) → (∀ i c g : Nat, row[i]? = some c → goal[i]? = some g → valV kvs (.inr (one c)) = some (.int (g : Nat))) → Q (.ref t) H') := by
  refine T.d_check_goal.pr scs_check_goal (fun vs H Q E h => ?_) (fun cdv A outer s H vs Q E hr h => ?_)
  · obtain ⟨m, gv, W, row, goal, rfl, _⟩ := h
    rfl
  · obtain ⟨m, gv, W, row, goal, rfl, hm, wok, hg, gok, q⟩ := h
    have hu := hu_of hr
    have rl : row.length ≤ 2 := by
      rw [hm.perm.length_eq]
      have := wok.kl
      simpa [Wld.names] using this.2
    refine ⟨_, (pss_cons (ps_set (i := 2) scs_check_goal.nd rfl (.inl rfl) (pcall (p_deep_d T) (hr.mono (by decide)) (by rfl) T.g_deep pass0 (pa_cons (pv 1) pa_nil)))
    (pss_cons (ps_if (pw_or (pt_not (pt_val (pe_callB call_isiS (by rfl) T.z_isinstance (by decide +kernel) (pa_cons (pv 2) (pa_cons (pe_bltn (v := .ty "tuple") (by rfl) T.z_tuple (by decide +kernel : bootBuiltins "tuple" = some (.type "tuple")) rfl) pa_nil))))) (pw_or1 (pt_cmpR op_ne (pe_callB call_len_seq (by rfl) T.z_len PySem.boot_len (pa_cons (pv 2) pa_nil)) (pe_callB call_len_str (by rfl) T.z_len PySem.boot_len (pa_cons (pe_fld (pv 0) rfl) pa_nil)) (nomark _)))).pt
      (pss_one ps_never)
      pss_nil)
    (pss_cons (ps_set (i := 3) scs_check_goal.nd rfl (.inl rfl) pe_dnewK)
    (pss_cons (ps_for PassesOwn.never rfl (pi_en (by rfl) T.z_enumerate (pa_cons (pe_fld (pv 0) rfl) pa_nil)) (pg_tup rfl (pgs_cons (pg_name (i := 4) scs_check_goal.nd rfl (.inl rfl) (.inl rfl)) (pgs_cons (pg_name (i := 5) scs_check_goal.nd rfl (.inl rfl) (.inl rfl)) pgs_nil)))
      (pss_cons (ps_set (i := 6) scs_check_goal.nd rfl (.inl rfl) (pe_dget hu (pe_fld (pv 0) rfl) (pv 5) (fun _ _ => rfl)))
      (pss_cons (ps_if (pt_not (pt_val (pcall (p_is_integer T) (hr.mono (by decide)) (by rfl) T.g_is_integer pass0 (pa_cons (pe_ix ix_tup (pv 2) (pv 4) (fun _ _ => rfl)) (pa_cons pe_int (pa_cons (pe_op op_sub (pe_callB call_len_seq (by rfl) T.z_len PySem.boot_len (pa_cons (pe_fld (pv 6) rfl) pa_nil)) pe_int) pa_nil))))))
        (pss_one ps_never)
        pss_nil)
      (pss_cons (ps_if (pt_cmpR op_ne (pe_dget hu (pe_ix ix_tup (pe_fld (pv 6) rfl) (pe_ix ix_tup (pv 2) (pv 4) (fun _ _ => rfl)) (fun _ _ => rfl)) pe_str (fun _ _ => rfl)) (pe_ix ix_tup (pv 2) (pv 4) (fun _ _ => rfl)) (nomark _))
        (pss_one ps_never)
        pss_nil)
      (pss_one (ps_dput hu (pv 3) (pv 5) (pe_ix ix_tup (pv 2) (pv 4) (fun _ _ => rfl)) rfl))))))
    (pss_one (ps_ret (pv 3))))))), ?_⟩
    refine ⟨gv, rfl, gv, 12, _, rfl, hg, depth_goal _, by decide, fun H1 v1 s1 t1 => ?_⟩
    obtain ⟨ga, xs, rfl, hga, _, hxs⟩ := t1.tup_inv
    have ex := nats_inv hxs
    subst ex
    have lx : (natsV goal).length = row.length := by simp [natsV, gok.l]
    obtain ⟨ma, mdx, mfs, em, hma, l3, l4⟩ := (hm.same s1).signs
    refine ⟨_, rfl, _, _, "tuple", true, rfl, ty_tup hga, by decide +kernel, true, rfl, iteF ?_⟩
    refine ⟨_, rfl, ga, _, rfl, .inr hga, _, rfl, ma, _, mdx, mfs, _, em, hma, T.c_Make, T.n_Make_name_row, l4, str row, rfl, by rw [str_len]; exact sz2 (by omega), rfl, _, rfl, iteNS (by rw [str_len, lx]) ?_⟩
    intro t nt
    have s2 := same_upd (o := .dK []) nt
    have e2 : (upd H1 t (.dK [])) t = some (.dK []) := upd_same
    generalize upd H1 t (.dK []) = H2 at s2 e2 ⊢
    have nd : row.Nodup := hm.rise.imp fun h => Nat.ne_of_lt h
    refine ⟨_, rfl, ma, _, mdx, mfs, _, em, s2 _ _ hma, T.c_Make, T.n_Make_name_row, l4, .txt (str row), signsV (str row), rfl, rfl, for_it (walk_en (K := K) (s1 := .txt (str row)) (xs := signsV (str row))) (fun i σ H' => Same H1 H' ∧ (∃ kvs, H' t = some (.dK kvs) ∧ kvs.length ≤ i ∧ ∀ j c g : Nat, j < i → row[j]? = some c → goal[j]? = some g → valV kvs (.inr (one c)) = some (.int (g : Nat))) ∧ ∃ x4 x5 x6, σ = [some m, some gv, some (.ref ga), some (.ref t), x4, x5, x6])
      ⟨s2, ⟨[], e2, Nat.le_refl _, fun j c g hj => by omega⟩, _, _, _, rfl⟩ (fun i σ H' _ h => rfl) (fun i y σ H3 H4 hi h y => ?_) fun σ H3 h => ?_⟩
    · obtain ⟨s3, ⟨kvs, k1, k2', k3'⟩, x4, x5, x6, rfl⟩ := h
      obtain ⟨Tq, y1, rfl, nT, s4, e4, g1⟩ := y
      obtain ⟨c, gc, rfl⟩ := chars_at g1
      have s34 := s3.trans s4
      have hi' : i < row.length := (List.getElem?_eq_some_iff.mp gc).1
      obtain ⟨g, hgi⟩ : ∃ g, goal[i]? = some g := ⟨goal[i]'(by have := gok.l; omega), List.getElem?_eq_getElem _⟩
      have gi := natsV_at hgi
      have glt := gok.lt i c g gc hgi
      have mc : c ∈ W.names := hm.perm.mem_iff.mp (List.mem_of_getElem? gc)
      have rok := wok.rows _ (kOf_mem mc).1
      have hm4 := (hm.same s1).same s34
      obtain ⟨ma2, mdx2, dd, mfs2, kd, dv, em2, hma2, l6, hdd, vd, isd⟩ := hm4.drill mc
      obtain ⟨da, ddx, sb, dfs, sxs, edv, hda, l7, hsb, lsb⟩ := isd.stnd
      refine ⟨Tq, _, rfl, .inl (.inl e4), rfl, _, _, rfl, _, _, rfl, rfl, ?_⟩
      refine ⟨_, rfl, ma2, _, mdx2, mfs2, _, em2, hma2, T.c_Make, T.n_Make_drills, l6, _, rfl, dd, _, rfl, .inl ⟨kd, .inr (one c), .inl hdd, rfl, vd.symm⟩, ?_⟩
      have hga4 := s34.tup hga
      refine ⟨_, rfl, _, rfl, ga, _, (i : Nat), _, rfl, rfl, hga4, atI_nat gi, _, rfl, da, _, ddx, dfs, _, edv, hda, T.c_Drill, T.n_Drill_standings, l7, sb, sxs, rfl, .inr hsb, (sxs.length : Nat), 1, rfl, rfl, (g : Nat), 0, ((sxs.length : Nat) - 1 : Int), rfl, ?_⟩
      rw [decide_eq_true (show (0 : Int) ≤ ((g : Nat) : Int) ∧ ((g : Nat) : Int) ≤ ((sxs.length : Nat) - 1 : Int) by omega)]
      refine ⟨true, rfl, iteF ?_⟩
      obtain ⟨da3, ddx3, lb, ld, dfs3, lxs, lkvs, edv3, hda3, l8, hlb, vlb, hld, vld⟩ := isd.leads rok glt (c := 46) (by simp)
      rw [go_dot rok glt] at vld
      refine ⟨_, rfl, da3, _, ddx3, dfs3, _, edv3, hda3, T.c_Drill, T.n_Drill_leads, l8, _, rfl, _, rfl, ga, _, (i : Nat), _, rfl, rfl, hga4, atI_nat gi, lb, lxs, (g : Nat), _, rfl, rfl, hlb, atI_nat vlb, ld, _, rfl, .inl ⟨lkvs, .inr (one 46), .inl hld, rfl, vld.symm⟩, _, rfl, _, rfl, ga, _, (i : Nat), _, rfl, rfl, hga4, atI_nat gi, rfl, _, rfl, iteNS rfl ?_⟩
      refine ⟨_, rfl, _, rfl, ga, _, (i : Nat), _, rfl, rfl, hga4, atI_nat gi, _, rfl, _, rfl, t, _, rfl, DPut.k (kvs := kvs) (k := .inr (one c)) (s4 _ _ k1) (sz2l (by omega)), ?_⟩
      refine ⟨s34.sb nt sb_upd, ⟨_, upd_same, Nat.le_trans (putK_le _ _ _) (by omega), fun j c' g' hj hc' hg' => ?_⟩, _, _, _, rfl⟩
      rw [valV_put]
      by_cases ej : j = i
      · subst ej
        rw [gc] at hc'
        rw [hgi] at hg'
        cases hc'
        cases hg'
        rw [if_pos rfl]
      · rw [if_neg fun z => ej (nodup_at nd hc' (by rw [one_inj (Sum.inr.inj z)]; exact gc))]
        exact k3' j c' g' (by omega) hc' hg'
    · obtain ⟨s3, ⟨kvs, k1, k2', k3'⟩, x4, x5, x6, rfl⟩ := h
      have ls : (signsV (str row)).length = row.length := by simp [signs_str]
      exact ⟨_, rfl, q H3 t kvs (s1.trans s3) k1 fun i c g hc hg => k3' i c g (by rw [ls]; exact (List.getElem?_eq_some_iff.mp hc).1) hc hg⟩
structure IsField (K : PySem.W.Frag) (H : Hp) (v : V) (F : Fld) (row : List Nat) : Prop where
  ex : ∃ (a dx : Addr) (fs : List (Str × V)) (mv kv tv wv gv : V), v = .ref a ∧ H a = some (.ins (He.ga K "Field") dx fs) ∧ (fs.lookup ("first_joint" : Str) = none ∧ fs.lookup ("led" : Str) = none ∧ fs.lookup ("keeps" : Str) = none ∧ fs.lookup ("settled" : Str) = none) ∧
    (fs.lookup ("make" : Str) = some mv ∧ IsMake K H mv F.W row) ∧ (fs.lookup ("kinds" : Str) = some kv ∧ Tp K H kv (.tup (F.kinds.map kC))) ∧ (fs.lookup ("twos" : Str) = some tv ∧ Tp K H tv (.tup (F.twos.map encPair))) ∧
    (fs.lookup ("wish" : Str) = some wv ∧ Tp K H wv (.tup [.num F.lo, .num F.hi])) ∧ (fs.lookup ("goal" : Str) = some gv ∧ Tp K H gv (.tup (F.goal.map kN))) ∧ PlTup H kv
theorem IsField.kp {H H' : Hp} {v : V} {F : Fld} {row : List Nat} (h : IsField K H v F row) (s : Kp H H') : IsField K H' v F row := by
  obtain ⟨a, dx, fs, mv, kv, tv, wv, gv, e, ha, m, ⟨l1, h1⟩, ⟨l2, h2⟩, ⟨l3, h3⟩, ⟨l4, h4⟩, ⟨l5, h5⟩, pk⟩ := h.ex
  exact ⟨a, dx, fs, mv, kv, tv, wv, gv, e, s _ _ (fun _ z => nomatch z) ha, m, ⟨l1, h1.kp s⟩, ⟨l2, h2.kp s⟩, ⟨l3, h3.kp s⟩, ⟨l4, h4.kp s⟩, ⟨l5, h5.kp s⟩, pk.kp s⟩
theorem IsField.same {H H' : Hp} {v : V} {F : Fld} {row : List Nat} (h : IsField K H v F row) (s : Same H H') : IsField K H' v F row := h.kp (Kp.of s)
theorem IsPlan.sbn {H H' : Hp} {x C dx : Addr} {v : V} {p : Pl} (h : IsPlan K H v p) (hx : H x = some (.ins C dx [])) (s : Sb x H H') : IsPlan K H' v p := by
  obtain ⟨a, dx', fs, sv, e, ha, l, t⟩ := h.ex
  exact ⟨a, dx', fs, sv, e, s _ _ (fun z => by rw [z, hx] at ha; cases ha; cases l) ha, l, t.kt (sb_ins s hx)⟩
theorem signC_at {H : Hp} {ks : List Nat} {xs : List V} {i : Nat} {x : V} (h : TpAll K H xs (ks.map kC)) (g : xs[i]? = some x) : ∃ c, ks[i]? = some c ∧ x = .str (one c) := by
  obtain ⟨k, gk, tk⟩ := h.at g
  obtain ⟨c, gc, rfl⟩ := map_at gk
  exact ⟨c, gc, tk.str_inv⟩
theorem p_Field_init (T : Tx K mg) : Pr P w K mg base CX0 3 ["self", "make", "columns", "wish", "goal"] [] (He.ma K (He.ga K "Field") "__init__")
    (fun vs H Q _ => ∃ (x dx : Addr) (m cv wv : V) (t : Addr) (kvs : List (Key × V)) (W : Wld) (row names goal : List Nat) (p : Pl) (lo hi : Int), vs = [.ref x, m, cv, wv, .ref t] ∧ H x = some (.ins (He.ga K "Field") dx []) ∧ IsMake K H m W row ∧ IsPlan K H cv p ∧ PlOk names p ∧
      Tp K H wv (.tup [.num lo, .num hi]) ∧ H t = some (.dK kvs) ∧ (∀ i c g : Nat, row[i]? = some c → goal[i]? = some g → valV kvs (.inr (one c)) = some (.int (g : Nat))) ∧ goal.length = row.length ∧ (∀ c, Kd p c → c ∈ row) ∧
      ∀ H' ks tw, Sb x H H' → Kinds p ks → Twos p tw → IsField K H' (.ref x) ⟨W, ks, tw, lo, hi, ks.map (goalOf row goal)⟩ row → Q .non H') := by
  refine T.d_Field_init.pr scs_Field_init (fun vs H Q E h => ?_) (fun cdv A outer s H vs Q E hr h => ?_)
  · obtain ⟨x, dx, m, cv, wv, t, kvs, W, row, names, goal, p, lo, hi, rfl, _⟩ := h
    rfl
  · obtain ⟨x, dx, m, cv, wv, t, kvs, W, row, names, goal, p, lo, hi, rfl, hx, hm, hp, pok, hw, ht, hg, gl, hk, q⟩ := h
    have hu := hu_of hr
    refine ⟨_, (pss_cons (ps_fld (pv 0) (pv 1) rfl)
    (pss_cons (ps_fld (pv 0) (pcall (p_kinds_of_columns T) (hr.mono (by decide)) (by rfl) T.g_kinds_of_columns pass0 (pa_cons (pv 2) pa_nil)) rfl)
    (pss_cons (ps_fld (pv 0) (pcall (p_neighbours_of T) (hr.mono (by decide)) (by rfl) T.g_neighbours_of pass0 (pa_cons (pv 2) pa_nil)) rfl)
    (pss_cons (ps_fld (pv 0) (pv 3) rfl)
    (pss_one (ps_fld (pv 0) (pe_callTy call_tupU (by rfl) T.z_tuple (by decide +kernel) (pa_cons (pe_lc (own := [("name", 5)]) rfl scs_Field_init.nd (pi_tup (pe_fld (pv 0) rfl)) (blkOk_by (N := ["self", "make", "columns", "wish", "goal", "name"]) (sc := defScope s_Field_init) (by decide +kernel)) (fun _ _ _ _ _ => (pg_name (i := 5) scs_Field_init.nd rfl (.inl rfl) (.inr rfl))) (fun _ _ _ _ _ => pts_nil) (fun _ _ _ _ _ => (pe_dget hu (pv 4) (pv 5) (fun _ _ => rfl)))) pa_nil)) rfl)))))), ?_⟩
    have b0 : Bld H H x (He.ga K "Field") dx [] := ⟨Sb.refl _ _, hx⟩
    have ntx : t ≠ x := fun z => by rw [z, hx] at ht; cases ht
    refine ⟨_, rfl, _, rfl, x, _, dx, _, rfl, b0.o, T.c_Field, T.n_Field_make, by decide, b0.step (K := K) "make" _ (n := 0) (by decide) fun H1 f1 b1 e1 n1 sb1 k1 => ?_⟩
    refine ⟨_, rfl, cv, p, names, rfl, hp.sbn hx b1.s, pok, fun H2 kv ks s2 pk tk kk => ?_⟩
    have b2 := b1.grow s2
    refine ⟨_, rfl, x, _, dx, _, rfl, b2.o, T.c_Field, T.n_Field_kinds, by omega, b2.step (K := K) "kinds" _ n1 fun H3 f3 b3 e3 n3 sb3 k3 => ?_⟩
    refine ⟨_, rfl, cv, p, names, rfl, hp.sbn hx b3.s, pok, fun H4 tv tw s4 tt hh => ?_⟩
    have b4 := b3.grow s4
    refine ⟨_, rfl, x, _, dx, _, rfl, b4.o, T.c_Field, T.n_Field_twos, by omega, b4.step (K := K) "twos" _ n3 fun H5 f5 b5 e5 n5 sb5 k5 => ?_⟩
    refine ⟨_, rfl, _, rfl, x, _, dx, _, rfl, b5.o, T.c_Field, T.n_Field_wish, by omega, b5.step (K := K) "wish" _ n5 fun H6 f6 b6 e6 n6 sb6 k6 => ?_⟩
    have tk6 := ((tk.kt k3).same s4).kt k5
    have tk6 := tk6.kt k6
    have tt6 := (tt.kt k5).kt k6
    have ht6 := b6.s _ _ ntx ht
    have pk6 := (((pk.sb sb3 b2.o).kp (Kp.of s4)).sb sb5 b4.o).sb sb6 b5.o
    have lk6 : f6.lookup ("kinds" : Str) = some kv := by
      rw [e6, e5, e3]
      exact look_ne (by decide) (look_ne (by decide) (look_same _ _ _))
    have tk6' := tk6
    obtain ⟨ka, kxs, rfl, hka, lka, hkx⟩ := tk6.tup_inv
    have lkx : kxs.length = ks.length := by simpa using hkx.length
    refine ⟨_, rfl, x, _, dx, f6, _, rfl, b6.o, T.c_Field, T.n_Field_kinds, lk6, ka, rfl, ⟨kxs, hka⟩, fun D hD => lc_map (walk_tup (xs := kxs)) hD lka (fun H' s' => s'.tup hka) (fun i acc _ => acc = natsV ((ks.take i).map (goalOf row goal))) (fun _ _ _ _ _ h => h) rfl (fun i y H7 H8 acc k kz hi1 s7 a1 l1 y hky _ => ?_) fun H7 acc s7 eD lD aD => ?_⟩
    · obtain ⟨rfl, g⟩ := y
      obtain ⟨c, gc, rfl⟩ := signC_at hkx g
      have cr := hk c ((kk.iff c).mp (List.mem_of_getElem? gc))
      have ir := idx_at cr
      have il : row.idxOf c < goal.length := by
        rw [gl]
        exact List.idxOf_lt_length_of_mem cr
      have ig : goal[row.idxOf c]? = some (goalOf row goal c) := by
        unfold goalOf
        rw [List.getElem?_eq_getElem il]
        rfl
      refine ⟨rfl, yes_if ⟨_, rfl, _, rfl, t, _, rfl, .inl ⟨kvs, .inr (one c), .inl (s7 _ _ ht6), rfl, (hg _ _ _ ir ig).symm⟩, hky _ _ (Same.refl _) ?_⟩⟩
      rw [a1, take_snoc gc, List.map_append]
      simp [natsV]
    · rw [lkx, List.take_length] at aD
      subst aD
      refine ⟨D, _, rfl, .inl (.inl (.inl eD)), fun u8 H8 s8 h8 => ?_⟩
      have b8 := (b6.grow s7).grow s8
      refine ⟨_, rfl, x, _, dx, _, rfl, b8.o, T.c_Field, T.n_Field_goal, by omega, b8.step (K := K) "goal" _ n6 fun H9 f9 b9 e9 n9 sb9 k9 => ?_⟩
      have s68 := s7.trans s8
      refine q H9 ks tw b9.s kk hh ⟨x, dx, f9, m, .ref ka, tv, wv, .ref u8, rfl, b9.o, ⟨?_, ?_, ?_, ?_⟩, ⟨?_, hm.sbn hx b9.s⟩, ⟨?_, (tk6'.same s68).kt k9⟩, ⟨?_, (tt6.same s68).kt k9⟩, ⟨?_, hw.kt (sb_ins b9.s hx)⟩, ⟨?_, ?_⟩, (pk6.kp (Kp.of s68)).sb sb9 b8.o⟩
      · rw [e9, e6, e5, e3, e1]
        exact look_ne (by decide) (look_ne (by decide) (look_ne (by decide) (look_ne (by decide) (look_ne (by decide) rfl))))
      · rw [e9, e6, e5, e3, e1]
        exact look_ne (by decide) (look_ne (by decide) (look_ne (by decide) (look_ne (by decide) (look_ne (by decide) rfl))))
      · rw [e9, e6, e5, e3, e1]
        exact look_ne (by decide) (look_ne (by decide) (look_ne (by decide) (look_ne (by decide) (look_ne (by decide) rfl))))
      · rw [e9, e6, e5, e3, e1]
        exact look_ne (by decide) (look_ne (by decide) (look_ne (by decide) (look_ne (by decide) (look_ne (by decide) rfl))))
      · rw [e9, e6, e5, e3, e1]
        exact look_ne (by decide) (look_ne (by decide) (look_ne (by decide) (look_ne (by decide) (look_same _ _ _))))
      · rw [e9]
        exact look_ne (by decide) lk6
      · rw [e9, e6, e5]
        exact look_ne (by decide) (look_ne (by decide) (look_same _ _ _))
      · rw [e9, e6]
        exact look_ne (by decide) (look_same _ _ _)
      · rw [e9]
        exact look_same _ _ _
      · refine .tup (k9 _ _ h8) ?_ (nats_tp _)
        simp [natsV]
        have := kk.len
        omega

end
end TH
end
section
set_option Elab.async false
set_option linter.all false
set_option maxRecDepth 100000
set_option maxHeartbeats 4000000
namespace TH
open PySem PySem.Spec PyProof.Rows L2
section
variable {P : Program} {w : World} {K : PySem.W.Frag} {mg : Str → Option Value} {base : Heap}
/-! Field: first_joint, keeps, led -/
theorem pair2_at {H : Hp} {tw : List (Nat × Nat)} {xs : List V} {i : Nat} {x : V} (h : TpAll K H xs (tw.map encPair)) (g : xs[i]? = some x) : ∃ a b u, tw[i]? = some (a, b) ∧ x = .ref u ∧ SqT K H u [.str (one a), .str (one b)] := by
  obtain ⟨k, gk, tk⟩ := h.at g
  obtain ⟨⟨a, b⟩, gq, rfl⟩ := map_at gk
  obtain ⟨u, ys, rfl, hu, _, hy⟩ := tk.tup_inv
  cases hy with
  | cons h1 h2 =>
    cases h2 with
    | cons h2 h3 =>
      cases h3
      rw [h1.str_inv, h2.str_inv] at hu
      exact ⟨a, b, u, gq, rfl, hu⟩
theorem jrow_inv {H : Hp} {v : V} {r : JRow} (h : Tp K H v (encJR r)) : ∃ a, v = .ref a ∧ SqT K H a [.int (r.1 : Nat), .str (str r.2.1), .int r.2.2] := by
  obtain ⟨a, xs, rfl, hs, _, ha⟩ := h.tup_inv
  cases ha with
  | cons h1 h2 =>
    cases h2 with
    | cons h2 h3 =>
      cases h3 with
      | cons h3 h4 =>
        cases h4
        rw [h1.int_inv, h2.str_inv, h3.int_inv] at hs
        exact ⟨a, rfl, hs⟩
theorem jrow_tp {H : Hp} {u : Addr} {r : JRow} (h : H u = some (.tup [.int (r.1 : Nat), .str (str r.2.1), .int r.2.2])) : Tp K H (.ref u) (encJR r) := .tup (.inl (.inl h)) (by simp) (.cons (.int _) (.cons (.str _) (.cons (.int _) .nil)))
theorem joint_inv {H : Hp} {v : V} {j : Jt} (h : Tp K H v (encJ j)) : ∃ a sa ra, v = .ref a ∧ SqT K H a [.ref sa, .ref ra] ∧ Tp K H (.ref sa) (.tup (j.st.map kN)) ∧ Tp K H (.ref ra) (.tup (j.rows.map encJR)) := by
  obtain ⟨a, xs, rfl, hs, _, ha⟩ := h.tup_inv
  cases ha with
  | cons h1 h2 =>
    cases h2 with
    | cons h2 h3 =>
      cases h3
      have h1' := h1
      have h2' := h2
      obtain ⟨sa, _, rfl, _⟩ := h1.tup_inv
      obtain ⟨ra, _, rfl, _⟩ := h2.tup_inv
      exact ⟨a, sa, ra, rfl, hs, h1', h2'⟩
theorem joint_tp {H : Hp} {u : Addr} {x y : V} {j : Jt} (h : H u = some (.tup [x, y])) (h1 : Tp K H x (.tup (j.st.map kN))) (h2 : Tp K H y (.tup (j.rows.map encJR))) : Tp K H (.ref u) (encJ j) := .tup (.inl (.inl h)) (by simp) (.cons h1 (.cons h2 .nil))
theorem jt0_row (W : Wld) (a b : Nat) : rowJ W [] (a, b) = (0, List.replicate (lgA W a) 46, ((W.space : Nat) : Int)) := by
  have e0 : stA W a [] = 0 := rfl
  have e1 : wkA W a [] = 0 := rfl
  have e3 : stA W b [] = 0 := rfl
  have e4 : wkA W b [] = 0 := rfl
  simp only [rowJ, gapX, List.take_nil, List.length_nil, List.drop_zero, List.append_nil, e0, e1, e3, e4]
  rw [Prod.mk.injEq, Prod.mk.injEq]
  refine ⟨rfl, rfl, ?_⟩
  omega
theorem TpAll.upto {H : Hp} {α : Type} {f : α → NK} {l : List α} {acc : List V} {i : Nat} {a : α} {y : V} (h : TpAll K H acc ((l.take i).map f)) (g : l[i]? = some a) (hy : Tp K H y (f a)) : TpAll K H (acc ++ [y]) ((l.take (i + 1)).map f) := by
  rw [take_snoc g, List.map_append]
  exact h.snoc hy
theorem p_Field_first_joint (T : Tx K mg) : Pr P w K mg base CX0 4 ["self"] [] (He.ma K (He.ga K "Field") "first_joint")
    (fun vs H Q _ => ∃ (v : V) (F : Fld) (row : List Nat), vs = [v] ∧ IsField K H v F row ∧ FOk F ∧ ∀ H' u, Same H H' → Tp K H' u (encJ (jt F [])) → Q u H') := by
  refine T.d_Field_first_joint.pr scs_Field_first_joint (fun vs H Q E h => ?_) (fun cdv A outer s H vs Q E hr h => ?_)
  · obtain ⟨v, F, row, rfl, _⟩ := h
    rfl
  · obtain ⟨v, F, row, rfl, hv, ok, q⟩ := h
    have hu := hu_of hr
    refine ⟨_, (pss_cons (ps_set (i := 1) scs_Field_first_joint.nd rfl (.inl rfl) (pe_lst pa_nil))
    (pss_cons (ps_for PassesOwn.never rfl (pi_tup (pe_fld (pv 0) rfl)) (pg_tup rfl (pgs_cons (pg_name (i := 2) scs_Field_first_joint.nd rfl (.inl rfl) (.inl rfl)) (pgs_cons (pg_name (i := 3) scs_Field_first_joint.nd rfl (.inl rfl) (.inl rfl)) pgs_nil)))
      (pss_one (ps_expr (pe_bm PySem.F.plainAttrs_list PySem.F.slot_list_append PySem.F.type_list_append mt_appU (pv 1) (pa_cons (pe_tup (pa_cons pe_int (pa_cons (pe_op op_mulS pe_str (pe_dget hu (pe_fld (pe_fld (pv 0) rfl) rfl) (pv 2) (fun _ _ => rfl))) (pa_cons (pmeth (p_Make_seat_of T) (pe_fld (pv 0) rfl) T.c_Make T.m_Make_seat_of (hr.mono (by decide)) pass0 (pa_cons (pv 2) (pa_cons (pv 3) pa_nil))) pa_nil)))) pa_nil)))))
    (pss_one (ps_ret (pe_tup (pa_cons (pe_callTy call_tupU (by rfl) T.z_tuple (by decide +kernel) (pa_cons (pe_lc (own := [("name", 4)]) rfl scs_Field_first_joint.nd (pi_tup (pe_fld (pv 0) rfl)) (blkOk_by (N := ["self", "rows", "ahead", "behind", "name"]) (sc := defScope s_Field_first_joint) (by decide +kernel)) (fun _ _ _ _ _ => (pg_name (i := 4) scs_Field_first_joint.nd rfl (.inl rfl) (.inr rfl))) (fun _ _ _ _ _ => pts_nil) (fun _ _ _ _ _ => pe_int)) pa_nil)) (pa_cons (pe_callTy call_tupU (by rfl) T.z_tuple (by decide +kernel) (pa_cons (pv 1) pa_nil)) pa_nil))))))), ?_⟩
    have hv' := hv
    obtain ⟨a, dx, fs, mv, kv, tv, wv, gv, rfl, ha, m, ⟨l1, h1⟩, ⟨l2, h2⟩, ⟨l3, h3⟩, ⟨l4, h4⟩, ⟨l5, h5⟩, pk⟩ := hv.ex
    obtain ⟨ta, txs, rfl, hta, ltx, htx⟩ := h3.tup_inv
    obtain ⟨ka, kxs, rfl, hka, lkx, hkx⟩ := h2.tup_inv
    have ltw : txs.length = F.twos.length := by simpa using htx.length
    have lkk : kxs.length = F.kinds.length := by simpa using hkx.length
    refine ⟨by show 0 ≤ sizeLine; decide, fun r nr => ?_⟩
    have s1 := same_upd (o := .lst []) nr
    have e1 : (upd H r (.lst [])) r = some (.lst []) := upd_same
    generalize upd H r (.lst []) = H1 at s1 e1 ⊢
    refine ⟨_, rfl, a, _, dx, fs, _, rfl, s1 _ _ ha, T.c_Field, T.n_Field_twos, l3, ta, rfl, ⟨txs, s1.tup hta⟩, for_it (walk_tup (xs := txs)) (fun i σ H' => Same H H' ∧ (∃ acc, H' r = some (.lst acc) ∧ acc.length = i ∧ TpAll K H' acc ((F.twos.take i).map fun q => encJR (rowJ F.W [] q))) ∧ ∃ x2 x3 x4, σ = [some (.ref a), some (.ref r), x2, x3, x4])
      ⟨s1, ⟨[], e1, rfl, .nil⟩, _, _, _, rfl⟩ (fun i σ H' _ h => h.1.tup hta) (fun i y σ H2 H3 hi h y => ?_) fun σ H2 h => ?_⟩
    · obtain ⟨s2, ⟨acc, er, la, tacc⟩, x2, x3, x4, rfl⟩ := h
      obtain ⟨rfl, g⟩ := y
      obtain ⟨c, d, u, gq, rfl, hu2⟩ := pair2_at htx g
      have mq := ok.tw _ (List.mem_of_getElem? gq)
      have mc := ok.kn _ mq.1
      have md := ok.kn _ mq.2
      have lg : 1 ≤ lgA F.W c ∧ lgA F.W c ≤ 2 := ok.lg mq.1
      have m2 := h1.same s2
      obtain ⟨ma, mdx, ll, mfs, kl, em, hma, l6, hll, vl⟩ := m2.lag mc
      refine ⟨u, _, rfl, s2.tup hu2, rfl, _, _, rfl, _, _, rfl, rfl, ?_⟩
      refine ⟨_, rfl, .inl ⟨rfl, _, .inl (.inl er)⟩, ?_⟩
      refine ⟨_, rfl, a, _, dx, fs, _, rfl, s2 _ _ ha, T.c_Field, T.n_Field_make, l1, ma, _, mdx, mfs, _, em, hma, T.c_Make, T.n_Make_lags, l6, _, rfl, ll, _, rfl, .inl ⟨kl, .inr (one c), .inl hll, rfl, vl.symm⟩, 46, lgA F.W c, rfl, rfl, lg.1, by omega, ?_⟩
      obtain ⟨ma3, mdx3, mfs3, em3, hma3, m3⟩ := m2.seat
      refine ⟨_, rfl, a, _, dx, fs, _, rfl, s2 _ _ ha, T.c_Field, T.n_Field_make, l1, ma3, mdx3, mfs3, em3, hma3, m3, _, rfl, _, rfl, mv, F.W, row, c, d, rfl, m2, ok.w, mc, md, fun H4 s4 => ?_⟩
      refine ⟨by show 3 ≤ sizeLine; decide, fun z nz => ?_⟩
      have sz := same_upd (o := .tup [.int 0, .str (str (List.replicate (lgA F.W c) 46)), .int ((F.W.space : Nat) : Int)]) nz
      have ez : (upd H4 z (.tup [.int 0, .str (str (List.replicate (lgA F.W c) 46)), .int ((F.W.space : Nat) : Int)])) z = _ := upd_same
      refine ⟨r, acc, .ref z, rfl, rfl, sz _ _ (s4 _ _ er), by omega, fun H5 b5 e5 => ?_⟩
      have kp5 := b5.kp (sz _ _ (s4 _ _ er))
      refine ⟨((s2.trans s4).trans sz).sb nr b5, ⟨_, e5, by simp [la], ?_⟩, _, _, _, rfl⟩
      refine (((tacc.same s4).same sz).kp kp5).upto gq ?_
      rw [jt0_row]
      exact (jrow_tp ez).kp kp5
    · obtain ⟨s2, ⟨acc, er, la, tacc⟩, x2, x3, x4, rfl⟩ := h
      rw [ltw, List.take_length] at tacc
      refine ⟨_, rfl, a, _, dx, fs, _, rfl, s2 _ _ ha, T.c_Field, T.n_Field_kinds, l2, ka, rfl, ⟨kxs, s2.tup hka⟩, fun D hD => lc_map (walk_tup (xs := kxs)) hD lkx (fun H' s' => (s2.trans s').tup hka) (fun i acc _ => acc = List.replicate i (.int 0)) (fun _ _ _ _ _ h => h) rfl (fun i y H3 H4 acc k ks hi1 s3 a1 l1 y hk _ => ?_) fun H3 acc3 s3 eD lD aD => ?_⟩
      · obtain ⟨rfl, g⟩ := y
        refine ⟨rfl, yes_if (hk _ _ (Same.refl _) ?_)⟩
        rw [a1, List.replicate_succ']
      · subst aD
        refine ⟨D, _, rfl, .inl (.inl (.inl eD)), fun u4 H4 s4 h4 => ?_⟩
        have er4 := s4 _ _ (s3 _ _ er)
        refine ⟨_, rfl, r, acc, rfl, .inl (.inl (.inl er4)), fun u5 H5 s5 h5 => ?_⟩
        refine ⟨by show 2 ≤ sizeLine; decide, fun z nz => ?_⟩
        have sz := same_upd (o := .tup [.ref u4, .ref u5]) nz
        have s25 := (s3.trans s4).trans s5
        refine q _ _ ((s2.trans s25).trans sz) (joint_tp upd_same ?_ ?_)
        · refine .tup (sz.tup (s5.tup h4)) (by simp; omega) ?_
          have e : (jt F []).st.map kN = List.replicate kxs.length (.num 0) := by
            show (F.kinds.map fun c => stA F.W c []).map kN = _
            rw [lkk, List.map_map]
            have : ∀ l : List Nat, l.map (kN ∘ fun c => stA F.W c []) = List.replicate l.length (.num 0) := by
              intro l
              induction l with
              | nil => rfl
              | cons x l ih => rw [List.map_cons, ih]; rfl
            exact this _
          rw [e]
          have : ∀ n, TpAll K (upd H5 z (.tup [.ref u4, .ref u5])) (List.replicate n (.int 0)) (List.replicate n (.num 0)) := by
            intro n
            induction n with
            | zero => exact .nil
            | succ n ih => exact .cons (.int 0) ih
          exact this _
        · refine .tup (sz.tup h5) (by omega) ?_
          have e : (jt F []).rows.map encJR = F.twos.map fun q => encJR (rowJ F.W [] q) := by
            show (F.twos.map (rowJ F.W [])).map encJR = _
            rw [List.map_map]
            rfl
          rw [e]
          exact (tacc.same s25).same sz
open Classical in
theorem p_Field_keeps (T : Tx K mg) : Pr P w K mg base CX0 1 ["self", "joint"] [] (He.ma K (He.ga K "Field") "keeps")
    (fun vs H Q _ => ∃ (v u : V) (F : Fld) (row X : List Nat), vs = [v, u] ∧ IsField K H v F row ∧ FOk F ∧ Tp K H u (encJ (jt F X)) ∧ ∀ H', Same H H' → Q (.bl (decide (keeps F X))) H') := by
  refine T.d_Field_keeps.pr scs_Field_keeps (fun vs H Q E h => ?_) (fun cdv A outer s H vs Q E hr h => ?_)
  · obtain ⟨v, u, F, row, X, rfl, _⟩ := h
    rfl
  · obtain ⟨v, u, F, row, X, rfl, hv, ok, hj, q⟩ := h
    refine ⟨_, (pss_one (ps_ret (pe_callB (cr_all rfl) (by rfl) T.z_all (by decide +kernel) (pa_cons (pe_lc (own := [("row", 2)]) rfl scs_Field_keeps.nd (pi_tup (pe_ix ix_tup (pv 1) pe_int (fun _ _ => rfl))) (blkOk_by (N := ["self", "joint", "row"]) (sc := defScope s_Field_keeps) (by decide +kernel)) (fun _ _ _ _ _ => (pg_name (i := 2) scs_Field_keeps.nd rfl (.inl rfl) (.inr rfl))) (fun _ _ _ _ _ => pts_nil) (fun _ _ _ _ _ => (pe_chain op_le op_le (pe_ix (ix_tupK (K := K) rfl) (pe_fldK (K := K) rfl (pv 0) rfl) pe_int (fun _ _ => rfl)) (pe_ix (ix_tupK (K := K) rfl) (pv 2) pe_int (fun _ _ => rfl)) (pe_ix (ix_tupK (K := K) rfl) (pe_fldK (K := K) rfl (pv 0) rfl) pe_int (fun _ _ => rfl))))) pa_nil)))), ?_⟩
    obtain ⟨a, dx, fs, mv, kv, tv, wv, gv, rfl, ha, m, ⟨l1, h1⟩, ⟨l2, h2⟩, ⟨l3, h3⟩, ⟨l4, h4⟩, ⟨l5, h5⟩, pk⟩ := hv.ex
    obtain ⟨wa, wxs, rfl, hwa, _, hw2⟩ := h4.tup_inv
    have ew : wxs = [.int F.lo, .int F.hi] := hw2.ints_inv (ns := [F.lo, F.hi])
    subst ew
    obtain ⟨ja, sa, ra, rfl, hja, t1, t2⟩ := joint_inv hj
    obtain ⟨_, xs, e, hra, lxs, hxs⟩ := t2.tup_inv
    cases e
    have e2 : (jt F X).rows = F.twos.map (rowJ F.W X) := rfl
    rw [e2, List.map_map] at hxs
    have lx : xs.length = F.twos.length := by simpa using hxs.length
    refine ⟨_, rfl, ja, _, 1, _, rfl, rfl, hja, rfl, ra, rfl, ⟨xs, hra⟩, fun D hD => lc_map (walk_tup (xs := xs)) hD lxs (fun H' s' => s'.tup hra) (fun i acc _ => acc = ((F.twos.take i).map fun q => decide (F.lo ≤ gapX F.W q.1 q.2 X ∧ gapX F.W q.1 q.2 X ≤ F.hi)).map V.bl) (fun _ _ _ _ _ h => h) rfl (fun i y H1 H2 acc k ks hi1 s1 a1 l1' y hk _ => ?_) fun H1 acc s1 eD lD aD => ?_⟩
    · obtain ⟨rfl, g⟩ := y
      obtain ⟨k0, gk, tk⟩ := hxs.at g
      obtain ⟨p, gp, rfl⟩ := map_at gk
      obtain ⟨b, rfl, hb⟩ := jrow_inv (tk.same s1)
      have hwa1 := s1.tup hwa
      have fin : ∀ bb, bb = decide (F.lo ≤ gapX F.W p.1 p.2 X ∧ gapX F.W p.1 p.2 X ≤ F.hi) → acc ++ [V.bl bb] = ((F.twos.take (i + 1)).map fun q => decide (F.lo ≤ gapX F.W q.1 q.2 X ∧ gapX F.W q.1 q.2 X ≤ F.hi)).map V.bl := fun bb e => by
        rw [a1, take_snoc gp, List.map_append, List.map_append, e]
        rfl
      refine ⟨rfl, yes_if ⟨_, rfl, a, _, dx, fs, _, rfl, s1 _ _ ha, T.c_Field, T.n_Field_wish, l4, wa, _, 0, _, rfl, rfl, hwa1, rfl, _, rfl, b, _, 2, _, rfl, rfl, hb, rfl, F.lo, gapX F.W p.1 p.2 X, rfl, rfl, _, rfl, iteD (fun e => ?_) (fun e => ?_)⟩⟩
      · refine ⟨_, rfl, a, _, dx, fs, _, rfl, s1 _ _ ha, T.c_Field, T.n_Field_wish, l4, wa, _, 1, _, rfl, rfl, hwa1, rfl, gapX F.W p.1 p.2 X, F.hi, rfl, rfl, hk _ _ (Same.refl _) (fin _ ?_)⟩
        rw [Bool.eq_iff_iff]
        simp [e]
      · refine hk _ _ (Same.refl _) (fin _ ?_)
        rw [Bool.eq_iff_iff]
        simp [e]
    · rw [lx, List.take_length] at aD
      subst aD
      refine ⟨D, _, rfl, .inl (.inl eD), ?_⟩
      have e : ((F.twos.map fun q => decide (F.lo ≤ gapX F.W q.1 q.2 X ∧ gapX F.W q.1 q.2 X ≤ F.hi)).all id) = decide (keeps F X) := by
        rw [Bool.eq_iff_iff]
        simp [keeps]
      rw [e]
      exact q _ s1

end
end TH
end
section
set_option Elab.async false
set_option linter.all false
set_option maxRecDepth 100000
set_option maxHeartbeats 4000000
namespace TH
open PySem PySem.Spec PyProof.Rows L2
section
variable {P : Program} {w : World} {K : PySem.W.Frag} {mg : Str → Option Value} {base : Heap}
/-! Field.led -/
theorem idx_first : ∀ {l : List Nat} {a m : Nat}, m < l.idxOf a → l[m]? ≠ some a
  | [], a, m, h => by simp at h
  | x :: l, a, m, h => by
    by_cases e : x = a
    · subst e
      simp at h
    · rw [List.idxOf_cons] at h
      have e' : (x == a) = false := beq_eq_false_iff_ne.mpr e
      rw [e'] at h
      cases m with
      | zero => simpa using e
      | succ m =>
        have : m < l.idxOf a := by simpa using h
        simpa using idx_first this
theorem str_app (a b : List Nat) : str a ++ str b = str (a ++ b) := by
  unfold str
  show (⟨a.toArray ++ b.toArray⟩ : Str) = _
  congr 1
  simp
theorem one_str (c : Nat) : one c = str [c] := rfl
theorem kinds_str (ks : List Nat) {H : Hp} {xs : List V} (h : TpAll K H xs (ks.map kC)) : xs = (ks.map one).map V.str := by
  have e : ks.map kC = (ks.map one).map .text := by
    rw [List.map_map]
    rfl
  rw [e] at h
  exact h.strs_inv
theorem jt_st_at {F : Fld} {X : List Nat} {i c : Nat} (h : F.kinds[i]? = some c) : (natsV (jt F X).st)[i]? = some (.int (stA F.W c X : Nat)) := by
  refine natsV_at ?_
  show (F.kinds.map fun c => stA F.W c X)[i]? = _
  rw [List.getElem?_map, h]
  rfl
theorem p_Field_led (T : Tx K mg) : Pr P w K mg base CX0 1 ["self", "joint", "sign"] [] (He.ma K (He.ga K "Field") "led")
    (fun vs H Q _ => ∃ (v jv : V) (F : Fld) (row X : List Nat) (c : Nat), vs = [v, jv, .str (one c)] ∧ IsField K H v F row ∧ FOk F ∧ SgOk F X ∧ c ∈ F.W.signs ∧ Tp K H jv (encJ (jt F X)) ∧ ∀ H' u, Same H H' → Tp K H' u (encJ (jt F (X ++ [c]))) → Q u H') := by
  refine T.d_Field_led.pr scs_Field_led (fun vs H Q E h => ?_) (fun cdv A outer s H vs Q E hr h => ?_)
  · obtain ⟨v, jv, F, row, X, c, rfl, _⟩ := h
    rfl
  · obtain ⟨v, jv, F, row, X, c, rfl, hv, ok, hX, hc, hj, q⟩ := h
    have hu := hu_of hr
    have hXc : SgOk F (X ++ [c]) := fun d hd => by
      rcases List.mem_append.mp hd with hd | hd
      · exact hX d hd
      · rw [List.mem_singleton.mp hd]
        exact hc
    refine ⟨_, (pss_cons (ps_asg (pv 1) (pg_tup rfl (pgs_cons (pg_name (i := 3) scs_Field_led.nd rfl (.inl rfl) (.inl rfl)) (pgs_cons (pg_name (i := 4) scs_Field_led.nd rfl (.inl rfl) (.inl rfl)) pgs_nil))))
    (pss_cons (ps_set (i := 5) scs_Field_led.nd rfl (.inl rfl) (pe_lst pa_nil))
    (pss_cons (ps_for PassesOwn.never rfl (pi_z2 (by rfl) T.z_zip (pa_cons (pe_fld (pv 0) rfl) (pa_cons (pv 3) pa_nil))) (pg_tup rfl (pgs_cons (pg_name (i := 6) scs_Field_led.nd rfl (.inl rfl) (.inl rfl)) (pgs_cons (pg_name (i := 7) scs_Field_led.nd rfl (.inl rfl) (.inl rfl)) pgs_nil)))
      (pss_one (ps_expr (pe_bm PySem.F.plainAttrs_list PySem.F.slot_list_append PySem.F.type_list_append mt_appU (pv 5) (pa_cons (pe_dget hu (pe_ix ix_tup (pe_fld (pe_dget hu (pe_fld (pe_fld (pv 0) rfl) rfl) (pv 6) (fun _ _ => rfl)) rfl) (pv 7) (fun _ _ => rfl)) (pv 2) (fun _ _ => rfl)) pa_nil)))))
    (pss_cons (ps_set (i := 8) scs_Field_led.nd rfl (.inl rfl) (pe_lst pa_nil))
    (pss_cons (ps_for PassesOwn.never rfl (pi_z2 (by rfl) T.z_zip (pa_cons (pe_fld (pv 0) rfl) (pa_cons (pv 4) pa_nil))) (pg_tup rfl (pgs_cons (pg_tup rfl (pgs_cons (pg_name (i := 9) scs_Field_led.nd rfl (.inl rfl) (.inl rfl)) (pgs_cons (pg_name (i := 10) scs_Field_led.nd rfl (.inl rfl) (.inl rfl)) pgs_nil))) (pgs_cons (pg_tup rfl (pgs_cons (pg_name (i := 11) scs_Field_led.nd rfl (.inl rfl) (.inl rfl)) (pgs_cons (pg_name (i := 12) scs_Field_led.nd rfl (.inl rfl) (.inl rfl)) (pgs_cons (pg_name (i := 13) scs_Field_led.nd rfl (.inl rfl) (.inl rfl)) pgs_nil)))) pgs_nil)))
      (pss_cons (ps_set (i := 14) scs_Field_led.nd rfl (.inl rfl) (pe_bmT PySem.F.plainAttrs_tuple PySem.F.slot_tuple_index PySem.F.type_tuple_index mt_tup_index (pe_fld (pv 0) rfl) (pa_cons (pv 9) pa_nil)))
      (pss_cons (ps_set (i := 15) scs_Field_led.nd rfl (.inl rfl) (pe_dget hu (pe_fld (pe_fld (pv 0) rfl) rfl) (pv 9) (fun _ _ => rfl)))
      (pss_cons (ps_set (i := 16) scs_Field_led.nd rfl (.inl rfl) (pe_dget hu (pe_fld (pe_fld (pv 0) rfl) rfl) (pv 10) (fun _ _ => rfl)))
      (pss_cons (ps_set (i := 17) scs_Field_led.nd rfl (.inl rfl) (pe_dget hu (pe_ix ix_tup (pe_fld (pv 16) rfl) (pv 11) (fun _ _ => rfl)) (pe_ix ix_str (pv 12) pe_int (fun _ _ => rfl)) (fun _ _ => rfl)))
      (pss_cons (ps_set (i := 13) scs_Field_led.nd rfl (.inl rfl) (pe_op op_sub (pe_op op_add (pe_op op_add (pv 13) (pe_ix ix_tup (pe_fld (pv 15) rfl) (pe_ix ix_list (pv 5) (pv 14) (fun _ _ => rfl)) (fun _ _ => rfl))) (pe_ix ix_tup (pe_fld (pv 15) rfl) (pe_ix ix_tup (pv 3) (pv 14) (fun _ _ => rfl)) (fun _ _ => rfl))) (pe_ix ix_tup (pe_fld (pv 15) rfl) (pe_ix ix_list (pv 5) (pv 14) (fun _ _ => rfl)) (fun _ _ => rfl))))
      (pss_one (ps_expr (pe_bm PySem.F.plainAttrs_list PySem.F.slot_list_append PySem.F.type_list_append mt_appU (pv 8) (pa_cons (pe_tup (pa_cons (pv 17) (pa_cons (pe_op op_add_str (pe_slice sl_str (pv 12) (po_some pe_int) po_none) (pv 2)) (pa_cons (pe_op op_sub (pv 13) (pe_ix ix_tup (pe_fld (pv 16) rfl) (pv 17) (fun _ _ => rfl))) pa_nil)))) pa_nil))))))))))
    (pss_one (ps_ret (pe_tup (pa_cons (pe_callTy call_tupU (by rfl) T.z_tuple (by decide +kernel) (pa_cons (pv 5) pa_nil)) (pa_cons (pe_callTy call_tupU (by rfl) T.z_tuple (by decide +kernel) (pa_cons (pv 8) pa_nil)) pa_nil)))))))))), ?_⟩
    have hv' := hv
    obtain ⟨a, dx, fs, mv, kv, tv, wv, gv, rfl, ha, m, ⟨l1, h1⟩, ⟨l2, h2⟩, ⟨l3, h3⟩, ⟨l4, h4⟩, ⟨l5, h5⟩, pk⟩ := hv.ex
    obtain ⟨ta, txs, rfl, hta, ltx, htx⟩ := h3.tup_inv
    obtain ⟨ka, kxs, rfl, hka, lkx, hkx⟩ := h2.tup_inv
    have ltw : txs.length = F.twos.length := by simpa using htx.length
    have lkk : kxs.length = F.kinds.length := by simpa using hkx.length
    obtain ⟨ja, sa, ra, rfl, hja, t1, t2⟩ := joint_inv hj
    obtain ⟨_, sxs, e, hsa, lsx, hsx⟩ := t1.tup_inv
    cases e
    have esx := nats_inv hsx
    subst esx
    obtain ⟨_, rxs, e, hra, lrx, hrx⟩ := t2.tup_inv
    cases e
    have e2 : (jt F X).rows = F.twos.map (rowJ F.W X) := rfl
    rw [e2, List.map_map] at hrx
    have lrr : rxs.length = F.twos.length := by simpa using hrx.length
    have lss : (natsV (jt F X).st).length = F.kinds.length := by simp [natsV, jt]
    refine ⟨_, rfl, ja, _, rfl, hja, rfl, _, _, rfl, _, _, rfl, rfl, ?_⟩
    refine ⟨by show 0 ≤ sizeLine; decide, fun fl nfl => ?_⟩
    have s1 := same_upd (o := .lst []) nfl
    have e1 : (upd H fl (.lst [])) fl = some (.lst []) := upd_same
    generalize upd H fl (.lst []) = H1 at s1 e1 ⊢
    have W2 := walk_z2 (K := K) (s1 := .tup ka) (s2 := .tup sa) (xs := kxs) (ys := natsV (jt F X).st) (n := F.kinds.length) (by omega)
    refine ⟨_, rfl, a, _, dx, fs, _, rfl, s1 _ _ ha, T.c_Field, T.n_Field_kinds, l2, _, rfl, .tup ka, .tup sa, _, _, rfl, s1.tup hka, s1.tup hsa, for_it W2 (fun i σ H' => Same H H' ∧ H' fl = some (.lst (natsV ((F.kinds.take i).map fun k => stA F.W k (X ++ [c])))) ∧ ∃ x6 x7 x8 x9 x10 x11 x12 x13 x14 x15 x16 x17, σ = [some (.ref a), some (.ref ja), some (.str (one c)), some (.ref sa), some (.ref ra), some (.ref fl), x6, x7, x8, x9, x10, x11, x12, x13, x14, x15, x16, x17])
      ⟨s1, e1, _, _, _, _, _, _, _, _, _, _, _, _, rfl⟩ (fun i σ H' _ h => ⟨h.1.tup hka, h.1.tup hsa⟩) (fun i y σ H2 H3 hi h y => ?_) fun σ H2 h => ?_⟩
    · obtain ⟨s2, ef, x6, x7, x8, x9, x10, x11, x12, x13, x14, x15, x16, x17, rfl⟩ := h
      obtain ⟨Tq, y1, y2, rfl, nT, s3, e3, g1, g2⟩ := y
      obtain ⟨k, gk, rfl⟩ := signC_at hkx g1
      rw [jt_st_at gk] at g2
      cases g2
      have mk := List.mem_of_getElem? gk
      have s23 := s2.trans s3
      have m3 := h1.same s23
      obtain ⟨ma2, mdx2, dd, mfs2, kd, dv, em2, hma2, l6, hdd, vd, isd⟩ := m3.drill (ok.kn k mk)
      obtain ⟨da, ddx, lb, ld, dfs, lxs, lkvs, edv, hda, l7, hlb, vlb, hld, vld⟩ := isd.leads (ok.rok mk) (st_lt ok hX mk) hc
      have ef3 := s3 _ _ ef
      refine ⟨Tq, _, rfl, .inl (.inl e3), rfl, _, _, rfl, _, _, rfl, rfl, ?_⟩
      refine ⟨_, rfl, .inl ⟨rfl, _, .inl (.inl ef3)⟩, ?_⟩
      refine ⟨_, rfl, a, _, dx, fs, _, rfl, s23 _ _ ha, T.c_Field, T.n_Field_make, l1, ma2, _, mdx2, mfs2, _, em2, hma2, T.c_Make, T.n_Make_drills, l6, _, rfl, dd, _, rfl, .inl ⟨kd, .inr (one k), .inl hdd, rfl, vd.symm⟩, da, _, ddx, dfs, _, edv, hda, T.c_Drill, T.n_Drill_leads, l7, _, rfl, lb, lxs, (stA F.W k X : Nat), _, rfl, rfl, hlb, atI_nat vlb, _, rfl, ld, _, rfl, .inl ⟨lkvs, .inr (one c), .inl hld, rfl, vld.symm⟩, ?_⟩
      refine ⟨fl, _, _, rfl, rfl, ef3, by simp [natsV]; have := ok.kl; omega, fun H4 b4 e4 => ⟨s23.sb nfl b4, ?_, _, _, _, _, _, _, _, _, _, _, _, _, rfl⟩⟩
      rw [e4, take_snoc gk, List.map_append, List.map_singleton, natsV_snoc, stA_snoc]
      rfl
    · obtain ⟨s2, ef, x6, x7, x8, x9, x10, x11, x12, x13, x14, x15, x16, x17, rfl⟩ := h
      rw [List.take_length] at ef
      refine ⟨by show 0 ≤ sizeLine; decide, fun fd nfd => ?_⟩
      have s3 := same_upd (o := .lst []) nfd
      have e3 : (upd H2 fd (.lst [])) fd = some (.lst []) := upd_same
      generalize upd H2 fd (.lst []) = H3 at s3 e3 ⊢
      have nfd0 : H fd = none := s2.back nfd
      have s03 := s2.trans s3
      have W3 := walk_z2 (K := K) (s1 := .tup ta) (s2 := .tup ra) (xs := txs) (ys := rxs) (n := F.twos.length) (by omega)
      refine ⟨_, rfl, a, _, dx, fs, _, rfl, s03 _ _ ha, T.c_Field, T.n_Field_twos, l3, _, rfl, .tup ta, .tup ra, _, _, rfl, s03.tup hta, s03.tup hra, for_it W3 (fun i σ H' => Same H2 H' ∧ (∃ acc, H' fd = some (.lst acc) ∧ acc.length = i ∧ TpAll K H' acc ((F.twos.take i).map fun q => encJR (rowJ F.W (X ++ [c]) q))) ∧ ∃ x6 x7 x9 x10 x11 x12 x13 x14 x15 x16 x17, σ = [some (.ref a), some (.ref ja), some (.str (one c)), some (.ref sa), some (.ref ra), some (.ref fl), x6, x7, some (.ref fd), x9, x10, x11, x12, x13, x14, x15, x16, x17])
        ⟨s3, ⟨[], e3, rfl, .nil⟩, _, _, _, _, _, _, _, _, _, _, _, rfl⟩ (fun i σ H' _ h => ⟨(s2.trans h.1).tup hta, (s2.trans h.1).tup hra⟩) (fun i y σ H4 H5 hi h y => ?_) fun σ H4 h => ?_⟩
      · obtain ⟨s4, ⟨acc, ed, la, tacc⟩, x6, x7, x9, x10, x11, x12, x13, x14, x15, x16, x17, rfl⟩ := h
        obtain ⟨Tq, y1, y2, rfl, nT, s5, e5, g1, g2⟩ := y
        obtain ⟨ca, cb, u, gq, rfl, hu2⟩ := pair2_at htx g1
        obtain ⟨k0, gk, tk⟩ := hrx.at g2
        obtain ⟨q2, gq2, rfl⟩ := map_at gk
        rw [gq] at gq2
        cases gq2
        have s25 := s4.trans s5
        have s05 := s2.trans s25
        have mq := List.mem_of_getElem? gq
        have mka : ca ∈ F.kinds := (ok.tw _ mq).1
        have mkb : cb ∈ F.kinds := (ok.tw _ mq).2
        have lga : 1 ≤ lgA F.W ca ∧ lgA F.W ca ≤ 2 := ok.lg mka
        obtain ⟨jr, rfl, hjr⟩ := jrow_inv (tk.same s05)
        have lw : (rowJ F.W X (ca, cb)).2.1.length = lgA F.W ca := by
          show ((List.replicate (lgA F.W ca) 46 ++ X).drop X.length).length = _
          simp
        obtain ⟨w0, hw0⟩ : ∃ w0, (rowJ F.W X (ca, cb)).2.1[0]? = some w0 := ⟨(rowJ F.W X (ca, cb)).2.1[0]'(by omega), List.getElem?_eq_getElem _⟩
        have mw0 : w0 ∈ F.W.signs := by
          have h1 := List.mem_of_getElem? hw0
          have h2 : w0 ∈ List.replicate (lgA F.W ca) 46 ++ X := List.mem_of_mem_drop h1
          rcases List.mem_append.mp h2 with h | h
          · rw [List.eq_of_mem_replicate h]
            simp [Wld.signs]
          · exact hX w0 h
        have sgX : SgOk F (X.take (X.length - lgA F.W ca)) := fun d hd => hX d (List.mem_of_mem_take hd)
        have ltb : (rowJ F.W X (ca, cb)).1 < (kOf F.W cb).rows.length := st_lt ok sgX mkb
        have lta := st_lt ok hX mka
        have lta' := st_lt ok hXc mka
        have m5 := h1.same s05
        obtain ⟨ma1, mdx1, dd1, mfs1, kd1, dva, em1, hma1, l61, hdd1, vd1, isa⟩ := m5.drill (ok.kn ca mka)
        obtain ⟨ma2, mdx2, dd2, mfs2, kd2, dvb, em2, hma2, l62, hdd2, vd2, isb⟩ := m5.drill (ok.kn cb mkb)
        obtain ⟨db, dbx, lb, ld, dbfs, lxs, lkvs, edb, hdb, l7, hlb, vlb, hld, vld⟩ := isb.leads (ok.rok mkb) ltb mw0
        obtain ⟨da1, dax1, sb1, dfs1, sxs1, eda1, hda1, l81, hsb1, vsb1⟩ := isa.strides lta'
        obtain ⟨da2, dax2, bb2, dfs2, bxs2, eda2, hda2, l82, hbb2, vbb2⟩ := isa.bodies lta
        obtain ⟨da3, dax3, bb3, dfs3, bxs3, eda3, hda3, l83, hbb3, vbb3⟩ := isa.bodies lta'
        have glb := (go_at (ok.rok mkb) (by simp [Wld.signs]) ltb mw0).2
        obtain ⟨db4, dbx4, sb4, dfs4, sxs4, edb4, hdb4, l84, hsb4, vsb4⟩ := isb.strides glb
        refine ⟨Tq, _, rfl, .inl (.inl e5), rfl, _, _, rfl, u, _, rfl, s05.tup hu2, rfl, _, _, rfl, _, _, rfl, rfl, _, _, rfl, jr, _, rfl, hjr, rfl, _, _, rfl, _, _, rfl, _, _, rfl, rfl, rfl, ?_⟩
        have hka5 := s05.tup hka
        rw [kinds_str F.kinds hkx] at hka5
        have i1 : (F.kinds.map one)[F.kinds.idxOf ca]? = some (one ca) := idx_map one mka
        have i2 : ∀ m, m < F.kinds.idxOf ca → (F.kinds.map one)[m]? ≠ some (one ca) := fun m hm e => by
          obtain ⟨x, hx, ex⟩ := map_at e
          rw [one_inj ex] at hx
          exact idx_first hm hx
        refine ⟨_, rfl, a, _, dx, fs, _, rfl, s05 _ _ ha, T.c_Field, T.n_Field_kinds, l2, pk.kp (Kp.of s05), _, rfl, ka, F.kinds.map one, one ca, F.kinds.idxOf ca, rfl, rfl, hka5, i1, i2, ?_⟩
        refine ⟨_, rfl, a, _, dx, fs, _, rfl, s05 _ _ ha, T.c_Field, T.n_Field_make, l1, ma1, _, mdx1, mfs1, _, em1, hma1, T.c_Make, T.n_Make_drills, l61, _, rfl, dd1, _, rfl, .inl ⟨kd1, .inr (one ca), .inl hdd1, rfl, vd1.symm⟩, ?_⟩
        refine ⟨_, rfl, a, _, dx, fs, _, rfl, s05 _ _ ha, T.c_Field, T.n_Field_make, l1, ma2, _, mdx2, mfs2, _, em2, hma2, T.c_Make, T.n_Make_drills, l62, _, rfl, dd2, _, rfl, .inl ⟨kd2, .inr (one cb), .inl hdd2, rfl, vd2.symm⟩, ?_⟩
        have zw : (str (rowJ F.W X (ca, cb)).2.1).length ≤ sizeLine := by rw [str_len, lw]; exact sz2 (by omega)
        refine ⟨_, rfl, db, _, dbx, dbfs, _, edb, hdb, T.c_Drill, T.n_Drill_leads, l7, _, rfl, lb, lxs, ((rowJ F.W X (ca, cb)).1 : Nat), _, rfl, rfl, hlb, atI_nat vlb, _, rfl, str (rowJ F.W X (ca, cb)).2.1, 0, w0, rfl, rfl, zw, atI_nat (j := 0) hw0, ld, _, rfl, .inl ⟨lkvs, .inr (one w0), .inl hld, rfl, vld.symm⟩, ?_⟩
        have ef5 := s25 _ _ ef
        have fi := natsV_at (idx_map (fun k => stA F.W k (X ++ [c])) mka)
        have si : (natsV (jt F X).st)[F.kinds.idxOf ca]? = some (.int (stA F.W ca X : Nat)) := natsV_at (idx_map (fun k => stA F.W k X) mka)
        have hsa5 := s05.tup hsa
        refine ⟨_, rfl, _, rfl, da1, _, dax1, dfs1, _, eda1, hda1, T.c_Drill, T.n_Drill_strides, l81, _, rfl, _, rfl, fl, _, (F.kinds.idxOf ca : Nat), _, rfl, rfl, .inl (.inl ef5), atI_nat fi, sb1, sxs1, (stA F.W ca (X ++ [c]) : Nat), _, rfl, rfl, hsb1, atI_nat vsb1, _, _, rfl, rfl, ?_⟩
        refine ⟨_, rfl, da2, _, dax2, dfs2, _, eda2, hda2, T.c_Drill, T.n_Drill_bodies, l82, _, rfl, _, rfl, sa, _, (F.kinds.idxOf ca : Nat), _, rfl, rfl, hsa5, atI_nat si, bb2, bxs2, (stA F.W ca X : Nat), _, rfl, rfl, hbb2, atI_nat vbb2, _, _, rfl, rfl, ?_⟩
        refine ⟨_, rfl, da3, _, dax3, dfs3, _, eda3, hda3, T.c_Drill, T.n_Drill_bodies, l83, _, rfl, _, rfl, fl, _, (F.kinds.idxOf ca : Nat), _, rfl, rfl, .inl (.inl ef5), atI_nat fi, bb3, bxs3, (stA F.W ca (X ++ [c]) : Nat), _, rfl, rfl, hbb3, atI_nat vbb3, _, _, rfl, rfl, ?_⟩
        have ed5 := s5 _ _ ed
        refine ⟨_, rfl, .inl ⟨rfl, _, .inl (.inl ed5)⟩, _, rfl, _, rfl, 1, rfl, str (rowJ F.W X (ca, cb)).2.1, rfl, zw, ?_⟩
        rw [cut1]
        have zc : (str ((rowJ F.W X (ca, cb)).2.1.drop 1)).length + (one c).length ≤ sizeLine := by
          rw [str_len, List.length_drop, lw]
          have : (100 : Nat) ≤ sizeLine := by decide
          have : (one c).length = 1 := rfl
          omega
        refine ⟨_, rfl, str ((rowJ F.W X (ca, cb)).2.1.drop 1), one c, rfl, rfl, zc, ?_⟩
        rw [show str ((rowJ F.W X (ca, cb)).2.1.drop 1) ++ one c = str ((rowJ F.W X (ca, cb)).2.1.drop 1 ++ [c]) from str_app _ _]
        refine ⟨_, rfl, _, rfl, db4, _, dbx4, dfs4, _, edb4, hdb4, T.c_Drill, T.n_Drill_strides, l84, _, rfl, sb4, sxs4, (go F.W.signs (kOf F.W cb).rows (rowJ F.W X (ca, cb)).1 w0 : Nat), _, rfl, rfl, hsb4, atI_nat vsb4, _, _, rfl, rfl, ?_⟩
        refine ⟨by show 3 ≤ sizeLine; decide, fun z nz => ?_⟩
        have er : rowJ F.W (X ++ [c]) (ca, cb) = (go F.W.signs (kOf F.W cb).rows (rowJ F.W X (ca, cb)).1 w0, (rowJ F.W X (ca, cb)).2.1.drop 1 ++ [c], (rowJ F.W X (ca, cb)).2.2 + (rowAt (kOf F.W ca).rows (stA F.W ca (X ++ [c]))).stride + (rowAt (kOf F.W ca).rows (stA F.W ca X)).body - (rowAt (kOf F.W ca).rows (stA F.W ca (X ++ [c]))).body - (rowAt (kOf F.W cb).rows (go F.W.signs (kOf F.W cb).rows (rowJ F.W X (ca, cb)).1 w0)).stride) := by
          rw [row_snoc ok mq]
          have e0 : ((jt F X).st[F.kinds.idxOf ca]?).getD 0 = stA F.W ca X := by
            show ((F.kinds.map fun c => stA F.W c X)[F.kinds.idxOf ca]?).getD 0 = _
            rw [idx_map (fun c => stA F.W c X) mka]
            rfl
          unfold ledR
          simp only [e0, hw0, Option.getD_some]
          rw [stA_snoc]
          rfl
        have sz := same_upd (o := .tup [.int ((rowJ F.W (X ++ [c]) (ca, cb)).1 : Nat), .str (str (rowJ F.W (X ++ [c]) (ca, cb)).2.1), .int (rowJ F.W (X ++ [c]) (ca, cb)).2.2]) nz
        have ez : (upd H5 z (.tup [.int ((rowJ F.W (X ++ [c]) (ca, cb)).1 : Nat), .str (str (rowJ F.W (X ++ [c]) (ca, cb)).2.1), .int (rowJ F.W (X ++ [c]) (ca, cb)).2.2])) z = some _ := upd_same
        rw [er] at sz ez
        refine ⟨fd, acc, .ref z, rfl, rfl, sz _ _ ed5, by omega, fun H6 b6 e6 => ?_⟩
        have kp6 := b6.kp (sz _ _ ed5)
        refine ⟨(s25.trans sz).sb nfd b6, ⟨_, e6, by simp [la], ?_⟩, _, _, _, _, _, _, _, _, _, _, _, rfl⟩
        refine (((tacc.same s5).same sz).kp kp6).upto gq ?_
        refine (jrow_tp ?_).kp kp6
        rw [er]
        exact ez
      · obtain ⟨s4, ⟨acc, ed, la, tacc⟩, x6, x7, x9, x10, x11, x12, x13, x14, x15, x16, x17, rfl⟩ := h
        rw [List.take_length] at tacc
        have ef4 := s4 _ _ ef
        refine ⟨_, rfl, fl, _, rfl, .inl (.inl (.inl ef4)), fun u5 H5 s5 h5 => ?_⟩
        have ed5 := s5 _ _ ed
        refine ⟨_, rfl, fd, acc, rfl, .inl (.inl (.inl ed5)), fun u6 H6 s6 h6 => ?_⟩
        refine ⟨by show 2 ≤ sizeLine; decide, fun z nz => ?_⟩
        have sz := same_upd (o := .tup [.ref u5, .ref u6]) nz
        refine q _ _ ((((s2.trans s4).trans s5).trans s6).trans sz) (joint_tp upd_same ?_ ?_)
        · refine .tup (sz.tup (s6.tup h5)) (by simp [natsV]; have := ok.kl; omega) (nats_tp _)
        · refine .tup (sz.tup h6) (by have := ok.tl; omega) ?_
          have e : (jt F (X ++ [c])).rows.map encJR = F.twos.map fun q => encJR (rowJ F.W (X ++ [c]) q) := by
            show (F.twos.map (rowJ F.W (X ++ [c]))).map encJR = _
            rw [List.map_map]
            rfl
          rw [e]
          exact ((tacc.same s5).same s6).same sz

end
end TH
end
section
set_option Elab.async false
set_option linter.all false
set_option maxRecDepth 100000
set_option maxHeartbeats 4000000
namespace TH
open PySem PySem.Spec PyProof.Rows L2
section
variable {P : Program} {w : World} {K : PySem.W.Frag} {mg : Str → Option Value} {base : Heap}
/-! Field.settled -/
theorem eqv_nats : ∀ xs ys : List Nat, PyData.eqvAll (nkDs (xs.map kN)) (nkDs (ys.map kN)) = decide (xs = ys)
  | [], [] => rfl
  | [], _ :: _ => rfl
  | _ :: _, [] => rfl
  | x :: xs, y :: ys => by
    have ih := eqv_nats xs ys
    show (((x : Int) == (y : Int)) && PyData.eqvAll (nkDs (xs.map kN)) (nkDs (ys.map kN))) = _
    rw [ih]
    by_cases h : x = y
    · subst h
      simp
    · have : ¬ (x : Int) = (y : Int) := fun z => h (by omega)
      simp [h, this]
theorem shaped_nats (xs : List Nat) : SeqAt.shaped (nkD (.tup (xs.map kN))) = true := by
  have h1 : ∀ xs : List Nat, PyData.canLayAll0 (nkDs (xs.map kN)) = true := by
    intro xs
    induction xs with
    | nil => rfl
    | cons x xs ih =>
      show (true && PyData.canLayAll0 (nkDs (xs.map kN))) = true
      rw [ih]
      rfl
  have h2 : ∀ xs : List Nat, PyData.depthAll (nkDs (xs.map kN)) = 0 := by
    intro xs
    induction xs with
    | nil => simp [nkDs, PyData.depthAll]
    | cons x xs ih =>
      show PyData.depthAll (.int (x : Int) :: nkDs (xs.map kN)) = 0
      rw [PyData.depthAll, ih]
      simp [PyData.depth]
  unfold SeqAt.shaped
  rw [Bool.and_eq_true]
  refine ⟨h1 xs, decide_eq_true ?_⟩
  show (PyData.tuple (nkDs (xs.map kN))).depth ≤ 64
  rw [PyData.depth, h2]
  decide
theorem depth_joint (j : Jt) : (encJ j).depth ≤ 8 := by
  have h1 := depth_nats j.st
  have h2 := depthAll_le 1 (j.rows.map encJR) fun k hk => by
    obtain ⟨r, _, rfl⟩ := List.mem_map.mp hk
    simp [encJR, kN, kS, NestedKey.depth, NestedKey.depthAll]
  simp only [encJ, NestedKey.depth, NestedKey.depthAll]
  omega
theorem encJ_tup (j : Jt) : ∃ l, encJ j = .tup l := ⟨_, rfl⟩
theorem sb_field {P : Program} {w : World} {H H' : Hp} {d : Addr} {xs : List (NK × Addr)} {v : V} {F : Fld} {row : List Nat} (h : IsField K H v F row) (H0 : Hp) (h0 : Same H0 H) : True := trivial
/-- the keys of the joints met under silence -/
def silK (F : Fld) (X : List Nat) (n : Nat) : List NK := (List.range n).map fun k => encJ (jt F (sil X k))
theorem silK_succ (F : Fld) (X : List Nat) (n : Nat) : silK F X (n + 1) = silK F X n ++ [encJ (jt F (sil X n))] := rng_succ _ _
theorem mem_silK {F : Fld} {X : List Nat} {n : Nat} {k : NK} : k ∈ silK F X n ↔ ∃ i, i < n ∧ k = encJ (jt F (sil X i)) := by
  unfold silK
  rw [List.mem_map]
  constructor
  · rintro ⟨i, hi, e⟩
    exact ⟨i, List.mem_range.mp hi, e.symm⟩
  · rintro ⟨i, hi, e⟩
    exact ⟨i, List.mem_range.mpr hi, e.symm⟩
open Classical in
theorem p_Field_settled (T : Tx K mg) : Pr P w K mg base CX0 2 ["self", "joint"] [] (He.ma K (He.ga K "Field") "settled")
    (fun vs H Q _ => ∃ (v u : V) (F : Fld) (row X : List Nat), vs = [v, u] ∧ IsField K H v F row ∧ FOk F ∧ SgOk F X ∧ Tp K H u (encJ (jt F X)) ∧ ∀ H', Same H H' → Q (.bl (decide (Settled F X))) H') := by
  refine T.d_Field_settled.pr scs_Field_settled (fun vs H Q E h => ?_) (fun cdv A outer s H vs Q E hr h => ?_)
  · obtain ⟨v, u, F, row, X, rfl, _⟩ := h
    rfl
  · obtain ⟨v, u, F, row, X, rfl, hv, ok, hX, hj, q⟩ := h
    have hu65 := room65 hr
    refine ⟨_, (pss_cons (ps_if (pt_cmpR (op_neD (Nat.lt_of_succ_lt hu65)) (pe_ix ix_tup (pv 1) pe_int (fun _ _ => rfl)) (pe_fld (pv 0) rfl) (nomark _))
      (pss_one (ps_ret pe_bl))
      pss_nil)
    (pss_cons (ps_set (i := 2) scs_Field_settled.nd rfl (.inl rfl) pe_jnew)
    (pss_cons (ps_while PassesOwn.never (pt_cmp (pc_jnotin hu65 (pv 1) (pv 2)))
      (pss_cons (ps_if (pt_not (pt_val (pmeth (p_Field_keeps T) (pv 0) T.c_Field T.m_Field_keeps (hr.mono (by decide)) pass0 (pa_cons (pv 1) pa_nil))))
        (pss_one (ps_ret pe_bl))
        pss_nil)
      (pss_cons (ps_jput hu65 (pv 2) (pv 1) rfl)
      (pss_one (ps_set (i := 1) scs_Field_settled.nd rfl (.inl rfl) (pmeth (p_Field_led T) (pv 0) T.c_Field T.m_Field_led (hr.mono (by decide)) pass0 (pa_cons (pv 1) (pa_cons pe_str pa_nil))))))))
    (pss_one (ps_ret pe_bl))))), ?_⟩
    have hv' := hv
    obtain ⟨a, dx, fs, mv, kv, tv, wv, gv, rfl, ha, ⟨m1, m2, m3, m4⟩, ⟨l1, h1⟩, ⟨l2, h2⟩, ⟨l3, h3⟩, ⟨l4, h4⟩, ⟨l5, h5⟩, pk⟩ := hv.ex
    have hj' := hj
    obtain ⟨ja, sa, ra, rfl, hja, t1, t2⟩ := joint_inv hj
    refine ⟨_, rfl, ja, _, 0, _, rfl, rfl, hja, rfl, _, rfl, a, _, dx, fs, _, rfl, ha, T.c_Field, T.n_Field_goal, l5, _, _, t1.dp, h5.dp, shaped_nats _, shaped_nats _, _, rfl, ?_⟩
    have ee : PyData.eqv (nkD (.tup ((jt F X).st.map kN))) (nkD (.tup (F.goal.map kN))) = decide ((jt F X).st = F.goal) := eqv_nats _ _
    rw [ee]
    by_cases hg : (jt F X).st = F.goal
    · refine iteNS hg ?_
      intro t H1 nt s1 jd
      have key : ∀ n : Nat, (silK F X n).Nodup → (∀ k, k < n → keeps F (sil X k)) → n ≤ 12 := fun n nd hk => by
        refine Nat.le_of_not_lt fun h => ?_
        have e := steady13 ok hX fun k hk' => hk k (by omega)
        have := List.pairwise_iff_getElem.mp nd 2 3 (by simp [silK]; omega) (by simp [silK]; omega) (by omega)
        refine this ?_
        simp only [silK, List.getElem_map, List.getElem_range]
        rw [e]
      refine ⟨fun m σ H' => ∃ (n : Nat) (jv : V), σ = [some (.ref a), some jv, some (.ref t)] ∧ m = 14 - n ∧ Same H H' ∧ Tp K H' jv (encJ (jt F (sil X n))) ∧ JD P w K H' t (silK F X n) ∧ (silK F X n).Nodup ∧ ∀ k, k < n → keeps F (sil X k),
        ⟨14, 0, .ref ja, rfl, rfl, s1, by have := hj'.same s1; simpa [sil] using this, jd, by simp [silK], fun k hk => by omega⟩, fun m σ H' h => ?_⟩
      obtain ⟨n, jv, rfl, rfl, s2, tj, jd2, nd, hk⟩ := h
      have n12 := key n nd hk
      refine ⟨_, rfl, _, rfl, t, _, _, rfl, jd2, tj, encJ_tup _, depth_joint _, _, rfl, ?_⟩
      by_cases hin : encJ (jt F (sil X n)) ∈ silK F X n
      · refine iteNS hin ?_
        have e : decide (Settled F X) = true := by
          refine decide_eq_true ⟨hg, fun m => ?_⟩
          obtain ⟨i, hi, e⟩ := mem_silK.mp hin
          obtain ⟨k, hk', ek⟩ := again ok hi (encJ_inj e) m
          exact (keeps_j ek).mpr (hk k hk')
        have := q H' s2
        rw [e] at this
        exact this
      · refine iteNN hin ⟨fun σ' H'' => ∃ jv', σ' = [some (.ref a), some jv', some (.ref t)] ∧ Same H H'' ∧ Tp K H'' jv' (encJ (jt F (sil X (n + 1)))) ∧ JD P w K H'' t (silK F X (n + 1)) ∧ (silK F X (n + 1)).Nodup ∧ ∀ k, k < n + 1 → keeps F (sil X k), fun σ' H'' h => ?_, ?_⟩
        · obtain ⟨jv', h1, h2, h3, h4, h5, h6⟩ := h
          exact ⟨14 - (n + 1), by omega, n + 1, jv', h1, rfl, h2, h3, h4, h5, h6⟩
        · have ha2 := s2 _ _ ha
          refine ⟨_, rfl, a, dx, fs, rfl, ha2, m3, _, rfl, .ref a, jv, F, row, sil X n, rfl, hv'.same s2, ok, tj, fun H3 s3 => ?_⟩
          by_cases hkp : keeps F (sil X n)
          · rw [decide_eq_true hkp]
            refine ⟨true, rfl, iteF ?_⟩
            have nk : encJ (jt F (sil X n)) ∉ silK F X n := hin
            refine ⟨_, rfl, _, rfl, t, _, _, rfl, jd2.kp (Kp.of s3), tj.same s3, encJ_tup _, depth_joint _, nk, by simp [silK]; omega, fun H4 f4 jd4 => ?_⟩
            have s4 : Same H H4 := (s2.trans s3).sb nt fun b o nb e => f4 b o nb e
            have kt4 : Kt K H3 H4 := by
              obtain ⟨xs, e, _⟩ := (jd2.kp (Kp.of s3)).ex
              exact sb_tup (fun b o nb e => f4 b o nb e) e
            have tj4 := (tj.same s3).kt kt4
            refine ⟨_, rfl, a, dx, fs, rfl, s4 _ _ ha, m2, _, rfl, .ref a, jv, F, row, sil X n, 46, rfl, hv'.same s4, ok, sgOk_sil hX n, by simp [Wld.signs], tj4, fun H5 u5 s5 t5 => ?_⟩
            rw [← sil_succ] at t5
            refine ⟨u5, rfl, s4.trans s5, t5, ?_, ?_, fun k hk' => ?_⟩
            · rw [silK_succ]
              exact jd4.kp (Kp.of s5)
            · rw [silK_succ]
              exact nd_snoc nd nk
            · by_cases ek : k = n
              · rw [ek]
                exact hkp
              · exact hk k (by omega)
          · rw [decide_eq_false hkp]
            refine ⟨false, rfl, iteT ?_⟩
            have e : decide (Settled F X) = false := decide_eq_false fun z => hkp (z.2 n)
            have := q H3 (s2.trans s3)
            rw [e] at this
            exact this
    · refine iteNN hg ?_
      have e : decide (Settled F X) = false := decide_eq_false fun z => hg z.1
      have := q H (Same.refl _)
      rw [e] at this
      exact this

end
end TH
end
section
set_option Elab.async false
set_option linter.all false
set_option maxRecDepth 100000
set_option maxHeartbeats 4000000
namespace TH
open PySem PySem.Spec PyProof.Rows L2
section
variable {P : Program} {w : World} {K : PySem.W.Frag} {mg : Str → Option Value} {base : Heap}
/-! TooMany, and how it is raised -/
theorem p_TooMany_init (T : Tx K mg) : Pr P w K mg base CX0 1 ["self", "word"] [] (He.ma K (He.ga K "TooMany") "__init__")
    (fun vs H Q _ => ∃ (a : Addr) (y : V), vs = [.ref a, y] ∧ H a = some (exo a (He.ga K "TooMany") none) ∧ ∀ dx, H dx = none → dx ≠ a → Q .non (upd (upd H dx (exd dx [(("word" : Str), y)])) a (exo a (He.ga K "TooMany") (some dx)))) := by
  refine T.d_TooMany_init.pr scs_TooMany_init (fun vs H Q E h => ?_) (fun cdv A outer s H vs Q E hr h => ?_)
  · obtain ⟨a, y, rfl, _⟩ := h
    rfl
  · obtain ⟨a, y, rfl, ha, q⟩ := h
    refine ⟨_, (pss_one (ps_ost (pv 0) (pv 1))), ?_⟩
    exact ⟨_, rfl, _, rfl, a, _, rfl, T.oex, T.n_TooMany_word, .inl ⟨ha, q⟩⟩
/-- raise TooMany("..") -/
def sTooMany (K : PySem.W.Frag) (W : WX) : TS := fun _ σ H => ∀ d H', Same H H' → W (.ref (He.ga K "TooMany")) d σ H'
theorem ps_tooMany {X : Cx} {W : WX} {m : Str} {j : Nat} {p2 p pos pos2 : Pos} (T : Tx X.K X.mg) (hc : X.calm = true) (hr : Room 2 X.A) (tk : Takes X W) (hg : Gl X "TooMany" := by rfl) :
    PS X (.Raise (some (.Call (.Name "TooMany" p) [.Constant (.str m) j p2] [] pos)) none pos2) (sTooMany X.K W) := by
  obtain ⟨fd, ds, F1, b, v⟩ := (p_TooMany_init (P := X.prog) (w := X.w) (base := X.base) T).ex
  have M := T.m_TooMany_init
  have tI : PySem.W.typeIn X.K (.ref (He.ma X.K (He.ga X.K "TooMany") "__init__")) = some (.type "function") := by
    have := M.fn
    unfold PySem.W.isFn at this
    simpa using this
  have r := ps_raise (e := .Call (.Name "TooMany" p) [.Constant (.str m) j p2] [] pos) (pos := pos2) hc tk (pmk_oex T.oex M.at_ tI F1 hr b v pass0 hg T.g_TooMany (pa_cons (X := X) (e := .Constant (.str m) j p2) pe_str pa_nil) (by decide))
  refine ⟨fun pins s σ H D I h => r.run pins s σ H D I ?_⟩
  refine ⟨by show 1 ≤ 1000; decide, fun a na => ⟨a, .str m, rfl, upd_same, fun dx ndx ne => ⟨rfl, dx, _, upd_same, by rw [upd_ne ne]; exact upd_same, ?_, h _ _ fun c o e => ?_⟩⟩⟩
  · rw [upd_ne ne] at ndx
    exact ndx
  · rw [upd_ne ne] at ndx
    have c1 : c ≠ dx := fun z => by rw [z, ndx] at e; cases e
    have c2 : c ≠ a := fun z => by rw [z, na] at e; cases e
    rw [upd_ne c1, del_ne c2, upd_ne c2, upd_ne c1, upd_ne c2]
    exact e

end
end TH
end
section
set_option Elab.async false
set_option linter.all false
set_option maxRecDepth 100000
set_option maxHeartbeats 4000000
namespace TH
open PySem PySem.Spec PyProof.Rows L2
section
variable {P : Program} {w : World} {K : PySem.W.Frag} {mg : Str → Option Value} {base : Heap}
/-! the search: what it keeps -/
def good (F : Fld) (X : List Nat) : Prop := SgOk F X ∧ ∀ n, n ≤ X.length → keeps F (X.take n)
def key (F : Fld) (X : List Nat) : NK := encJ (jt F X)
def Exp (F : Fld) (A : List (List Nat)) (Y : List Nat) : Prop := ∀ c ∈ F.W.signs, keeps F (Y ++ [c]) → key F (Y ++ [c]) ∈ A.map (key F)
theorem good_snoc {F : Fld} {X : List Nat} {c : Nat} : good F (X ++ [c]) ↔ good F X ∧ c ∈ F.W.signs ∧ keeps F (X ++ [c]) := by
  constructor
  · intro h
    refine ⟨⟨fun d hd => h.1 d (List.mem_append_left _ hd), fun n hn => ?_⟩, h.1 c (by simp), ?_⟩
    · have := h.2 n (by simp; omega)
      rw [List.take_append_of_le_length hn] at this
      exact this
    · have := h.2 (X ++ [c]).length (Nat.le_refl _)
      rw [List.take_length] at this
      exact this
  · rintro ⟨h, hc, hk⟩
    refine ⟨fun d hd => ?_, fun n hn => ?_⟩
    · rcases List.mem_append.mp hd with hd | hd
      · exact h.1 d hd
      · rw [List.mem_singleton.mp hd]
        exact hc
    · by_cases e : n ≤ X.length
      · rw [List.take_append_of_le_length e]
        exact h.2 n e
      · rw [List.take_of_length_le (by simp; omega)]
        exact hk
theorem good_self {F : Fld} {X : List Nat} (h : good F X) : keeps F X := by
  have := h.2 X.length (Nat.le_refl _)
  rw [List.take_length] at this
  exact this
theorem key_eq {F : Fld} {X Y : List Nat} (h : key F X = key F Y) : jt F X = jt F Y := encJ_inj h
theorem key_mem {F : Fld} {A : List (List Nat)} {X : List Nat} : key F X ∈ A.map (key F) ↔ ∃ Y ∈ A, jt F Y = jt F X := by
  rw [List.mem_map]
  exact ⟨fun ⟨Y, h, e⟩ => ⟨Y, h, key_eq e⟩, fun ⟨Y, h, e⟩ => ⟨Y, h, congrArg encJ e⟩⟩
theorem Exp.congr {F : Fld} (ok : FOk F) {A : List (List Nat)} {X Y : List Nat} (h : Exp F A X) (e : jt F X = jt F Y) : Exp F A Y := fun c hc hk => by
  have e1 := jt_app ok e [c]
  have := h c hc ((keeps_j e1).mpr hk)
  rw [key_mem] at this ⊢
  obtain ⟨Z, hZ, eZ⟩ := this
  exact ⟨Z, hZ, eZ.trans e1⟩
theorem Exp.mono {F : Fld} {A B : List (List Nat)} {X : List Nat} (h : Exp F A X) (s : ∀ Y ∈ A, Y ∈ B) : Exp F B X := fun c hc hk => by
  have := h c hc hk
  rw [key_mem] at this ⊢
  obtain ⟨Z, hZ, eZ⟩ := this
  exact ⟨Z, s Z hZ, eZ⟩
structure Bf (F : Fld) (done Ls : List (List Nat)) (n : Nat) : Prop where
  gd : ∀ Y ∈ done ++ Ls, good F Y ∧ ¬ Settled F Y
  lv : ∀ X ∈ Ls, X.length = n
  ex : ∀ Y ∈ done, Exp F (done ++ Ls) Y
  cv : ∀ X, good F X → X.length ≤ n → key F X ∈ (done ++ Ls).map (key F)
  nl : n ≤ done.length
  tot : (done ++ Ls).length ≤ 800
theorem Bf.start {F : Fld} (h : good F []) (hs : ¬ Settled F []) : Bf F [] [[]] 0 := by
  refine ⟨fun Y hY => ?_, fun X hX => ?_, (fun Y hY => nomatch hY), fun X hX hl => ?_, Nat.le_refl _, by decide⟩
  · have e : Y = [] := by simpa using hY
    rw [e]
    exact ⟨h, hs⟩
  · have e : X = [] := by simpa using hX
    rw [e]
    rfl
  · have e : X = [] := List.length_eq_zero_iff.mp (by omega)
    rw [e]
    simp
/-- shorter ones are none -/
theorem Bf.none {F : Fld} (ok : FOk F) {done Ls : List (List Nat)} {n : Nat} (b : Bf F done Ls n) {X : List Nat} (h : good F X) (hl : X.length ≤ n) : ¬ Settled F X := by
  have := b.cv X h hl
  rw [key_mem] at this
  obtain ⟨Y, hY, e⟩ := this
  exact fun z => (b.gd Y hY).2 ((settled_j ok e).mpr z)
/-- all expanded: closed -/
theorem closed_all {F : Fld} (ok : FOk F) {A : List (List Nat)} (h0 : key F [] ∈ A.map (key F)) (hx : ∀ Y ∈ A, Exp F A Y) : ∀ X, good F X → key F X ∈ A.map (key F) := by
  have key2 : ∀ (n : Nat) (X : List Nat), X.length = n → good F X → key F X ∈ A.map (key F) := by
    intro n
    induction n with
    | zero =>
      intro X hX _
      rw [List.length_eq_zero_iff.mp hX]
      exact h0
    | succ n ih =>
      intro X hX hg
      rcases List.eq_nil_or_concat X with e | ⟨X', c, e⟩
      · rw [e] at hX
        simp at hX
      · rw [e, List.concat_eq_append] at hg ⊢
        obtain ⟨g1, g2, g3⟩ := good_snoc.mp hg
        have := ih X' (by rw [e] at hX; simpa using hX) g1
        rw [key_mem] at this
        obtain ⟨Y, hY, eY⟩ := this
        exact ((hx Y hY).congr ok eY) c g2 g3
  exact fun X hX => key2 X.length X rfl hX
theorem Bf.over {F : Fld} (ok : FOk F) {done : List (List Nat)} {n : Nat} (b : Bf F done [] n) (h0 : good F []) : ∀ X, good F X → ¬ Settled F X := fun X hX => by
  have hx : ∀ Y ∈ done, Exp F done Y := fun Y hY => by
    have := b.ex Y hY
    rw [List.append_nil] at this
    exact this
  have k0 := b.cv [] h0 (Nat.zero_le _)
  rw [List.append_nil] at k0
  have := closed_all ok k0 hx X hX
  rw [key_mem] at this
  obtain ⟨Y, hY, e⟩ := this
  exact fun z => (b.gd Y (by rw [List.append_nil]; exact hY)).2 ((settled_j ok e).mpr z)
/-- within a level -/
structure Bl (F : Fld) (done Ls Fr : List (List Nat)) (n i : Nat) : Prop where
  fr : ∀ X ∈ Fr, good F X ∧ ¬ Settled F X ∧ X.length = n + 1
  ex : ∀ Y ∈ done ++ Ls.take i, Exp F (done ++ Ls ++ Fr) Y
  tot : (done ++ Ls ++ Fr).length ≤ 800
theorem Bl.start {F : Fld} {done Ls : List (List Nat)} {n : Nat} (b : Bf F done Ls n) : Bl F done Ls [] n 0 :=
  ⟨(fun X h => nomatch h), fun Y hY => by rw [List.append_nil]; exact b.ex Y (by simpa using hY), by rw [List.append_nil]; exact b.tot⟩
theorem Bl.next {F : Fld} (ok : FOk F) {done Ls Fr : List (List Nat)} {n : Nat} (b : Bf F done Ls n) (l : Bl F done Ls Fr n Ls.length) (hne : Ls ≠ []) : Bf F (done ++ Ls) Fr (n + 1) := by
  have ex := l.ex
  rw [List.take_length] at ex
  refine ⟨fun Y hY => ?_, fun X hX => (l.fr X hX).2.2, ex, fun X hX hl => ?_, ?_, l.tot⟩
  · rcases List.mem_append.mp hY with h | h
    · exact b.gd Y h
    · exact ⟨(l.fr Y h).1, (l.fr Y h).2.1⟩
  · by_cases e : X.length ≤ n
    · have := b.cv X hX e
      rw [key_mem] at this ⊢
      obtain ⟨Y, hY, eY⟩ := this
      exact ⟨Y, List.mem_append_left _ hY, eY⟩
    · rcases List.eq_nil_or_concat X with e' | ⟨X', c, e'⟩
      · rw [e'] at e
        simp at e
      · rw [e', List.concat_eq_append] at hX ⊢
        obtain ⟨g1, g2, g3⟩ := good_snoc.mp hX
        have := b.cv X' g1 (by rw [e'] at hl; simp at hl; omega)
        rw [key_mem] at this
        obtain ⟨Y, hY, eY⟩ := this
        exact ((ex Y hY).congr ok eY) c g2 g3
  · have h1 := b.nl
    have h2 : 0 < Ls.length := List.length_pos_iff.mpr hne
    rw [List.length_append]
    omega
/-- within the signs of one text of a level -/
structure Bs (F : Fld) (done Ls Fr : List (List Nat)) (n i k : Nat) (X : List Nat) : Prop where
  l : Bl F done Ls Fr n i
  s : ∀ c ∈ F.W.signs.take k, keeps F (X ++ [c]) → key F (X ++ [c]) ∈ (done ++ Ls ++ Fr).map (key F)
theorem Bs.start {F : Fld} {done Ls Fr : List (List Nat)} {n i : Nat} {X : List Nat} (l : Bl F done Ls Fr n i) : Bs F done Ls Fr n i 0 X := ⟨l, fun c hc => by simp at hc⟩
theorem Bs.skip {F : Fld} {done Ls Fr : List (List Nat)} {n i k c : Nat} {X : List Nat} (b : Bs F done Ls Fr n i k X) (hc : F.W.signs[k]? = some c) (h : ¬ (key F (X ++ [c]) ∉ (done ++ Ls ++ Fr).map (key F) ∧ keeps F (X ++ [c]))) : Bs F done Ls Fr n i (k + 1) X := by
  refine ⟨b.l, fun d hd hk => ?_⟩
  rw [take_snoc hc] at hd
  rcases List.mem_append.mp hd with hd | hd
  · exact b.s d hd hk
  · rw [List.mem_singleton.mp hd] at hk ⊢
    exact Classical.not_not.mp fun z => h ⟨z, hk⟩
theorem Bs.add {F : Fld} {done Ls Fr : List (List Nat)} {n i k c : Nat} {X : List Nat} (b : Bs F done Ls Fr n i k X) (hc : F.W.signs[k]? = some c) (hX : good F X) (hl : X.length = n) (hk : keeps F (X ++ [c])) (hs : ¬ Settled F (X ++ [c])) (ht : (done ++ Ls ++ Fr).length + 1 ≤ 800) : Bs F done Ls (Fr ++ [X ++ [c]]) n i (k + 1) X := by
  have sub : ∀ Y ∈ done ++ Ls ++ Fr, Y ∈ done ++ Ls ++ (Fr ++ [X ++ [c]]) := fun Y hY => by
    rw [← List.append_assoc]
    exact List.mem_append_left _ hY
  refine ⟨⟨fun Y hY => ?_, fun Y hY => (b.l.ex Y hY).mono sub, ?_⟩, fun d hd hk' => ?_⟩
  · rcases List.mem_append.mp hY with hY | hY
    · exact b.l.fr Y hY
    · rw [List.mem_singleton.mp hY]
      exact ⟨good_snoc.mpr ⟨hX, List.mem_of_getElem? hc, hk⟩, hs, by simp [hl]⟩
  · rw [← List.append_assoc, List.length_append]
    simpa using ht
  · rw [take_snoc hc] at hd
    rcases List.mem_append.mp hd with hd | hd
    · have := b.s d hd hk'
      rw [key_mem] at this ⊢
      obtain ⟨Y, hY, eY⟩ := this
      exact ⟨Y, sub Y hY, eY⟩
    · rw [List.mem_singleton.mp hd, key_mem]
      exact ⟨X ++ [c], by simp, rfl⟩
theorem Bs.done {F : Fld} {done Ls Fr : List (List Nat)} {n i : Nat} {X : List Nat} (b : Bs F done Ls Fr n i F.W.signs.length X) (hX : Ls[i]? = some X) : Bl F done Ls Fr n (i + 1) := by
  refine ⟨b.l.fr, fun Y hY => ?_, b.l.tot⟩
  rw [take_snoc hX, ← List.append_assoc] at hY
  rcases List.mem_append.mp hY with hY | hY
  · exact b.l.ex Y hY
  · rw [List.mem_singleton.mp hY]
    have s := b.s
    rw [List.take_length] at s
    exact s

end
end TH
end
section
set_option Elab.async false
set_option linter.all false
set_option maxRecDepth 100000
set_option maxHeartbeats 4000000
namespace TH
open PySem PySem.Spec PyProof.Rows L2
section
variable {P : Program} {w : World} {K : PySem.W.Frag} {mg : Str → Option Value} {base : Heap}
/-! search -/
def encLv (F : Fld) (X : List Nat) : NK := .tup [key F X, kS X]
theorem lv_inv {H : Hp} {v : V} {F : Fld} {X : List Nat} (h : Tp K H v (encLv F X)) : ∃ u jv, v = .ref u ∧ SqT K H u [jv, .str (str X)] ∧ Tp K H jv (key F X) := by
  obtain ⟨u, xs, rfl, hs, _, ha⟩ := h.tup_inv
  cases ha with
  | cons h1 h2 =>
    cases h2 with
    | cons h2 h3 =>
      cases h3
      rw [h2.str_inv] at hs
      exact ⟨u, _, rfl, hs, h1⟩
theorem lv_tp {H : Hp} {u : Addr} {jv : V} {F : Fld} {X : List Nat} (h : H u = some (.tup [jv, .str (str X)])) (hj : Tp K H jv (key F X)) : Tp K H (.ref u) (encLv F X) := .tup (.inl (.inl h)) (by simp) (.cons hj (.cons (.str _) .nil))
structure Ss (P : Program) (w : World) (K : PySem.W.Frag) (F : Fld) (H H' : Hp) (t li : Addr) (A : List (List Nat)) : Prop where
  s : Same H H'
  jd : JD P w K H' t (A.map (key F))
  ls : ∃ js, H' li = some (.lst js) ∧ js.length = A.length
theorem Ss.grow {F : Fld} {H H1 H2 : Hp} {t li : Addr} {A : List (List Nat)} (x : Ss P w K F H H1 t li A) (s : Same H1 H2) : Ss P w K F H H2 t li A := by
  obtain ⟨js, h1, h2⟩ := x.ls
  exact ⟨x.s.trans s, x.jd.kp (Kp.of s), js, s _ _ h1, h2⟩
theorem JD.ext {F : Fld} {H : Hp} {t : Addr} {ks : List NK} (h : JD P w K H t ks) : ∃ φ, H t = some (.ext φ) := by
  obtain ⟨xs, e, _⟩ := h.ex
  exact ⟨_, e⟩
theorem JD.ne {H : Hp} {t l : Addr} {ks : List NK} {xs : List V} (h : JD P w K H t ks) (e : H l = some (.lst xs)) : t ≠ l := fun z => by
  obtain ⟨ys, e', _⟩ := h.ex
  rw [z, e] at e'
  cases e'
open Classical in
theorem p_search (T : Tx K mg) : Pr P w K mg base (L2.CX P w) 6 ["field"] [] (He.ga K "search")
    (fun vs H Q E => ∃ (v : V) (F : Fld) (row : List Nat), vs = [v] ∧ IsField K H v F row ∧ FOk F ∧ (∀ d H', Same H H' → E (.ref (He.ga K "TooMany")) d H') ∧
      (∀ H' z l js, Same H H' → H' z = some (.tup [.non, .ref l]) → H' l = some (.lst js) → js.length ≤ 2000 → (∀ X, good F X → ¬ Settled F X) → Q (.ref z) H') ∧
      ∀ H' z l X, Same H H' → H' z = some (.tup [.str (str X), .ref l]) → good F X → Settled F X → (∀ Y, good F Y → Y.length < X.length → ¬ Settled F Y) → X.length ≤ 801 → Q (.ref z) H') := by
  refine T.d_search.prX scs_search (fun vs H Q E h => ?_) (fun cdv A outer s H vs Q E hr h => ?_)
  · obtain ⟨v, F, row, rfl, _⟩ := h
    rfl
  · obtain ⟨v, F, row, rfl, hv, ok, qE, qN, qY⟩ := h
    have hu65 := room65 hr
    refine ⟨_, (pss_cons (ps_set (i := 1) scs_search.nd rfl (.inl rfl) (pmeth0 (p_Field_first_joint T) (pv 0) T.c_Field T.m_Field_first_joint (hr.mono (by decide)) pass0))
    (pss_cons (ps_if (pt_not (pt_val (pmeth (p_Field_keeps T) (pv 0) T.c_Field T.m_Field_keeps (hr.mono (by decide)) pass0 (pa_cons (pv 1) pa_nil))))
      (pss_one (ps_ret (pe_tup (pa_cons pe_non (pa_cons (pe_lst pa_nil) pa_nil)))))
      pss_nil)
    (pss_cons (ps_if (pt_val (pmeth (p_Field_settled T) (pv 0) T.c_Field T.m_Field_settled (hr.mono (by decide)) pass0 (pa_cons (pv 1) pa_nil)))
      (pss_one (ps_ret (pe_tup (pa_cons pe_str (pa_cons (pe_lst pa_nil) pa_nil)))))
      pss_nil)
    (pss_cons (ps_set (i := 2) scs_search.nd rfl (.inl rfl) pe_jnew)
    (pss_cons (ps_jput hu65 (pv 2) (pv 1) rfl)
    (pss_cons (ps_set (i := 3) scs_search.nd rfl (.inl rfl) (pe_lst (pa_cons (pv 1) pa_nil)))
    (pss_cons (ps_set (i := 4) scs_search.nd rfl (.inl rfl) (pe_lst (pa_cons (pe_tup (pa_cons (pv 1) (pa_cons pe_str pa_nil))) pa_nil)))
    (pss_cons (ps_while (passes_of rfl) (pt_truth (pv 4) (fun _ => rfl))
      (pss_cons (ps_set (i := 5) scs_search.nd rfl (.inl rfl) (pe_lst pa_nil))
      (pss_cons (ps_for (passes_of rfl) rfl (pi_list (pe_callTy call_lstU (by rfl) T.z_list (by decide +kernel) (pa_cons (pv 4) pa_nil))) (pg_tup rfl (pgs_cons (pg_name (i := 6) scs_search.nd rfl (.inl rfl) (.inl rfl)) (pgs_cons (pg_name (i := 7) scs_search.nd rfl (.inl rfl) (.inl rfl)) pgs_nil)))
        (pss_one (ps_for (passes_of rfl) rfl (pi_str (pe_fld (pe_fld (pv 0) rfl) rfl)) (pg_name (i := 8) scs_search.nd rfl (.inl rfl) (.inl rfl))
          (pss_cons (ps_set (i := 9) scs_search.nd rfl (.inl rfl) (pmeth (p_Field_led T) (pv 0) T.c_Field T.m_Field_led (hr.mono (by decide)) pass0 (pa_cons (pv 6) (pa_cons (pv 8) pa_nil))))
          (pss_one (ps_if (pw_and (pt_cmp (pc_jnotin hu65 (pv 9) (pv 2))) (pw_and1 (pt_val (pmeth (p_Field_keeps T) (pv 0) T.c_Field T.m_Field_keeps (hr.mono (by decide)) pass0 (pa_cons (pv 9) pa_nil))))).pt
            (pss_cons (ps_jput hu65 (pv 2) (pv 9) rfl)
            (pss_cons (ps_if (pt_val (pmeth (p_Field_settled T) (pv 0) T.c_Field T.m_Field_settled (hr.mono (by decide)) pass0 (pa_cons (pv 9) pa_nil)))
              (pss_one (ps_ret (pe_tup (pa_cons (pe_op op_add_str (pv 7) (pv 8)) (pa_cons (pv 3) pa_nil)))))
              pss_nil)
            (pss_cons (ps_expr (pe_bm PySem.F.plainAttrs_list PySem.F.slot_list_append PySem.F.type_list_append mt_appU (pv 3) (pa_cons (pv 9) pa_nil)))
            (pss_cons (ps_expr (pe_bm PySem.F.plainAttrs_list PySem.F.slot_list_append PySem.F.type_list_append mt_appU (pv 5) (pa_cons (pe_tup (pa_cons (pv 9) (pa_cons (pe_op op_add_str (pv 7) (pv 8)) pa_nil))) pa_nil)))
            (pss_one (ps_if (pt_cmpR op_gt (pe_callB call_len_seq (by rfl) T.z_len PySem.boot_len (pa_cons (pv 3) pa_nil)) pe_int (nomark _))
              (pss_one (ps_tooMany T rfl (hr.mono (by decide)) (takes_of rfl rfl rfl rfl)))
              pss_nil))))))
            pss_nil))))))
      (pss_one (ps_set (i := 4) scs_search.nd rfl (.inl rfl) (pv 5))))))
    (pss_one (ps_ret (pe_tup (pa_cons pe_non (pa_cons (pv 3) pa_nil))))))))))))), ?_⟩
    have hv' := hv
    obtain ⟨a, dx, fs, mv, kv, tv, wv, gv, rfl, ha, ⟨m1, m2, m3, m4⟩, ⟨l1, h1⟩, _⟩ := hv.ex
    refine ⟨_, rfl, a, dx, fs, rfl, ha, m1, .ref a, F, row, rfl, hv', ok, fun H1 bv s1 tb => ?_⟩
    refine ⟨_, rfl, a, dx, fs, rfl, s1 _ _ ha, m3, _, rfl, .ref a, bv, F, row, [], rfl, hv'.same s1, ok, tb, fun H2 s2 => ?_⟩
    have s12 := s1.trans s2
    by_cases hk0 : keeps F []
    · rw [decide_eq_true hk0]
      refine ⟨true, rfl, iteF ?_⟩
      have g0 : good F [] := ⟨(fun c hc => nomatch hc), fun n hn => by simpa using hk0⟩
      refine ⟨_, rfl, a, dx, fs, rfl, s12 _ _ ha, m4, _, rfl, .ref a, bv, F, row, [], rfl, hv'.same s12, ok, (fun c hc => nomatch hc), tb.same s2, fun H3 s3 => ?_⟩
      have s13 := s12.trans s3
      by_cases hs0 : Settled F []
      · rw [decide_eq_true hs0]
        refine ⟨true, rfl, iteT ?_⟩
        refine ⟨by show 0 ≤ sizeLine; decide, fun l nl => ?_⟩
        have sl := same_upd (o := .lst []) nl
        refine ⟨by show 2 ≤ sizeLine; decide, fun z nz => ?_⟩
        exact qY _ z l [] ((s13.trans sl).upd nz) upd_same g0 hs0 (fun Y _ h => absurd h (Nat.not_lt_zero _)) (Nat.zero_le _)
      · rw [decide_eq_false hs0]
        refine ⟨false, rfl, iteF ?_⟩
        intro t H4 nt s4 jd4
        have tb4 := (tb.same (s2.trans s3)).same s4
        refine ⟨_, rfl, _, rfl, t, [], _, rfl, jd4, tb4, encJ_tup _, depth_joint _, (by simp), (by simp), fun H5 f5 jd5 => ?_⟩
        have nt0 : H t = none := s13.back nt
        have s5 : Same H H5 := (s13.trans s4).sb nt0 fun b o nb e => f5 b o nb e
        have kt5 : Kt K H4 H5 := by
          obtain ⟨φ, e⟩ := jd4.ext (F := F)
          exact sb_tup (fun b o nb e => f5 b o nb e) e
        have tb5 := tb4.kt kt5
        refine ⟨_, rfl, by show 1 ≤ sizeLine; decide, fun li nli => ?_⟩
        have s6 := same_upd (o := .lst [bv]) nli
        have e6 : (upd H5 li (.lst [bv])) li = some (.lst [bv]) := upd_same
        generalize upd H5 li (.lst [bv]) = H6 at s6 e6 ⊢
        refine ⟨_, rfl, by show 2 ≤ sizeLine; decide, fun u nu => ?_⟩
        have s7 := same_upd (o := .tup [bv, .str ""]) nu
        have e7 : (upd H6 u (.tup [bv, .str ""])) u = some (.tup [bv, .str ""]) := upd_same
        generalize upd H6 u (.tup [bv, .str ""]) = H7 at s7 e7 ⊢
        refine ⟨by show 1 ≤ sizeLine; decide, fun lv nlv => ?_⟩
        have s8 := same_upd (o := .lst [.ref u]) nlv
        have e8 : (upd H7 lv (.lst [.ref u])) lv = some (.lst [.ref u]) := upd_same
        generalize upd H7 lv (.lst [.ref u]) = H8 at s8 e8 ⊢
        have nli0 : H li = none := s5.back nli
        have ntli : t ≠ li := fun z => by
          obtain ⟨φ, e⟩ := jd5.ext (F := F)
          rw [z, nli] at e
          cases e
        have s58 := (s6.trans s7).trans s8
        have ss8 : Ss P w K F H H8 t li [[]] := ⟨s5.trans s58, jd5.kp (Kp.of s58), [bv], (s7.trans s8) _ _ e6, rfl⟩
        have tl8 : TpAll K H8 [.ref u] ([[]].map (encLv F)) := .cons (lv_tp (X := []) (s8 _ _ e7) (tb5.same s58)) .nil
        refine ⟨fun m σ H' => ∃ (done Ls : List (List Nat)) (n : Nat) (lv : Addr) (lvs : List V) (x5 x6 x7 x8 x9 : Option V), σ = [some (.ref a), some bv, some (.ref t), some (.ref li), some (.ref lv), x5, x6, x7, x8, x9] ∧ m = 2 * (801 - (done ++ Ls).length) + (if Ls = [] then 0 else 1) ∧ Bf F done Ls n ∧ Ss P w K F H H' t li (done ++ Ls) ∧ H' lv = some (.lst lvs) ∧ TpAll K H' lvs (Ls.map (encLv F)) ∧ lv ≠ li,
          ⟨_, [], [[]], 0, lv, [.ref u], _, _, _, _, _, rfl, rfl, Bf.start g0 hs0, ss8, e8, tl8, fun z => by rw [z, s7 _ _ e6] at nlv; cases nlv⟩, fun m σ H' h => ?_⟩
        obtain ⟨done, Ls, n, lv, lvs, x5, x6, x7, x8, x9, rfl, rfl, bf, ss, elv, tlv, nlvli⟩ := h
        have llv : lvs.length = Ls.length := by simpa using tlv.length
        have lvb : lvs.length ≤ 800 := by
          have := bf.tot
          rw [List.length_append] at this
          omega
        refine ⟨_, rfl, _, .inl ⟨lvs, .inl (.inl elv), rfl⟩, ?_⟩
        by_cases hL : Ls = []
        · have e0 : lvs = [] := List.length_eq_zero_iff.mp (by rw [llv, hL]; rfl)
          rw [e0]
          subst hL
          refine iteF ⟨_, rfl, by show 2 ≤ sizeLine; decide, fun z nz => ?_⟩
          obtain ⟨js, j1, j2⟩ := ss.ls
          have sz := same_upd (o := .tup [.non, .ref li]) nz
          have := bf.tot
          exact qN _ z li js (ss.s.trans sz) upd_same (sz _ _ j1) (by omega) (bf.over ok g0)
        · have ne : lvs.isEmpty = false := by
            cases lvs with
            | nil =>
              exact absurd (List.length_eq_zero_iff.mp llv.symm) hL
            | cons _ _ => rfl
          rw [ne]
          refine iteT ⟨fun σ' H' => ∃ (Fr : List (List Nat)) (fr : Addr) (frs : List V) (x5 x6 x7 x8 x9 : Option V), σ' = [some (.ref a), some bv, some (.ref t), some (.ref li), some (.ref fr), x5, x6, x7, x8, x9] ∧ Bl F done Ls Fr n Ls.length ∧ Ss P w K F H H' t li (done ++ Ls ++ Fr) ∧ H' fr = some (.lst frs) ∧ TpAll K H' frs (Fr.map (encLv F)) ∧ fr ≠ li, fun σ' H'' h => ?_, ?_⟩
          · obtain ⟨Fr, fr, frs, y5, y6, y7, y8, y9, h1, h2, h3, h4, h5, h6⟩ := h
            refine ⟨_, ?_, done ++ Ls, Fr, n + 1, fr, frs, y5, y6, y7, y8, y9, h1, rfl, h2.next ok bf hL, h3, h4, h5, h6⟩
            have t1 := h2.tot
            rw [if_neg hL]
            simp only [List.length_append] at *
            split
            · rename_i e
              rw [e]
              simp
            · rename_i e
              have : 0 < Fr.length := List.length_pos_iff.mpr e
              omega
          · refine ⟨by show 0 ≤ sizeLine; decide, fun fr nfr => ?_⟩
            have sa := same_upd (o := .lst []) nfr
            have ea : (upd H' fr (.lst [])) fr = some (.lst []) := upd_same
            generalize upd H' fr (.lst []) = Ha at sa ea ⊢
            have ssa := ss.grow sa
            have nfr0 : H fr = none := ss.s.back nfr
            obtain ⟨js0, j1, j2⟩ := ss.ls
            have nfrli : fr ≠ li := fun z => by rw [← z, nfr] at j1; cases j1
            have ntfr : t ≠ fr := fun z => by
              obtain ⟨φ, e⟩ := ss.jd.ext (F := F)
              rw [z, nfr] at e
              cases e
            refine ⟨_, rfl, lv, lvs, rfl, .inl (.inl (.inl (sa _ _ elv))), fun l Hb nl sb eb => ?_⟩
            have ssb := ssa.grow sb
            have nlfr : l ≠ fr := fun z => by rw [z, ea] at nl; cases nl
            have nlli : l ≠ li := fun z => by rw [z, sa _ _ j1] at nl; cases nl
            have ntl : t ≠ l := fun z => by
              obtain ⟨φ, e⟩ := ssa.jd.ext (F := F)
              rw [z, nl] at e
              cases e
            have nl0 : H l = none := ssa.s.back nl
            refine ⟨l, rfl, ⟨lvs, .inl (.inl eb)⟩, for_it (walk_list (xs := lvs)) (fun i σ H' => ∃ (Fr : List (List Nat)) (frs : List V) (x6 x7 x8 x9 : Option V), σ = [some (.ref a), some bv, some (.ref t), some (.ref li), some (.ref lv), some (.ref fr), x6, x7, x8, x9] ∧ Bl F done Ls Fr n i ∧ Ss P w K F H H' t li (done ++ Ls ++ Fr) ∧ H' fr = some (.lst frs) ∧ TpAll K H' frs (Fr.map (encLv F)) ∧ H' l = some (.lst lvs) ∧ TpAll K H' lvs (Ls.map (encLv F)))
              ⟨[], [], _, _, _, _, rfl, Bl.start bf, by rw [List.append_nil]; exact ssb, sb _ _ ea, .nil, eb, (tlv.same sa).same sb⟩ (fun i σ H' _ h => ?_) (fun i y σ H1 H2 hi h yy => ?_) fun σ H1 h => ?_⟩
            · obtain ⟨_, _, _, _, _, _, _, _, _, _, _, h6, _⟩ := h
              exact .inl (.inl h6)
            · obtain ⟨Fr, frs, x6, x7, x8, x9, rfl, bl, ss1, ef, tf, el, tl⟩ := h
              obtain ⟨rfl, g⟩ := yy
              obtain ⟨k0, gk, tk⟩ := tl.at g
              obtain ⟨X, gX, rfl⟩ := map_at gk
              obtain ⟨u, jv, rfl, hu, tj⟩ := lv_inv tk
              have mX := List.mem_of_getElem? gX
              have gdX := (bf.gd X (List.mem_append_right _ mX)).1
              have lX := bf.lv X mX
              have ln : n ≤ 800 := by
                have h1 := bf.nl
                have h2 := bf.tot
                rw [List.length_append] at h2
                omega
              refine ⟨u, _, rfl, hu, rfl, _, _, rfl, _, _, rfl, rfl, ?_⟩
              have m2' := h1.same ss1.s
              obtain ⟨ma, mdx, mfs, em, hma, l3, _⟩ := m2'.signs
              refine ⟨_, rfl, a, _, dx, fs, _, rfl, ss1.s _ _ ha, T.c_Field, T.n_Field_make, l1, ma, _, mdx, mfs, _, em, hma, T.c_Make, T.n_Make_signs, l3, str F.W.signs, rfl, ?_⟩
              refine for_it (walk_str (z := str F.W.signs)) (fun k σ H' => ∃ (Fr : List (List Nat)) (frs : List V) (x8 x9 : Option V), σ = [some (.ref a), some bv, some (.ref t), some (.ref li), some (.ref lv), some (.ref fr), some jv, some (.str (str X)), x8, x9] ∧ Bs F done Ls Fr n i k X ∧ Ss P w K F H H' t li (done ++ Ls ++ Fr) ∧ H' fr = some (.lst frs) ∧ TpAll K H' frs (Fr.map (encLv F)) ∧ H' l = some (.lst lvs) ∧ TpAll K H' lvs (Ls.map (encLv F)) ∧ Tp K H' jv (key F X))
                ⟨Fr, frs, _, _, rfl, Bs.start bl, ss1, ef, tf, el, tl, tj⟩ (fun k σ H' _ h => trivial) (fun k y σ H3 H4 hk h yy => ?_) fun σ H3 h => ?_
              · obtain ⟨Fr, frs, x8, x9, rfl, bs, ss3, ef, tf, el, tl, tj⟩ := h
                obtain ⟨rfl, c, hc', rfl⟩ := yy
                have gc : F.W.signs[k]? = some c := str_at hc'
                have mc := List.mem_of_getElem? gc
                have sgX : SgOk F (X ++ [c]) := fun d hd => by
                  rcases List.mem_append.mp hd with hd | hd
                  · exact gdX.1 d hd
                  · rw [List.mem_singleton.mp hd]
                    exact mc
                refine ⟨_, rfl, a, dx, fs, rfl, ss3.s _ _ ha, m2, _, rfl, _, rfl, .ref a, jv, F, row, X, c, rfl, hv'.same ss3.s, ok, gdX.1, mc, tj, fun H5 v5 s5 t5 => ?_⟩
                have ss5 := ss3.grow s5
                refine ⟨_, rfl, _, rfl, t, _, _, rfl, ss5.jd, t5, encJ_tup _, depth_joint _, _, rfl, ?_⟩
                by_cases hin : encJ (jt F (X ++ [c])) ∈ (done ++ Ls ++ Fr).map (key F)
                · exact iteNS hin ⟨Fr, frs, _, _, rfl, bs.skip gc fun z => z.1 hin, ss5, s5 _ _ ef, tf.same s5, s5 _ _ el, tl.same s5, tj.same s5⟩
                · refine iteNN hin ?_
                  refine ⟨_, rfl, a, dx, fs, rfl, ss5.s _ _ ha, m3, _, rfl, .ref a, v5, F, row, X ++ [c], rfl, hv'.same ss5.s, ok, t5, fun H6 s6 => ?_⟩
                  have ss6 := ss5.grow s6
                  have s56 := s5.trans s6
                  by_cases hkp : keeps F (X ++ [c])
                  · rw [decide_eq_true hkp]
                    refine ⟨true, rfl, iteT ?_⟩
                    have tot := bs.l.tot
                    refine ⟨_, rfl, _, rfl, t, _, _, rfl, ss6.jd, t5.same s6, encJ_tup _, depth_joint _, hin, by rw [List.length_map]; omega, fun H7 f7 jd7 => ?_⟩
                    have b7 : Sb t H6 H7 := fun b o nb e => f7 b o nb e
                    have nt6 : t ≠ li := by
                      obtain ⟨js, q1, _⟩ := ss6.ls
                      exact ss6.jd.ne q1
                    have s7 : Same H H7 := ss6.s.sb nt0 b7
                    have kt7 : Kt K H6 H7 := by
                      obtain ⟨φ, e⟩ := ss6.jd.ext (F := F)
                      exact sb_tup b7 e
                    have t7 := (t5.same s6).kt kt7
                    have ef7 : H7 fr = some (.lst frs) := b7 _ _ ntfr.symm (s56 _ _ ef)
                    have el7 : H7 l = some (.lst lvs) := b7 _ _ ntl.symm (s56 _ _ el)
                    have tf7 := (tf.same s56).kt kt7
                    have tl7 := (tl.same s56).kt kt7
                    have tj7 := (tj.same s56).kt kt7
                    have gXc : good F (X ++ [c]) := good_snoc.mpr ⟨gdX, mc, hkp⟩
                    refine ⟨_, rfl, a, dx, fs, rfl, s7 _ _ ha, m4, _, rfl, .ref a, v5, F, row, X ++ [c], rfl, hv'.same s7, ok, sgX, t7, fun H8 s8 => ?_⟩
                    have zc : (str X).length + (one c).length ≤ sizeLine := by
                      rw [str_len, lX]
                      have : (1000 : Nat) ≤ sizeLine := by decide
                      have : (one c).length = 1 := rfl
                      omega
                    by_cases hst : Settled F (X ++ [c])
                    · rw [decide_eq_true hst]
                      refine ⟨true, rfl, iteT ⟨_, rfl, _, rfl, str X, one c, rfl, rfl, zc, ?_⟩⟩
                      rw [show str X ++ one c = str (X ++ [c]) from str_app _ _]
                      refine ⟨_, rfl, by show 2 ≤ sizeLine; decide, fun z nz => ?_⟩
                      refine qY _ z li (X ++ [c]) ((s7.trans s8).upd nz) upd_same gXc hst (fun Y hY hl => bf.none ok hY ?_) ?_
                      · simp [lX] at hl
                        omega
                      · simp [lX]
                        omega
                    · rw [decide_eq_false hst]
                      refine ⟨false, rfl, iteF ?_⟩
                      obtain ⟨js, q1, q2⟩ := ss6.ls
                      have q7 : H7 li = some (.lst js) := b7 _ _ nt6.symm q1
                      have q8 := s8 _ _ q7
                      refine ⟨_, rfl, .inl ⟨rfl, _, .inl (.inl q8)⟩, _, rfl, li, js, _, rfl, rfl, q8, by omega, fun H9 b9 e9 => ?_⟩
                      have kp9 := b9.kp q8
                      have s9 : Same H H9 := (s7.trans s8).sb nli0 b9
                      have ef9 : H9 fr = some (.lst frs) := b9 _ _ nfrli (s8 _ _ ef7)
                      have el9 : H9 l = some (.lst lvs) := b9 _ _ nlli (s8 _ _ el7)
                      have jd9 := (jd7.kp (Kp.of s8)).kp kp9
                      refine ⟨_, rfl, .inl ⟨rfl, _, .inl (.inl ef9)⟩, _, rfl, _, rfl, _, rfl, str X, one c, rfl, rfl, zc, ?_⟩
                      rw [show str X ++ one c = str (X ++ [c]) from str_app _ _]
                      refine ⟨by show 2 ≤ sizeLine; decide, fun z nz => ?_⟩
                      have sz := same_upd (o := .tup [v5, .str (str (X ++ [c]))]) nz
                      have ez : (upd H9 z (.tup [v5, .str (str (X ++ [c]))])) z = some (.tup [v5, .str (str (X ++ [c]))]) := upd_same
                      have lfr : frs.length = Fr.length := by simpa using tf.length
                      refine ⟨fr, frs, .ref z, rfl, rfl, sz _ _ ef9, by rw [lfr]; simp only [List.length_append] at tot; omega, fun H10 b10 e10 => ?_⟩
                      have kp10 := b10.kp (sz _ _ ef9)
                      have kp710 : Kp H7 H10 := (Kp.of s8).trans (kp9.trans ((Kp.of sz).trans kp10))
                      have s10 : Same H H10 := (s9.trans sz).sb nfr0 b10
                      have q10 : H10 li = some (.lst (js ++ [v5])) := b10 _ _ nfrli.symm (sz _ _ e9)
                      refine ⟨_, rfl, li, _, rfl, .inl (.inl (.inl q10)), ((js ++ [v5]).length : Nat), 800, rfl, rfl, _, rfl, iteD (fun hgt => ?_) (fun hle => ?_)⟩
                      · exact fun d Hd sd => qE d Hd (s10.trans sd)
                      · have tot2 : (done ++ Ls ++ Fr).length + 1 ≤ 800 := by
                          rw [List.length_append] at hle
                          simp only [List.length_cons, List.length_nil, q2] at hle
                          omega
                        refine ⟨Fr ++ [X ++ [c]], frs ++ [.ref z], _, _, rfl, bs.add gc gdX lX hkp hst tot2, ⟨s10, ?_, ?_⟩, e10, ?_, b10 _ _ nlfr (sz _ _ el9), tl7.kp kp710, tj7.kp kp710⟩
                        · rw [← List.append_assoc, List.map_append]
                          exact (jd9.kp (Kp.of sz)).kp kp10
                        · exact ⟨_, q10, by rw [← List.append_assoc, List.length_append, List.length_append, q2]; rfl⟩
                        · rw [List.map_append]
                          refine (tf7.kp kp710).snoc ((lv_tp ez ?_).kp kp10)
                          exact ((t7.same s8).kp kp9).same sz
                  · rw [decide_eq_false hkp]
                    exact ⟨false, rfl, iteF ⟨Fr, frs, _, _, rfl, bs.skip gc fun z => hkp z.2, ss6, s56 _ _ ef, tf.same s56, s56 _ _ el, tl.same s56, tj.same s56⟩⟩
              · obtain ⟨Fr, frs, x8, x9, rfl, bs, ss3, ef, tf, el, tl, tj⟩ := h
                rw [str_size] at bs
                exact ⟨Fr, frs, _, _, _, _, rfl, bs.done gX, ss3, ef, tf, el, tl⟩
            · obtain ⟨Fr, frs, x6, x7, x8, x9, rfl, bl, ss1, ef, tf, el, tl⟩ := h
              rw [llv] at bl
              exact ⟨_, rfl, Fr, fr, frs, _, _, _, _, _, rfl, bl, ss1, ef, tf, nfrli⟩
    · rw [decide_eq_false hk0]
      refine ⟨false, rfl, iteT ?_⟩
      refine ⟨by show 0 ≤ sizeLine; decide, fun l nl => ?_⟩
      have sl := same_upd (o := .lst []) nl
      refine ⟨by show 2 ≤ sizeLine; decide, fun z nz => ?_⟩
      have sz := same_upd (o := .tup [.non, .ref l]) nz
      exact qN _ z l [] ((s12.trans sl).trans sz) upd_same (sz _ _ upd_same) (Nat.zero_le _) fun X hX => absurd (by simpa using hX.2 0 (Nat.zero_le _)) hk0

end
end TH
end
section
set_option Elab.async false
set_option linter.all false
set_option maxRecDepth 100000
set_option maxHeartbeats 4000000
namespace TH
open PySem PySem.Spec PyProof.Rows L2
section
variable {P : Program} {w : World} {K : PySem.W.Frag} {mg : Str → Option Value} {base : Heap}
/-! Lead -/
structure IsLead (K : PySem.W.Frag) (H : Hp) (v : V) (c : Option (List Nat)) : Prop where
  ex : ∃ (a dx : Addr) (fs : List (Str × V)) (tv : V), v = .ref a ∧ H a = some (.ins (He.ga K "Lead") dx fs) ∧ fs.lookup ("calling" : Str) = some (match c with
    | none => .non
    | some X => .str (str X)) ∧ fs.lookup ("holds" : Str) = some (.bl c.isSome) ∧ fs.lookup ("table" : Str) = some tv ∧ ((c = none ∧ ∃ b, tv = .ref b) ∨ (c.isSome = true ∧ tv = .non))
theorem IsLead.kp {H H' : Hp} {v : V} {c : Option (List Nat)} (h : IsLead K H v c) (s : Kp H H') : IsLead K H' v c := by
  obtain ⟨a, dx, fs, tv, e, ha, r⟩ := h.ex
  exact ⟨a, dx, fs, tv, e, s _ _ (fun _ z => nomatch z) ha, r⟩
def fldOf (W : Wld) (row goal ks : List Nat) (tw : List (Nat × Nat)) (lo hi : Int) : Fld := ⟨W, ks, tw, lo, hi, ks.map (goalOf row goal)⟩
theorem nb_kd {p : Pl} {a b : Nat} (h : Nb p a b) : Kd p a ∧ Kd p b := by
  obtain ⟨s, st, s', st', s2, hr, e1, m1, e2, m2⟩ := h
  exact ⟨⟨s, st, s', hr, e1, m1⟩, ⟨s', st', s2, .step hr e1 m1, e2, m2⟩⟩
theorem kd_in {p : Pl} {row : List Nat} (h : ∀ s ∈ p.states, ∀ q ∈ s, q.1 ∈ row) {c : Nat} (k : Kd p c) : c ∈ row := by
  obtain ⟨s, st, s', hr, e1, m1⟩ := k
  exact h st (List.mem_of_getElem? e1) _ m1
theorem fld_ok {W : Wld} {row goal ks : List Nat} {tw : List (Nat × Nat)} {lo hi : Int} {p : Pl} (w : WOk W) (pm : row.Perm W.names) (hp : ∀ s ∈ p.states, ∀ q ∈ s, q.1 ∈ row) (hk : Kinds p ks) (ht : Twos p tw) (h0 : 0 ≤ lo) (h1 : lo ≤ hi) (h2 : hi ≤ 60) (h3 : hi ≤ lo + 8) : FOk (fldOf W row goal ks tw lo hi) := by
  refine ⟨w, fun c hc => pm.mem_iff.mp (kd_in hp ((hk.iff c).mp hc)), fun q hq => ?_, ⟨h1, h3⟩, ⟨h0, h2⟩, by simp [fldOf], ?_, ?_⟩
  · obtain ⟨a, b⟩ := q
    obtain ⟨k1, k2⟩ := nb_kd ((ht.iff a b).mp hq)
    exact ⟨(hk.iff a).mpr k1, (hk.iff b).mpr k2⟩
  · have := hk.len
    show ks.length ≤ 10
    omega
  · have := ht.len
    show tw.length ≤ 10
    omega
theorem p_Lead_init (T : Tx K mg) : Pr P w K mg base (L2.CX P w) 10 ["self", "make", "columns", "wish", "goal"] [] (He.ma K (He.ga K "Lead") "__init__")
    (fun vs H Q E => ∃ (x dx : Addr) (m cv wv gv : V) (W : Wld) (row names goal : List Nat) (p : Pl) (lo hi : Int), vs = [.ref x, m, cv, wv, gv] ∧ H x = some (.ins (He.ga K "Lead") dx []) ∧ IsMake K H m W row ∧ WOk W ∧ IsPlan K H cv p ∧ PlOk names p ∧ (∀ s ∈ p.states, ∀ q ∈ s, q.1 ∈ row) ∧
      Tp K H wv (.tup [.num lo, .num hi]) ∧ 0 ≤ lo ∧ lo ≤ hi ∧ hi ≤ 60 ∧ hi ≤ lo + 8 ∧ Dd K H gv (.tup (goal.map kN)) ∧ GoalOk W row goal ∧ (∀ d H', Sb x H H' → E (.ref (He.ga K "TooMany")) d H') ∧
      ∀ H' ks tw c, Sb x H H' → Kinds p ks → Twos p tw → IsLead K H' (.ref x) c → (c = none → ∀ X, good (fldOf W row goal ks tw lo hi) X → ¬ Settled (fldOf W row goal ks tw lo hi) X) →
        (∀ X, c = some X → good (fldOf W row goal ks tw lo hi) X ∧ Settled (fldOf W row goal ks tw lo hi) X ∧ (∀ Y, good (fldOf W row goal ks tw lo hi) Y → Y.length < X.length → ¬ Settled (fldOf W row goal ks tw lo hi) Y) ∧ X.length ≤ 801) → Q .non H') := by
  refine T.d_Lead_init.prX scs_Lead_init (fun vs H Q E h => ?_) (fun cdv A outer s H vs Q E hr h => ?_)
  · obtain ⟨x, dx, m, cv, wv, gv, W, row, names, goal, p, lo, hi, rfl, _⟩ := h
    rfl
  · obtain ⟨x, dx, m, cv, wv, gv, W, row, names, goal, p, lo, hi, rfl, hx, hm, wok, hp, pok, hpr, hw, h0, h1, h2, h3, hg, gok, qE, qQ⟩ := h
    have hu := hu_of hr
    refine ⟨_, (pss_cons (ps_expr (pcall (p_check_columns T) (hr.mono (by decide)) (by rfl) T.g_check_columns pass0 (pa_cons (pv 1) (pa_cons (pv 2) pa_nil))))
    (pss_cons (ps_set (i := 5) scs_Lead_init.nd rfl (.inl rfl) (pcall (p_check_wish T) (hr.mono (by decide)) (by rfl) T.g_check_wish pass0 (pa_cons (pv 3) pa_nil)))
    (pss_cons (ps_set (i := 6) scs_Lead_init.nd rfl (.inl rfl) (pmake (p_Field_init T) T.mkr_Field (hr.mono (by decide)) (by rfl) T.g_Field pass0 (pa_cons (pv 1) (pa_cons (pv 2) (pa_cons (pv 5) (pa_cons (pcall (p_check_goal T) (hr.mono (by decide)) (by rfl) T.g_check_goal pass0 (pa_cons (pv 1) (pa_cons (pv 4) pa_nil))) pa_nil))))))
    (pss_cons (ps_asg (pcall (p_search T) (hr.mono (by decide)) (by rfl) T.g_search (passes_call (takes_of rfl rfl rfl rfl) (fun _ _ _ _ h => h)) (pa_cons (pv 6) pa_nil)) (pg_tup rfl (pgs_cons (pg_name (i := 7) scs_Lead_init.nd rfl (.inl rfl) (.inl rfl)) (pgs_cons (pg_name (i := 8) scs_Lead_init.nd rfl (.inl rfl) (.inl rfl)) pgs_nil))))
    (pss_cons (ps_fld (pv 0) (pv 7) rfl)
    (pss_cons (ps_fld (pv 0) (pe_cmpR op_notN (pv 7) pe_non (nomark _)) rfl)
    (pss_cons (ps_fld (pv 0) pe_non rfl)
    (pss_cons (ps_if (pt_not (pt_val (pe_fld (pv 0) rfl)))
      (pss_one (ps_fld (pv 0) (pe_callTy call_tupU (by rfl) T.z_tuple (by decide +kernel) (pa_cons (pv 8) pa_nil)) rfl))
      pss_nil)
    (pss_one (ps_fld (pv 0) (pe_orT (pe_fld (pv 0) rfl) (pe_one (pe_tup pa_nil))) rfl)))))))))), ?_⟩
    refine ⟨_, rfl, _, rfl, m, cv, W, p, row, rfl, hm, hp, hpr, fun H1 s1 => ?_⟩
    refine ⟨_, rfl, wv, lo, hi, rfl, hw.same s1, h0, h1, h2, fun H2 v2 s2 t2 => ?_⟩
    have s12 := s1.trans s2
    refine ⟨_, rfl, _, rfl, _, rfl, _, rfl, _, rfl, m, gv, W, row, goal, rfl, hm.same s12, wok, hg.same s12, gok, fun H3 t kvs s3 e3 k3 => ?_⟩
    have s13 := s12.trans s3
    intro y dy ny ndy ne
    have sm := made_same (C := He.ga K "Field") (fs := []) ny ndy ne
    have s1m := s13.trans sm
    refine ⟨y, dy, m, cv, v2, t, kvs, W, row, names, goal, p, lo, hi, rfl, upd_same, hm.same s1m, hp.same s1m, pok, (t2.same s3).same sm, sm _ _ e3, k3, gok.l, fun c hc => kd_in hpr hc, fun H4 ks tw sb4 hk ht isf => ⟨rfl, ?_⟩⟩
    have s14 : Same H H4 := Sb.same s1m (s13.back ny) sb4
    have fok : FOk (fldOf W row goal ks tw lo hi) := fld_ok wok hm.perm hpr hk ht h0 h1 h2 h3
    refine ⟨_, rfl, .ref y, fldOf W row goal ks tw lo hi, row, rfl, isf, fok, fun d H5 s5 => qE d H5 (Sb.of (s14.trans s5)), fun H5 z l js s5 e5 el ljs noL => ?_, fun H5 z l X s5 e5 g1 g2 g3 g4 => ?_⟩
    · have s15 := s14.trans s5
      have b5 : Bld H H5 x (He.ga K "Lead") dx [] := ⟨Sb.of s15, s15 _ _ hx⟩
      refine ⟨z, _, rfl, .inl (.inl e5), rfl, _, _, rfl, _, _, rfl, rfl, ?_⟩
      refine ⟨_, rfl, _, rfl, x, _, dx, _, rfl, b5.o, T.c_Lead, T.n_Lead_calling, by decide, b5.step (K := K) "calling" _ (n := 0) (by decide) fun H6 f6 b6 e6 n6 sb6 k6 => ?_⟩
      refine ⟨_, rfl, rfl, _, rfl, x, _, dx, _, rfl, b6.o, T.c_Lead, T.n_Lead_holds, by omega, b6.step (K := K) "holds" _ n6 fun H7 f7 b7 e7 n7 sb7 k7 => ?_⟩
      refine ⟨_, rfl, x, _, dx, _, rfl, b7.o, T.c_Lead, T.n_Lead_table, by omega, b7.step (K := K) "table" _ n7 fun H8 f8 b8 e8 n8 sb8 k8 => ?_⟩
      have lh : f8.lookup ("holds" : Str) = some (.bl false) := by
        rw [e8, e7]
        exact look_ne (by decide) (look_same _ _ _)
      refine ⟨_, rfl, x, _, dx, f8, _, rfl, b8.o, T.c_Lead, T.n_Lead_holds, lh, false, rfl, iteT ?_⟩
      have nlx : l ≠ x := fun q => by
        have := s15 _ _ hx
        rw [← q, el] at this
        cases this
      have el8 : H8 l = some (.lst js) := sb8 _ _ nlx (sb7 _ _ nlx (sb6 _ _ nlx el))
      refine ⟨_, rfl, l, js, rfl, .inl (.inl (.inl el8)), fun u9 H9 s9 h9 => ?_⟩
      have b9 := b8.grow s9
      refine ⟨_, rfl, x, _, dx, _, rfl, b9.o, T.c_Lead, T.n_Lead_table, by omega, b9.step (K := K) "table" _ n8 fun H10 f10 b10 e10 n10 sb10 k10 => ?_⟩
      have lt : f10.lookup ("table" : Str) = some (.ref u9) := by
        rw [e10]
        exact look_same _ _ _
      refine ⟨_, rfl, x, _, dx, f10, _, rfl, b10.o, T.c_Lead, T.n_Lead_table, lt, !js.isEmpty, .inr (.inl ⟨js, k10 _ _ h9, rfl⟩), ?_⟩
      cases hjs : js.isEmpty with
      | true =>
        refine iteF ⟨by show 0 ≤ sizeLine; decide, fun q nq => ?_⟩
        have b11 := b10.grow (same_upd (o := .tup []) nq)
        refine ⟨_, rfl, x, _, dx, _, rfl, b11.o, T.c_Lead, T.n_Lead_rows, by omega, b11.step (K := K) "rows" _ n10 fun H12 f12 b12 e12 n12 sb12 k12 => ?_⟩
        refine qQ H12 ks tw none b12.s hk ht ⟨x, dx, f12, .ref u9, rfl, b12.o, ?_, ?_, ?_, .inl ⟨rfl, u9, rfl⟩⟩ (fun _ => noL) (fun X h => nomatch h)
        · rw [e12, e10, e8, e7, e6]
          exact look_ne (by decide) (look_ne (by decide) (look_ne (by decide) (look_ne (by decide) (look_same _ _ _))))
        · rw [e12, e10]
          exact look_ne (by decide) (look_ne (by decide) lh)
        · rw [e12]
          exact look_ne (by decide) lt
      | false =>
        refine iteT ?_
        have b11 := b10
        refine ⟨_, rfl, x, _, dx, _, rfl, b11.o, T.c_Lead, T.n_Lead_rows, by omega, b11.step (K := K) "rows" _ n10 fun H12 f12 b12 e12 n12 sb12 k12 => ?_⟩
        refine qQ H12 ks tw none b12.s hk ht ⟨x, dx, f12, .ref u9, rfl, b12.o, ?_, ?_, ?_, .inl ⟨rfl, u9, rfl⟩⟩ (fun _ => noL) (fun X h => nomatch h)
        · rw [e12, e10, e8, e7, e6]
          exact look_ne (by decide) (look_ne (by decide) (look_ne (by decide) (look_ne (by decide) (look_same _ _ _))))
        · rw [e12, e10]
          exact look_ne (by decide) (look_ne (by decide) lh)
        · rw [e12]
          exact look_ne (by decide) lt
    · have s15 := s14.trans s5
      have b5 : Bld H H5 x (He.ga K "Lead") dx [] := ⟨Sb.of s15, s15 _ _ hx⟩
      refine ⟨z, _, rfl, .inl (.inl e5), rfl, _, _, rfl, _, _, rfl, rfl, ?_⟩
      refine ⟨_, rfl, _, rfl, x, _, dx, _, rfl, b5.o, T.c_Lead, T.n_Lead_calling, by decide, b5.step (K := K) "calling" _ (n := 0) (by decide) fun H6 f6 b6 e6 n6 sb6 k6 => ?_⟩
      refine ⟨_, rfl, rfl, _, rfl, x, _, dx, _, rfl, b6.o, T.c_Lead, T.n_Lead_holds, by omega, b6.step (K := K) "holds" _ n6 fun H7 f7 b7 e7 n7 sb7 k7 => ?_⟩
      refine ⟨_, rfl, x, _, dx, _, rfl, b7.o, T.c_Lead, T.n_Lead_table, by omega, b7.step (K := K) "table" _ n7 fun H8 f8 b8 e8 n8 sb8 k8 => ?_⟩
      have lh : f8.lookup ("holds" : Str) = some (.bl true) := by
        rw [e8, e7]
        exact look_ne (by decide) (look_same _ _ _)
      have lt : f8.lookup ("table" : Str) = some .non := by
        rw [e8]
        exact look_same _ _ _
      refine ⟨_, rfl, x, _, dx, f8, _, rfl, b8.o, T.c_Lead, T.n_Lead_holds, lh, true, rfl, iteF ?_⟩
      refine ⟨_, rfl, x, _, dx, f8, _, rfl, b8.o, T.c_Lead, T.n_Lead_table, lt, false, rfl, iteF ⟨by show 0 ≤ sizeLine; decide, fun q nq => ?_⟩⟩
      have b9 := b8.grow (same_upd (o := .tup []) nq)
      refine ⟨_, rfl, x, _, dx, _, rfl, b9.o, T.c_Lead, T.n_Lead_rows, by omega, b9.step (K := K) "rows" _ n8 fun H12 f12 b12 e12 n12 sb12 k12 => ?_⟩
      refine qQ H12 ks tw (some X) b12.s hk ht ⟨x, dx, f12, .non, rfl, b12.o, ?_, ?_, ?_, .inr ⟨rfl, rfl⟩⟩ (fun h => nomatch h) fun X' h => by cases h; exact ⟨g1, g2, g3, g4⟩
      · rw [e12, e8, e7, e6]
        exact look_ne (by decide) (look_ne (by decide) (look_ne (by decide) (look_same _ _ _)))
      · rw [e12]
        exact look_ne (by decide) lh
      · rw [e12]
        exact look_ne (by decide) lt
theorem p_Lead_bool (T : Tx K mg) : Pr P w K mg base CX0 1 ["self"] [] (He.ma K (He.ga K "Lead") "__bool__")
    (fun vs H Q _ => ∃ (v : V) (c : Option (List Nat)), vs = [v] ∧ IsLead K H v c ∧ Q (.bl c.isSome) H) := by
  refine T.d_Lead_bool.pr scs_Lead_bool (fun vs H Q E h => ?_) (fun cdv A outer s H vs Q E hr h => ?_)
  · obtain ⟨v, c, rfl, _⟩ := h
    rfl
  · obtain ⟨v, c, rfl, hv, q⟩ := h
    refine ⟨_, (pss_one (ps_ret (pe_callTy call_bool1 (by rfl) T.z_bool (by decide +kernel) (pa_cons (pe_fld (pv 0) rfl) pa_nil)))), ?_⟩
    obtain ⟨a, dx, fs, tv, rfl, ha, l1, l2, r⟩ := hv.ex
    exact ⟨_, rfl, a, _, dx, fs, _, rfl, ha, T.c_Lead, T.n_Lead_holds, l2, .inr ⟨_, rfl, q⟩⟩

end
end TH
end
section
set_option Elab.async false
set_option linter.all false
set_option maxRecDepth 100000
set_option maxHeartbeats 4000000
namespace TH
open PySem PySem.Spec PyProof.Rows L2
section
variable {P : Program} {w : World} {K : PySem.W.Frag} {mg : Str → Option Value} {base : Heap}
/-! the law's own: draw, mix, pick -/
structure Dw (H : Hp) (d ca : Addr) (cells : List Int) : Prop where
  ex : ∃ (i1 i2 i3 i4 i5 : Int), H d = some (.lst [.ref ca, .int i1, .int i2, .int i3, .int i4, .int i5]) ∧ 0 ≤ i1
  c : H ca = some (.lst (cells.map V.int))
  ne : ca ≠ d
  l : cells.length ≤ 2000
theorem Dw.same {H H' : Hp} {d ca : Addr} {cells : List Int} (h : Dw H d ca cells) (s : Same H H') : Dw H' d ca cells := by
  obtain ⟨⟨i1, i2, i3, i4, i5, e, h0⟩, c, ne, l⟩ := h
  exact ⟨⟨i1, i2, i3, i4, i5, s _ _ e, h0⟩, s _ _ c, ne, l⟩
theorem Dw.at {H : Hp} {d ca : Addr} {cells : List Int} (h : Dw H d ca cells) : H d ≠ none ∧ H ca ≠ none := by
  obtain ⟨⟨i1, i2, i3, i4, i5, e, h0⟩, c, ne, l⟩ := h
  rw [e, c]
  exact ⟨(fun z => nomatch z), (fun z => nomatch z)⟩
theorem Dw.sb {H0 H H' : Hp} {d ca e : Addr} {cells : List Int} (h0 : Dw H0 d ca cells) (n : H0 e = none) (h : Dw H d ca cells) (s : Sb e H H') : Dw H' d ca cells := by
  obtain ⟨a1, a2⟩ := h0.at
  have n1 : d ≠ e := fun z => a1 (z ▸ n)
  have n2 : ca ≠ e := fun z => a2 (z ▸ n)
  obtain ⟨⟨i1, i2, i3, i4, i5, e', h0'⟩, c, ne, l⟩ := h
  exact ⟨⟨i1, i2, i3, i4, i5, s _ _ n1 e', h0'⟩, s _ _ n2 c, ne, l⟩
theorem Sb.more {H0 H H' : Hp} {d e : Addr} (s : Sb d H0 H) (n : H0 e = none) (b : Sb e H H') : Sb d H0 H' := fun c o nc hc => b _ _ (ne_of_none hc n) (s _ _ nc hc)
theorem Dw.kp {H H' : Hp} {d ca : Addr} {cells : List Int} (h : Dw H d ca cells) (s : Sb d H H') : Kp H H' := by
  obtain ⟨⟨i1, i2, i3, i4, i5, e, h0⟩, _⟩ := h
  exact s.kp e
theorem nat_q {Q : VK} {H : Hp} {x : Int} (q : ∀ r : Nat, Q (.int (r : Nat)) H) (h : 0 ≤ x) : Q (.int x) H := by
  have := q x.toNat
  rw [Int.toNat_of_nonneg h] at this
  exact this
theorem p__law_mix (T : Tx K mg) : Pr P w K mg base CX0 1 ["_law_cell", "_law_turn"] [] (He.ga K "_law_mix") (fun vs H Q _ => ∃ c t : Int, vs = [.int c, .int t] ∧ ∀ r : Nat, Q (.int (r : Nat)) H) := by
  refine T.d__law_mix.pr scs_law_mix (fun vs H Q E h => ?_) (fun cdv A outer s H vs Q E hr h => ?_)
  · obtain ⟨c, t, rfl, _⟩ := h
    rfl
  · obtain ⟨c, t, rfl, q⟩ := h
    refine ⟨_, (pss_cons (ps_set (i := 2) scs_law_mix.nd rfl (.inl rfl) (pe_op op_mod (pe_callTy call_int1 (by rfl) T.z_int (by decide +kernel) (pa_cons (pe_op op_add (pe_op op_add (pe_op op_mul (pv 0) pe_int) (pe_op op_mul (pv 1) pe_int)) pe_int) pa_nil)) pe_int))
    (pss_cons (ps_set (i := 3) scs_law_mix.nd rfl (.inl rfl) (pe_op op_mod (pe_callTy call_int1 (by rfl) T.z_int (by decide +kernel) (pa_cons (pe_op op_add (pe_op op_add (pe_op op_mul (pv 2) (pv 2)) (pe_op op_mul (pv 1) pe_int)) (pv 0)) pa_nil)) pe_int))
    (pss_cons (ps_set (i := 3) scs_law_mix.nd rfl (.inl rfl) (pe_op op_mod (pe_callTy call_int1 (by rfl) T.z_int (by decide +kernel) (pa_cons (pe_op op_add (pe_op op_mul (pv 3) (pv 3)) (pv 2)) pa_nil)) pe_int))
    (pss_one (ps_ret (pe_op op_fdiv (pv 3) pe_int)))))), ?_⟩
    refine ⟨_, rfl, c, 48271, rfl, rfl, .inr (by decide), _, rfl, t, 69621, rfl, rfl, .inr (by decide), _, _, rfl, rfl, _, 12345, rfl, rfl, .inl ⟨_, rfl, _, 2147483647, rfl, rfl, by show (0 : Int) < 2147483647; decide, ?_⟩⟩
    have b1 : 0 ≤ (c * 48271 + t * 69621 + 12345) % 2147483647 := Int.emod_nonneg _ (by decide)
    have b2 : (c * 48271 + t * 69621 + 12345) % 2147483647 < 2147483647 := Int.emod_lt_of_pos _ (by decide)
    show gName 2 (.int ((c * 48271 + t * 69621 + 12345) % 2147483647)) _ _ _
    generalize (c * 48271 + t * 69621 + 12345) % 2147483647 = one at b1 b2 ⊢
    refine ⟨_, rfl, _, rfl, one, one, rfl, rfl, .inl ⟨by omega, by omega⟩, _, rfl, t, 7919, rfl, rfl, .inr (by decide), _, _, rfl, rfl, _, rfl, _, c, rfl, rfl, .inl ⟨_, rfl, _, 998244353, rfl, rfl, by show (0 : Int) < 998244353; decide, ?_⟩⟩
    have c1 : 0 ≤ (one * one + t * 7919 + c) % 998244353 := Int.emod_nonneg _ (by decide)
    have c2 : (one * one + t * 7919 + c) % 998244353 < 998244353 := Int.emod_lt_of_pos _ (by decide)
    show gName 3 (.int ((one * one + t * 7919 + c) % 998244353)) _ _ _
    generalize (one * one + t * 7919 + c) % 998244353 = two at c1 c2 ⊢
    refine ⟨_, rfl, _, rfl, two, two, rfl, rfl, .inl ⟨by omega, by omega⟩, _, rfl, _, one, rfl, rfl, .inl ⟨_, rfl, _, 1000000007, rfl, rfl, by show (0 : Int) < 1000000007; decide, ?_⟩⟩
    exact ⟨_, rfl, _, 8, rfl, rfl, by constructor <;> decide, nat_q q (Int.ediv_nonneg (Int.emod_nonneg _ (by decide)) (by decide))⟩
theorem p__law_draw (T : Tx K mg) : Pr P w K mg base CX0 1 ["_law_script"] [] (He.ga K "_law_draw") (fun vs H Q _ => ∃ (a : Addr) (ns : List Int), vs = [.ref a] ∧ SqL K H a (ns.map V.int) ∧ ns.length ≤ 2000 ∧ ∀ H' d ca, Same H H' → H d = none → Dw H' d ca ns → Q (.ref d) H') := by
  refine T.d__law_draw.pr scs_law_draw (fun vs H Q E h => ?_) (fun cdv A outer s H vs Q E hr h => ?_)
  · obtain ⟨a, ns, rfl, _⟩ := h
    rfl
  · obtain ⟨a, ns, rfl, ha, hl, q⟩ := h
    refine ⟨_, (pss_cons (ps_setLc (i := 1) (own := [("_law_cell", 2)]) rfl scs_law_draw.nd rfl rfl (sw_true rfl rfl rfl (by decide +kernel)) (pi_list (pv 0)) (blkOk_by (N := ["_law_script", "_law_cells", "_law_cell"]) (sc := defScope s_law_draw) (by decide +kernel)) (fun _ _ _ _ _ => (pg_name (i := 2) scs_law_draw.nd rfl (.inl rfl) (.inr rfl))) (fun _ _ _ _ _ => pts_nil) (fun _ _ _ _ _ => (pv 2)))
    (pss_one (ps_ret (pe_lst (pa_cons (pv 1) (pa_cons pe_int (pa_cons pe_int (pa_cons pe_int (pa_cons pe_int (pa_cons (pe_op op_add (pe_op op_mod (pe_callTy call_int1 (by rfl) T.z_int (by decide +kernel) (pa_cons (pe_callB (cr_sum rfl) (by rfl) T.z_sum (by decide +kernel) (pa_cons (pv 1) pa_nil)) pa_nil)) pe_int) (pe_op op_mul pe_int (pe_callB call_len_seq (by rfl) T.z_len PySem.boot_len (pa_cons (pv 1) pa_nil)))) pa_nil)))))))))), ?_⟩
    refine ⟨_, rfl, a, rfl, ⟨_, ha⟩, fun D hD => lc_map (walk_list (xs := ns.map V.int)) hD (by rw [List.length_map]; omega) (fun H' s' => s'.seq ha) (fun i acc _ => acc = (ns.take i).map V.int) (fun _ _ _ _ _ h => h) rfl (fun i y H1 H2 acc k ks hi1 s1 a1 l1 y hk _ => ?_) fun H1 acc s1 eD lD aD => ?_⟩
    · obtain ⟨rfl, g⟩ := y
      obtain ⟨n, gn, rfl⟩ := map_at g
      refine ⟨rfl, yes_if ⟨_, rfl, hk _ _ (Same.refl _) ?_⟩⟩
      rw [a1, take_snoc gn, List.map_append]
      rfl
    · rw [List.length_map, List.take_length] at aD
      subst aD
      refine ⟨_, rfl, _, rfl, D, ns, rfl, .inl (.inl eD), .inl ⟨_, rfl, _, 1000003, rfl, rfl, by show (0 : Int) < 1000003; decide, _, rfl, D, _, rfl, .inl (.inl (.inl eD)), 7, _, rfl, rfl, .inl (by decide), _, _, rfl, rfl, by show 6 ≤ sizeLine; decide, fun d nd => ?_⟩⟩
      have nDd : D ≠ d := fun z => by rw [← z, eD] at nd; cases nd
      exact q _ d D (s1.upd nd) (s1.back nd) ⟨⟨0, 0, 0, 0, _, upd_same, by decide⟩, by rw [upd_ne nDd]; exact eD, nDd, hl⟩

end
end TH
end
section
set_option Elab.async false
set_option linter.all false
set_option maxRecDepth 100000
set_option maxHeartbeats 4000000
namespace TH
open PySem PySem.Spec PyProof.Rows L2
section
variable {P : Program} {w : World} {K : PySem.W.Frag} {mg : Str → Option Value} {base : Heap}
/-! pick -/
theorem Dw.set {H : Hp} {d ca : Addr} {cells : List Int} {a1 a2 a3 a4 a5 : Int} (h : Dw H d ca cells) (h1 : 0 ≤ a1) : Dw (upd H d (.lst [.ref ca, .int a1, .int a2, .int a3, .int a4, .int a5])) d ca cells :=
  ⟨⟨a1, a2, a3, a4, a5, upd_same, h1⟩, by rw [upd_ne h.ne]; exact h.c, h.ne, h.l⟩
theorem pickQ {Q : VK} {H : Hp} {many : Nat} {x : Int} (q : ∀ r : Nat, (r < many ∨ r = 0) → Q (.int (r : Nat)) H) (hm : 2 ≤ many) : Q (.int (x % (many : Nat))) H := by
  have h1 : 0 ≤ x % ((many : Nat) : Int) := Int.emod_nonneg _ (by omega)
  have h2 : x % ((many : Nat) : Int) < (many : Nat) := Int.emod_lt_of_pos _ (by omega)
  have := q (x % ((many : Nat) : Int)).toNat (.inl (by omega))
  rw [Int.toNat_of_nonneg h1] at this
  exact this
theorem p__law_pick (T : Tx K mg) : Pr P w K mg base CX0 2 ["_law_draw_here", "_law_many"] [] (He.ga K "_law_pick")
    (fun vs H Q _ => ∃ (d ca : Addr) (cells : List Int) (many : Nat), vs = [.ref d, .int (many : Nat)] ∧ Dw H d ca cells ∧ many ≤ 1000000 ∧ ∀ H' (r : Nat), Sb d H H' → Dw H' d ca cells → (r < many ∨ r = 0) → Q (.int (r : Nat)) H') := by
  refine T.d__law_pick.pr scs_law_pick (fun vs H Q E h => ?_) (fun cdv A outer s H vs Q E hr h => ?_)
  · obtain ⟨d, ca, cells, many, rfl, _⟩ := h
    rfl
  · obtain ⟨d, ca, cells, many, rfl, hd, lm, q⟩ := h
    refine ⟨_, (pss_cons (ps_if (pt_cmpR op_lt (pv 1) pe_int (nomark _))
      (pss_one (ps_ret pe_int))
      pss_nil)
    (pss_cons (ps_if (pw_and (pt_cmpR op_eq (pe_ix ix_list (pv 0) pe_int (fun _ _ => rfl)) pe_int (nomark _)) (pw_and (pt_cmpR op_lt (pe_ix ix_list (pv 0) pe_int (fun _ _ => rfl)) (pe_callB call_len_seq (by rfl) T.z_len PySem.boot_len (pa_cons (pe_ix ix_list (pv 0) pe_int (fun _ _ => rfl)) pa_nil)) (nomark _)) (pw_and1 (pt_cmpR op_eq (pe_ix ix_list (pv 0) pe_int (fun _ _ => rfl)) pe_int (nomark _))))).pt
      (pss_cons (ps_set (i := 2) scs_law_pick.nd rfl (.inl rfl) (pe_ix ix_list (pe_ix ix_list (pv 0) pe_int (fun _ _ => rfl)) (pe_ix ix_list (pv 0) pe_int (fun _ _ => rfl)) (fun _ _ => rfl)))
      (pss_one (ps_if (pw_or (pt_cmpR op_ge (pv 2) (pe_op op_powW pe_int pe_int) (nomark _)) (pw_or1 (pt_cmpR op_le (pv 2) (pe_un un_neg (pe_op op_powW pe_int pe_int)) (nomark _)))).pt
        (pss_cons (ps_asg (pe_op op_mod (pe_callTy call_int1 (by rfl) T.z_int (by decide +kernel) (pa_cons (pe_callB call_abs (by rfl) T.z_abs (by decide +kernel) (pa_cons (pv 2) pa_nil)) pa_nil)) (pe_op op_powW (pe_op op_powW pe_int pe_int) pe_int)) (pg_sub (pv 0) pe_int set_list))
        (pss_one (ps_asg (pe_op op_add (pe_ix ix_list (pv 0) pe_int (fun _ _ => rfl)) pe_int) (pg_sub (pv 0) pe_int set_list))))
        pss_nil)))
      pss_nil)
    (pss_cons (ps_if (pt_cmpR op_gt (pe_ix ix_list (pv 0) pe_int (fun _ _ => rfl)) pe_int (nomark _))
      (pss_cons (ps_set (i := 3) scs_law_pick.nd rfl (.inl rfl) (pe_op op_mod (pe_callTy call_int1 (by rfl) T.z_int (by decide +kernel) (pa_cons (pe_ix ix_list (pv 0) pe_int (fun _ _ => rfl)) pa_nil)) (pv 1)))
      (pss_cons (ps_asg (pe_op op_fdiv (pe_ix ix_list (pv 0) pe_int (fun _ _ => rfl)) (pv 1)) (pg_sub (pv 0) pe_int set_list))
      (pss_one (ps_ret (pv 3)))))
      pss_nil)
    (pss_cons (ps_if (pt_cmpR op_lt (pe_ix ix_list (pv 0) pe_int (fun _ _ => rfl)) (pe_callB call_len_seq (by rfl) T.z_len PySem.boot_len (pa_cons (pe_ix ix_list (pv 0) pe_int (fun _ _ => rfl)) pa_nil)) (nomark _))
      (pss_cons (ps_set (i := 2) scs_law_pick.nd rfl (.inl rfl) (pe_ix ix_list (pe_ix ix_list (pv 0) pe_int (fun _ _ => rfl)) (pe_ix ix_list (pv 0) pe_int (fun _ _ => rfl)) (fun _ _ => rfl)))
      (pss_cons (ps_asg (pe_op op_add (pe_ix ix_list (pv 0) pe_int (fun _ _ => rfl)) pe_int) (pg_sub (pv 0) pe_int set_list))
      (pss_cons (ps_set (i := 4) scs_law_pick.nd rfl (.inl rfl) (pe_op op_mod (pe_callTy call_int1 (by rfl) T.z_int (by decide +kernel) (pa_cons (pcall (p__law_mix T) (hr.mono (by decide)) (by rfl) T.g__law_mix pass0 (pa_cons (pe_op op_add (pv 2) (pe_op op_mul pe_int (pe_ix ix_list (pv 0) pe_int (fun _ _ => rfl)))) (pa_cons (pe_ix ix_list (pv 0) pe_int (fun _ _ => rfl)) pa_nil))) pa_nil)) (pv 1)))
      (pss_cons (ps_if (pt_cmpR op_eq (pe_ix ix_list (pv 0) pe_int (fun _ _ => rfl)) pe_int (nomark _))
        (pss_cons (ps_asg pe_int (pg_sub (pv 0) pe_int set_list))
        (pss_one (ps_asg (pe_op op_add (pe_ix ix_list (pv 0) pe_int (fun _ _ => rfl)) pe_int) (pg_sub (pv 0) pe_int set_list))))
        pss_nil)
      (pss_one (ps_ret (pv 4)))))))
      pss_nil)
    (pss_cons (ps_asg (pe_op op_add (pe_ix ix_list (pv 0) pe_int (fun _ _ => rfl)) pe_int) (pg_sub (pv 0) pe_int set_list))
    (pss_one (ps_ret (pe_op op_mod (pe_callTy call_int1 (by rfl) T.z_int (by decide +kernel) (pa_cons (pcall (p__law_mix T) (hr.mono (by decide)) (by rfl) T.g__law_mix pass0 (pa_cons (pe_ix ix_list (pv 0) pe_int (fun _ _ => rfl)) (pa_cons (pe_op op_add (pe_ix ix_list (pv 0) pe_int (fun _ _ => rfl)) pe_int) pa_nil))) pa_nil)) (pv 1))))))))), ?_⟩
    obtain ⟨⟨i1, i2, i3, i4, i5, ed, h0⟩, ec, ne, lc⟩ := id hd
    refine ⟨_, rfl, (many : Nat), 2, rfl, rfl, _, rfl, iteD (fun hlt => q H 0 (Sb.refl _ _) hd (.inr rfl)) (fun hge => ?_)⟩
    have hm : 2 ≤ many := by omega
    have sq : SqL K H d _ := .inl (.inl ed)
    have sc : SqL K H ca _ := .inl (.inl ec)
    refine ⟨_, rfl, d, _, 2, _, rfl, rfl, sq, rfl, rfl, _, rfl, iteD (fun e1 => ?_) (fun _ => iteF ?_)⟩
    · refine ⟨_, rfl, d, _, 1, _, rfl, rfl, sq, rfl, _, rfl, d, _, 0, _, rfl, rfl, sq, rfl, ca, _, rfl, .inl sc, i1, _, rfl, rfl, _, rfl, iteD (fun e2 => ?_) (fun _ => iteF ?_)⟩
      · refine ⟨_, rfl, d, _, 3, _, rfl, rfl, sq, rfl, rfl, _, rfl, iteD (fun e3 => ?_) (fun _ => ?_)⟩
        · rw [List.length_map] at e2
          have li : i1.toNat < cells.length := by omega
          have ci : (cells.map V.int)[i1.toNat]? = some (.int cells[i1.toNat]) := by rw [List.getElem?_map, List.getElem?_eq_getElem li]; rfl
          have ai : atI (cells.map V.int) i1 = some (.int cells[i1.toNat]) := by
            have := atI_nat ci
            rwa [Int.toNat_of_nonneg h0] at this
          generalize cells[i1.toNat] = cell at ai
          refine ⟨_, rfl, d, _, 0, _, rfl, rfl, sq, rfl, _, rfl, d, _, 1, _, rfl, rfl, sq, rfl, ca, _, i1, _, rfl, rfl, sc, ai, ?_⟩
          have pw : CPowW 10 18 := by constructor <;> decide +kernel
          have pw2 : CPowW 10 60 := by constructor <;> decide +kernel
          have pw3 : CPowW (10 ^ (60 : Int).toNat) 64 := by constructor <;> decide +kernel
          have pos : (0 : Int) < (10 ^ (60 : Int).toNat) ^ (64 : Int).toNat := by decide +kernel
          refine ⟨_, rfl, 10, 18, rfl, rfl, pw, cell, _, rfl, rfl, _, rfl, ite2 (fun _ => iteT ?_) (fun _ => ?_)⟩
          · skip
            refine ⟨_, rfl, cell, rfl, .inl ⟨_, rfl, 10, 60, rfl, rfl, pw2, _, 64, rfl, rfl, pw3, _, _, rfl, rfl, pos, ?_⟩⟩
            show gSub _ _ _ (.int ((if cell < 0 then -cell else cell) % ((10 ^ (60 : Int).toNat) ^ (64 : Int).toNat))) _ _ _
            generalize (if cell < 0 then -cell else cell) % ((10 ^ (60 : Int).toNat) ^ (64 : Int).toNat) = X
            refine ⟨_, rfl, d, _, 2, 2, rfl, rfl, ed, rfl, ?_⟩
            have hd1 : Dw (upd H d (.lst [.ref ca, .int i1, .int X, .int i3, .int i4, .int i5])) d ca cells := hd.set h0
            refine ⟨_, rfl, d, _, 1, _, rfl, rfl, .inl (.inl upd_same), rfl, i1, 1, rfl, rfl, _, rfl, d, _, 1, 1, rfl, rfl, upd_same, rfl, ?_⟩
            have hd' : Dw (upd (upd H d (.lst [.ref ca, .int i1, .int X, .int i3, .int i4, .int i5])) d (.lst [.ref ca, .int (i1 + 1), .int X, .int i3, .int i4, .int i5])) d ca cells := hd1.set (by omega)
            have sb' : Sb d H (upd (upd H d (.lst [.ref ca, .int i1, .int X, .int i3, .int i4, .int i5])) d (.lst [.ref ca, .int (i1 + 1), .int X, .int i3, .int i4, .int i5])) := Sb.trans sb_upd sb_upd
            obtain ⟨⟨j1, j2, j3, j4, j5, fd, g0⟩, fc, _, _⟩ := id hd'
            have tq : SqL K _ d _ := .inl (.inl fd)
            have tc : SqL K _ ca _ := .inl (.inl fc)
            refine ⟨_, rfl, d, _, 2, _, rfl, rfl, tq, rfl, j2, 0, rfl, rfl, _, rfl, ite2 (fun _ => ?_) (fun _ => ?_)⟩
            · refine ⟨_, rfl, d, _, 2, _, rfl, rfl, tq, rfl, .inl ⟨_, rfl, _, rfl, _, _, rfl, rfl, by show (0 : Int) < (many : Nat); omega, ?_⟩⟩
              refine ⟨_, rfl, d, _, 2, _, rfl, rfl, tq, rfl, _, rfl, _, _, rfl, rfl, ⟨by omega, by omega⟩, _, rfl, d, _, 2, 2, rfl, rfl, fd, rfl, ?_⟩
              exact ⟨_, rfl, pickQ (fun r hr => q _ r (sb'.trans sb_upd) (hd'.set g0) hr) hm⟩
            · refine ⟨_, rfl, d, _, 1, _, rfl, rfl, tq, rfl, _, rfl, d, _, 0, _, rfl, rfl, tq, rfl, ca, _, rfl, .inl tc, j1, _, rfl, rfl, _, rfl, iteD (fun f2 => ?_) (fun _ => ?_)⟩
              · rw [List.length_map] at f2
                have lj : j1.toNat < cells.length := by omega
                have cj : (cells.map V.int)[j1.toNat]? = some (.int cells[j1.toNat]) := by rw [List.getElem?_map, List.getElem?_eq_getElem lj]; rfl
                have aj : atI (cells.map V.int) j1 = some (.int cells[j1.toNat]) := by
                  have := atI_nat cj
                  rwa [Int.toNat_of_nonneg g0] at this
                generalize cells[j1.toNat] = cell2 at aj
                refine ⟨_, rfl, d, _, 0, _, rfl, rfl, tq, rfl, _, rfl, d, _, 1, _, rfl, rfl, tq, rfl, ca, _, j1, _, rfl, rfl, tc, aj, ?_⟩
                refine ⟨_, rfl, d, _, 3, _, rfl, rfl, tq, rfl, j3, 1, rfl, rfl, _, rfl, d, _, 3, 3, rfl, rfl, fd, rfl, ?_⟩
                have hd2 := hd'.set (a1 := j1) (a2 := j2) (a3 := j3 + 1) (a4 := j4) (a5 := j5) g0
                have sb2 := sb'.trans (sb_upd (d := d) (o := .lst [.ref ca, .int j1, .int j2, .int (j3 + 1), .int j4, .int j5]))
                refine ⟨_, rfl, _, rfl, d, _, 1, _, rfl, rfl, .inl (.inl upd_same), rfl, 31, j1, rfl, rfl, .inl (by decide), cell2, _, rfl, rfl, _, rfl, d, _, 3, _, rfl, rfl, .inl (.inl upd_same), rfl, _, _, rfl, fun r => .inl ⟨_, rfl, _, rfl, _, _, rfl, rfl, by show (0 : Int) < (many : Nat); omega, ?_⟩⟩
                refine ⟨_, rfl, d, _, 3, _, rfl, rfl, .inl (.inl upd_same), rfl, rfl, _, rfl, iteD (fun _ => ?_) (fun _ => ?_)⟩
                · refine ⟨_, rfl, d, _, 3, 3, rfl, rfl, upd_same, rfl, ?_⟩
                  refine ⟨_, rfl, d, _, 1, _, rfl, rfl, .inl (.inl upd_same), rfl, j1, 1, rfl, rfl, _, rfl, d, _, 1, 1, rfl, rfl, upd_same, rfl, ?_⟩
                  have hd3 := hd2.set (a1 := j1) (a2 := j2) (a3 := 0) (a4 := j4) (a5 := j5) g0
                  have hd4 := hd3.set (a1 := j1 + 1) (a2 := j2) (a3 := 0) (a4 := j4) (a5 := j5) (by omega)
                  exact ⟨_, rfl, pickQ (fun r hr => q _ r ((sb2.trans sb_upd).trans sb_upd) hd4 hr) hm⟩
                · exact ⟨_, rfl, pickQ (fun r hr => q _ r sb2 hd2 hr) hm⟩
              · refine ⟨_, rfl, d, _, 4, _, rfl, rfl, tq, rfl, j4, 1, rfl, rfl, _, rfl, d, _, 4, 4, rfl, rfl, fd, rfl, ?_⟩
                have hd2 := hd'.set (a1 := j1) (a2 := j2) (a3 := j3) (a4 := j4 + 1) (a5 := j5) g0
                have sb2 := sb'.trans (sb_upd (d := d) (o := .lst [.ref ca, .int j1, .int j2, .int j3, .int (j4 + 1), .int j5]))
                refine ⟨_, rfl, d, _, 5, _, rfl, rfl, .inl (.inl upd_same), rfl, _, rfl, d, _, 4, _, rfl, rfl, .inl (.inl upd_same), rfl, _, 100, rfl, rfl, _, _, rfl, fun r => .inl ⟨_, rfl, _, rfl, _, _, rfl, rfl, by show (0 : Int) < (many : Nat); omega, ?_⟩⟩
                exact pickQ (fun r hr => q _ r sb2 hd2 hr) hm
          · refine ⟨_, rfl, 10, 18, rfl, rfl, pw, _, rfl, cell, _, rfl, rfl, _, rfl, ite2 (fun _ => ?_) (fun _ => ?_)⟩
            · skip
              refine ⟨_, rfl, cell, rfl, .inl ⟨_, rfl, 10, 60, rfl, rfl, pw2, _, 64, rfl, rfl, pw3, _, _, rfl, rfl, pos, ?_⟩⟩
              show gSub _ _ _ (.int ((if cell < 0 then -cell else cell) % ((10 ^ (60 : Int).toNat) ^ (64 : Int).toNat))) _ _ _
              generalize (if cell < 0 then -cell else cell) % ((10 ^ (60 : Int).toNat) ^ (64 : Int).toNat) = X
              refine ⟨_, rfl, d, _, 2, 2, rfl, rfl, ed, rfl, ?_⟩
              have hd1 : Dw (upd H d (.lst [.ref ca, .int i1, .int X, .int i3, .int i4, .int i5])) d ca cells := hd.set h0
              refine ⟨_, rfl, d, _, 1, _, rfl, rfl, .inl (.inl upd_same), rfl, i1, 1, rfl, rfl, _, rfl, d, _, 1, 1, rfl, rfl, upd_same, rfl, ?_⟩
              have hd' : Dw (upd (upd H d (.lst [.ref ca, .int i1, .int X, .int i3, .int i4, .int i5])) d (.lst [.ref ca, .int (i1 + 1), .int X, .int i3, .int i4, .int i5])) d ca cells := hd1.set (by omega)
              have sb' : Sb d H (upd (upd H d (.lst [.ref ca, .int i1, .int X, .int i3, .int i4, .int i5])) d (.lst [.ref ca, .int (i1 + 1), .int X, .int i3, .int i4, .int i5])) := Sb.trans sb_upd sb_upd
              obtain ⟨⟨j1, j2, j3, j4, j5, fd, g0⟩, fc, _, _⟩ := id hd'
              have tq : SqL K _ d _ := .inl (.inl fd)
              have tc : SqL K _ ca _ := .inl (.inl fc)
              refine ⟨_, rfl, d, _, 2, _, rfl, rfl, tq, rfl, j2, 0, rfl, rfl, _, rfl, ite2 (fun _ => ?_) (fun _ => ?_)⟩
              · refine ⟨_, rfl, d, _, 2, _, rfl, rfl, tq, rfl, .inl ⟨_, rfl, _, rfl, _, _, rfl, rfl, by show (0 : Int) < (many : Nat); omega, ?_⟩⟩
                refine ⟨_, rfl, d, _, 2, _, rfl, rfl, tq, rfl, _, rfl, _, _, rfl, rfl, ⟨by omega, by omega⟩, _, rfl, d, _, 2, 2, rfl, rfl, fd, rfl, ?_⟩
                exact ⟨_, rfl, pickQ (fun r hr => q _ r (sb'.trans sb_upd) (hd'.set g0) hr) hm⟩
              · refine ⟨_, rfl, d, _, 1, _, rfl, rfl, tq, rfl, _, rfl, d, _, 0, _, rfl, rfl, tq, rfl, ca, _, rfl, .inl tc, j1, _, rfl, rfl, _, rfl, iteD (fun f2 => ?_) (fun _ => ?_)⟩
                · rw [List.length_map] at f2
                  have lj : j1.toNat < cells.length := by omega
                  have cj : (cells.map V.int)[j1.toNat]? = some (.int cells[j1.toNat]) := by rw [List.getElem?_map, List.getElem?_eq_getElem lj]; rfl
                  have aj : atI (cells.map V.int) j1 = some (.int cells[j1.toNat]) := by
                    have := atI_nat cj
                    rwa [Int.toNat_of_nonneg g0] at this
                  generalize cells[j1.toNat] = cell2 at aj
                  refine ⟨_, rfl, d, _, 0, _, rfl, rfl, tq, rfl, _, rfl, d, _, 1, _, rfl, rfl, tq, rfl, ca, _, j1, _, rfl, rfl, tc, aj, ?_⟩
                  refine ⟨_, rfl, d, _, 3, _, rfl, rfl, tq, rfl, j3, 1, rfl, rfl, _, rfl, d, _, 3, 3, rfl, rfl, fd, rfl, ?_⟩
                  have hd2 := hd'.set (a1 := j1) (a2 := j2) (a3 := j3 + 1) (a4 := j4) (a5 := j5) g0
                  have sb2 := sb'.trans (sb_upd (d := d) (o := .lst [.ref ca, .int j1, .int j2, .int (j3 + 1), .int j4, .int j5]))
                  refine ⟨_, rfl, _, rfl, d, _, 1, _, rfl, rfl, .inl (.inl upd_same), rfl, 31, j1, rfl, rfl, .inl (by decide), cell2, _, rfl, rfl, _, rfl, d, _, 3, _, rfl, rfl, .inl (.inl upd_same), rfl, _, _, rfl, fun r => .inl ⟨_, rfl, _, rfl, _, _, rfl, rfl, by show (0 : Int) < (many : Nat); omega, ?_⟩⟩
                  refine ⟨_, rfl, d, _, 3, _, rfl, rfl, .inl (.inl upd_same), rfl, rfl, _, rfl, iteD (fun _ => ?_) (fun _ => ?_)⟩
                  · refine ⟨_, rfl, d, _, 3, 3, rfl, rfl, upd_same, rfl, ?_⟩
                    refine ⟨_, rfl, d, _, 1, _, rfl, rfl, .inl (.inl upd_same), rfl, j1, 1, rfl, rfl, _, rfl, d, _, 1, 1, rfl, rfl, upd_same, rfl, ?_⟩
                    have hd3 := hd2.set (a1 := j1) (a2 := j2) (a3 := 0) (a4 := j4) (a5 := j5) g0
                    have hd4 := hd3.set (a1 := j1 + 1) (a2 := j2) (a3 := 0) (a4 := j4) (a5 := j5) (by omega)
                    exact ⟨_, rfl, pickQ (fun r hr => q _ r ((sb2.trans sb_upd).trans sb_upd) hd4 hr) hm⟩
                  · exact ⟨_, rfl, pickQ (fun r hr => q _ r sb2 hd2 hr) hm⟩
                · refine ⟨_, rfl, d, _, 4, _, rfl, rfl, tq, rfl, j4, 1, rfl, rfl, _, rfl, d, _, 4, 4, rfl, rfl, fd, rfl, ?_⟩
                  have hd2 := hd'.set (a1 := j1) (a2 := j2) (a3 := j3) (a4 := j4 + 1) (a5 := j5) g0
                  have sb2 := sb'.trans (sb_upd (d := d) (o := .lst [.ref ca, .int j1, .int j2, .int j3, .int (j4 + 1), .int j5]))
                  refine ⟨_, rfl, d, _, 5, _, rfl, rfl, .inl (.inl upd_same), rfl, _, rfl, d, _, 4, _, rfl, rfl, .inl (.inl upd_same), rfl, _, 100, rfl, rfl, _, _, rfl, fun r => .inl ⟨_, rfl, _, rfl, _, _, rfl, rfl, by show (0 : Int) < (many : Nat); omega, ?_⟩⟩
                  exact pickQ (fun r hr => q _ r sb2 hd2 hr) hm
            · skip
              have hd' := hd
              have sb' := Sb.refl d H
              obtain ⟨⟨j1, j2, j3, j4, j5, fd, g0⟩, fc, _, _⟩ := id hd'
              have tq : SqL K _ d _ := .inl (.inl fd)
              have tc : SqL K _ ca _ := .inl (.inl fc)
              refine ⟨_, rfl, d, _, 2, _, rfl, rfl, tq, rfl, j2, 0, rfl, rfl, _, rfl, ite2 (fun _ => ?_) (fun _ => ?_)⟩
              · refine ⟨_, rfl, d, _, 2, _, rfl, rfl, tq, rfl, .inl ⟨_, rfl, _, rfl, _, _, rfl, rfl, by show (0 : Int) < (many : Nat); omega, ?_⟩⟩
                refine ⟨_, rfl, d, _, 2, _, rfl, rfl, tq, rfl, _, rfl, _, _, rfl, rfl, ⟨by omega, by omega⟩, _, rfl, d, _, 2, 2, rfl, rfl, fd, rfl, ?_⟩
                exact ⟨_, rfl, pickQ (fun r hr => q _ r (sb'.trans sb_upd) (hd'.set g0) hr) hm⟩
              · refine ⟨_, rfl, d, _, 1, _, rfl, rfl, tq, rfl, _, rfl, d, _, 0, _, rfl, rfl, tq, rfl, ca, _, rfl, .inl tc, j1, _, rfl, rfl, _, rfl, iteD (fun f2 => ?_) (fun _ => ?_)⟩
                · rw [List.length_map] at f2
                  have lj : j1.toNat < cells.length := by omega
                  have cj : (cells.map V.int)[j1.toNat]? = some (.int cells[j1.toNat]) := by rw [List.getElem?_map, List.getElem?_eq_getElem lj]; rfl
                  have aj : atI (cells.map V.int) j1 = some (.int cells[j1.toNat]) := by
                    have := atI_nat cj
                    rwa [Int.toNat_of_nonneg g0] at this
                  generalize cells[j1.toNat] = cell2 at aj
                  refine ⟨_, rfl, d, _, 0, _, rfl, rfl, tq, rfl, _, rfl, d, _, 1, _, rfl, rfl, tq, rfl, ca, _, j1, _, rfl, rfl, tc, aj, ?_⟩
                  refine ⟨_, rfl, d, _, 3, _, rfl, rfl, tq, rfl, j3, 1, rfl, rfl, _, rfl, d, _, 3, 3, rfl, rfl, fd, rfl, ?_⟩
                  have hd2 := hd'.set (a1 := j1) (a2 := j2) (a3 := j3 + 1) (a4 := j4) (a5 := j5) g0
                  have sb2 := sb'.trans (sb_upd (d := d) (o := .lst [.ref ca, .int j1, .int j2, .int (j3 + 1), .int j4, .int j5]))
                  refine ⟨_, rfl, _, rfl, d, _, 1, _, rfl, rfl, .inl (.inl upd_same), rfl, 31, j1, rfl, rfl, .inl (by decide), cell2, _, rfl, rfl, _, rfl, d, _, 3, _, rfl, rfl, .inl (.inl upd_same), rfl, _, _, rfl, fun r => .inl ⟨_, rfl, _, rfl, _, _, rfl, rfl, by show (0 : Int) < (many : Nat); omega, ?_⟩⟩
                  refine ⟨_, rfl, d, _, 3, _, rfl, rfl, .inl (.inl upd_same), rfl, rfl, _, rfl, iteD (fun _ => ?_) (fun _ => ?_)⟩
                  · refine ⟨_, rfl, d, _, 3, 3, rfl, rfl, upd_same, rfl, ?_⟩
                    refine ⟨_, rfl, d, _, 1, _, rfl, rfl, .inl (.inl upd_same), rfl, j1, 1, rfl, rfl, _, rfl, d, _, 1, 1, rfl, rfl, upd_same, rfl, ?_⟩
                    have hd3 := hd2.set (a1 := j1) (a2 := j2) (a3 := 0) (a4 := j4) (a5 := j5) g0
                    have hd4 := hd3.set (a1 := j1 + 1) (a2 := j2) (a3 := 0) (a4 := j4) (a5 := j5) (by omega)
                    exact ⟨_, rfl, pickQ (fun r hr => q _ r ((sb2.trans sb_upd).trans sb_upd) hd4 hr) hm⟩
                  · exact ⟨_, rfl, pickQ (fun r hr => q _ r sb2 hd2 hr) hm⟩
                · refine ⟨_, rfl, d, _, 4, _, rfl, rfl, tq, rfl, j4, 1, rfl, rfl, _, rfl, d, _, 4, 4, rfl, rfl, fd, rfl, ?_⟩
                  have hd2 := hd'.set (a1 := j1) (a2 := j2) (a3 := j3) (a4 := j4 + 1) (a5 := j5) g0
                  have sb2 := sb'.trans (sb_upd (d := d) (o := .lst [.ref ca, .int j1, .int j2, .int j3, .int (j4 + 1), .int j5]))
                  refine ⟨_, rfl, d, _, 5, _, rfl, rfl, .inl (.inl upd_same), rfl, _, rfl, d, _, 4, _, rfl, rfl, .inl (.inl upd_same), rfl, _, 100, rfl, rfl, _, _, rfl, fun r => .inl ⟨_, rfl, _, rfl, _, _, rfl, rfl, by show (0 : Int) < (many : Nat); omega, ?_⟩⟩
                  exact pickQ (fun r hr => q _ r sb2 hd2 hr) hm
        · skip
          have hd' := hd
          have sb' := Sb.refl d H
          obtain ⟨⟨j1, j2, j3, j4, j5, fd, g0⟩, fc, _, _⟩ := id hd'
          have tq : SqL K _ d _ := .inl (.inl fd)
          have tc : SqL K _ ca _ := .inl (.inl fc)
          refine ⟨_, rfl, d, _, 2, _, rfl, rfl, tq, rfl, j2, 0, rfl, rfl, _, rfl, ite2 (fun _ => ?_) (fun _ => ?_)⟩
          · refine ⟨_, rfl, d, _, 2, _, rfl, rfl, tq, rfl, .inl ⟨_, rfl, _, rfl, _, _, rfl, rfl, by show (0 : Int) < (many : Nat); omega, ?_⟩⟩
            refine ⟨_, rfl, d, _, 2, _, rfl, rfl, tq, rfl, _, rfl, _, _, rfl, rfl, ⟨by omega, by omega⟩, _, rfl, d, _, 2, 2, rfl, rfl, fd, rfl, ?_⟩
            exact ⟨_, rfl, pickQ (fun r hr => q _ r (sb'.trans sb_upd) (hd'.set g0) hr) hm⟩
          · refine ⟨_, rfl, d, _, 1, _, rfl, rfl, tq, rfl, _, rfl, d, _, 0, _, rfl, rfl, tq, rfl, ca, _, rfl, .inl tc, j1, _, rfl, rfl, _, rfl, iteD (fun f2 => ?_) (fun _ => ?_)⟩
            · rw [List.length_map] at f2
              have lj : j1.toNat < cells.length := by omega
              have cj : (cells.map V.int)[j1.toNat]? = some (.int cells[j1.toNat]) := by rw [List.getElem?_map, List.getElem?_eq_getElem lj]; rfl
              have aj : atI (cells.map V.int) j1 = some (.int cells[j1.toNat]) := by
                have := atI_nat cj
                rwa [Int.toNat_of_nonneg g0] at this
              generalize cells[j1.toNat] = cell2 at aj
              refine ⟨_, rfl, d, _, 0, _, rfl, rfl, tq, rfl, _, rfl, d, _, 1, _, rfl, rfl, tq, rfl, ca, _, j1, _, rfl, rfl, tc, aj, ?_⟩
              refine ⟨_, rfl, d, _, 3, _, rfl, rfl, tq, rfl, j3, 1, rfl, rfl, _, rfl, d, _, 3, 3, rfl, rfl, fd, rfl, ?_⟩
              have hd2 := hd'.set (a1 := j1) (a2 := j2) (a3 := j3 + 1) (a4 := j4) (a5 := j5) g0
              have sb2 := sb'.trans (sb_upd (d := d) (o := .lst [.ref ca, .int j1, .int j2, .int (j3 + 1), .int j4, .int j5]))
              refine ⟨_, rfl, _, rfl, d, _, 1, _, rfl, rfl, .inl (.inl upd_same), rfl, 31, j1, rfl, rfl, .inl (by decide), cell2, _, rfl, rfl, _, rfl, d, _, 3, _, rfl, rfl, .inl (.inl upd_same), rfl, _, _, rfl, fun r => .inl ⟨_, rfl, _, rfl, _, _, rfl, rfl, by show (0 : Int) < (many : Nat); omega, ?_⟩⟩
              refine ⟨_, rfl, d, _, 3, _, rfl, rfl, .inl (.inl upd_same), rfl, rfl, _, rfl, iteD (fun _ => ?_) (fun _ => ?_)⟩
              · refine ⟨_, rfl, d, _, 3, 3, rfl, rfl, upd_same, rfl, ?_⟩
                refine ⟨_, rfl, d, _, 1, _, rfl, rfl, .inl (.inl upd_same), rfl, j1, 1, rfl, rfl, _, rfl, d, _, 1, 1, rfl, rfl, upd_same, rfl, ?_⟩
                have hd3 := hd2.set (a1 := j1) (a2 := j2) (a3 := 0) (a4 := j4) (a5 := j5) g0
                have hd4 := hd3.set (a1 := j1 + 1) (a2 := j2) (a3 := 0) (a4 := j4) (a5 := j5) (by omega)
                exact ⟨_, rfl, pickQ (fun r hr => q _ r ((sb2.trans sb_upd).trans sb_upd) hd4 hr) hm⟩
              · exact ⟨_, rfl, pickQ (fun r hr => q _ r sb2 hd2 hr) hm⟩
            · refine ⟨_, rfl, d, _, 4, _, rfl, rfl, tq, rfl, j4, 1, rfl, rfl, _, rfl, d, _, 4, 4, rfl, rfl, fd, rfl, ?_⟩
              have hd2 := hd'.set (a1 := j1) (a2 := j2) (a3 := j3) (a4 := j4 + 1) (a5 := j5) g0
              have sb2 := sb'.trans (sb_upd (d := d) (o := .lst [.ref ca, .int j1, .int j2, .int j3, .int (j4 + 1), .int j5]))
              refine ⟨_, rfl, d, _, 5, _, rfl, rfl, .inl (.inl upd_same), rfl, _, rfl, d, _, 4, _, rfl, rfl, .inl (.inl upd_same), rfl, _, 100, rfl, rfl, _, _, rfl, fun r => .inl ⟨_, rfl, _, rfl, _, _, rfl, rfl, by show (0 : Int) < (many : Nat); omega, ?_⟩⟩
              exact pickQ (fun r hr => q _ r sb2 hd2 hr) hm
      · skip
        have hd' := hd
        have sb' := Sb.refl d H
        obtain ⟨⟨j1, j2, j3, j4, j5, fd, g0⟩, fc, _, _⟩ := id hd'
        have tq : SqL K _ d _ := .inl (.inl fd)
        have tc : SqL K _ ca _ := .inl (.inl fc)
        refine ⟨_, rfl, d, _, 2, _, rfl, rfl, tq, rfl, j2, 0, rfl, rfl, _, rfl, ite2 (fun _ => ?_) (fun _ => ?_)⟩
        · refine ⟨_, rfl, d, _, 2, _, rfl, rfl, tq, rfl, .inl ⟨_, rfl, _, rfl, _, _, rfl, rfl, by show (0 : Int) < (many : Nat); omega, ?_⟩⟩
          refine ⟨_, rfl, d, _, 2, _, rfl, rfl, tq, rfl, _, rfl, _, _, rfl, rfl, ⟨by omega, by omega⟩, _, rfl, d, _, 2, 2, rfl, rfl, fd, rfl, ?_⟩
          exact ⟨_, rfl, pickQ (fun r hr => q _ r (sb'.trans sb_upd) (hd'.set g0) hr) hm⟩
        · refine ⟨_, rfl, d, _, 1, _, rfl, rfl, tq, rfl, _, rfl, d, _, 0, _, rfl, rfl, tq, rfl, ca, _, rfl, .inl tc, j1, _, rfl, rfl, _, rfl, iteD (fun f2 => ?_) (fun _ => ?_)⟩
          · rw [List.length_map] at f2
            have lj : j1.toNat < cells.length := by omega
            have cj : (cells.map V.int)[j1.toNat]? = some (.int cells[j1.toNat]) := by rw [List.getElem?_map, List.getElem?_eq_getElem lj]; rfl
            have aj : atI (cells.map V.int) j1 = some (.int cells[j1.toNat]) := by
              have := atI_nat cj
              rwa [Int.toNat_of_nonneg g0] at this
            generalize cells[j1.toNat] = cell2 at aj
            refine ⟨_, rfl, d, _, 0, _, rfl, rfl, tq, rfl, _, rfl, d, _, 1, _, rfl, rfl, tq, rfl, ca, _, j1, _, rfl, rfl, tc, aj, ?_⟩
            refine ⟨_, rfl, d, _, 3, _, rfl, rfl, tq, rfl, j3, 1, rfl, rfl, _, rfl, d, _, 3, 3, rfl, rfl, fd, rfl, ?_⟩
            have hd2 := hd'.set (a1 := j1) (a2 := j2) (a3 := j3 + 1) (a4 := j4) (a5 := j5) g0
            have sb2 := sb'.trans (sb_upd (d := d) (o := .lst [.ref ca, .int j1, .int j2, .int (j3 + 1), .int j4, .int j5]))
            refine ⟨_, rfl, _, rfl, d, _, 1, _, rfl, rfl, .inl (.inl upd_same), rfl, 31, j1, rfl, rfl, .inl (by decide), cell2, _, rfl, rfl, _, rfl, d, _, 3, _, rfl, rfl, .inl (.inl upd_same), rfl, _, _, rfl, fun r => .inl ⟨_, rfl, _, rfl, _, _, rfl, rfl, by show (0 : Int) < (many : Nat); omega, ?_⟩⟩
            refine ⟨_, rfl, d, _, 3, _, rfl, rfl, .inl (.inl upd_same), rfl, rfl, _, rfl, iteD (fun _ => ?_) (fun _ => ?_)⟩
            · refine ⟨_, rfl, d, _, 3, 3, rfl, rfl, upd_same, rfl, ?_⟩
              refine ⟨_, rfl, d, _, 1, _, rfl, rfl, .inl (.inl upd_same), rfl, j1, 1, rfl, rfl, _, rfl, d, _, 1, 1, rfl, rfl, upd_same, rfl, ?_⟩
              have hd3 := hd2.set (a1 := j1) (a2 := j2) (a3 := 0) (a4 := j4) (a5 := j5) g0
              have hd4 := hd3.set (a1 := j1 + 1) (a2 := j2) (a3 := 0) (a4 := j4) (a5 := j5) (by omega)
              exact ⟨_, rfl, pickQ (fun r hr => q _ r ((sb2.trans sb_upd).trans sb_upd) hd4 hr) hm⟩
            · exact ⟨_, rfl, pickQ (fun r hr => q _ r sb2 hd2 hr) hm⟩
          · refine ⟨_, rfl, d, _, 4, _, rfl, rfl, tq, rfl, j4, 1, rfl, rfl, _, rfl, d, _, 4, 4, rfl, rfl, fd, rfl, ?_⟩
            have hd2 := hd'.set (a1 := j1) (a2 := j2) (a3 := j3) (a4 := j4 + 1) (a5 := j5) g0
            have sb2 := sb'.trans (sb_upd (d := d) (o := .lst [.ref ca, .int j1, .int j2, .int j3, .int (j4 + 1), .int j5]))
            refine ⟨_, rfl, d, _, 5, _, rfl, rfl, .inl (.inl upd_same), rfl, _, rfl, d, _, 4, _, rfl, rfl, .inl (.inl upd_same), rfl, _, 100, rfl, rfl, _, _, rfl, fun r => .inl ⟨_, rfl, _, rfl, _, _, rfl, rfl, by show (0 : Int) < (many : Nat); omega, ?_⟩⟩
            exact pickQ (fun r hr => q _ r sb2 hd2 hr) hm
    · skip
      have hd' := hd
      have sb' := Sb.refl d H
      obtain ⟨⟨j1, j2, j3, j4, j5, fd, g0⟩, fc, _, _⟩ := id hd'
      have tq : SqL K _ d _ := .inl (.inl fd)
      have tc : SqL K _ ca _ := .inl (.inl fc)
      refine ⟨_, rfl, d, _, 2, _, rfl, rfl, tq, rfl, j2, 0, rfl, rfl, _, rfl, ite2 (fun _ => ?_) (fun _ => ?_)⟩
      · refine ⟨_, rfl, d, _, 2, _, rfl, rfl, tq, rfl, .inl ⟨_, rfl, _, rfl, _, _, rfl, rfl, by show (0 : Int) < (many : Nat); omega, ?_⟩⟩
        refine ⟨_, rfl, d, _, 2, _, rfl, rfl, tq, rfl, _, rfl, _, _, rfl, rfl, ⟨by omega, by omega⟩, _, rfl, d, _, 2, 2, rfl, rfl, fd, rfl, ?_⟩
        exact ⟨_, rfl, pickQ (fun r hr => q _ r (sb'.trans sb_upd) (hd'.set g0) hr) hm⟩
      · refine ⟨_, rfl, d, _, 1, _, rfl, rfl, tq, rfl, _, rfl, d, _, 0, _, rfl, rfl, tq, rfl, ca, _, rfl, .inl tc, j1, _, rfl, rfl, _, rfl, iteD (fun f2 => ?_) (fun _ => ?_)⟩
        · rw [List.length_map] at f2
          have lj : j1.toNat < cells.length := by omega
          have cj : (cells.map V.int)[j1.toNat]? = some (.int cells[j1.toNat]) := by rw [List.getElem?_map, List.getElem?_eq_getElem lj]; rfl
          have aj : atI (cells.map V.int) j1 = some (.int cells[j1.toNat]) := by
            have := atI_nat cj
            rwa [Int.toNat_of_nonneg g0] at this
          generalize cells[j1.toNat] = cell2 at aj
          refine ⟨_, rfl, d, _, 0, _, rfl, rfl, tq, rfl, _, rfl, d, _, 1, _, rfl, rfl, tq, rfl, ca, _, j1, _, rfl, rfl, tc, aj, ?_⟩
          refine ⟨_, rfl, d, _, 3, _, rfl, rfl, tq, rfl, j3, 1, rfl, rfl, _, rfl, d, _, 3, 3, rfl, rfl, fd, rfl, ?_⟩
          have hd2 := hd'.set (a1 := j1) (a2 := j2) (a3 := j3 + 1) (a4 := j4) (a5 := j5) g0
          have sb2 := sb'.trans (sb_upd (d := d) (o := .lst [.ref ca, .int j1, .int j2, .int (j3 + 1), .int j4, .int j5]))
          refine ⟨_, rfl, _, rfl, d, _, 1, _, rfl, rfl, .inl (.inl upd_same), rfl, 31, j1, rfl, rfl, .inl (by decide), cell2, _, rfl, rfl, _, rfl, d, _, 3, _, rfl, rfl, .inl (.inl upd_same), rfl, _, _, rfl, fun r => .inl ⟨_, rfl, _, rfl, _, _, rfl, rfl, by show (0 : Int) < (many : Nat); omega, ?_⟩⟩
          refine ⟨_, rfl, d, _, 3, _, rfl, rfl, .inl (.inl upd_same), rfl, rfl, _, rfl, iteD (fun _ => ?_) (fun _ => ?_)⟩
          · refine ⟨_, rfl, d, _, 3, 3, rfl, rfl, upd_same, rfl, ?_⟩
            refine ⟨_, rfl, d, _, 1, _, rfl, rfl, .inl (.inl upd_same), rfl, j1, 1, rfl, rfl, _, rfl, d, _, 1, 1, rfl, rfl, upd_same, rfl, ?_⟩
            have hd3 := hd2.set (a1 := j1) (a2 := j2) (a3 := 0) (a4 := j4) (a5 := j5) g0
            have hd4 := hd3.set (a1 := j1 + 1) (a2 := j2) (a3 := 0) (a4 := j4) (a5 := j5) (by omega)
            exact ⟨_, rfl, pickQ (fun r hr => q _ r ((sb2.trans sb_upd).trans sb_upd) hd4 hr) hm⟩
          · exact ⟨_, rfl, pickQ (fun r hr => q _ r sb2 hd2 hr) hm⟩
        · refine ⟨_, rfl, d, _, 4, _, rfl, rfl, tq, rfl, j4, 1, rfl, rfl, _, rfl, d, _, 4, 4, rfl, rfl, fd, rfl, ?_⟩
          have hd2 := hd'.set (a1 := j1) (a2 := j2) (a3 := j3) (a4 := j4 + 1) (a5 := j5) g0
          have sb2 := sb'.trans (sb_upd (d := d) (o := .lst [.ref ca, .int j1, .int j2, .int j3, .int (j4 + 1), .int j5]))
          refine ⟨_, rfl, d, _, 5, _, rfl, rfl, .inl (.inl upd_same), rfl, _, rfl, d, _, 4, _, rfl, rfl, .inl (.inl upd_same), rfl, _, 100, rfl, rfl, _, _, rfl, fun r => .inl ⟨_, rfl, _, rfl, _, _, rfl, rfl, by show (0 : Int) < (many : Nat); omega, ?_⟩⟩
          exact pickQ (fun r hr => q _ r sb2 hd2 hr) hm

end
end TH
end
section
set_option Elab.async false
set_option linter.all false
set_option maxRecDepth 100000
set_option maxHeartbeats 4000000
namespace TH
open PySem PySem.Spec PyProof.Rows L2
section
variable {P : Program} {w : World} {K : PySem.W.Frag} {mg : Str → Option Value} {base : Heap}
/-! listed, words, names -/
theorem p__law_listed0 (T : Tx K mg) : Pr P w K mg base CX0 1 ["_law_thing"] [] (He.ga K "_law_listed") (fun vs H Q _ => ∃ i : Int, vs = [.int i] ∧ Q (.int i) H) := by
  refine T.d__law_listed.pr scs_law_listed (fun vs H Q E h => ?_) (fun cdv A outer s H vs Q E hr h => ?_)
  · obtain ⟨i, rfl, _⟩ := h
    rfl
  · obtain ⟨i, rfl, q⟩ := h
    refine ⟨_, (pss_cons (ps_if (pw_or (pt_val (pe_callB call_isiS (by rfl) T.z_isinstance (by decide +kernel) (pa_cons (pv 0) (pa_cons (pe_bltn (v := .ty "tuple") (by rfl) T.z_tuple (by decide +kernel : bootBuiltins "tuple" = some (.type "tuple")) rfl) pa_nil)))) (pw_or1 (pt_val (pe_callB call_isiS (by rfl) T.z_isinstance (by decide +kernel) (pa_cons (pv 0) (pa_cons (pe_bltn (v := .ty "list") (by rfl) T.z_list (by decide +kernel : bootBuiltins "list" = some (.type "list")) rfl) pa_nil)))))).pt
      (pss_one (ps_ret pe_never))
      pss_nil)
    (pss_one (ps_ret (pv 0)))), ?_⟩
    refine ⟨_, rfl, _, _, "int", false, rfl, .base (.int i), by decide +kernel, false, rfl, iteF ?_⟩
    exact ⟨_, rfl, _, _, "int", false, rfl, .base (.int i), by decide +kernel, false, rfl, iteF ⟨_, rfl, q⟩⟩
theorem p__law_listed (T : Tx K mg) : Pr P w K mg base CX0 2 ["_law_thing"] [] (He.ga K "_law_listed") (fun vs H Q _ => ∃ (a : Addr) (ns : List Nat), vs = [.ref a] ∧ SqT K H a (natsV ns) ∧ ns.length ≤ 2000 ∧ ∀ H' l, Same H H' → H l = none → H' l = some (.lst (natsV ns)) → Q (.ref l) H') := by
  refine T.d__law_listed.pr scs_law_listed (fun vs H Q E h => ?_) (fun cdv A outer s H vs Q E hr h => ?_)
  · obtain ⟨a, ns, rfl, _⟩ := h
    rfl
  · obtain ⟨a, ns, rfl, ha, hl, q⟩ := h
    refine ⟨_, (pss_cons (ps_if (pw_or (pt_val (pe_callB call_isiS (by rfl) T.z_isinstance (by decide +kernel) (pa_cons (pv 0) (pa_cons (pe_bltn (v := .ty "tuple") (by rfl) T.z_tuple (by decide +kernel : bootBuiltins "tuple" = some (.type "tuple")) rfl) pa_nil)))) (pw_or1 (pt_val (pe_callB call_isiS (by rfl) T.z_isinstance (by decide +kernel) (pa_cons (pv 0) (pa_cons (pe_bltn (v := .ty "list") (by rfl) T.z_list (by decide +kernel : bootBuiltins "list" = some (.type "list")) rfl) pa_nil)))))).pt
      (pss_one (ps_ret (pe_lc (own := [("_law_part", 1)]) rfl scs_law_listed.nd (pi_tup (pv 0)) (blkOk_by (N := ["_law_thing", "_law_part"]) (sc := defScope s_law_listed) (by decide +kernel)) (fun _ _ _ _ _ => (pg_name (i := 1) scs_law_listed.nd rfl (.inl rfl) (.inr rfl))) (fun _ _ _ _ _ => pts_nil) (fun _ _ _ _ _ => (pcall (p__law_listed0 T) (hr.mono (by decide)) (by rfl) T.g__law_listed pass0 (pa_cons (pv 1) pa_nil))))))
      pss_nil)
    (pss_one (ps_ret (pv 0)))), ?_⟩
    have ln : (natsV ns).length = ns.length := by simp [natsV]
    refine ⟨_, rfl, _, _, "tuple", true, rfl, ty_tup ha, by decide +kernel, true, rfl, iteT (iteT ?_)⟩
    refine ⟨_, rfl, a, rfl, ⟨_, ha⟩, fun D hD => lc_map (walk_tup (xs := natsV ns)) hD (by omega) (fun H' s' => s'.tup ha) (fun i acc _ => acc = (natsV ns).take i) (fun _ _ _ _ _ h => h) rfl (fun i y H1 H2 acc k ks hi1 s1 a1 l1 y hk _ => ?_) fun H1 acc s1 eD lD aD => ?_⟩
    · obtain ⟨rfl, g⟩ := y
      obtain ⟨n, gn, rfl⟩ := nats_at g
      refine ⟨rfl, yes_if ⟨_, rfl, (n : Nat), rfl, hk _ _ (Same.refl _) ?_⟩⟩
      rw [a1, take_snoc g]
    · rw [List.take_length] at aD
      subst aD
      exact q _ D s1 hD eD
theorem erase_perm {α : Type} : ∀ {l : List α} {k : Nat} {x : α}, l[k]? = some x → (x :: l.eraseIdx k).Perm l
  | [], k, x, h => by simp at h
  | y :: l, 0, x, h => by
    have : y = x := by simpa using h
    subst this
    exact .refl _
  | y :: l, k + 1, x, h => by
    have ih := erase_perm (l := l) (k := k) (x := x) (by simpa using h)
    exact (List.Perm.swap y x _).trans (ih.cons y)
/-- letters taken off a pool -/
structure Pool (lo hi : Nat) (found pool : List Nat) (i : Nat) : Prop where
  nd : (found ++ pool).Nodup
  rg : ∀ c ∈ found ++ pool, lo ≤ c ∧ c ≤ hi
  fl : found.length = i
  pl : pool.length = 26 - i
theorem Pool.take {lo hi : Nat} {found pool : List Nat} {i k c : Nat} (h : Pool lo hi found pool i) (hc : pool[k]? = some c) : Pool lo hi (found ++ [c]) (pool.eraseIdx k) (i + 1) := by
  have pm : (found ++ [c] ++ pool.eraseIdx k).Perm (found ++ pool) := by
    rw [List.append_assoc]
    exact List.Perm.append_left found (erase_perm hc)
  have hk := (List.getElem?_eq_some_iff.mp hc).1
  refine ⟨pm.nodup_iff.mpr h.nd, fun d hd => h.rg d (pm.mem_iff.mp hd), by simp [h.fl], ?_⟩
  rw [List.length_eraseIdx_of_lt hk, h.pl]
  omega
theorem ones_erase (l : List Nat) (k : Nat) : (l.map fun c => V.str (one c)).eraseIdx k = (l.eraseIdx k).map fun c => V.str (one c) := by
  induction l generalizing k with
  | nil => rfl
  | cons x l ih =>
    cases k with
    | zero => rfl
    | succ k => simp [ih]
def abc : List Nat := (List.range 26).map (97 + ·)
def ABC : List Nat := (List.range 26).map (65 + ·)
theorem abc_str : ("abcdefghijklmnopqrstuvwxyz" : Str) = str abc := by decide +kernel
theorem ABC_str : ("ABCDEFGHIJKLMNOPQRSTUVWXYZ" : Str) = str ABC := by decide +kernel
theorem pool_abc : Pool 97 122 [] abc 0 := ⟨by decide +kernel, by decide +kernel, rfl, by decide +kernel⟩
theorem pool_ABC : Pool 65 90 [] ABC 0 := ⟨by decide +kernel, by decide +kernel, rfl, by decide +kernel⟩
theorem onesV (l : List Nat) : (l.map fun c => V.str (one c)) = (l.map one).map V.str := by rw [List.map_map]; rfl
theorem p__law_words (T : Tx K mg) : Pr P w K mg base CX0 3 ["_law_draw_here", "_law_many"] [] (He.ga K "_law_words")
    (fun vs H Q _ => ∃ (d ca : Addr) (cells : List Int) (many : Nat), vs = [.ref d, .int (many : Nat)] ∧ Dw H d ca cells ∧ 1 ≤ many ∧ many ≤ 2 ∧ ∀ H' ws, Sb d H H' → Dw H' d ca cells → small ws → Rise ws → ws.length = many → Q (.str (str ws)) H') := by
  refine T.d__law_words.pr scs_law_words (fun vs H Q E h => ?_) (fun cdv A outer s H vs Q E hr h => ?_)
  · obtain ⟨d, ca, cells, many, rfl, _⟩ := h
    rfl
  · obtain ⟨d, ca, cells, many, rfl, hd, m1, m2, q⟩ := h
    refine ⟨_, (pss_cons (ps_setLc (i := 2) (own := [("_law_letter", 5)]) rfl scs_law_words.nd rfl rfl (sw_true rfl rfl rfl (by decide +kernel)) (pi_str pe_str) (blkOk_by (N := ["_law_draw_here", "_law_many", "_law_pool", "_law_found", "_law_turn", "_law_letter"]) (sc := defScope s_law_words) (by decide +kernel)) (fun _ _ _ _ _ => (pg_name (i := 5) scs_law_words.nd rfl (.inl rfl) (.inr rfl))) (fun _ _ _ _ _ => pts_nil) (fun _ _ _ _ _ => (pv 5)))
    (pss_cons (ps_set (i := 3) scs_law_words.nd rfl (.inl rfl) (pe_lst pa_nil))
    (pss_cons (ps_for PassesOwn.never rfl (pi_range1 (by rfl) T.z_range (pa_cons (pv 1) pa_nil)) (pg_name (i := 4) scs_law_words.nd rfl (.inl rfl) (.inl rfl))
      (pss_one (ps_expr (pe_bm PySem.F.plainAttrs_list PySem.F.slot_list_append PySem.F.type_list_append mt_appU (pv 3) (pa_cons (pe_bm PySem.F.plainAttrs_list PySem.F.slot_list_pop PySem.F.type_list_pop mt_popAt (pv 2) (pa_cons (pcall (p__law_pick T) (hr.mono (by decide)) (by rfl) T.g__law_pick pass0 (pa_cons (pv 0) (pa_cons (pe_callB call_len_seq (by rfl) T.z_len PySem.boot_len (pa_cons (pv 2) pa_nil)) pa_nil))) pa_nil)) pa_nil)))))
    (pss_one (ps_ret (pe_join pe_str (pe_callB cr_sortedS (by rfl) T.z_sorted (by decide +kernel) (pa_cons (pv 3) pa_nil)))))))), ?_⟩
    refine ⟨str abc, congrArg V.str abc_str, ?_⟩
    refine fun D hD => lc_map (walk_str (z := str abc)) hD (by decide) (fun H' s' => trivial) (fun i acc _ => acc = (abc.take i).map fun c => V.str (one c)) (fun _ _ _ _ _ h => h) rfl (fun i y H1 H2 acc k ks hi1 s1 a1 l1 y hk _ => ?_) fun H1 acc s1 eD lD aD => ?_
    · obtain ⟨rfl, c, hc, rfl⟩ := y
      refine ⟨rfl, yes_if ⟨_, rfl, hk _ _ (Same.refl _) ?_⟩⟩
      rw [a1, take_snoc (str_at hc), List.map_append]
      rfl
    rw [List.take_of_length_le (by rw [str_size]; exact Nat.le_refl _)] at aD
    subst aD
    refine ⟨by show 0 ≤ sizeLine; decide, fun f nf => ?_⟩
    have s2 := same_upd (o := .lst []) nf
    have e2 : (upd H1 f (.lst [])) f = some (.lst []) := upd_same
    generalize upd H1 f (.lst []) = H2 at s2 e2 ⊢
    have nDf : D ≠ f := fun z => by rw [← z, eD] at nf; cases nf
    have nf0 : H f = none := s1.back nf
    refine ⟨_, rfl, (many : Nat), rfl, by omega, by omega, for_it (walk_rn (n := many)) (fun i σ H' => Sb d H H' ∧ Dw H' d ca cells ∧ ∃ found pool, H' f = some (.lst (found.map fun c => V.str (one c))) ∧ H' D = some (.lst (pool.map fun c => V.str (one c))) ∧ Pool 97 122 found pool i ∧ ∃ x4 x5, σ = [some (.ref d), some (.int (many : Nat)), some (.ref D), some (.ref f), x4, x5])
      ⟨Sb.of (s1.trans s2), hd.same (s1.trans s2), [], abc, e2, s2 _ _ eD, pool_abc, _, _, rfl⟩ (fun i σ H' _ h => trivial) (fun i y σ H3 H4 hi h y => ?_) fun σ H3 h => ?_⟩
    · obtain ⟨sb3, dw3, found, pool, ef, ep, po, x4, x5, rfl⟩ := h
      obtain ⟨rfl, rfl⟩ := y
      have lp := po.pl
      have ndD : d ≠ D := fun z => by
        have := hd.at.1
        rw [z, hD] at this
        exact this rfl
      have ndf : d ≠ f := fun z => by
        have := hd.at.1
        rw [z, nf0] at this
        exact this rfl
      refine ⟨_, rfl, .inl ⟨rfl, _, .inl (.inl ef)⟩, _, rfl, .inl ⟨rfl, _, .inl (.inl ep)⟩, _, rfl, _, rfl, D, _, rfl, .inl (.inl (.inl ep)), d, ca, cells, pool.length, by rw [List.length_map]; rfl, dw3, by omega, fun H5 r sb5 dw5 hr5 => ?_⟩
      have rl : r < pool.length := by omega
      have ep5 := sb5 _ _ ndD.symm ep
      have ef5 := sb5 _ _ ndf.symm ef
      obtain ⟨c, hc⟩ : ∃ c, pool[r]? = some c := ⟨_, List.getElem?_eq_getElem rl⟩
      have lv : r < (pool.map fun c => V.str (one c)).length := by rw [List.length_map]; exact rl
      refine ⟨D, _, (r : Nat), r, _, rfl, rfl, ep5, by omega, by omega, (ixN_seq (ixN_n lv)).1, by rw [List.getElem?_map, hc]; rfl, ?_⟩
      rw [ones_erase]
      have ef6 : (upd H5 D (.lst ((pool.eraseIdx r).map fun c => V.str (one c)))) f = some (.lst (found.map fun c => V.str (one c))) := by rw [upd_ne nDf.symm]; exact ef5
      refine ⟨f, _, _, rfl, rfl, ef6, by rw [List.length_map, po.fl]; omega, fun H7 b7 e7 => ?_⟩
      have sb6 : Sb d H (upd H5 D (.lst ((pool.eraseIdx r).map fun c => V.str (one c)))) := (sb3.trans sb5).more hD sb_upd
      have dw6 : Dw (upd H5 D (.lst ((pool.eraseIdx r).map fun c => V.str (one c)))) d ca cells := hd.sb hD dw5 sb_upd
      refine ⟨sb6.more nf0 b7, hd.sb nf0 dw6 b7, found ++ [c], pool.eraseIdx r, by rw [e7, List.map_append]; rfl, b7 _ _ nDf upd_same, po.take hc, _, _, rfl⟩
    · obtain ⟨sb1, dw1, found, pool, ef, ep, po, x4, x5, rfl⟩ := h
      rw [onesV] at ef
      refine ⟨⟨_, rfl⟩, _, rfl, f, found.map one, rfl, .inl (.inl ef), by rw [List.length_map, po.fl]; omega, fun ys p pm so np => ?_⟩
      obtain ⟨row, pr, rfl⟩ := perm_map_inv _ _ _ pm
      have nd := nodup_perm pr (List.nodup_append.mp po.nd).1
      refine ⟨("" : Str), p, row.map one, rfl, rfl, .inl (.inl (.inl upd_same)), ?_, ?_⟩
      · rw [sum_ones, List.length_map, pr.length_eq, po.fl]
        show many + many * 0 ≤ _
        omega
      · rw [join_ones]
        refine q _ row (sb1.trans (Sb.of (same_upd np))) (dw1.same (same_upd np)) (fun c hc => po.rg c (List.mem_append_left _ (pr.mem_iff.mp hc))) (sorted_ones so nd) (by rw [pr.length_eq, po.fl])

end
end TH
end
section
set_option Elab.async false
set_option linter.all false
set_option maxRecDepth 100000
set_option maxHeartbeats 4000000
namespace TH
open PySem PySem.Spec PyProof.Rows L2
section
variable {P : Program} {w : World} {K : PySem.W.Frag} {mg : Str → Option Value} {base : Heap}
/-! names -/
theorem p__law_names (T : Tx K mg) : Pr P w K mg base CX0 3 ["_law_draw_here", "_law_many"] [] (He.ga K "_law_names")
    (fun vs H Q _ => ∃ (d ca : Addr) (cells : List Int) (many : Nat), vs = [.ref d, .int (many : Nat)] ∧ Dw H d ca cells ∧ 1 ≤ many ∧ many ≤ 2 ∧ ∀ H' ws, Sb d H H' → Dw H' d ca cells → (∀ c ∈ ws, 65 ≤ c ∧ c ≤ 90) → ws.Nodup → ws.length = many → Q (.str (str ws)) H') := by
  refine T.d__law_names.pr scs_law_names (fun vs H Q E h => ?_) (fun cdv A outer s H vs Q E hr h => ?_)
  · obtain ⟨d, ca, cells, many, rfl, _⟩ := h
    rfl
  · obtain ⟨d, ca, cells, many, rfl, hd, m1, m2, q⟩ := h
    refine ⟨_, (pss_cons (ps_setLc (i := 2) (own := [("_law_letter", 5)]) rfl scs_law_names.nd rfl rfl (sw_true rfl rfl rfl (by decide +kernel)) (pi_str pe_str) (blkOk_by (N := ["_law_draw_here", "_law_many", "_law_pool", "_law_found", "_law_turn", "_law_letter"]) (sc := defScope s_law_names) (by decide +kernel)) (fun _ _ _ _ _ => (pg_name (i := 5) scs_law_names.nd rfl (.inl rfl) (.inr rfl))) (fun _ _ _ _ _ => pts_nil) (fun _ _ _ _ _ => (pv 5)))
    (pss_cons (ps_set (i := 3) scs_law_names.nd rfl (.inl rfl) (pe_lst pa_nil))
    (pss_cons (ps_for PassesOwn.never rfl (pi_range1 (by rfl) T.z_range (pa_cons (pv 1) pa_nil)) (pg_name (i := 4) scs_law_names.nd rfl (.inl rfl) (.inl rfl))
      (pss_one (ps_expr (pe_bm PySem.F.plainAttrs_list PySem.F.slot_list_append PySem.F.type_list_append mt_appU (pv 3) (pa_cons (pe_bm PySem.F.plainAttrs_list PySem.F.slot_list_pop PySem.F.type_list_pop mt_popAt (pv 2) (pa_cons (pcall (p__law_pick T) (hr.mono (by decide)) (by rfl) T.g__law_pick pass0 (pa_cons (pv 0) (pa_cons (pe_callB call_len_seq (by rfl) T.z_len PySem.boot_len (pa_cons (pv 2) pa_nil)) pa_nil))) pa_nil)) pa_nil)))))
    (pss_one (ps_ret (pe_join pe_str (pv 3))))))), ?_⟩
    refine ⟨str ABC, congrArg V.str ABC_str, ?_⟩
    refine fun D hD => lc_map (walk_str (z := str ABC)) hD (by decide) (fun H' s' => trivial) (fun i acc _ => acc = (ABC.take i).map fun c => V.str (one c)) (fun _ _ _ _ _ h => h) rfl (fun i y H1 H2 acc k ks hi1 s1 a1 l1 y hk _ => ?_) fun H1 acc s1 eD lD aD => ?_
    · obtain ⟨rfl, c, hc, rfl⟩ := y
      refine ⟨rfl, yes_if ⟨_, rfl, hk _ _ (Same.refl _) ?_⟩⟩
      rw [a1, take_snoc (str_at hc), List.map_append]
      rfl
    rw [List.take_of_length_le (by rw [str_size]; exact Nat.le_refl _)] at aD
    subst aD
    refine ⟨by show 0 ≤ sizeLine; decide, fun f nf => ?_⟩
    have s2 := same_upd (o := .lst []) nf
    have e2 : (upd H1 f (.lst [])) f = some (.lst []) := upd_same
    generalize upd H1 f (.lst []) = H2 at s2 e2 ⊢
    have nDf : D ≠ f := fun z => by rw [← z, eD] at nf; cases nf
    have nf0 : H f = none := s1.back nf
    refine ⟨_, rfl, (many : Nat), rfl, by omega, by omega, for_it (walk_rn (n := many)) (fun i σ H' => Sb d H H' ∧ Dw H' d ca cells ∧ ∃ found pool, H' f = some (.lst (found.map fun c => V.str (one c))) ∧ H' D = some (.lst (pool.map fun c => V.str (one c))) ∧ Pool 65 90 found pool i ∧ ∃ x4 x5, σ = [some (.ref d), some (.int (many : Nat)), some (.ref D), some (.ref f), x4, x5])
      ⟨Sb.of (s1.trans s2), hd.same (s1.trans s2), [], ABC, e2, s2 _ _ eD, pool_ABC, _, _, rfl⟩ (fun i σ H' _ h => trivial) (fun i y σ H3 H4 hi h y => ?_) fun σ H3 h => ?_⟩
    · obtain ⟨sb3, dw3, found, pool, ef, ep, po, x4, x5, rfl⟩ := h
      obtain ⟨rfl, rfl⟩ := y
      have lp := po.pl
      have ndD : d ≠ D := fun z => by
        have := hd.at.1
        rw [z, hD] at this
        exact this rfl
      have ndf : d ≠ f := fun z => by
        have := hd.at.1
        rw [z, nf0] at this
        exact this rfl
      refine ⟨_, rfl, .inl ⟨rfl, _, .inl (.inl ef)⟩, _, rfl, .inl ⟨rfl, _, .inl (.inl ep)⟩, _, rfl, _, rfl, D, _, rfl, .inl (.inl (.inl ep)), d, ca, cells, pool.length, by rw [List.length_map]; rfl, dw3, by omega, fun H5 r sb5 dw5 hr5 => ?_⟩
      have rl : r < pool.length := by omega
      have ep5 := sb5 _ _ ndD.symm ep
      have ef5 := sb5 _ _ ndf.symm ef
      obtain ⟨c, hc⟩ : ∃ c, pool[r]? = some c := ⟨_, List.getElem?_eq_getElem rl⟩
      have lv : r < (pool.map fun c => V.str (one c)).length := by rw [List.length_map]; exact rl
      refine ⟨D, _, (r : Nat), r, _, rfl, rfl, ep5, by omega, by omega, (ixN_seq (ixN_n lv)).1, by rw [List.getElem?_map, hc]; rfl, ?_⟩
      rw [ones_erase]
      have ef6 : (upd H5 D (.lst ((pool.eraseIdx r).map fun c => V.str (one c)))) f = some (.lst (found.map fun c => V.str (one c))) := by rw [upd_ne nDf.symm]; exact ef5
      refine ⟨f, _, _, rfl, rfl, ef6, by rw [List.length_map, po.fl]; omega, fun H7 b7 e7 => ?_⟩
      have sb6 : Sb d H (upd H5 D (.lst ((pool.eraseIdx r).map fun c => V.str (one c)))) := (sb3.trans sb5).more hD sb_upd
      have dw6 : Dw (upd H5 D (.lst ((pool.eraseIdx r).map fun c => V.str (one c)))) d ca cells := hd.sb hD dw5 sb_upd
      refine ⟨sb6.more nf0 b7, hd.sb nf0 dw6 b7, found ++ [c], pool.eraseIdx r, by rw [e7, List.map_append]; rfl, b7 _ _ nDf upd_same, po.take hc, _, _, rfl⟩
    · obtain ⟨sb1, dw1, found, pool, ef, ep, po, x4, x5, rfl⟩ := h
      rw [onesV] at ef
      refine ⟨⟨_, rfl⟩, _, rfl, ("" : Str), f, found.map one, rfl, rfl, .inl (.inl (.inl ef)), ?_, ?_⟩
      · rw [sum_ones, List.length_map, po.fl]
        show many + many * 0 ≤ _
        omega
      · rw [join_ones]
        exact q _ found sb1 dw1 (fun c hc => po.rg c (List.mem_append_left _ hc)) (List.nodup_append.mp po.nd).1 po.fl

end
end TH
end
section
set_option Elab.async false
set_option linter.all false
set_option maxRecDepth 100000
set_option maxHeartbeats 4000000
namespace TH
open PySem PySem.Spec PyProof.Rows L2
section
variable {P : Program} {w : World} {K : PySem.W.Frag} {mg : Str → Option Value} {base : Heap}
/-! drills drawn -/
structure Bd (many nw : Nat) (rs : List Row) (i : Nat) : Prop where
  len : rs.length = i
  row : ∀ r ∈ rs, RowOk many nw r
  rest : ∀ r, rs[0]? = some r → r.stride = 0
  still : ∀ (i : Nat) (r : Row), rs[i]? = some r → r.nexts[0]? = some i
theorem Bd.snoc {many nw i : Nat} {rs : List Row} {r : Row} (h : Bd many nw rs i) (o : RowOk many nw r) (z : i = 0 → r.stride = 0) (s : r.nexts[0]? = some i) : Bd many nw (rs ++ [r]) (i + 1) := by
  have hl := h.len
  refine ⟨by simp [hl], fun q hq => ?_, fun q hq => ?_, fun j q hq => ?_⟩
  · rcases List.mem_append.mp hq with hq | hq
    · exact h.row q hq
    · cases List.mem_singleton.mp hq
      exact o
  · rcases Nat.eq_zero_or_pos i with h0 | h0
    · have e : rs = [] := List.eq_nil_of_length_eq_zero (by omega)
      subst e
      have : r = q := by simpa using hq
      exact this ▸ z h0
    · exact h.rest q (by rwa [List.getElem?_append_left (by omega)] at hq)
  · by_cases hj : j < rs.length
    · exact h.still j q (by rwa [List.getElem?_append_left hj] at hq)
    · have hj2 := (List.getElem?_eq_some_iff.mp hq).1
      have e : j = rs.length := by simp at hj2; omega
      subst e
      have : r = q := by simpa using hq
      rw [← this, hl]
      exact s
theorem Bd.ok {nw : Nat} {rs : List Row} {many : Nat} (h : Bd many nw rs many) (h1 : 1 ≤ many) (h2 : many ≤ 6) : RowsOk nw rs := by
  have hl := h.len
  exact ⟨by omega, by rw [hl]; exact h.row, h.rest, h.still⟩
def stL : List Int := [1, 2, 0, 1, 3, -1, 1, 2, -2, 1]
def boL : List Int := [1, 2, 1, 3, 2, 4, 12]
theorem stL_at {r : Nat} (h : r < 10 ∨ r = 0) : ∃ x : Int, (stL.map V.int)[r]? = some (.int x) ∧ -3 ≤ x ∧ x ≤ 3 := by
  have h' : r < stL.length := by show r < 10; omega
  refine ⟨stL[r], by rw [List.getElem?_map, List.getElem?_eq_getElem h']; rfl, ?_⟩
  have : ∀ x ∈ stL, -3 ≤ x ∧ x ≤ 3 := by decide
  exact this _ (List.getElem_mem h')
theorem boL_at {r : Nat} (h : r < 7 ∨ r = 0) : ∃ x : Int, (boL.map V.int)[r]? = some (.int x) ∧ 1 ≤ x ∧ x ≤ 12 := by
  have h' : r < boL.length := by show r < 7; omega
  refine ⟨boL[r], by rw [List.getElem?_map, List.getElem?_eq_getElem h']; rfl, ?_⟩
  have : ∀ x ∈ boL, 1 ≤ x ∧ x ≤ 12 := by decide
  exact this _ (List.getElem_mem h')
/-- next standings being written down -/
structure Nx (many i : Nat) (ns : List Nat) (l : Nat) : Prop where
  len : ns.length = l
  lt : ∀ x ∈ ns, x < many
  hd : ns[0]? = some i
theorem Nx.snoc {many i l r : Nat} {ns : List Nat} (h : Nx many i ns l) (hr : r < many) : Nx many i (ns ++ [r]) (l + 1) := by
  have hl := h.len
  have hp := (List.getElem?_eq_some_iff.mp h.hd).1
  refine ⟨by simp [hl], fun x hx => ?_, by rw [List.getElem?_append_left hp]; exact h.hd⟩
  rcases List.mem_append.mp hx with hx | hx
  · exact h.lt x hx
  · cases List.mem_singleton.mp hx
    exact hr
theorem Nx.set {many i l r : Nat} {ns : List Nat} (h : Nx many i ns l) (hr : r < many) : Nx many i (ns.set 1 r) l := by
  refine ⟨by simp [h.len], fun x hx => ?_, by rw [List.getElem?_set_ne (by decide)]; exact h.hd⟩
  rcases List.mem_or_eq_of_mem_set hx with hx | hx
  · exact h.lt x hx
  · rw [hx]
    exact hr
theorem natsV_set (ns : List Nat) (i r : Nat) : (natsV ns).set i (.int (r : Nat)) = natsV (ns.set i r) := by
  unfold natsV
  rw [List.map_set]
theorem Dw.ne2 {H : Hp} {d ca x : Addr} {cells : List Int} (h : Dw H d ca cells) (n : H x = none) : x ≠ d := fun z => h.at.1 (z ▸ n)
theorem p__law_drill (T : Tx K mg) : Pr P w K mg base CX0 3 ["_law_draw_here", "_law_words_here", "_law_many", "_law_steady"] [] (He.ga K "_law_drill")
    (fun vs H Q _ => ∃ (d ca : Addr) (cells : List Int) (many : Nat) (ws : List Nat), vs = [.ref d, .str (str ws), .int (many : Nat), .bl true] ∧ Dw H d ca cells ∧ 2 ≤ many ∧ many ≤ 3 ∧ 1 ≤ ws.length ∧ ws.length ≤ 2 ∧ ∀ H' v rs, Sb d H H' → Dw H' d ca cells → RowsOk ws.length rs → rs.length = many → Tp K H' v (encRows rs) → Q v H') := by
  refine T.d__law_drill.pr scs_law_drill (fun vs H Q E h => ?_) (fun cdv A outer s H vs Q E hr h => ?_)
  · obtain ⟨d, ca, cells, many, ws, rfl, _⟩ := h
    rfl
  · obtain ⟨d, ca, cells, many, ws, rfl, hd, m1, m2, w1, w2, q⟩ := h
    refine ⟨_, (pss_cons (ps_set (i := 4) scs_law_drill.nd rfl (.inl rfl) (pe_lst pa_nil))
    (pss_cons (ps_for PassesOwn.never rfl (pi_range1 (by rfl) T.z_range (pa_cons (pv 2) pa_nil)) (pg_name (i := 5) scs_law_drill.nd rfl (.inl rfl) (.inl rfl))
      (pss_cons (ps_set (i := 6) scs_law_drill.nd rfl (.inl rfl) (pe_ix ix_list (pe_lst (pa_cons pe_int (pa_cons pe_int (pa_cons pe_int (pa_cons pe_int (pa_cons pe_int (pa_cons (pe_un un_neg pe_int) (pa_cons pe_int (pa_cons pe_int (pa_cons (pe_un un_neg pe_int) (pa_cons pe_int pa_nil))))))))))) (pcall (p__law_pick T) (hr.mono (by decide)) (by rfl) T.g__law_pick pass0 (pa_cons (pv 0) (pa_cons pe_int pa_nil))) (fun _ _ => rfl)))
      (pss_cons (ps_set (i := 7) scs_law_drill.nd rfl (.inl rfl) (pe_ix ix_list (pe_lst (pa_cons pe_int (pa_cons pe_int (pa_cons pe_int (pa_cons pe_int (pa_cons pe_int (pa_cons pe_int (pa_cons pe_int pa_nil)))))))) (pcall (p__law_pick T) (hr.mono (by decide)) (by rfl) T.g__law_pick pass0 (pa_cons (pv 0) (pa_cons pe_int pa_nil))) (fun _ _ => rfl)))
      (pss_cons (ps_set (i := 8) scs_law_drill.nd rfl (.inl rfl) (pv 5))
      (pss_cons (ps_if (pw_and (pt_not (pt_val (pv 3))) (pw_and (pt_cmpR op_gt (pv 5) pe_int (nomark _)) (pw_and1 (pt_cmpR op_eq (pcall (p__law_pick T) (hr.mono (by decide)) (by rfl) T.g__law_pick pass0 (pa_cons (pv 0) (pa_cons pe_int pa_nil))) pe_int (nomark _))))).pt
        (pss_one (ps_set (i := 8) scs_law_drill.nd rfl (.inl rfl) (pcall (p__law_pick T) (hr.mono (by decide)) (by rfl) T.g__law_pick pass0 (pa_cons (pv 0) (pa_cons (pv 2) pa_nil)))))
        pss_nil)
      (pss_cons (ps_set (i := 9) scs_law_drill.nd rfl (.inl rfl) (pe_lst (pa_cons (pv 8) pa_nil)))
      (pss_cons (ps_for PassesOwn.never rfl (pi_str (pv 1)) (pg_name (i := 10) scs_law_drill.nd rfl (.inl rfl) (.inl rfl))
        (pss_one (ps_expr (pe_bm PySem.F.plainAttrs_list PySem.F.slot_list_append PySem.F.type_list_append mt_appU (pv 9) (pa_cons (pcall (p__law_pick T) (hr.mono (by decide)) (by rfl) T.g__law_pick pass0 (pa_cons (pv 0) (pa_cons (pv 2) pa_nil))) pa_nil)))))
      (pss_cons (ps_if (pt_cmpR op_eq (pv 5) pe_int (nomark _))
        (pss_cons (ps_set (i := 6) scs_law_drill.nd rfl (.inl rfl) pe_int)
        (pss_one (ps_if (pt_cmpR op_gt (pv 2) pe_int (nomark _))
          (pss_one (ps_asg (pe_op op_add pe_int (pcall (p__law_pick T) (hr.mono (by decide)) (by rfl) T.g__law_pick pass0 (pa_cons (pv 0) (pa_cons (pe_op op_sub (pv 2) pe_int) pa_nil)))) (pg_sub (pv 9) pe_int set_list)))
          pss_nil)))
        pss_nil)
      (pss_one (ps_expr (pe_bm PySem.F.plainAttrs_list PySem.F.slot_list_append PySem.F.type_list_append mt_appU (pv 4) (pa_cons (pe_tup (pa_cons (pv 6) (pa_cons (pv 7) (pa_cons (pe_callTy call_tupU (by rfl) T.z_tuple (by decide +kernel) (pa_cons (pv 9) pa_nil)) pa_nil)))) pa_nil))))))))))))
    (pss_one (ps_ret (pe_callTy call_tupU (by rfl) T.z_tuple (by decide +kernel) (pa_cons (pv 4) pa_nil)))))), ?_⟩
    refine ⟨by show 0 ≤ sizeLine; decide, fun R nR => ?_⟩
    have s1 := same_upd (o := .lst []) nR
    have e1 : (upd H R (.lst [])) R = some (.lst []) := upd_same
    generalize upd H R (.lst []) = H1 at s1 e1 ⊢
    have nRd : R ≠ d := hd.ne2 nR
    refine ⟨_, rfl, (many : Nat), rfl, by omega, by omega, for_it (walk_rn (n := many)) (fun i σ H' => Sb d H H' ∧ Dw H' d ca cells ∧ ∃ rs vs, H' R = some (.lst vs) ∧ TpAll K H' vs (rs.map encRow) ∧ Bd many ws.length rs i ∧ ∃ x5 x6 x7 x8 x9 xx, σ = [some (.ref d), some (.str (str ws)), some (.int (many : Nat)), some (.bl true), some (.ref R), x5, x6, x7, x8, x9, xx])
      ⟨Sb.of s1, hd.same s1, [], [], e1, .nil, ⟨rfl, (fun _ h => nomatch h), (fun _ h => by simp at h), (fun _ _ h => by simp at h)⟩, _, _, _, _, _, _, rfl⟩ (fun i σ H' _ h => trivial) (fun i y σ H3' H3 hi h y => ?_) fun σ H3 h => ?_⟩
    · obtain ⟨sb3, dw3, rs, vs, eR, tR, bd, x5, x6, x7, x8, x9, xx, rfl⟩ := h
      obtain ⟨rfl, rfl⟩ := y
      refine ⟨1, rfl, 2, rfl, by show 10 ≤ sizeLine; decide, fun L nL => ?_⟩
      have s5 := same_upd (o := .lst [V.int 1, V.int 2, V.int 0, V.int 1, V.int 3, (fun i => V.int (-i)) 1, V.int 1, V.int 2, (fun i => V.int (-i)) 2, V.int 1]) nL
      have e5 : (upd H3 L (.lst [V.int 1, V.int 2, V.int 0, V.int 1, V.int 3, (fun i => V.int (-i)) 1, V.int 1, V.int 2, (fun i => V.int (-i)) 2, V.int 1])) L = some (.lst [V.int 1, V.int 2, V.int 0, V.int 1, V.int 3, (fun i => V.int (-i)) 1, V.int 1, V.int 2, (fun i => V.int (-i)) 2, V.int 1]) := upd_same
      generalize upd H3 L (.lst [V.int 1, V.int 2, V.int 0, V.int 1, V.int 3, (fun i => V.int (-i)) 1, V.int 1, V.int 2, (fun i => V.int (-i)) 2, V.int 1]) = H5 at s5 e5 ⊢
      replace e5 : H5 L = some (.lst (stL.map V.int)) := e5
      refine ⟨_, rfl, d, ca, cells, 10, rfl, dw3.same s5, by decide, fun H6 r6 sb6 dw6 h6 => ?_⟩
      obtain ⟨sx, gx, x1, x2⟩ := stL_at h6
      have nLd : L ≠ d := dw3.ne2 nL
      refine ⟨L, _, (r6 : Nat), _, rfl, rfl, .inl (.inl (sb6 _ _ nLd e5)), atI_nat gx, ?_⟩
      have sb6' : Sb d H3 H6 := (Sb.of s5).trans sb6
      refine ⟨by show 7 ≤ sizeLine; decide, fun M nM => ?_⟩
      have s7 := same_upd (o := .lst [V.int 1, V.int 2, V.int 1, V.int 3, V.int 2, V.int 4, V.int 12]) nM
      have e7 : (upd H6 M (.lst [V.int 1, V.int 2, V.int 1, V.int 3, V.int 2, V.int 4, V.int 12])) M = some (.lst [V.int 1, V.int 2, V.int 1, V.int 3, V.int 2, V.int 4, V.int 12]) := upd_same
      generalize upd H6 M (.lst [V.int 1, V.int 2, V.int 1, V.int 3, V.int 2, V.int 4, V.int 12]) = H7 at s7 e7 ⊢
      replace e7 : H7 M = some (.lst (boL.map V.int)) := e7
      refine ⟨_, rfl, d, ca, cells, 7, rfl, dw6.same s7, by decide, fun H8 r8 sb8 dw8 h8 => ?_⟩
      obtain ⟨bx, gb, b1, b2⟩ := boL_at h8
      have nMd : M ≠ d := dw6.ne2 nM
      refine ⟨M, _, (r8 : Nat), _, rfl, rfl, .inl (.inl (sb8 _ _ nMd e7)), atI_nat gb, ?_⟩
      have sb8' : Sb d H3 H8 := (sb6'.trans (Sb.of s7)).trans sb8
      refine ⟨_, rfl, ?_⟩
      refine ⟨_, rfl, true, rfl, iteF ?_⟩
      refine ⟨_, rfl, by show 1 ≤ sizeLine; decide, fun N nN => ?_⟩
      have s9 := same_upd (o := .lst [V.int (i : Nat)]) nN
      have e9 : (upd H8 N (.lst [V.int (i : Nat)])) N = some (.lst [V.int (i : Nat)]) := upd_same
      generalize upd H8 N (.lst [V.int (i : Nat)]) = H9 at s9 e9 ⊢
      replace e9 : H9 N = some (.lst (natsV [i])) := e9
      have nNd : N ≠ d := dw8.ne2 nN
      have sb9 : Sb d H3 H9 := sb8'.trans (Sb.of s9)
      have nN3 : H3 N = none := sb8'.back dw8.at.1 nN
      refine ⟨_, rfl, _, rfl, for_it (walk_str (z := str ws)) (fun j σ H' => Sb d H3 H' ∧ Dw H' d ca cells ∧ ∃ ns, H' N = some (.lst (natsV ns)) ∧ Nx many i ns (j + 1) ∧ ∃ xx, σ = [some (.ref d), some (.str (str ws)), some (.int (many : Nat)), some (.bl true), some (.ref R), some (.int (i : Nat)), some (.int sx), some (.int bx), some (.int (i : Nat)), some (.ref N), xx])
        ⟨sb9, dw8.same s9, [i], e9, ⟨rfl, (fun x hx => by cases List.mem_singleton.mp hx; exact hi), rfl⟩, _, rfl⟩ (fun i σ H' _ h => trivial) (fun j y σ HA HB hj h y => ?_) fun σ HA h => ?_⟩
      · obtain ⟨sbA, dwA, ns, eN, nx, xx, rfl⟩ := h
        obtain ⟨rfl, c, hc, rfl⟩ := y
        refine ⟨_, rfl, .inl ⟨rfl, _, .inl (.inl eN)⟩, _, rfl, _, rfl, d, ca, cells, many, rfl, dwA, by omega, fun HC r sbC dwC hr => ?_⟩
        refine ⟨N, _, _, rfl, rfl, sbC _ _ nNd eN, by rw [natsV, List.length_map, nx.len]; rw [str_size] at hj; omega, fun HD bD eD => ?_⟩
        refine ⟨((sbA.trans sbC).more nN3 bD), dw3.sb nN3 dwC bD, ns ++ [r], by rw [eD]; simp [natsV], nx.snoc (by omega), _, rfl⟩
      · obtain ⟨sbA, dwA, ns, eN, nx, xx, rfl⟩ := h
        rw [str_size] at nx
        have fin : ∀ HB (st : Int) ns, Sb d H3 HB → Dw HB d ca cells → HB N = some (.lst (natsV ns)) → Nx many i ns (ws.length + 1) → -3 ≤ st → st ≤ 3 → (i = 0 → st = 0) → True := fun _ _ _ _ _ _ _ _ _ _ => trivial
        refine ⟨_, rfl, rfl, _, rfl, iteD (fun z => ?_) (fun z => ?_)⟩
        · skip
          refine ⟨_, rfl, (many : Nat), 1, rfl, rfl, _, rfl, iteD (fun _ => ?_) (fun z => absurd z (by omega))⟩
          refine ⟨_, rfl, _, rfl, (many : Nat), 1, rfl, rfl, d, ca, cells, many - 1, by show [V.ref d, .int (((many : Nat) : Int) - 1)] = _; rw [show ((many : Nat) : Int) - 1 = ((many - 1 : Nat) : Int) by omega], dwA, by omega, fun HB r sbB dwB hrB => ?_⟩
          have i1 : ixN (natsV ns).length 1 = some 1 := by
            have := ixN_n (show 1 < (natsV ns).length by rw [show (natsV ns).length = ns.length from List.length_map _, nx.len]; omega)
            exact this
          refine ⟨1, (r : Nat), rfl, rfl, _, rfl, N, _, 1, 1, rfl, rfl, sbB _ _ nNd eN, i1, ?_⟩
          generalize hF : upd HB N (.lst ((natsV ns).set 1 ((fun i j => V.int (i + j)) 1 (r : Nat)))) = HF
          have sbN : Sb N HB HF := hF ▸ sb_upd
          have sbF := (sbA.trans sbB).more nN3 sbN
          have dwF := dw3.sb nN3 dwB sbN
          have eNF : HF N = some (.lst (natsV (ns.set 1 (1 + r)))) := by
            rw [← hF, ← natsV_set, show ((1 + r : Nat) : Int) = 1 + (r : Nat) by omega]
            exact upd_same
          have nxF := nx.set (r := 1 + r) (by omega)
          generalize ns.set 1 (1 + r) = nsF at eNF nxF
          have h0 : (i = 0 → (0 : Int) = 0) := fun _ => rfl
          have hs : -3 ≤ (0 : Int) ∧ (0 : Int) ≤ 3 := by decide
          have eRF := sbF _ _ nRd eR
          refine ⟨_, rfl, .inl ⟨rfl, _, .inl (.inl eRF)⟩, _, rfl, _, rfl, _, rfl, N, _, rfl, .inl (.inl (.inl eNF)), fun t HG sG tG => ?_⟩
          refine ⟨by show 3 ≤ sizeLine; decide, fun p np => ?_⟩
          have sH := same_upd (o := .tup [.int 0, .int bx, .ref t]) np
          have eH : (upd HG p (.tup [.int 0, .int bx, .ref t])) p = some (.tup [.int 0, .int bx, .ref t]) := upd_same
          generalize upd HG p (.tup [.int 0, .int bx, .ref t]) = HH at sH eH ⊢
          refine ⟨R, _, _, rfl, rfl, (sG.trans sH) _ _ eRF, by rw [tR.length, List.length_map, bd.len]; omega, fun HI bI eI => ?_⟩
          have sbH : Sb d H3 HH := sbF.trans (Sb.of (sG.trans sH))
          have tR' := tR.kp ((dw3.kp sbH).trans (bI.kp ((sG.trans sH) _ _ eRF)))
          have kI := bI.kp ((sG.trans sH) _ _ eRF)
          refine ⟨sb3.trans sbH |>.more nR bI, hd.sb nR (dwF.same (sG.trans sH)) bI, rs ++ [⟨_, bx, nsF⟩], _, eI, by rw [List.map_append]; exact tR'.snoc (.tup (kI.tup (.inl (.inl eH))) (by show 3 ≤ 2000; decide) (.cons (.int _) (.cons (.int _) (.one (.tup (kI.tup (sH.tup tG)) (by rw [natsV, List.length_map, nxF.len]; omega) (nats_tp nsF)))))), bd.snoc ⟨hs, ⟨b1, b2⟩, nxF.len, nxF.lt⟩ h0 nxF.hd, _, _, _, _, _, _, rfl⟩
        · skip
          have sbF := sbA
          have dwF := dwA
          have eNF := eN
          have nxF := nx
          obtain ⟨nsF, hnsF⟩ : ∃ nsF, nsF = ns := ⟨_, rfl⟩
          rw [← hnsF] at eNF nxF
          have h0 : (i = 0 → sx = 0) := fun h => absurd (by rw [h]; rfl) z
          have hs : -3 ≤ sx ∧ sx ≤ 3 := ⟨x1, x2⟩
          have eRF := sbF _ _ nRd eR
          refine ⟨_, rfl, .inl ⟨rfl, _, .inl (.inl eRF)⟩, _, rfl, _, rfl, _, rfl, N, _, rfl, .inl (.inl (.inl eNF)), fun t HG sG tG => ?_⟩
          refine ⟨by show 3 ≤ sizeLine; decide, fun p np => ?_⟩
          have sH := same_upd (o := .tup [.int sx, .int bx, .ref t]) np
          have eH : (upd HG p (.tup [.int sx, .int bx, .ref t])) p = some (.tup [.int sx, .int bx, .ref t]) := upd_same
          generalize upd HG p (.tup [.int sx, .int bx, .ref t]) = HH at sH eH ⊢
          refine ⟨R, _, _, rfl, rfl, (sG.trans sH) _ _ eRF, by rw [tR.length, List.length_map, bd.len]; omega, fun HI bI eI => ?_⟩
          have sbH : Sb d H3 HH := sbF.trans (Sb.of (sG.trans sH))
          have tR' := tR.kp ((dw3.kp sbH).trans (bI.kp ((sG.trans sH) _ _ eRF)))
          have kI := bI.kp ((sG.trans sH) _ _ eRF)
          refine ⟨sb3.trans sbH |>.more nR bI, hd.sb nR (dwF.same (sG.trans sH)) bI, rs ++ [⟨_, bx, nsF⟩], _, eI, by rw [List.map_append]; exact tR'.snoc (.tup (kI.tup (.inl (.inl eH))) (by show 3 ≤ 2000; decide) (.cons (.int _) (.cons (.int _) (.one (.tup (kI.tup (sH.tup tG)) (by rw [natsV, List.length_map, nxF.len]; omega) (nats_tp nsF)))))), bd.snoc ⟨hs, ⟨b1, b2⟩, nxF.len, nxF.lt⟩ h0 nxF.hd, _, _, _, _, _, _, rfl⟩
    · obtain ⟨sb3, dw3, rs, vs, eR, tR, bd, x5, x6, x7, x8, x9, xx, rfl⟩ := h
      refine ⟨_, rfl, R, vs, rfl, .inl (.inl (.inl eR)), fun t H4 s4 ht => ?_⟩
      refine q _ _ rs (sb3.trans (Sb.of s4)) (dw3.same s4) (bd.ok (by omega) (by omega)) bd.len (.tup ht (by rw [tR.length, List.length_map, bd.len]; omega) (tR.same s4))

end
end TH
end
section
set_option Elab.async false
set_option linter.all false
set_option maxRecDepth 100000
set_option maxHeartbeats 4000000
namespace TH
open PySem PySem.Spec PyProof.Rows L2
section
variable {P : Program} {w : World} {K : PySem.W.Frag} {mg : Str → Option Value} {base : Heap}
/-! even drills, worlds -/
def clampS (s : Int) : Int := if (if s > 0 then s else 0) < 1 then (if s > 0 then s else 0) else 1
theorem clampS_rg (s : Int) : 0 ≤ clampS s ∧ clampS s ≤ 1 := by
  unfold clampS
  split <;> split <;> omega
def evenR (b : Int) (r : Row) : Row := ⟨clampS r.stride, b, r.nexts⟩
theorem even_ok {nw : Nat} {rs : List Row} {b : Int} (h : RowsOk nw rs) (h1 : 1 ≤ b) (h2 : b ≤ 12) : RowsOk nw (rs.map (evenR b)) := by
  refine ⟨by rw [List.length_map]; exact h.len, fun r hr => ?_, fun r hr => ?_, fun i r hr => ?_⟩
  · obtain ⟨q, hq, rfl⟩ := List.mem_map.mp hr
    have o := h.row q hq
    rw [List.length_map]
    have := clampS_rg q.stride
    exact ⟨by show -3 ≤ clampS _ ∧ clampS _ ≤ 3; omega, ⟨h1, h2⟩, o.l, o.n⟩
  · obtain ⟨q, hq, rfl⟩ := map_at hr
    show clampS q.stride = 0
    rw [h.rest q hq]
    rfl
  · obtain ⟨q, hq, rfl⟩ := map_at hr
    exact h.still i q hq
theorem p__law_even_drill (T : Tx K mg) : Pr P w K mg base CX0 4 ["_law_draw_here", "_law_words_here", "_law_many", "_law_steady"] [] (He.ga K "_law_even_drill")
    (fun vs H Q _ => ∃ (d ca : Addr) (cells : List Int) (many : Nat) (ws : List Nat), vs = [.ref d, .str (str ws), .int (many : Nat), .bl true] ∧ Dw H d ca cells ∧ 2 ≤ many ∧ many ≤ 3 ∧ 1 ≤ ws.length ∧ ws.length ≤ 2 ∧ ∀ H' v rs, Sb d H H' → Dw H' d ca cells → RowsOk ws.length rs → rs.length = many → Tp K H' v (encRows rs) → Q v H') := by
  refine T.d__law_even_drill.pr scs_law_even_drill (fun vs H Q E h => ?_) (fun cdv A outer s H vs Q E hr h => ?_)
  · obtain ⟨d, ca, cells, many, ws, rfl, _⟩ := h
    rfl
  · obtain ⟨d, ca, cells, many, ws, rfl, hd, m1, m2, w1, w2, q⟩ := h
    refine ⟨_, (pss_cons (ps_set (i := 4) scs_law_even_drill.nd rfl (.inl rfl) (pe_op op_add pe_int (pcall (p__law_pick T) (hr.mono (by decide)) (by rfl) T.g__law_pick pass0 (pa_cons (pv 0) (pa_cons pe_int pa_nil)))))
    (pss_cons (ps_set (i := 5) scs_law_even_drill.nd rfl (.inl rfl) (pe_lst pa_nil))
    (pss_cons (ps_for PassesOwn.never rfl (pi_tup (pcall (p__law_drill T) (hr.mono (by decide)) (by rfl) T.g__law_drill pass0 (pa_cons (pv 0) (pa_cons (pv 1) (pa_cons (pv 2) (pa_cons (pv 3) pa_nil)))))) (pg_tup rfl (pgs_cons (pg_name (i := 6) scs_law_even_drill.nd rfl (.inl rfl) (.inl rfl)) (pgs_cons (pg_name (i := 7) scs_law_even_drill.nd rfl (.inl rfl) (.inl rfl)) (pgs_cons (pg_name (i := 8) scs_law_even_drill.nd rfl (.inl rfl) (.inl rfl)) pgs_nil))))
      (pss_one (ps_expr (pe_bm PySem.F.plainAttrs_list PySem.F.slot_list_append PySem.F.type_list_append mt_appU (pv 5) (pa_cons (pe_tup (pa_cons (pe_callB (call_min2 rfl) (by rfl) T.z_min (by decide +kernel) (pa_cons pe_int (pa_cons (pe_callB (call_max2 rfl) (by rfl) T.z_max (by decide +kernel) (pa_cons pe_int (pa_cons (pv 6) pa_nil))) pa_nil))) (pa_cons (pv 4) (pa_cons (pv 8) pa_nil)))) pa_nil)))))
    (pss_one (ps_ret (pe_callTy call_tupU (by rfl) T.z_tuple (by decide +kernel) (pa_cons (pv 5) pa_nil))))))), ?_⟩
    refine ⟨_, rfl, d, ca, cells, 3, rfl, hd, by decide, fun H1 b sb1 dw1 hb => ⟨1, (b : Nat), rfl, rfl, ?_⟩⟩
    have b1 : (1 : Int) ≤ 1 + (b : Nat) := by omega
    have b2 : (1 : Int) + (b : Nat) ≤ 12 := by omega
    show gName 4 (.int (1 + (b : Nat))) _ _ _
    generalize (1 : Int) + (b : Nat) = bo at b1 b2
    refine ⟨by show 0 ≤ sizeLine; decide, fun R nR => ?_⟩
    have s2 := same_upd (o := .lst []) nR
    have e2 : (upd H1 R (.lst [])) R = some (.lst []) := upd_same
    generalize upd H1 R (.lst []) = H2 at s2 e2 ⊢
    refine ⟨_, rfl, _, rfl, _, rfl, _, rfl, d, ca, cells, many, ws, rfl, dw1.same s2, m1, m2, w1, w2, fun H3 v rs sb3 dw3 ok lr hv => ?_⟩
    have nRd : R ≠ d := dw1.ne2 nR
    have eR3 := sb3 _ _ nRd e2
    obtain ⟨ra, xs, rfl, hra, lx, tx⟩ := rows_inv hv
    refine ⟨ra, rfl, ⟨xs, hra⟩, for_it (walk_tup (xs := xs)) (fun i σ H' => Sb R H3 H' ∧ (∃ vs, H' R = some (.lst vs) ∧ TpAll K H' vs (((rs.take i).map (evenR bo)).map encRow)) ∧ ∃ x6 x7 x8, σ = [some (.ref d), some (.str (str ws)), some (.int (many : Nat)), some (.bl true), some (.int bo), some (.ref R), x6, x7, x8])
      ⟨Sb.refl _ _, ⟨[], eR3, .nil⟩, _, _, _, rfl⟩ (fun i σ H' _ h => (h.1.kp eR3).tup hra) (fun i y σ H4' H4 hi h y => ?_) fun σ H4 h => ?_⟩
    · obtain ⟨sb4, ⟨vs, eR, tR⟩, x6, x7, x8, rfl⟩ := h
      obtain ⟨rfl, g⟩ := y
      obtain ⟨r, gr, tr⟩ := rows_at tx g
      obtain ⟨a, c, rfl, ha, hc, lc⟩ := rowk_inv (tr.kp (sb4.kp eR3))
      refine ⟨a, _, rfl, ha, rfl, _, _, rfl, _, _, rfl, _, _, rfl, rfl, ?_⟩
      refine ⟨_, rfl, .inl ⟨rfl, _, .inl (.inl eR)⟩, _, rfl, 0, r.stride, rfl, 1, _, rfl, _, rfl, _, rfl, by show 3 ≤ sizeLine; decide, fun p np => ?_⟩
      have s5 := same_upd (o := .tup [.int (if (if r.stride > 0 then r.stride else 0) < 1 then if r.stride > 0 then r.stride else 0 else 1), .int bo, .ref c]) np
      have e5 : (upd H4 p (.tup [.int (if (if r.stride > 0 then r.stride else 0) < 1 then if r.stride > 0 then r.stride else 0 else 1), .int bo, .ref c])) p = some (.tup [.int (if (if r.stride > 0 then r.stride else 0) < 1 then if r.stride > 0 then r.stride else 0 else 1), .int bo, .ref c]) := upd_same
      generalize upd H4 p (.tup [.int (if (if r.stride > 0 then r.stride else 0) < 1 then if r.stride > 0 then r.stride else 0 else 1), .int bo, .ref c]) = H5 at s5 e5 ⊢
      replace e5 : H5 p = some (.tup [.int (clampS r.stride), .int bo, .ref c]) := e5
      have lv : vs.length ≤ 2000 := by
        have := ok.len
        rw [tR.length, List.length_map, List.length_map, List.length_take]
        omega
      refine ⟨R, _, _, rfl, rfl, s5 _ _ eR, lv, fun H6 b6 e6 => ?_⟩
      have k6 := b6.kp (s5 _ _ eR)
      have k46 := (Kp.of s5).trans k6
      refine ⟨(sb4.trans (Sb.of s5)).trans b6, ⟨_, e6, ?_⟩, _, _, _, rfl⟩
      rw [take_snoc gr, List.map_append, List.map_append]
      exact (tR.kp k46).snoc (.tup (k6.tup (.inl (.inl e5))) (by show 3 ≤ 2000; decide) (.cons (.int _) (.cons (.int _) (.one (.tup (k46.tup hc) lc (nats_tp _))))))
    · obtain ⟨sb4, ⟨vs, eR, tR⟩, x6, x7, x8, rfl⟩ := h
      rw [lx, List.take_length] at tR
      refine ⟨_, rfl, R, vs, rfl, .inl (.inl (.inl eR)), fun t H5 s5 ht => ?_⟩
      have nR1 : H R = none := sb1.back dw1.at.1 nR
      have sbA : Sb d H H4 := (((sb1.trans (Sb.of s2)).trans sb3).more nR1 sb4)
      have ll := ok.len
      refine q _ _ (rs.map (evenR bo)) (sbA.trans (Sb.of s5)) (((hd.sb nR1 dw3 sb4)).same s5) (even_ok ok b1 b2) (by rw [List.length_map, lr]) (.tup ht (by rw [tR.length, List.length_map, List.length_map]; omega) (tR.same s5))

end
end TH
end
section
set_option Elab.async false
set_option linter.all false
set_option maxRecDepth 100000
set_option maxHeartbeats 4000000
namespace TH
open PySem PySem.Spec PyProof.Rows L2
section
variable {P : Program} {w : World} {K : PySem.W.Frag} {mg : Str → Option Value} {base : Heap}
/-! worlds -/
structure Ks (nw : Nat) (ns : List Nat) (ks : List Knd) (i : Nat) : Prop where
  len : ks.length = i
  nm : ks.map (·.name) = ns.take i
  lag : ∀ k ∈ ks, 1 ≤ k.lag ∧ k.lag ≤ 2
  rows : ∀ k ∈ ks, RowsOk nw k.rows
theorem Ks.snoc {nw i c l : Nat} {ns : List Nat} {ks : List Knd} {rs : List Row} (h : Ks nw ns ks i) (hc : ns[i]? = some c) (h1 : 1 ≤ l) (h2 : l ≤ 2) (hr : RowsOk nw rs) : Ks nw ns (ks ++ [⟨c, l, rs⟩]) (i + 1) := by
  refine ⟨by simp [h.len], by rw [List.map_append, h.nm, take_snoc hc]; rfl, fun k hk => ?_, fun k hk => ?_⟩
  · rcases List.mem_append.mp hk with hk | hk
    · exact h.lag k hk
    · cases List.mem_singleton.mp hk
      exact ⟨h1, h2⟩
  · rcases List.mem_append.mp hk with hk | hk
    · exact h.rows k hk
    · cases List.mem_singleton.mp hk
      exact hr
theorem int1 (a b : Nat) : ((a : Nat) : Int) + (b : Nat) = ((a + b : Nat) : Int) := by omega
theorem p__law_world (T : Tx K mg) : Pr P w K mg base CX0 5 ["_law_draw_here"] [] (He.ga K "_law_world")
    (fun vs H Q _ => ∃ (d ca : Addr) (cells : List Int), vs = [.ref d] ∧ Dw H d ca cells ∧ ∀ H' v W, Sb d H H' → Dw H' d ca cells → WOk W → Tp K H' v (encW W) → Q v H') := by
  refine T.d__law_world.pr scs_law_world (fun vs H Q E h => ?_) (fun cdv A outer s H vs Q E hr h => ?_)
  · obtain ⟨d, ca, cells, rfl, _⟩ := h
    rfl
  · obtain ⟨d, ca, cells, rfl, hd, q⟩ := h
    refine ⟨_, (pss_cons (ps_set (i := 1) scs_law_world.nd rfl (.inl rfl) (pcall (p__law_words T) (hr.mono (by decide)) (by rfl) T.g__law_words pass0 (pa_cons (pv 0) (pa_cons (pe_op op_add pe_int (pcall (p__law_pick T) (hr.mono (by decide)) (by rfl) T.g__law_pick pass0 (pa_cons (pv 0) (pa_cons pe_int pa_nil)))) pa_nil))))
    (pss_cons (ps_set (i := 2) scs_law_world.nd rfl (.inl rfl) (pe_lst pa_nil))
    (pss_cons (ps_for PassesOwn.never rfl (pi_str (pcall (p__law_names T) (hr.mono (by decide)) (by rfl) T.g__law_names pass0 (pa_cons (pv 0) (pa_cons (pe_op op_add pe_int (pcall (p__law_pick T) (hr.mono (by decide)) (by rfl) T.g__law_pick pass0 (pa_cons (pv 0) (pa_cons pe_int pa_nil)))) pa_nil)))) (pg_name (i := 3) scs_law_world.nd rfl (.inl rfl) (.inl rfl))
      (pss_cons (ps_if (pw_and (pt_truth (pv 2) (fun _ => rfl)) (pw_and1 (pt_cmpR op_eq (pcall (p__law_pick T) (hr.mono (by decide)) (by rfl) T.g__law_pick pass0 (pa_cons (pv 0) (pa_cons pe_int pa_nil))) pe_int (nomark _)))).pt
        (pss_one (ps_set (i := 4) scs_law_world.nd rfl (.inl rfl) (pe_ix ix_tup (pe_ix ix_list (pv 2) pe_int (fun _ _ => rfl)) pe_int (fun _ _ => rfl))))
        (pss_one (ps_if (pt_cmpR op_eq (pcall (p__law_pick T) (hr.mono (by decide)) (by rfl) T.g__law_pick pass0 (pa_cons (pv 0) (pa_cons pe_int pa_nil))) pe_int (nomark _))
          (pss_one (ps_set (i := 4) scs_law_world.nd rfl (.inl rfl) (pcall (p__law_drill T) (hr.mono (by decide)) (by rfl) T.g__law_drill pass0 (pa_cons (pv 0) (pa_cons (pv 1) (pa_cons (pe_op op_add pe_int (pcall (p__law_pick T) (hr.mono (by decide)) (by rfl) T.g__law_pick pass0 (pa_cons (pv 0) (pa_cons pe_int pa_nil)))) (pa_cons pe_bl pa_nil)))))))
          (pss_one (ps_set (i := 4) scs_law_world.nd rfl (.inl rfl) (pcall (p__law_even_drill T) (hr.mono (by decide)) (by rfl) T.g__law_even_drill pass0 (pa_cons (pv 0) (pa_cons (pv 1) (pa_cons (pe_op op_add pe_int (pcall (p__law_pick T) (hr.mono (by decide)) (by rfl) T.g__law_pick pass0 (pa_cons (pv 0) (pa_cons pe_int pa_nil)))) (pa_cons pe_bl pa_nil))))))))))
      (pss_one (ps_expr (pe_bm PySem.F.plainAttrs_list PySem.F.slot_list_append PySem.F.type_list_append mt_appU (pv 2) (pa_cons (pe_tup (pa_cons (pv 3) (pa_cons (pe_op op_add pe_int (pcall (p__law_pick T) (hr.mono (by decide)) (by rfl) T.g__law_pick pass0 (pa_cons (pv 0) (pa_cons pe_int pa_nil)))) (pa_cons (pv 4) pa_nil)))) pa_nil))))))
    (pss_one (ps_ret (pe_tup (pa_cons (pv 1) (pa_cons (pe_callTy call_tupU (by rfl) T.z_tuple (by decide +kernel) (pa_cons (pv 2) pa_nil)) (pa_cons (pcall (p__law_pick T) (hr.mono (by decide)) (by rfl) T.g__law_pick pass0 (pa_cons (pv 0) (pa_cons pe_int pa_nil))) (pa_cons (pe_tup pa_nil) pa_nil)))))))))), ?_⟩
    refine ⟨_, rfl, _, rfl, d, ca, cells, 2, rfl, hd, by decide, fun H1 r1 sb1 dw1 h1 => ⟨1, (r1 : Nat), rfl, rfl, ?_⟩⟩
    refine ⟨d, ca, cells, 1 + r1, by show [V.ref d, .int (((1 : Nat) : Int) + (r1 : Nat))] = _; rw [int1], dw1, by omega, by omega, fun H2 ws sb2 dw2 sm ri wl => ?_⟩
    have w1 : 1 ≤ ws.length := by omega
    have w2 : ws.length ≤ 2 := by omega
    have sb02 := sb1.trans sb2
    refine ⟨by show 0 ≤ sizeLine; decide, fun R nR => ?_⟩
    have s3 := same_upd (o := .lst []) nR
    have e3 : (upd H2 R (.lst [])) R = some (.lst []) := upd_same
    generalize upd H2 R (.lst []) = H3 at s3 e3 ⊢
    have nRd : R ≠ d := dw2.ne2 nR
    have nR0 : H R = none := sb02.back dw2.at.1 nR
    refine ⟨_, rfl, _, rfl, d, ca, cells, 2, rfl, dw2.same s3, by decide, fun H4 r4 sb4 dw4 h4 => ⟨1, (r4 : Nat), rfl, rfl, ?_⟩⟩
    refine ⟨d, ca, cells, 1 + r4, by show [V.ref d, .int (((1 : Nat) : Int) + (r4 : Nat))] = _; rw [int1], dw4, by omega, by omega, fun H5 ns sb5 dw5 rg nd nl => ?_⟩
    have sb05 := ((sb02.trans (Sb.of s3)).trans sb4).trans sb5
    refine ⟨_, rfl, for_it (walk_str (z := str ns)) (fun i σ H' => Sb d H H' ∧ Dw H' d ca cells ∧ ∃ ks vs, H' R = some (.lst vs) ∧ TpAll K H' vs (ks.map encKnd) ∧ Ks ws.length ns ks i ∧ ∃ x3 x4, σ = [some (.ref d), some (.str (str ws)), some (.ref R), x3, x4])
      ⟨sb05, dw5, [], [], sb5 _ _ nRd (sb4 _ _ nRd e3), .nil, ⟨rfl, rfl, (fun _ h => nomatch h), (fun _ h => nomatch h)⟩, _, _, rfl⟩ (fun i σ H' _ h => trivial) (fun i y σ H6' H6 hi h y => ?_) fun σ H6 h => ?_⟩
    · obtain ⟨sb6, dw6, ks, vs, eR, tR, kk, x3, x4, rfl⟩ := h
      obtain ⟨rfl, c, hc, rfl⟩ := y
      rw [str_size] at hi
      have hcn : ns[i]? = some c := str_at hc
      have lvs : vs.length = ks.length := by simpa using tR.length
      have lks := kk.len
      refine ⟨_, rfl, _, .inl ⟨vs, .inl (.inl eR), rfl⟩, ite2 (fun ne => ?_) (fun _ => iteF ?_)⟩
      · refine ⟨_, rfl, d, ca, cells, 2, rfl, dw6, by decide, fun H7 r7 sb7 dw7 h7 => ⟨rfl, _, rfl, ite2 (fun _ => ?_) (fun _ => ?_)⟩⟩
        · obtain ⟨k0, k0m, hk0⟩ : ∃ k0, k0 ∈ ks ∧ ks[0]? = some k0 := by
            cases ks with
            | nil =>
              have : vs = [] := List.eq_nil_of_length_eq_zero lvs
              rw [this] at ne
              exact absurd ne (by decide)
            | cons k0 _ => exact ⟨k0, List.mem_cons_self, rfl⟩
          obtain ⟨v0, hv0, t0⟩ := tR.get (i := 0) (k := encKnd k0) (by rw [List.getElem?_map, hk0]; rfl)
          have t07 := t0.kp (dw6.kp sb7)
          obtain ⟨a0, b0, rfl, ha0, hb0⟩ := knd_inv t07
          obtain ⟨vR, hvR⟩ : ∃ vR, V.ref b0 = vR := ⟨_, rfl⟩
          rw [hvR] at ha0 hb0
          refine ⟨_, rfl, R, vs, 0, _, rfl, rfl, .inl (.inl (sb7 _ _ nRd eR)), (atI_nat hv0 : atI vs ((0 : Nat) : Int) = _), a0, _, 2, _, rfl, rfl, ha0, rfl, ?_⟩
          have sb8 := sb6.trans sb7
          have dw8 := dw7
          have eR8 := sb7 _ _ nRd eR
          have k8 := dw6.kp sb7
          have hrs := kk.rows k0 k0m
          have trs := hb0
          generalize hrsE : k0.rows = rs at trs hrs
          refine ⟨_, rfl, .inl ⟨rfl, _, .inl (.inl eR8)⟩, _, rfl, _, rfl, d, ca, cells, 2, rfl, dw8, by decide, fun HC rC sbC dwC hC => ⟨1, (rC : Nat), rfl, rfl, ?_⟩⟩
          refine ⟨_, rfl, by show 3 ≤ sizeLine; decide, fun p np => ?_⟩
          have sD := same_upd (o := .tup [.str ⟨#[c]⟩, (fun i j => V.int (i + j)) 1 (rC : Nat), vR]) np
          have eD : (upd HC p (.tup [.str ⟨#[c]⟩, (fun i j => V.int (i + j)) 1 (rC : Nat), vR])) p = some (.tup [.str ⟨#[c]⟩, (fun i j => V.int (i + j)) 1 (rC : Nat), vR]) := upd_same
          generalize upd HC p (.tup [.str ⟨#[c]⟩, (fun i j => V.int (i + j)) 1 (rC : Nat), vR]) = HD at sD eD ⊢
          replace eD : HD p = some (.tup [.str (one c), .int ((1 + rC : Nat) : Int), vR]) := by
            rw [eD, ← int1]
            rfl
          refine ⟨R, _, _, rfl, rfl, sD _ _ (sbC _ _ nRd eR8), by omega, fun HE bE eE => ?_⟩
          have kD := (dw8.kp sbC).trans (Kp.of sD)
          have kE := bE.kp (sD _ _ (sbC _ _ nRd eR8))
          have k6E := (k8.trans kD).trans kE
          refine ⟨((sb8.trans sbC).trans (Sb.of sD)).more nR0 bE, hd.sb nR0 (dwC.same sD) bE, ks ++ [⟨c, 1 + rC, rs⟩], _, eE, by rw [List.map_append]; exact (tR.kp k6E).snoc (.tup (kE.tup (.inl (.inl eD))) (by show 3 ≤ 2000; decide) (.cons (.str _) (.cons (.int _) (.one (trs.kp (kD.trans kE)))))), kk.snoc hcn (by omega) (by omega) hrs, _, _, rfl⟩
        · skip
          refine ⟨_, rfl, d, ca, cells, 4, rfl, dw7, by decide, fun H8 r8 sb8 dw8 h8 => ⟨rfl, _, rfl, ite2 (fun _ => ?_) (fun _ => ?_)⟩⟩
          · skip
            refine ⟨_, rfl, _, rfl, _, rfl, d, ca, cells, 2, rfl, dw8, by decide, fun H9 r9 sb9 dw9 h9 => ⟨2, (r9 : Nat), rfl, rfl, ?_⟩⟩
            refine ⟨d, ca, cells, 2 + r9, ws, by show [V.ref d, .str (str ws), .int (((2 : Nat) : Int) + (r9 : Nat)), .bl true] = _; rw [int1], dw9, by omega, by omega, w1, w2, fun HA vR rs sbA dwA hrs _ trs => ?_⟩
            have sb8 := ((sb6.trans sb7).trans sb8).trans (sb9.trans sbA)
            have k8 := (dw6.kp ((sb7.trans ‹Sb d _ H8›).trans (sb9.trans sbA)))
            have dw8 := dwA
            have eR8 := ((sb7.trans ‹Sb d _ H8›).trans (sb9.trans sbA)) _ _ nRd eR
            refine ⟨_, rfl, .inl ⟨rfl, _, .inl (.inl eR8)⟩, _, rfl, _, rfl, d, ca, cells, 2, rfl, dw8, by decide, fun HC rC sbC dwC hC => ⟨1, (rC : Nat), rfl, rfl, ?_⟩⟩
            refine ⟨_, rfl, by show 3 ≤ sizeLine; decide, fun p np => ?_⟩
            have sD := same_upd (o := .tup [.str ⟨#[c]⟩, (fun i j => V.int (i + j)) 1 (rC : Nat), vR]) np
            have eD : (upd HC p (.tup [.str ⟨#[c]⟩, (fun i j => V.int (i + j)) 1 (rC : Nat), vR])) p = some (.tup [.str ⟨#[c]⟩, (fun i j => V.int (i + j)) 1 (rC : Nat), vR]) := upd_same
            generalize upd HC p (.tup [.str ⟨#[c]⟩, (fun i j => V.int (i + j)) 1 (rC : Nat), vR]) = HD at sD eD ⊢
            replace eD : HD p = some (.tup [.str (one c), .int ((1 + rC : Nat) : Int), vR]) := by
              rw [eD, ← int1]
              rfl
            refine ⟨R, _, _, rfl, rfl, sD _ _ (sbC _ _ nRd eR8), by omega, fun HE bE eE => ?_⟩
            have kD := (dw8.kp sbC).trans (Kp.of sD)
            have kE := bE.kp (sD _ _ (sbC _ _ nRd eR8))
            have k6E := (k8.trans kD).trans kE
            refine ⟨((sb8.trans sbC).trans (Sb.of sD)).more nR0 bE, hd.sb nR0 (dwC.same sD) bE, ks ++ [⟨c, 1 + rC, rs⟩], _, eE, by rw [List.map_append]; exact (tR.kp k6E).snoc (.tup (kE.tup (.inl (.inl eD))) (by show 3 ≤ 2000; decide) (.cons (.str _) (.cons (.int _) (.one (trs.kp (kD.trans kE)))))), kk.snoc hcn (by omega) (by omega) hrs, _, _, rfl⟩
          · skip
            refine ⟨_, rfl, _, rfl, _, rfl, d, ca, cells, 2, rfl, dw8, by decide, fun H9 r9 sb9 dw9 h9 => ⟨2, (r9 : Nat), rfl, rfl, ?_⟩⟩
            refine ⟨d, ca, cells, 2 + r9, ws, by show [V.ref d, .str (str ws), .int (((2 : Nat) : Int) + (r9 : Nat)), .bl true] = _; rw [int1], dw9, by omega, by omega, w1, w2, fun HA vR rs sbA dwA hrs _ trs => ?_⟩
            have sb8 := ((sb6.trans sb7).trans sb8).trans (sb9.trans sbA)
            have k8 := (dw6.kp ((sb7.trans ‹Sb d _ H8›).trans (sb9.trans sbA)))
            have dw8 := dwA
            have eR8 := ((sb7.trans ‹Sb d _ H8›).trans (sb9.trans sbA)) _ _ nRd eR
            refine ⟨_, rfl, .inl ⟨rfl, _, .inl (.inl eR8)⟩, _, rfl, _, rfl, d, ca, cells, 2, rfl, dw8, by decide, fun HC rC sbC dwC hC => ⟨1, (rC : Nat), rfl, rfl, ?_⟩⟩
            refine ⟨_, rfl, by show 3 ≤ sizeLine; decide, fun p np => ?_⟩
            have sD := same_upd (o := .tup [.str ⟨#[c]⟩, (fun i j => V.int (i + j)) 1 (rC : Nat), vR]) np
            have eD : (upd HC p (.tup [.str ⟨#[c]⟩, (fun i j => V.int (i + j)) 1 (rC : Nat), vR])) p = some (.tup [.str ⟨#[c]⟩, (fun i j => V.int (i + j)) 1 (rC : Nat), vR]) := upd_same
            generalize upd HC p (.tup [.str ⟨#[c]⟩, (fun i j => V.int (i + j)) 1 (rC : Nat), vR]) = HD at sD eD ⊢
            replace eD : HD p = some (.tup [.str (one c), .int ((1 + rC : Nat) : Int), vR]) := by
              rw [eD, ← int1]
              rfl
            refine ⟨R, _, _, rfl, rfl, sD _ _ (sbC _ _ nRd eR8), by omega, fun HE bE eE => ?_⟩
            have kD := (dw8.kp sbC).trans (Kp.of sD)
            have kE := bE.kp (sD _ _ (sbC _ _ nRd eR8))
            have k6E := (k8.trans kD).trans kE
            refine ⟨((sb8.trans sbC).trans (Sb.of sD)).more nR0 bE, hd.sb nR0 (dwC.same sD) bE, ks ++ [⟨c, 1 + rC, rs⟩], _, eE, by rw [List.map_append]; exact (tR.kp k6E).snoc (.tup (kE.tup (.inl (.inl eD))) (by show 3 ≤ 2000; decide) (.cons (.str _) (.cons (.int _) (.one (trs.kp (kD.trans kE)))))), kk.snoc hcn (by omega) (by omega) hrs, _, _, rfl⟩
      · skip
        have sb7 := Sb.refl d H6
        have dw7 := dw6
        refine ⟨_, rfl, d, ca, cells, 4, rfl, dw7, by decide, fun H8 r8 sb8 dw8 h8 => ⟨rfl, _, rfl, ite2 (fun _ => ?_) (fun _ => ?_)⟩⟩
        · skip
          refine ⟨_, rfl, _, rfl, _, rfl, d, ca, cells, 2, rfl, dw8, by decide, fun H9 r9 sb9 dw9 h9 => ⟨2, (r9 : Nat), rfl, rfl, ?_⟩⟩
          refine ⟨d, ca, cells, 2 + r9, ws, by show [V.ref d, .str (str ws), .int (((2 : Nat) : Int) + (r9 : Nat)), .bl true] = _; rw [int1], dw9, by omega, by omega, w1, w2, fun HA vR rs sbA dwA hrs _ trs => ?_⟩
          have sb8 := ((sb6.trans sb7).trans sb8).trans (sb9.trans sbA)
          have k8 := (dw6.kp ((sb7.trans ‹Sb d _ H8›).trans (sb9.trans sbA)))
          have dw8 := dwA
          have eR8 := ((sb7.trans ‹Sb d _ H8›).trans (sb9.trans sbA)) _ _ nRd eR
          refine ⟨_, rfl, .inl ⟨rfl, _, .inl (.inl eR8)⟩, _, rfl, _, rfl, d, ca, cells, 2, rfl, dw8, by decide, fun HC rC sbC dwC hC => ⟨1, (rC : Nat), rfl, rfl, ?_⟩⟩
          refine ⟨_, rfl, by show 3 ≤ sizeLine; decide, fun p np => ?_⟩
          have sD := same_upd (o := .tup [.str ⟨#[c]⟩, (fun i j => V.int (i + j)) 1 (rC : Nat), vR]) np
          have eD : (upd HC p (.tup [.str ⟨#[c]⟩, (fun i j => V.int (i + j)) 1 (rC : Nat), vR])) p = some (.tup [.str ⟨#[c]⟩, (fun i j => V.int (i + j)) 1 (rC : Nat), vR]) := upd_same
          generalize upd HC p (.tup [.str ⟨#[c]⟩, (fun i j => V.int (i + j)) 1 (rC : Nat), vR]) = HD at sD eD ⊢
          replace eD : HD p = some (.tup [.str (one c), .int ((1 + rC : Nat) : Int), vR]) := by
            rw [eD, ← int1]
            rfl
          refine ⟨R, _, _, rfl, rfl, sD _ _ (sbC _ _ nRd eR8), by omega, fun HE bE eE => ?_⟩
          have kD := (dw8.kp sbC).trans (Kp.of sD)
          have kE := bE.kp (sD _ _ (sbC _ _ nRd eR8))
          have k6E := (k8.trans kD).trans kE
          refine ⟨((sb8.trans sbC).trans (Sb.of sD)).more nR0 bE, hd.sb nR0 (dwC.same sD) bE, ks ++ [⟨c, 1 + rC, rs⟩], _, eE, by rw [List.map_append]; exact (tR.kp k6E).snoc (.tup (kE.tup (.inl (.inl eD))) (by show 3 ≤ 2000; decide) (.cons (.str _) (.cons (.int _) (.one (trs.kp (kD.trans kE)))))), kk.snoc hcn (by omega) (by omega) hrs, _, _, rfl⟩
        · skip
          refine ⟨_, rfl, _, rfl, _, rfl, d, ca, cells, 2, rfl, dw8, by decide, fun H9 r9 sb9 dw9 h9 => ⟨2, (r9 : Nat), rfl, rfl, ?_⟩⟩
          refine ⟨d, ca, cells, 2 + r9, ws, by show [V.ref d, .str (str ws), .int (((2 : Nat) : Int) + (r9 : Nat)), .bl true] = _; rw [int1], dw9, by omega, by omega, w1, w2, fun HA vR rs sbA dwA hrs _ trs => ?_⟩
          have sb8 := ((sb6.trans sb7).trans sb8).trans (sb9.trans sbA)
          have k8 := (dw6.kp ((sb7.trans ‹Sb d _ H8›).trans (sb9.trans sbA)))
          have dw8 := dwA
          have eR8 := ((sb7.trans ‹Sb d _ H8›).trans (sb9.trans sbA)) _ _ nRd eR
          refine ⟨_, rfl, .inl ⟨rfl, _, .inl (.inl eR8)⟩, _, rfl, _, rfl, d, ca, cells, 2, rfl, dw8, by decide, fun HC rC sbC dwC hC => ⟨1, (rC : Nat), rfl, rfl, ?_⟩⟩
          refine ⟨_, rfl, by show 3 ≤ sizeLine; decide, fun p np => ?_⟩
          have sD := same_upd (o := .tup [.str ⟨#[c]⟩, (fun i j => V.int (i + j)) 1 (rC : Nat), vR]) np
          have eD : (upd HC p (.tup [.str ⟨#[c]⟩, (fun i j => V.int (i + j)) 1 (rC : Nat), vR])) p = some (.tup [.str ⟨#[c]⟩, (fun i j => V.int (i + j)) 1 (rC : Nat), vR]) := upd_same
          generalize upd HC p (.tup [.str ⟨#[c]⟩, (fun i j => V.int (i + j)) 1 (rC : Nat), vR]) = HD at sD eD ⊢
          replace eD : HD p = some (.tup [.str (one c), .int ((1 + rC : Nat) : Int), vR]) := by
            rw [eD, ← int1]
            rfl
          refine ⟨R, _, _, rfl, rfl, sD _ _ (sbC _ _ nRd eR8), by omega, fun HE bE eE => ?_⟩
          have kD := (dw8.kp sbC).trans (Kp.of sD)
          have kE := bE.kp (sD _ _ (sbC _ _ nRd eR8))
          have k6E := (k8.trans kD).trans kE
          refine ⟨((sb8.trans sbC).trans (Sb.of sD)).more nR0 bE, hd.sb nR0 (dwC.same sD) bE, ks ++ [⟨c, 1 + rC, rs⟩], _, eE, by rw [List.map_append]; exact (tR.kp k6E).snoc (.tup (kE.tup (.inl (.inl eD))) (by show 3 ≤ 2000; decide) (.cons (.str _) (.cons (.int _) (.one (trs.kp (kD.trans kE)))))), kk.snoc hcn (by omega) (by omega) hrs, _, _, rfl⟩
    · obtain ⟨sb6, dw6, ks, vs, eR, tR, kk, x3, x4, rfl⟩ := h
      rw [str_size] at kk
      have lks := kk.len
      refine ⟨_, rfl, _, rfl, R, vs, rfl, .inl (.inl (.inl eR)), fun t H7 s7 ht => ?_⟩
      refine ⟨_, rfl, d, ca, cells, 4, rfl, dw6.same s7, by decide, fun H8 r8 sb8 dw8 h8 => ?_⟩
      refine ⟨by show 0 ≤ sizeLine; decide, fun p np => ?_⟩
      have s9 := same_upd (o := .tup []) np
      have e9 : (upd H8 p (.tup [])) p = some (.tup []) := upd_same
      generalize upd H8 p (.tup []) = H9 at s9 e9 ⊢
      refine ⟨by show 4 ≤ sizeLine; decide, fun p2 np2 => ?_⟩
      have sA := same_upd (o := .tup [.str (str ws), .ref t, .int (r8 : Nat), .ref p]) np2
      have eA : (upd H9 p2 (.tup [.str (str ws), .ref t, .int (r8 : Nat), .ref p])) p2 = some (.tup [.str (str ws), .ref t, .int (r8 : Nat), .ref p]) := upd_same
      generalize upd H9 p2 (.tup [.str (str ws), .ref t, .int (r8 : Nat), .ref p]) = HA at sA eA ⊢
      have kA := ((dw6.same s7).kp sb8).trans (Kp.of (s9.trans sA))
      have nm := kk.nm
      rw [List.take_length] at nm
      refine q HA _ ⟨ws, ks, r8⟩ ((((sb6.trans (Sb.of s7)).trans sb8).trans (Sb.of s9)).trans (Sb.of sA)) ((dw8.same s9).same sA) ⟨sm, ri, ⟨w1, w2⟩, ⟨by show 1 ≤ ks.length; omega, by show ks.length ≤ 2; omega⟩, fun k hk => rg _ ?_, ?_, kk.lag, kk.rows, by show r8 ≤ 3; omega⟩ ?_
      · show k.name ∈ ns
        rw [← nm]
        exact List.mem_map_of_mem hk
      · show (ks.map (·.name)).Nodup
        rw [nm]
        exact nd
      · refine .tup (.inl (.inl eA)) (by show 4 ≤ 2000; decide) (.cons (.str _) (.cons (.tup (kA.tup ht) (by have := tR.length; rw [List.length_map] at this; omega) (tR.kp ((Kp.of s7).trans kA))) (.cons (.int _) (.one (.tup (sA.tup (.inl (.inl e9))) (by show 0 ≤ 2000; decide) .nil)))))

end
end TH
end
section
set_option Elab.async false
set_option linter.all false
set_option maxRecDepth 100000
set_option maxHeartbeats 4000000
namespace TH
open PySem PySem.Spec PyProof.Rows L2
section
variable {P : Program} {w : World} {K : PySem.W.Frag} {mg : Str → Option Value} {base : Heap}
/-! led, trace, kind, all_names -/
open StrLaws in
theorem idx_occ {sg : List Nat} {c : Nat} (h : c ∈ sg) : ∃ r, Builtin.Str.occurrences (str sg) (one c) 0 (str sg).length 1 = sg.idxOf c :: r := by
  have at' : ∀ i, At (str sg) (one c) (str sg).length i ↔ sg[i]? = some c := fun i => by
    have := subAt_one (str sg) c i
    rwa [str_tl] at this
  rcases occ_head (str sg) (one c) 1 (Nat.le_refl _) with ⟨_, h2⟩ | ⟨i, r, e, h1, h2⟩
  · exact absurd ((at' _).mpr (idx_at h)) (h2 _)
  · have hi : sg.idxOf c = i := by
      rcases Nat.lt_trichotomy (sg.idxOf c) i with q | q | q
      · exact absurd ((at' _).mpr (idx_at h)) (h2 _ q)
      · exact q
      · exact absurd ((at' _).mp h1) (idx_first q)
    rw [hi]
    exact ⟨r, e⟩
theorem p__law_led (T : Tx K mg) : Pr P w K mg base CX0 1 ["_law_words_here", "_law_rows", "_law_standing", "_law_sign"] [] (He.ga K "_law_led")
    (fun vs H Q _ => ∃ (v : V) (ws : List Nat) (rs : List Row) (s c : Nat), vs = [.str (str ws), v, .int (s : Nat), .str (one c)] ∧ Tp K H v (encRows rs) ∧ RowsOk ws.length rs ∧ ws.length ≤ 2 ∧ s < rs.length ∧ c ∈ 46 :: ws ∧ Q (.int (go (46 :: ws) rs s c : Nat)) H) := by
  refine T.d__law_led.pr scs_law_led (fun vs H Q E h => ?_) (fun cdv A outer s H vs Q E hr h => ?_)
  · obtain ⟨v, ws, rs, s, c, rfl, _⟩ := h
    rfl
  · obtain ⟨v, ws, rs, s, c, rfl, hv, ok, lw, hs, hc, q⟩ := h
    refine ⟨_, (pss_one (ps_ret (pe_ix ix_tup (pe_ix ix_tup (pe_ix ix_tup (pv 1) (pv 2) (fun _ _ => rfl)) pe_int (fun _ _ => rfl)) (pe_bm PySem.F.plainAttrs_str PySem.F.slot_str_index PySem.F.type_str_index mt_sindex (pe_op op_add_str pe_str (pv 0)) (pa_cons (pv 3) pa_nil)) (fun _ _ => rfl)))), ?_⟩
    obtain ⟨ra, xs, rfl, hra, lx, tx⟩ := rows_inv hv
    obtain ⟨x, gx, tr⟩ := tx.get (i := s) (k := encRow (rowAt rs s)) (by rw [List.getElem?_map, rowAt_of hs]; rfl)
    obtain ⟨a, b, rfl, ha, hb, lb⟩ := rowk_inv tr
    obtain ⟨r, occ⟩ := idx_occ hc
    refine ⟨_, rfl, _, rfl, ra, xs, (s : Nat), _, rfl, rfl, hra, atI_nat gx, a, _, 2, _, rfl, rfl, ha, rfl, _, rfl, ("." : Str), str ws, rfl, rfl, dot_len (by omega), ?_⟩
    rw [dot_str]
    refine ⟨rfl, _, rfl, _, _, _, r, rfl, rfl, occ, b, _, (List.idxOf c (46 :: ws) : Nat), _, rfl, rfl, hb, atI_nat (natsV_at (go_at ok rfl hs hc).1), q⟩
theorem p__law_trace (T : Tx K mg) : Pr P w K mg base CX0 2 ["_law_words_here", "_law_rows", "_law_text", "_law_moments"] [] (He.ga K "_law_trace")
    (fun vs H Q _ => ∃ (v : V) (ws X : List Nat) (rs : List Row) (n : Nat), vs = [.str (str ws), v, .str (str X), .int (n : Nat)] ∧ Tp K H v (encRows rs) ∧ RowsOk ws.length rs ∧ ws.length ≤ 2 ∧ (∀ c ∈ X, c ∈ 46 :: ws) ∧ X.length ≤ 1000 ∧ n ≤ 1500 ∧
      ∀ H' z s1 w1, Same H H' → H' z = some (.tup [.ref s1, .ref w1]) → H' s1 = some (.lst (stV (46 :: ws) rs X (n + 1))) → H' w1 = some (.lst (wkV (46 :: ws) rs X (n + 1))) → Q (.ref z) H') := by
  refine T.d__law_trace.pr scs_law_trace (fun vs H Q E h => ?_) (fun cdv A outer s H vs Q E hr h => ?_)
  · obtain ⟨v, ws, X, rs, n, rfl, _⟩ := h
    rfl
  · obtain ⟨v, ws, X, rs, n, rfl, hv, ok, lw, hX, lX, ln, q⟩ := h
    refine ⟨_, (pss_cons (ps_set (i := 4) scs_law_trace.nd rfl (.inl rfl) (pe_lst (pa_cons pe_int pa_nil)))
    (pss_cons (ps_set (i := 5) scs_law_trace.nd rfl (.inl rfl) (pe_lst (pa_cons pe_int pa_nil)))
    (pss_cons (ps_for PassesOwn.never rfl (pi_range1 (by rfl) T.z_range (pa_cons (pv 3) pa_nil)) (pg_name (i := 6) scs_law_trace.nd rfl (.inl rfl) (.inl rfl))
      (pss_cons (ps_set (i := 7) scs_law_trace.nd rfl (.inl rfl) pe_str)
      (pss_cons (ps_if (pt_cmpR op_lt (pv 6) (pe_callB call_len_str (by rfl) T.z_len PySem.boot_len (pa_cons (pv 2) pa_nil)) (nomark _))
        (pss_one (ps_set (i := 7) scs_law_trace.nd rfl (.inl rfl) (pe_ix ix_str (pv 2) (pv 6) (fun _ _ => rfl))))
        pss_nil)
      (pss_cons (ps_expr (pe_bm PySem.F.plainAttrs_list PySem.F.slot_list_append PySem.F.type_list_append mt_appU (pv 4) (pa_cons (pcall (p__law_led T) (hr.mono (by decide)) (by rfl) T.g__law_led pass0 (pa_cons (pv 0) (pa_cons (pv 1) (pa_cons (pe_ix ix_list (pv 4) (pe_un un_neg pe_int) (fun _ _ => rfl)) (pa_cons (pv 7) pa_nil))))) pa_nil)))
      (pss_one (ps_expr (pe_bm PySem.F.plainAttrs_list PySem.F.slot_list_append PySem.F.type_list_append mt_appU (pv 5) (pa_cons (pe_op op_add (pe_ix ix_list (pv 5) (pe_un un_neg pe_int) (fun _ _ => rfl)) (pe_ix ix_tup (pe_ix ix_tup (pv 1) (pe_ix ix_list (pv 4) (pe_un un_neg pe_int) (fun _ _ => rfl)) (fun _ _ => rfl)) pe_int (fun _ _ => rfl))) pa_nil))))))))
    (pss_one (ps_ret (pe_tup (pa_cons (pv 4) (pa_cons (pv 5) pa_nil)))))))), ?_⟩
    refine ⟨by show 1 ≤ sizeLine; decide, fun a na => ?_⟩
    have s1 := same_upd (o := .lst [.int 0]) na
    have e1 : (upd H a (.lst [.int 0])) a = some (.lst [.int 0]) := upd_same
    generalize upd H a (.lst [.int 0]) = H1 at s1 e1 ⊢
    refine ⟨by show 1 ≤ sizeLine; decide, fun b nb => ?_⟩
    have s2 := same_upd (o := .lst [.int 0]) nb
    have e2 : (upd H1 b (.lst [.int 0])) b = some (.lst [.int 0]) := upd_same
    generalize upd H1 b (.lst [.int 0]) = H2 at s2 e2 ⊢
    have nab : a ≠ b := fun z => by rw [← z, e1] at nb; cases nb
    have nbH : H b = none := s1.back nb
    have rlen : 0 < rs.length := by have := ok.len; omega
    refine ⟨_, rfl, (n : Nat), rfl, by omega, by omega, for_it (walk_rn (n := n)) (fun i σ H' => Same H H' ∧ H' a = some (.lst (stV (46 :: ws) rs X (i + 1))) ∧ H' b = some (.lst (wkV (46 :: ws) rs X (i + 1))) ∧ ∃ x6 x7, σ = [some (.str (str ws)), some v, some (.str (str X)), some (.int (n : Nat)), some (.ref a), some (.ref b), x6, x7])
      ⟨s1.trans s2, by rw [s2 _ _ e1]; simp [stV, pad_zero, stand], by rw [e2]; simp [wkV, pad_zero, walkT, walkF], _, _, rfl⟩ (fun i σ H' _ h => trivial) (fun i y σ H3' H3 hi h y => ?_) fun σ H3 h => ?_⟩
    · obtain ⟨s3, ea, eb, x6, x7, rfl⟩ := h
      obtain ⟨rfl, rfl⟩ := y
      have st_lt : stand (46 :: ws) rs (pad X i) < rs.length := stand_lt ok rfl _ _ rlen (pad_mem hX (by simp) i)
      obtain ⟨c, hc⟩ : ∃ c, (X[i]?).getD 46 = c := ⟨_, rfl⟩
      have mc : c ∈ 46 :: ws := by
        rw [← hc]
        by_cases h : i < X.length
        · rw [List.getElem?_eq_getElem h]
          exact hX _ (List.getElem_mem h)
        · rw [List.getElem?_eq_none (by omega)]
          simp
      refine ⟨_, rfl, _, rfl, str X, rfl, by rw [str_len]; exact sz2 (by omega), (i : Nat), ((str X).length : Nat), rfl, rfl, _, rfl, ?_⟩
      rw [str_len]
      refine iteD (fun h => ?_) (fun h => ?_)
      · have hi' : i < X.length := by omega
        have ec : X[i]? = some c := by
          rw [List.getElem?_eq_getElem hi'] at hc ⊢
          exact congrArg some hc
        refine ⟨_, rfl, _, rfl, str X, (i : Nat), c, rfl, rfl, by rw [str_len]; exact sz2 (by omega), atI_nat (by rw [str_tl]; exact ec), ?_⟩
        obtain ⟨ra, xs, rfl, hra, lx, tx⟩ := rows_inv (hv.same s3)
        have gl := (go_at ok rfl st_lt mc).2
        refine ⟨_, rfl, .inl ⟨rfl, _, .inl (.inl ea)⟩, _, rfl, _, rfl, _, rfl, 1, rfl, a, _, -1, _, rfl, rfl, .inl (.inl ea), by rw [stV_succ]; exact atI_last _ _, _, rfl, _, ws, rs, _, c, rfl, hv.same s3, ok, lw, st_lt, mc, ?_⟩
        refine ⟨a, _, _, rfl, rfl, ea, by rw [stV_len]; omega, fun H5 b5 e5 => ?_⟩
        have s5 : Same H H5 := s3.sb na b5
        have gl := (go_at ok rfl st_lt mc).2
        have es : stand (46 :: ws) rs (pad X (i + 1)) = go (46 :: ws) rs (stand (46 :: ws) rs (pad X i)) c := by rw [pad_succ, hc, stand_snoc]
        have ew := walk_snoc (46 :: ws) rs (pad X i) c
        rw [stand_snoc] at ew
        have eb5 : H5 b = some (.lst (wkV (46 :: ws) rs X (i + 1))) := b5 _ _ nab.symm eb
        obtain ⟨x, gx, tr⟩ := tx.get (i := go (46 :: ws) rs (stand (46 :: ws) rs (pad X i)) c) (by rw [List.getElem?_map, rowAt_of gl]; rfl)
        have k35 : Kp H3 H5 := b5.kp ea
        obtain ⟨xr, xb, rfl, hxr, _, _⟩ := rowk_inv (tr.kp k35)
        refine ⟨_, rfl, .inl ⟨rfl, _, .inl (.inl eb5)⟩, _, rfl, 1, rfl, b, _, -1, _, rfl, rfl, .inl (.inl eb5), by rw [wkV_succ]; exact atI_last _ _, _, rfl, _, rfl, 1, rfl, a, _, -1, _, rfl, rfl, .inl (.inl e5), atI_last _ _, ra, xs, (go (46 :: ws) rs (stand (46 :: ws) rs (pad X i)) c : Nat), _, rfl, rfl, k35.tup hra, atI_nat gx, xr, _, 0, _, rfl, rfl, hxr, rfl, _, _, rfl, rfl, ?_⟩
        refine ⟨b, _, _, rfl, rfl, eb5, by rw [wkV_len]; omega, fun H6 b6 e6 => ?_⟩
        refine ⟨s5.sb nbH b6, ?_, ?_, _, _, rfl⟩
        · rw [b6 _ _ nab e5, stV_succ (46 :: ws) rs X (i + 1), es]
        · rw [e6, wkV_succ (46 :: ws) rs X (i + 1), pad_succ, hc, ew]
      · have hi' : ¬ i < X.length := by omega
        have ec : c = 46 := by
          rw [← hc, List.getElem?_eq_none (by omega)]
          rfl
        have e46 : ("." : Str) = one c := by rw [ec]; rfl
        rw [e46]
        obtain ⟨ra, xs, rfl, hra, lx, tx⟩ := rows_inv (hv.same s3)
        have gl := (go_at ok rfl st_lt mc).2
        refine ⟨_, rfl, .inl ⟨rfl, _, .inl (.inl ea)⟩, _, rfl, _, rfl, _, rfl, 1, rfl, a, _, -1, _, rfl, rfl, .inl (.inl ea), by rw [stV_succ]; exact atI_last _ _, _, rfl, _, ws, rs, _, c, rfl, hv.same s3, ok, lw, st_lt, mc, ?_⟩
        refine ⟨a, _, _, rfl, rfl, ea, by rw [stV_len]; omega, fun H5 b5 e5 => ?_⟩
        have s5 : Same H H5 := s3.sb na b5
        have gl := (go_at ok rfl st_lt mc).2
        have es : stand (46 :: ws) rs (pad X (i + 1)) = go (46 :: ws) rs (stand (46 :: ws) rs (pad X i)) c := by rw [pad_succ, hc, stand_snoc]
        have ew := walk_snoc (46 :: ws) rs (pad X i) c
        rw [stand_snoc] at ew
        have eb5 : H5 b = some (.lst (wkV (46 :: ws) rs X (i + 1))) := b5 _ _ nab.symm eb
        obtain ⟨x, gx, tr⟩ := tx.get (i := go (46 :: ws) rs (stand (46 :: ws) rs (pad X i)) c) (by rw [List.getElem?_map, rowAt_of gl]; rfl)
        have k35 : Kp H3 H5 := b5.kp ea
        obtain ⟨xr, xb, rfl, hxr, _, _⟩ := rowk_inv (tr.kp k35)
        refine ⟨_, rfl, .inl ⟨rfl, _, .inl (.inl eb5)⟩, _, rfl, 1, rfl, b, _, -1, _, rfl, rfl, .inl (.inl eb5), by rw [wkV_succ]; exact atI_last _ _, _, rfl, _, rfl, 1, rfl, a, _, -1, _, rfl, rfl, .inl (.inl e5), atI_last _ _, ra, xs, (go (46 :: ws) rs (stand (46 :: ws) rs (pad X i)) c : Nat), _, rfl, rfl, k35.tup hra, atI_nat gx, xr, _, 0, _, rfl, rfl, hxr, rfl, _, _, rfl, rfl, ?_⟩
        refine ⟨b, _, _, rfl, rfl, eb5, by rw [wkV_len]; omega, fun H6 b6 e6 => ?_⟩
        refine ⟨s5.sb nbH b6, ?_, ?_, _, _, rfl⟩
        · rw [b6 _ _ nab e5, stV_succ (46 :: ws) rs X (i + 1), es]
        · rw [e6, wkV_succ (46 :: ws) rs X (i + 1), pad_succ, hc, ew]
    · obtain ⟨s3, ea, eb, x6, x7, rfl⟩ := h
      refine ⟨_, rfl, _, rfl, by show 2 ≤ sizeLine; decide, fun z nz => ?_⟩
      have sz := same_upd (o := .tup [.ref a, .ref b]) nz
      exact q _ z a b (s3.trans sz) upd_same (sz _ _ ea) (sz _ _ eb)
theorem wld_inv {H : Hp} {v : V} {W : Wld} (h : Tp K H v (encW W)) : ∃ a kv se, v = .ref a ∧ SqT K H a [.str (str W.words), kv, .int (W.space : Nat), .ref se] ∧ Tp K H kv (encKnds W.kinds) ∧ SqT K H se [] := by
  obtain ⟨a, xs, rfl, hs, _, ha⟩ := h.tup_inv
  cases ha with
  | cons h1 h2 =>
    cases h2 with
    | cons h2 h3 =>
      cases h3 with
      | cons h3 h4 =>
        cases h4 with
        | cons h4 h5 =>
          cases h5
          obtain ⟨b, ys, rfl, hb, lb, hy⟩ := h4.tup_inv
          cases hy
          rw [h1.str_inv, h3.int_inv] at hs
          exact ⟨a, _, b, rfl, hs, h2, hb⟩
theorem p__law_kind (T : Tx K mg) : Pr P w K mg base CX0 1 ["_law_make", "_law_name"] [] (He.ga K "_law_kind")
    (fun vs H Q _ => ∃ (v : V) (W : Wld) (c : Nat), vs = [v, .str (one c)] ∧ Tp K H v (encW W) ∧ WOk W ∧ c ∈ W.names ∧ ∀ H' p rv, Same H H' → SqT K H' p [.int (lgA W c : Nat), rv] → Tp K H' rv (encRows (kOf W c).rows) → Q (.ref p) H') := by
  refine T.d__law_kind.pr scs_law_kind (fun vs H Q E h => ?_) (fun cdv A outer s H vs Q E hr h => ?_)
  · obtain ⟨v, W, c, rfl, _⟩ := h
    rfl
  · obtain ⟨v, W, c, rfl, hv, ok, hc, q⟩ := h
    refine ⟨_, (pss_cons (ps_for PassesOwn.never rfl (pi_tup (pe_ix ix_tup (pv 0) pe_int (fun _ _ => rfl))) (pg_name (i := 2) scs_law_kind.nd rfl (.inl rfl) (.inl rfl))
      (pss_one (ps_if (pt_cmpR op_eq (pe_ix ix_tup (pv 2) pe_int (fun _ _ => rfl)) (pv 1) (nomark _))
        (pss_one (ps_ret (pe_tup (pa_cons (pe_ix ix_tup (pv 2) pe_int (fun _ _ => rfl)) (pa_cons (pe_ix ix_tup (pv 2) pe_int (fun _ _ => rfl)) pa_nil)))))
        pss_nil)))
    (pss_one (ps_ret (pe_tup (pa_cons pe_int (pa_cons (pe_tup (pa_cons (pe_tup (pa_cons pe_int (pa_cons pe_int (pa_cons (pe_tup (pa_cons pe_int pa_nil)) pa_nil)))) pa_nil)) pa_nil)))))), ?_⟩
    obtain ⟨a, kv, se, rfl, ha, hk, hse⟩ := wld_inv hv
    obtain ⟨ka, xs, rfl, hka, lx, tx⟩ := knds_inv hk
    refine ⟨_, rfl, a, _, 1, _, rfl, rfl, ha, rfl, ka, rfl, ⟨xs, hka⟩, for_it (walk_tup (xs := xs)) (fun i σ H' => H' = H ∧ (∀ j k, j < i → W.kinds[j]? = some k → k.name ≠ c) ∧ ∃ x2, σ = [some (.ref a), some (.str (one c)), x2])
      ⟨rfl, fun j k h => by omega, _, rfl⟩ (fun i σ H' _ h => by rw [h.1]; exact hka) (fun i y σ H3' H3 hi h y => ?_) fun σ H3 h => ?_⟩
    · obtain ⟨e3, no, x2, rfl⟩ := h
      obtain ⟨rfl, g⟩ := y
      subst e3
      obtain ⟨k, gk, tk⟩ := knds_at tx g
      obtain ⟨b, e, rfl, hb, he⟩ := knd_inv tk
      refine ⟨_, rfl, b, _, 0, _, rfl, rfl, hb, rfl, _, rfl, rfl, _, rfl, iteD (fun z => ?_) (fun z => ?_)⟩
      · have hn : k.name = c := one_inj (V.str.inj z)
        have hko : kOf W c = k := by rw [← hn]; exact kOf_name ok (List.mem_of_getElem? gk)
        refine ⟨_, rfl, b, _, 1, _, rfl, rfl, hb, rfl, _, rfl, b, _, 2, _, rfl, rfl, hb, rfl, by show 2 ≤ sizeLine; decide, fun p np => ?_⟩
        have sp := same_upd (o := .tup [.int (k.lag : Nat), .ref e]) np
        exact q _ p _ sp (.inl (.inl (by rw [lgA, hko]; exact upd_same))) (by rw [hko]; exact he.same sp)
      · refine ⟨rfl, fun j k' hj hk' => ?_, _, rfl⟩
        rcases Nat.lt_succ_iff_lt_or_eq.mp hj with h | h
        · exact no j k' h hk'
        · subst h
          rw [gk] at hk'
          cases hk'
          exact fun e => z (by rw [e])
    · obtain ⟨e3, no, x2, rfl⟩ := h
      obtain ⟨k, hk, rfl⟩ := List.mem_map.mp hc
      obtain ⟨j, hj, e⟩ := List.mem_iff_getElem.mp hk
      exact absurd rfl (no j k (by rw [lx]; exact hj) (by rw [List.getElem?_eq_getElem hj, e]))

end
end TH
end
section
set_option Elab.async false
set_option linter.all false
set_option maxRecDepth 100000
set_option maxHeartbeats 4000000
namespace TH
open PySem PySem.Spec PyProof.Rows L2
section
variable {P : Program} {w : World} {K : PySem.W.Frag} {mg : Str → Option Value} {base : Heap}
/-! all_names, seat, column -/
theorem rise_eq : ∀ {a b : List Nat}, a.Perm b → Rise a → Rise b → a = b
  | [], b, p, _, _ => (List.nil_perm.mp p).symm
  | x :: a, b, p, ha, hb => by
    cases b with
    | nil => exact absurd p.length_eq (by simp)
    | cons y b =>
      have h1 := List.pairwise_cons.mp ha
      have h2 := List.pairwise_cons.mp hb
      have e : x = y := by
        have hx : x ∈ y :: b := p.mem_iff.mp List.mem_cons_self
        have hy : y ∈ x :: a := p.mem_iff.mpr List.mem_cons_self
        rcases List.mem_cons.mp hx with hx | hx
        · exact hx
        · rcases List.mem_cons.mp hy with hy | hy
          · exact hy.symm
          · exact absurd (h1.1 _ hy) (Nat.lt_asymm (h2.1 _ hx))
      subst e
      rw [rise_eq ((List.perm_cons x).mp p) h1.2 h2.2]
theorem rise_ex {l : List Nat} (h : l.Nodup) (h2 : l.length ≤ 2) : ∃ row, row.Perm l ∧ Rise row := by
  match l, h, h2 with
  | [], _, _ => exact ⟨[], .refl _, .nil⟩
  | [a], _, _ => exact ⟨[a], .refl _, List.pairwise_singleton _ _⟩
  | [a, b], h, _ =>
    have ne : a ≠ b := fun z => by simp [z] at h
    by_cases lt : a < b
    · exact ⟨[a, b], .refl _, by simp [Rise, lt]⟩
    · exact ⟨[b, a], .swap _ _ _, by
        have : b < a := by omega
        simp [Rise, this]⟩
theorem p__law_all_names (T : Tx K mg) : Pr P w K mg base CX0 1 ["_law_make"] [] (He.ga K "_law_all_names")
    (fun vs H Q _ => ∃ (v : V) (W : Wld) (row : List Nat), vs = [v] ∧ Tp K H v (encW W) ∧ WOk W ∧ row.Perm W.names ∧ Rise row ∧ ∀ H', Same H H' → Q (.str (str row)) H') := by
  refine T.d__law_all_names.pr scs_law_all_names (fun vs H Q E h => ?_) (fun cdv A outer s H vs Q E hr h => ?_)
  · obtain ⟨v, W, row, rfl, _⟩ := h
    rfl
  · obtain ⟨v, W, row0, rfl, hv, ok, hp, hri, q⟩ := h
    refine ⟨_, (pss_one (ps_ret (pe_join pe_str (pe_callB cr_sortedS (by rfl) T.z_sorted (by decide +kernel) (pa_cons (pe_lc (own := [("_law_kind_here", 1)]) rfl scs_law_all_names.nd (pi_tup (pe_ix ix_tup (pv 0) pe_int (fun _ _ => rfl))) (blkOk_by (N := ["_law_make", "_law_kind_here"]) (sc := defScope s_law_all_names) (by decide +kernel)) (fun _ _ _ _ _ => (pg_name (i := 1) scs_law_all_names.nd rfl (.inl rfl) (.inr rfl))) (fun _ _ _ _ _ => pts_nil) (fun _ _ _ _ _ => (pe_ix (ix_tupK (K := K) rfl) (pv 1) pe_int (fun _ _ => rfl)))) pa_nil))))), ?_⟩
    obtain ⟨a, kv, se, rfl, ha, hk, hse⟩ := wld_inv hv
    obtain ⟨ka, xs, rfl, hka, lx, tx⟩ := knds_inv hk
    have kl := ok.kl
    refine ⟨⟨_, rfl⟩, _, rfl, a, _, 1, _, rfl, rfl, ha, rfl, ka, rfl, ⟨xs, hka⟩, fun D hD => lc_map (walk_tup (xs := xs)) hD (by omega) (fun H' s' => s'.tup hka) (fun i acc _ => acc = (W.kinds.take i).map fun k => V.str (one k.name)) (fun _ _ _ _ _ h => h) rfl (fun i y H1 H2 acc k ks hi1 s1 a1 l1 y hk _ => ?_) fun H4 acc s4 eD lD aD => ?_⟩
    · obtain ⟨rfl, g⟩ := y
      obtain ⟨r, gr, tr⟩ := knds_at tx g
      obtain ⟨a, b, rfl, ha, _⟩ := knd_inv (tr.same s1)
      refine ⟨rfl, yes_if ⟨_, rfl, a, _, 0, _, rfl, rfl, ha, rfl, hk _ _ (Same.refl _) ?_⟩⟩
      rw [a1, take_snoc gr, List.map_append]
      rfl
    have aD' : acc = (W.names.map one).map V.str := by
      rw [aD, lx, List.take_length, Wld.names, List.map_map, List.map_map]
      rfl
    rw [aD'] at eD
    have nl : W.names.length = W.kinds.length := by simp [Wld.names]
    refine ⟨D, W.names.map one, rfl, .inl (.inl eD), by rw [List.length_map]; omega, fun ys p pm so np => ?_⟩
    obtain ⟨row, pr, rfl⟩ := perm_map_inv _ _ _ pm
    have rise := sorted_ones so (nodup_perm pr ok.nd)
    have er : row = row0 := rise_eq (pr.trans hp.symm) rise hri
    subst er
    have rl : row.length ≤ 2 := by rw [pr.length_eq]; omega
    refine ⟨("" : Str), p, row.map one, rfl, rfl, .inl (.inl (.inl upd_same)), ?_, ?_⟩
    · rw [sum_ones, List.length_map]
      show row.length + row.length * 0 ≤ _
      omega
    rw [join_ones]
    exact q _ (s4.trans (same_upd np))
theorem p__law_seat (T : Tx K mg) : Pr P w K mg base CX0 1 ["_law_make", "_law_ahead", "_law_behind"] [] (He.ga K "_law_seat")
    (fun vs H Q _ => ∃ (v x y : V) (W : Wld), vs = [v, x, y] ∧ Tp K H v (encW W) ∧ Q (.int (W.space : Nat)) H) := by
  refine T.d__law_seat.pr scs_law_seat (fun vs H Q E h => ?_) (fun cdv A outer s H vs Q E hr h => ?_)
  · obtain ⟨v, x, y, W, rfl, _⟩ := h
    rfl
  · obtain ⟨v, x, y, W, rfl, hv, q⟩ := h
    refine ⟨_, (pss_cons (ps_for PassesOwn.never rfl (pi_tup (pe_ix ix_tup (pv 0) pe_int (fun _ _ => rfl))) (pg_name (i := 3) scs_law_seat.nd rfl (.inl rfl) (.inl rfl))
      (pss_one (ps_if (pw_and (pt_cmpR op_eq (pe_ix ix_tup (pv 3) pe_int (fun _ _ => rfl)) (pv 1) (nomark _)) (pw_and1 (pt_cmpR op_eq (pe_ix ix_tup (pv 3) pe_int (fun _ _ => rfl)) (pv 2) (nomark _)))).pt
        (pss_one (ps_ret (pe_ix ix_tup (pv 3) pe_int (fun _ _ => rfl))))
        pss_nil)))
    (pss_one (ps_ret (pe_ix ix_tup (pv 0) pe_int (fun _ _ => rfl))))), ?_⟩
    obtain ⟨a, kv, se, rfl, ha, hk, hse⟩ := wld_inv hv
    refine ⟨_, rfl, a, _, 3, _, rfl, rfl, ha, rfl, se, rfl, ⟨[], hse⟩, for_it (walk_tup (xs := [])) (fun i σ H' => H' = H ∧ ∃ x3, σ = [some (.ref a), some x, some y, x3])
      ⟨rfl, _, rfl⟩ (fun i σ H' _ h => by rw [h.1]; exact hse) (fun i y σ H3' H3 hi h y => ?_) fun σ H3 h => ?_⟩
    · exact absurd hi (Nat.not_lt_zero _)
    · obtain ⟨e3, x3, rfl⟩ := h
      subst e3
      exact ⟨_, rfl, a, _, 2, _, rfl, rfl, ha, rfl, q⟩
theorem p__law_column (T : Tx K mg) : Pr P w K mg base CX0 2 ["_law_make", "_law_groups"] [] (He.ga K "_law_column")
    (fun vs H Q _ => ∃ (v : V) (W : Wld) (G : List Nat), vs = [v, .str (str G)] ∧ Tp K H v (encW W) ∧ WOk W ∧ GOk W G ∧ ∀ H' z s1 w1, Same H H' → SqT K H' z [.ref s1, .ref w1] → H' s1 = some (.lst (dlV W G G.length)) → H' w1 = some (.lst (frV W G G.length)) → Q (.ref z) H') := by
  refine T.d__law_column.pr scs_law_column (fun vs H Q E h => ?_) (fun cdv A outer s H vs Q E hr h => ?_)
  · obtain ⟨v, W, G, rfl, _⟩ := h
    rfl
  · obtain ⟨v, W, G, rfl, hv, ok, gok, q⟩ := h
    refine ⟨_, (pss_cons (ps_set (i := 2) scs_law_column.nd rfl (.inl rfl) (pe_lst (pa_cons pe_int pa_nil)))
    (pss_cons (ps_set (i := 3) scs_law_column.nd rfl (.inl rfl) (pe_lst (pa_cons pe_int pa_nil)))
    (pss_cons (ps_for PassesOwn.never rfl (pi_range2 (by rfl) T.z_range (pa_cons pe_int (pa_cons (pe_callB call_len_str (by rfl) T.z_len PySem.boot_len (pa_cons (pv 1) pa_nil)) pa_nil))) (pg_name (i := 4) scs_law_column.nd rfl (.inl rfl) (.inl rfl))
      (pss_cons (ps_asg (pcall (p__law_kind T) (hr.mono (by decide)) (by rfl) T.g__law_kind pass0 (pa_cons (pv 0) (pa_cons (pe_ix ix_str (pv 1) (pe_op op_sub (pv 4) pe_int) (fun _ _ => rfl)) pa_nil))) (pg_tup rfl (pgs_cons (pg_name (i := 5) scs_law_column.nd rfl (.inl rfl) (.inl rfl)) (pgs_cons (pg_name (i := 6) scs_law_column.nd rfl (.inl rfl) (.inl rfl)) pgs_nil))))
      (pss_cons (ps_expr (pe_bm PySem.F.plainAttrs_list PySem.F.slot_list_append PySem.F.type_list_append mt_appU (pv 2) (pa_cons (pe_op op_add (pe_ix ix_list (pv 2) (pe_un un_neg pe_int) (fun _ _ => rfl)) (pv 5)) pa_nil)))
      (pss_one (ps_expr (pe_bm PySem.F.plainAttrs_list PySem.F.slot_list_append PySem.F.type_list_append mt_appU (pv 3) (pa_cons (pe_op op_sub (pe_op op_sub (pe_ix ix_list (pv 3) (pe_un un_neg pe_int) (fun _ _ => rfl)) (pe_ix ix_tup (pe_ix ix_tup (pv 6) pe_int (fun _ _ => rfl)) pe_int (fun _ _ => rfl))) (pcall (p__law_seat T) (hr.mono (by decide)) (by rfl) T.g__law_seat pass0 (pa_cons (pv 0) (pa_cons (pe_ix ix_str (pv 1) (pe_op op_sub (pv 4) pe_int) (fun _ _ => rfl)) (pa_cons (pe_ix ix_str (pv 1) (pv 4) (fun _ _ => rfl)) pa_nil))))) pa_nil)))))))
    (pss_one (ps_ret (pe_tup (pa_cons (pv 2) (pa_cons (pv 3) pa_nil)))))))), ?_⟩
    refine ⟨by show 1 ≤ sizeLine; decide, fun a na => ?_⟩
    have s1 := same_upd (o := .lst [.int 0]) na
    have e1 : (upd H a (.lst [.int 0])) a = some (.lst [.int 0]) := upd_same
    generalize upd H a (.lst [.int 0]) = H1 at s1 e1 ⊢
    refine ⟨by show 1 ≤ sizeLine; decide, fun b nb => ?_⟩
    have s2 := same_upd (o := .lst [.int 0]) nb
    have e2 : (upd H1 b (.lst [.int 0])) b = some (.lst [.int 0]) := upd_same
    generalize upd H1 b (.lst [.int 0]) = H2 at s2 e2 ⊢
    have nab : a ≠ b := fun z => by rw [← z, e1] at nb; cases nb
    have nbH : H b = none := s1.back nb
    have gl := gok.l
    refine ⟨_, rfl, str G, rfl, by rw [str_len]; exact sz2 (by omega), ?_⟩
    rw [str_len]
    refine ⟨1, (G.length : Nat), rfl, by omega, for_it (walk_range (lo := 1) (n := ((G.length : Nat) - 1 : Int).toNat)) (fun i σ H' => Same H H' ∧ H' a = some (.lst (dlV W G (i + 1))) ∧ H' b = some (.lst (frV W G (i + 1))) ∧ ∃ x4 x5 x6, σ = [some v, some (.str (str G)), some (.ref a), some (.ref b), x4, x5, x6])
      ⟨s1.trans s2, by rw [s2 _ _ e1]; simp [dlV, delAt_zero], by rw [e2]; simp [frV, froAt_zero], _, _, _, rfl⟩ (fun i σ H' _ h => trivial) (fun i y σ H3' H3 hi h y => ?_) fun σ H3 h => ?_⟩
    · obtain ⟨s3, ea, eb, x4, x5, x6, rfl⟩ := h
      obtain ⟨rfl, rfl⟩ := y
      have hi1 : i + 1 < G.length := by omega
      have g1 : G[i]? = some G[i] := List.getElem?_eq_getElem (by omega)
      have g2 : G[i + 1]? = some G[i + 1] := List.getElem?_eq_getElem hi1
      generalize G[i] = c1 at g1
      generalize G[i + 1] = c2 at g2
      have m1 := gok.m c1 (List.mem_of_getElem? g1)
      have rok := ok.rows _ (kOf_mem m1).1
      have rlen : 0 < (kOf W c1).rows.length := by have := rok.len; omega
      have at1 : atI (str G).cps.toList (1 + (i : Nat) - 1) = some c1 := by
        rw [show (1 : Int) + (i : Nat) - 1 = (i : Nat) by omega, str_tl]
        exact atI_nat g1
      have at2 : atI (str G).cps.toList (1 + (i : Nat)) = some c2 := by
        rw [show (1 : Int) + (i : Nat) = ((i + 1 : Nat) : Int) by omega, str_tl]
        exact atI_nat g2
      have zG : (str G).length ≤ sizeLine := by rw [str_len]; exact sz2 (by omega)
      refine ⟨_, rfl, _, rfl, _, rfl, 1 + (i : Nat), 1, rfl, rfl, str G, 1 + (i : Nat) - 1, c1, rfl, rfl, zG, at1, v, W, c1, rfl, hv.same s3, ok, m1, fun H4 p rv s4 hp hrv => ?_⟩
      refine ⟨p, _, rfl, hp, rfl, _, _, rfl, _, _, rfl, rfl, ?_⟩
      have ea4 := s4 _ _ ea
      have eb4 := s4 _ _ eb
      refine ⟨_, rfl, .inl ⟨rfl, _, .inl (.inl ea4)⟩, _, rfl, 1, rfl, a, _, -1, _, rfl, rfl, .inl (.inl ea4), by rw [dlV_succ]; exact atI_last _ _, _, rfl, (delAt W G i : Nat), (lgA W c1 : Nat), rfl, rfl, ?_⟩
      refine ⟨a, _, _, rfl, rfl, ea4, by rw [dlV_len]; omega, fun H5 b5 e5 => ?_⟩
      have s5 : Same H H5 := (s3.trans s4).sb na b5
      have eb5 := b5 _ _ nab.symm eb4
      have hr5 := hrv.kp (b5.kp ea4)
      obtain ⟨ra, xs, rfl, hra, lx, tx⟩ := rows_inv hr5
      obtain ⟨x, gx, tr⟩ := tx.get (i := 0) (by rw [List.getElem?_map, rowAt_of rlen]; rfl)
      obtain ⟨xr, xb, rfl, hxr, _, _⟩ := rowk_inv tr
      refine ⟨_, rfl, .inl ⟨rfl, _, .inl (.inl eb5)⟩, _, rfl, 1, rfl, b, _, -1, _, rfl, rfl, .inl (.inl eb5), by rw [frV_succ]; exact atI_last _ _, _, rfl, ra, xs, 0, _, rfl, rfl, hra, (atI_nat gx : atI xs ((0 : Nat) : Int) = _), xr, _, 1, _, rfl, rfl, hxr, rfl, froAt W G i, bdA W c1 0, rfl, rfl, ?_⟩
      refine ⟨_, rfl, _, rfl, _, rfl, 1 + (i : Nat), 1, rfl, rfl, str G, 1 + (i : Nat) - 1, c1, rfl, rfl, zG, at1, _, rfl, _, rfl, str G, 1 + (i : Nat), c2, rfl, rfl, zG, at2, v, _, _, W, rfl, hv.same s5, froAt W G i - bdA W c1 0, (W.space : Nat), rfl, rfl, ?_⟩
      refine ⟨b, _, _, rfl, rfl, eb5, by rw [frV_len]; omega, fun H6 b6 e6 => ?_⟩
      refine ⟨s5.sb nbH b6, ?_, ?_, _, _, _, rfl⟩
      · rw [b6 _ _ nab e5, dlV_succ W G (i + 1), delAt_succ g1, Int.natCast_add]
      · rw [e6, frV_succ W G (i + 1), froAt_succ g1]
    · obtain ⟨s3, ea, eb, x4, x5, x6, rfl⟩ := h
      rw [show ((G.length : Nat) - 1 : Int).toNat + 1 = G.length by omega] at ea eb
      refine ⟨_, rfl, _, rfl, by show 2 ≤ sizeLine; decide, fun z nz => ?_⟩
      have sz := same_upd (o := .tup [.ref a, .ref b]) nz
      exact q _ z a b (s3.trans sz) (.inl (.inl upd_same)) (sz _ _ ea) (sz _ _ eb)

end
end TH
end
section
set_option Elab.async false
set_option linter.all false
set_option maxRecDepth 100000
set_option maxHeartbeats 4000000
namespace TH
open PySem PySem.Spec PyProof.Rows L2
section
variable {P : Program} {w : World} {K : PySem.W.Frag} {mg : Str → Option Value} {base : Heap}
/-! the law's run -/
theorem lc_mapD {J : It} {n : Nat} {G : Hp → Prop} {Y : Nat → Hp → V → Hp → Prop} (w : Walk J n G Y) {g : TG} {tt : TT} {te : TE} {vs : List Nat} {σ : L2.St} {H1 : Hp} {D : Addr} {Qd : Hp → Prop} (hD : H1 D = none) (hn : n ≤ 2000) (hG : ∀ H', Same H1 H' → G H')
    (Acc : Nat → List V → Hp → Prop) (mono : ∀ i acc y H H', H D = some (.lst acc) → Sb D H H' → Acc i (acc ++ [y]) H → Acc i (acc ++ [y]) H') (a0 : ∀ H', Acc 0 [] H')
    (hs : ∀ i x H H' acc (k : VK) (ks : Hp → Prop), i < n → Same H1 H → Acc i acc H → acc.length ≤ i → Y i H x H' → (∀ y H4, Same H H4 → Acc (i + 1) (acc ++ [y]) H4 → k y H4) → (∀ H4, Same H H4 → Acc (i + 1) acc H4 → ks H4) →
      g x (wipe σ vs) H' fun σ2 H2 => wipe σ2 vs = wipe σ vs ∧ tt σ2 H2 fun b H3 => if b = true then te σ2 H3 k else ks H3)
    (hd : ∀ H2 acc, Same H1 H2 → H2 D = some (.lst acc) → acc.length ≤ n → Acc n acc H2 → Qd H2) :
    ∃ W : Nat → Nat → Hp → Prop, (∃ m, W 0 m (upd H1 D (.lst []))) ∧ ∀ i m H, W i m H →
      (J.stop i H ∧ Qd H) ∨ (J.go i H ∧ ∃ Nx : Hp → Prop, (∀ H', Nx H' → ∃ m', m' < m ∧ W (i + 1) m' H') ∧ ∀ x H', J.yld i H x H' → g x (wipe σ vs) H' fun σ2 H2 => wipe σ2 vs = wipe σ vs ∧ tt σ2 H2 fun b H3 =>
        if b = true then te σ2 H3 fun y H4 => ∃ acc, H4 D = some (.lst acc) ∧ acc.length < sizeLine ∧ Nx (upd H4 D (.lst (acc ++ [y]))) else Nx H3) := by
  refine lc_it w (fun i H => Same H1 H ∧ ∃ acc, H D = some (.lst acc) ∧ acc.length ≤ i ∧ Acc i acc H) ⟨same_upd hD, [], upd_same, Nat.le_refl _, a0 _⟩ (fun i H _ h => hG H h.1) (fun i x H H' hi h y => ?_) fun H h => ?_
  · obtain ⟨s1, acc, e1, l1, a1⟩ := h
    refine hs i x H H' acc _ _ hi s1 a1 l1 y (fun y H4 s4 a4 => ?_) fun H4 s4 a4 => ⟨s1.trans s4, acc, s4 _ _ e1, Nat.le_succ_of_le l1, a4⟩
    exact ⟨acc, s4 _ _ e1, sz2l (by omega), (s1.trans s4).sb hD sb_upd, acc ++ [y], upd_same, by simp; omega, mono _ _ _ _ _ (s4 _ _ e1) sb_upd a4⟩
  · obtain ⟨s1, acc, e1, l1, a1⟩ := h
    exact hd H acc s1 e1 l1 a1
def Trs (H : Hp) (W : Wld) (G X : List Nat) (n i : Nat) (acc : List V) : Prop := acc.length = i ∧ ∀ j c, j < i → G[j]? = some c → ∃ v, acc[j]? = some v ∧ Trc H W X n c v
theorem Trs.same {H H' : Hp} {W : Wld} {G X : List Nat} {n i : Nat} {acc : List V} (h : Trs H W G X n i acc) (s : Same H H') : Trs H' W G X n i acc := ⟨h.1, fun j c hj hc => by
  obtain ⟨v, e, t⟩ := h.2 j c hj hc
  exact ⟨v, e, t.same s⟩⟩
/-- the list of traces itself is none of the lists they hold -/
theorem Trs.mono {H H' : Hp} {W : Wld} {G X : List Nat} {n i : Nat} {acc : List V} {y : V} {D : Addr} (hi : i ≤ G.length) (e : H D = some (.lst acc)) (b : Sb D H H') (h : Trs H W G X n i (acc ++ [y])) : Trs H' W G X n i (acc ++ [y]) := by
  refine ⟨h.1, fun j c hj hc => ?_⟩
  obtain ⟨v, ev, z, s1, w1, rfl, hz, h1, h2⟩ := h.2 j c hj hc
  have ref0 : ∀ x, acc[0]? = some x → ∃ a, x = .ref a := fun x hx => by
    have l0 := (List.getElem?_eq_some_iff.mp hx).1
    have hl := h.1
    rw [List.length_append, List.length_singleton] at hl
    have g0 : G[0]? = some G[0] := List.getElem?_eq_getElem (by omega)
    obtain ⟨v, ev, z, _, _, rfl, _⟩ := h.2 0 G[0] (by omega) g0
    rw [List.getElem?_append_left l0, hx] at ev
    exact ⟨z, Option.some.inj ev⟩
  have nD : ∀ a xs x, H a = some (.lst (V.int x :: xs)) → a ≠ D := fun a xs x ha hz => by
    rw [hz, e] at ha
    have := Option.some.inj ha
    injection this with this
    obtain ⟨q, hq⟩ := ref0 (V.int x) (by rw [this]; rfl)
    cases hq
  refine ⟨.ref z, ev, z, s1, w1, rfl, b _ _ (fun q => by rw [q, e] at hz; cases hz) hz, b _ _ ?_ h1, b _ _ ?_ h2⟩
  · rw [stV, List.range_succ_eq_map] at h1
    exact nD _ _ _ h1
  · rw [wkV, List.range_succ_eq_map] at h2
    exact nD _ _ _ h2
structure RunRow (K : PySem.W.Frag) (H : Hp) (W : Wld) (G X : List Nat) (b : Nat) (v : V) : Prop where
  ex : ∃ p s1 f1 g1, v = .ref p ∧ SqT K H p [.ref s1, .ref f1, .ref g1] ∧ SqT K H s1 (stGV W G X b G.length) ∧ SqT K H f1 (frGV W G X b G.length) ∧ SqT K H g1 (gpGV W G X b (G.length - 1))
theorem RunRow.kp {H H' : Hp} {W : Wld} {G X : List Nat} {b : Nat} {v : V} (h : RunRow K H W G X b v) (s : Kp H H') : RunRow K H' W G X b v := by
  obtain ⟨p, s1, f1, g1, e, h0, h1, h2, h3⟩ := h.ex
  exact ⟨p, s1, f1, g1, e, s.tup h0, s.tup h1, s.tup h2, s.tup h3⟩
structure RunL (K : PySem.W.Frag) (H : Hp) (r : Addr) (W : Wld) (G X : List Nat) (n : Nat) (xs : List V) : Prop where
  e : H r = some (.lst xs)
  l : xs.length = n
  at' : ∀ b, b < n → ∃ v, xs[b]? = some v ∧ RunRow K H W G X b v
theorem RunL.same {H H' : Hp} {r : Addr} {W : Wld} {G X : List Nat} {n : Nat} {xs : List V} (h : RunL K H r W G X n xs) (s : Same H H') : RunL K H' r W G X n xs := ⟨s _ _ h.e, h.l, fun b hb => by
  obtain ⟨v, e, t⟩ := h.at' b hb
  exact ⟨v, e, t.kp (Kp.of s)⟩⟩
theorem RunL.snoc {H H' : Hp} {r : Addr} {W : Wld} {G X : List Nat} {n : Nat} {xs : List V} {v : V} (h : RunL K H r W G X n xs) (b : Sb r H H') (e : H' r = some (.lst (xs ++ [v]))) (t : RunRow K H W G X n v) : RunL K H' r W G X (n + 1) (xs ++ [v]) := by
  have kp := b.kp h.e
  refine ⟨e, by simp [h.l], fun j hj => ?_⟩
  by_cases ej : j = n
  · subst ej
    exact ⟨v, by rw [← h.l]; simp, t.kp kp⟩
  · obtain ⟨y, e', t'⟩ := h.at' j (by omega)
    exact ⟨y, by rw [List.getElem?_append_left (by rw [h.l]; omega)]; exact e', t'.kp kp⟩
theorem p__law_run (T : Tx K mg) : Pr P w K mg base CX0 4 ["_law_make", "_law_groups", "_law_text", "_law_moments"] [] (He.ga K "_law_run")
    (fun vs H Q _ => ∃ (v : V) (W : Wld) (G X : List Nat) (n : Nat), vs = [v, .str (str G), .str (str X), .int (n : Nat)] ∧ Tp K H v (encW W) ∧ WOk W ∧ GOk W G ∧ (∀ c ∈ X, c ∈ W.signs) ∧ X.length ≤ 1000 ∧ n ≤ 1400 ∧
      ∀ H' r xs, Same H H' → RunL K H' r W G X (n + 1) xs → Q (.ref r) H') := by
  refine T.d__law_run.pr scs_law_run (fun vs H Q E h => ?_) (fun cdv A outer s H vs Q E hr h => ?_)
  · obtain ⟨v, W, G, X, n, rfl, _⟩ := h
    rfl
  · obtain ⟨v, W, G, X, n, rfl, hv, ok, gok, hX, lX, ln, q⟩ := h
    refine ⟨_, (pss_cons (ps_asg (pcall (p__law_column T) (hr.mono (by decide)) (by rfl) T.g__law_column pass0 (pa_cons (pv 0) (pa_cons (pv 1) pa_nil))) (pg_tup rfl (pgs_cons (pg_name (i := 4) scs_law_run.nd rfl (.inl rfl) (.inl rfl)) (pgs_cons (pg_name (i := 5) scs_law_run.nd rfl (.inl rfl) (.inl rfl)) pgs_nil))))
    (pss_cons (ps_setLc (i := 6) (own := [("_law_name", 15)]) rfl scs_law_run.nd rfl rfl (sw_true rfl rfl rfl (by decide +kernel)) (pi_str (pv 1)) (blkOk_by (N := ["_law_make", "_law_groups", "_law_text", "_law_moments", "_law_delays", "_law_places", "_law_traces", "_law_found", "_law_beat", "_law_stands", "_law_fronts", "_law_at", "_law_heard", "_law_gaps", "_law_body", "_law_name"]) (sc := defScope s_law_run) (by decide +kernel)) (fun _ _ _ _ _ => (pg_name (i := 15) scs_law_run.nd rfl (.inl rfl) (.inr rfl))) (fun _ _ _ _ _ => pts_nil) (fun _ _ _ _ _ => (pcall (p__law_trace T) (hr.mono (by decide)) (by rfl) T.g__law_trace pass0 (pa_cons (pe_ix (ix_tupK (K := K) rfl) (pv 0) pe_int (fun _ _ => rfl)) (pa_cons (pe_ix (ix_tupK (K := K) rfl) (pcall (p__law_kind T) (hr.mono (by decide)) (by rfl) T.g__law_kind pass0 (pa_cons (pv 0) (pa_cons (pv 15) pa_nil))) pe_int (fun _ _ => rfl)) (pa_cons (pv 2) (pa_cons (pv 3) pa_nil)))))))
    (pss_cons (ps_set (i := 7) scs_law_run.nd rfl (.inl rfl) (pe_lst pa_nil))
    (pss_cons (ps_for PassesOwn.never rfl (pi_range1 (by rfl) T.z_range (pa_cons (pe_op op_add (pv 3) pe_int) pa_nil)) (pg_name (i := 8) scs_law_run.nd rfl (.inl rfl) (.inl rfl))
      (pss_cons (ps_set (i := 9) scs_law_run.nd rfl (.inl rfl) (pe_lst pa_nil))
      (pss_cons (ps_set (i := 10) scs_law_run.nd rfl (.inl rfl) (pe_lst pa_nil))
      (pss_cons (ps_for PassesOwn.never rfl (pi_range1 (by rfl) T.z_range (pa_cons (pe_callB call_len_str (by rfl) T.z_len PySem.boot_len (pa_cons (pv 1) pa_nil)) pa_nil)) (pg_name (i := 11) scs_law_run.nd rfl (.inl rfl) (.inl rfl))
        (pss_cons (ps_set (i := 12) scs_law_run.nd rfl (.inl rfl) (pe_callB (call_max2 rfl) (by rfl) T.z_max (by decide +kernel) (pa_cons pe_int (pa_cons (pe_op op_sub (pv 8) (pe_ix ix_list (pv 4) (pv 11) (fun _ _ => rfl))) pa_nil))))
        (pss_cons (ps_expr (pe_bm PySem.F.plainAttrs_list PySem.F.slot_list_append PySem.F.type_list_append mt_appU (pv 9) (pa_cons (pe_ix ix_list (pe_ix ix_tup (pe_ix ix_list (pv 6) (pv 11) (fun _ _ => rfl)) pe_int (fun _ _ => rfl)) (pv 12) (fun _ _ => rfl)) pa_nil)))
        (pss_one (ps_expr (pe_bm PySem.F.plainAttrs_list PySem.F.slot_list_append PySem.F.type_list_append mt_appU (pv 10) (pa_cons (pe_op op_add (pe_ix ix_list (pv 5) (pv 11) (fun _ _ => rfl)) (pe_ix ix_list (pe_ix ix_tup (pe_ix ix_list (pv 6) (pv 11) (fun _ _ => rfl)) pe_int (fun _ _ => rfl)) (pv 12) (fun _ _ => rfl))) pa_nil)))))))
      (pss_cons (ps_set (i := 13) scs_law_run.nd rfl (.inl rfl) (pe_lst pa_nil))
      (pss_cons (ps_for PassesOwn.never rfl (pi_range1 (by rfl) T.z_range (pa_cons (pe_op op_sub (pe_callB call_len_str (by rfl) T.z_len PySem.boot_len (pa_cons (pv 1) pa_nil)) pe_int) pa_nil)) (pg_name (i := 11) scs_law_run.nd rfl (.inl rfl) (.inl rfl))
        (pss_cons (ps_set (i := 14) scs_law_run.nd rfl (.inl rfl) (pe_ix ix_tup (pe_ix ix_tup (pe_ix ix_tup (pcall (p__law_kind T) (hr.mono (by decide)) (by rfl) T.g__law_kind pass0 (pa_cons (pv 0) (pa_cons (pe_ix ix_str (pv 1) (pv 11) (fun _ _ => rfl)) pa_nil))) pe_int (fun _ _ => rfl)) (pe_ix ix_list (pv 9) (pv 11) (fun _ _ => rfl)) (fun _ _ => rfl)) pe_int (fun _ _ => rfl)))
        (pss_one (ps_expr (pe_bm PySem.F.plainAttrs_list PySem.F.slot_list_append PySem.F.type_list_append mt_appU (pv 13) (pa_cons (pe_op op_sub (pe_op op_sub (pe_ix ix_list (pv 10) (pv 11) (fun _ _ => rfl)) (pv 14)) (pe_ix ix_list (pv 10) (pe_op op_add (pv 11) pe_int) (fun _ _ => rfl))) pa_nil))))))
      (pss_one (ps_expr (pe_bm PySem.F.plainAttrs_list PySem.F.slot_list_append PySem.F.type_list_append mt_appU (pv 7) (pa_cons (pe_tup (pa_cons (pe_callTy call_tupU (by rfl) T.z_tuple (by decide +kernel) (pa_cons (pv 9) pa_nil)) (pa_cons (pe_callTy call_tupU (by rfl) T.z_tuple (by decide +kernel) (pa_cons (pv 10) pa_nil)) (pa_cons (pe_callTy call_tupU (by rfl) T.z_tuple (by decide +kernel) (pa_cons (pv 13) pa_nil)) pa_nil)))) pa_nil))))))))))
    (pss_one (ps_ret (pv 7))))))), ?_⟩
    have gl := gok.l
    have wl := ok.wl
    have zG : (str G).length ≤ sizeLine := by rw [str_len]; exact sz2 (by omega)
    refine ⟨_, rfl, _, rfl, v, W, G, rfl, hv, ok, gok, fun H1 z dl pl s1 hz hdl hpl => ?_⟩
    refine ⟨z, _, rfl, hz, rfl, _, _, rfl, _, _, rfl, rfl, ?_⟩
    refine ⟨_, rfl, str G, rfl, fun D hD => lc_mapD (walk_str (z := str G)) hD (by rw [str_size]; omega) (fun H' s' => trivial) (fun i acc H' => i ≤ G.length ∧ Trs H' W G X n i acc) (fun i acc y H H' e b h => ⟨h.1, h.2.mono h.1 e b⟩) (fun _ => ⟨Nat.zero_le _, rfl, fun j c h => by omega⟩) (fun i y H2 H3 acc k ks hi s2 a2 l2 y hk _ => ?_) fun H2 acc s2 eD lD aD => ?_⟩
    · obtain ⟨rfl, c, hc, rfl⟩ := y
      rw [str_size] at hi
      have gc : G[i]? = some c := str_at hc
      have mc := gok.m c (List.mem_of_getElem? gc)
      have s02 := s1.trans s2
      obtain ⟨a, kv, se, rfl, ha, hkv, hse⟩ := wld_inv (hv.same s02)
      refine ⟨rfl, yes_if ⟨_, rfl, a, _, 0, _, rfl, rfl, ha, rfl, _, rfl, _, rfl, .ref a, W, c, rfl, hv.same s02, ok, mc, fun H4 p rv s4 hp hrv => ?_⟩⟩
      refine ⟨p, _, 1, _, rfl, rfl, hp, rfl, _, rfl, _, rfl, rv, W.words, X, (kOf W c).rows, n, rfl, hrv, ok.rows _ (kOf_mem mc).1, ok.wl.2, hX, lX, by omega, fun H5 z' q1 q2 s5 hz' hq1 hq2 => ?_⟩
      refine hk _ _ (s4.trans s5) ⟨hi, by simp [a2.2.1], fun j c' hj hc' => ?_⟩
      by_cases ej : j = i
      · subst ej
        rw [gc] at hc'
        cases hc'
        exact ⟨.ref z', by rw [← a2.2.1]; simp, z', q1, q2, rfl, hz', hq1, hq2⟩
      · obtain ⟨v', e', t'⟩ := a2.2.2 j c' (by omega) hc'
        exact ⟨v', by rw [List.getElem?_append_left (by rw [a2.2.1]; omega)]; exact e', t'.same (s4.trans s5)⟩
    · rw [str_size] at aD
      obtain ⟨_, tr⟩ := aD
      refine ⟨by show 0 ≤ sizeLine; decide, fun r nr => ?_⟩
      have s3 := same_upd (o := .lst []) nr
      have e3 : (upd H2 r (.lst [])) r = some (.lst []) := upd_same
      generalize upd H2 r (.lst []) = H3 at s3 e3 ⊢
      have hdl3 := (s2.trans s3) _ _ hdl
      have hpl3 := (s2.trans s3) _ _ hpl
      have eD3 := s3 _ _ eD
      have tr3 := tr.same s3
      have s03 := (s1.trans s2).trans s3
      have nrH : H r = none := (s1.trans s2).back nr
      refine ⟨_, rfl, (n : Nat), 1, rfl, rfl, ((n + 1 : Nat) : Int), rfl, by omega, by omega, for_it (walk_rn (n := n + 1)) (fun b σ H' => Same H H' ∧ Sb r H3 H' ∧ (∃ xs, RunL K H' r W G X b xs) ∧ ∃ x8 x9 x10 x11 x12 x13 x14 x15, σ = [some v, some (.str (str G)), some (.str (str X)), some (.int (n : Nat)), some (.ref dl), some (.ref pl), some (.ref D), some (.ref r), x8, x9, x10, x11, x12, x13, x14, x15])
        ⟨s03, Sb.refl _ _, ⟨[], e3, rfl, fun b hb => by omega⟩, _, _, _, _, _, _, _, _, rfl⟩ (fun i σ H' _ h => trivial) (fun b y σ H4' H4 hb h y => ?_) fun σ H4 h => ?_⟩
      · obtain ⟨s4, sb4, ⟨xs, rl⟩, x8, x9, x10, x11, x12, x13, x14, x15, rfl⟩ := h
        obtain ⟨rfl, rfl⟩ := y
        have s24 : Same H2 H4 := s3.sb nr sb4
        refine ⟨by show 0 ≤ sizeLine; decide, fun S nS => ?_⟩
        have s5 := same_upd (o := .lst []) nS
        have e5 : (upd H4 S (.lst [])) S = some (.lst []) := upd_same
        generalize upd H4 S (.lst []) = H5 at s5 e5 ⊢
        refine ⟨by show 0 ≤ sizeLine; decide, fun R nR => ?_⟩
        have s6 := same_upd (o := .lst []) nR
        have e6 : (upd H5 R (.lst [])) R = some (.lst []) := upd_same
        generalize upd H5 R (.lst []) = H6 at s6 e6 ⊢
        have nSR : S ≠ R := fun z => by rw [← z, e5] at nR; cases nR
        have nR4 : H4 R = none := s5.back nR
        refine ⟨_, rfl, str G, rfl, zG, (G.length : Nat), by rw [str_len], by omega, by omega, for_it (walk_rn (n := G.length)) (fun i σ H' => Same H4 H' ∧ H' S = some (.lst (stGV W G X b i)) ∧ H' R = some (.lst (frGV W G X b i)) ∧ ∃ x11 x12 x13 x14 x15, σ = [some v, some (.str (str G)), some (.str (str X)), some (.int (n : Nat)), some (.ref dl), some (.ref pl), some (.ref D), some (.ref r), some (.int (b : Nat)), some (.ref S), some (.ref R), x11, x12, x13, x14, x15])
          ⟨s5.trans s6, s6 _ _ e5, e6, _, _, _, _, _, rfl⟩ (fun i σ H' _ h => trivial) (fun i y σ H7' H7 hi h y => ?_) fun σ H7 h => ?_⟩
        · obtain ⟨s7, eS, eR, x11, x12, x13, x14, x15, rfl⟩ := h
          obtain ⟨rfl, rfl⟩ := y
          have gc : G[i]? = some G[i] := List.getElem?_eq_getElem hi
          generalize G[i] = c at gc
          have s27 := s24.trans s7
          obtain ⟨tv, htv, z1, q1, q2, rfl, hz1, h1, h2⟩ := tr.2 i c hi gc
          have hle : b - delAt W G i < n + 1 := by omega
          refine ⟨_, rfl, _, rfl, _, rfl, dl, _, (i : Nat), _, rfl, rfl, .inl (.inl ((s2.trans s27) _ _ hdl)), atI_nat (rng_at hi), (b : Nat), (delAt W G i : Nat), rfl, rfl, 0, ((b : Nat) : Int) - (delAt W G i : Nat), rfl, ?_⟩
          rw [max0]
          refine ⟨_, rfl, .inl ⟨rfl, _, .inl (.inl eS)⟩, _, rfl, _, rfl, D, acc, (i : Nat), _, rfl, rfl, .inl (.inl (s27 _ _ eD)), atI_nat htv, z1, _, 0, _, rfl, rfl, .inl (.inl (s27 _ _ hz1)), rfl, _, rfl, q1, _, ((b - delAt W G i : Nat) : Int), _, rfl, rfl, .inl (.inl (s27 _ _ h1)), atI_nat (stV_at hle), ?_⟩
          refine ⟨S, _, _, rfl, rfl, eS, by simp [stGV]; omega, fun H8 b8 e8 => ?_⟩
          have s8 : Same H4 H8 := s7.sb nS b8
          have s28 := s24.trans s8
          have eR8 := b8 _ _ nSR.symm eR
          refine ⟨_, rfl, .inl ⟨rfl, _, .inl (.inl eR8)⟩, _, rfl, _, rfl, pl, _, (i : Nat), _, rfl, rfl, .inl (.inl ((s2.trans s28) _ _ hpl)), atI_nat (rng_at hi), _, rfl, _, rfl, D, acc, (i : Nat), _, rfl, rfl, .inl (.inl (s28 _ _ eD)), atI_nat htv, z1, _, 1, _, rfl, rfl, .inl (.inl (s28 _ _ hz1)), rfl, _, rfl, q2, _, ((b - delAt W G i : Nat) : Int), _, rfl, rfl, .inl (.inl (s28 _ _ h2)), atI_nat (wkV_at hle), froAt W G i, _, rfl, rfl, ?_⟩
          refine ⟨R, _, _, rfl, rfl, eR8, by simp [frGV]; omega, fun H9 b9 e9 => ?_⟩
          refine ⟨s8.sb nR4 b9, ?_, ?_, _, _, _, _, _, rfl⟩
          · rw [b9 _ _ nSR e8]
            unfold stGV
            rw [rng_succ]
            unfold stG stA
            rw [gc]
            rfl
          · rw [e9]
            unfold frGV
            rw [rng_succ]
            unfold frG wkA
            rw [gc]
            rfl
        · obtain ⟨s7, eS, eR, x11, x12, x13, x14, x15, rfl⟩ := h
          refine ⟨by show 0 ≤ sizeLine; decide, fun g ng => ?_⟩
          have s8 := same_upd (o := .lst []) ng
          have e8 : (upd H7 g (.lst [])) g = some (.lst []) := upd_same
          generalize upd H7 g (.lst []) = H8 at s8 e8 ⊢
          have eS8 := s8 _ _ eS
          have eR8 := s8 _ _ eR
          refine ⟨_, rfl, str G, rfl, zG, ((str G).length : Nat), 1, rfl, rfl, ((G.length : Nat) - 1 : Int), by rw [str_len], by omega, by omega, for_it (walk_rn (n := ((G.length : Nat) - 1 : Int).toNat)) (fun i σ H' => Same H7 H' ∧ H' g = some (.lst (gpGV W G X b i)) ∧ ∃ x11 x12 x14 x15, σ = [some v, some (.str (str G)), some (.str (str X)), some (.int (n : Nat)), some (.ref dl), some (.ref pl), some (.ref D), some (.ref r), some (.int (b : Nat)), some (.ref S), some (.ref R), x11, x12, some (.ref g), x14, x15])
            ⟨s8, e8, _, _, _, _, rfl⟩ (fun i σ H' _ h => trivial) (fun i y σ H9' H9 hi h y => ?_) fun σ H9 h => ?_⟩
          · obtain ⟨s9, eg, x11, x12, x14, x15, rfl⟩ := h
            obtain ⟨rfl, rfl⟩ := y
            have hi1 : i + 1 < G.length := by omega
            have hi0 : i < G.length := by omega
            have gc : G[i]? = some G[i] := List.getElem?_eq_getElem hi0
            generalize G[i] = c at gc
            have mc := gok.m c (List.mem_of_getElem? gc)
            have hv9 : Tp K H9 v (encW W) := hv.same (s4.trans (s7.trans s9))
            refine ⟨_, rfl, _, rfl, _, rfl, str G, (i : Nat), c, rfl, rfl, zG, atI_nat (by rw [str_tl]; exact gc), v, W, c, rfl, hv9, ok, mc, fun H10 p rv s10 hp hrv => ?_⟩
            have sl : stG W G X b i < (kOf W c).rows.length := by
              have := stG_lt (T := X) (beat := b) ok gok hX hi0
              rwa [gc] at this
            obtain ⟨ra, rxs, rfl, hra, lx, tx⟩ := rows_inv hrv
            obtain ⟨x, gx, trr⟩ := tx.get (i := stG W G X b i) (by rw [List.getElem?_map, rowAt_of sl]; rfl)
            obtain ⟨xr, xb, rfl, hxr, _, _⟩ := rowk_inv trr
            have s710 := s9.trans s10
            refine ⟨p, _, 1, _, rfl, rfl, hp, rfl, _, rfl, _, rfl, S, _, (i : Nat), _, rfl, rfl, .inl (.inl (s710 _ _ eS)), atI_nat (rng_at hi0), ra, rxs, (stG W G X b i : Nat), _, rfl, rfl, hra, atI_nat gx, xr, _, 1, _, rfl, rfl, hxr, rfl, ?_⟩
            have eg10 := s10 _ _ eg
            refine ⟨_, rfl, .inl ⟨rfl, _, .inl (.inl eg10)⟩, _, rfl, _, rfl, R, _, (i : Nat), _, rfl, rfl, .inl (.inl (s710 _ _ eR)), atI_nat (rng_at hi0), _, rfl, frG W G X b i, _, rfl, rfl, _, rfl, _, rfl, (i : Nat), 1, rfl, rfl, R, _, ((i : Nat) + 1 : Int), _, rfl, rfl, .inl (.inl (s710 _ _ eR)), (atI_nat (rng_at hi1) : atI _ ((i + 1 : Nat) : Int) = _), _, _, rfl, rfl, ?_⟩
            refine ⟨g, _, _, rfl, rfl, eg10, by simp [gpGV]; omega, fun H11 b11 e11 => ?_⟩
            refine ⟨s710.sb ng b11, ?_, _, _, _, _, rfl⟩
            rw [e11]
            unfold gpGV
            rw [rng_succ]
            unfold gpG bdA
            rw [gc]
            rfl
          · obtain ⟨s9, eg, x11, x12, x14, x15, rfl⟩ := h
            rw [show ((G.length : Nat) - 1 : Int).toNat = G.length - 1 by omega] at eg
            have s49 := s7.trans s9
            refine ⟨_, rfl, .inl ⟨rfl, _, .inl (.inl (s49 _ _ rl.e))⟩, _, rfl, S, _, rfl, .inl (.inl (.inl (s9 _ _ eS))), fun u1 H10 s10 h10 => ?_⟩
            refine ⟨_, rfl, R, _, rfl, .inl (.inl (.inl (s10 _ _ (s9 _ _ eR)))), fun u2 H11 s11 h11 => ?_⟩
            refine ⟨_, rfl, g, _, rfl, .inl (.inl (.inl (s11 _ _ (s10 _ _ eg)))), fun u3 H12 s12 h12 => ?_⟩
            refine ⟨by show 3 ≤ sizeLine; decide, fun p np => ?_⟩
            have s13 := same_upd (o := .tup [.ref u1, .ref u2, .ref u3]) np
            have e13 : (upd H12 p (.tup [.ref u1, .ref u2, .ref u3])) p = some (.tup [.ref u1, .ref u2, .ref u3]) := upd_same
            generalize upd H12 p (.tup [.ref u1, .ref u2, .ref u3]) = H13 at s13 e13 ⊢
            have s413 := s49.trans (s10.trans (s11.trans (s12.trans s13)))
            have rl13 := rl.same s413
            refine ⟨r, xs, _, rfl, rfl, rl13.e, by rw [rl.l]; omega, fun H14 b14 e14 => ?_⟩
            refine ⟨(s4.trans s413).sb nrH b14, (sb4.trans (Sb.of s413)).trans b14, ⟨_, rl13.snoc b14 e14 ⟨p, u1, u2, u3, rfl, .inl (.inl e13), (s11.trans (s12.trans s13)).tup h10, (s12.trans s13).tup h11, s13.tup h12⟩⟩, _, _, _, _, _, _, _, _, rfl⟩
      · obtain ⟨s4, sb4, ⟨xs, rl⟩, x8, x9, x10, x11, x12, x13, x14, x15, rfl⟩ := h
        exact ⟨_, rfl, q _ r xs s4 rl⟩

end
end TH
end
section
set_option Elab.async false
set_option linter.all false
set_option maxRecDepth 100000
set_option maxHeartbeats 4000000
namespace TH
open PySem PySem.Spec PyProof.Rows L2
section
variable {P : Program} {w : World} {K : PySem.W.Frag} {mg : Str → Option Value} {base : Heap}
/-! arrives -/
theorem delAt_le {W : Wld} {G : List Nat} (ok : WOk W) (gok : GOk W G) : ∀ i, i ≤ G.length → delAt W G i ≤ 2 * i
  | 0, _ => by rw [delAt_zero]; exact Nat.le_refl _
  | i + 1, h => by
    have e : G[i]? = some G[i] := List.getElem?_eq_getElem (by omega)
    rw [delAt_succ e]
    have := delAt_le ok gok i (by omega)
    have m := gok.m _ (List.getElem_mem (show i < G.length by omega))
    have := (ok.lag _ (kOf_mem m).1).2
    unfold lgA
    omega
theorem delAt_mono {W : Wld} {G : List Nat} {i : Nat} : ∀ {j : Nat}, i ≤ j → j ≤ G.length → delAt W G i ≤ delAt W G j
  | 0, h, _ => by
    have : i = 0 := by omega
    rw [this]
    exact Nat.le_refl _
  | j + 1, h, hj => by
    rcases Nat.lt_or_ge i (j + 1) with l | l
    · have e : G[j]? = some G[j] := List.getElem?_eq_getElem (by omega)
      rw [delAt_succ e]
      exact Nat.le_trans (delAt_mono (by omega) (by omega)) (Nat.le_add_right _ _)
    · have : i = j + 1 := by omega
      rw [this]
      exact Nat.le_refl _
def endN (W : Wld) (G X : List Nat) (lo hi : Int) : Nat := delAt W G (G.length - 1) + X.length + (hi - lo + 3).toNat
def gpB (W : Wld) (G X : List Nat) (lo hi : Int) (b : Nat) : Prop := ∀ i, i < G.length - 1 → lo ≤ gpG W G X b i ∧ gpG W G X b i ≤ hi
structure Arr (W : Wld) (f : Nat → Nat) (G X : List Nat) (lo hi : Int) : Prop where
  gap : ∀ b, b < endN W G X lo hi + 1 → gpB W G X lo hi b
  st1 : ∀ i c, G[i]? = some c → stG W G X (delAt W G i + X.length) i = f c
  st2 : ∀ i c, G[i]? = some c → stG W G X (endN W G X lo hi) i = f c
theorem goal_at {W : Wld} {row goal : List Nat} {c : Nat} (gok : GoalOk W row goal) (hc : c ∈ row) : goal[row.idxOf c]? = some (goalOf row goal c) := by
  have il : row.idxOf c < goal.length := by
    rw [gok.l]
    exact List.idxOf_lt_length_of_mem hc
  unfold goalOf
  rw [List.getElem?_eq_getElem il]
  rfl
theorem p__law_arrives (T : Tx K mg) : Pr P w K mg base CX0 5 ["_law_raw", "_law_goal", "_law_groups", "_law_text", "_law_low", "_law_high"] [] (He.ga K "_law_arrives")
    (fun vs H Q _ => ∃ (v : V) (ga : Addr) (W : Wld) (row goal G X : List Nat) (lo hi : Int), vs = [v, .ref ga, .str (str G), .str (str X), .int lo, .int hi] ∧ Tp K H v (encW W) ∧ WOk W ∧ row.Perm W.names ∧ Rise row ∧ SqT K H ga (natsV goal) ∧ GoalOk W row goal ∧ GOk W G ∧ (∀ c ∈ X, c ∈ W.signs) ∧ X.length ≤ 1000 ∧ lo ≤ hi ∧ hi ≤ lo + 8 ∧
      ∀ H' b, Same H H' → (b = true ↔ Arr W (goalOf row goal) G X lo hi) → Q (.bl b) H') := by
  refine T.d__law_arrives.pr scs_law_arrives (fun vs H Q E h => ?_) (fun cdv A outer s H vs Q E hr h => ?_)
  · obtain ⟨v, ga, W, row, goal, G, X, lo, hi, rfl, _⟩ := h
    rfl
  · obtain ⟨v, ga, W, row, goal, G, X, lo, hi, rfl, hv, ok, pm, ri, hga, glk, gok, hX, lX, l1, l2, q⟩ := h
    refine ⟨_, (pss_cons (ps_set (i := 6) scs_law_arrives.nd rfl (.inl rfl) (pcall (p__law_all_names T) (hr.mono (by decide)) (by rfl) T.g__law_all_names pass0 (pa_cons (pv 0) pa_nil)))
    (pss_cons (ps_set (i := 7) scs_law_arrives.nd rfl (.inl rfl) (pe_ix ix_tup (pcall (p__law_column T) (hr.mono (by decide)) (by rfl) T.g__law_column pass0 (pa_cons (pv 0) (pa_cons (pv 2) pa_nil))) pe_int (fun _ _ => rfl)))
    (pss_cons (ps_set (i := 8) scs_law_arrives.nd rfl (.inl rfl) (pcall (p__law_run T) (hr.mono (by decide)) (by rfl) T.g__law_run pass0 (pa_cons (pv 0) (pa_cons (pv 2) (pa_cons (pv 3) (pa_cons (pe_op op_add (pe_op op_sub (pe_op op_add (pe_op op_add (pe_ix ix_list (pv 7) (pe_un un_neg pe_int) (fun _ _ => rfl)) (pe_callB call_len_str (by rfl) T.z_len PySem.boot_len (pa_cons (pv 3) pa_nil))) (pv 5)) (pv 4)) pe_int) pa_nil))))))
    (pss_cons (ps_for PassesOwn.never rfl (pi_list (pv 8)) (pg_tup rfl (pgs_cons (pg_name (i := 9) scs_law_arrives.nd rfl (.inl rfl) (.inl rfl)) (pgs_cons (pg_name (i := 10) scs_law_arrives.nd rfl (.inl rfl) (.inl rfl)) (pgs_cons (pg_name (i := 11) scs_law_arrives.nd rfl (.inl rfl) (.inl rfl)) pgs_nil))))
      (pss_one (ps_if (pt_truth (pe_lc (own := [("_law_gap", 13)]) rfl scs_law_arrives.nd (pi_tup (pv 11)) (blkOk_by (N := ["_law_raw", "_law_goal", "_law_groups", "_law_text", "_law_low", "_law_high", "_law_names_here", "_law_delays", "_law_rows", "_law_stands", "_law_fronts", "_law_gaps", "_law_at", "_law_gap"]) (sc := defScope s_law_arrives) (by decide +kernel)) (fun _ _ _ _ _ => (pg_name (i := 13) scs_law_arrives.nd rfl (.inl rfl) (.inr rfl))) (fun _ _ _ _ _ => (pts_one (pt_not (pt_chain op_le op_le (pv 4) (pv 13) (pv 5))))) (fun _ _ _ _ _ => (pv 13))) (fun _ => rfl))
        (pss_one (ps_ret pe_bl))
        pss_nil)))
    (pss_cons (ps_for PassesOwn.never rfl (pi_range1 (by rfl) T.z_range (pa_cons (pe_callB call_len_str (by rfl) T.z_len PySem.boot_len (pa_cons (pv 2) pa_nil)) pa_nil)) (pg_name (i := 12) scs_law_arrives.nd rfl (.inl rfl) (.inl rfl))
      (pss_cons (ps_if (pt_cmpR op_ne (pe_ix ix_tup (pe_ix ix_tup (pe_ix ix_list (pv 8) (pe_op op_add (pe_ix ix_list (pv 7) (pv 12) (fun _ _ => rfl)) (pe_callB call_len_str (by rfl) T.z_len PySem.boot_len (pa_cons (pv 3) pa_nil))) (fun _ _ => rfl)) pe_int (fun _ _ => rfl)) (pv 12) (fun _ _ => rfl)) (pe_ix ix_tup (pv 1) (pe_bm PySem.F.plainAttrs_str PySem.F.slot_str_index PySem.F.type_str_index mt_sindex (pv 6) (pa_cons (pe_ix ix_str (pv 2) (pv 12) (fun _ _ => rfl)) pa_nil)) (fun _ _ => rfl)) (nomark _))
        (pss_one (ps_ret pe_bl))
        pss_nil)
      (pss_one (ps_if (pt_cmpR op_ne (pe_ix ix_tup (pe_ix ix_tup (pe_ix ix_list (pv 8) (pe_un un_neg pe_int) (fun _ _ => rfl)) pe_int (fun _ _ => rfl)) (pv 12) (fun _ _ => rfl)) (pe_ix ix_tup (pv 1) (pe_bm PySem.F.plainAttrs_str PySem.F.slot_str_index PySem.F.type_str_index mt_sindex (pv 6) (pa_cons (pe_ix ix_str (pv 2) (pv 12) (fun _ _ => rfl)) pa_nil)) (fun _ _ => rfl)) (nomark _))
        (pss_one (ps_ret pe_bl))
        pss_nil))))
    (pss_one (ps_ret pe_bl))))))), ?_⟩
    have gl := gok.l
    have zG : (str G).length ≤ sizeLine := by rw [str_len]; exact sz2 (by omega)
    have zX : (str X).length ≤ sizeLine := by rw [str_len]; exact sz2 (by omega)
    refine ⟨_, rfl, v, W, row, rfl, hv, ok, pm, ri, fun H1 s1 => ?_⟩
    refine ⟨_, rfl, _, rfl, v, W, G, rfl, hv.same s1, ok, gok, fun H2 z dl pl s2 hz hdl hpl => ⟨z, _, 0, _, rfl, rfl, hz, rfl, ?_⟩⟩
    have dlast : dlV W G G.length = dlV W G (G.length - 1) ++ [.int (delAt W G (G.length - 1) : Nat)] := by
      have := dlV_succ W G (G.length - 1)
      rwa [show G.length - 1 + 1 = G.length by omega] at this
    obtain ⟨n, hn⟩ : ∃ n, endN W G X lo hi = n := ⟨_, rfl⟩
    have dle := delAt_le ok gok (G.length - 1) (by omega)
    have en : ((delAt W G (G.length - 1) : Nat) : Int) + ((str X).length : Nat) + hi - lo + 3 = (n : Nat) := by
      rw [← hn, str_len]
      unfold endN
      omega
    have n1400 : n ≤ 1400 := by
      rw [← hn]
      unfold endN
      omega
    refine ⟨_, rfl, _, rfl, _, rfl, _, rfl, 1, rfl, dl, _, -1, _, rfl, rfl, .inl (.inl hdl), by rw [dlast]; exact atI_last _ _, _, rfl, str X, rfl, zX, (delAt W G (G.length - 1) : Nat), ((str X).length : Nat), rfl, rfl, _, rfl, _, hi, rfl, rfl, _, rfl, _, lo, rfl, rfl, _, 3, rfl, rfl, ?_⟩
    refine ⟨v, W, G, X, n, congrArg (fun k => [v, V.str (str G), V.str (str X), V.int k]) en, hv.same (s1.trans s2), ok, gok, hX, lX, n1400, fun H3 r xs s3 rl => ?_⟩
    have s03 := (s1.trans s2).trans s3
    have hdl3 := s3 _ _ hdl
    refine ⟨_, rfl, r, rfl, ⟨xs, .inl (.inl rl.e)⟩, for_it (walk_list (xs := xs)) (fun i σ H' => Same H3 H' ∧ (∀ b, b < i → gpB W G X lo hi b) ∧ ∃ x9 x10 x11 x12 x13, σ = [some v, some (.ref ga), some (.str (str G)), some (.str (str X)), some (.int lo), some (.int hi), some (.str (str row)), some (.ref dl), some (.ref r), x9, x10, x11, x12, x13])
      ⟨Same.refl _, fun b hb => by omega, _, _, _, _, _, rfl⟩ (fun i σ H' _ h => .inl (.inl (h.1 _ _ rl.e))) (fun i y σ H4' H4 hi' h y => ?_) fun σ H4 h => ?_⟩
    · obtain ⟨s4, gd, x9, x10, x11, x12, x13, rfl⟩ := h
      obtain ⟨rfl, g⟩ := y
      have hin : i < n + 1 := by rw [rl.l] at hi'; exact hi'
      obtain ⟨rv, erv, rr⟩ := rl.at' i hin
      rw [g] at erv
      cases erv
      obtain ⟨p, u1, u2, u3, rfl, hp, h1, h2, h3⟩ := (rr.kp (Kp.of s4)).ex
      refine ⟨p, _, rfl, hp, rfl, _, _, rfl, _, _, rfl, _, _, rfl, rfl, ?_⟩
      refine ⟨_, rfl, u3, rfl, ⟨_, h3⟩, fun D hD => lc_map (walk_tup (xs := gpGV W G X i (G.length - 1))) hD (by rw [gpGV, rng_len]; omega) (fun H' s' => s'.tup h3) (fun j acc _ => (acc = [] ↔ ∀ k, k < j → lo ≤ gpG W G X i k ∧ gpG W G X i k ≤ hi)) (fun _ _ _ _ _ h => h) ⟨fun _ k hk => by omega, fun _ => rfl⟩ (fun j y H5 H6 acc k ks hj s5 a1 l1 y hk hks => ?_) fun H5 acc s5 eD lD aD => ?_⟩
      · obtain ⟨rfl, g5⟩ := y
        obtain ⟨hjl, rfl⟩ := rng_inv g5
        refine ⟨rfl, ?_⟩
        have step1 : (lo ≤ gpG W G X i j ∧ gpG W G X i j ≤ hi) → (acc = [] ↔ ∀ k, k < j + 1 → lo ≤ gpG W G X i k ∧ gpG W G X i k ≤ hi) := fun hh => by
          rw [a1]
          refine ⟨fun q k hk => ?_, fun q k hk => q k (by omega)⟩
          rcases Nat.lt_succ_iff_lt_or_eq.mp hk with h | h
          · exact q k h
          · rw [h]
            exact hh
        have step2 : ¬ (lo ≤ gpG W G X i j ∧ gpG W G X i j ≤ hi) → ∀ y, (acc ++ [y] = [] ↔ ∀ k, k < j + 1 → lo ≤ gpG W G X i k ∧ gpG W G X i k ≤ hi) := fun hh y =>
          ⟨fun q => absurd q (by simp), fun q => absurd (q j (Nat.lt_succ_self _)) hh⟩
        refine ⟨_, rfl, _, rfl, lo, _, rfl, rfl, _, rfl, iteD (fun h1 => ⟨_, rfl, _, hi, rfl, rfl, _, rfl, ite2 (fun e => ?_) (fun e => ?_)⟩) (fun h1 => ⟨_, rfl, ?_⟩)⟩
        · have h2 : ¬ gpG W G X i j ≤ hi := by simpa using e
          exact ⟨_, rfl, hk _ _ (Same.refl _) (step2 (fun z => h2 z.2) _)⟩
        · have h2 : gpG W G X i j ≤ hi := by simpa using e
          exact hks _ (Same.refl _) (step1 ⟨h1, h2⟩)
        · exact ⟨_, rfl, hk _ _ (Same.refl _) (step2 (fun z => h1 z.1) _)⟩
      · refine ⟨_, .inl ⟨acc, .inl (.inl eD), rfl⟩, ite2 (fun ne => ?_) (fun ne => ?_)⟩
        · have na : acc ≠ [] := fun z => by rw [z] at ne; exact absurd ne (by decide)
          refine q _ false (s03.trans (s4.trans s5)) ⟨fun z => (by cases z), fun z => absurd (aD.mpr fun k hk => z.gap i (by rw [hn]; exact hin) k (by rwa [gpGV, rng_len] at hk)) na⟩
        · have ea : acc = [] := by
            cases acc with
            | nil => rfl
            | cons _ _ => exact absurd rfl ne
          refine ⟨s4.trans s5, fun b hb => ?_, _, _, _, _, _, rfl⟩
          rcases Nat.lt_succ_iff_lt_or_eq.mp hb with h | h
          · exact gd b h
          · subst h
            exact fun k hk => aD.mp ea k (by rw [gpGV, rng_len]; exact hk)
    · obtain ⟨s4, gd, x9, x10, x11, x12, x13, rfl⟩ := h
      rw [rl.l] at gd
      have hga4 := (s03.trans s4).tup hga
      have rl4 := rl.same s4
      have hdl4 := s4 _ _ hdl3
      refine ⟨_, rfl, str G, rfl, zG, (G.length : Nat), by rw [str_len], by omega, by omega, for_it (walk_rn (n := G.length)) (fun i σ H' => H' = H4 ∧ (∀ j c, j < i → G[j]? = some c → stG W G X (delAt W G j + X.length) j = goalOf row goal c ∧ stG W G X n j = goalOf row goal c) ∧ ∃ x9 x10 x11 x12 x13, σ = [some v, some (.ref ga), some (.str (str G)), some (.str (str X)), some (.int lo), some (.int hi), some (.str (str row)), some (.ref dl), some (.ref r), x9, x10, x11, x12, x13])
        ⟨rfl, fun j c hj => by omega, _, _, _, _, _, rfl⟩ (fun i σ H' _ h => trivial) (fun i y σ H5' H5 hi' h y => ?_) fun σ H5 h => ?_⟩
      · obtain ⟨e5, gs, x9, x10, x11, x12, x13, rfl⟩ := h
        obtain ⟨rfl, rfl⟩ := y
        subst e5
        have gc : G[i]? = some G[i] := List.getElem?_eq_getElem hi'
        generalize G[i] = c at gc
        have mr : c ∈ row := pm.mem_iff.mpr (gok.m c (List.mem_of_getElem? gc))
        have gg := goal_at glk mr
        obtain ⟨rest, occ⟩ := idx_occ mr
        have d1 : delAt W G i + X.length < n + 1 := by
          have := delAt_mono (W := W) (G := G) (i := i) (j := G.length - 1) (by omega) (by omega)
          rw [← hn]
          unfold endN
          omega
        obtain ⟨v1, ev1, r1⟩ := rl4.at' _ d1
        obtain ⟨v2, ev2, r2⟩ := rl4.at' n (Nat.lt_succ_self _)
        obtain ⟨p1, a1, _, _, rfl, hp1, ha1, _, _⟩ := r1.ex
        obtain ⟨p2, a2, _, _, rfl, hp2, ha2, _, _⟩ := r2.ex
        have xl : xs = xs.take n ++ [.ref p2] := by
          have : xs = xs.take (n + 1) := by rw [List.take_of_length_le (by rw [rl.l]; exact Nat.le_refl _)]
          rw [take_snoc ev2] at this
          exact this
        have atx : atI xs (((delAt W G i : Nat) : Int) + ((str X).length : Nat)) = some (.ref p1) := by
          rw [str_len, ← Int.natCast_add]
          exact atI_nat ev1
        refine ⟨_, rfl, _, rfl, _, rfl, dl, _, (i : Nat), _, rfl, rfl, .inl (.inl hdl4), atI_nat (rng_at hi'), _, rfl, str X, rfl, zX, (delAt W G i : Nat), ((str X).length : Nat), rfl, rfl, r, xs, _, _, rfl, rfl, .inl (.inl rl4.e), atx, p1, _, 0, _, rfl, rfl, hp1, rfl, _, rfl, a1, _, (i : Nat), _, rfl, rfl, ha1, atI_nat (rng_at hi'), _, rfl, _, rfl, rfl, _, rfl, _, rfl, str G, (i : Nat), c, rfl, rfl, zG, atI_nat (by rw [str_tl]; exact gc), _, _, _, rest, rfl, rfl, occ, ga, _, (row.idxOf c : Nat), _, rfl, rfl, hga4, atI_nat (natsV_at gg), ?_⟩
        have sall : Same H H5 := s03.trans s4
        refine ⟨rfl, _, rfl, ite2 (fun e => ?_) (fun e => ?_)⟩
        · refine q _ false sall ⟨fun z => (by cases z), fun z => ?_⟩
          have := z.st1 i c gc
          rw [this] at e
          simp at e
        have t1 : stG W G X (delAt W G i + X.length) i = goalOf row goal c := by
          have : V.int (stG W G X (delAt W G i + X.length) i : Nat) = V.int (goalOf row goal c : Nat) := by simpa using e
          injection this with this
          exact Int.ofNat.inj this
        have xlast : atI xs (-1) = some (.ref p2) := by
          rw [xl]
          exact atI_last _ _
        refine ⟨_, rfl, 1, rfl, r, xs, -1, _, rfl, rfl, .inl (.inl rl4.e), xlast, p2, _, 0, _, rfl, rfl, hp2, rfl, _, rfl, a2, _, (i : Nat), _, rfl, rfl, ha2, atI_nat (rng_at hi'), _, rfl, _, rfl, rfl, _, rfl, _, rfl, str G, (i : Nat), c, rfl, rfl, zG, atI_nat (by rw [str_tl]; exact gc), _, _, _, rest, rfl, rfl, occ, ga, _, (row.idxOf c : Nat), _, rfl, rfl, hga4, atI_nat (natsV_at gg), ?_⟩
        refine ⟨rfl, _, rfl, ite2 (fun e => ?_) (fun e => ?_)⟩
        · refine q _ false sall ⟨fun z => (by cases z), fun z => ?_⟩
          have := z.st2 i c gc
          rw [hn] at this
          rw [this] at e
          simp at e
        have t2 : stG W G X n i = goalOf row goal c := by
          have : V.int (stG W G X n i : Nat) = V.int (goalOf row goal c : Nat) := by simpa using e
          injection this with this
          exact Int.ofNat.inj this
        refine ⟨rfl, fun j c' hj hc' => ?_, _, _, _, _, _, rfl⟩
        rcases Nat.lt_succ_iff_lt_or_eq.mp hj with h | h
        · exact gs j c' h hc'
        · subst h
          rw [gc] at hc'
          cases hc'
          exact ⟨t1, t2⟩
      · obtain ⟨e5, gs, x9, x10, x11, x12, x13, rfl⟩ := h
        subst e5
        refine q _ true (s03.trans s4) ⟨fun _ => ⟨by rw [hn]; exact gd, fun i c hc => (gs i c (List.getElem?_eq_some_iff.mp hc).1 hc).1, fun i c hc => by rw [hn]; exact (gs i c (List.getElem?_eq_some_iff.mp hc).1 hc).2⟩, fun _ => rfl⟩

end
end TH
end
section
set_option Elab.async false
set_option linter.all false
set_option maxRecDepth 100000
set_option maxHeartbeats 4000000
namespace TH
open PySem PySem.Spec PyProof.Rows L2
section
variable {P : Program} {w : World} {K : PySem.W.Frag} {mg : Str → Option Value} {base : Heap}
/-! single names, neighbours -/
theorem pl_inv {H : Hp} {v : V} {p : Pl} (h : Tp K H v (encPl p)) : ∃ a sv ev, v = .ref a ∧ SqT K H a [sv, .ref ev] ∧ Tp K H sv (encStates p.states) ∧ SqT K H ev (natsV p.ends) := by
  obtain ⟨a, xs, rfl, hs, _, ha⟩ := h.tup_inv
  cases ha with
  | cons h1 h2 =>
    cases h2 with
    | cons h2 h3 =>
      cases h3
      obtain ⟨b, ys, rfl, hb, lb, hy⟩ := h2.tup_inv
      rw [nats_inv hy] at hb
      exact ⟨a, _, b, rfl, hs, h1, hb⟩
theorem rst0 {H : Hp} {t o : Addr} {p : Pl} (nt : H t = none) (no : H o = none) (ne : t ≠ o) (hl : 1 ≤ p.states.length) : RSt H (upd (upd H t (.dK [(.inl 0, .bl true)])) o (.lst [.int 0])) t o p [0] := by
  have no' : (upd H t (.dK [(.inl 0, .bl true)])) o = none := by rw [upd_ne ne.symm]; exact no
  refine ⟨(same_upd nt).trans (same_upd no'), nt, no, ⟨by simp, fun s hs => ?_, fun s hs => ?_, by simp⟩, upd_same, _, by rw [upd_ne ne]; exact upd_same, fun j => ?_, by decide⟩
  · rw [List.mem_singleton.mp hs]
    omega
  · rw [List.mem_singleton.mp hs]
    exact .zero
  · by_cases ej : j = 0
    · subst ej
      rfl
    · have : ¬ (Sum.inl 0 : Key) = Sum.inl (j : Int) := fun z => ej (by
        have := Sum.inl.inj z
        omega)
      rw [valV_neg this, valV_nil]
      simp [ej]
theorem RSt.sbn {H H' H2 : Hp} {t o d : Addr} {p : Pl} {os : List Nat} (h : RSt H H' t o p os) (n : H d = none) (n1 : t ≠ d) (n2 : o ≠ d) (b : Sb d H' H2) : RSt H H2 t o p os := by
  obtain ⟨kvs, hk, m⟩ := h.met
  exact ⟨h.s.sb n b, h.ht, h.ho, h.ord, b _ _ n2 h.ol, kvs, b _ _ n1 hk, m⟩
theorem clos_ge {p : Pl} {os : List Nat} {i : Nat} (h : Closed p os i) (hi : os.length ≤ i) : Closed p os (i + 1) := fun j s st c s' _ hs hst hm => by
  have := (List.getElem?_eq_some_iff.mp hs).1
  exact h j s st c s' (by omega) hs hst hm
theorem clos_mono {p : Pl} {os : List Nat} {i j : Nat} (h : Closed p os i) (hi : j ≤ i) : Closed p os j := fun k s st c s' hk hs hst hm => h k s st c s' (by omega) hs hst hm
theorem take_ext {os os' : List Nat} {i : Nat} (e : os' = os ++ os'.drop os.length) (hi : i ≤ os.length) : os'.take i = os.take i := by
  rw [e, List.take_append_of_le_length hi]
theorem p__law_single_names (T : Tx K mg) : Pr P w K mg base CX0 1 ["_law_plan_here"] [] (He.ga K "_law_single_names")
    (fun vs H Q _ => ∃ (v : V) (p : Pl) (names : List Nat), vs = [v] ∧ Tp K H v (encPl p) ∧ PlOk names p ∧ ∀ H' l ks, Same H H' → H' l = some (.lst (ks.map fun c => V.str (one c))) → Kinds p ks → Q (.ref l) H') := by
  refine T.d__law_single_names.pr scs_law_single_names (fun vs H Q E h => ?_) (fun cdv A outer s H vs Q E hr h => ?_)
  · obtain ⟨v, p, names, rfl, _⟩ := h
    rfl
  · obtain ⟨v, p, names, rfl, hv, ok, q⟩ := h
    have hu := hu_of hr
    refine ⟨_, (pss_cons (ps_set (i := 1) scs_law_single_names.nd rfl (.inl rfl) (pe_disp (pps_cons pe_int pe_bl pps_nil) rfl rfl (by decide) (by decide)))
    (pss_cons (ps_set (i := 2) scs_law_single_names.nd rfl (.inl rfl) (pe_lst (pa_cons pe_int pa_nil)))
    (pss_cons (ps_set (i := 3) scs_law_single_names.nd rfl (.inl rfl) pe_dnewK)
    (pss_cons (ps_for PassesOwn.never rfl (pi_range1 (by rfl) T.z_range (pa_cons (pe_callB call_len_seq (by rfl) T.z_len PySem.boot_len (pa_cons (pe_ix ix_tup (pv 0) pe_int (fun _ _ => rfl)) pa_nil)) pa_nil)) (pg_name (i := 4) scs_law_single_names.nd rfl (.inl rfl) (.inl rfl))
      (pss_one (ps_if (pt_cmpR op_lt (pv 4) (pe_callB call_len_seq (by rfl) T.z_len PySem.boot_len (pa_cons (pv 2) pa_nil)) (nomark _))
        (pss_one (ps_for PassesOwn.never rfl (pi_tup (pe_ix ix_tup (pe_ix ix_tup (pv 0) pe_int (fun _ _ => rfl)) (pe_ix ix_list (pv 2) (pv 4) (fun _ _ => rfl)) (fun _ _ => rfl))) (pg_tup rfl (pgs_cons (pg_name (i := 5) scs_law_single_names.nd rfl (.inl rfl) (.inl rfl)) (pgs_cons (pg_name (i := 6) scs_law_single_names.nd rfl (.inl rfl) (.inl rfl)) pgs_nil)))
          (pss_cons (ps_dput hu (pv 3) (pv 5) pe_bl rfl)
          (pss_one (ps_if (pt_cmp (pc_dnotin hu (pv 6) (pv 1)))
            (pss_cons (ps_dput hu (pv 1) (pv 6) pe_bl rfl)
            (pss_one (ps_expr (pe_bm PySem.F.plainAttrs_list PySem.F.slot_list_append PySem.F.type_list_append mt_appU (pv 2) (pa_cons (pv 6) pa_nil)))))
            pss_nil)))))
        pss_nil)))
    (pss_one (ps_ret (pe_callB (call_sortedD rfl) (by rfl) T.z_sorted (by decide +kernel) (pa_cons (pv 3) pa_nil)))))))), ?_⟩
    obtain ⟨a, sv, ev, rfl, ha, tp, _⟩ := pl_inv hv
    obtain ⟨sa, xs, rfl, hs, _, hx⟩ := tp.tup_inv
    have lx : xs.length = p.states.length := by simpa using hx.length
    have pl : p.states.length ≤ 60 := by have := ok.len; omega
    have pl1 := ok.len
    intro t nt
    refine ⟨upd_same, [(.inl 0, .bl true)], rfl, by decide, ?_⟩
    rw [upd_upd, show mergeK [] [((.inl 0 : Key), V.bl true)] = [(.inl 0, .bl true)] from rfl]
    refine ⟨by show 1 ≤ sizeLine; decide, fun o no => ?_⟩
    have ne : t ≠ o := fun e => by
      rw [← e, upd_same] at no
      cases no
    have no' : H o = none := by
      rw [upd_ne ne.symm] at no
      exact no
    have r0 := rst0 (p := p) nt no' ne pl1.1
    generalize upd (upd H t (.dK [(.inl 0, .bl true)])) o (.lst [.int 0]) = H1 at r0 ⊢
    intro f nf
    have nft : t ≠ f := fun e => by
      obtain ⟨kvs, hk, _⟩ := r0.met
      rw [e, nf] at hk
      cases hk
    have nfo : o ≠ f := fun e => by
      have := r0.ol
      rw [e, nf] at this
      cases this
    have nf0 : H f = none := r0.s.back nf
    have r1 := r0.sbn nf0 nft nfo (sb_upd (o := .dK []))
    have cd0 : CD (upd H1 f (.dK [])) f ([0].take 0 |>.flatMap (namesOf p)) := ⟨[], upd_same, rfl⟩
    generalize upd H1 f (.dK []) = H2 at r1 cd0 ⊢
    refine ⟨_, rfl, a, _, 0, _, rfl, rfl, r1.s.tup ha, rfl, sa, xs, rfl, .inr (r1.s.tup hs), (xs.length : Nat), rfl, by omega, by omega, for_it (walk_rn (n := xs.length)) (fun i σ H' => (∃ os, RSt H H' t o p os ∧ Closed p os i ∧ CD H' f ((os.take i).flatMap (namesOf p))) ∧ ∃ x4 x5 x6, σ = [some (.ref a), some (.ref t), some (.ref o), some (.ref f), x4, x5, x6])
      ⟨⟨[0], r1, (fun j s st c s' hj => by omega), cd0⟩, _, _, _, rfl⟩ (fun i σ H' _ h => trivial) (fun i y σ H3' H3 hi h y => ?_) fun σ H3 h => ?_⟩
    · obtain ⟨⟨os, R, cl, cd⟩, x4, x5, x6, rfl⟩ := h
      obtain ⟨rfl, rfl⟩ := y
      have lo : os.length ≤ p.states.length := nodup_le R.ord.nd R.ord.lt
      refine ⟨_, rfl, _, rfl, o, natsV os, rfl, .inl (.inl (.inl R.ol)), (i : Nat), ((natsV os).length : Nat), rfl, rfl, _, rfl, ?_⟩
      rw [show (natsV os).length = os.length from List.length_map _]
      refine iteD (fun lt' => ?_) (fun ge => ?_)
      · have lt : i < os.length := by omega
        have gs : os[i]? = some os[i] := List.getElem?_eq_getElem lt
        have ls := R.ord.lt _ (List.mem_of_getElem? gs)
        have hro := R.ord.to _ (List.mem_of_getElem? gs)
        generalize os[i] = s0 at gs ls hro
        obtain ⟨_, xs', ta, ys, esa, hs', gx, hs2, hy⟩ := row_of tp ls
        cases esa
        have ly : ys.length = (stOf p s0).length := by simpa using hy.length
        refine ⟨_, rfl, a, _, 0, _, rfl, rfl, R.s.tup ha, rfl, _, rfl, _, rfl, o, _, (i : Nat), _, rfl, rfl, .inl (.inl R.ol), atI_nat (natsV_at gs), sa, xs', _, _, rfl, rfl, R.s.tup hs', atI_nat gx, ta, rfl, ⟨ys, R.s.tup hs2⟩, ?_⟩
        refine for_it (walk_tup (xs := ys)) (fun j σ H' => (∃ os', RSt H H' t o p os' ∧ os' = os ++ os'.drop os.length ∧ (∀ (k c n : Nat), k < j → (stOf p s0)[k]? = some (c, n) → n ∈ os') ∧ CD H' f ((os.take i).flatMap (namesOf p) ++ ((stOf p s0).take j).map (·.1))) ∧ ∃ x5 x6, σ = [some (.ref a), some (.ref t), some (.ref o), some (.ref f), some (.int (i : Nat)), x5, x6])
          ⟨⟨os, R, by simp, (fun j c n hj => by omega), by simpa using cd⟩, _, _, rfl⟩ (fun i σ H' _ h => by obtain ⟨⟨_, h, _⟩, _⟩ := h; exact h.s.tup hs2) (fun j y σ H4' H4 hj h y => ?_) fun σ H4 h => ?_
        · obtain ⟨⟨os', R', ex, hd, ⟨kvs, hk, ek⟩⟩, x5, x6, rfl⟩ := h
          obtain ⟨rfl, g⟩ := y
          obtain ⟨c, n, b, gq, rfl, hb⟩ := row_at hy g
          have hmem := List.mem_of_getElem? gq
          obtain ⟨st, est, hm⟩ := stOf_mem hmem
          have hn := ((stOf_ok ok _).2 _ hmem).2
          have hreach : Reach p n := .step hro est hm
          refine ⟨b, _, rfl, R'.s.tup hb, rfl, _, _, rfl, _, _, rfl, rfl, ?_⟩
          have lk2 : kvs.length ≤ 100 := by
            have lk := CD.len ek
            have h1 : (((stOf p s0).take j).map (·.1)).length ≤ 2 := by
              have := (stOf_ok ok s0).1
              rw [List.length_map, List.length_take]
              omega
            have h2 := flat_len (namesOf p) 2 (os.take i) fun s _ => names_len ok s
            have h3 : (os.take i).length ≤ 2 := by rw [List.length_take]; omega
            simp only [List.length_append] at lk
            omega
          refine ⟨_, rfl, _, rfl, f, _, rfl, DPut.k (k := cKey c) hk (sz2l (by omega)), ?_⟩
          have cd5 : CD (upd H4 f (.dK (putK kvs (cKey c) (.bl true)))) f ((os.take i).flatMap (namesOf p) ++ ((stOf p s0).take (j + 1)).map (·.1)) := by
            rw [take_snoc gq, List.map_append, ← List.append_assoc]
            exact CD.put ek
          have R5 := R'.sbn nf0 nft nfo (sb_upd (o := .dK (putK kvs (cKey c) (.bl true))))
          generalize upd H4 f (.dK (putK kvs (cKey c) (.bl true))) = H5 at cd5 R5 ⊢
          obtain ⟨kvt, hkt, m, lkt⟩ := R5.met
          have lo' : os'.length ≤ p.states.length := nodup_le R5.ord.nd R5.ord.lt
          refine ⟨_, rfl, _, rfl, t, _, rfl, DGet.k (k := .inl (n : Int)) hkt, _, rfl, ?_⟩
          rw [m n]
          by_cases hin : n ∈ os'
          · refine iteNS hin ⟨⟨os', R5, ex, fun k c' n' hk' hq => ?_, cd5⟩, _, _, rfl⟩
            by_cases ej : k = j
            · subst ej
              rw [gq] at hq
              cases hq
              exact hin
            · exact hd k c' n' (by omega) hq
          · rw [decide_eq_false hin]
            refine iteT ⟨_, rfl, _, rfl, t, _, rfl, DPut.k (k := .inl (n : Int)) hkt (sz2l (by omega)), ?_⟩
            have eo : (upd H5 t (.dK (putK kvt (.inl (n : Int)) (.bl true)))) o = some (.lst (natsV os')) := by
              rw [upd_ne ne.symm]
              exact R5.ol
            refine ⟨_, rfl, .inl ⟨rfl, _, .inl (.inl eo)⟩, _, rfl, o, natsV os', _, rfl, rfl, eo, by rw [natsV, List.length_map]; omega, fun H6 b6 e6 => ?_⟩
            obtain ⟨kf, hkf, ekf⟩ := cd5
            refine ⟨⟨os' ++ [n], R5.add ne hin hn hreach pl hkt b6 e6, ?_, fun k c' n' hk' hq => ?_, ⟨kf, b6 _ _ nfo.symm (by rw [upd_ne nft.symm]; exact hkf), ekf⟩⟩, _, _, rfl⟩
            · have l1 : os.length ≤ os'.length := by rw [ex]; simp
              rw [List.drop_append_of_le_length l1, ← List.append_assoc, ← ex]
            · by_cases ej : k = j
              · subst ej
                rw [gq] at hq
                cases hq
                exact List.mem_append_right _ (List.mem_singleton.mpr rfl)
              · exact List.mem_append_left _ (hd k c' n' (by omega) hq)
        · obtain ⟨⟨os', R', ex, hd, cd'⟩, x5, x6, rfl⟩ := h
          have l1 : os.length ≤ os'.length := by rw [ex]; simp
          have e1 : os'.take (i + 1) = os.take i ++ [s0] := by rw [take_ext ex (by omega), take_snoc gs]
          refine ⟨⟨os', R', fun k s st c s' hk hks hst hm => ?_, ?_⟩, _, _, _, rfl⟩
          · skip
            by_cases ej : k = i
            · subst ej
              have e2 : os'[k]? = os[k]? := by rw [ex, List.getElem?_append_left lt]
              rw [e2, gs] at hks
              cases hks
              rw [← stOf_at hst] at hm
              obtain ⟨q', hq, eq⟩ := List.mem_iff_getElem.mp hm
              exact hd q' c s' (by rw [ly]; exact hq) (by rw [List.getElem?_eq_getElem hq, eq])
            · exact (cl.ext (by omega) ex) k s st c s' (by omega) hks hst hm
          · rw [e1, List.flatMap_append]
            rw [ly, List.take_length] at cd'
            simpa [namesOf] using cd'
      · have e1 : os.take (i + 1) = os.take i := by rw [List.take_of_length_le (by omega), List.take_of_length_le (by omega)]
        exact ⟨⟨os, R, clos_ge cl (by omega), by rw [e1]; exact cd⟩, _, _, _, rfl⟩
    · obtain ⟨⟨os, R, cl, ⟨kvs, hk2, ek2⟩⟩, x4, x5, x6, rfl⟩ := h
      have lo : os.length ≤ p.states.length := nodup_le R.ord.nd R.ord.lt
      have ro : Reached p os := R.ord.reached (clos_mono cl (by omega))
      rw [List.take_of_length_le (by omega)] at ek2
      have lt : (insAll (os.flatMap (namesOf p))).length ≤ 4 := by
        have := insAll_len (os.flatMap (namesOf p))
        have := flat_len (namesOf p) 2 os fun s _ => names_len ok s
        have := os_len ok ro
        omega
      refine ⟨_, rfl, f, kvs, (insAll (os.flatMap (namesOf p))).map one, rfl, .inl hk2, by rw [ek2, List.map_map]; rfl, by rw [List.length_map]; omega, fun ys p' pm _ np => ?_⟩
      obtain ⟨ks, pt, rfl⟩ := perm_map_inv _ _ _ pm
      have lk : ks.length ≤ 4 := by rw [pt.length_eq]; exact lt
      refine q _ p' ks (R.s.upd np) (by rw [onesV]; exact upd_same) ⟨fun a => ?_, lk, nodup_perm pt insAll_nodup⟩
      rw [pt.mem_iff, mem_insAll]
      exact kd_iff ro a

end
end TH
end
section
set_option Elab.async false
set_option linter.all false
set_option maxRecDepth 100000
set_option maxHeartbeats 4000000
namespace TH
open PySem PySem.Spec PyProof.Rows L2
section
variable {P : Program} {w : World} {K : PySem.W.Frag} {mg : Str → Option Value} {base : Heap}
/-! neighbours -/
theorem p__law_neighbours (T : Tx K mg) : Pr P w K mg base CX0 2 ["_law_plan_here"] [] (He.ga K "_law_neighbours")
    (fun vs H Q _ => ∃ (v : V) (p : Pl) (names : List Nat), vs = [v] ∧ Tp K H v (encPl p) ∧ PlOk names p ∧ ∀ H' l ys tw, Same H H' → H' l = some (.lst ys) → TpAll K H' ys (tw.map encPair) → Twos p tw → Q (.ref l) H') := by
  refine T.d__law_neighbours.pr scs_law_neighbours (fun vs H Q E h => ?_) (fun cdv A outer s H vs Q E hr h => ?_)
  · obtain ⟨v, p, names, rfl, _⟩ := h
    rfl
  · obtain ⟨v, p, names, rfl, hv, ok, q⟩ := h
    have hu := hu_of hr
    have hu65 := room65 hr
    refine ⟨_, (pss_cons (ps_set (i := 1) scs_law_neighbours.nd rfl (.inl rfl) (pe_disp (pps_cons pe_int pe_bl pps_nil) rfl rfl (by decide) (by decide)))
    (pss_cons (ps_set (i := 2) scs_law_neighbours.nd rfl (.inl rfl) (pe_lst (pa_cons pe_int pa_nil)))
    (pss_cons (ps_for PassesOwn.never rfl (pi_range1 (by rfl) T.z_range (pa_cons (pe_callB call_len_seq (by rfl) T.z_len PySem.boot_len (pa_cons (pe_ix ix_tup (pv 0) pe_int (fun _ _ => rfl)) pa_nil)) pa_nil)) (pg_name (i := 3) scs_law_neighbours.nd rfl (.inl rfl) (.inl rfl))
      (pss_one (ps_if (pt_cmpR op_lt (pv 3) (pe_callB call_len_seq (by rfl) T.z_len PySem.boot_len (pa_cons (pv 2) pa_nil)) (nomark _))
        (pss_one (ps_for PassesOwn.never rfl (pi_tup (pe_ix ix_tup (pe_ix ix_tup (pv 0) pe_int (fun _ _ => rfl)) (pe_ix ix_list (pv 2) (pv 3) (fun _ _ => rfl)) (fun _ _ => rfl))) (pg_tup rfl (pgs_cons (pg_name (i := 4) scs_law_neighbours.nd rfl (.inl rfl) (.inl rfl)) (pgs_cons (pg_name (i := 5) scs_law_neighbours.nd rfl (.inl rfl) (.inl rfl)) pgs_nil)))
          (pss_one (ps_if (pt_cmp (pc_dnotin hu (pv 5) (pv 1)))
            (pss_cons (ps_dput hu (pv 1) (pv 5) pe_bl rfl)
            (pss_one (ps_expr (pe_bm PySem.F.plainAttrs_list PySem.F.slot_list_append PySem.F.type_list_append mt_appU (pv 2) (pa_cons (pv 5) pa_nil)))))
            pss_nil))))
        pss_nil)))
    (pss_cons (ps_set (i := 6) scs_law_neighbours.nd rfl (.inl rfl) pe_dnewT)
    (pss_cons (ps_for PassesOwn.never rfl (pi_list (pv 2)) (pg_name (i := 7) scs_law_neighbours.nd rfl (.inl rfl) (.inl rfl))
      (pss_one (ps_for PassesOwn.never rfl (pi_tup (pe_ix ix_tup (pe_ix ix_tup (pv 0) pe_int (fun _ _ => rfl)) (pv 7) (fun _ _ => rfl))) (pg_tup rfl (pgs_cons (pg_name (i := 8) scs_law_neighbours.nd rfl (.inl rfl) (.inl rfl)) (pgs_cons (pg_name (i := 5) scs_law_neighbours.nd rfl (.inl rfl) (.inl rfl)) pgs_nil)))
        (pss_one (ps_for PassesOwn.never rfl (pi_tup (pe_ix ix_tup (pe_ix ix_tup (pv 0) pe_int (fun _ _ => rfl)) (pv 5) (fun _ _ => rfl))) (pg_tup rfl (pgs_cons (pg_name (i := 9) scs_law_neighbours.nd rfl (.inl rfl) (.inl rfl)) (pgs_cons (pg_name (i := 10) scs_law_neighbours.nd rfl (.inl rfl) (.inl rfl)) pgs_nil)))
          (pss_one (ps_dput hu (pv 6) (pe_tup (pa_cons (pv 8) (pa_cons (pv 9) pa_nil))) pe_bl rfl)))))))
    (pss_one (ps_ret (pe_callB (cr_sortedDT rfl hu65) (by rfl) T.z_sorted (by decide +kernel) (pa_cons (pv 6) pa_nil))))))))), ?_⟩
    obtain ⟨a, sv, ev, rfl, ha, tp, _⟩ := pl_inv hv
    obtain ⟨sa, xs, rfl, hs, _, hx⟩ := tp.tup_inv
    have lx : xs.length = p.states.length := by simpa using hx.length
    have pl : p.states.length ≤ 60 := by have := ok.len; omega
    have pl1 := ok.len
    intro t nt
    refine ⟨upd_same, [(.inl 0, .bl true)], rfl, by decide, ?_⟩
    rw [upd_upd, show mergeK [] [((.inl 0 : Key), V.bl true)] = [(.inl 0, .bl true)] from rfl]
    refine ⟨by show 1 ≤ sizeLine; decide, fun o no => ?_⟩
    have ne : t ≠ o := fun e => by
      rw [← e, upd_same] at no
      cases no
    have no' : H o = none := by
      rw [upd_ne ne.symm] at no
      exact no
    have r0 := rst0 (p := p) nt no' ne pl1.1
    generalize upd (upd H t (.dK [(.inl 0, .bl true)])) o (.lst [.int 0]) = H1 at r0 ⊢
    refine ⟨_, rfl, a, _, 0, _, rfl, rfl, r0.s.tup ha, rfl, sa, xs, rfl, .inr (r0.s.tup hs), (xs.length : Nat), rfl, by omega, by omega, for_it (walk_rn (n := xs.length)) (fun i σ H' => (∃ os, RSt H H' t o p os ∧ Closed p os i) ∧ ∃ x3 x4 x5 x6 x7 x8 x9 x10, σ = [some (.ref a), some (.ref t), some (.ref o), x3, x4, x5, x6, x7, x8, x9, x10])
      ⟨⟨[0], r0, (fun j s st c s' hj => by omega)⟩, _, _, _, _, _, _, _, _, rfl⟩ (fun i σ H' _ h => trivial) (fun i y σ H3' H3 hi h y => ?_) fun σ H3 h => ?_⟩
    · obtain ⟨⟨os, R, cl⟩, x3, x4, x5, x6, x7, x8, x9, x10, rfl⟩ := h
      obtain ⟨rfl, rfl⟩ := y
      have lo : os.length ≤ p.states.length := nodup_le R.ord.nd R.ord.lt
      refine ⟨_, rfl, _, rfl, o, natsV os, rfl, .inl (.inl (.inl R.ol)), (i : Nat), ((natsV os).length : Nat), rfl, rfl, _, rfl, ?_⟩
      rw [show (natsV os).length = os.length from List.length_map _]
      refine iteD (fun lt' => ?_) (fun ge => ?_)
      · have lt : i < os.length := by omega
        have gs : os[i]? = some os[i] := List.getElem?_eq_getElem lt
        have ls := R.ord.lt _ (List.mem_of_getElem? gs)
        have hro := R.ord.to _ (List.mem_of_getElem? gs)
        generalize os[i] = s0 at gs ls hro
        obtain ⟨_, xs', ta, ys, esa, hs', gx, hs2, hy⟩ := row_of tp ls
        cases esa
        have ly : ys.length = (stOf p s0).length := by simpa using hy.length
        refine ⟨_, rfl, a, _, 0, _, rfl, rfl, R.s.tup ha, rfl, _, rfl, _, rfl, o, _, (i : Nat), _, rfl, rfl, .inl (.inl R.ol), atI_nat (natsV_at gs), sa, xs', _, _, rfl, rfl, R.s.tup hs', atI_nat gx, ta, rfl, ⟨ys, R.s.tup hs2⟩, ?_⟩
        refine for_it (walk_tup (xs := ys)) (fun j σ H' => (∃ os', RSt H H' t o p os' ∧ os' = os ++ os'.drop os.length ∧ (∀ (k c n : Nat), k < j → (stOf p s0)[k]? = some (c, n) → n ∈ os')) ∧ ∃ x4 x5, σ = [some (.ref a), some (.ref t), some (.ref o), some (.int (i : Nat)), x4, x5, x6, x7, x8, x9, x10])
          ⟨⟨os, R, by simp, (fun j c n hj => by omega)⟩, _, _, rfl⟩ (fun i σ H' _ h => by obtain ⟨⟨_, h, _⟩, _⟩ := h; exact h.s.tup hs2) (fun j y σ H5' H5 hj h y => ?_) fun σ H4 h => ?_
        · obtain ⟨⟨os', R5, ex, hd⟩, x4, x5, rfl⟩ := h
          obtain ⟨rfl, g⟩ := y
          obtain ⟨c, n, b, gq, rfl, hb⟩ := row_at hy g
          have hmem := List.mem_of_getElem? gq
          obtain ⟨st, est, hm⟩ := stOf_mem hmem
          have hn := ((stOf_ok ok _).2 _ hmem).2
          have hreach : Reach p n := .step hro est hm
          refine ⟨b, _, rfl, R5.s.tup hb, rfl, _, _, rfl, _, _, rfl, rfl, ?_⟩
          obtain ⟨kvt, hkt, m, lkt⟩ := R5.met
          have lo' : os'.length ≤ p.states.length := nodup_le R5.ord.nd R5.ord.lt
          refine ⟨_, rfl, _, rfl, t, _, rfl, DGet.k (k := .inl (n : Int)) hkt, _, rfl, ?_⟩
          rw [m n]
          by_cases hin : n ∈ os'
          · refine iteNS hin ⟨⟨os', R5, ex, fun k c' n' hk' hq => ?_⟩, _, _, rfl⟩
            by_cases ej : k = j
            · subst ej
              rw [gq] at hq
              cases hq
              exact hin
            · exact hd k c' n' (by omega) hq
          · rw [decide_eq_false hin]
            refine iteT ⟨_, rfl, _, rfl, t, _, rfl, DPut.k (k := .inl (n : Int)) hkt (sz2l (by omega)), ?_⟩
            have eo : (upd H5 t (.dK (putK kvt (.inl (n : Int)) (.bl true)))) o = some (.lst (natsV os')) := by
              rw [upd_ne ne.symm]
              exact R5.ol
            refine ⟨_, rfl, .inl ⟨rfl, _, .inl (.inl eo)⟩, _, rfl, o, natsV os', _, rfl, rfl, eo, by rw [natsV, List.length_map]; omega, fun H6 b6 e6 => ?_⟩
            refine ⟨⟨os' ++ [n], R5.add ne hin hn hreach pl hkt b6 e6, ?_, fun k c' n' hk' hq => ?_⟩, _, _, rfl⟩
            · have l1 : os.length ≤ os'.length := by rw [ex]; simp
              rw [List.drop_append_of_le_length l1, ← List.append_assoc, ← ex]
            · by_cases ej : k = j
              · subst ej
                rw [gq] at hq
                cases hq
                exact List.mem_append_right _ (List.mem_singleton.mpr rfl)
              · exact List.mem_append_left _ (hd k c' n' (by omega) hq)
        · obtain ⟨⟨os', R', ex, hd⟩, x4, x5, rfl⟩ := h
          have l1 : os.length ≤ os'.length := by rw [ex]; simp
          refine ⟨⟨os', R', fun k s st c s' hk hks hst hm => ?_⟩, _, _, _, _, _, _, _, _, rfl⟩
          by_cases ej : k = i
          · subst ej
            have e2 : os'[k]? = os[k]? := by rw [ex, List.getElem?_append_left lt]
            rw [e2, gs] at hks
            cases hks
            rw [← stOf_at hst] at hm
            obtain ⟨q', hq, eq⟩ := List.mem_iff_getElem.mp hm
            exact hd q' c s' (by rw [ly]; exact hq) (by rw [List.getElem?_eq_getElem hq, eq])
          · exact (cl.ext (by omega) ex) k s st c s' (by omega) hks hst hm
      · exact ⟨⟨os, R, clos_ge cl (by omega)⟩, _, _, _, _, _, _, _, _, rfl⟩
    · obtain ⟨⟨os, R, cl⟩, x3, x4, x5, x6, x7, x8, x9, x10, rfl⟩ := h
      have lo : os.length ≤ p.states.length := nodup_le R.ord.nd R.ord.lt
      have ro : Reached p os := R.ord.reached (clos_mono cl (by omega))
      have s03 := R.s
      have eo3 := R.ol
      intro f nf
      have nfo : o ≠ f := fun e => by
        rw [e, nf] at eo3
        cases eo3
      have s3f : Same H3 (upd H3 f (.dT [])) := same_upd nf
      have nf0 : H f = none := s03.back nf
      refine ⟨_, rfl, o, rfl, ⟨_, .inl (.inl (s3f _ _ eo3))⟩, for_it (walk_list (xs := natsV os)) (fun i σ H' => Same H H' ∧ H' o = some (.lst (natsV os)) ∧ PD H' f ((os.take i).flatMap (pairsOf p)) ∧ ∃ x3 x4 x5 x7 x8 x9 x10, σ = [some (.ref a), some (.ref t), some (.ref o), x3, x4, x5, some (.ref f), x7, x8, x9, x10])
        ⟨s03.trans s3f, s3f _ _ eo3, ⟨[], upd_same, rfl⟩, _, _, _, _, _, _, _, rfl⟩ (fun i σ H' _ h => .inl (.inl h.2.1)) (fun i x σ H1' H2 hi h y => ?_) fun σ H' h => ?_⟩
      · obtain ⟨s2, e2, pd, x3, x4, x5, x7, x8, x9, x10, rfl⟩ := h
        obtain ⟨rfl, g⟩ := y
        obtain ⟨s', gs, rfl⟩ := nats_at g
        have ls := ro.lt _ (List.mem_of_getElem? gs)
        obtain ⟨_, xs1, ta, ys, esa, hs1, gx, hs2, hy⟩ := row_of tp ls
        cases esa
        have L0 : ((os.take i).flatMap (pairsOf p)).length ≤ 8 := by
          have := flat_len (pairsOf p) 4 (os.take i) fun s _ => pairs_len ok s
          have := os_len ok ro
          have : (os.take i).length ≤ 2 := by rw [List.length_take]; omega
          omega
        refine ⟨_, rfl, a, _, 0, _, rfl, rfl, s2.tup ha, rfl, _, rfl, sa, xs1, _, _, rfl, rfl, s2.tup hs1, atI_nat gx, ta, rfl, ⟨ys, s2.tup hs2⟩, ?_⟩
        refine for_it (walk_tup (xs := ys)) (fun j σ H' => Same H H' ∧ H' o = some (.lst (natsV os)) ∧ PD H' f ((os.take i).flatMap (pairsOf p) ++ ((stOf p s').take j).flatMap fun q => (stOf p q.2).map fun r => (q.1, r.1)) ∧ ∃ x5 x8 x9 x10, σ = [some (.ref a), some (.ref t), some (.ref o), x3, x4, x5, some (.ref f), some (.int (s' : Nat)), x8, x9, x10])
          ⟨s2, e2, by simpa using pd, _, _, _, _, rfl⟩ (fun i σ H' _ h => h.1.tup hs2) (fun j x σ H1'' H2' hj h y => ?_) fun σ H' h => ?_
        · obtain ⟨s3, e3, pd3, x5, x8, x9, x10, rfl⟩ := h
          obtain ⟨rfl, g⟩ := y
          obtain ⟨c, n, b, gq, rfl, hb⟩ := row_at hy g
          have ln := ((stOf_ok ok _).2 _ (List.mem_of_getElem? gq)).2
          obtain ⟨_, xs2, ta', ys', esa, hs', gx', hs2', hy'⟩ := row_of tp ln
          cases esa
          have L1 : (((stOf p s').take j).flatMap fun q => (stOf p q.2).map fun r => (q.1, r.1)).length ≤ 4 := by
            have h := flat_len (fun q : Nat × Nat => (stOf p q.2).map fun r => (q.1, r.1)) 2 ((stOf p s').take j) fun q _ => by
              rw [List.length_map]
              exact (stOf_ok ok _).1
            have := (stOf_ok ok s').1
            have : ((stOf p s').take j).length ≤ 2 := by rw [List.length_take]; omega
            omega
          refine ⟨b, _, rfl, s3.tup hb, rfl, _, _, rfl, _, _, rfl, rfl, ?_⟩
          refine ⟨_, rfl, a, _, 0, _, rfl, rfl, s3.tup ha, rfl, _, rfl, sa, xs2, _, _, rfl, rfl, s3.tup hs', atI_nat gx', ta', rfl, ⟨ys', s3.tup hs2'⟩, ?_⟩
          refine for_it (walk_tup (xs := ys')) (fun k σ H' => Same H H' ∧ H' o = some (.lst (natsV os)) ∧ PD H' f (((os.take i).flatMap (pairsOf p) ++ ((stOf p s').take j).flatMap fun q => (stOf p q.2).map fun r => (q.1, r.1)) ++ ((stOf p n).take k).map fun r => (c, r.1)) ∧ ∃ x9 x10, σ = [some (.ref a), some (.ref t), some (.ref o), x3, x4, some (.int (n : Nat)), some (.ref f), some (.int (s' : Nat)), some (.str (one c)), x9, x10])
            ⟨s3, e3, by simpa using pd3, _, _, rfl⟩ (fun i σ H' _ h => h.1.tup hs2') (fun k x σ H1'' H2' hk h y => ?_) fun σ H' h => ?_
          · obtain ⟨s4, e4, ⟨kvs, hk4, ek4⟩, x9, x10, rfl⟩ := h
            obtain ⟨rfl, g⟩ := y
            obtain ⟨c2, n2, b2, gq2, rfl, hb2⟩ := row_at hy' g
            refine ⟨b2, _, rfl, s4.tup hb2, rfl, _, _, rfl, _, _, rfl, rfl, ?_⟩
            have lk := PD.len (t := f) (H := H2') ek4
            have lk2 : kvs.length ≤ 100 := by
              have : (((stOf p n).take k).map fun r => (c, r.1)).length ≤ 2 := by
                have := (stOf_ok ok n).1
                rw [List.length_map, List.length_take]
                omega
              simp only [List.length_append] at lk
              omega
            refine ⟨_, rfl, _, rfl, _, rfl, by show 2 ≤ sizeLine; decide, fun u nu => ⟨f, _, rfl, DPut.t (kvs := kvs) (k := pKey (c, c2)) ?_ upd_same (sz2l (by omega)), ?_⟩⟩
            · rw [upd_ne (fun z => by rw [z, nu] at hk4; cases hk4)]
              exact hk4
            · have s5 : Same H (upd H2' u (.tup [.str (one c), .str (one c2)])) := s4.upd nu
              refine ⟨s5.sb nf0 sb_upd, ?_, ?_, _, _, rfl⟩
              · rw [upd_ne nfo, upd_ne (fun z => by rw [z, nu] at e4; cases e4)]
                exact e4
              · rw [take_snoc gq2, List.map_append, ← List.append_assoc]
                exact PD.put ek4
          · obtain ⟨s4, e4, pd4, x9, x10, rfl⟩ := h
            refine ⟨s4, e4, ?_, _, _, _, _, rfl⟩
            have ly : ys'.length = (stOf p n).length := by simpa using hy'.length
            rw [ly, List.take_length] at pd4
            rw [take_snoc gq, List.flatMap_append, ← List.append_assoc]
            simpa using pd4
        · obtain ⟨s3, e3, pd3, x5, x8, x9, x10, rfl⟩ := h
          refine ⟨s3, e3, ?_, _, _, _, _, _, _, _, rfl⟩
          have ly : ys.length = (stOf p s').length := by simpa using hy.length
          rw [ly, List.take_length] at pd3
          rw [take_snoc gs, List.flatMap_append]
          simpa [pairsOf] using pd3
      · obtain ⟨s2, e2, ⟨kvs, hk2, ek2⟩, x3, x4, x5, x7, x8, x9, x10, rfl⟩ := h
        have lo : (natsV os).length = os.length := by simp [natsV]
        rw [lo, List.take_length] at ek2
        refine ⟨_, rfl, f, kvs, (insAll (os.flatMap (pairsOf p))).map fun q => (one q.1, one q.2), rfl, hk2, by rw [ek2, List.map_map]; rfl, fun ys ll p' np pm ll tpy => ?_⟩
        rw [List.map_map] at pm
        obtain ⟨tw, pt, rfl⟩ := perm_map_inv _ _ _ pm
        have s3 : Same H (upd H' p' (.lst ys)) := s2.upd np
        have lt : tw.length ≤ 8 := by
          rw [pt.length_eq]
          have := insAll_len (os.flatMap (pairsOf p))
          have := flat_len (pairsOf p) 4 os fun s _ => pairs_len ok s
          have := os_len ok ro
          omega
        refine q _ p' ys tw s3 upd_same (tpy.same (same_upd np)) ⟨fun a => fun b => ?_, lt⟩
        rw [pt.mem_iff, mem_insAll]
        exact nb_iff ro a b

end
end TH
end
section
set_option Elab.async false
set_option linter.all false
set_option maxRecDepth 100000
set_option maxHeartbeats 4000000
namespace TH
open PySem PySem.Spec PyProof.Rows L2
section
variable {P : Program} {w : World} {K : PySem.W.Frag} {mg : Str → Option Value} {base : Heap}
/-! leads -/
def LeadB (W : Wld) (f : Nat → Nat) (ks : List Nat) (tw : List (Nat × Nat)) (X : List Nat) (lo hi : Int) : Prop := (∀ a ∈ ks, Arr W f [a] X lo hi) ∧ ∀ q ∈ tw, Arr W f [q.1, q.2] X lo hi
theorem encPair_inv {H : Hp} {v : V} {q : Nat × Nat} (h : Tp K H v (encPair q)) : ∃ a, v = .ref a ∧ SqT K H a [.str (one q.1), .str (one q.2)] := by
  obtain ⟨a, xs, rfl, hs, _, ha⟩ := h.tup_inv
  cases ha with
  | cons h1 h2 =>
    cases h2 with
    | cons h2 h3 =>
      cases h3
      rw [h1.str_inv, h2.str_inv] at hs
      exact ⟨a, rfl, hs⟩
theorem p__law_leads (T : Tx K mg) : Pr P w K mg base CX0 6 ["_law_raw", "_law_goal", "_law_singles", "_law_pairs", "_law_text", "_law_low", "_law_high"] [] (He.ga K "_law_leads")
    (fun vs H Q _ => ∃ (v : V) (ga sl pl : Addr) (W : Wld) (row goal X ks : List Nat) (ys : List V) (tw : List (Nat × Nat)) (lo hi : Int), vs = [v, .ref ga, .ref sl, .ref pl, .str (str X), .int lo, .int hi] ∧ Tp K H v (encW W) ∧ WOk W ∧ row.Perm W.names ∧ Rise row ∧ SqT K H ga (natsV goal) ∧ GoalOk W row goal ∧
      H sl = some (.lst (ks.map fun c => V.str (one c))) ∧ H pl = some (.lst ys) ∧ TpAll K H ys (tw.map encPair) ∧ (∀ a ∈ ks, a ∈ W.names) ∧ (∀ q ∈ tw, q.1 ∈ W.names ∧ q.2 ∈ W.names) ∧ (∀ c ∈ X, c ∈ W.signs) ∧ X.length ≤ 1000 ∧ lo ≤ hi ∧ hi ≤ lo + 8 ∧
      ∀ H' b, Same H H' → (b = true ↔ LeadB W (goalOf row goal) ks tw X lo hi) → Q (.bl b) H') := by
  refine T.d__law_leads.pr scs_law_leads (fun vs H Q E h => ?_) (fun cdv A outer s H vs Q E hr h => ?_)
  · obtain ⟨v, ga, sl, pl, W, row, goal, X, ks, ys, tw, lo, hi, rfl, _⟩ := h
    rfl
  · obtain ⟨v, ga, sl, pl, W, row, goal, X, ks, ys, tw, lo, hi, rfl, hv, ok, pm, ri, hga, glk, hsl, hpl, tpy, kn, tn, hX, lX, l1, l2, q⟩ := h
    refine ⟨_, (pss_cons (ps_for PassesOwn.never rfl (pi_list (pv 2)) (pg_name (i := 7) scs_law_leads.nd rfl (.inl rfl) (.inl rfl))
      (pss_one (ps_if (pt_not (pt_val (pcall (p__law_arrives T) (hr.mono (by decide)) (by rfl) T.g__law_arrives pass0 (pa_cons (pv 0) (pa_cons (pv 1) (pa_cons (pv 7) (pa_cons (pv 4) (pa_cons (pv 5) (pa_cons (pv 6) pa_nil)))))))))
        (pss_one (ps_ret pe_bl))
        pss_nil)))
    (pss_cons (ps_for PassesOwn.never rfl (pi_list (pv 3)) (pg_name (i := 8) scs_law_leads.nd rfl (.inl rfl) (.inl rfl))
      (pss_one (ps_if (pt_not (pt_val (pcall (p__law_arrives T) (hr.mono (by decide)) (by rfl) T.g__law_arrives pass0 (pa_cons (pv 0) (pa_cons (pv 1) (pa_cons (pe_op op_add_str (pe_ix ix_tup (pv 8) pe_int (fun _ _ => rfl)) (pe_ix ix_tup (pv 8) pe_int (fun _ _ => rfl))) (pa_cons (pv 4) (pa_cons (pv 5) (pa_cons (pv 6) pa_nil)))))))))
        (pss_one (ps_ret pe_bl))
        pss_nil)))
    (pss_one (ps_ret pe_bl)))), ?_⟩
    refine ⟨_, rfl, sl, rfl, ⟨_, .inl (.inl hsl)⟩, for_it (walk_list (xs := ks.map fun c => V.str (one c))) (fun i σ H' => Same H H' ∧ (∀ j a, j < i → ks[j]? = some a → Arr W (goalOf row goal) [a] X lo hi) ∧ ∃ x7 x8, σ = [some v, some (.ref ga), some (.ref sl), some (.ref pl), some (.str (str X)), some (.int lo), some (.int hi), x7, x8])
      ⟨Same.refl _, fun j a hj => by omega, _, _, rfl⟩ (fun i σ H' _ h => .inl (.inl (h.1 _ _ hsl))) (fun i y σ H1' H1 hi' h y => ?_) fun σ H1 h => ?_⟩
    · obtain ⟨s1, pr, x7, x8, rfl⟩ := h
      obtain ⟨rfl, g⟩ := y
      obtain ⟨c, gc, rfl⟩ := map_at g
      have mc := List.mem_of_getElem? gc
      refine ⟨_, rfl, _, rfl, _, rfl, _, rfl, _, rfl, _, rfl, v, ga, W, row, goal, [c], X, lo, hi, rfl, hv.same s1, ok, pm, ri, s1.tup hga, glk, ⟨by simp only [List.length_cons, List.length_nil]; omega, fun d hd => by cases List.mem_singleton.mp hd; exact kn c mc⟩, hX, lX, l1, l2, fun H2 b s2 hb => ⟨b, rfl, ?_⟩⟩
      cases b with
      | false =>
        refine iteT (q _ false (s1.trans s2) ⟨fun z => (by cases z), fun z => ?_⟩)
        exact absurd (hb.mpr (z.1 c mc)) (by decide)
      | true =>
        refine iteF ⟨s1.trans s2, fun j a hj hja => ?_, _, _, rfl⟩
        rcases Nat.lt_succ_iff_lt_or_eq.mp hj with h | h
        · exact pr j a h hja
        · subst h
          rw [gc] at hja
          cases hja
          exact hb.mp rfl
    · obtain ⟨s1, pr, x7, x8, rfl⟩ := h
      rw [List.length_map] at pr
      refine ⟨_, rfl, pl, rfl, ⟨_, .inl (.inl (s1 _ _ hpl))⟩, for_it (walk_list (xs := ys)) (fun i σ H' => Same H H' ∧ (∀ j a, j < i → tw[j]? = some a → Arr W (goalOf row goal) [a.1, a.2] X lo hi) ∧ ∃ x7 x8, σ = [some v, some (.ref ga), some (.ref sl), some (.ref pl), some (.str (str X)), some (.int lo), some (.int hi), x7, x8])
        ⟨s1, fun j a hj => by omega, _, _, rfl⟩ (fun i σ H' _ h => .inl (.inl (h.1 _ _ hpl))) (fun i y σ H2' H2 hi' h y => ?_) fun σ H2 h => ?_⟩
      · obtain ⟨s2, pr2, x7, x8, rfl⟩ := h
        obtain ⟨rfl, g⟩ := y
        obtain ⟨k, gk, tk⟩ := tpy.at g
        obtain ⟨c, gc, rfl⟩ := map_at gk
        have mc := List.mem_of_getElem? gc
        obtain ⟨a, rfl, ha⟩ := encPair_inv (tk.same s2)
        have ec : one c.1 ++ one c.2 = str [c.1, c.2] := by
          rw [one_str, one_str, str_app]
          rfl
        refine ⟨_, rfl, _, rfl, _, rfl, a, _, 0, _, rfl, rfl, ha, rfl, _, rfl, a, _, 1, _, rfl, rfl, ha, rfl, one c.1, one c.2, rfl, rfl, by show 2 ≤ sizeLine; decide, ?_⟩
        rw [ec]
        refine ⟨_, rfl, _, rfl, _, rfl, v, ga, W, row, goal, [c.1, c.2], X, lo, hi, rfl, hv.same s2, ok, pm, ri, s2.tup hga, glk, ⟨by simp only [List.length_cons, List.length_nil]; omega, fun d hd => ?_⟩, hX, lX, l1, l2, fun H3 b s3 hb => ⟨b, rfl, ?_⟩⟩
        · rcases List.mem_cons.mp hd with rfl | hd
          · exact (tn c mc).1
          · cases List.mem_singleton.mp hd
            exact (tn c mc).2
        cases b with
        | false =>
          refine iteT (q _ false (s2.trans s3) ⟨fun z => (by cases z), fun z => ?_⟩)
          exact absurd (hb.mpr (z.2 c mc)) (by decide)
        | true =>
          refine iteF ⟨s2.trans s3, fun j a hj hja => ?_, _, _, rfl⟩
          rcases Nat.lt_succ_iff_lt_or_eq.mp hj with h | h
          · exact pr2 j a h hja
          · subst h
            rw [gc] at hja
            cases hja
            exact hb.mp rfl
      · obtain ⟨s2, pr2, x7, x8, rfl⟩ := h
        have ly : ys.length = tw.length := by simpa using tpy.length
        refine q _ true s2 ⟨fun _ => ⟨fun a ha => ?_, fun a ha => ?_⟩, fun _ => rfl⟩
        · obtain ⟨j, hj, e⟩ := List.mem_iff_getElem.mp ha
          exact pr j a hj (by rw [List.getElem?_eq_getElem hj, e])
        · obtain ⟨j, hj, e⟩ := List.mem_iff_getElem.mp ha
          exact pr2 j a (by rw [ly]; exact hj) (by rw [List.getElem?_eq_getElem hj, e])

end
end TH
end
section
set_option Elab.async false
set_option linter.all false
set_option maxRecDepth 100000
set_option maxHeartbeats 4000000
namespace TH
open PySem PySem.Spec PyProof.Rows L2
section
variable {P : Program} {w : World} {K : PySem.W.Frag} {mg : Str → Option Value} {base : Heap}
/-! longer, texts -/
def longer (ts : List (List Nat)) (sg : List Nat) : List (List Nat) := ts.flatMap fun t => sg.map fun c => t ++ [c]
def texts (sg : List Nat) : Nat → List (List Nat)
  | 0 => [[]]
  | n + 1 => longer (texts sg n) sg
theorem texts_mem {sg : List Nat} : ∀ {n : Nat} {t : List Nat}, t ∈ texts sg n → t.length = n ∧ ∀ c ∈ t, c ∈ sg
  | 0, t, h => by
    cases List.mem_singleton.mp h
    exact ⟨rfl, fun _ h => nomatch h⟩
  | n + 1, t, h => by
    obtain ⟨u, hu, ht⟩ := List.mem_flatMap.mp h
    obtain ⟨c, hc, rfl⟩ := List.mem_map.mp ht
    obtain ⟨h1, h2⟩ := texts_mem hu
    refine ⟨by simp [h1], fun d hd => ?_⟩
    rcases List.mem_append.mp hd with hd | hd
    · exact h2 d hd
    · cases List.mem_singleton.mp hd
      exact hc
theorem texts_len {sg : List Nat} (h : sg.length ≤ 3) : ∀ n, (texts sg n).length ≤ 3 ^ n
  | 0 => Nat.le_refl _
  | n + 1 => by
    have h1 := texts_len h n
    have h2 := flat_len (fun t : List Nat => sg.map fun c => t ++ [c]) 3 (texts sg n) fun t _ => by rw [List.length_map]; exact h
    have : (texts sg (n + 1)).length ≤ (texts sg n).length * 3 := h2
    rw [Nat.pow_succ]
    exact Nat.le_trans this (Nat.mul_le_mul_right 3 h1)
def txV (ts : List (List Nat)) : List V := ts.map fun t => V.str (str t)
theorem longer_take {ts : List (List Nat)} {sg : List Nat} {i : Nat} {t : List Nat} (h : ts[i]? = some t) : longer (ts.take (i + 1)) sg = longer (ts.take i) sg ++ sg.map fun c => t ++ [c] := by
  unfold longer
  rw [take_snoc h, List.flatMap_append]
  simp
theorem p__law_longer (T : Tx K mg) : Pr P w K mg base CX0 1 ["_law_texts_here", "_law_signs"] [] (He.ga K "_law_longer")
    (fun vs H Q _ => ∃ (l : Addr) (ts : List (List Nat)) (sg : List Nat), vs = [.ref l, .str (str sg)] ∧ H l = some (.lst (txV ts)) ∧ ts.length ≤ 200 ∧ sg.length ≤ 3 ∧ (∀ t ∈ ts, t.length ≤ 10) ∧ ∀ H' r, Same H H' → H' r = some (.lst (txV (longer ts sg))) → Q (.ref r) H') := by
  refine T.d__law_longer.pr scs_law_longer (fun vs H Q E h => ?_) (fun cdv A outer s H vs Q E hr h => ?_)
  · obtain ⟨l, ts, sg, rfl, _⟩ := h
    rfl
  · obtain ⟨l, ts, sg, rfl, hl, lt, ls, tl, q⟩ := h
    refine ⟨_, (pss_cons (ps_set (i := 2) scs_law_longer.nd rfl (.inl rfl) (pe_lst pa_nil))
    (pss_cons (ps_for PassesOwn.never rfl (pi_list (pv 0)) (pg_name (i := 3) scs_law_longer.nd rfl (.inr rfl) (.inl rfl))
      (pss_one (ps_expr (pe_bm PySem.F.plainAttrs_list PySem.F.slot_list_extend PySem.F.type_list_extend mt_extend (pv 2) (pa_cons (pe_lc (own := [("_law_sign", 4)]) rfl scs_law_longer.nd (pi_str (pv 1)) (blkOk_by (N := ["_law_texts_here", "_law_signs", "_law_out", "_law_text", "_law_sign"]) (sc := defScope s_law_longer) (by decide +kernel)) (fun _ _ _ _ _ => (pg_name (i := 4) scs_law_longer.nd rfl (.inl rfl) (.inr rfl))) (fun _ _ _ _ _ => pts_nil) (fun _ _ _ _ _ => (pe_op op_add_str (pv 3) (pv 4)))) pa_nil)))))
    (pss_one (ps_ret (pv 2))))), ?_⟩
    refine ⟨by show 0 ≤ sizeLine; decide, fun r nr => ?_⟩
    have s1 := same_upd (o := .lst []) nr
    have e1 : (upd H r (.lst [])) r = some (.lst []) := upd_same
    generalize upd H r (.lst []) = H1 at s1 e1 ⊢
    refine ⟨_, rfl, l, rfl, ⟨_, .inl (.inl (s1 _ _ hl))⟩, for_it (walk_list (xs := txV ts)) (fun i σ H' => Same H H' ∧ H' r = some (.lst (txV (longer (ts.take i) sg))) ∧ ∃ x3 x4, σ = [some (.ref l), some (.str (str sg)), some (.ref r), x3, x4])
      ⟨s1, e1, _, _, rfl⟩ (fun i σ H' _ h => .inl (.inl (h.1 _ _ hl))) (fun i y σ H2' H2 hi h y => ?_) fun σ H2 h => ?_⟩
    · obtain ⟨s2, er, x3, x4, rfl⟩ := h
      obtain ⟨rfl, g⟩ := y
      obtain ⟨t, gt, rfl⟩ := map_at g
      have tlen := tl t (List.mem_of_getElem? gt)
      refine ⟨_, rfl, .inl ⟨rfl, _, .inl (.inl er)⟩, _, rfl, str sg, rfl, fun D hD => lc_map (walk_str (z := str sg)) hD (by rw [str_size]; omega) (fun H' s' => trivial) (fun j acc _ => acc = txV ((sg.take j).map fun c => t ++ [c])) (fun _ _ _ _ _ h => h) rfl (fun j y H3 H4 acc k ks hj s3 a1 l1 y hk _ => ?_) fun H3 acc s3 eD lD aD => ?_⟩
      · obtain ⟨rfl, c, hc, rfl⟩ := y
        have gc : sg[j]? = some c := str_at hc
        refine ⟨rfl, yes_if ⟨_, rfl, _, rfl, str t, one c, rfl, rfl, by rw [str_len]; show t.length + 1 ≤ sizeLine; exact sz2 (by omega), hk _ _ (Same.refl _) ?_⟩⟩
        rw [a1, take_snoc gc, List.map_append, txV, txV, List.map_append, one_str, str_app]
        rfl
      · rw [str_size, List.take_length] at aD
        subst aD
        have er3 := s3 _ _ er
        have ll : (longer (ts.take i) sg).length ≤ 600 := by
          have := flat_len (fun t : List Nat => sg.map fun c => t ++ [c]) 3 (ts.take i) fun t _ => by rw [List.length_map]; exact ls
          have h2 : (longer (ts.take i) sg).length ≤ (ts.take i).length * 3 := this
          rw [List.length_take] at h2
          omega
        have z : (txV (longer (ts.take i) sg)).length + (txV (sg.map fun c => t ++ [c])).length ≤ sizeLine := by
          unfold txV
          rw [List.length_map, List.length_map, List.length_map]
          exact sz2 (by omega)
        refine ⟨r, D, _, _, rfl, rfl, er3, eD, z, ?_⟩
        refine ⟨(s2.trans s3).sb nr sb_upd, ?_, _, _, rfl⟩
        rw [upd_same, longer_take gt, txV, txV, txV, List.map_append]
    · obtain ⟨s2, er, x3, x4, rfl⟩ := h
      rw [show (txV ts).length = ts.length from List.length_map _, List.take_length] at er
      exact ⟨_, rfl, q _ r s2 er⟩
theorem p__law_texts (T : Tx K mg) : Pr P w K mg base CX0 2 ["_law_signs", "_law_size"] [] (He.ga K "_law_texts")
    (fun vs H Q _ => ∃ (sg : List Nat) (n : Nat), vs = [.str (str sg), .int (n : Nat)] ∧ sg.length ≤ 3 ∧ n ≤ 4 ∧ ∀ H' r, Same H H' → H' r = some (.lst (txV (texts sg n))) → Q (.ref r) H') := by
  refine T.d__law_texts.pr scs_law_texts (fun vs H Q E h => ?_) (fun cdv A outer s H vs Q E hr h => ?_)
  · obtain ⟨sg, n, rfl, _⟩ := h
    rfl
  · obtain ⟨sg, n, rfl, ls, ln, q⟩ := h
    refine ⟨_, (pss_cons (ps_set (i := 2) scs_law_texts.nd rfl (.inl rfl) (pe_lst (pa_cons pe_str pa_nil)))
    (pss_cons (ps_for PassesOwn.never rfl (pi_range1 (by rfl) T.z_range (pa_cons (pv 1) pa_nil)) (pg_name (i := 3) scs_law_texts.nd rfl (.inl rfl) (.inl rfl))
      (pss_one (ps_set (i := 2) scs_law_texts.nd rfl (.inl rfl) (pcall (p__law_longer T) (hr.mono (by decide)) (by rfl) T.g__law_longer pass0 (pa_cons (pv 2) (pa_cons (pv 0) pa_nil))))))
    (pss_one (ps_ret (pv 2))))), ?_⟩
    refine ⟨by show 1 ≤ sizeLine; decide, fun r nr => ?_⟩
    have s1 := same_upd (o := .lst [.str ("" : Str)]) nr
    have e1 : (upd H r (.lst [.str ("" : Str)])) r = some (.lst [.str ("" : Str)]) := upd_same
    generalize upd H r (.lst [.str ("" : Str)]) = H1 at s1 e1 ⊢
    refine ⟨_, rfl, (n : Nat), rfl, by omega, by omega, for_it (walk_rn (n := n)) (fun i σ H' => Same H H' ∧ ∃ r x3, H' r = some (.lst (txV (texts sg i))) ∧ σ = [some (.str (str sg)), some (.int (n : Nat)), some (.ref r), x3])
      ⟨s1, r, _, e1, rfl⟩ (fun i σ H' _ h => trivial) (fun i y σ H2' H2 hi h y => ?_) fun σ H2 h => ?_⟩
    · obtain ⟨s2, r2, x3, er, rfl⟩ := h
      obtain ⟨rfl, rfl⟩ := y
      have l1 := texts_len ls i
      have l2 : 3 ^ i ≤ 3 ^ 3 := Nat.pow_le_pow_right (by decide) (by omega)
      exact ⟨_, rfl, _, rfl, r2, texts sg i, sg, rfl, er, by omega, ls, fun t ht => by have := (texts_mem ht).1; omega, fun H3 r3 s3 e3 => ⟨s2.trans s3, r3, _, e3, rfl⟩⟩
    · obtain ⟨s2, r2, x3, er, rfl⟩ := h
      exact ⟨_, rfl, q _ r2 s2 er⟩

end
end TH
end
section
set_option Elab.async false
set_option linter.all false
set_option maxRecDepth 100000
set_option maxHeartbeats 4000000
namespace TH
open PySem PySem.Spec PyProof.Rows L2
section
variable {P : Program} {w : World} {K : PySem.W.Frag} {mg : Str → Option Value} {base : Heap}
/-! in_column -/
theorem p__law_in_column (T : Tx K mg) : Pr P w K mg base CX0 12 ["_law_make", "_law_raw", "_law_goal", "_law_groups", "_law_text", "_law_low", "_law_high"] [] (He.ga K "_law_in_column")
    (fun vs H Q _ => ∃ (m v : V) (ga : Addr) (W : Wld) (row goal G X : List Nat) (lo hi : Int), vs = [m, v, .ref ga, .str (str G), .str (str X), .int lo, .int hi] ∧ IsMake K H m W row ∧ Tp K H v (encW W) ∧ WOk W ∧ row.Perm W.names ∧ Rise row ∧ SqT K H ga (natsV goal) ∧ GoalOk W row goal ∧ GOk W G ∧ (∀ c ∈ X, c ∈ W.signs) ∧ X.length ≤ 400 ∧ 0 ≤ lo ∧ lo ≤ hi ∧ hi ≤ lo + 8 ∧ lo + 3 ≤ hi ∧ hi ≤ 60 ∧
      Arr W (goalOf row goal) G X lo hi ∧ ∀ H', Same H H' → Q (.bl true) H') := by
  refine T.d__law_in_column.pr scs_law_in_column (fun vs H Q E h => ?_) (fun cdv A outer s H vs Q E hr h => ?_)
  · obtain ⟨m, v, ga, W, row, goal, G, X, lo, hi, rfl, _⟩ := h
    rfl
  · obtain ⟨m, v, ga, W, row, goal, G, X, lo, hi, rfl, hm, hv, ok, pm, ri, hga, glk, gok, hX, lX, l0, l1, l2, l3, l4, arr, q⟩ := h
    have hu65 := room65 hr
    refine ⟨_, (pss_cons (ps_if (pt_not (pt_val (pcall (p__law_arrives T) (hr.mono (by decide)) (by rfl) T.g__law_arrives pass0 (pa_cons (pv 1) (pa_cons (pv 2) (pa_cons (pv 3) (pa_cons (pv 4) (pa_cons (pv 5) (pa_cons (pv 6) pa_nil)))))))))
      (pss_one (ps_ret pe_bl))
      pss_nil)
    (pss_cons (ps_set (i := 7) scs_law_in_column.nd rfl (.inl rfl) (pe_op op_add (pe_op op_add (pe_ix ix_list (pe_ix ix_tup (pcall (p__law_column T) (hr.mono (by decide)) (by rfl) T.g__law_column pass0 (pa_cons (pv 1) (pa_cons (pv 3) pa_nil))) pe_int (fun _ _ => rfl)) (pe_un un_neg pe_int) (fun _ _ => rfl)) (pe_callB call_len_str (by rfl) T.z_len PySem.boot_len (pa_cons (pv 4) pa_nil))) pe_int))
    (pss_cons (ps_set (i := 8) scs_law_in_column.nd rfl (.inl rfl) (pmake (p_Run_init T) T.mkr_Run (hr.mono (by decide)) (by rfl) T.g_Run pass0 (pa_cons (pmake (p_Column_init T) T.mkr_Column (hr.mono (by decide)) (by rfl) T.g_Column pass0 (pa_cons (pv 0) (pa_cons (pv 3) pa_nil))) (pa_cons (pv 4) (pa_cons (pv 7) pa_nil)))))
    (pss_cons (ps_set (i := 9) scs_law_in_column.nd rfl (.inl rfl) (pcall (p__law_run T) (hr.mono (by decide)) (by rfl) T.g__law_run pass0 (pa_cons (pv 1) (pa_cons (pv 3) (pa_cons (pv 4) (pa_cons (pv 7) pa_nil))))))
    (pss_one (ps_ret (pe_and (pe_cmpR op_isN (pmeth (p_Run_first_breach T) (pv 8) T.c_Run T.m_Run_first_breach (hr.mono (by decide)) pass0 (pa_cons (pe_tup (pa_cons (pv 5) (pa_cons (pv 6) pa_nil))) pa_nil)) pe_non (nomark _)) (pe_one (pe_cmpR (op_eqD (Nat.lt_of_succ_lt hu65)) (pmeth (p_Run_standings_at T) (pv 8) T.c_Run T.m_Run_standings_at (hr.mono (by decide)) pass0 (pa_cons (pv 7) pa_nil)) (pe_ix ix_tup (pe_ix ix_list (pv 9) (pe_un un_neg pe_int) (fun _ _ => rfl)) pe_int (fun _ _ => rfl)) (nomark _)))))))))), ?_⟩
    have gl := gok.l
    have zX : (str X).length ≤ sizeLine := by rw [str_len]; exact sz2 (by omega)
    have dle := delAt_le ok gok (G.length - 1) (by omega)
    refine ⟨_, rfl, _, rfl, _, rfl, _, rfl, _, rfl, _, rfl, v, ga, W, row, goal, G, X, lo, hi, rfl, hv, ok, pm, ri, hga, glk, gok, hX, by omega, l1, l2, fun H1 b s1 hb => ⟨b, rfl, ?_⟩⟩
    have eb : b = true := hb.mpr arr
    subst eb
    refine iteF ?_
    have dlast : dlV W G G.length = dlV W G (G.length - 1) ++ [.int (delAt W G (G.length - 1) : Nat)] := by
      have := dlV_succ W G (G.length - 1)
      rwa [show G.length - 1 + 1 = G.length by omega] at this
    refine ⟨_, rfl, _, rfl, v, W, G, rfl, hv.same s1, ok, gok, fun H2 z dl pl s2 hz hdl hpl => ⟨z, _, 0, _, rfl, rfl, hz, rfl, ?_⟩⟩
    refine ⟨1, rfl, dl, _, -1, _, rfl, rfl, .inl (.inl hdl), by rw [dlast]; exact atI_last _ _, _, rfl, str X, rfl, zX, (delAt W G (G.length - 1) : Nat), ((str X).length : Nat), rfl, rfl, _, 3, rfl, rfl, ?_⟩
    obtain ⟨n, hn⟩ : ∃ n, delAt W G (G.length - 1) + X.length + 3 = n := ⟨_, rfl⟩
    have en : ((delAt W G (G.length - 1) : Nat) : Int) + ((str X).length : Nat) + 3 = (n : Nat) := by
      rw [← hn, str_len]
      omega
    have ne : n ≤ endN W G X lo hi := by
      rw [← hn]
      unfold endN
      omega
    show gName 7 (.int (((delAt W G (G.length - 1) : Nat) : Int) + ((str X).length : Nat) + 3)) _ _ _
    rw [en]
    have s02 := s1.trans s2
    refine ⟨_, rfl, _, rfl, fun y dy ny nyd ned => ?_⟩
    have sm := made_same (C := He.ga K "Column") (fs := []) ny nyd ned
    refine ⟨y, dy, m, W, row, G, rfl, upd_same, (hm.same s02).same sm, ok, gok, fun H3 sb3 col => ⟨rfl, ?_⟩⟩
    have s3 : Same H2 H3 := Sb.same sm ny sb3
    refine ⟨_, rfl, _, rfl, fun y2 dy2 ny2 nyd2 ned2 => ?_⟩
    have sm2 := made_same (C := He.ga K "Run") (fs := []) ny2 nyd2 ned2
    refine ⟨y2, dy2, .ref y, W, row, G, X, n, rfl, upd_same, col.same sm2, ok, gok, hX, lX, by omega, fun H4 sb4 run => ⟨rfl, ?_⟩⟩
    have s4 : Same H3 H4 := Sb.same sm2 ny2 sb4
    have s04 := s02.trans (s3.trans s4)
    refine ⟨_, rfl, _, rfl, _, rfl, _, rfl, v, W, G, X, n, rfl, hv.same s04, ok, gok, hX, by omega, by omega, fun H5 r xs s5 rl => ?_⟩
    have run5 := run.same s5
    have ru5 := run5
    obtain ⟨ra, rdx, rra, rfa, rfs, cv, e, hra, m1, m2, m3, _⟩ := run5.ex
    cases e
    refine ⟨_, rfl, _, rdx, rfs, rfl, hra, m3, _, rfl, _, rfl, by show 2 ≤ sizeLine; decide, fun p np => ?_⟩
    have s6 := same_upd (o := .tup [.int lo, .int hi]) np
    have e6 : (upd H5 p (.tup [.int lo, .int hi])) p = some (.tup [.int lo, .int hi]) := upd_same
    generalize upd H5 p (.tup [.int lo, .int hi]) = H6 at s6 e6 ⊢
    refine ⟨_, .ref p, W, row, G, X, n, lo, hi, rfl, ru5.same s6, ok, gok, hX, .tup (.inl (.inl e6)) (by show 2 ≤ 2000; decide) (.cons (.int _) (.one (.int _))), l0, l1, l4, fun b i hb hi' => arr.gap b (by omega) i hi', fun H7 s7 => ⟨rfl, true, rfl, iteT ?_⟩⟩
    have s57 := s6.trans s7
    have ru7 := ru5.same s57
    obtain ⟨v2, ev2, r2⟩ := rl.at' n (Nat.lt_succ_self _)
    obtain ⟨p2, a2, _, _, rfl, hp2, ha2, _, _⟩ := (r2.kp (Kp.of s57)).ex
    have xl : xs = xs.take n ++ [.ref p2] := by
      have : xs = xs.take (n + 1) := by rw [List.take_of_length_le (by rw [rl.l]; exact Nat.le_refl _)]
      rw [take_snoc ev2] at this
      exact this
    have xlast : atI xs (-1) = some (.ref p2) := by
      rw [xl]
      exact atI_last _ _
    have en2 : stGV W G X n G.length = natsV ((List.range G.length).map (stG W G X n)) := by
      unfold stGV natsV
      rw [List.map_map]
      rfl
    refine ⟨_, rfl, _, rdx, rfs, rfl, s57 _ _ hra, m2, _, rfl, _, W, row, G, X, n, n, rfl, ru7, Nat.le_refl _, fun u hu => ?_⟩
    rw [en2] at hu ha2
    have lt : ∀ a, SqT K H7 a (natsV ((List.range G.length).map (stG W G X n))) → Tp K H7 (.ref a) (.tup (((List.range G.length).map (stG W G X n)).map kN)) := fun a h => .tup h (by rw [natsV, List.length_map, List.length_map, List.length_range]; omega) (nats_tp _)
    refine ⟨_, rfl, 1, rfl, r, xs, -1, _, rfl, rfl, .inl (.inl (s57 _ _ rl.e)), xlast, p2, _, 0, _, rfl, rfl, hp2, rfl, _, _, (lt u hu).dp, (lt a2 ha2).dp, shaped_nats _, shaped_nats _, ?_⟩
    have ee : PyData.eqv (nkD (.tup (((List.range G.length).map (stG W G X n)).map kN))) (nkD (.tup (((List.range G.length).map (stG W G X n)).map kN))) = decide (((List.range G.length).map (stG W G X n)) = ((List.range G.length).map (stG W G X n))) := eqv_nats _ _
    rw [ee, decide_eq_true rfl]
    exact q _ (s04.trans (s5.trans s57))

end
end TH
end
section
set_option Elab.async false
set_option linter.all false
set_option maxRecDepth 100000
set_option maxHeartbeats 4000000
namespace TH
open PySem PySem.Spec PyProof.Rows L2
section
variable {P : Program} {w : World} {K : PySem.W.Frag} {mg : Str → Option Value} {base : Heap}
/-! borne columns -/
structure Bn (p : Pl) (G : List Nat) (s : Nat) : Prop where
  r : Reach p s
  kd : ∀ a ∈ G, Kd p a
  nb : ∀ i a b : Nat, G[i]? = some a → G[i + 1]? = some b → Nb p a b
  la : ∀ a, G.getLast? = some a → ∃ s0 st, Reach p s0 ∧ p.states[s0]? = some st ∧ (a, s) ∈ st
theorem Bn.zero (p : Pl) : Bn p [] 0 := ⟨.zero, (fun _ h => nomatch h), (fun i a b h => by simp at h), (fun a h => by simp at h)⟩
theorem Bn.snoc {p : Pl} {G : List Nat} {s c s' : Nat} (h : Bn p G s) (m : (c, s') ∈ stOf p s) : Bn p (G ++ [c]) s' := by
  obtain ⟨st, est, hm⟩ := stOf_mem m
  refine ⟨.step h.r est hm, fun a ha => ?_, fun i a b h1 h2 => ?_, fun a ha => ?_⟩
  · rcases List.mem_append.mp ha with ha | ha
    · exact h.kd a ha
    · cases List.mem_singleton.mp ha
      exact ⟨s, st, s', h.r, est, hm⟩
  · by_cases hi : i + 1 < G.length
    · rw [List.getElem?_append_left (by omega)] at h1
      rw [List.getElem?_append_left hi] at h2
      exact h.nb i a b h1 h2
    · have l2 := (List.getElem?_eq_some_iff.mp h2).1
      rw [List.length_append, List.length_singleton] at l2
      have ei : i + 1 = G.length := by omega
      rw [ei, List.getElem?_append_right (Nat.le_refl _), Nat.sub_self] at h2
      have : c = b := by simpa using h2
      subst this
      rw [List.getElem?_append_left (by omega)] at h1
      obtain ⟨s0, st0, hr0, e0, m0⟩ := h.la a (by rw [List.getLast?_eq_getElem?, ← h1]; congr 1; omega)
      exact ⟨s0, st0, s, st, s', hr0, e0, m0, est, hm⟩
  · have : c = a := by simpa using ha
    subst this
    exact ⟨s, st, h.r, est, hm⟩
def Borne (p : Pl) (G : List Nat) : Prop := G.length ≤ 40 ∧ (∀ a ∈ G, Kd p a) ∧ ∀ i a b : Nat, G[i]? = some a → G[i + 1]? = some b → Nb p a b
theorem Borne.nil (p : Pl) : Borne p [] := ⟨Nat.zero_le _, (fun _ h => nomatch h), (fun i a b h => by simp at h)⟩
theorem Reach.lt {names : List Nat} {p : Pl} (ok : PlOk names p) {s : Nat} (h : Reach p s) : s < p.states.length := by
  cases h with
  | zero => have := ok.len; omega
  | step hr e m => exact ((ok.st _ (List.mem_of_getElem? e)).2.2 _ m).2
theorem p__law_borne_column (T : Tx K mg) : Pr P w K mg base CX0 3 ["_law_draw_here", "_law_plan_here", "_law_most"] [] (He.ga K "_law_borne_column")
    (fun vs H Q _ => ∃ (d ca : Addr) (cells : List Int) (v : V) (p : Pl) (names : List Nat), vs = [.ref d, v, .int 5] ∧ Dw H d ca cells ∧ Tp K H v (encPl p) ∧ PlOk names p ∧ ∀ H' G, Sb d H H' → Dw H' d ca cells → Borne p G → Q (.str (str G)) H') := by
  refine T.d__law_borne_column.pr scs_law_borne_column (fun vs H Q E h => ?_) (fun cdv A outer s H vs Q E hr h => ?_)
  · obtain ⟨d, ca, cells, v, p, names, rfl, _⟩ := h
    rfl
  · obtain ⟨d, ca, cells, v, p, names, rfl, hd, hv, ok, q⟩ := h
    refine ⟨_, (pss_cons (ps_set (i := 3) scs_law_borne_column.nd rfl (.inl rfl) pe_int)
    (pss_cons (ps_set (i := 4) scs_law_borne_column.nd rfl (.inl rfl) pe_str)
    (pss_cons (ps_for PassesOwn.never rfl (pi_range1 (by rfl) T.z_range (pa_cons (pe_op op_add (pcall (p__law_pick T) (hr.mono (by decide)) (by rfl) T.g__law_pick pass0 (pa_cons (pv 0) (pa_cons (pv 2) pa_nil))) pe_int) pa_nil)) (pg_name (i := 5) scs_law_borne_column.nd rfl (.inl rfl) (.inl rfl))
      (pss_cons (ps_if (pw_and (pt_truth (pv 4) (fun _ => rfl)) (pw_and (pt_cmpR op_in_seq (pv 3) (pe_ix ix_tup (pv 1) pe_int (fun _ _ => rfl)) rfl) (pw_and (pt_cmpR op_gt (pv 5) pe_int (nomark _)) (pw_and1 (pw_or (pt_cmpR op_ge (pv 5) (pv 2) (nomark _)) (pw_or1 (pt_cmpR op_eq (pcall (p__law_pick T) (hr.mono (by decide)) (by rfl) T.g__law_pick pass0 (pa_cons (pv 0) (pa_cons pe_int pa_nil))) pe_int (nomark _)))).pt)))).pt
        (pss_one (ps_ret (pv 4)))
        pss_nil)
      (pss_cons (ps_set (i := 6) scs_law_borne_column.nd rfl (.inl rfl) (pe_ix ix_tup (pe_ix ix_tup (pv 1) pe_int (fun _ _ => rfl)) (pv 3) (fun _ _ => rfl)))
      (pss_cons (ps_if (pt_not (pt_truth (pv 6) (fun _ => rfl)))
        (pss_one (ps_ret (pv 4)))
        pss_nil)
      (pss_cons (ps_asg (pe_ix ix_tup (pv 6) (pcall (p__law_pick T) (hr.mono (by decide)) (by rfl) T.g__law_pick pass0 (pa_cons (pv 0) (pa_cons (pe_callB call_len_seq (by rfl) T.z_len PySem.boot_len (pa_cons (pv 6) pa_nil)) pa_nil))) (fun _ _ => rfl)) (pg_tup rfl (pgs_cons (pg_name (i := 7) scs_law_borne_column.nd rfl (.inl rfl) (.inl rfl)) (pgs_cons (pg_name (i := 3) scs_law_borne_column.nd rfl (.inl rfl) (.inl rfl)) pgs_nil))))
      (pss_cons (ps_set (i := 4) scs_law_borne_column.nd rfl (.inl rfl) (pe_op op_add_str (pv 4) (pv 7)))
      (pss_one (ps_if (pt_cmpR op_gt (pe_callB call_len_str (by rfl) T.z_len PySem.boot_len (pa_cons (pv 4) pa_nil)) pe_int (nomark _))
        (pss_one (ps_ret pe_str))
        pss_nil))))))))
    (pss_cons (ps_if (pw_and (pt_truth (pv 4) (fun _ => rfl)) (pw_and1 (pt_cmpR op_in_seq (pv 3) (pe_ix ix_tup (pv 1) pe_int (fun _ _ => rfl)) rfl))).pt
      (pss_one (ps_ret (pv 4)))
      pss_nil)
    (pss_one (ps_ret pe_str)))))), ?_⟩
    refine ⟨_, rfl, _, rfl, d, ca, cells, 5, rfl, hd, by decide, fun H1 r1 sb1 dw1 h1 => ⟨(r1 : Nat), 20, rfl, rfl, ((r1 + 20 : Nat) : Int), congrArg (fun k => [V.int k]) (by omega : ((r1 : Nat) : Int) + 20 = ((r1 + 20 : Nat) : Int)), by omega, by omega, ?_⟩⟩
    obtain ⟨a, sv, ev, rfl, ha, tp, hev⟩ := pl_inv hv
    have fl : (natsV p.ends).all flatV = true := by
      unfold natsV
      rw [List.all_map, List.all_eq_true]
      exact fun _ _ => rfl
    refine for_it (walk_rn (n := r1 + 20)) (fun i σ H' => Sb d H H' ∧ Dw H' d ca cells ∧ ∃ G s0 x5 x6 x7, Bn p G s0 ∧ G.length ≤ 30 ∧ σ = [some (.ref d), some (.ref a), some (.int 5), some (.int (s0 : Nat)), some (.str (str G)), x5, x6, x7])
      ⟨sb1, dw1, [], 0, _, _, _, .zero p, Nat.zero_le _, rfl⟩ (fun i σ H' _ h => trivial) (fun i y σ H2' H2 hi h y => ?_) fun σ H2 h => ?_
    · obtain ⟨sb2, dw2, G, s0, x5, x6, x7, bn, lG, rfl⟩ := h
      obtain ⟨rfl, rfl⟩ := y
      have zG : (str G).length ≤ sizeLine := by rw [str_len]; exact sz2 (by omega)
      have bo : Borne p G := ⟨by omega, bn.kd, bn.nb⟩
      have k2 := hd.kp sb2
      refine ⟨_, rfl, _, ⟨zG, rfl⟩, ite2 (fun _ => ?_) (fun _ => iteF ?_)⟩
      · refine ⟨_, rfl, _, rfl, a, _, 1, _, rfl, rfl, k2.tup ha, rfl, ev, _, rfl, .inr (k2.tup hev), rfl, fl, _, rfl, ite2 (fun _ => ?_) (fun _ => iteF ?_)⟩
        · refine ⟨_, rfl, (i : Nat), 0, rfl, rfl, _, rfl, ite2 (fun _ => ?_) (fun _ => iteF ?_)⟩
          · refine ⟨_, rfl, _, rfl, (i : Nat), 5, rfl, rfl, _, rfl, ite2 (fun _ => iteT ?_) (fun _ => ?_)⟩
            · exact ⟨_, rfl, q _ G sb2 dw2 bo⟩
            · refine ⟨_, rfl, d, ca, cells, 3, rfl, dw2, by decide, fun H3 r3 sb3 dw3 h3 => ⟨rfl, _, rfl, ite2 (fun _ => ?_) (fun _ => ?_)⟩⟩
              · exact ⟨_, rfl, q _ G (sb2.trans sb3) dw3 bo⟩
              · skip
                have sb23 := sb2.trans sb3
                have k3 := hd.kp sb23
                have ls := Reach.lt ok bn.r
                obtain ⟨sa, xs, ta, ys, rfl, hs', gx, hs2, hy⟩ := row_of tp ls
                refine ⟨_, rfl, a, _, 0, _, rfl, rfl, k3.tup ha, rfl, _, rfl, sa, xs, (s0 : Nat), _, rfl, rfl, k3.tup hs', atI_nat gx, ?_⟩
                refine ⟨_, rfl, _, .inr (.inl ⟨ys, k3.tup hs2, rfl⟩), ite2 (fun _ => ?_) (fun ne => ?_)⟩
                · exact ⟨_, rfl, q _ G sb23 dw3 bo⟩
                · have pos : 0 < ys.length := by
                    cases ys with
                    | nil => exact absurd rfl ne
                    | cons _ _ => exact Nat.succ_pos _
                  have ly : ys.length = (stOf p s0).length := by simpa using hy.length
                  have ly2 := (stOf_ok ok s0).1
                  refine ⟨_, rfl, _, rfl, _, rfl, ta, ys, rfl, .inr (k3.tup hs2), d, ca, cells, ys.length, rfl, dw3, by omega, fun H4 r4 sb4 dw4 h4 => ?_⟩
                  have sb24 := sb23.trans sb4
                  have k4 := hd.kp sb24
                  have rl : r4 < ys.length := by omega
                  obtain ⟨c, n, b, gq, eb, hb⟩ := row_at (hy.kp k4) (List.getElem?_eq_getElem rl)
                  refine ⟨ta, ys, (r4 : Nat), _, rfl, rfl, k4.tup hs2, atI_nat (List.getElem?_eq_getElem rl), ?_⟩
                  rw [eb]
                  refine ⟨b, _, rfl, hb, rfl, _, _, rfl, _, _, rfl, rfl, ?_⟩
                  refine ⟨_, rfl, _, rfl, str G, one c, rfl, rfl, by rw [str_len]; show G.length + 1 ≤ sizeLine; exact sz2 (by omega), ?_⟩
                  rw [one_str, str_app]
                  have lGc : (G ++ [c]).length = G.length + 1 := by simp
                  refine ⟨_, rfl, str (G ++ [c]), rfl, by rw [str_len]; exact sz2 (by omega), ((str (G ++ [c])).length : Nat), 30, rfl, rfl, _, rfl, ?_⟩
                  rw [str_len]
                  refine iteD (fun _ => ?_) (fun h => ?_)
                  · exact q _ [] sb24 dw4 (.nil p)
                  · exact ⟨sb24, dw4, G ++ [c], n, _, _, _, bn.snoc (List.mem_of_getElem? gq), by omega, rfl⟩
          · skip
            have sb3 := Sb.refl d H2
            have dw3 := dw2
            have sb23 := sb2.trans sb3
            have k3 := hd.kp sb23
            have ls := Reach.lt ok bn.r
            obtain ⟨sa, xs, ta, ys, rfl, hs', gx, hs2, hy⟩ := row_of tp ls
            refine ⟨_, rfl, a, _, 0, _, rfl, rfl, k3.tup ha, rfl, _, rfl, sa, xs, (s0 : Nat), _, rfl, rfl, k3.tup hs', atI_nat gx, ?_⟩
            refine ⟨_, rfl, _, .inr (.inl ⟨ys, k3.tup hs2, rfl⟩), ite2 (fun _ => ?_) (fun ne => ?_)⟩
            · exact ⟨_, rfl, q _ G sb23 dw3 bo⟩
            · have pos : 0 < ys.length := by
                cases ys with
                | nil => exact absurd rfl ne
                | cons _ _ => exact Nat.succ_pos _
              have ly : ys.length = (stOf p s0).length := by simpa using hy.length
              have ly2 := (stOf_ok ok s0).1
              refine ⟨_, rfl, _, rfl, _, rfl, ta, ys, rfl, .inr (k3.tup hs2), d, ca, cells, ys.length, rfl, dw3, by omega, fun H4 r4 sb4 dw4 h4 => ?_⟩
              have sb24 := sb23.trans sb4
              have k4 := hd.kp sb24
              have rl : r4 < ys.length := by omega
              obtain ⟨c, n, b, gq, eb, hb⟩ := row_at (hy.kp k4) (List.getElem?_eq_getElem rl)
              refine ⟨ta, ys, (r4 : Nat), _, rfl, rfl, k4.tup hs2, atI_nat (List.getElem?_eq_getElem rl), ?_⟩
              rw [eb]
              refine ⟨b, _, rfl, hb, rfl, _, _, rfl, _, _, rfl, rfl, ?_⟩
              refine ⟨_, rfl, _, rfl, str G, one c, rfl, rfl, by rw [str_len]; show G.length + 1 ≤ sizeLine; exact sz2 (by omega), ?_⟩
              rw [one_str, str_app]
              have lGc : (G ++ [c]).length = G.length + 1 := by simp
              refine ⟨_, rfl, str (G ++ [c]), rfl, by rw [str_len]; exact sz2 (by omega), ((str (G ++ [c])).length : Nat), 30, rfl, rfl, _, rfl, ?_⟩
              rw [str_len]
              refine iteD (fun _ => ?_) (fun h => ?_)
              · exact q _ [] sb24 dw4 (.nil p)
              · exact ⟨sb24, dw4, G ++ [c], n, _, _, _, bn.snoc (List.mem_of_getElem? gq), by omega, rfl⟩
        · skip
          have sb3 := Sb.refl d H2
          have dw3 := dw2
          have sb23 := sb2.trans sb3
          have k3 := hd.kp sb23
          have ls := Reach.lt ok bn.r
          obtain ⟨sa, xs, ta, ys, rfl, hs', gx, hs2, hy⟩ := row_of tp ls
          refine ⟨_, rfl, a, _, 0, _, rfl, rfl, k3.tup ha, rfl, _, rfl, sa, xs, (s0 : Nat), _, rfl, rfl, k3.tup hs', atI_nat gx, ?_⟩
          refine ⟨_, rfl, _, .inr (.inl ⟨ys, k3.tup hs2, rfl⟩), ite2 (fun _ => ?_) (fun ne => ?_)⟩
          · exact ⟨_, rfl, q _ G sb23 dw3 bo⟩
          · have pos : 0 < ys.length := by
              cases ys with
              | nil => exact absurd rfl ne
              | cons _ _ => exact Nat.succ_pos _
            have ly : ys.length = (stOf p s0).length := by simpa using hy.length
            have ly2 := (stOf_ok ok s0).1
            refine ⟨_, rfl, _, rfl, _, rfl, ta, ys, rfl, .inr (k3.tup hs2), d, ca, cells, ys.length, rfl, dw3, by omega, fun H4 r4 sb4 dw4 h4 => ?_⟩
            have sb24 := sb23.trans sb4
            have k4 := hd.kp sb24
            have rl : r4 < ys.length := by omega
            obtain ⟨c, n, b, gq, eb, hb⟩ := row_at (hy.kp k4) (List.getElem?_eq_getElem rl)
            refine ⟨ta, ys, (r4 : Nat), _, rfl, rfl, k4.tup hs2, atI_nat (List.getElem?_eq_getElem rl), ?_⟩
            rw [eb]
            refine ⟨b, _, rfl, hb, rfl, _, _, rfl, _, _, rfl, rfl, ?_⟩
            refine ⟨_, rfl, _, rfl, str G, one c, rfl, rfl, by rw [str_len]; show G.length + 1 ≤ sizeLine; exact sz2 (by omega), ?_⟩
            rw [one_str, str_app]
            have lGc : (G ++ [c]).length = G.length + 1 := by simp
            refine ⟨_, rfl, str (G ++ [c]), rfl, by rw [str_len]; exact sz2 (by omega), ((str (G ++ [c])).length : Nat), 30, rfl, rfl, _, rfl, ?_⟩
            rw [str_len]
            refine iteD (fun _ => ?_) (fun h => ?_)
            · exact q _ [] sb24 dw4 (.nil p)
            · exact ⟨sb24, dw4, G ++ [c], n, _, _, _, bn.snoc (List.mem_of_getElem? gq), by omega, rfl⟩
      · skip
        have sb3 := Sb.refl d H2
        have dw3 := dw2
        have sb23 := sb2.trans sb3
        have k3 := hd.kp sb23
        have ls := Reach.lt ok bn.r
        obtain ⟨sa, xs, ta, ys, rfl, hs', gx, hs2, hy⟩ := row_of tp ls
        refine ⟨_, rfl, a, _, 0, _, rfl, rfl, k3.tup ha, rfl, _, rfl, sa, xs, (s0 : Nat), _, rfl, rfl, k3.tup hs', atI_nat gx, ?_⟩
        refine ⟨_, rfl, _, .inr (.inl ⟨ys, k3.tup hs2, rfl⟩), ite2 (fun _ => ?_) (fun ne => ?_)⟩
        · exact ⟨_, rfl, q _ G sb23 dw3 bo⟩
        · have pos : 0 < ys.length := by
            cases ys with
            | nil => exact absurd rfl ne
            | cons _ _ => exact Nat.succ_pos _
          have ly : ys.length = (stOf p s0).length := by simpa using hy.length
          have ly2 := (stOf_ok ok s0).1
          refine ⟨_, rfl, _, rfl, _, rfl, ta, ys, rfl, .inr (k3.tup hs2), d, ca, cells, ys.length, rfl, dw3, by omega, fun H4 r4 sb4 dw4 h4 => ?_⟩
          have sb24 := sb23.trans sb4
          have k4 := hd.kp sb24
          have rl : r4 < ys.length := by omega
          obtain ⟨c, n, b, gq, eb, hb⟩ := row_at (hy.kp k4) (List.getElem?_eq_getElem rl)
          refine ⟨ta, ys, (r4 : Nat), _, rfl, rfl, k4.tup hs2, atI_nat (List.getElem?_eq_getElem rl), ?_⟩
          rw [eb]
          refine ⟨b, _, rfl, hb, rfl, _, _, rfl, _, _, rfl, rfl, ?_⟩
          refine ⟨_, rfl, _, rfl, str G, one c, rfl, rfl, by rw [str_len]; show G.length + 1 ≤ sizeLine; exact sz2 (by omega), ?_⟩
          rw [one_str, str_app]
          have lGc : (G ++ [c]).length = G.length + 1 := by simp
          refine ⟨_, rfl, str (G ++ [c]), rfl, by rw [str_len]; exact sz2 (by omega), ((str (G ++ [c])).length : Nat), 30, rfl, rfl, _, rfl, ?_⟩
          rw [str_len]
          refine iteD (fun _ => ?_) (fun h => ?_)
          · exact q _ [] sb24 dw4 (.nil p)
          · exact ⟨sb24, dw4, G ++ [c], n, _, _, _, bn.snoc (List.mem_of_getElem? gq), by omega, rfl⟩
    · obtain ⟨sb2, dw2, G, s0, x5, x6, x7, bn, lG, rfl⟩ := h
      have zG : (str G).length ≤ sizeLine := by rw [str_len]; exact sz2 (by omega)
      have bo : Borne p G := ⟨by omega, bn.kd, bn.nb⟩
      have k2 := hd.kp sb2
      refine ⟨_, rfl, _, ⟨zG, rfl⟩, ite2 (fun _ => ?_) (fun _ => iteF ?_)⟩
      · refine ⟨_, rfl, _, rfl, a, _, 1, _, rfl, rfl, k2.tup ha, rfl, ev, _, rfl, .inr (k2.tup hev), rfl, fl, _, rfl, ite2 (fun _ => ?_) (fun _ => ?_)⟩
        · exact ⟨_, rfl, q _ G sb2 dw2 bo⟩
        · exact q _ [] sb2 dw2 (.nil p)
      · exact q _ [] sb2 dw2 (.nil p)

end
end TH
end
section
set_option Elab.async false
set_option linter.all false
set_option maxRecDepth 100000
set_option maxHeartbeats 4000000
namespace TH
open PySem PySem.Spec PyProof.Rows L2
section
variable {P : Program} {w : World} {K : PySem.W.Frag} {mg : Str → Option Value} {base : Heap}
/-! reaches -/
theorem stP {sts : List PState} {es : List Nat} {s : Nat} {st : PState} (h : sts[s]? = some st) : stOf ⟨sts, es⟩ s = st := stOf_at h
theorem p__law_reaches (T : Tx K mg) : Pr P w K mg base CX0 1 ["_law_states", "_law_ends", "_law_begin"] [] (He.ga K "_law_reaches")
    (fun vs H Q _ => ∃ (sl el : Addr) (xs : List V) (sts : List PState) (es : List Nat) (b : Nat), vs = [.ref sl, .ref el, .int (b : Nat)] ∧ H sl = some (.lst xs) ∧ TpAll K H xs (sts.map encState) ∧ H el = some (.lst (natsV es)) ∧ b < sts.length ∧ sts.length ≤ 2 ∧ (∀ st ∈ sts, st.length ≤ 2 ∧ ∀ q ∈ st, q.2 < sts.length) ∧
      ∀ H' r, Same H H' → (r = true → LiveS ⟨sts, es⟩ b) → (r = false → b ∉ es) → Q (.bl r) H') := by
  refine T.d__law_reaches.pr scs_law_reaches (fun vs H Q E h => ?_) (fun cdv A outer s H vs Q E hr h => ?_)
  · obtain ⟨sl, el, xs, sts, es, b, rfl, _⟩ := h
    rfl
  · obtain ⟨sl, el, xs, sts, es, b, rfl, hsl, tx, hel, hb, l2, hst, q⟩ := h
    have hu := hu_of hr
    refine ⟨_, (pss_cons (ps_set (i := 3) scs_law_reaches.nd rfl (.inl rfl) (pe_disp (pps_cons (pv 2) pe_bl pps_nil) rfl rfl (by decide) (by decide)))
    (pss_cons (ps_set (i := 4) scs_law_reaches.nd rfl (.inl rfl) (pe_lst (pa_cons (pv 2) pa_nil)))
    (pss_cons (ps_for PassesOwn.never rfl (pi_range1 (by rfl) T.z_range (pa_cons (pe_callB call_len_seq (by rfl) T.z_len PySem.boot_len (pa_cons (pv 0) pa_nil)) pa_nil)) (pg_name (i := 5) scs_law_reaches.nd rfl (.inl rfl) (.inl rfl))
      (pss_one (ps_if (pt_cmpR op_lt (pv 5) (pe_callB call_len_seq (by rfl) T.z_len PySem.boot_len (pa_cons (pv 4) pa_nil)) (nomark _))
        (pss_cons (ps_if (pt_cmpR op_in_seq (pe_ix ix_list (pv 4) (pv 5) (fun _ _ => rfl)) (pv 1) rfl)
          (pss_one (ps_ret pe_bl))
          pss_nil)
        (pss_one (ps_for PassesOwn.never rfl (pi_tup (pe_ix ix_list (pv 0) (pe_ix ix_list (pv 4) (pv 5) (fun _ _ => rfl)) (fun _ _ => rfl))) (pg_tup rfl (pgs_cons (pg_name (i := 6) scs_law_reaches.nd rfl (.inl rfl) (.inl rfl)) (pgs_cons (pg_name (i := 7) scs_law_reaches.nd rfl (.inl rfl) (.inl rfl)) pgs_nil)))
          (pss_one (ps_if (pt_cmp (pc_dnotin hu (pv 7) (pv 3)))
            (pss_cons (ps_dput hu (pv 3) (pv 7) pe_bl rfl)
            (pss_one (ps_expr (pe_bm PySem.F.plainAttrs_list PySem.F.slot_list_append PySem.F.type_list_append mt_appU (pv 4) (pa_cons (pv 7) pa_nil)))))
            pss_nil)))))
        pss_nil)))
    (pss_one (ps_ret pe_bl))))), ?_⟩
    have lx : xs.length = sts.length := by simpa using tx.length
    intro t nt
    refine ⟨_, rfl, upd_same, [(.inl (b : Int), .bl true)], rfl, by simp, ?_⟩
    rw [upd_upd]
    have s1 := same_upd (o := .dK (mergeK [] [((.inl (b : Int) : Key), V.bl true)])) nt
    have e1 : (upd H t (.dK (mergeK [] [((.inl (b : Int) : Key), V.bl true)]))) t = some (.dK [(.inl (b : Int), .bl true)]) := upd_same
    generalize upd H t (.dK (mergeK [] [((.inl (b : Int) : Key), V.bl true)])) = H1 at s1 e1 ⊢
    refine ⟨_, rfl, by show 1 ≤ sizeLine; decide, fun o no => ?_⟩
    have s2 := same_upd (o := .lst [.int (b : Nat)]) no
    have e2 : (upd H1 o (.lst [.int (b : Nat)])) o = some (.lst [.int (b : Nat)]) := upd_same
    generalize upd H1 o (.lst [.int (b : Nat)]) = H2 at s2 e2 ⊢
    have ne : t ≠ o := fun e => by
      rw [← e, e1] at no
      cases no
    have no0 : H o = none := s1.back no
    refine ⟨_, rfl, sl, xs, rfl, .inl (.inl (.inl ((s1.trans s2) _ _ hsl))), (xs.length : Nat), rfl, by omega, by omega, for_it (walk_rn (n := xs.length)) (fun i σ H' => (∃ os kvs, Same H H' ∧ H' o = some (.lst (natsV os)) ∧ H' t = some (.dK kvs) ∧ kvs.length ≤ 1 + 2 * i ∧ os.length ≤ 1 + 2 * i ∧ os[0]? = some b ∧ (∀ x ∈ os, x < sts.length ∧ (LiveS ⟨sts, es⟩ x → LiveS ⟨sts, es⟩ b)) ∧ (0 < i → b ∉ es)) ∧ ∃ x5 x6 x7, σ = [some (.ref sl), some (.ref el), some (.int (b : Nat)), some (.ref t), some (.ref o), x5, x6, x7])
      ⟨⟨[b], _, s1.trans s2, e2, s2 _ _ e1, by simp, by simp, rfl, fun x hx => by cases List.mem_singleton.mp hx; exact ⟨hb, id⟩, fun h => absurd h (Nat.lt_irrefl _)⟩, _, _, _, rfl⟩ (fun i σ H' _ h => trivial) (fun i y σ H3' H3 hi h y => ?_) fun σ H3 h => ?_⟩
    · obtain ⟨⟨os, kvs, s3, eo, et, lk, lo, o0, ho, hne⟩, x5, x6, x7, rfl⟩ := h
      obtain ⟨rfl, rfl⟩ := y
      refine ⟨_, rfl, _, rfl, o, natsV os, rfl, .inl (.inl (.inl eo)), (i : Nat), ((natsV os).length : Nat), rfl, rfl, _, rfl, ?_⟩
      rw [show (natsV os).length = os.length from List.length_map _]
      have hi0 : 0 < os.length := (List.getElem?_eq_some_iff.mp o0).1
      refine iteD (fun lt' => ?_) (fun ge => ?_)
      · have lt : i < os.length := by omega
        have gs : os[i]? = some os[i] := List.getElem?_eq_getElem lt
        have hs0 := ho _ (List.mem_of_getElem? gs)
        have e0 : i = 0 → os[i] = b := fun h => by
          subst h
          rw [gs] at o0
          exact Option.some.inj o0
        generalize os[i] = s0 at gs hs0 e0
        have fl : (natsV es).all flatV = true := by
          unfold natsV
          rw [List.all_map, List.all_eq_true]
          exact fun _ _ => rfl
        refine ⟨_, rfl, _, rfl, o, _, (i : Nat), _, rfl, rfl, .inl (.inl eo), atI_nat (natsV_at gs), _, rfl, el, _, rfl, .inl (.inl (.inl (s3 _ _ hel))), rfl, fl, _, rfl, ?_⟩
        rw [if_neg (by decide), inV_nats]
        refine iteD (fun hin => ?_) (fun hout => ?_)
        · exact q _ true s3 (fun _ => hs0.2 (.fin hin)) (fun z => by cases z)
        · have est : sts[s0]? = some sts[s0] := List.getElem?_eq_getElem hs0.1
          have hstm := hst _ (List.getElem_mem hs0.1)
          generalize sts[s0]'hs0.1 = st at est hstm
          obtain ⟨xk, gx, tk⟩ := tx.get (i := s0) (k := encState st) (by rw [List.getElem?_map, est]; rfl)
          obtain ⟨ta, ys, rfl, hs2, _, hy⟩ := state_inv tk
          have ly : ys.length = st.length := by simpa using hy.length
          refine ⟨_, rfl, _, rfl, _, rfl, o, _, (i : Nat), _, rfl, rfl, .inl (.inl eo), atI_nat (natsV_at gs), sl, xs, (s0 : Nat), _, rfl, rfl, .inl (.inl (s3 _ _ hsl)), atI_nat gx, ta, rfl, ⟨ys, s3.tup hs2⟩, ?_⟩
          refine for_it (walk_tup (xs := ys)) (fun j σ H' => (∃ os' kvs, Same H H' ∧ H' o = some (.lst (natsV os')) ∧ H' t = some (.dK kvs) ∧ kvs.length ≤ 1 + 2 * i + j ∧ os'.length ≤ 1 + 2 * i + j ∧ os'[0]? = some b ∧ (∀ x ∈ os', x < sts.length ∧ (LiveS ⟨sts, es⟩ x → LiveS ⟨sts, es⟩ b))) ∧ ∃ x6 x7, σ = [some (.ref sl), some (.ref el), some (.int (b : Nat)), some (.ref t), some (.ref o), some (.int (i : Nat)), x6, x7])
            ⟨⟨os, kvs, s3, eo, et, by omega, by omega, o0, ho⟩, _, _, rfl⟩ (fun i σ H' _ h => by obtain ⟨⟨_, _, h, _⟩, _⟩ := h; exact h.tup hs2) (fun j y σ H4' H4 hj h y => ?_) fun σ H4 h => ?_
          · obtain ⟨⟨os', kv, s4, eo4, et4, lk4, lo4, o04, ho4⟩, x6, x7, rfl⟩ := h
            obtain ⟨rfl, g⟩ := y
            obtain ⟨c, n, bb, gq, rfl, hbb⟩ := row_at hy g
            have hmem := List.mem_of_getElem? gq
            refine ⟨bb, _, rfl, s4.tup hbb, rfl, _, _, rfl, _, _, rfl, rfl, ?_⟩
            refine ⟨_, rfl, _, rfl, t, _, rfl, DGet.k (k := .inl (n : Int)) et4, _, rfl, ite2 (fun _ => ?_) (fun _ => ?_)⟩
            · refine ⟨_, rfl, _, rfl, t, _, rfl, DPut.k (k := .inl (n : Int)) et4 (sz2l (by omega)), ?_⟩
              have eo5 : (upd H4 t (.dK (putK kv (.inl (n : Int)) (.bl true)))) o = some (.lst (natsV os')) := by
                rw [upd_ne ne.symm]
                exact eo4
              refine ⟨_, rfl, .inl ⟨rfl, _, .inl (.inl eo5)⟩, _, rfl, o, natsV os', _, rfl, rfl, eo5, by rw [natsV, List.length_map]; omega, fun H6 b6 e6 => ?_⟩
              have pk := putK_le kv (.inl (n : Int)) (.bl true)
              refine ⟨⟨os' ++ [n], _, (s4.sb nt sb_upd).sb no0 b6, by rw [natsV_snoc]; exact e6, b6 _ _ ne upd_same, by omega, by simp; omega, ?_, fun x hx => ?_⟩, _, _, rfl⟩
              · rw [List.getElem?_append_left (List.getElem?_eq_some_iff.mp o04).1]
                exact o04
              · rcases List.mem_append.mp hx with hx | hx
                · exact ho4 x hx
                · cases List.mem_singleton.mp hx
                  exact ⟨hstm.2 _ hmem, fun lv => hs0.2 (.step (c := c) (s' := n) (by rw [stP est]; exact hmem) lv)⟩
            · exact ⟨⟨os', kv, s4, eo4, et4, by omega, by omega, o04, ho4⟩, _, _, rfl⟩
          · obtain ⟨⟨os', kv, s4, eo4, et4, lk4, lo4, o04, ho4⟩, x6, x7, rfl⟩ := h
            have := hstm.1
            refine ⟨⟨os', kv, s4, eo4, et4, by omega, by omega, o04, ho4, fun _ => ?_⟩, _, _, _, rfl⟩
            by_cases z : i = 0
            · exact fun h => hout (e0 z ▸ h)
            · exact hne (by omega)
      · exact ⟨⟨os, kvs, s3, eo, et, by omega, by omega, o0, ho, fun _ => hne (by omega)⟩, _, _, _, rfl⟩
    · obtain ⟨⟨os, kvs, s3, eo, et, lk, lo, o0, ho, hne⟩, x5, x6, x7, rfl⟩ := h
      exact q _ false s3 (fun z => by cases z) fun _ => hne (by omega)

end
end TH
end
section
set_option Elab.async false
set_option linter.all false
set_option maxRecDepth 100000
set_option maxHeartbeats 4000000
namespace TH
open PySem PySem.Spec PyProof.Rows L2
section
variable {P : Program} {w : World} {K : PySem.W.Frag} {mg : Str → Option Value} {base : Heap}
/-! a comprehension that draws -/
theorem lc_inv {J : It} {n : Nat} {G : Hp → Prop} {Y : Nat → Hp → V → Hp → Prop} (w : Walk J n G Y) {g : TG} {tt : TT} {te : TE} {vs : List Nat} {σ : L2.St} {H1 : Hp} {D : Addr} {Qd : Hp → Prop} (hn : n ≤ 2000)
    (I : Nat → List V → Hp → Prop) (i0 : I 0 [] (upd H1 D (.lst []))) (hG : ∀ i acc H, I i acc H → G H) (hD : ∀ i acc H, I i acc H → H D = some (.lst acc) ∧ acc.length ≤ i)
    (hs : ∀ i x H H' acc (k : VK) (ks : Hp → Prop), i < n → I i acc H → Y i H x H' → (∀ y H4, H4 D = some (.lst acc) → I (i + 1) (acc ++ [y]) (upd H4 D (.lst (acc ++ [y]))) → k y H4) → (∀ H4, I (i + 1) acc H4 → ks H4) →
      g x (wipe σ vs) H' fun σ2 H2 => wipe σ2 vs = wipe σ vs ∧ tt σ2 H2 fun b H3 => if b = true then te σ2 H3 k else ks H3)
    (hd : ∀ H2 acc, I n acc H2 → Qd H2) :
    ∃ W : Nat → Nat → Hp → Prop, (∃ m, W 0 m (upd H1 D (.lst []))) ∧ ∀ i m H, W i m H →
      (J.stop i H ∧ Qd H) ∨ (J.go i H ∧ ∃ Nx : Hp → Prop, (∀ H', Nx H' → ∃ m', m' < m ∧ W (i + 1) m' H') ∧ ∀ x H', J.yld i H x H' → g x (wipe σ vs) H' fun σ2 H2 => wipe σ2 vs = wipe σ vs ∧ tt σ2 H2 fun b H3 =>
        if b = true then te σ2 H3 fun y H4 => ∃ acc, H4 D = some (.lst acc) ∧ acc.length < sizeLine ∧ Nx (upd H4 D (.lst (acc ++ [y]))) else Nx H3) := by
  refine lc_it w (fun i H => ∃ acc, I i acc H) ⟨[], i0⟩ (fun i H _ h => by obtain ⟨acc, h⟩ := h; exact hG i acc H h) (fun i x H H' hi h y => ?_) fun H h => ?_
  · obtain ⟨acc, a1⟩ := h
    have l1 := (hD i acc H a1).2
    refine hs i x H H' acc _ _ hi a1 y (fun y H4 e4 a4 => ?_) fun H4 a4 => ⟨acc, a4⟩
    exact ⟨acc, e4, sz2l (by omega), acc ++ [y], a4⟩
  · obtain ⟨acc, a1⟩ := h
    exact hd H acc a1

end
end TH
end
section
set_option Elab.async false
set_option linter.all false
set_option maxRecDepth 100000
set_option maxHeartbeats 4000000
namespace TH
open PySem PySem.Spec PyProof.Rows L2
section
variable {P : Program} {w : World} {K : PySem.W.Frag} {mg : Str → Option Value} {base : Heap}
/-! plans drawn -/
structure Rw (row : List Nat) (many : Nat) (i : Nat) (st : PState) : Prop where
  sub : (st.map (·.1)).Sublist (row.take i)
  lt : ∀ q ∈ st, q.2 < many
theorem Rw.skip {row : List Nat} {many i : Nat} {st : PState} (h : Rw row many i st) : Rw row many (i + 1) st := ⟨h.sub.trans (List.take_sublist_take_left (Nat.le_succ i)), h.lt⟩
theorem Rw.snoc {row : List Nat} {many i c n : Nat} {st : PState} (h : Rw row many i st) (hc : row[i]? = some c) (hn : n < many) : Rw row many (i + 1) (st ++ [(c, n)]) := by
  refine ⟨?_, fun q hq => ?_⟩
  · rw [take_snoc hc, List.map_append]
    exact h.sub.append (List.Sublist.refl _)
  · rcases List.mem_append.mp hq with hq | hq
    · exact h.lt q hq
    · cases List.mem_singleton.mp hq
      exact hn
/-- a row as the plan takes it -/
structure Rk (row : List Nat) (many : Nat) (st : PState) : Prop where
  asc : (st.map (·.1)).Pairwise (· < ·)
  mem : ∀ q ∈ st, q.1 ∈ row ∧ q.2 < many
  len : st.length ≤ row.length
theorem Rw.ok {row : List Nat} {many : Nat} {st : PState} (hr : Rise row) (h : Rw row many row.length st) : Rk row many st := by
  have sub := h.sub
  rw [List.take_length] at sub
  refine ⟨hr.sublist sub, fun q hq => ⟨sub.subset (List.mem_map_of_mem hq), h.lt q hq⟩, ?_⟩
  have := sub.length_le
  simpa using this
theorem live_mono {sts : List PState} {es es' : List Nat} {j : Nat} (h : ∀ e ∈ es, e ∈ es') (l : LiveS ⟨sts, es⟩ j) : LiveS ⟨sts, es'⟩ j := by
  induction l with
  | fin m => exact .fin (h _ m)
  | step m _ ih => exact .step m ih
theorem p__law_plan (T : Tx K mg) : Pr P w K mg base CX0 3 ["_law_draw_here", "_law_signs", "_law_many"] [] (He.ga K "_law_plan")
    (fun vs H Q _ => ∃ (d ca : Addr) (cells : List Int) (row : List Nat) (many : Nat), vs = [.ref d, .str (str row), .int (many : Nat)] ∧ Dw H d ca cells ∧ 1 ≤ many ∧ many ≤ 2 ∧ Rise row ∧ 1 ≤ row.length ∧ row.length ≤ 2 ∧ (∀ c ∈ row, 65 ≤ c ∧ c ≤ 90) ∧
      ∀ H' v p, Sb d H H' → Dw H' d ca cells → PlanOk row p → Tp K H' v (encPl p) → Q v H') := by
  refine T.d__law_plan.pr scs_law_plan (fun vs H Q E h => ?_) (fun cdv A outer s H vs Q E hr h => ?_)
  · obtain ⟨d, ca, cells, row, many, rfl, _⟩ := h
    rfl
  · obtain ⟨d, ca, cells, row, many, rfl, hd, m1, m2, ri, w1, w2, rg, q⟩ := h
    refine ⟨_, (pss_cons (ps_set (i := 3) scs_law_plan.nd rfl (.inl rfl) (pe_lst pa_nil))
    (pss_cons (ps_for PassesOwn.never rfl (pi_range1 (by rfl) T.z_range (pa_cons (pv 2) pa_nil)) (pg_name (i := 4) scs_law_plan.nd rfl (.inl rfl) (.inl rfl))
      (pss_cons (ps_set (i := 5) scs_law_plan.nd rfl (.inl rfl) (pe_lst pa_nil))
      (pss_cons (ps_for PassesOwn.never rfl (pi_list (pe_callB (cr_sortedText rfl) (by rfl) T.z_sorted (by decide +kernel) (pa_cons (pv 1) pa_nil))) (pg_name (i := 6) scs_law_plan.nd rfl (.inl rfl) (.inl rfl))
        (pss_one (ps_if (pt_cmpR op_gt (pcall (p__law_pick T) (hr.mono (by decide)) (by rfl) T.g__law_pick pass0 (pa_cons (pv 0) (pa_cons pe_int pa_nil))) pe_int (nomark _))
          (pss_one (ps_expr (pe_bm PySem.F.plainAttrs_list PySem.F.slot_list_append PySem.F.type_list_append mt_appU (pv 5) (pa_cons (pe_tup (pa_cons (pv 6) (pa_cons (pcall (p__law_pick T) (hr.mono (by decide)) (by rfl) T.g__law_pick pass0 (pa_cons (pv 0) (pa_cons (pv 2) pa_nil))) pa_nil))) pa_nil))))
          pss_nil)))
      (pss_cons (ps_if (pw_and (pt_cmpR op_lt (pe_op op_add (pv 4) pe_int) (pv 2) (nomark _)) (pw_and1 (pt_not (pt_truth (pv 5) (fun _ => rfl))))).pt
        (pss_one (ps_expr (pe_bm PySem.F.plainAttrs_list PySem.F.slot_list_append PySem.F.type_list_append mt_appU (pv 5) (pa_cons (pe_tup (pa_cons (pe_ix ix_str (pv 1) (pcall (p__law_pick T) (hr.mono (by decide)) (by rfl) T.g__law_pick pass0 (pa_cons (pv 0) (pa_cons (pe_callB call_len_str (by rfl) T.z_len PySem.boot_len (pa_cons (pv 1) pa_nil)) pa_nil))) (fun _ _ => rfl)) (pa_cons (pe_op op_add (pv 4) pe_int) pa_nil))) pa_nil))))
        pss_nil)
      (pss_one (ps_expr (pe_bm PySem.F.plainAttrs_list PySem.F.slot_list_append PySem.F.type_list_append mt_appU (pv 3) (pa_cons (pe_callTy call_tupU (by rfl) T.z_tuple (by decide +kernel) (pa_cons (pv 5) pa_nil)) pa_nil))))))))
    (pss_cons (ps_set (i := 7) scs_law_plan.nd rfl (.inr rfl) (pcall (p__law_pick T) (hr.mono (by decide)) (by rfl) T.g__law_pick pass0 (pa_cons (pv 0) (pa_cons pe_int pa_nil))))
    (pss_cons (ps_setLc (i := 8) (own := [("_law_state", 4)]) rfl scs_law_plan.nd rfl rfl (sw_true rfl rfl rfl (by decide +kernel)) (pi_range1 (by rfl) T.z_range (pa_cons (pv 2) pa_nil)) (blkOk_by (N := ["_law_draw_here", "_law_signs", "_law_many", "_law_states", "_law_state", "_law_row", "_law_sign", "_law_kind_here", "_law_ends"]) (sc := defScope s_law_plan) (by decide +kernel)) (fun _ _ _ _ _ => (pg_name (i := 4) scs_law_plan.nd rfl (.inl rfl) (.inr rfl))) (fun _ _ _ _ _ => (pts_one (pw_or (pt_cmpR op_eq (pv 7) pe_int (nomark _)) (pw_or1 (pt_cmpR op_eq (pcall (p__law_pick T) (hr.mono (by decide)) (by rfl) T.g__law_pick pass0 (pa_cons (pv 0) (pa_cons pe_int pa_nil))) pe_int (nomark _)))).pt)) (fun _ _ _ _ _ => (pv 4)))
    (pss_cons (ps_for PassesOwn.never rfl (pi_range1 (by rfl) T.z_range (pa_cons (pv 2) pa_nil)) (pg_name (i := 4) scs_law_plan.nd rfl (.inl rfl) (.inl rfl))
      (pss_one (ps_if (pt_not (pt_val (pcall (p__law_reaches T) (hr.mono (by decide)) (by rfl) T.g__law_reaches pass0 (pa_cons (pv 3) (pa_cons (pv 8) (pa_cons (pv 4) pa_nil))))))
        (pss_one (ps_expr (pe_bm PySem.F.plainAttrs_list PySem.F.slot_list_append PySem.F.type_list_append mt_appU (pv 8) (pa_cons (pv 4) pa_nil))))
        pss_nil)))
    (pss_one (ps_ret (pe_tup (pa_cons (pe_callTy call_tupU (by rfl) T.z_tuple (by decide +kernel) (pa_cons (pv 3) pa_nil)) (pa_cons (pe_callTy call_tupU (by rfl) T.z_tuple (by decide +kernel) (pa_cons (pe_callB cr_sorted (by rfl) T.z_sorted (by decide +kernel) (pa_cons (pv 8) pa_nil)) pa_nil)) pa_nil)))))))))), ?_⟩
    refine ⟨by show 0 ≤ sizeLine; decide, fun S nS => ?_⟩
    have s1 := same_upd (o := .lst []) nS
    have e1 : (upd H S (.lst [])) S = some (.lst []) := upd_same
    generalize upd H S (.lst []) = H1 at s1 e1 ⊢
    have nSd : S ≠ d := hd.ne2 nS
    refine ⟨_, rfl, (many : Nat), rfl, by omega, by omega, for_it (walk_rn (n := many)) (fun i σ H' => Sb d H H' ∧ Dw H' d ca cells ∧ (∃ sts xs, H' S = some (.lst xs) ∧ TpAll K H' xs (sts.map encState) ∧ sts.length = i ∧ ∀ st ∈ sts, Rk row many st) ∧ ∃ x4 x5 x6 x7 x8, σ = [some (.ref d), some (.str (str row)), some (.int (many : Nat)), some (.ref S), x4, x5, x6, x7, x8])
      ⟨Sb.of s1, hd.same s1, ⟨[], [], e1, .nil, rfl, (fun _ h => nomatch h)⟩, _, _, _, _, _, rfl⟩ (fun i σ H' _ h => trivial) (fun i y σ H2' H2 hi h y => ?_) fun σ H2 h => ?_⟩
    · obtain ⟨sb2, dw2, ⟨sts, xs, eS, tS, ls, rk⟩, x4, x5, x6, x7, x8, rfl⟩ := h
      obtain ⟨rfl, rfl⟩ := y
      refine ⟨by show 0 ≤ sizeLine; decide, fun R nR => ?_⟩
      have s3 := same_upd (o := .lst []) nR
      have e3 : (upd H2 R (.lst [])) R = some (.lst []) := upd_same
      generalize upd H2 R (.lst []) = H3 at s3 e3 ⊢
      have nRd : R ≠ d := dw2.ne2 nR
      refine ⟨_, rfl, str row, rfl, by rw [str_size]; omega, fun ys p pm so np => ?_⟩
      have pm' : ys.Perm (row.map one) := by rw [str_tl] at pm; exact pm
      obtain ⟨row', pr, rfl⟩ := perm_map_inv _ _ _ pm'
      have nd : row.Nodup := ri.imp fun h => Nat.ne_of_lt h
      have er : row' = row := rise_eq pr (sorted_ones so (nodup_perm pr nd)) ri
      subst er
      have s4 := same_upd (o := .lst ((row'.map one).map V.str)) np
      have e4 : (upd H3 p (.lst ((row'.map one).map V.str))) p = some (.lst ((row'.map one).map V.str)) := upd_same
      generalize upd H3 p (.lst ((row'.map one).map V.str)) = H4 at s4 e4 ⊢
      have np2 : H2 p = none := s3.back np
      have npd : p ≠ d := dw2.ne2 np2
      have nRp : R ≠ p := fun z => by rw [← z, e3] at np; cases np
      refine ⟨p, rfl, ⟨_, .inl (.inl e4)⟩, for_it (walk_list (xs := (row'.map one).map V.str)) (fun j σ H' => Sb d H2 H' ∧ Dw H' d ca cells ∧ H' p = some (.lst ((row'.map one).map V.str)) ∧ (∃ st xs, H' R = some (.lst xs) ∧ TpAll K H' xs (st.map fun p => .tup [kC p.1, kN p.2]) ∧ Rw row' many j st) ∧ ∃ x6, σ = [some (.ref d), some (.str (str row')), some (.int (many : Nat)), some (.ref S), some (.int (i : Nat)), some (.ref R), x6, x7, x8])
        ⟨Sb.of (s3.trans s4), dw2.same (s3.trans s4), e4, ⟨[], [], s4 _ _ e3, .nil, ⟨by simp, fun _ h => nomatch h⟩⟩, _, rfl⟩ (fun i σ H' _ h => .inl (.inl h.2.2.1)) (fun j y σ H5' H5 hj h y => ?_) fun σ H5 h => ?_⟩
      · obtain ⟨sb5, dw5, ep, ⟨st, xr, eR, tR, rw5⟩, x6, rfl⟩ := h
        obtain ⟨rfl, g⟩ := y
        rw [List.map_map] at g
        obtain ⟨c, gc, rfl⟩ := map_at g
        refine ⟨_, rfl, d, ca, cells, 3, rfl, dw5, by decide, fun H6 r6 sb6 dw6 h6 => ⟨(r6 : Nat), 0, rfl, rfl, _, rfl, iteD (fun _ => ?_) (fun _ => ?_)⟩⟩
        · have eR6 := sb6 _ _ nRd eR
          refine ⟨_, rfl, .inl ⟨rfl, _, .inl (.inl eR6)⟩, _, rfl, _, rfl, _, rfl, d, ca, cells, many, rfl, dw6, by omega, fun H7 r7 sb7 dw7 h7 => ?_⟩
          refine ⟨by show 2 ≤ sizeLine; decide, fun u nu => ?_⟩
          have s8 := same_upd (o := .tup [(V.str ∘ one) c, .int (r7 : Nat)]) nu
          have e8 : (upd H7 u (.tup [(V.str ∘ one) c, .int (r7 : Nat)])) u = some (.tup [(V.str ∘ one) c, .int (r7 : Nat)]) := upd_same
          generalize upd H7 u (.tup [(V.str ∘ one) c, .int (r7 : Nat)]) = H8 at s8 e8 ⊢
          have lr : xr.length ≤ 2 := by
            rw [tR.length, List.length_map]
            have h1 := rw5.sub.length_le
            rw [List.length_map, List.length_take] at h1
            omega
          have sb68 := sb6.trans (sb7.trans (Sb.of s8))
          have eR8 := s8 _ _ (sb7 _ _ nRd eR6)
          refine ⟨R, xr, _, rfl, rfl, eR8, by omega, fun H9 b9 e9 => ?_⟩
          have k9 := b9.kp eR8
          refine ⟨(sb5.trans sb68).more nR b9, hd.sb (sb2.back dw2.at.1 nR) (dw7.same s8) b9, b9 _ _ nRp.symm (sb68 _ _ npd ep), ⟨st ++ [(c, r7)], _, e9, ?_, rw5.snoc gc (by omega)⟩, _, rfl⟩
          rw [List.map_append]
          exact (tR.kp ((dw5.kp sb68).trans k9)).snoc (.tup (k9.tup (.inl (.inl e8))) (by show 2 ≤ 2000; decide) (.cons (.str _) (.one (.int _))))
        · exact ⟨sb5.trans sb6, dw6, sb6 _ _ npd ep, ⟨st, xr, sb6 _ _ nRd eR, tR.kp (dw5.kp sb6), rw5.skip⟩, _, rfl⟩
      · obtain ⟨sb5, dw5, ep, ⟨st, xr, eR, tR, rw5⟩, x6, rfl⟩ := h
        rw [show ((row'.map one).map V.str).length = row'.length by simp] at rw5
        have rk0 := rw5.ok ri
        have nSR : S ≠ R := fun z => by rw [← z, eS] at nR; cases nR
        have eS5 := sb5 _ _ nSd eS
        have tS5 := tS.kp (dw2.kp sb5)
        refine ⟨_, rfl, (i : Nat), 1, rfl, rfl, _, rfl, (i : Nat) + 1, (many : Nat), rfl, rfl, _, rfl, iteD (fun lt => ?_) (fun _ => iteF ?_)⟩
        · refine ⟨_, rfl, _, .inl ⟨xr, .inl (.inl eR), rfl⟩, ite2 (fun em => ?_) (fun _ => ?_)⟩
          · have exr : xr = [] := by
              cases xr with
              | nil => rfl
              | cons _ _ => exact absurd em (by simp)
            have est : st = [] := by
              have := tR.length
              rw [exr, List.length_map] at this
              exact List.eq_nil_of_length_eq_zero this.symm
            subst exr
            subst est
            have zR : (str row').length ≤ sizeLine := by rw [str_len]; exact sz2 (by omega)
            refine ⟨_, rfl, .inl ⟨rfl, _, .inl (.inl eR)⟩, _, rfl, _, rfl, _, rfl, str row', rfl, zR, d, ca, cells, row'.length, by rw [str_len]; rfl, dw5, by omega, fun H6 r6 sb6 dw6 h6 => ?_⟩
            have rl : r6 < row'.length := by omega
            have gc : row'[r6]? = some row'[r6] := List.getElem?_eq_getElem rl
            have mc := List.getElem_mem rl
            generalize row'[r6] = c at gc mc
            refine ⟨str row', (r6 : Nat), c, rfl, rfl, zR, atI_nat (by rw [str_tl]; exact gc), ?_⟩
            refine ⟨_, rfl, (i : Nat), 1, rfl, rfl, by show 2 ≤ sizeLine; decide, fun u nu => ?_⟩
            have s7 := same_upd (o := .tup [.str ⟨#[c]⟩, (fun i j => V.int (i + j)) (i : Nat) 1]) nu
            have e7 : (upd H6 u (.tup [.str ⟨#[c]⟩, (fun i j => V.int (i + j)) (i : Nat) 1])) u = some (.tup [.str ⟨#[c]⟩, (fun i j => V.int (i + j)) (i : Nat) 1]) := upd_same
            generalize upd H6 u (.tup [.str ⟨#[c]⟩, (fun i j => V.int (i + j)) (i : Nat) 1]) = H7 at s7 e7 ⊢
            replace e7 : H7 u = some (.tup [.str (one c), .int ((i + 1 : Nat) : Int)]) := e7
            have eR7 := s7 _ _ (sb6 _ _ nRd eR)
            refine ⟨R, [], _, rfl, rfl, eR7, by decide, fun H8 b8 e8 => ?_⟩
            have k8 := b8.kp eR7
            have sbF := (sb5.trans (sb6.trans (Sb.of s7))).more nR b8
            have dwF : Dw H8 d ca cells := hd.sb (sb2.back dw2.at.1 nR) (dw6.same s7) b8
            have eRF := e8
            have tRF : TpAll K H8 ([] ++ [.ref u]) ([(c, i + 1)].map fun p => .tup [kC p.1, kN p.2]) := .one (.tup (k8.tup (.inl (.inl e7))) (by show 2 ≤ 2000; decide) (.cons (.str _) (.one (.int _))))
            have rkF : Rk row' many [(c, i + 1)] := ⟨List.pairwise_singleton _ _, fun q' hq' => by cases List.mem_singleton.mp hq'; exact ⟨mc, by omega⟩, w1⟩
            refine ⟨_, rfl, .inl ⟨rfl, _, .inl (.inl (sbF _ _ nSd eS))⟩, _, rfl, R, _, rfl, .inl (.inl (.inl eRF)), fun t HG sG tG => ?_⟩
            have sbG := sbF.trans (Sb.of sG)
            have eSG := sbG _ _ nSd eS
            have lxs : xs.length ≤ 2000 := by
              have := tS.length
              rw [List.length_map] at this
              omega
            refine ⟨S, xs, _, rfl, rfl, eSG, lxs, fun HI bI eI => ?_⟩
            have kI := bI.kp eSG
            have kk := (dw2.kp sbG).trans kI
            have l9 := rkF.len
            refine ⟨(sb2.trans sbG).more nS bI, hd.sb nS (dwF.same sG) bI, ⟨sts ++ [_], _, eI, by rw [List.map_append]; exact (tS.kp kk).snoc (.tup (kI.tup tG) (by rw [tRF.length, List.length_map]; omega) (tRF.kp ((Kp.of sG).trans kI))), by simp [ls], fun st' hst' => ?_⟩, _, _, _, _, _, rfl⟩
            rcases List.mem_append.mp hst' with h | h
            · exact rk st' h
            · cases List.mem_singleton.mp h
              exact rkF
          · skip
            have sbF := sb5
            have dwF := dw5
            have eRF := eR
            have tRF := tR
            have rkF := rk0
            refine ⟨_, rfl, .inl ⟨rfl, _, .inl (.inl (sbF _ _ nSd eS))⟩, _, rfl, R, _, rfl, .inl (.inl (.inl eRF)), fun t HG sG tG => ?_⟩
            have sbG := sbF.trans (Sb.of sG)
            have eSG := sbG _ _ nSd eS
            have lxs : xs.length ≤ 2000 := by
              have := tS.length
              rw [List.length_map] at this
              omega
            refine ⟨S, xs, _, rfl, rfl, eSG, lxs, fun HI bI eI => ?_⟩
            have kI := bI.kp eSG
            have kk := (dw2.kp sbG).trans kI
            have l9 := rkF.len
            refine ⟨(sb2.trans sbG).more nS bI, hd.sb nS (dwF.same sG) bI, ⟨sts ++ [_], _, eI, by rw [List.map_append]; exact (tS.kp kk).snoc (.tup (kI.tup tG) (by rw [tRF.length, List.length_map]; omega) (tRF.kp ((Kp.of sG).trans kI))), by simp [ls], fun st' hst' => ?_⟩, _, _, _, _, _, rfl⟩
            rcases List.mem_append.mp hst' with h | h
            · exact rk st' h
            · cases List.mem_singleton.mp h
              exact rkF
        · skip
          have sbF := sb5
          have dwF := dw5
          have eRF := eR
          have tRF := tR
          have rkF := rk0
          refine ⟨_, rfl, .inl ⟨rfl, _, .inl (.inl (sbF _ _ nSd eS))⟩, _, rfl, R, _, rfl, .inl (.inl (.inl eRF)), fun t HG sG tG => ?_⟩
          have sbG := sbF.trans (Sb.of sG)
          have eSG := sbG _ _ nSd eS
          have lxs : xs.length ≤ 2000 := by
            have := tS.length
            rw [List.length_map] at this
            omega
          refine ⟨S, xs, _, rfl, rfl, eSG, lxs, fun HI bI eI => ?_⟩
          have kI := bI.kp eSG
          have kk := (dw2.kp sbG).trans kI
          have l9 := rkF.len
          refine ⟨(sb2.trans sbG).more nS bI, hd.sb nS (dwF.same sG) bI, ⟨sts ++ [_], _, eI, by rw [List.map_append]; exact (tS.kp kk).snoc (.tup (kI.tup tG) (by rw [tRF.length, List.length_map]; omega) (tRF.kp ((Kp.of sG).trans kI))), by simp [ls], fun st' hst' => ?_⟩, _, _, _, _, _, rfl⟩
          rcases List.mem_append.mp hst' with h | h
          · exact rk st' h
          · cases List.mem_singleton.mp h
            exact rkF
    · obtain ⟨sb2, dw2, ⟨sts, xs, eS, tS, ls, rk⟩, x4, x5, x6, x7, x8, rfl⟩ := h
      refine ⟨_, rfl, d, ca, cells, 3, rfl, dw2, by decide, fun H3 r3 sb3 dw3 h3 => ?_⟩
      have eS3 := sb3 _ _ nSd eS
      have tS3 := tS.kp (dw2.kp sb3)
      refine ⟨_, rfl, (many : Nat), rfl, by omega, by omega, fun D nD => ?_⟩
      have nDd : D ≠ d := dw3.ne2 nD
      have nDS : S ≠ D := fun z => by rw [← z, eS3] at nD; cases nD
      refine lc_inv (walk_rn (n := many)) (by omega) (fun i acc H' => Sb d H3 H' ∧ Dw H' d ca cells ∧ H' D = some (.lst acc) ∧ ∃ es : List Nat, acc = natsV es ∧ es.Pairwise (· < ·) ∧ (∀ e ∈ es, e < i) ∧ es.length ≤ i) ⟨Sb.of (same_upd nD), dw3.same (same_upd nD), upd_same, [], rfl, .nil, (fun _ h => nomatch h), Nat.le_refl _⟩ (fun i acc H' h => trivial) (fun i acc H' h => by obtain ⟨_, _, e, es, rfl, _, _, l⟩ := h; exact ⟨e, by rw [natsV, List.length_map]; exact l⟩) (fun i y H4 H5 acc k ks hi h y hk hks => ?_) fun H4 acc h => ?_
      · obtain ⟨sb4, dw4, eD, es, rfl, asc, ltn, ll⟩ := h
        obtain ⟨rfl, rfl⟩ := y
        have yes : ∀ H6, Sb d H5 H6 → Dw H6 d ca cells → k (.int (i : Nat)) H6 := fun H6 sb6 dw6 => by
          refine hk _ H6 (sb6 _ _ nDd eD) ⟨(sb4.trans sb6).more nD sb_upd, dw3.sb nD dw6 sb_upd, upd_same, es ++ [i], (natsV_snoc es i).symm, ?_, fun e he => ?_, by simp; omega⟩
          · refine List.pairwise_append.mpr ⟨asc, List.pairwise_singleton _ _, fun x hx z hz => ?_⟩
            cases List.mem_singleton.mp hz
            exact ltn x hx
          · rcases List.mem_append.mp he with he | he
            · have := ltn e he
              omega
            · cases List.mem_singleton.mp he
              exact Nat.lt_succ_self _
        have no : ∀ H6, Sb d H5 H6 → Dw H6 d ca cells → ks H6 := fun H6 sb6 dw6 => hks _ ⟨sb4.trans sb6, dw6, sb6 _ _ nDd eD, es, rfl, asc, fun e he => by have := ltn e he; omega, by omega⟩
        refine ⟨rfl, ?_⟩
        refine ⟨_, rfl, rfl, _, rfl, ite2 (fun _ => ?_) (fun _ => ?_)⟩
        · exact ⟨_, rfl, yes _ (Sb.refl _ _) dw4⟩
        · refine ⟨_, rfl, d, ca, cells, 2, rfl, dw4, by decide, fun H6 r6 sb6 dw6 h6 => ⟨rfl, _, rfl, ite2 (fun _ => ?_) (fun _ => ?_)⟩⟩
          · exact ⟨_, rfl, yes _ sb6 dw6⟩
          · exact no _ sb6 dw6
      · obtain ⟨sb4, dw4, eD, es, rfl, asc, ltn, ll⟩ := h
        have eS4 := sb4 _ _ nSd eS3
        have tS4 := tS3.kp (dw3.kp sb4)
        have nd0 : es.Nodup := asc.imp fun h => Nat.ne_of_lt h
        refine ⟨_, rfl, (many : Nat), rfl, by omega, by omega, for_it (walk_rn (n := many)) (fun i σ H' => Sb D H4 H' ∧ (∃ es' : List Nat, H' D = some (.lst (natsV es')) ∧ es'.Nodup ∧ (∀ e ∈ es', e < many) ∧ ∀ j, j < i → LiveS ⟨sts, es'⟩ j) ∧ ∃ x4 x5 x6 x7, σ = [some (.ref d), some (.str (str row)), some (.int (many : Nat)), some (.ref S), x4, x5, x6, x7, some (.ref D)])
          ⟨Sb.refl _ _, ⟨es, eD, nd0, ltn, fun j hj => by omega⟩, _, _, _, _, rfl⟩ (fun i σ H' _ h => trivial) (fun i y σ H5' H5 hi h y => ?_) fun σ H5 h => ?_⟩
        · obtain ⟨sb5, ⟨es', eD5, nd5, lt5, lv5⟩, x4, x5, x6, x7, rfl⟩ := h
          obtain ⟨rfl, rfl⟩ := y
          have eS5 := sb5 _ _ nDS eS4
          have tS5 := tS4.kp (sb5.kp eD)
          refine ⟨_, rfl, _, rfl, _, rfl, S, D, xs, sts, es', i, rfl, eS5, tS5, eD5, by omega, by omega, fun st hst => ⟨by have := (rk st hst).len; omega, fun q hq => by rw [ls]; exact ((rk st hst).mem q hq).2⟩, fun H6 r s6 ht hf => ⟨r, rfl, ?_⟩⟩
          cases r with
          | true =>
            refine iteF ⟨sb5.trans (Sb.of s6), ⟨es', s6 _ _ eD5, nd5, lt5, fun j hj => ?_⟩, _, _, _, _, rfl⟩
            rcases Nat.lt_succ_iff_lt_or_eq.mp hj with h | h
            · exact lv5 j h
            · exact h ▸ ht rfl
          | false =>
            have eD6 := s6 _ _ eD5
            have le5 : es'.length ≤ many := nodup_le nd5 lt5
            refine iteT ⟨_, rfl, .inl ⟨rfl, _, .inl (.inl eD6)⟩, _, rfl, D, _, _, rfl, rfl, eD6, by rw [natsV, List.length_map]; omega, fun H7 b7 e7 => ⟨(sb5.trans (Sb.of s6)).trans b7, ⟨es' ++ [i], by rw [natsV_snoc]; exact e7, nd_snoc nd5 (hf rfl), fun e he => ?_, fun j hj => ?_⟩, _, _, _, _, rfl⟩⟩
            · rcases List.mem_append.mp he with he | he
              · exact lt5 e he
              · cases List.mem_singleton.mp he
                exact hi
            · rcases Nat.lt_succ_iff_lt_or_eq.mp hj with h | h
              · exact live_mono (fun e he => List.mem_append_left _ he) (lv5 j h)
              · exact .fin (List.mem_append_right _ (List.mem_singleton.mpr h))
        · obtain ⟨sb5, ⟨es', eD5, nd5, lt5, lv5⟩, x4, x5, x6, x7, rfl⟩ := h
          have eS5 := sb5 _ _ nDS eS4
          have tS5 := tS4.kp (sb5.kp eD)
          have le5 : es'.length ≤ many := nodup_le nd5 lt5
          refine ⟨_, rfl, S, xs, rfl, .inl (.inl (.inl eS5)), fun t H6 s6 ht => ?_⟩
          have ev : natsV es' = (es'.map fun n => ((n : Nat) : Int)).map V.int := by rw [natsV, List.map_map]; rfl
          have eD6 := s6 _ _ eD5
          rw [ev] at eD6
          refine ⟨_, rfl, D, es'.map (fun n => ((n : Nat) : Int)), rfl, .inl (.inl eD6), by rw [List.length_map]; omega, fun ns' p pm so np => ?_⟩
          obtain ⟨es2, pe, rfl⟩ := perm_map_inv _ _ _ pm
          have s7 := same_upd (o := .lst ((es2.map fun n => ((n : Nat) : Int)).map V.int)) np
          have e7 : (upd H6 p (.lst ((es2.map fun n => ((n : Nat) : Int)).map V.int))) p = some (.lst (natsV es2)) := by rw [natsV, upd_same, List.map_map]; rfl
          generalize upd H6 p (.lst ((es2.map fun n => ((n : Nat) : Int)).map V.int)) = H7 at s7 e7 ⊢
          refine ⟨p, natsV es2, rfl, .inl (.inl (.inl e7)), fun u H8 s8 hu => ?_⟩
          refine ⟨by show 2 ≤ sizeLine; decide, fun z nz => ?_⟩
          have s9 := same_upd (o := .tup [.ref t, .ref u]) nz
          have e9 : (upd H8 z (.tup [.ref t, .ref u])) z = some (.tup [.ref t, .ref u]) := upd_same
          generalize upd H8 z (.tup [.ref t, .ref u]) = H9 at s9 e9 ⊢
          have s69 := s7.trans (s8.trans s9)
          have nD2 : H2 D = none := sb3.back dw3.at.1 nD
          have nd2 : es2.Nodup := nodup_perm pe nd5
          have sbA : Sb d H H9 := ((((sb2.trans sb3).trans sb4).more (sb2.back dw2.at.1 nD2) sb5).trans (Sb.of (s6.trans s69)))
          have nD0 : H D = none := sb2.back dw2.at.1 nD2
          have dw9 : Dw H9 d ca cells := (hd.sb nD0 dw4 sb5).same (s6.trans s69)
          have lv2 : ∀ j, j < many → LiveS ⟨sts, es2⟩ j := fun j hj => live_mono (fun e he => pe.mem_iff.mpr he) (lv5 j hj)
          have l2 : es2.length ≤ many := by rw [pe.length_eq]; exact le5
          have asc2 : es2.Pairwise (· < ·) := by
            have h1 : es2.Pairwise fun a b => ((a : Nat) : Int) ≤ (b : Nat) := List.pairwise_map.mp so
            exact (h1.and nd2).imp fun {a b} h => by
              have h1 := h.1
              have h2 : a ≠ b := h.2
              omega
          have tup : Tp K H9 (.ref z) (encPl ⟨sts, es2⟩) := .tup (.inl (.inl e9)) (by show 2 ≤ 2000; decide) (.cons (.tup ((s69).tup ht) (by rw [tS.length, List.length_map]; omega) ((tS5.same s6).same s69)) (.one (.tup (s9.tup hu) (by rw [natsV, List.length_map]; omega) (nats_tp _))))
          refine q _ _ ⟨sts, es2⟩ sbA dw9 ⟨⟨by show 1 ≤ sts.length ∧ sts.length ≤ 2; omega, fun st hst => ⟨by have := (rk st hst).len; omega, (rk st hst).asc, fun q' hq => ⟨((rk st hst).mem q' hq).1, by show q'.2 < sts.length; rw [ls]; exact ((rk st hst).mem q' hq).2⟩⟩⟩, fun st hst q' hq => rg _ ((rk st hst).mem q' hq).1, asc2, fun e he => by show e < sts.length; rw [ls]; exact lt5 e (pe.mem_iff.mp he), fun h => ?_, fun j hj => lv2 j (by rw [← ls]; exact hj)⟩ tup
          have := lv2 0 (by omega)
          have key : ∀ j, LiveS ⟨sts, es2⟩ j → es2 ≠ [] := fun j l => by
            induction l with
            | fin m => exact fun z => by rw [show (⟨sts, es2⟩ : Pl).ends = es2 from rfl, z] at m; cases m
            | step _ _ ih => exact ih
          exact key 0 this h

end
end TH
end
section
set_option Elab.async false
set_option linter.all false
set_option maxRecDepth 100000
set_option maxHeartbeats 4000000
namespace TH
open PySem PySem.Spec PyProof.Rows L2
section
variable {P : Program} {w : World} {K : PySem.W.Frag} {mg : Str → Option Value} {base : Heap}
/-! leads: what the law asks is what the program keeps -/
theorem pad_sil {X : List Nat} {n : Nat} (h : X.length ≤ n) : pad X n = sil X (n - X.length) := by
  unfold pad sil
  rw [List.take_of_length_le h]
def Lb (W : Wld) (f : Nat → Nat) (ks : List Nat) (tw : List (Nat × Nat)) (X : List Nat) (lo hi : Int) : Prop :=
  (∀ a ∈ ks, stA W a X = f a) ∧ ∀ q ∈ tw, ∀ n, n ≤ lgA W q.1 + X.length + (hi - lo + 3).toNat → lo ≤ gap2 W q.1 q.2 X n ∧ gap2 W q.1 q.2 X n ≤ hi
theorem lb_iff {F : Fld} (ok : FOk F) {X : List Nat} (hX : SgOk F X) {f : Nat → Nat} (hg : F.goal = F.kinds.map f) : Lb F.W f F.kinds F.twos X F.lo F.hi ↔ good F X ∧ Settled F X := by
  have st : F.kinds.map (fun c => stA F.W c X) = F.goal ↔ ∀ a ∈ F.kinds, stA F.W a X = f a := by
    rw [hg]
    exact List.map_inj_left
  have wi := ok.wi
  constructor
  · rintro ⟨h1, h2⟩
    refine ⟨⟨hX, fun n hn q hq => ?_⟩, st.mpr h1, fun n q hq => ?_⟩
    · have := h2 q hq n (by omega)
      unfold gap2 at this
      rwa [pad_le hn] at this
    · have hs : ∀ m, m ≤ lgA F.W q.1 + (F.hi - F.lo + 3).toNat → F.lo ≤ gapX F.W q.1 q.2 (sil X m) ∧ gapX F.W q.1 q.2 (sil X m) ≤ F.hi := fun m hm => by
        have := h2 q hq (X.length + m) (by omega)
        unfold gap2 at this
        rwa [pad_sil (Nat.le_add_right _ _), Nat.add_sub_cancel_left] at this
      by_cases hn : n ≤ lgA F.W q.1
      · exact hs n (by omega)
      · have d0 := no_drift ok hX hq (Nat.le_refl (lgA F.W q.1)) (hs _ (by omega)) (m := (F.hi - F.lo + 1).toNat) (by omega) (hs _ (by omega))
        have e : n = lgA F.W q.1 + (n - lgA F.W q.1) := by omega
        rw [e, gap_sil ok hX hq (Nat.le_refl _), d0, Int.mul_zero, Int.add_zero]
        exact hs _ (by omega)
  · rintro ⟨⟨_, h1⟩, h2, h3⟩
    refine ⟨st.mp h2, fun q hq n _ => ?_⟩
    unfold gap2
    by_cases hn : n ≤ X.length
    · rw [pad_le hn]
      exact h1 n hn q hq
    · rw [pad_sil (by omega)]
      exact h3 _ q hq
theorem all_n {F : Fld} {X : List Nat} (g : good F X) (s : Settled F X) : ∀ q ∈ F.twos, ∀ n, F.lo ≤ gap2 F.W q.1 q.2 X n ∧ gap2 F.W q.1 q.2 X n ≤ F.hi := fun q hq n => by
  unfold gap2
  by_cases hn : n ≤ X.length
  · rw [pad_le hn]
    exact g.2 n hn q hq
  · rw [pad_sil (by omega)]
    exact s.2 _ q hq
/-- a column of neighbours arrives -/
theorem arr_of {F : Fld} (ok : FOk F) {X : List Nat} (hX : SgOk F X) {f : Nat → Nat} (h1 : ∀ a ∈ F.kinds, stA F.W a X = f a) (h2 : ∀ q ∈ F.twos, ∀ n, F.lo ≤ gap2 F.W q.1 q.2 X n ∧ gap2 F.W q.1 q.2 X n ≤ F.hi)
    {G : List Nat} (gl : 1 ≤ G.length) (gk : ∀ a ∈ G, a ∈ F.kinds) (gn : ∀ i a b : Nat, G[i]? = some a → G[i + 1]? = some b → (a, b) ∈ F.twos) : Arr F.W f G X F.lo F.hi := by
  refine ⟨fun b hb i hi => ?_, fun i c hc => ?_, fun i c hc => ?_⟩
  · have ha : G[i]? = some G[i] := List.getElem?_eq_getElem (by omega)
    have hb' : G[i + 1]? = some G[i + 1] := List.getElem?_eq_getElem (by omega)
    rw [gpG_eq ha hb']
    exact h2 _ (gn i _ _ ha hb') _
  · unfold stG
    rw [hc, Nat.add_sub_cancel_left, pad_all]
    exact h1 c (gk c (List.mem_of_getElem? hc))
  · have hk := gk c (List.mem_of_getElem? hc)
    have hl := (List.getElem?_eq_some_iff.mp hc).1
    have hm := delAt_mono (W := F.W) (G := G) (i := i) (j := G.length - 1) (by omega) (by omega)
    have hle : X.length ≤ endN F.W G X F.lo F.hi - delAt F.W G i := by
      unfold endN
      omega
    unfold stG
    rw [hc, pad_sil hle]
    show stA F.W c (sil X _) = f c
    rw [st_sil ok hX hk]
    exact h1 c hk
theorem leadB_lb {F : Fld} (ok : FOk F) {X : List Nat} {f : Nat → Nat} (h : LeadB F.W f F.kinds F.twos X F.lo F.hi) : Lb F.W f F.kinds F.twos X F.lo F.hi := by
  refine ⟨fun a ha => ?_, fun q hq n hn => ?_⟩
  · have := (h.1 a ha).st1 0 a rfl
    unfold stG at this
    rw [delAt_zero, Nat.zero_add, Nat.sub_zero, pad_all] at this
    exact this
  · have := (h.2 q hq).gap n (by
      unfold endN
      have e : delAt F.W [q.1, q.2] 1 = lgA F.W q.1 := by
        rw [delAt_succ (a := q.1) rfl, delAt_zero, Nat.zero_add]
      show n < delAt F.W [q.1, q.2] 1 + X.length + (F.hi - F.lo + 3).toNat + 1
      rw [e]
      omega) 0 (by show 0 < 1; decide)
    rw [gpG_eq (a := q.1) (b := q.2) rfl rfl, delAt_zero, Nat.sub_zero] at this
    exact this
theorem lead_iff {F : Fld} (ok : FOk F) {X : List Nat} (hX : SgOk F X) {f : Nat → Nat} (hg : F.goal = F.kinds.map f) : LeadB F.W f F.kinds F.twos X F.lo F.hi ↔ good F X ∧ Settled F X := by
  refine ⟨fun h => (lb_iff ok hX hg).mp (leadB_lb ok h), fun h => ?_⟩
  have hl := (lb_iff ok hX hg).mpr h
  have ha := all_n h.1 h.2
  refine ⟨fun a m => arr_of ok hX hl.1 ha (by simp) (fun d hd => by cases List.mem_singleton.mp hd; exact m) (fun i x y h1 h2 => ?_), fun q m => arr_of ok hX hl.1 ha (by simp) (fun d hd => ?_) (fun i x y h1 h2 => ?_)⟩
  · simp at h2
  · have := ok.tw q m
    rcases List.mem_cons.mp hd with rfl | hd
    · exact this.1
    · cases List.mem_singleton.mp hd
      exact this.2
  · cases i with
    | zero =>
      have e1 : q.1 = x := by simpa using h1
      have e2 : q.2 = y := by simpa using h2
      rw [← e1, ← e2]
      exact m
    | succ i => simp at h2

end
end TH
end
section
set_option Elab.async false
set_option linter.all false
set_option maxRecDepth 100000
set_option maxHeartbeats 4000000
namespace TH
open PySem PySem.Spec PyProof.Rows L2
section
variable {P : Program} {w : World} {K : PySem.W.Frag} {mg : Str → Option Value} {base : Heap}
/-! bool(o) by an own __bool__ -/
theorem truthy_bo {prog : Program} {w : World} {A : Around} {s : Shared} {a dx C f : Addr} {mA : Str → Option Value} {E : Value → Shared → Prop} {Q : Bool → Shared → Prop} (X : K.In s.heap) (I : ObjM s.heap a dx C mA)
    (hf : PySem.W.findIn K (.ref C) "__bool__" = some (some (.ref f))) (ht : PySem.W.isFn K (.ref f) = true)
    (h : wpAny (model prog w) A (call (.ref f) [.ref a]) (fun r s' => ∃ b, r = .bool b ∧ Q b s') E s) : wpAny (model prog w) A (truthy (.ref a)) Q E s := by
  obtain ⟨od, J, _⟩ := I.look
  have key : wpAny (model prog w) A (callSpecial? (.ref a) (Str.ofString "__bool__")) (fun r s' => ∃ b, r = some (.bool b) ∧ Q b s') E s := by
    unfold callSpecial? specialOf
    refine wpAny_bind (wpAny_bind (J.type.here ((PySem.W.looks_findIn X hf).here ?_)))
    refine wpAny_holding ?_
    unfold bindSpecial
    refine wpAny_bind (wpAny_bind ((PySem.W.looks_typeIn X (beq_iff_eq.mp ht)).here ?_))
    rw [if_pos (by decide)]
    refine wpAny_pure ?_
    refine wpAny_bind (wpAny_mono h (fun v s' q => ?_) fun _ _ z => z)
    obtain ⟨b, rfl, q⟩ := q
    exact wpAny_pure ⟨b, rfl, q⟩
  unfold truthy
  first
    | refine wpAny_bind (m := callSpecial? (.ref a) (Str.ofString "__bool__")) (wpAny_mono key (fun r s' q => ?_) fun _ _ z => z)
    | (refine wpAny_bind (wpAny_pure ?_); refine wpAny_bind (m := callSpecial? (.ref a) (Str.ofString "__bool__")) (wpAny_mono key (fun r s' q => ?_) fun _ _ z => z))
  obtain ⟨b, rfl, q⟩ := q
  exact wpAny_pure q
theorem new_bo {prog : Program} {w : World} (x : Value) : MeetsIn prog w (Builtin.«bool.__new__» ⟨[.type "bool", x], []⟩) (fun A R s => wpAny (model prog w) A.in1 (truthy x) (fun b s' => R (.ok (.ret (.bool b))) s') (fun e s' => R (.error e) s') s) := .of_wp fun A R s hs => by
  have f1 := F.conv_sub_bool
  unfold Builtin.«bool.__new__»
  try dsimp only
  refine wpAny_bind (wpAny_of_eq (a := true) (by first | rfl | kernel_rfl) ?_)
  try dsimp only
  rw [if_neg (by decide)]
  refine wpAny_bind (wpAny_pure ?_)
  refine wpAny_bind (wpAny_of_eq (a := [x]) (by first | rfl | kernel_rfl) ?_)
  try dsimp only
  exact wpAny_bind (wpAny_mono hs (fun b s' q => wpAny_pure ⟨_, rfl, q⟩) fun _ _ z => z)
theorem call_bo {prog : Program} {w : World} {A : Around} {E : Value → Shared → Prop} {s : Shared} {x : Value} {Q : Value → Shared → Prop} (h : wpAny (model prog w) A.in1.in1 (truthy x) (fun b s' => Q (.bool b) s') E s) :
    wpAny (model prog w) A (call (.type "bool") [x]) Q E s :=
  callType_newIn F.called_bool F.newNe_bool (F.typeCall_bool_1 x) (F.newCall_bool_1 x) (fun obj => F.args_object_init_2 obj x) F.entry_bool_new (new_bo x) (wpAny_mono h (fun b s' q => ⟨rfl, q⟩) fun _ _ z => z)
theorem call_boolO {X : Cx} {k : Nat} {f C : Addr} {ps : List Str} {sp : Sp} (F : Pr X.prog X.w X.K X.mg X.base CX0 k ps [] f sp) (m : Meth X.K C "__bool__" f) (hr : Room (k + 2) X.A) :
    CallR X (.type "bool") (fun xs H Q => ∃ a dx fs, xs = [.ref a] ∧ H a = some (.ins C dx fs) ∧ sp [.ref a] H (fun v H' => (∃ b, v = .bl b) ∧ Q v H') E0) := by
  intro pins s σ H xs us Q I r h
  obtain ⟨a, dx, fs, rfl, ha, q⟩ := h
  obtain rfl := Vals.ref1 r
  obtain ⟨mA, O, _⟩ := ins_get I.hok ha
  obtain ⟨fd, ds, F1, b, v⟩ := F.ex
  cases v
  have hl : ([Value.ref a] ++ []).length = ps.length := F1.len _ _ _ _ q
  refine call_bo (truthy_bo I.kIn O m.at_ m.fn ?_)
  refine wpAny_call (codeAny_mono (F1.run X.A.in1.in1 X.stack s H ⟨[.ref a], []⟩ [.ref a] [.ref a] _ E0 hr.in1.in1 I.env0.in1.in1 (b s [.ref a] I.kIn hl) (.cons rfl .nil) q) fun r s' hq => ?_)
  cases r with
  | error e => exact False.elim hq
  | ok fl =>
    cases fl with
    | ret u =>
      obtain ⟨v, H', I3, rv, ⟨b, rfl⟩, q3⟩ := I.after hq
      cases (show u = Value.bool b from rv)
      exact ⟨b, rfl, .bl b, H', I3, rfl, q3⟩
    | next => exact False.elim hq
    | brk => exact False.elim hq
    | cont => exact False.elim hq

end
end TH
end
section
set_option Elab.async false
set_option linter.all false
set_option maxRecDepth 100000
set_option maxHeartbeats 4000000
namespace TH
open PySem PySem.Spec PyProof.Rows L2
section
variable {P : Program} {w : World} {K : PySem.W.Frag} {mg : Str → Option Value} {base : Heap}
/-! the law -/
theorem leadB_mem {W : Wld} {f : Nat → Nat} {X : List Nat} {lo hi : Int} {ks ks' : List Nat} {tw tw' : List (Nat × Nat)} (h1 : ∀ a, a ∈ ks ↔ a ∈ ks') (h2 : ∀ q, q ∈ tw ↔ q ∈ tw') : LeadB W f ks tw X lo hi ↔ LeadB W f ks' tw' X lo hi :=
  ⟨fun h => ⟨fun a m => h.1 a ((h1 a).mpr m), fun q m => h.2 q ((h2 q).mpr m)⟩, fun h => ⟨fun a m => h.1 a ((h1 a).mp m), fun q m => h.2 q ((h2 q).mp m)⟩⟩
theorem Kinds.mem {p : Pl} {ks ks' : List Nat} (h : Kinds p ks) (h' : Kinds p ks') : ∀ a, a ∈ ks ↔ a ∈ ks' := fun a => (h.iff a).trans (h'.iff a).symm
theorem Twos.mem {p : Pl} {tw tw' : List (Nat × Nat)} (h : Twos p tw) (h' : Twos p tw') : ∀ q, q ∈ tw ↔ q ∈ tw' := fun q => (h.iff q.1 q.2).trans (h'.iff q.1 q.2).symm
def hiOf (lo r : Nat) : Int := (lo : Int) + 3 + (r : Nat)
def NoL (W : Wld) (f : Nat → Nat) (ks : List Nat) (tw : List (Nat × Nat)) (lo hi : Int) (n : Nat) : Prop := ∀ Y : List Nat, (∀ c ∈ Y, c ∈ W.signs) → Y.length < n → ¬ LeadB W f ks tw Y lo hi
def spLaw (K : PySem.W.Frag) : Sp := fun vs H Q _ => ∃ (a : Addr) (ns : List Int), vs = [.ref a] ∧ SqL K H a (ns.map V.int) ∧ ns.length ≤ 63 ∧ ∀ H', Q (.bl true) H'
theorem law_body (T : Tx K mg) (cdv : Value) (A : Around) (outer : List Env) (s : Shared) (H : Hp) (vs : List V) (Q : VK) (E : XK) (hr : Room 12 (A.deeper (envOfC "law" (defScope s_law) s.heap.objs.size (He.ga K "law") cdv))) (h : spLaw K vs H Q E) :
    ∃ t, PSs (cxOf CX0 P w K mg base ["_law_script", "_law_draw_here", "_law_raw", "_law_plan_here", "_law_low", "_law_high", "_law_make", "_law_goal", "_law_told", "_law_singles", "_law_pairs", "_law_size", "_law_text", "_law_turn", "_law_groups", "_law_many", "_law_name", "_law_sign"] "law" (defScope s_law) (He.ga K "law") cdv A outer s H E).nox (defBody s_law) t ∧ t { nx := fun _ H' => Q .non H', rt := Q } (start ["_law_script", "_law_draw_here", "_law_raw", "_law_plan_here", "_law_low", "_law_high", "_law_make", "_law_goal", "_law_told", "_law_singles", "_law_pairs", "_law_size", "_law_text", "_law_turn", "_law_groups", "_law_many", "_law_name", "_law_sign"] vs) H := by
    obtain ⟨a, ns, rfl, hs, ln, q⟩ := h
    have hu65 := room65 hr
    refine ⟨_, (pss_cons (ps_set (i := 1) scs_law.nd rfl (.inr rfl) (pcall (p__law_draw T) (hr.mono (by decide)) (by rfl) T.g__law_draw pass0 (pa_cons (pv 0) pa_nil)))
    (pss_cons (ps_set (i := 2) scs_law.nd rfl (.inr rfl) (pcall (p__law_world T) (hr.mono (by decide)) (by rfl) T.g__law_world pass0 (pa_cons (pv 1) pa_nil)))
    (pss_cons (ps_set (i := 3) scs_law.nd rfl (.inl rfl) (pcall (p__law_plan T) (hr.mono (by decide)) (by rfl) T.g__law_plan pass0 (pa_cons (pv 1) (pa_cons (pcall (p__law_all_names T) (hr.mono (by decide)) (by rfl) T.g__law_all_names pass0 (pa_cons (pv 2) pa_nil)) (pa_cons (pe_op op_add pe_int (pcall (p__law_pick T) (hr.mono (by decide)) (by rfl) T.g__law_pick pass0 (pa_cons (pv 1) (pa_cons pe_int pa_nil)))) pa_nil)))))
    (pss_cons (ps_set (i := 4) scs_law.nd rfl (.inl rfl) (pcall (p__law_pick T) (hr.mono (by decide)) (by rfl) T.g__law_pick pass0 (pa_cons (pv 1) (pa_cons pe_int pa_nil))))
    (pss_cons (ps_set (i := 5) scs_law.nd rfl (.inl rfl) (pe_op op_add (pe_op op_add (pv 4) pe_int) (pcall (p__law_pick T) (hr.mono (by decide)) (by rfl) T.g__law_pick pass0 (pa_cons (pv 1) (pa_cons pe_int pa_nil)))))
    (pss_cons (ps_set (i := 6) scs_law.nd rfl (.inl rfl) (pmake (p_Make_init T) T.mkr_Make (hr.mono (by decide)) (by rfl) T.g_Make pass0 (pa_cons (pe_ix ix_tup (pv 2) pe_int (fun _ _ => rfl)) (pa_cons (pe_ix ix_tup (pv 2) pe_int (fun _ _ => rfl)) (pa_cons (pe_ix ix_tup (pv 2) pe_int (fun _ _ => rfl)) (pa_cons (pe_ix ix_tup (pv 2) pe_int (fun _ _ => rfl)) pa_nil))))))
    (pss_cons (ps_set (i := 7) scs_law.nd rfl (.inl rfl) (pe_callTy call_tupU (by rfl) T.z_tuple (by decide +kernel) (pa_cons (pe_lc (own := [("_law_name", 16)]) rfl scs_law.nd (pi_str (pcall (p__law_all_names T) (hr.mono (by decide)) (by rfl) T.g__law_all_names pass0 (pa_cons (pv 2) pa_nil))) (blkOk_by (N := ["_law_script", "_law_draw_here", "_law_raw", "_law_plan_here", "_law_low", "_law_high", "_law_make", "_law_goal", "_law_told", "_law_singles", "_law_pairs", "_law_size", "_law_text", "_law_turn", "_law_groups", "_law_many", "_law_name", "_law_sign"]) (sc := defScope s_law) (by decide +kernel)) (fun _ _ _ _ _ => (pg_name (i := 16) scs_law.nd rfl (.inl rfl) (.inr rfl))) (fun _ _ _ _ _ => pts_nil) (fun _ _ _ _ _ => (pcall (p__law_pick T) (hr.mono (by decide)) (by rfl) T.g__law_pick pass0 (pa_cons (pv 1) (pa_cons (pe_callB (len_seqK (K := K) rfl) (by rfl) T.z_len PySem.boot_len (pa_cons (pe_ix (ix_tupK (K := K) rfl) (pcall (p__law_kind T) (hr.mono (by decide)) (by rfl) T.g__law_kind pass0 (pa_cons (pv 2) (pa_cons (pv 16) pa_nil))) pe_int (fun _ _ => rfl)) pa_nil)) pa_nil))))) pa_nil)))
    (pss_cons (ps_try_only rfl rfl ⟨rfl, by decide, .inl T.g_TooMany⟩ takes0 (fun W pn xe tk _ => (pss_one (ps_set (i := 8) scs_law.nd rfl (.inl rfl) (pmake (p_Lead_init T) T.mkr_Lead (hr.mono (by decide)) (by rfl) T.g_Lead (passes_call (E := fun c d H => ∀ σ, W c d σ H) tk (fun _ _ σ _ h => h σ)) (pa_cons (pv 6) (pa_cons (pmake (p_Plan_init T) T.mkr_Plan (hr.mono (by decide)) (by rfl) T.g_Plan pass0 (pa_cons (pe_ix (ix_tupK (K := K) rfl) (pv 3) pe_int (fun _ _ => rfl)) (pa_cons (pe_ix (ix_tupK (K := K) rfl) (pv 3) pe_int (fun _ _ => rfl)) pa_nil))) (pa_cons (pe_tup (pa_cons (pv 4) (pa_cons (pv 5) pa_nil))) (pa_cons (pcall (p__law_listed T) (hr.mono (by decide)) (by rfl) T.g__law_listed pass0 (pa_cons (pv 7) pa_nil)) pa_nil)))))))) (fun a oe cls d pn _ _ => (pss_one (ps_ret pe_bl))))
    (pss_cons (ps_set (i := 9) scs_law.nd rfl (.inl rfl) (pcall (p__law_single_names T) (hr.mono (by decide)) (by rfl) T.g__law_single_names pass0 (pa_cons (pv 3) pa_nil)))
    (pss_cons (ps_set (i := 10) scs_law.nd rfl (.inl rfl) (pcall (p__law_neighbours T) (hr.mono (by decide)) (by rfl) T.g__law_neighbours pass0 (pa_cons (pv 3) pa_nil)))
    (pss_cons (ps_set (i := 11) scs_law.nd rfl (.inl rfl) pe_int)
    (pss_cons (ps_if (pt_val (pe_callTy (call_boolO (p_Lead_bool T) T.m_Lead_bool (hr.mono (by decide))) (by rfl) T.z_bool (by decide +kernel) (pa_cons (pv 8) pa_nil)))
      (pss_cons (ps_set (i := 12) scs_law.nd rfl (.inl rfl) (pe_fld (pv 8) rfl))
      (pss_cons (ps_if (pw_or (pt_not (pt_val (pe_callB call_isiS (by rfl) T.z_isinstance (by decide +kernel) (pa_cons (pv 12) (pa_cons (pe_bltn (v := .ty "str") (by rfl) T.z_str (by decide +kernel : bootBuiltins "str" = some (.type "str")) rfl) pa_nil))))) (pw_or1 (pt_cmpR op_notN (pe_fld (pv 8) rfl) pe_non (nomark _)))).pt
        (pss_one (ps_ret pe_bl))
        pss_nil)
      (pss_cons (ps_if (pt_truth (pe_lc (own := [("_law_sign", 17)]) rfl scs_law.nd (pi_str (pv 12)) (blkOk_by (N := ["_law_script", "_law_draw_here", "_law_raw", "_law_plan_here", "_law_low", "_law_high", "_law_make", "_law_goal", "_law_told", "_law_singles", "_law_pairs", "_law_size", "_law_text", "_law_turn", "_law_groups", "_law_many", "_law_name", "_law_sign"]) (sc := defScope s_law) (by decide +kernel)) (fun _ _ _ _ _ => (pg_name (i := 17) scs_law.nd rfl (.inl rfl) (.inr rfl))) (fun _ _ _ _ _ => (pts_one (pt_cmpR op_notIn_sign (pv 17) (pe_op op_add_str pe_str (pe_ix (ix_tupK (K := K) rfl) (pv 2) pe_int (fun _ _ => rfl))) rfl))) (fun _ _ _ _ _ => (pv 17))) (fun _ => rfl))
        (pss_one (ps_ret pe_bl))
        pss_nil)
      (pss_cons (ps_if (pt_not (pt_val (pcall (p__law_leads T) (hr.mono (by decide)) (by rfl) T.g__law_leads pass0 (pa_cons (pv 2) (pa_cons (pv 7) (pa_cons (pv 9) (pa_cons (pv 10) (pa_cons (pv 12) (pa_cons (pv 4) (pa_cons (pv 5) pa_nil))))))))))
        (pss_one (ps_ret pe_bl))
        pss_nil)
      (pss_cons (ps_for PassesOwn.never rfl (pi_range1 (by rfl) T.z_range (pa_cons pe_int pa_nil)) (pg_name (i := 13) scs_law.nd rfl (.inl rfl) (.inl rfl))
        (pss_cons (ps_set (i := 14) scs_law.nd rfl (.inl rfl) (pcall (p__law_borne_column T) (hr.mono (by decide)) (by rfl) T.g__law_borne_column pass0 (pa_cons (pv 1) (pa_cons (pv 3) (pa_cons pe_int pa_nil)))))
        (pss_one (ps_if (pw_and (pt_cmpR op_ne (pv 14) pe_str (nomark _)) (pw_and (pt_cmpR op_le (pe_callB call_len_str (by rfl) T.z_len PySem.boot_len (pa_cons (pv 12) pa_nil)) pe_int (nomark _)) (pw_and1 (pt_not (pt_val (pcall (p__law_in_column T) (hr.mono (by decide)) (by rfl) T.g__law_in_column pass0 (pa_cons (pv 6) (pa_cons (pv 2) (pa_cons (pv 7) (pa_cons (pv 14) (pa_cons (pv 12) (pa_cons (pv 4) (pa_cons (pv 5) pa_nil))))))))))))).pt
          (pss_one (ps_ret pe_bl))
          pss_nil))))
      (pss_one (ps_set (i := 11) scs_law.nd rfl (.inl rfl) (pe_callB (call_min2 rfl) (by rfl) T.z_min (by decide +kernel) (pa_cons pe_int (pa_cons (pe_callB call_len_str (by rfl) T.z_len PySem.boot_len (pa_cons (pv 12) pa_nil)) pa_nil))))))))))
      (pss_one (ps_if (pw_or (pt_cmpR op_notN (pe_fld (pv 8) rfl) pe_non (nomark _)) (pw_or1 (pt_cmpR op_isN (pe_fld (pv 8) rfl) pe_non (nomark _)))).pt
        (pss_one (ps_ret pe_bl))
        pss_nil)))
    (pss_cons (ps_for PassesOwn.never rfl (pi_range1 (by rfl) T.z_range (pa_cons (pv 11) pa_nil)) (pg_name (i := 15) scs_law.nd rfl (.inl rfl) (.inl rfl))
      (pss_one (ps_for PassesOwn.never rfl (pi_list (pcall (p__law_texts T) (hr.mono (by decide)) (by rfl) T.g__law_texts pass0 (pa_cons (pe_op op_add_str pe_str (pe_ix ix_tup (pv 2) pe_int (fun _ _ => rfl))) (pa_cons (pv 15) pa_nil)))) (pg_name (i := 12) scs_law.nd rfl (.inl rfl) (.inl rfl))
        (pss_one (ps_if (pt_val (pcall (p__law_leads T) (hr.mono (by decide)) (by rfl) T.g__law_leads pass0 (pa_cons (pv 2) (pa_cons (pv 7) (pa_cons (pv 9) (pa_cons (pv 10) (pa_cons (pv 12) (pa_cons (pv 4) (pa_cons (pv 5) pa_nil)))))))))
          (pss_one (ps_ret pe_bl))
          pss_nil)))))
    (pss_one (ps_ret pe_bl))))))))))))))), ?_⟩
    refine ⟨_, rfl, a, ns, rfl, hs, by omega, fun H1 d ca s1 nd dw1 => ?_⟩
    refine ⟨_, rfl, d, ca, ns, rfl, dw1, fun H2 v W sb2 dw2 wok hW => ?_⟩
    have wkl := wok.kl
    obtain ⟨row, pm, ri⟩ := rise_ex (l := W.names) wok.nd (by rw [Wld.names, List.length_map]; exact wkl.2)
    have lr : row.length = W.kinds.length := by rw [pm.length_eq, Wld.names, List.length_map]
    have rg : ∀ c ∈ row, 65 ≤ c ∧ c ≤ 90 := fun c hc => by
      obtain ⟨k, hk, rfl⟩ := List.mem_map.mp (pm.mem_iff.mp hc)
      exact wok.nm k hk
    refine ⟨_, rfl, _, rfl, v, W, row, rfl, hW, wok, pm, ri, fun H3 s3 => ⟨_, rfl, d, ca, ns, 2, rfl, dw2.same s3, by decide, fun H4 r4 sb4 dw4 h4 => ⟨1, (r4 : Nat), rfl, rfl, ?_⟩⟩⟩
    refine ⟨d, ca, ns, row, 1 + r4, by show [V.ref d, .str (str row), .int (((1 : Nat) : Int) + (r4 : Nat))] = _; rw [int1], dw4, by omega, by omega, ri, by omega, by omega, rg, fun H5 pv p sb5 dw5 pok hp => ?_⟩
    have hW5 := (hW.same s3).kp (((dw2.same s3).kp sb4).trans (dw4.kp sb5))
    refine ⟨_, rfl, d, ca, ns, 2, rfl, dw5, by decide, fun H6 lo sb6 dw6 h6 => ?_⟩
    refine ⟨_, rfl, (lo : Nat), 3, rfl, rfl, _, rfl, d, ca, ns, 6, rfl, dw6, by decide, fun H7 r7 sb7 dw7 h7 => ⟨_, (r7 : Nat), rfl, rfl, ?_⟩⟩
    have k57 := (dw5.kp sb6).trans (dw6.kp sb7)
    have hW7 := hW5.kp k57
    have hp7 := hp.kp k57
    have lo1 : lo ≤ 1 := by omega
    have r71 : r7 ≤ 5 := by omega
    clear h7 h6 h4
    have w1 : (0 : Int) ≤ (lo : Nat) := by omega
    have w2 : ((lo : Nat) : Int) ≤ hiOf lo r7 := by unfold hiOf; omega
    have w3 : hiOf lo r7 ≤ 60 := by unfold hiOf; omega
    have w4 : hiOf lo r7 ≤ ((lo : Nat) : Int) + 8 := by unfold hiOf; omega
    have w5 : ((lo : Nat) : Int) + 3 ≤ hiOf lo r7 := by unfold hiOf; omega
    obtain ⟨va, kv, se, rfl, hva, hkv, hse⟩ := wld_inv hW7
    refine ⟨_, rfl, va, _, 0, _, rfl, rfl, hva, rfl, _, rfl, va, _, 1, _, rfl, rfl, hva, rfl, _, rfl, va, _, 2, _, rfl, rfl, hva, rfl, _, rfl, va, _, 3, _, rfl, rfl, hva, rfl, fun x dx nx ndx ne => ?_⟩
    have sm := made_same (C := He.ga K "Make") (fs := []) nx ndx ne
    refine ⟨x, dx, W, kv, .ref se, rfl, upd_same, wok, hkv.same sm, .tup (sm.tup hse) (by show 0 ≤ 2000; decide) .nil, fun H8 row' sb8 hm => ⟨rfl, ?_⟩⟩
    have s8 : Same H7 H8 := Sb.same sm nx sb8
    have er : row' = row := rise_eq (hm.perm.trans pm.symm) hm.rise ri
    subst er
    have hW8 := hW7.same s8
    have hp8 := hp7.same s8
    have dw8 := dw7.same s8
    refine ⟨_, rfl, .ref va, W, row', rfl, hW8, wok, pm, ri, fun H9 s9 => ⟨_, rfl, fun D nD => ?_⟩⟩
    have dw9 := dw8.same s9
    have nDd : D ≠ d := dw9.ne2 nD
    refine lc_inv (walk_str (z := str row')) (by rw [str_size]; omega) (fun i acc H' => Sb d H9 H' ∧ Dw H' d ca ns ∧ H' D = some (.lst acc) ∧ ∃ gs : List Nat, acc = natsV gs ∧ gs.length = i ∧ ∀ j c g : Nat, row'[j]? = some c → gs[j]? = some g → g < (kOf W c).rows.length) ⟨Sb.of (same_upd nD), dw9.same (same_upd nD), upd_same, [], rfl, rfl, fun j c g _ h => by simp at h⟩ (fun i acc H' h => trivial) (fun i acc H' h => by obtain ⟨_, _, e, gs, rfl, l, _⟩ := h; exact ⟨e, by rw [natsV, List.length_map]; omega⟩) (fun i y HA HB acc k ks hi h y hk hks => ?_) fun HA acc h => ?_
    · obtain ⟨sbA, dwA, eD, gs, rfl, lg, okg⟩ := h
      obtain ⟨rfl, c, hc, rfl⟩ := y
      have gc : row'[i]? = some c := str_at hc
      have mc : c ∈ W.names := pm.mem_iff.mp (List.mem_of_getElem? gc)
      have hWA := (hW8.same s9).kp (dw9.kp sbA)
      refine ⟨rfl, yes_if ⟨_, rfl, _, rfl, _, rfl, .ref va, W, c, rfl, hWA, wok, mc, fun HC kp rv sC hkp hrv => ?_⟩⟩
      obtain ⟨ra, xs, rfl, hra, _, tx⟩ := hrv.tup_inv
      have lx : xs.length = (kOf W c).rows.length := by simpa using tx.length
      have lk := (wok.rows _ (kOf_mem mc).1).len
      refine ⟨kp, _, 1, _, rfl, rfl, hkp, rfl, ra, _, rfl, .inr hra, d, ca, ns, xs.length, rfl, dwA.same sC, by omega, fun HE rE sbE dwE hE => ?_⟩
      have eDE := sbE _ _ nDd (sC _ _ eD)
      refine hk _ HE eDE ⟨((sbA.trans (Sb.of sC)).trans sbE).more nD sb_upd, dw9.sb nD dwE sb_upd, upd_same, gs ++ [rE], (natsV_snoc gs rE).symm, by simp [lg], fun j c' g hj hg => ?_⟩
      by_cases hji : j < gs.length
      · rw [List.getElem?_append_left hji] at hg
        exact okg j c' g hj hg
      · rw [List.getElem?_append_right (by omega)] at hg
        have hj0 : j = i := by
          have := (List.getElem?_eq_some_iff.mp hg).1
          simp at this
          omega
        subst hj0
        rw [gc] at hj
        cases hj
        have : g = rE := by
          rw [lg, Nat.sub_self] at hg
          exact (Option.some.inj hg).symm
        subst this
        omega
    · obtain ⟨sbA, dwA, eD, gs, rfl, lg, okg⟩ := h
      rw [str_size] at lg
      refine ⟨D, _, rfl, .inl (.inl (.inl eD)), fun ga HC sC hga => ?_⟩
      have gok : GoalOk W row' gs := ⟨lg, okg⟩
      have k9C := (dw9.kp sbA).trans (Kp.of sC)
      have hWC := (hW8.same s9).kp k9C
      have hpC := (hp8.same s9).kp k9C
      have hmC := (hm.same s9).kp k9C
      have dwC := dwA.same sC
      obtain ⟨pa, sv, ev, rfl, hpa, tsv, hev⟩ := pl_inv hpC
      have pin : ∀ s ∈ p.states, ∀ q ∈ s, q.1 ∈ row' := fun s hs q hq => ((pok.ok.st s hs).2.2 q hq).1
      refine ⟨_, rfl, _, rfl, pa, _, 0, _, rfl, rfl, hpa, rfl, _, rfl, pa, _, 1, _, rfl, rfl, hpa, rfl, fun y dy ny ndy ney => ?_⟩
      have smy := made_same (C := He.ga K "Plan") (fs := []) ny ndy ney
      refine ⟨y, dy, sv, .ref ev, p, row', rfl, upd_same, tsv.same smy, .tup (smy.tup hev) (by rw [natsV, List.length_map]; have := nodup_le (pok.er.imp fun h => Nat.ne_of_lt h) pok.el; have := pok.ok.len; omega) (nats_tp _), pok, fun HF sbF hpl => ⟨rfl, ?_⟩⟩
      have sF : Same HC HF := Sb.same smy ny sbF
      refine ⟨_, rfl, _, rfl, by show 2 ≤ sizeLine; decide, fun u nu => ?_⟩
      have sG := same_upd (o := .tup [.int (lo : Nat), (fun i j => V.int (i + j)) (((lo : Nat) : Int) + 3) (r7 : Nat)]) nu
      have eG : (upd HF u (.tup [.int (lo : Nat), (fun i j => V.int (i + j)) (((lo : Nat) : Int) + 3) (r7 : Nat)])) u = some (.tup [.int (lo : Nat), (fun i j => V.int (i + j)) (((lo : Nat) : Int) + 3) (r7 : Nat)]) := upd_same
      generalize upd HF u (.tup [.int (lo : Nat), (fun i j => V.int (i + j)) (((lo : Nat) : Int) + 3) (r7 : Nat)]) = HG at sG eG ⊢
      replace eG : HG u = some (.tup [.int (lo : Nat), .int (hiOf lo r7)]) := eG
      have sCG := sF.trans sG
      refine ⟨_, rfl, ga, gs, rfl, sCG.tup hga, by omega, fun HI l sI nl el => ?_⟩
      have sCI := sCG.trans sI
      intro z dz nz ndz nez
      have smz := made_same (C := He.ga K "Lead") (fs := []) nz ndz nez
      have sCZ := sCI.trans smz
      have tpw : Tp K _ (.ref u) (.tup [.num (lo : Nat), .num (hiOf lo r7)]) := .tup ((sI.trans smz).tup (.inl (.inl eG))) (by show 2 ≤ 2000; decide) (.cons (.int _) (.one (.int _)))
      refine ⟨z, dz, _, .ref y, .ref u, .ref l, W, row', row', gs, p, (lo : Nat), hiOf lo r7, rfl, upd_same, hmC.same sCZ, wok, hpl.same ((sG.trans sI).trans smz), pok.ok, pin, tpw, w1, w2, w3, w4, .lst (.inl (.inl (smz _ _ el))) (by rw [natsV, List.length_map]; omega) (nats_tp gs).dd, gok, (fun d' H' _ σ => ⟨true, T.te, fun _ _ _ => q _, fun z => nomatch z⟩), fun HJ ks tw c sbJ hk ht isl none_ some_ => ⟨rfl, ?_⟩⟩
      have sJ : Same HC HJ := Sb.same sCZ (sCI.back nz) sbJ
      have hWJ := hWC.same sJ
      have hpJ := hpC.same sJ
      have hmJ := hmC.same sJ
      have dwJ := dwC.same sJ
      have hgaJ := sJ.tup hga
      refine ⟨_, rfl, .ref pa, p, row', rfl, hpJ, pok.ok, fun HK sl ks' sK esl hk' => ?_⟩
      refine ⟨_, rfl, .ref pa, p, row', rfl, hpJ.same sK, pok.ok, fun HL pl ys tw' sL epl tpl ht' => ?_⟩
      show (_ : TS) _ [some (.ref a), some (.ref d), some (.ref va), some (.ref pa), some (.int (lo : Nat)), some (.int (hiOf lo r7)), some (.ref x), some (.ref ga), some (.ref z), some (.ref sl), some (.ref pl), none, none, none, none, none, none, none] _
      have sKL := sK.trans sL
      have hWL := hWJ.same sKL
      have hpL := hpJ.same sKL
      have hmL := hmJ.same sKL
      have dwL := dwJ.same sKL
      have hgaL := sKL.tup hgaJ
      have eslL := sL _ _ esl
      have islL := isl.kp (Kp.of sKL)
      have fok : FOk (fldOf W row' gs ks tw (lo : Nat) (hiOf lo r7)) := fld_ok wok pm pin hk ht w1 w2 w3 w4
      have leq : ∀ Y : List Nat, (∀ c ∈ Y, c ∈ W.signs) → (LeadB W (goalOf row' gs) ks' tw' Y (lo : Nat) (hiOf lo r7) ↔ good (fldOf W row' gs ks tw (lo : Nat) (hiOf lo r7)) Y ∧ Settled (fldOf W row' gs ks tw (lo : Nat) (hiOf lo r7)) Y) := fun Y hY =>
        (leadB_mem (hk'.mem hk) (ht'.mem ht)).trans (lead_iff fok hY rfl)
      have kin : ∀ a ∈ ks', a ∈ W.names := fun a ha => pm.mem_iff.mp (kd_in pin ((hk'.iff a).mp ha))
      have tin : ∀ q ∈ tw', q.1 ∈ W.names ∧ q.2 ∈ W.names := fun q hq => by
        obtain ⟨k1, k2⟩ := nb_kd ((ht'.iff q.1 q.2).mp hq)
        exact ⟨pm.mem_iff.mp (kd_in pin k1), pm.mem_iff.mp (kd_in pin k2)⟩
      obtain ⟨la, ldx, lfs, ltv, ela, hla, l1, l2, l3, l4⟩ := islL.ex
      cases ela
      refine ⟨_, rfl, z, ldx, lfs, rfl, hla, .ref z, c, rfl, islL, ⟨⟨_, rfl⟩, _, rfl, ?_⟩⟩
      cases c with
      | none =>
        refine iteF ?_
        refine ⟨_, rfl, z, _, ldx, lfs, _, rfl, hla, T.c_Lead, T.n_Lead_calling, l1, rfl, _, rfl, iteNS rfl ?_⟩
        obtain ⟨tb, rfl⟩ : ∃ tb, ltv = .ref tb := by
          rcases l4 with h | h
          · exact h.2
          · exact absurd h.1 (by decide)
        refine ⟨_, rfl, z, _, ldx, lfs, _, rfl, hla, T.c_Lead, T.n_Lead_table, l3, rfl, _, rfl, iteD (fun z => nomatch z) (fun _ => ?_)⟩
        have noL : NoL W (goalOf row' gs) ks' tw' (lo : Nat) (hiOf lo r7) 4 := fun Y hY _ h => by
          have := (leq Y hY).mp h
          exact none_ rfl Y this.1 this.2
        obtain ⟨n, hn⟩ : ∃ n, n = 4 := ⟨4, rfl⟩
        have n4 : n ≤ 4 := by omega
        have esz : (4 : Int) = ((n : Nat) : Int) := by rw [hn]; rfl
        rw [← hn] at noL
        refine ⟨_, rfl, (n : Nat), congrArg (fun k => [V.int k]) esz, by omega, by omega, for_it (walk_rn (n := n)) (fun i σ H' => Same _ H' ∧ ∃ x11 x12 x13 x14 x15 x16 x17, σ = [some (.ref a), some (.ref d), some (.ref va), some (.ref pa), some (.int (lo : Nat)), some (.int (hiOf lo r7)), some (.ref x), some (.ref ga), some (.ref z), some (.ref sl), some (.ref pl), x11, x12, x13, x14, x15, x16, x17])
          ⟨Same.refl _, _, _, _, _, _, _, _, rfl⟩ (fun i σ H' _ h => trivial) (fun i y σ HR' HR hi h y => ?_) fun σ HR h => ?_⟩
        · obtain ⟨sR, x11, x12, x13, x14, x15, x16, x17, rfl⟩ := h
          obtain ⟨rfl, rfl⟩ := y
          obtain ⟨va', kv', se', eva, hvaR, _, _⟩ := wld_inv (hWL.same sR)
          cases eva
          refine ⟨_, rfl, va, _, 0, _, rfl, rfl, hvaR, rfl, str [46], str W.words, rfl, rfl, by rw [str_len, str_len]; exact sz2 (by have := wok.wl; simp; omega), ?_⟩
          rw [show str [46] ++ str W.words = str W.signs from str_app _ _]
          refine ⟨_, rfl, W.signs, i, rfl, by have := wok.wl; simp [Wld.signs]; omega, by omega, fun HS r sS er => ⟨r, rfl, ⟨_, .inl (.inl er)⟩, for_it (walk_list (xs := txV (texts W.signs i))) (fun j σ H' => Same HS H' ∧ ∃ x11 x12 x13 x14 x16 x17, σ = [some (.ref a), some (.ref d), some (.ref va), some (.ref pa), some (.int (lo : Nat)), some (.int (hiOf lo r7)), some (.ref x), some (.ref ga), some (.ref z), some (.ref sl), some (.ref pl), x11, x12, x13, x14, some (.int (i : Nat)), x16, x17])
            ⟨Same.refl _, _, _, _, _, _, _, rfl⟩ (fun j σ H' _ h => .inl (.inl (h.1 _ _ er))) (fun j y σ HT' HT hj h y => ?_) fun σ HT h => ?_⟩⟩
          · obtain ⟨sT, x11, x12, x13, x14, x16, x17, rfl⟩ := h
            obtain ⟨rfl, g⟩ := y
            obtain ⟨t, gt, rfl⟩ := map_at g
            obtain ⟨tl, tm⟩ := texts_mem (List.mem_of_getElem? gt)
            have sRT := sR.trans (sS.trans sT)
            refine ⟨_, rfl, _, rfl, _, rfl, _, rfl, _, rfl, _, rfl, _, rfl, .ref va, ga, sl, pl, W, row', gs, t, ks', ys, tw', (lo : Nat), hiOf lo r7, rfl, hWL.same sRT, wok, pm, ri, sRT.tup hgaL, gok, sRT _ _ eslL, sRT _ _ epl, tpl.same sRT, kin, tin, tm, by omega, w2, w4, fun HU b sU hb => ⟨b, rfl, ?_⟩⟩
            cases b with
            | true => exact absurd (hb.mp rfl) (noL t tm (by omega))
            | false => exact iteF ⟨sT.trans sU, _, _, _, _, _, _, rfl⟩
          · obtain ⟨sT, x11, x12, x13, x14, x16, x17, rfl⟩ := h
            exact ⟨sR.trans (sS.trans sT), _, _, _, _, _, _, _, rfl⟩
        · exact q _
      | some X =>
        obtain ⟨g1, g2, g3, g4⟩ := some_ X rfl
        have hX : ∀ c ∈ X, c ∈ W.signs := g1.1
        have ld := (leq X hX).mpr ⟨g1, g2⟩
        have ltn : ltv = .non := by
          rcases l4 with h | h
          · exact absurd h.1 (by simp)
          · exact h.2
        subst ltn
        have zX : (str X).length ≤ sizeLine := by rw [str_len]; exact sz2 (by omega)
        refine iteT ?_
        refine ⟨_, rfl, z, _, ldx, lfs, _, rfl, hla, T.c_Lead, T.n_Lead_calling, l1, ?_⟩
        refine ⟨_, rfl, _, _, "str", true, rfl, .base (.str _), by decide +kernel, true, rfl, iteF ?_⟩
        refine ⟨_, rfl, z, _, ldx, lfs, _, rfl, hla, T.c_Lead, T.n_Lead_table, l3, rfl, _, rfl, iteNS rfl ?_⟩
        obtain ⟨va', kv', se', eva, hvaL, _, _⟩ := wld_inv hWL
        cases eva
        refine ⟨_, rfl, _, rfl, fun D2 nD2 => ?_⟩
        refine lc_inv (walk_str (z := str X)) (by rw [str_size]; omega) (fun i acc H' => Same HL H' ∧ H' D2 = some (.lst acc) ∧ acc = []) ⟨same_upd nD2, upd_same, rfl⟩ (fun i acc H' h => trivial) (fun i acc H' h => by obtain ⟨_, e, rfl⟩ := h; exact ⟨e, Nat.zero_le _⟩) (fun i y HA HB acc k ks hi h y hk hks => ?_) fun HM acc h => ?_
        · obtain ⟨sA, eA, rfl⟩ := h
          obtain ⟨rfl, c, hc, rfl⟩ := y
          have gc : X[i]? = some c := str_at hc
          have mc := hX c (List.mem_of_getElem? gc)
          refine ⟨rfl, _, rfl, _, rfl, va, _, 0, _, rfl, rfl, sA.tup hvaL, rfl, str [46], str W.words, rfl, rfl, by rw [str_len, str_len]; exact sz2 (by have := wok.wl; simp; omega), ?_⟩
          rw [show str [46] ++ str W.words = str W.signs from str_app _ _]
          refine ⟨c, _, rfl, rfl, _, rfl, iteNS mc ?_⟩
          exact hks _ ⟨sA, eA, rfl⟩
        · obtain ⟨sM, eM, rfl⟩ := h
          refine ⟨false, .inl ⟨[], .inl (.inl eM), rfl⟩, iteF ?_⟩
          have hWM := hWL.same sM
          have hgaM := sM.tup hgaL
          refine ⟨_, rfl, _, rfl, _, rfl, _, rfl, _, rfl, _, rfl, _, rfl, .ref va, ga, sl, pl, W, row', gs, X, ks', ys, tw', (lo : Nat), hiOf lo r7, rfl, hWM, wok, pm, ri, hgaM, gok, sM _ _ eslL, sM _ _ epl, tpl.same sM, kin, tin, hX, by omega, w2, w4, fun HN b sN hb => ⟨b, rfl, ?_⟩⟩
          have eb : b = true := hb.mpr ld
          subst eb
          refine iteF ?_
          have sLN := sM.trans sN
          have hWN := hWL.same sLN
          have hpN := hpL.same sLN
          have hmN := hmL.same sLN
          have hgaN := sLN.tup hgaL
          have dwN := dwL.same sLN
          have eslN := sLN _ _ eslL
          have eplN := sLN _ _ epl
          have tplN := tpl.same sLN
          have nsl : sl ≠ d := fun e => by
            obtain ⟨_, _, _, _, _, e1, _⟩ := dwN.ex
            rw [← e, eslN] at e1
            have e2 := congrArg List.length (HO.lst.inj (Option.some.inj e1))
            have := hk'.len
            simp at e2
            omega
          have npl : pl ≠ d := fun e => by
            obtain ⟨_, _, _, _, _, e1, _⟩ := dwN.ex
            rw [← e, eplN] at e1
            rw [HO.lst.inj (Option.some.inj e1)] at tplN
            obtain ⟨k, gk, tk⟩ := tplN.at (i := 1) rfl
            obtain ⟨c, _, rfl⟩ := map_at gk
            obtain ⟨_, e3, _⟩ := encPair_inv tk
            cases e3
          refine ⟨3, rfl, by decide, by decide, for_it (walk_rn (n := 3)) (fun i σ H' => Sb d HN H' ∧ Dw H' d ca ns ∧ ∃ x13 x14 x15 x16 x17, σ = [some (.ref a), some (.ref d), some (.ref va), some (.ref pa), some (.int (lo : Nat)), some (.int (hiOf lo r7)), some (.ref x), some (.ref ga), some (.ref z), some (.ref sl), some (.ref pl), some (.int 4), some (.str (str X)), x13, x14, x15, x16, x17])
            ⟨Sb.refl _ _, dwN, _, _, _, _, _, rfl⟩ (fun i σ H' _ h => trivial) (fun i y σ HO' HO hi h y => ?_) fun σ HO h => ?_⟩
          · obtain ⟨sbO, dwO, x13, x14, x15, x16, x17, rfl⟩ := h
            obtain ⟨rfl, rfl⟩ := y
            have kO := dwN.kp sbO
            refine ⟨_, rfl, _, rfl, d, ca, ns, .ref pa, p, row', rfl, dwO, hpN.kp kO, pok.ok, fun HP G sbP dwP bG => ?_⟩
            have sbNP := sbO.trans sbP
            have kP := dwN.kp sbNP
            refine ⟨_, rfl, rfl, _, rfl, ite2 (fun ne => ?_) (fun _ => ⟨sbNP, dwP, _, _, _, _, _, rfl⟩)⟩
            refine ⟨_, rfl, str X, rfl, zX, ((str X).length : Nat), 400, rfl, rfl, _, rfl, iteD (fun le => ?_) (fun _ => ⟨sbNP, dwP, _, _, _, _, _, rfl⟩)⟩
            have neG : G ≠ [] := fun e => by
              rw [e] at ne
              exact absurd ne (by decide)
            have l400 : X.length ≤ 400 := by
              rw [str_len] at le
              omega
            have gl1 : 1 ≤ G.length := List.length_pos_iff.mpr neG
            have gOk : GOk W G := ⟨⟨gl1, by have := bG.1; omega⟩, fun c hc => pm.mem_iff.mp (kd_in pin (bG.2.1 c hc))⟩
            have arr : Arr W (goalOf row' gs) G X (lo : Nat) (hiOf lo r7) := arr_of fok hX ((lb_iff fok hX rfl).mpr ⟨g1, g2⟩).1 (all_n g1 g2) gl1 (fun c hc => (hk.iff c).mpr (bG.2.1 c hc)) fun i a b h1 h2 => (ht.iff a b).mpr (bG.2.2 i a b h1 h2)
            refine ⟨_, rfl, _, rfl, _, rfl, _, rfl, _, rfl, _, rfl, _, rfl, .ref x, .ref va, ga, W, row', gs, G, X, (lo : Nat), hiOf lo r7, rfl, hmN.kp kP, hWN.kp kP, wok, pm, ri, kP.tup hgaN, gok, gOk, hX, l400, w1, w2, w4, w5, w3, arr, fun HQ sQ => ⟨true, rfl, iteF ⟨sbNP.trans (Sb.of sQ), dwP.same sQ, _, _, _, _, _, rfl⟩⟩⟩
          · obtain ⟨sbO, dwO, x13, x14, x15, x16, x17, rfl⟩ := h
            have kO := dwN.kp sbO
            refine ⟨_, rfl, str X, rfl, zX, 4, ((str X).length : Nat), rfl, ?_⟩
            obtain ⟨n, hn⟩ : ∃ n, min 4 X.length = n := ⟨_, rfl⟩
            have n4 : n ≤ 4 := by omega
            have esz : (if (((str X).length : Nat) : Int) < 4 then (((str X).length : Nat) : Int) else 4) = ((n : Nat) : Int) := by
              rw [str_len]
              split
              · omega
              · omega
            have noL : NoL W (goalOf row' gs) ks' tw' (lo : Nat) (hiOf lo r7) n := fun Y hY hl h => by
              have := (leq Y hY).mp h
              exact g3 Y this.1 (by omega) this.2
            have hWL := hWN.kp kO
            have hgaL := kO.tup hgaN
            have eslL := sbO _ _ nsl eslN
            have epl := sbO _ _ npl eplN
            have tpl := tplN.kp kO
            refine ⟨_, rfl, (n : Nat), congrArg (fun k => [V.int k]) esz, by omega, by omega, for_it (walk_rn (n := n)) (fun i σ H' => Same _ H' ∧ ∃ x11 x12 x13 x14 x15 x16 x17, σ = [some (.ref a), some (.ref d), some (.ref va), some (.ref pa), some (.int (lo : Nat)), some (.int (hiOf lo r7)), some (.ref x), some (.ref ga), some (.ref z), some (.ref sl), some (.ref pl), x11, x12, x13, x14, x15, x16, x17])
              ⟨Same.refl _, _, _, _, _, _, _, _, rfl⟩ (fun i σ H' _ h => trivial) (fun i y σ HR' HR hi h y => ?_) fun σ HR h => ?_⟩
            · obtain ⟨sR, x11, x12, x13, x14, x15, x16, x17, rfl⟩ := h
              obtain ⟨rfl, rfl⟩ := y
              obtain ⟨va', kv', se', eva, hvaR, _, _⟩ := wld_inv (hWL.same sR)
              cases eva
              refine ⟨_, rfl, va, _, 0, _, rfl, rfl, hvaR, rfl, str [46], str W.words, rfl, rfl, by rw [str_len, str_len]; exact sz2 (by have := wok.wl; simp; omega), ?_⟩
              rw [show str [46] ++ str W.words = str W.signs from str_app _ _]
              refine ⟨_, rfl, W.signs, i, rfl, by have := wok.wl; simp [Wld.signs]; omega, by omega, fun HS r sS er => ⟨r, rfl, ⟨_, .inl (.inl er)⟩, for_it (walk_list (xs := txV (texts W.signs i))) (fun j σ H' => Same HS H' ∧ ∃ x11 x12 x13 x14 x16 x17, σ = [some (.ref a), some (.ref d), some (.ref va), some (.ref pa), some (.int (lo : Nat)), some (.int (hiOf lo r7)), some (.ref x), some (.ref ga), some (.ref z), some (.ref sl), some (.ref pl), x11, x12, x13, x14, some (.int (i : Nat)), x16, x17])
                ⟨Same.refl _, _, _, _, _, _, _, rfl⟩ (fun j σ H' _ h => .inl (.inl (h.1 _ _ er))) (fun j y σ HT' HT hj h y => ?_) fun σ HT h => ?_⟩⟩
              · obtain ⟨sT, x11, x12, x13, x14, x16, x17, rfl⟩ := h
                obtain ⟨rfl, g⟩ := y
                obtain ⟨t, gt, rfl⟩ := map_at g
                obtain ⟨tl, tm⟩ := texts_mem (List.mem_of_getElem? gt)
                have sRT := sR.trans (sS.trans sT)
                refine ⟨_, rfl, _, rfl, _, rfl, _, rfl, _, rfl, _, rfl, _, rfl, .ref va, ga, sl, pl, W, row', gs, t, ks', ys, tw', (lo : Nat), hiOf lo r7, rfl, hWL.same sRT, wok, pm, ri, sRT.tup hgaL, gok, sRT _ _ eslL, sRT _ _ epl, tpl.same sRT, kin, tin, tm, by omega, w2, w4, fun HU b sU hb => ⟨b, rfl, ?_⟩⟩
                cases b with
                | true => exact absurd (hb.mp rfl) (noL t tm (by omega))
                | false => exact iteF ⟨sT.trans sU, _, _, _, _, _, _, rfl⟩
              · obtain ⟨sT, x11, x12, x13, x14, x16, x17, rfl⟩ := h
                exact ⟨sR.trans (sS.trans sT), _, _, _, _, _, _, _, rfl⟩
            · exact q _
theorem law_ok (T : Tx K mg) {fd : FuncData} (F : FunD K "law" "law" (defArgs s_law) (defBody s_law) (defScope s_law) [] [] (He.ga K "law") fd) : FnOk P w K mg base CX0 13 (He.ga K "law") fd ["_law_script"] (spLaw K) := by
  refine F.ok scs_law (fun vs H Q E h => ?_) (fun cdv A outer s H vs Q E hr h => ?_)
  · obtain ⟨a, ns, rfl, _⟩ := h
    rfl
  · obtain ⟨t, h1, h2⟩ := law_body T cdv A outer s H vs Q E hr h
    exact ⟨t, h1.nox, h2⟩

end
end TH
end
section
set_option Elab.async false
set_option linter.all false
set_option maxRecDepth 100000
set_option maxHeartbeats 4000000
namespace TH
open PySem PySem.Spec PyProof.Rows L2
theorem factsX {P : Program} {w : World} {K : PySem.W.Frag} {h : Heap} {mg : Str → Option Value} {f : Addr} (X : K.In h) (G : h.Ns mainGlobals mg) (hf : mg ("law" : Str) = some (.ref f)) (e : exChk K = true) (c : He.SaysD fa fn K) :
    ∃ fd : FuncData, (∀ (s : Shared) (v : Value), BindsTo s fd ⟨[v], []⟩ [("_law_script", v)]) ∧ ∀ base : Heap, K.In base → base.Ns mainGlobals mg → FnOk P w K mg base CX0 13 f fd ["_law_script"] (spLaw K) := by
  have T : Tx K mg := ⟨⟨h, X, G⟩, c, e⟩
  obtain ⟨fd, F⟩ := T.says.def_ 73 (d := fnD ("law", none) "law" "law" s_law []) rfl
  have e := hf.symm.trans T.g_law
  cases e
  have b := FunD.bindsA (ps := ["_law_script"]) F fun _ _ _ _ _ _ us hl => match us, hl with | [_], _ => rfl
  exact ⟨fd, fun s v => b s [v] rfl, fun base _ _ => law_ok T F⟩
end TH
open PySem PySem.W PySem.Calls PyProof.Rows
theorem PySem.Challenge.cw_tailheard_k85_whole_lead_run_holds : PySem.Challenge.rw_tailheard_k85_whole_lead_run.Holds := by
  w_on; o_law
  refine HandSHeadRun.head_any (r := OpenLaw.row PySem.Challenge.rw_tailheard_k85_whole_lead_run) (q := view (OpenLaw.row PySem.Challenge.rw_tailheard_k85_whole_lead_run).prog [98]) (H := TH.hkX) (ob := TH.obT) (M := 20000) (loose := TH.namesX)
    (d := HandSHeadRun.topDef (OpenLaw.row PySem.Challenge.rw_tailheard_k85_whole_lead_run).prog 98) (kwd := []) TH.obT_eq
    (by kernel_rfl) (fun s => by kernel_rfl) TH.runX (by kernel_rfl) (by kernel_rfl) (by kernel_rfl) (by rfl) (by first | assumption | decide +kernel) (by decide +kernel) ⟨rfl, rfl, rfl, rfl, rfl, by decide +kernel⟩ ?hw ?hc
  case hw => w_witness2
  case hc =>
    refine L2.walk_ofE (l := PySem.Challenge.rw_tailheard_k85_whole_lead_run) (n := 63) (k := 13) (x := "_law_script") (CX := L2.CX0) rfl (by decide) (by kernel_rfl) ⟨rfl, by decide, by decide⟩ ?F (fun _ _ _ _ z => z)
    intro w mg fa h Y G hmg0
    obtain ⟨K, KX, e, c⟩ := Y
    have hmg : mg ("law" : PySem.Str) = some (.ref fa) := by
      have e : (HandSHeadRun.topDef (OpenLaw.row PySem.Challenge.rw_tailheard_k85_whole_lead_run).prog 98).name = ("law" : PySem.Str) := by kernel_rfl
      rw [← e]
      exact hmg0
    obtain ⟨fd, hb, hF⟩ := TH.factsX (P := (PySem.Challenge.rw_tailheard_k85_whole_lead_run).prog) (w := w) KX G hmg e c
    exact ⟨K, fd, TH.spLaw K, KX, hb, fun H a ns hl _ hS => ⟨a, ns, rfl, hS, hl, fun _ => rfl⟩, hF⟩
end
