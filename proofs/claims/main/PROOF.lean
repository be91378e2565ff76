import PyProof.Rows.All
import Wide.All
import OpenK.AllK
import Wide.FinOn
import KE.KStateDown
import Lean
import HandS.Base
import HandS.Call
import HandS.List
import HandS.Ends
import HandS.Words
import HandS.WordsExc
import HandS.Defaults
import HandS.Head0
import HandS.Head1
import HandS.Head2
import HandS.Head3
import HandS.HeadEnd
import HandS.HeadHook1
import HandS.HeadHook2
import PySem.Challenge.RW_trialground_k24_whole_outlasting_by_othe
import HandS.Comp
import HandS.WideBits
import HandS.Gcd
import HandS.Conv
import HandS.Iter
import HandS.Walk
import HandS.Zip
import HandS.TupAny
import HandS.TupMul
import HandS.IsInst
import HandS.RaiseMore
import HandS.Style
import HandS.Star
import HandS.Sort
import KE.GoesNew
import KE.SortData
import KE.DataMinMax
import HandS.Codes
/-! text Head -/
set_option Elab.async false
set_option linter.all false
set_option maxRecDepth 100000
set_option maxHeartbeats 0
namespace Hd
open PySem PySem.Spec PyProof.Rows L2
def top (i : Nat) : Stmt := PySem.Challenge.pw_trialground_k24_whole_outlasting_by_othe.main.body.getD i (.Pass ⟨0, 0, 0, 0⟩)
abbrev s_is_whole : Stmt := top 10
abbrev s_is_between : Stmt := top 11
abbrev s_is_tuple_of : Stmt := top 12
abbrev s_is_ratio : Stmt := top 16
abbrev s_ratio : Stmt := top 17
abbrev s_plus : Stmt := top 18
abbrev s_minus : Stmt := top 19
abbrev s_times : Stmt := top 20
abbrev s_over : Stmt := top 21
abbrev s_total : Stmt := top 22
abbrev s_dot : Stmt := top 23
abbrev s_is_row : Stmt := top 24
abbrev s_are_blocks : Stmt := top 29
abbrev s_are_plots : Stmt := top 30
abbrev s_is_trial_by : Stmt := top 31
abbrev s_many_unknowns : Stmt := top 32
abbrev s_many_plots : Stmt := top 33
abbrev s_many_levels : Stmt := top 34
abbrev s_is_question_by : Stmt := top 35
abbrev s_is_telling_by : Stmt := top 36
abbrev s_wrong_in_lot : Stmt := top 37
abbrev s_plots_by : Stmt := top 38
abbrev s_whole_rows : Stmt := top 39
abbrev s_whole_question : Stmt := top 40
abbrev s_check_trial : Stmt := top 42
abbrev s_check_question : Stmt := top 43
abbrev s_check_asked : Stmt := top 44
abbrev s_check_telling : Stmt := top 45
abbrev s_check_lot : Stmt := top 46
abbrev s_check_many : Stmt := top 47
abbrev s_without_column : Stmt := top 49
abbrev s_brought : Stmt := top 50
abbrev s_some_answer : Stmt := top 51
abbrev s_turned : Stmt := top 52
abbrev s_others_of : Stmt := top 54
abbrev s_is_idle : Stmt := top 55
abbrev s_telling_without : Stmt := top 56
abbrev s_does_spoil_by : Stmt := top 57
abbrev s_plot_lots : Stmt := top 58
abbrev s_strength_by : Stmt := top 59
abbrev s_plots_in : Stmt := top 60
abbrev s_is_missed : Stmt := top 61
abbrev s_outlasting_by : Stmt := top 62
abbrev s_is_fair_by : Stmt := top 64
abbrev s_fair_by : Stmt := top 65
abbrev s_check_told : Stmt := top 67
abbrev s_strength : Stmt := top 68
abbrev s_outlasting : Stmt := top 69
abbrev s_is_fair : Stmt := top 71
abbrev s_plots_of : Stmt := top 73
abbrev s_law_well : Stmt := top 75
abbrev s_law_draw : Stmt := top 76
abbrev s_law_one : Stmt := top 77
abbrev s_law_lean : Stmt := top 78
abbrev s_law_plus : Stmt := top 79
abbrev s_law_minus : Stmt := top 80
abbrev s_law_times : Stmt := top 81
abbrev s_law_over : Stmt := top 82
abbrev s_law_sum : Stmt := top 83
abbrev s_law_dot : Stmt := top 84
abbrev s_law_number : Stmt := top 85
abbrev s_law_rows : Stmt := top 86
abbrev s_law_spreads : Stmt := top 87
abbrev s_law_blocks : Stmt := top 88
abbrev s_law_is_whole : Stmt := top 89
abbrev s_law_is_tuple : Stmt := top 90
abbrev s_law_is_part : Stmt := top 91
abbrev s_law_is_row : Stmt := top 92
abbrev s_law_lively : Stmt := top 93
abbrev s_law_mixed : Stmt := top 94
abbrev s_law_balanced : Stmt := top 95
abbrev s_law_levels : Stmt := top 96
abbrev s_law_wide : Stmt := top 97
abbrev s_law_lessened : Stmt := top 98
abbrev s_law_is_sum : Stmt := top 99
abbrev s_law_spoils : Stmt := top 100
abbrev s_law_lots : Stmt := top 101
abbrev s_law_is_fair : Stmt := top 102
abbrev s_law_twin : Stmt := top 103
abbrev s_law_drawn : Stmt := top 104
abbrev s_law_are_enough : Stmt := top 105
abbrev s_law_goes_on : Stmt := top 106
abbrev s_law_told_right : Stmt := top 107
abbrev s_law_right : Stmt := top 108
abbrev s_law : Stmt := top 109
def mkD (x : Str) (s : Stmt) : He.DefD := ⟨(x, none), x, x, defArgs s, defBody s, defScope s, [], []⟩
def fn0 : List He.DefD := [mkD "is_whole" s_is_whole, mkD "is_between" s_is_between, mkD "is_tuple_of" s_is_tuple_of, mkD "is_ratio" s_is_ratio, mkD "ratio" s_ratio, mkD "plus" s_plus, mkD "minus" s_minus, mkD "times" s_times, mkD "over" s_over, mkD "total" s_total, mkD "dot" s_dot, mkD "is_row" s_is_row, mkD "are_blocks" s_are_blocks, mkD "are_plots" s_are_plots, mkD "is_trial_by" s_is_trial_by, mkD "many_unknowns" s_many_unknowns, mkD "many_plots" s_many_plots, mkD "many_levels" s_many_levels, mkD "is_question_by" s_is_question_by, mkD "is_telling_by" s_is_telling_by]
def fn1 : List He.DefD := [mkD "wrong_in_lot" s_wrong_in_lot, mkD "plots_by" s_plots_by, mkD "whole_rows" s_whole_rows, mkD "whole_question" s_whole_question, mkD "check_trial" s_check_trial, mkD "check_question" s_check_question, mkD "check_asked" s_check_asked, mkD "check_telling" s_check_telling, mkD "check_lot" s_check_lot, mkD "check_many" s_check_many, mkD "without_column" s_without_column, mkD "brought" s_brought, mkD "some_answer" s_some_answer, mkD "turned" s_turned, mkD "others_of" s_others_of, mkD "is_idle" s_is_idle, mkD "telling_without" s_telling_without, mkD "does_spoil_by" s_does_spoil_by, mkD "plot_lots" s_plot_lots, mkD "strength_by" s_strength_by]
def fn2 : List He.DefD := [mkD "plots_in" s_plots_in, mkD "is_missed" s_is_missed, mkD "outlasting_by" s_outlasting_by, mkD "is_fair_by" s_is_fair_by, mkD "fair_by" s_fair_by, mkD "check_told" s_check_told, mkD "strength" s_strength, mkD "outlasting" s_outlasting, mkD "is_fair" s_is_fair, mkD "plots_of" s_plots_of, mkD "_law_well" s_law_well, mkD "_law_draw" s_law_draw, mkD "_law_one" s_law_one, mkD "_law_lean" s_law_lean, mkD "_law_plus" s_law_plus, mkD "_law_minus" s_law_minus, mkD "_law_times" s_law_times, mkD "_law_over" s_law_over, mkD "_law_sum" s_law_sum, mkD "_law_dot" s_law_dot]
def fn3 : List He.DefD := [mkD "_law_number" s_law_number, mkD "_law_rows" s_law_rows, mkD "_law_spreads" s_law_spreads, mkD "_law_blocks" s_law_blocks, mkD "_law_is_whole" s_law_is_whole, mkD "_law_is_tuple" s_law_is_tuple, mkD "_law_is_part" s_law_is_part, mkD "_law_is_row" s_law_is_row, mkD "_law_lively" s_law_lively, mkD "_law_mixed" s_law_mixed, mkD "_law_balanced" s_law_balanced, mkD "_law_levels" s_law_levels, mkD "_law_wide" s_law_wide, mkD "_law_lessened" s_law_lessened, mkD "_law_is_sum" s_law_is_sum, mkD "_law_spoils" s_law_spoils, mkD "_law_lots" s_law_lots, mkD "_law_is_fair" s_law_is_fair, mkD "_law_twin" s_law_twin, mkD "_law_drawn" s_law_drawn]
def fn4 : List He.DefD := [mkD "_law_are_enough" s_law_are_enough, mkD "_law_goes_on" s_law_goes_on, mkD "_law_told_right" s_law_told_right, mkD "_law_right" s_law_right, mkD "law" s_law]
def fn : List He.DefD := fn0 ++ fn1 ++ fn2 ++ fn3 ++ fn4
def fa0 : List He.Fa := [.glo "is_whole", .glo "is_between", .glo "is_tuple_of", .glo "is_ratio", .glo "ratio", .glo "plus", .glo "minus", .glo "times", .glo "over", .glo "total", .glo "dot", .glo "is_row", .glo "are_blocks", .glo "are_plots", .glo "is_trial_by", .glo "many_unknowns", .glo "many_plots", .glo "many_levels", .glo "is_question_by", .glo "is_telling_by"]
def fa1 : List He.Fa := [.glo "wrong_in_lot", .glo "plots_by", .glo "whole_rows", .glo "whole_question", .glo "check_trial", .glo "check_question", .glo "check_asked", .glo "check_telling", .glo "check_lot", .glo "check_many", .glo "without_column", .glo "brought", .glo "some_answer", .glo "turned", .glo "others_of", .glo "is_idle", .glo "telling_without", .glo "does_spoil_by", .glo "plot_lots", .glo "strength_by"]
def fa2 : List He.Fa := [.glo "plots_in", .glo "is_missed", .glo "outlasting_by", .glo "is_fair_by", .glo "fair_by", .glo "check_told", .glo "strength", .glo "outlasting", .glo "is_fair", .glo "plots_of", .glo "_law_well", .glo "_law_draw", .glo "_law_one", .glo "_law_lean", .glo "_law_plus", .glo "_law_minus", .glo "_law_times", .glo "_law_over", .glo "_law_sum", .glo "_law_dot"]
def fa3 : List He.Fa := [.glo "_law_number", .glo "_law_rows", .glo "_law_spreads", .glo "_law_blocks", .glo "_law_is_whole", .glo "_law_is_tuple", .glo "_law_is_part", .glo "_law_is_row", .glo "_law_lively", .glo "_law_mixed", .glo "_law_balanced", .glo "_law_levels", .glo "_law_wide", .glo "_law_lessened", .glo "_law_is_sum", .glo "_law_spoils", .glo "_law_lots", .glo "_law_is_fair", .glo "_law_twin", .glo "_law_drawn"]
def fa4 : List He.Fa := [.glo "_law_are_enough", .glo "_law_goes_on", .glo "_law_told_right", .glo "_law_right", .glo "law", .glo "ZERO", .glo "ONE", .free "isinstance", .free "int", .free "bool", .free "tuple", .free "len", .free "all", .free "any", .free "range", .free "list", .free "zip", .free "enumerate", .free "max", .free "min"]
def fa5 : List He.Fa := [.free "abs", .free "divmod", .free "sorted", .free "repr", .int "MOST_PLOTS" 10, .int "MOST_UNKNOWNS" 5, .int "MOST_BLOCK" 4]
def fa : List He.Fa := fa0 ++ fa1 ++ fa2 ++ fa3 ++ fa4 ++ fa5
def names0 : List PySem.Str := ["TrialError", "InvalidTrial", "InvalidQuestion", "InvalidTelling", "InvalidNumber", "InvalidLot", "NotTold", "is_whole", "is_between", "is_tuple_of", "ZERO", "ONE", "is_ratio", "ratio", "plus", "minus", "times", "over", "total", "dot"]
def names1 : List PySem.Str := ["is_row", "MOST_PLOTS", "MOST_UNKNOWNS", "MOST_BLOCK", "are_blocks", "are_plots", "is_trial_by", "many_unknowns", "many_plots", "many_levels", "is_question_by", "is_telling_by", "wrong_in_lot", "plots_by", "whole_rows", "whole_question", "check_trial", "check_question", "check_asked", "check_telling"]
def names2 : List PySem.Str := ["check_lot", "check_many", "without_column", "brought", "some_answer", "turned", "others_of", "is_idle", "telling_without", "does_spoil_by", "plot_lots", "strength_by", "plots_in", "is_missed", "outlasting_by", "is_fair_by", "fair_by", "check_told", "strength", "outlasting"]
def names3 : List PySem.Str := ["is_fair", "plots_of", "_law_well", "_law_draw", "_law_one", "_law_lean", "_law_plus", "_law_minus", "_law_times", "_law_over", "_law_sum", "_law_dot", "_law_number", "_law_rows", "_law_spreads", "_law_blocks", "_law_is_whole", "_law_is_tuple", "_law_is_part", "_law_is_row"]
def names4 : List PySem.Str := ["_law_lively", "_law_mixed", "_law_balanced", "_law_levels", "_law_wide", "_law_lessened", "_law_is_sum", "_law_spoils", "_law_lots", "_law_is_fair", "_law_twin", "_law_drawn", "_law_are_enough", "_law_goes_on", "_law_told_right", "_law_right"]
def names : List PySem.Str := names0 ++ names1 ++ names2 ++ names3 ++ names4
/-- the module's names, what they reach; the interpreter's own tables -/
def asL (g : Addr → Option Obj) (n : Nat) : List Addr := He.asD g n ++ [cStatics, sysModules]
def strKeys (es : Array DictEntry) : Bool := es.toList.all fun e => match e.key with
  | .str _ _ => true
  | _ => false
def nsB (K : PySem.W.Frag) (a : Addr) : Bool := match K.lookup a with
  | some ⟨_, _, .dict es _, _⟩ => strKeys es
  | _ => false
def exF (K : PySem.W.Frag) : Bool := He.eqO (PySem.W.nsIn K mainGlobals "gcd") (some (some (.builtin "math.gcd"))) && (He.tupB K "ZERO" [.int 0, .int 1] && (He.tupB K "ONE" [.int 1, .int 1] &&
  (nsB K cStatics && (nsB K sysModules && (He.eqO (PySem.W.nsIn K cStatics "sys.audit-hooks") (some none) && (He.eqO (PySem.W.nsIn K cStatics "sys.dict") (some none) && (He.eqO (PySem.W.nsIn K sysModules "_pylong") (some none) &&
  (match PySem.W.nsIn K mainGlobals "__builtins__" with
  | some (some (.ref b)) => (match K.lookup b with
    | some ⟨.type c, some d, _, _⟩ => decide (c = "module") && decide (d = builtinsNs)
    | _ => false)
  | _ => false))))))))
abbrev AlL : Type := He.AlD × Bool
def obsL (n : Nat) (fa : List He.Fa) (fn : List He.DefD) (ex : PySem.W.Frag → Bool) (g : Addr → Option Obj) : AlL := (He.obsD fa fn (He.frG g (asL g n)), ex (He.frG g (asL g n)))
def hookL (n : Nat) (fa : List He.Fa) (fn : List He.DefD) (ex : PySem.W.Frag → Bool) : PySem.W.Hook where
  α := AlL
  obs := fun s => obsL n fa fn ex s.heap.get?
  val := fun _ => (He.valD fn, true)
  says := fun _ h => ∃ K : PySem.W.Frag, K.In h ∧ He.SaysD fa fn K ∧ ex K = true
  of := fun _ _ e => ⟨_, He.frG_in, congrArg (fun z : AlL => z.1) e, congrArg (fun z : AlL => z.2) e⟩
  keeps := fun _ _ _ ⟨K, hK, c⟩ k => ⟨K, PySem.W.Frag.In.keeps hK k, c⟩
theorem obsL_eq {n : Nat} {fa : List He.Fa} {fn : List He.DefD} {ex : PySem.W.Frag → Bool} {g : Addr → Option Obj} {s : Shared} (h : ∀ a, g a = s.heap.get? a) : obsL n fa fn ex g = (hookL n fa fn ex).obs s := by
  have e : g = s.heap.get? := funext h
  rw [e] <;> rfl
abbrev R : PySem.W.OpenRow := PySem.W.OpenLaw.row PySem.Challenge.rw_trialground_k24_whole_outlasting_by_othe
abbrev hk : PySem.W.Hook := hookL 2 fa fn exF
def ob (s : PySem.W.SharedT) : AlL := obsL 2 fa fn exF (HandSHeadRun.getT s)
theorem ob_eq (s : PySem.W.SharedT) : ob s = hk.obs s.abs := obsL_eq (HandSHeadRun.getT_eq s)
theorem run1 (w : World) : (HandSHeadRun.wholeF (fun p => HandSHeadRun.stepQ (HandSHeadRun.denQ HandSHeadRun.tabQ) p w) HandSHeadRun.fenceQ 60000 R.prog).map (fun x => (HandSHeadRun.looksF R.prog x.1.heap x.2.abs, HandSHeadRun.seenQ (PySem.W.view R.prog [0, 109]) names (importedModules R.prog.main.body) (fun s => PySem.W.xlAt (PySem.W.view R.prog [0, 109]) [] s && PySem.W.recOk R.toRowW.records s) x.2.abs)) = some (true, PySem.W.openGood (PySem.W.view R.prog [0, 109]) names) := by
  kernel_rfl
theorem run2 (w : World) : (HandSHeadRun.wholeF (fun p => HandSHeadRun.stepQ (HandSHeadRun.denQ HandSHeadRun.tabQ) p w) HandSHeadRun.fenceQ 60000 R.prog).map (fun x => ob x.2) = some (hk.val w) := by
  kernel_rfl
/-- two looks at one end (apart, for the memory's sake), as one -/
theorem joined {A B C D : Type} {X : Option A} {f : A → B} {g : A → C} {h : A → D} {b : B} {c : C} {d : D} (h1 : X.map (fun x => (f x, g x)) = some (b, c)) (h2 : X.map h = some d) : X.map (fun x => (f x, g x, h x)) = some (b, c, d) := by
  cases X with
  | none => cases h1
  | some x =>
    obtain ⟨e1, e2⟩ := Prod.mk.inj (Option.some.inj h1)
    have e3 : h x = d := Option.some.inj h2
    show some (f x, g x, h x) = some (b, c, d)
    rw [e1, e2, e3]
theorem run (w : World) : HandSHeadRun.RunEqI R (PySem.W.view R.prog [0, 109]) hk ob 60000 names w := by
  delta HandSHeadRun.RunEqI
  exact joined (run1 w) (run2 w)
/-- what the law's def promises: a list of at most 63 ints is handed in, True comes out -/
def spLaw (K : PySem.W.Frag) : Sp := fun vs H Q _ => ∃ (a : Addr) (ns : List Int), vs = [.ref a] ∧ SqL K H a (ns.map V.int) ∧ ns.length ≤ 63 ∧ ∀ H', Q (.bl true) H'
abbrev dLaw : He.DefD := mkD "law" s_law
end Hd
section
open PySem PySem.W PySem.Calls PyProof.Rows
/-- the row from the law's promise -/
theorem Hd.finish {k : Nat} (hr : L2.Room k callerA) (ok : ∀ (w : World) (K : PySem.W.Frag) (mg : PySem.Str → Option Value) (base : Heap) (fd : FuncData), K.In base → base.Ns mainGlobals mg → He.SaysD Hd.fa Hd.fn K → Hd.exF K = true →
    L2.FunD K "law" "law" Hd.dLaw.params Hd.dLaw.body Hd.dLaw.scope [] [] (He.ga K "law") fd → L2.FnOk PySem.Challenge.pw_trialground_k24_whole_outlasting_by_othe w K mg base L2.CX0 k (He.ga K "law") fd ["_law_script"] (Hd.spLaw K)) :
    PySem.Challenge.rw_trialground_k24_whole_outlasting_by_othe.Holds := by
  w_on; o_law
  refine HandSHeadRun.head_imp (r := OpenLaw.row PySem.Challenge.rw_trialground_k24_whole_outlasting_by_othe) (q := view (OpenLaw.row PySem.Challenge.rw_trialground_k24_whole_outlasting_by_othe).prog [0, 109]) (H := Hd.hk) (ob := Hd.ob) (M := 60000) (loose := Hd.names)
    (d := HandSHeadRun.topDef (OpenLaw.row PySem.Challenge.rw_trialground_k24_whole_outlasting_by_othe).prog 109) (kwd := []) Hd.ob_eq Hd.run (by kernel_rfl) (by kernel_rfl) (by kernel_rfl) (by rfl) (by first | assumption | decide +kernel) (by decide +kernel) ⟨rfl, rfl, rfl, rfl, rfl, by decide +kernel⟩ ?hw ?hc
  case hw => w_witness2
  case hc =>
    refine L2.walk_ofE (l := PySem.Challenge.rw_trialground_k24_whole_outlasting_by_othe) (n := 63) (k := k) (x := "_law_script") (CX := L2.CX0) rfl (by decide) (by kernel_rfl) hr ?F (fun _ _ _ _ z => z)
    intro w mg fa h Y G hmg0
    obtain ⟨K, KX, c, ex⟩ := Y
    have hmg : mg ("law" : PySem.Str) = some (.ref fa) := by
      have e : (HandSHeadRun.topDef (OpenLaw.row PySem.Challenge.rw_trialground_k24_whole_outlasting_by_othe).prog 109).name = ("law" : PySem.Str) := by kernel_rfl
      rw [← e]
      exact hmg0
    obtain ⟨fd, F⟩ := c.def_ 84 (d := Hd.dLaw) (by rfl)
    have e := hmg.symm.trans (He.glo_ok KX G (c.fact 84 (f := .glo "law") (by rfl)))
    cases e
    have b := L2.FunD.bindsA (ps := ["_law_script"]) F fun _ _ _ _ _ _ us hl => match us, hl with | [_], _ => rfl
    exact ⟨K, fd, Hd.spLaw K, KX, fun s v => b s [v] rfl, fun H a ns hl _ hS => ⟨a, ns, rfl, hS, hl, fun _ => rfl⟩, fun base KX' G' => ok w K mg base fd KX' G' c ex F⟩
end

/-! text Pa -/
set_option Elab.async false
set_option linter.all false
set_option maxRecDepth 100000
set_option maxHeartbeats 4000000
/-! The data layer: judgements on plain data over the hand layer. -/
namespace Pd
open PySem PySem.Spec PyProof.Rows L2

/-! ### heaps with a hidden part -/
noncomputable def hid (W : Addr → Prop) (H : Hp) : Hp := fun a => @ite _ (W a) (Classical.propDecidable _) none (H a)
theorem hid_out {W : Addr → Prop} {H : Hp} {a : Addr} (h : ¬ W a) : hid W H a = H a := by
  unfold hid
  rw [if_neg h]
theorem hid_in {W : Addr → Prop} {H : Hp} {a : Addr} (h : W a) : hid W H a = none := by
  unfold hid
  rw [if_pos h]
theorem hid_some {W : Addr → Prop} {H : Hp} {a : Addr} {o : HO} (h : hid W H a = some o) : ¬ W a ∧ H a = some o := by
  by_cases w : W a
  · rw [hid_in w] at h
    cases h
  · rw [hid_out w] at h
    exact ⟨w, h⟩
theorem hid_mk {W : Addr → Prop} {H : Hp} {a : Addr} {o : HO} (w : ¬ W a) (h : H a = some o) : hid W H a = some o := by
  rw [hid_out w, h]
/-- all that stood stands -/
def Grow (H H' : Hp) : Prop := ∀ a o, H a = some o → H' a = some o
theorem Grow.refl (H : Hp) : Grow H H := fun _ _ h => h
theorem Grow.trans {H H1 H2 : Hp} (a : Grow H H1) (b : Grow H1 H2) : Grow H H2 := fun x o h => b x o (a x o h)
theorem Grow.new {H : Hp} {p : Addr} {o : HO} (h : H p = none) : Grow H (upd H p o) := fun a u e => by
  rw [upd_ne (ne_of_none e h)]
  exact e
theorem grow_rd {H H' : Hp} {a : Addr} {u : HO} (e : Grow H H') (h : Rd H a u) : Rd H' a u := by
  rcases h with h | ⟨o, h⟩
  · exact .inl (e a _ h)
  · exact .inr ⟨o, e a _ h⟩
theorem grow_l {K : PySem.W.Frag} {H H' : Hp} {a : Addr} {xs : List V} (e : Grow H H') (h : SqL K H a xs) : SqL K H' a xs := by
  rcases h with h | h
  · exact .inl (grow_rd e h)
  · exact .inr h
theorem grow_t {K : PySem.W.Frag} {H H' : Hp} {a : Addr} {xs : List V} (e : Grow H H') (h : SqT K H a xs) : SqT K H' a xs := by
  rcases h with h | h
  · exact .inl (grow_rd e h)
  · exact .inr h
mutual
theorem dp_mono {K : PySem.W.Frag} {H H' : Hp} (e : Grow H H') : ∀ {d : PyData} {v : V}, Dp K H v d → Dp K H' v d
  | .none, _, h => by
    cases h
    exact .non
  | .bool b, _, h => by
    cases h
    exact .bl b
  | .int i, _, h => by
    cases h
    exact .int i
  | .str x, _, h => by
    cases h
    exact .str x
  | .list ds, _, h => by
    cases h with
    | lst hs ha => exact .lst (grow_l e hs) (dpAll_mono e ha)
  | .tuple ds, _, h => by
    cases h with
    | tup hs ha => exact .tup (grow_t e hs) (dpAll_mono e ha)
  | .dict _, _, h => by cases h
theorem dpAll_mono {K : PySem.W.Frag} {H H' : Hp} (e : Grow H H') : ∀ {ds : List PyData} {vs : List V}, DpAll K H vs ds → DpAll K H' vs ds
  | [], _, h => by
    cases h
    exact .nil
  | d :: ds, _, h => by
    cases h with
    | cons a b => exact .cons (dp_mono e a) (dpAll_mono e b)
end
/-- a part hidden before is hidden behind, what is not hidden stands -/
theorem hid_grow {W W' : Addr → Prop} {H H' : Hp} (h : ∀ a o, H a = some o → ¬ W a → ¬ W' a ∧ H' a = some o) : Grow (hid W H) (hid W' H') := fun a o e => by
  obtain ⟨w, e'⟩ := hid_some e
  obtain ⟨w', e2⟩ := h a o e' w
  exact hid_mk w' e2
theorem hid_le {W : Addr → Prop} {H : Hp} : Grow (hid W H) H := fun _ _ e => (hid_some e).2
theorem dpAll_len {K : PySem.W.Frag} {H : Hp} : ∀ {ds : List PyData} {vs : List V}, DpAll K H vs ds → vs.length = ds.length
  | [], _, h => by
    cases h
    rfl
  | d :: ds, _, h => by
    cases h with
    | cons a b => exact congrArg Nat.succ (dpAll_len b)
theorem dpAll_get {K : PySem.W.Frag} {H : Hp} : ∀ {ds : List PyData} {vs : List V} {i : Nat} {d : PyData}, DpAll K H vs ds → ds[i]? = some d → ∃ v, vs[i]? = some v ∧ Dp K H v d
  | [], _, i, d, _, e => by simp at e
  | d' :: ds, _, 0, d, h, e => by
    cases h with
    | cons a b =>
      have e' : d' = d := by simpa using e
      subst e'
      exact ⟨_, rfl, a⟩
  | d' :: ds, _, i + 1, d, h, e => by
    cases h with
    | cons a b =>
      obtain ⟨v, h1, h2⟩ := dpAll_get (i := i) b (by simpa using e)
      exact ⟨v, by simpa using h1, h2⟩
theorem dpAll_getV {K : PySem.W.Frag} {H : Hp} {ds : List PyData} {vs : List V} {i : Nat} {v : V} (h : DpAll K H vs ds) (e : vs[i]? = some v) : ∃ d, ds[i]? = some d ∧ Dp K H v d := by
  have hl := dpAll_len h
  have hi : i < ds.length := by
    rw [← hl]
    exact (List.getElem?_eq_some_iff.mp e).1
  obtain ⟨v', e1, p⟩ := dpAll_get h (List.getElem?_eq_getElem hi)
  rw [e] at e1
  cases e1
  exact ⟨_, List.getElem?_eq_getElem hi, p⟩
theorem dpAll_app {K : PySem.W.Frag} {H : Hp} : ∀ {ds es : List PyData} {vs ws : List V}, DpAll K H vs ds → DpAll K H ws es → DpAll K H (vs ++ ws) (ds ++ es)
  | [], _, _, _, h, k => by
    cases h
    exact k
  | d :: ds, _, _, _, h, k => by
    cases h with
    | cons a b => exact .cons a (dpAll_app b k)
theorem dpAll_take {K : PySem.W.Frag} {H : Hp} : ∀ {ds : List PyData} {vs : List V} (n : Nat), DpAll K H vs ds → DpAll K H (vs.take n) (ds.take n)
  | [], _, n, h => by
    cases h
    rw [List.take_nil, List.take_nil]
    exact .nil
  | d :: ds, _, 0, h => .nil
  | d :: ds, _, n + 1, h => by
    cases h with
    | cons a b => exact .cons a (dpAll_take n b)
theorem dpAll_drop {K : PySem.W.Frag} {H : Hp} : ∀ {ds : List PyData} {vs : List V} (n : Nat), DpAll K H vs ds → DpAll K H (vs.drop n) (ds.drop n)
  | [], _, n, h => by
    cases h
    rw [List.drop_nil, List.drop_nil]
    exact .nil
  | d :: ds, _, 0, h => h
  | d :: ds, _, n + 1, h => by
    cases h with
    | cons a b => exact dpAll_drop n b
theorem dpAll_set {K : PySem.W.Frag} {H : Hp} {d : PyData} {v : V} (hv : Dp K H v d) : ∀ {ds : List PyData} {vs : List V} (n : Nat), DpAll K H vs ds → DpAll K H (vs.set n v) (ds.set n d)
  | [], _, n, h => by
    cases h
    exact .nil
  | d :: ds, _, 0, h => by
    cases h with
    | cons a b => exact .cons hv b
  | d :: ds, _, n + 1, h => by
    cases h with
    | cons a b => exact .cons a (dpAll_set hv n b)
theorem dpAll_rep {K : PySem.W.Frag} {H : Hp} {ds : List PyData} {vs : List V} (h : DpAll K H vs ds) : ∀ k : Nat, DpAll K H (List.replicate k vs).flatten (List.replicate k ds).flatten
  | 0 => .nil
  | k + 1 => by
    rw [List.replicate_succ, List.replicate_succ, List.flatten_cons, List.flatten_cons]
    exact dpAll_app h (dpAll_rep h k)
theorem dp_int {K : PySem.W.Frag} {H : Hp} {v : V} {i : Int} (h : Dp K H v (.int i)) : v = .int i := by
  cases h
  rfl
theorem dp_bool {K : PySem.W.Frag} {H : Hp} {v : V} {b : Bool} (h : Dp K H v (.bool b)) : v = .bl b := by
  cases h
  rfl
theorem dp_str {K : PySem.W.Frag} {H : Hp} {v : V} {b : Str} (h : Dp K H v (.str b)) : v = .str b := by
  cases h
  rfl
theorem dp_none {K : PySem.W.Frag} {H : Hp} {v : V} (h : Dp K H v .none) : v = .non := by
  cases h
  rfl
theorem dp_tup {K : PySem.W.Frag} {H : Hp} {v : V} {ds : List PyData} (h : Dp K H v (.tuple ds)) : ∃ a xs, v = .ref a ∧ SqT K H a xs ∧ DpAll K H xs ds := by
  cases h with
  | tup hs ha => exact ⟨_, _, rfl, hs, ha⟩
theorem dp_lst {K : PySem.W.Frag} {H : Hp} {v : V} {ds : List PyData} (h : Dp K H v (.list ds)) : ∃ a xs, v = .ref a ∧ SqL K H a xs ∧ DpAll K H xs ds := by
  cases h with
  | lst hs ha => exact ⟨_, _, rfl, hs, ha⟩
theorem dpAll_nil {K : PySem.W.Frag} {H : Hp} {vs : List V} (h : DpAll K H vs []) : vs = [] := by
  cases h
  rfl
theorem dpAll_cons {K : PySem.W.Frag} {H : Hp} {vs : List V} {d : PyData} {ds : List PyData} (h : DpAll K H vs (d :: ds)) : ∃ v ws, vs = v :: ws ∧ Dp K H v d ∧ DpAll K H ws ds := by
  cases h with
  | cons a b => exact ⟨_, _, rfl, a, b⟩
theorem dpAll_int {K : PySem.W.Frag} {H : Hp} : ∀ {ns : List Int} {vs : List V}, DpAll K H vs (ns.map .int) → vs = ns.map V.int
  | [], _, h => dpAll_nil h
  | n :: ns, _, h => by
    obtain ⟨v, ws, rfl, a, b⟩ := dpAll_cons h
    rw [dp_int a, dpAll_int b] <;> rfl
theorem dpAll_bool {K : PySem.W.Frag} {H : Hp} : ∀ {ns : List Bool} {vs : List V}, DpAll K H vs (ns.map .bool) → vs = ns.map V.bl
  | [], _, h => dpAll_nil h
  | n :: ns, _, h => by
    obtain ⟨v, ws, rfl, a, b⟩ := dpAll_cons h
    rw [dp_bool a, dpAll_bool b] <;> rfl
theorem dpAll_ofInts {K : PySem.W.Frag} {H : Hp} : ∀ (ns : List Int), DpAll K H (ns.map V.int) (ns.map .int)
  | [] => .nil
  | n :: ns => .cons (.int n) (dpAll_ofInts ns)

/-! ### data without lists: their representation does not hang on lists -/
mutual
def noL : PyData → Bool
  | .list _ => false
  | .dict _ => false
  | .tuple ds => noLs ds
  | _ => true
def noLs : List PyData → Bool
  | [] => true
  | d :: ds => noL d && noLs ds
end
theorem noLs_all : ∀ (ds : List PyData), noLs ds = ds.all noL
  | [] => rfl
  | d :: ds => by
    show (noL d && noLs ds) = (noL d && ds.all noL)
    rw [noLs_all ds]
mutual
theorem dp_noL {K : PySem.W.Frag} {H H' : Hp} (e : ∀ a xs, Rd H a (.tup xs) → Rd H' a (.tup xs)) : ∀ {d : PyData} {v : V}, noL d = true → Dp K H v d → Dp K H' v d
  | .none, _, _, h => by
    cases h
    exact .non
  | .bool b, _, _, h => by
    cases h
    exact .bl b
  | .int i, _, _, h => by
    cases h
    exact .int i
  | .str x, _, _, h => by
    cases h
    exact .str x
  | .list ds, _, n, h => by cases n
  | .tuple ds, _, n, h => by
    cases h with
    | tup hs ha =>
      refine .tup (hs.imp (fun q => ?_) id) (dpAll_noL e n ha)
      exact e _ _ q
  | .dict _, _, n, h => by cases n
theorem dpAll_noL {K : PySem.W.Frag} {H H' : Hp} (e : ∀ a xs, Rd H a (.tup xs) → Rd H' a (.tup xs)) : ∀ {ds : List PyData} {vs : List V}, noLs ds = true → DpAll K H vs ds → DpAll K H' vs ds
  | [], _, _, h => by
    cases h
    exact .nil
  | d :: ds, _, n, h => by
    cases h with
    | cons a b =>
      obtain ⟨n1, n2⟩ := Bool.and_eq_true_iff.mp (show (noL d && noLs ds) = true from n)
      exact .cons (dp_noL e n1 a) (dpAll_noL e n2 b)
end

/-! ### slots -/
/-- what a slot holds: anything; data that is shared; a list of one's own; the law's well (three ints), closed or open; a range -/
inductive SD where
  | any
  | sh (d : PyData)
  | own (ds : List PyData)
  | well
  | pw (i j k : Int)
  | rng (lo hi : Int)
def SD.ow : SD → Bool
  | .own _ => true
  | .well => true
  | .pw _ _ _ => true
  | _ => false
def IsWell (H : Hp) (a : Addr) : Prop := ∃ i j k : Int, H a = some (.lst [.int i, .int j, .int k])
/-- hidden by the slots; the wells alone -/
def Wo (σ : L2.St) (δ : List SD) (a : Addr) : Prop := ∃ (i : Nat) (s : SD), δ[i]? = some s ∧ s.ow = true ∧ σ[i]? = some (some (.ref a))
def Wl (σ : L2.St) (δ : List SD) (a : Addr) : Prop := ∃ i : Nat, δ[i]? = some SD.well ∧ σ[i]? = some (some (.ref a))
theorem Wl.o {σ : L2.St} {δ : List SD} {a : Addr} (h : Wl σ δ a) : Wo σ δ a := by
  obtain ⟨i, h1, h2⟩ := h
  exact ⟨i, _, h1, rfl, h2⟩
/-- the frame at hand: W0 hidden from outside, H0 the heap at the entry, CH what may change of it, OA the wells handed in -/
structure Dy where
  W0 : Addr → Prop
  H0 : Hp
  CH : Addr → Prop
  OA : Addr → Prop
def Hd (Γ : Dy) (σ : L2.St) (δ : List SD) (a : Addr) : Prop := Γ.W0 a ∨ Wo σ δ a
structure Real (K : PySem.W.Frag) (Γ : Dy) (H : Hp) (σ : L2.St) (δ : List SD) : Prop where
  len : δ.length = σ.length
  fr : ∀ a o, Γ.H0 a = some o → ¬ Γ.CH a → H a = some o
  w0 : ∀ a, Γ.W0 a → ∃ o, H a = some o
  oa : ∀ a, Γ.OA a → IsWell H a
  sh : ∀ (i : Nat) d, δ[i]? = some (.sh d) → ∃ v, σ[i]? = some (some v) ∧ Dp K (hid (Hd Γ σ δ) H) v d
  own : ∀ (i : Nat) ds, δ[i]? = some (.own ds) → ∃ a xs, σ[i]? = some (some (.ref a)) ∧ H a = some (.lst xs) ∧ DpAll K (hid (Hd Γ σ δ) H) xs ds
  well : ∀ (i : Nat), δ[i]? = some SD.well → ∃ a, σ[i]? = some (some (.ref a)) ∧ IsWell H a
  rng : ∀ (i : Nat) lo hi, δ[i]? = some (.rng lo hi) → ∃ a, σ[i]? = some (some (.ref a)) ∧ H a = some (.rng lo hi)
  ch : ∀ a, Wo σ δ a → Γ.CH a ∨ Γ.H0 a = none
  inj : ∀ (i j : Nat) s t a, δ[i]? = some s → s.ow = true → δ[j]? = some t → t.ow = true → σ[i]? = some (some (.ref a)) → σ[j]? = some (some (.ref a)) → i = j
  ow0 : ∀ (i : Nat) ds a, δ[i]? = some (.own ds) → σ[i]? = some (some (.ref a)) → ¬ Γ.W0 a ∧ ¬ Γ.OA a
  pw : ∀ (n : Nat) i j k, δ[n]? = some (.pw i j k) → ∃ a, σ[n]? = some (some (.ref a)) ∧ H a = some (.lst [.int i, .int j, .int k])
/-- an expression has run: what is no well stands, wells are wells -/
structure Ext (W : Addr → Prop) (H H' : Hp) : Prop where
  keep : ∀ a o, H a = some o → ¬ W a → H' a = some o
  well : ∀ a, W a → IsWell H a → IsWell H' a
theorem Ext.refl {W : Addr → Prop} {H : Hp} : Ext W H H := ⟨fun _ _ h _ => h, fun _ _ h => h⟩
theorem Ext.trans {W : Addr → Prop} {H H1 H2 : Hp} (a : Ext W H H1) (b : Ext W H1 H2) : Ext W H H2 :=
  ⟨fun x o h n => b.keep x o (a.keep x o h n) n, fun x w h => b.well x w (a.well x w h)⟩
theorem Ext.grow {W : Addr → Prop} {H H' : Hp} (g : Grow H H') : Ext W H H' := ⟨fun a o h _ => g a o h, fun a _ ⟨i, j, k, h⟩ => ⟨i, j, k, g a _ h⟩⟩
theorem Ext.new {W : Addr → Prop} {H : Hp} {p : Addr} {o : HO} (h : H p = none) : Ext W H (upd H p o) := .grow (Grow.new h)
section
variable {K : PySem.W.Frag} {Γ : Dy} {H H' : Hp} {σ : L2.St} {δ : List SD}
/-- hidden things stand in the heap -/
theorem Real.dom (r : Real K Γ H σ δ) {a : Addr} (h : Hd Γ σ δ a) : ∃ o, H a = some o := by
  rcases h with h | ⟨i, s, h1, h2, h3⟩
  · exact r.w0 a h
  · cases s with
    | own ds =>
      obtain ⟨b, xs, e1, e2, _⟩ := r.own i ds h1
      rw [h3] at e1
      cases e1
      exact ⟨_, e2⟩
    | well =>
      obtain ⟨b, e1, i, j, k, e2⟩ := r.well i h1
      rw [h3] at e1
      cases e1
      exact ⟨_, e2⟩
    | pw i j k =>
      obtain ⟨b, e1, e2⟩ := r.pw _ i j k h1
      rw [h3] at e1
      cases e1
      exact ⟨_, e2⟩
    | _ => cases h2
theorem Real.fresh (r : Real K Γ H σ δ) {a : Addr} (h : H a = none) : ¬ Hd Γ σ δ a := fun w => by
  obtain ⟨o, e⟩ := r.dom w
  rw [h] at e
  cases e
theorem Real.ext (r : Real K Γ H σ δ) (e : Ext (Wl σ δ) H H') : Real K Γ H' σ δ := by
  have g : Grow (hid (Hd Γ σ δ) H) (hid (Hd Γ σ δ) H') := hid_grow fun a o h n => ⟨n, e.keep a o h fun w => n (.inr w.o)⟩
  refine ⟨r.len, fun a o h n => ?_, fun a w => ?_, fun a w => ?_, fun i d h => ?_, fun i ds h => ?_, fun i h => ?_, fun i lo hi h => ?_, r.ch, r.inj, r.ow0, fun n i j k h => ?_⟩
  · refine e.keep a o (r.fr a o h n) fun w => ?_
    rcases r.ch a w.o with q | q
    · exact n q
    · rw [h] at q
      cases q
  · obtain ⟨o, h⟩ := r.w0 a w
    by_cases q : Wl σ δ a
    · obtain ⟨i, q1, q2⟩ := id q
      obtain ⟨b, e1, wl⟩ := r.well i q1
      rw [q2] at e1
      cases e1
      obtain ⟨i, j, k, z⟩ := e.well a q wl
      exact ⟨_, z⟩
    · exact ⟨o, e.keep a o h q⟩
  · by_cases q : Wl σ δ a
    · exact e.well a q (r.oa a w)
    · obtain ⟨i, j, k, z⟩ := r.oa a w
      exact ⟨i, j, k, e.keep a _ z q⟩
  · obtain ⟨v, e1, p⟩ := r.sh i d h
    exact ⟨v, e1, dp_mono g p⟩
  · obtain ⟨a, xs, e1, e2, p⟩ := r.own i ds h
    refine ⟨a, xs, e1, e.keep a _ e2 fun ⟨j, q1, q2⟩ => ?_, dpAll_mono g p⟩
    have ij := r.inj i j _ _ a h rfl q1 rfl e1 q2
    subst ij
    rw [h] at q1
    cases q1
  · obtain ⟨a, e1, w⟩ := r.well i h
    exact ⟨a, e1, e.well a ⟨i, h, e1⟩ w⟩
  · obtain ⟨a, e1, e2⟩ := r.rng i lo hi h
    refine ⟨a, e1, e.keep a _ e2 fun ⟨j, q1, q2⟩ => ?_⟩
    obtain ⟨b, e3, i', j', k', e4⟩ := r.well j q1
    rw [q2] at e3
    cases e3
    rw [e2] at e4
    cases e4
  · obtain ⟨a, e1, e2⟩ := r.pw n i j k h
    refine ⟨a, e1, e.keep a _ e2 fun ⟨m, q1, q2⟩ => ?_⟩
    have nm := r.inj n m _ _ a h rfl q1 rfl e1 q2
    subst nm
    rw [h] at q1
    cases q1
theorem Real.dp (r : Real K Γ H σ δ) (e : Ext (Wl σ δ) H H') {v : V} {d : PyData} (p : Dp K (hid (Hd Γ σ δ) H) v d) : Dp K (hid (Hd Γ σ δ) H') v d :=
  dp_mono (hid_grow fun a o h n => ⟨n, e.keep a o h fun w => n (.inr w.o)⟩) p
theorem Real.dpAll (r : Real K Γ H σ δ) (e : Ext (Wl σ δ) H H') {v : List V} {d : List PyData} (p : DpAll K (hid (Hd Γ σ δ) H) v d) : DpAll K (hid (Hd Γ σ δ) H') v d :=
  dpAll_mono (hid_grow fun a o h n => ⟨n, e.keep a o h fun w => n (.inr w.o)⟩) p
end

/-! ### the context of a def's body -/
structure Th where
  P : Program
  w : World
  K : PySem.W.Frag
  mg : Str → Option Value
  base : Heap
structure G where
  T : Th
  N : List Str
  sc : Scope
  fc : Str → Bool
  k : Nat
structure XOk (g : G) (X : Cx) : Prop where
  prog : X.prog = g.T.P
  w : X.w = g.T.w
  K : X.K = g.T.K
  mg : X.mg = g.T.mg
  base : X.base = g.T.base
  N : X.N = g.N
  sc : X.env.scope = g.sc
  nd : g.N.Nodup
  calm : X.calm = true
  room : Room g.k X.A
  xe : X.xe = fun _ _ => False
  fn : ∀ x, g.fc x = true → X.fn x = true
  fk : g.sc.kind = .function
  stk : ∃ env l, X.stack = env :: l ∧ env.scope.isGenerator = false ∧ env.scope.isCoroutine = false ∧ env.builtins = builtinsNs ∧ env.globals = mainGlobals
/-- the readings as they are -/
def tW (X : Cx) (e : Expr) : TE := fun σ H Q => ∀ (pins : List (Addr × Obj)) (s : Shared), Inv X pins σ H s → wpAny (model X.prog X.w) X.A (eval e X.env) (EP X pins σ Q) X.xe s
def tWT (X : Cx) (e : Expr) : TT := fun σ H Q => ∀ (pins : List (Addr × Obj)) (s : Shared), Inv X pins σ H s → wpAny (model X.prog X.w) X.A (isTrue e X.env (eval e X.env)) (TP X pins σ Q) X.xe s
def tWA (X : Cx) (es : List Expr) : TA := fun σ H Q => ∀ (pos : Pos) (pins : List (Addr × Obj)) (s : Shared), Inv X pins σ H s → wpAny (model X.prog X.w) X.A (spliced (backTo pos (starEach es X.env))) (AP X pins σ Q) X.xe s
def tWS (X : Cx) (st : Stmt) : TS := fun D σ H => ∀ (pins : List (Addr × Obj)) (s : Shared), Inv X pins σ H s → wpAny (model X.prog X.w) X.A (exec st X.env) (SP X pins D) X.xe s
def tWSs (X : Cx) (st : List Stmt) : TS := fun D σ H => ∀ (pins : List (Addr × Obj)) (s : Shared), Inv X pins σ H s → wpAny (model X.prog X.w) X.A (execs st X.env) (SP X pins D) X.xe s
theorem pW (X : Cx) (e : Expr) : PE X e (tW X e) := ⟨fun pins s _ _ _ I h => h pins s I⟩
theorem pWT (X : Cx) (e : Expr) : PT X e (tWT X e) := ⟨fun pins s _ _ _ I h => h pins s I⟩
theorem pWA (X : Cx) (es : List Expr) : PA X es (tWA X es) := ⟨fun pos pins s _ _ _ I h => h pos pins s I⟩
theorem pWS (X : Cx) (st : Stmt) : PS X st (tWS X st) := ⟨fun pins s _ _ _ I h => h pins s I⟩
theorem pWSs (X : Cx) (st : List Stmt) : PSs X st (tWSs X st) := ⟨fun pins s _ _ _ I h => h pins s I⟩
theorem toW {X : Cx} {e : Expr} {t : TE} (h : PE X e t) {σ : L2.St} {H : Hp} {Q : VK} (q : t σ H Q) : tW X e σ H Q := fun pins s I => h.run pins s σ H Q I q
theorem toWT {X : Cx} {e : Expr} {t : TT} (h : PT X e t) {σ : L2.St} {H : Hp} {Q : Bool → Hp → Prop} (q : t σ H Q) : tWT X e σ H Q := fun pins s I => h.run pins s σ H Q I q
theorem toWA {X : Cx} {e : List Expr} {t : TA} (h : PA X e t) {σ : L2.St} {H : Hp} {Q : List V → Hp → Prop} (q : t σ H Q) : tWA X e σ H Q := fun pos pins s I => h.run pos pins s σ H Q I q
theorem toWS {X : Cx} {e : Stmt} {t : TS} (h : PS X e t) {σ : L2.St} {H : Hp} {D : Ends} (q : t D σ H) : tWS X e D σ H := fun pins s I => h.run pins s σ H D I q
theorem toWSs {X : Cx} {e : List Stmt} {t : TS} (h : PSs X e t) {σ : L2.St} {H : Hp} {D : Ends} (q : t D σ H) : tWSs X e D σ H := fun pins s I => h.run pins s σ H D I q

/-! ### the judgements -/
/-- e is worth some data of which Q holds -/
def E (g : G) (e : Expr) (δ : List SD) (Q : PyData → Prop) : Prop := ∀ X, XOk g X → ∀ (Γ : Dy) (σ : L2.St) (H : Hp) (R : VK), Real g.T.K Γ H σ δ →
  (∀ d v H', Q d → Ext (Wl σ δ) H H' → Dp g.T.K (hid (Hd Γ σ δ) H') v d → R v H') → tW X e σ H R
/-- e is worth a new list -/
def EF (g : G) (e : Expr) (δ : List SD) (Q : List PyData → Prop) : Prop := ∀ X, XOk g X → ∀ (Γ : Dy) (σ : L2.St) (H : Hp) (R : VK), Real g.T.K Γ H σ δ →
  (∀ ds p xs H', Q ds → Ext (Wl σ δ) H H' → H p = none → H' p = some (.lst xs) → DpAll g.T.K (hid (fun a => Hd Γ σ δ a ∨ a = p) H') xs ds → R (.ref p) H') → tW X e σ H R
def EA (g : G) (es : List Expr) (δ : List SD) (Q : List PyData → Prop) : Prop := ∀ X, XOk g X → ∀ (Γ : Dy) (σ : L2.St) (H : Hp) (R : List V → Hp → Prop), Real g.T.K Γ H σ δ →
  (∀ ds vs H', Q ds → Ext (Wl σ δ) H H' → DpAll g.T.K (hid (Hd Γ σ δ) H') vs ds → R vs H') → tWA X es σ H R
def B (g : G) (e : Expr) (δ : List SD) (Q : Bool → Prop) : Prop := ∀ X, XOk g X → ∀ (Γ : Dy) (σ : L2.St) (H : Hp) (R : Bool → Hp → Prop), Real g.T.K Γ H σ δ →
  (∀ b H', Q b → Ext (Wl σ δ) H H' → R b H') → tWT X e σ H R
structure RetOk (K : PySem.W.Frag) (Γ : Dy) (H : Hp) (v : V) (d : PyData) : Prop where
  fr : ∀ a o, Γ.H0 a = some o → ¬ Γ.CH a → H a = some o
  oa : ∀ a, Γ.OA a → IsWell H a
  dp : Dp K (hid Γ.W0 H) v d
def S (g : G) (st : Stmt) (δ : List SD) (nx : List SD → Prop) (rt : PyData → Prop) : Prop := ∀ X, XOk g X → ∀ (Γ : Dy) (σ : L2.St) (H : Hp) (D : Ends), Real g.T.K Γ H σ δ →
  (∀ δ' σ' H', nx δ' → Real g.T.K Γ H' σ' δ' → D.nx σ' H') → (∀ d v H', rt d → RetOk g.T.K Γ H' v d → D.rt v H') → tWS X st D σ H
def SS (g : G) (st : List Stmt) (δ : List SD) (nx : List SD → Prop) (rt : PyData → Prop) : Prop := ∀ X, XOk g X → ∀ (Γ : Dy) (σ : L2.St) (H : Hp) (D : Ends), Real g.T.K Γ H σ δ →
  (∀ δ' σ' H', nx δ' → Real g.T.K Γ H' σ' δ' → D.nx σ' H') → (∀ d v H', rt d → RetOk g.T.K Γ H' v d → D.rt v H') → tWSs X st D σ H
section
variable {g : G} {e a b c : Expr} {es : List Expr} {δ : List SD} {Q Q' : PyData → Prop} {pos : Pos}
theorem E.imp (h : E g e δ Q) (q : ∀ d, Q d → Q' d) : E g e δ Q' := fun X x Γ σ H R r k => h X x Γ σ H R r fun d v H' hd => k d v H' (q d hd)
theorem EF.imp {Q Q' : List PyData → Prop} (h : EF g e δ Q) (q : ∀ d, Q d → Q' d) : EF g e δ Q' := fun X x Γ σ H R r k => h X x Γ σ H R r fun ds p xs H' hd => k ds p xs H' (q ds hd)
theorem B.imp {Q Q' : Bool → Prop} (h : B g e δ Q) (q : ∀ d, Q d → Q' d) : B g e δ Q' := fun X x Γ σ H R r k => h X x Γ σ H R r fun b H' hd => k b H' (q b hd)
theorem EF.toE (h : EF g e δ fun ds => Q (.list ds)) : E g e δ Q := fun X x Γ σ H R r k => h X x Γ σ H R r fun ds p xs H' hd ex hp hp' ha => by
  have np : ¬ Hd Γ σ δ p := r.fresh hp
  refine k (.list ds) (.ref p) H' hd ex (.lst (.inl (.inl (hid_mk np hp'))) ?_)
  exact dpAll_mono (hid_grow fun a o h n => ⟨fun w => n (.inl w), h⟩) ha
/-! ### names, constants -/
theorem e_name {i : Nat} {x : Str} {d : PyData} (hs : δ[i]? = some (.sh d)) (q : Q d) (hN : g.N[i]? = some x := by rfl) (hv : Vis g.sc x := by first | exact Or.inl rfl | exact Or.inr (Or.inl rfl) | exact Or.inr (Or.inr rfl)) (hd : (x == ("__debug__" : Str)) = false := by decide)
    (hcd : (x == ("__classdict__" : Str)) = false := by decide) : E g (.Name x pos) δ Q := fun X x Γ σ H R r k => by
  obtain ⟨v, e1, p⟩ := r.sh i d hs
  exact toW (pe_var (i := i) (by rw [x.N]; exact hN) (by rw [x.sc]; exact hv) hd hcd) ⟨v, e1, k d v H q .refl p⟩
theorem e_int {i : Int} {j} (q : Q (.int i)) : E g (.Constant (.int i) j pos) δ Q := fun X x Γ σ H R r k => toW pe_int (k _ _ H q .refl (.int i))
theorem e_bool {i : Bool} {j} (q : Q (.bool i)) : E g (.Constant (.bool i) j pos) δ Q := fun X x Γ σ H R r k => toW pe_bl (k _ _ H q .refl (.bl i))
theorem e_none {j} (q : Q .none) : E g (.Constant .none j pos) δ Q := fun X x Γ σ H R r k => toW pe_non (k _ _ H q .refl .non)
def Glob (g : G) (x : Str) : Prop := g.sc.names.lookup x = some .globalImplicit
theorem XOk.gl {X : Cx} {x : Str} (h : XOk g X) (q : Glob g x) : Gl X x := by
  show X.env.scope.names.lookup x = _
  rw [h.sc]
  exact q
/-- a module's constant -/
theorem e_glob {x : Str} {d : PyData} {v : V} {u : Value} (hm : g.T.mg x = some u) (hr : RelV v u) (hp : ∀ H, Dp g.T.K H v d) (q : Q d) (hg : Glob g x := by rfl) (hd : (x == ("__debug__" : Str)) = false := by decide) : E g (.Name x pos) δ Q := fun X xo Γ σ H R r k =>
  toW (pe_glob (xo.gl hg) (by rw [xo.mg]; exact hm) hr hd) (k d v H q .refl (hp _))
/-! ### two places -/
theorem e_op {op : Operator} {r2 : R2} (ho : ∀ X, XOk g X → OpR X (binaryOp op) r2)
    (h : E g a δ fun d1 => E g b δ fun d2 => ∀ (W : Addr → Prop) v1 v2 H (R : VK), (∀ a, W a → ∃ o, H a = some o) → Dp g.T.K (hid W H) v1 d1 → Dp g.T.K (hid W H) v2 d2 → (∀ d v H', Q d → Grow H H' → Dp g.T.K (hid W H') v d → R v H') → r2 v1 v2 H R) : E g (.BinOp a op b pos) δ Q := fun X x Γ σ H R r k => by
  refine toW (pe_op (ho X x) (pW X a) (pW X b)) ?_
  refine h X x Γ σ H _ r fun d1 v1 H1 hb e1 p1 => ?_
  refine hb X x Γ σ H1 _ (r.ext e1) fun d2 v2 H2 hq e2 p2 => ?_
  have r2' := (r.ext e1).ext e2
  refine hq (Hd Γ σ δ) v1 v2 H2 R (fun a w => r2'.dom w) ((r.ext e1).dp e2 p1) p2 fun d v H' q gr p => ?_
  exact k d v H' q ((e1.trans e2).trans (.grow gr)) p
theorem e_I {op : Operator} {C : Int → Int → Prop} {f : Int → Int → Int} (ho : ∀ X, XOk g X → OpR X (binaryOp op) (rI C fun i j => .int (f i j)))
    (h : E g a δ fun d1 => E g b δ fun d2 => ∃ i j, d1 = .int i ∧ d2 = .int j ∧ C i j ∧ Q (.int (f i j))) : E g (.BinOp a op b pos) δ Q := e_op ho (h.imp fun d1 h1 => h1.imp fun d2 h2 => by
  obtain ⟨i, j, rfl, rfl, hc, q⟩ := h2
  intro W v1 v2 H R _ p1 p2 k
  exact ⟨i, j, dp_int p1, dp_int p2, hc, k _ _ H q (Grow.refl H) (.int _)⟩)
theorem e_I0 {op : Operator} {f : Int → Int → Int} (ho : ∀ X, XOk g X → OpR X (binaryOp op) (rI0 fun i j => .int (f i j)))
    (h : E g a δ fun d1 => E g b δ fun d2 => ∃ i j, d1 = .int i ∧ d2 = .int j ∧ Q (.int (f i j))) : E g (.BinOp a op b pos) δ Q := e_op ho (h.imp fun d1 h1 => h1.imp fun d2 h2 => by
  obtain ⟨i, j, rfl, rfl, q⟩ := h2
  intro W v1 v2 H R _ p1 p2 k
  exact ⟨i, j, dp_int p1, dp_int p2, k _ _ H q (Grow.refl H) (.int _)⟩)
theorem e_add (h : E g a δ fun d1 => E g b δ fun d2 => ∃ i j, d1 = .int i ∧ d2 = .int j ∧ Q (.int (i + j))) : E g (.BinOp a .Add b pos) δ Q := e_I0 (fun _ _ => op_add) h
theorem e_sub (h : E g a δ fun d1 => E g b δ fun d2 => ∃ i j, d1 = .int i ∧ d2 = .int j ∧ Q (.int (i - j))) : E g (.BinOp a .Sub b pos) δ Q := e_I0 (fun _ _ => op_sub) h
theorem e_mulX (h : E g a δ fun d1 => E g b δ fun d2 => ∃ i j, d1 = .int i ∧ d2 = .int j ∧ CMulX i j ∧ Q (.int (i * j))) : E g (.BinOp a .Mult b pos) δ Q := e_I (fun _ _ => op_mulX) h
theorem e_mul (h : E g a δ fun d1 => E g b δ fun d2 => ∃ i j, d1 = .int i ∧ d2 = .int j ∧ CMul i j ∧ Q (.int (i * j))) : E g (.BinOp a .Mult b pos) δ Q := e_I (fun _ _ => op_mul) h
theorem e_mod (h : E g a δ fun d1 => E g b δ fun d2 => ∃ i j, d1 = .int i ∧ d2 = .int j ∧ 0 < j ∧ Q (.int (i % j))) : E g (.BinOp a .Mod b pos) δ Q := e_I (fun _ _ => op_mod) h
theorem e_fdiv (h : E g a δ fun d1 => E g b δ fun d2 => ∃ i j, d1 = .int i ∧ d2 = .int j ∧ CDiv i j ∧ Q (.int (i / j))) : E g (.BinOp a .FloorDiv b pos) δ Q := e_I (fun _ _ => op_fdiv) h
theorem e_pow (h : E g a δ fun d1 => E g b δ fun d2 => ∃ i j, d1 = .int i ∧ d2 = .int j ∧ CPow i j ∧ Q (.int (i ^ j.toNat))) : E g (.BinOp a .Pow b pos) δ Q := e_I (fun _ _ => op_pow) h
theorem e_shl (h : E g a δ fun d1 => E g b δ fun d2 => ∃ i j, d1 = .int i ∧ d2 = .int j ∧ CPow i j ∧ Q (.int (i * 2 ^ j.toNat))) : E g (.BinOp a .LShift b pos) δ Q := e_I (fun _ _ => op_shl) h
theorem e_shr (h : E g a δ fun d1 => E g b δ fun d2 => ∃ i j, d1 = .int i ∧ d2 = .int j ∧ 0 ≤ j ∧ Q (.int (i / 2 ^ j.toNat))) : E g (.BinOp a .RShift b pos) δ Q := e_I (fun _ _ => op_shr) h
end
end Pd

/-! text Pb -/
set_option Elab.async false
set_option linter.all false
set_option maxRecDepth 100000
set_option maxHeartbeats 4000000
/-! More rules by values. -/
namespace Pd
open PySem PySem.Spec PyProof.Rows L2

/-! ### list + list, tuple * int -/
def rCatS (K : PySem.W.Frag) : R2 := fun x y H Q => ∃ l b xs zs, x = .ref l ∧ y = .ref b ∧ SqL K H l xs ∧ SqL K H b zs ∧ xs.length + zs.length ≤ sizeLine ∧ ∀ p, H p = none → Q (.ref p) (upd H p (.lst (xs ++ zs)))
theorem op_catS {X : Cx} : OpR X (binaryOp .Add) (rCatS X.K) := by
  intro pins s σ H x y v u Q I rx ry h
  obtain ⟨l, b, xs, zs, rfl, rfl, hH, hB, hz, q⟩ := h
  cases rx
  cases ry
  obtain ⟨its, r, ⟨⟨c1, d1, dt1, s1⟩, n, e, ec, ed, edt⟩, _⟩ := I.list hH
  obtain ⟨its2, r2, ⟨⟨c2, d2, dt2, s2⟩, n2, e2, ec2, ed2, edt2⟩, _⟩ := I.list hB
  simp only at ec edt ec2 edt2
  subst ec edt ec2 edt2
  have h1 := r.length
  have h2 := r2.length
  have ea : its.toArray ++ its2.toArray = (its ++ its2).toArray := by simp
  refine concat_meets ⟨_, e, rfl⟩ ⟨_, e2, rfl⟩ noFill_list_add seq_list_add PySem.F.slot_list_add PySem.F.entry_list_add (PySem.F.args_list_add_2 _ _) (list_addW l b its.toArray its2.toArray n n2 _ _ _ _ (by simp; omega)) ⟨e, e2, ?_⟩
  rw [ea]
  exact ⟨.ref _, _, I.lnew (t' := s.toks) (r.append r2) (by rw [List.length_append]; omega), rfl, q _ I.fresh⟩
theorem tuple_mul0 (l : Addr) (items : Array Value) (n : Nat) (dd : Option Addr) (sl : Array (Option Value)) (u : Tok) (c1 : items.isEmpty = false) :
    Meets (Builtin.«tuple.__mul__» ⟨[.ref l, .int 0 u], []⟩) (fun _ R s => s.heap.get? l = some { cls := .type "tuple", dict := dd, data := .seq items n, slots := sl } ∧
      R (.ok (.ret (Value.ref s.heap.objs.size))) { s with heap := s.heap.push { cls := Value.type "tuple", data := Data.seq #[] }, toks := s.toks }) :=
  .of_wp fun prog w A R s h => by
    obtain ⟨hp, g, d, tk, os⟩ := s
    obtain ⟨hl, h⟩ := h
    have f1 := AutoSeq1.idx_int
    have c2 : (items.isEmpty || (0 : Int) == 1) = false := by rw [c1] <;> rfl
    wp_walk using wpAny_loadPart' hl
    repeat (first
      | (refine wpAny_ite_false (decide_eq_false (by rw [c2]; exact Bool.false_ne_true)) ?_; wp_walk using wpAny_loadPart' hl)
      | (refine wpAny_ite_true (by simp) ?_; wp_walk using wpAny_loadPart' hl))
    exact ⟨_, rfl, h⟩
theorem tuple_mul1 (l : Addr) (items : Array Value) (n : Nat) (dd : Option Addr) (sl : Array (Option Value)) (u : Tok) :
    Meets (Builtin.«tuple.__mul__» ⟨[.ref l, .int 1 u], []⟩) (fun _ R s => s.heap.get? l = some { cls := .type "tuple", dict := dd, data := .seq items n, slots := sl } ∧
      R (.ok (.ret (Value.ref l))) s) :=
  .of_wp fun prog w A R s h => by
    obtain ⟨hp, g, d, tk, os⟩ := s
    obtain ⟨hl, h⟩ := h
    have f1 := AutoSeq1.idx_int
    wp_walk using wpAny_loadPart' hl
    repeat (first
      | (refine wpAny_ite_true (by simp) ?_; wp_walk using wpAny_loadPart' hl))
    exact ⟨_, rfl, h⟩
def rRepA (K : PySem.W.Frag) : R2 := fun x y H Q => ∃ l k xs, x = .ref l ∧ y = .int k ∧ SqT K H l xs ∧ xs ≠ [] ∧ 0 ≤ k ∧ k ≤ 1000 ∧ xs.length ≤ 1000 ∧
  (k = 1 → Q (.ref l) H) ∧ (k ≠ 1 → ∀ p, H p = none → Q (.ref p) (upd H p (.tup (List.replicate k.toNat xs).flatten)))
theorem op_repA {X : Cx} : OpR X (binaryOp .Mult) (rRepA X.K) := by
  intro pins s σ H x y v u Q I rx ry h
  obtain ⟨l, k, xs, rfl, rfl, hT, hne, h1, h2, hz, q1, q2⟩ := h
  by_cases h3 : 2 ≤ k
  · exact op_repT pins s σ H _ _ v u Q I rx ry ⟨l, k, xs, rfl, rfl, hT, hne, h3, h2, hz, q2 (by omega)⟩
  · cases rx
    obtain ⟨t, rfl⟩ := ry
    obtain ⟨its, r, ⟨⟨cls, dd, data, sl⟩, ho, hc, n, hd⟩, hs⟩ := I.tuple hT
    simp only at hc hd
    subst hc hd
    have hle : its.length = xs.length := r.length.symm
    have hn : its ≠ [] := fun e => hne (by
      rw [e] at hle
      exact List.eq_nil_of_length_eq_zero hle.symm)
    have hi : its.toArray.isEmpty = false := by
      cases its with
      | nil => exact absurd rfl hn
      | cons a b => rfl
    rcases (show k = 0 ∨ k = 1 by omega) with rfl | rfl
    · refine wpAny_binaryOp_repeat_ref (T := "tuple") (U := "int") (by decide) ⟨_, ho, rfl⟩ (fun s' => typeIs_int s' _ t) noFill_tuple_mul F.fills_int_mul F.slot_int_rmul repeat_tuple F.slot_int_index.lookup
        (call_meets F.slot_int_rmul (typeIs_int s _ t) F.entry_int_rmul (F.args_int_rmul_2 _ _) (int_rmul_tuple _ t l its.toArray n dd sl)
          ⟨ho, rfl, ⟨_, ho, rfl⟩, call_meets F.slot_tuple_mul ⟨_, ho, rfl⟩ F.entry_tuple_mul (F.args_tuple_mul_2 _ _) (tuple_mul0 l its.toArray n dd sl t hi) ⟨ho, ?_⟩⟩)
      refine ⟨.ref s.heap.objs.size, _, I.laid (t' := s.toks) (o := .tup []) (fun b ob q => Heap.get?_push_of_some _ q) (Nat.le_refl _) ?_, rfl, q2 (by decide) _ (I.hok.fresh (Nat.le_refl _))⟩
      exact ⟨Nat.zero_le _, [], .nil, IsTup.new _ _⟩
    · refine wpAny_binaryOp_repeat_ref (T := "tuple") (U := "int") (by decide) ⟨_, ho, rfl⟩ (fun s' => typeIs_int s' _ t) noFill_tuple_mul F.fills_int_mul F.slot_int_rmul repeat_tuple F.slot_int_index.lookup
        (call_meets F.slot_int_rmul (typeIs_int s _ t) F.entry_int_rmul (F.args_int_rmul_2 _ _) (int_rmul_tuple _ t l its.toArray n dd sl)
          ⟨ho, rfl, ⟨_, ho, rfl⟩, call_meets F.slot_tuple_mul ⟨_, ho, rfl⟩ F.entry_tuple_mul (F.args_tuple_mul_2 _ _) (tuple_mul1 l its.toArray n dd sl t) ⟨ho, ?_⟩⟩)
      exact ⟨.ref l, H, I, rfl, q1 rfl⟩

/-! ### the judgements' rules: displays, arguments -/
section
variable {g : G} {e a b c : Expr} {es : List Expr} {δ : List SD} {Q : PyData → Prop} {pos : Pos}
theorem fewLine {n : Nat} (h : n ≤ 100000) : n ≤ sizeLine := Nat.le_trans h (by decide)
theorem ea_nil {QA : List PyData → Prop} (q : QA []) : EA g [] δ QA := fun X x Γ σ H R r k => toWA pa_nil (k [] [] H q .refl .nil)
theorem ea_cons {QA : List PyData → Prop} (h : E g e δ fun d => EA g es δ fun ds => QA (d :: ds)) (hs : ∀ env, starEach (e :: es) env = (false, eval e env) :: starEach es env := by intro _; rfl) : EA g (e :: es) δ QA := fun X x Γ σ H R r k => by
  refine toWA (pa_cons (pW X e) (pWA X es) (hs _)) ?_
  refine h X x Γ σ H _ r fun d v H1 h1 e1 p1 => ?_
  refine h1 X x Γ σ H1 _ (r.ext e1) fun ds vs H2 h2 e2 p2 => ?_
  exact k _ _ H2 h2 (e1.trans e2) (.cons ((r.ext e1).dp e2 p1) p2)
theorem ea_star {p : Pos} {QA : List PyData → Prop} (h : E g e δ fun d => ∃ ds, (d = .tuple ds ∨ d = .list ds) ∧ EA g es δ fun ds' => QA (ds ++ ds')) : EA g (.Starred e p :: es) δ QA := fun X x Γ σ H R r k => by
  refine toWA (StX.pa_star (pW X e) (pWA X es)) ?_
  refine h X x Γ σ H _ r fun d v H1 h1 e1 p1 => ?_
  obtain ⟨ds, hd, h1⟩ := h1
  have key : ∃ a xs, v = .ref a ∧ (SqT X.K H1 a xs ∨ SqL X.K H1 a xs) ∧ DpAll g.T.K (hid (Hd Γ σ δ) H1) xs ds := by
    rcases hd with rfl | rfl
    · obtain ⟨a, xs, e2, s2, p2⟩ := dp_tup p1
      exact ⟨a, xs, e2, .inl (by rw [x.K]; exact grow_t hid_le s2), p2⟩
    · obtain ⟨a, xs, e2, s2, p2⟩ := dp_lst p1
      exact ⟨a, xs, e2, .inr (by rw [x.K]; exact grow_l hid_le s2), p2⟩
  obtain ⟨a, xs, e2, s2, p2⟩ := key
  refine ⟨a, xs, e2, s2, ?_⟩
  refine h1 X x Γ σ H1 _ (r.ext e1) fun ds' vs H2 h2 e3 p3 => ?_
  exact k _ _ H2 h2 (e1.trans e3) (dpAll_app ((r.ext e1).dpAll e3 p2) p3)
theorem e_tup {x1} (h : EA g es δ fun ds => ds.length ≤ 100000 ∧ Q (.tuple ds)) : E g (.Tuple es x1 pos) δ Q := fun X x Γ σ H R r k => by
  refine toW (pe_tup (pWA X es)) ?_
  refine h X x Γ σ H _ r fun ds vs H1 h1 e1 p1 => ?_
  obtain ⟨hl, q⟩ := h1
  have r1 := r.ext e1
  refine ⟨fewLine (by rw [dpAll_len p1]; exact hl), fun p hp => ?_⟩
  refine k _ _ _ q (e1.trans (.new hp)) (.tup (.inl (.inl (hid_mk (r1.fresh hp) upd_same))) ?_)
  exact r1.dpAll (.new hp) p1
theorem ef_lst {QF : List PyData → Prop} (h : EA g es δ fun ds => ds.length ≤ 100000 ∧ QF ds) : EF g (.List es pos) δ QF := fun X x Γ σ H R r k => by
  refine toW (pe_lst (pWA X es)) ?_
  refine h X x Γ σ H _ r fun ds vs H1 h1 e1 p1 => ?_
  obtain ⟨hl, q⟩ := h1
  have r1 := r.ext e1
  refine ⟨fewLine (by rw [dpAll_len p1]; exact hl), fun p hp => ?_⟩
  have hp0 : H p = none := by
    cases z : H p with
    | none => rfl
    | some o =>
      by_cases w : Wl σ δ p
      · obtain ⟨o', z2⟩ := r1.dom (.inr w.o)
        rw [hp] at z2
        cases z2
      · rw [e1.keep p o z w] at hp
        cases hp
  refine k _ _ _ _ q (e1.trans (.new hp)) hp0 upd_same ?_
  refine dpAll_mono (hid_grow fun a o z n => ⟨fun w => w.elim n fun w => ?_, ?_⟩) p1
  · rw [upd_ne (ne_of_none z hp)]
    exact z
  · rw [w, hp] at z
    cases z
theorem Real.back {K : PySem.W.Frag} {Γ : Dy} {H H' : Hp} {σ : L2.St} {δ : List SD} (r : Real K Γ H σ δ) (e : Ext (Wl σ δ) H H') {p : Addr} (hp : H' p = none) : H p = none := by
  cases z : H p with
  | none => rfl
  | some o =>
    by_cases w : Wl σ δ p
    · obtain ⟨o', z2⟩ := (r.ext e).dom (.inr w.o)
      rw [hp] at z2
      cases z2
    · rw [e.keep p o z w] at hp
      cases hp
theorem Real.fresh1 {K : PySem.W.Frag} {Γ : Dy} {H : Hp} {σ : L2.St} {δ : List SD} (r : Real K Γ H σ δ) {p : Addr} (hp : H p = none) {o : HO} {xs : List V} {ds : List PyData} (h : DpAll K (hid (Hd Γ σ δ) H) xs ds) : DpAll K (hid (fun a => Hd Γ σ δ a ∨ a = p) (upd H p o)) xs ds := by
  refine dpAll_mono (hid_grow fun a o z n => ⟨fun w => w.elim n fun w => ?_, ?_⟩) h
  · rw [upd_ne (ne_of_none z hp)]
    exact z
  · rw [w, hp] at z
    cases z
/-! ### items, parts -/
theorem e_ix (h : E g a δ fun d1 => E g b δ fun d2 => ∃ ds i d, (d1 = .tuple ds ∨ d1 = .list ds) ∧ d2 = .int i ∧ atI ds i = some d ∧ Q d) (hs : PlainIx b := by intro _ _; rfl) : E g (.Subscript a b pos) δ Q := fun X x Γ σ H R r k => by
  refine toW (pe_ix (IxR.or ix_list ix_tup) (pW X a) (pW X b) hs) ?_
  refine h X x Γ σ H _ r fun d1 v1 H1 h1 e1 p1 => ?_
  refine h1 X x Γ σ H1 _ (r.ext e1) fun d2 v2 H2 h2 e2 p2 => ?_
  obtain ⟨ds, i, d, hd, rfl, hat, q⟩ := h2
  have p1' := (r.ext e1).dp e2 p1
  have at_ : ∀ {xs : List V}, DpAll g.T.K (hid (Hd Γ σ δ) H2) xs ds → ∃ v, atI xs i = some v ∧ Dp g.T.K (hid (Hd Γ σ δ) H2) v d := fun {xs} p => by
    unfold atI at hat ⊢
    rw [dpAll_len p]
    cases z : ixN ds.length i with
    | none =>
      rw [z] at hat
      cases hat
    | some j =>
      rw [z] at hat
      obtain ⟨v, q1, q2⟩ := dpAll_get p (show ds[j]? = some d from hat)
      exact ⟨v, q1, q2⟩
  rcases hd with rfl | rfl
  · obtain ⟨p, xs, rfl, s1, p3⟩ := dp_tup p1'
    obtain ⟨v, q1, q2⟩ := at_ p3
    exact .inr ⟨p, xs, i, v, rfl, dp_int p2, by rw [x.K]; exact grow_t hid_le s1, q1, k d v H2 q (e1.trans e2) q2⟩
  · obtain ⟨p, xs, rfl, s1, p3⟩ := dp_lst p1'
    obtain ⟨v, q1, q2⟩ := at_ p3
    exact .inl ⟨p, xs, i, v, rfl, dp_int p2, by rw [x.K]; exact grow_l hid_le s1, q1, k d v H2 q (e1.trans e2) q2⟩
/-- an optional part of a slice -/
def EO (g : G) (e : Option Expr) (δ : List SD) (Q : Option Int → Prop) : Prop := match e with
  | none => Q none
  | some e => E g e δ fun d => ∃ i, d = .int i ∧ Q (some i)
def tO (X : Cx) (e : Option Expr) : TO := match e with
  | none => tNoPart
  | some e => tPart (tW X e)
theorem pO (X : Cx) (e : Option Expr) : PO X e (tO X e) := match e with
  | none => po_none
  | some e => po_some (pW X e)
theorem eo_run {lo : Option Expr} {QO : Option Int → Prop} (h : EO g lo δ QO) {X : Cx} (x : XOk g X) {Γ : Dy} {σ : L2.St} {H : Hp} {R : Option Int → Hp → Prop} (r : Real g.T.K Γ H σ δ) (k : ∀ o H', QO o → Ext (Wl σ δ) H H' → R o H') : tO X lo σ H R := by
  cases lo with
  | none => exact k none H h .refl
  | some e =>
    refine h X x Γ σ H _ r fun d v H1 h1 e1 p1 => ?_
    obtain ⟨i, rfl, q⟩ := h1
    exact ⟨i, dp_int p1, k (some i) H1 q e1⟩
theorem sIx_cut {xs : List V} {ds : List PyData} {K : PySem.W.Frag} {H : Hp} (h : DpAll K H xs ds) (lo hi : Option Int) : DpAll K H (cutV xs lo hi) ((ds.drop (HT.sIx ds.length 0 lo)).take (HT.sIx ds.length ds.length hi - HT.sIx ds.length 0 lo)) := by
  unfold cutV
  rw [dpAll_len h]
  exact dpAll_take _ (dpAll_drop _ h)
def cutD (ds : List PyData) (lo hi : Option Int) : List PyData := (ds.drop (HT.sIx ds.length 0 lo)).take (HT.sIx ds.length ds.length hi - HT.sIx ds.length 0 lo)
/-- a part of a list: a new list -/
theorem ef_slice {lo hi : Option Expr} {p2 : Pos} {QF : List PyData → Prop} (h : E g a δ fun d => EO g lo δ fun l => EO g hi δ fun u => ∃ ds, d = .list ds ∧ QF (cutD ds l u)) : EF g (.Subscript a (.Slice lo hi none p2) pos) δ QF := fun X x Γ σ H R r k => by
  refine toW (pe_slice sl_list (pW X a) (pO X lo) (pO X hi)) ?_
  refine h X x Γ σ H _ r fun d v H1 h1 e1 p1 => ?_
  refine eo_run h1 x (r.ext e1) fun l H2 h2 e2 => ?_
  refine eo_run h2 x ((r.ext e1).ext e2) fun u H3 h3 e3 => ?_
  obtain ⟨ds, rfl, q⟩ := h3
  have r3 := ((r.ext e1).ext e2).ext e3
  have p3 := ((r.ext e1).ext e2).dp e3 ((r.ext e1).dp e2 p1)
  obtain ⟨p, xs, rfl, s1, p4⟩ := dp_lst p3
  refine ⟨p, xs, rfl, by rw [x.K]; exact grow_l hid_le s1, fun p' hp' => ?_⟩
  have e123 := (e1.trans e2).trans e3
  exact k _ _ _ _ q (e123.trans (.new hp')) (r.back e123 hp') upd_same (r3.fresh1 hp' (sIx_cut p4 l u))
/-- a part of a tuple -/
theorem e_sliceT {lo hi : Option Expr} {p2 : Pos} (h : E g a δ fun d => EO g lo δ fun l => EO g hi δ fun u => ∃ ds, d = .tuple ds ∧ Q (.tuple (cutD ds l u))) : E g (.Subscript a (.Slice lo hi none p2) pos) δ Q := fun X x Γ σ H R r k => by
  refine toW (pe_slice sl_tupA (pW X a) (pO X lo) (pO X hi)) ?_
  refine h X x Γ σ H _ r fun d v H1 h1 e1 p1 => ?_
  refine eo_run h1 x (r.ext e1) fun l H2 h2 e2 => ?_
  refine eo_run h2 x ((r.ext e1).ext e2) fun u H3 h3 e3 => ?_
  obtain ⟨ds, rfl, q⟩ := h3
  have r3 := ((r.ext e1).ext e2).ext e3
  have p3 := ((r.ext e1).ext e2).dp e3 ((r.ext e1).dp e2 p1)
  have e123 := (e1.trans e2).trans e3
  obtain ⟨p, xs, rfl, s1, p4⟩ := dp_tup p3
  refine ⟨p, xs, rfl, by rw [x.K]; exact grow_t hid_le s1, fun hw => ?_, fun _ p' hp' => ?_⟩
  · refine k _ _ _ q e123 ?_
    have ec : cutD ds l u = ds := by
      unfold cutD
      rw [dpAll_len p4] at hw
      rw [hw.1, hw.2, List.drop_zero, Nat.sub_zero, List.take_length]
    rw [ec]
    exact p3
  · exact k _ _ _ q (e123.trans (.new hp')) (.tup (.inl (.inl (hid_mk (r3.fresh hp') upd_same))) (r3.dpAll (.new hp') (sIx_cut p4 l u)))
/-! ### +, * of lists and tuples -/
theorem ef_cat {QF : List PyData → Prop} (h : E g a δ fun d1 => E g b δ fun d2 => ∃ xs ys, d1 = .list xs ∧ d2 = .list ys ∧ xs.length + ys.length ≤ 100000 ∧ QF (xs ++ ys)) : EF g (.BinOp a .Add b pos) δ QF := fun X x Γ σ H R r k => by
  refine toW (pe_op op_catS (pW X a) (pW X b)) ?_
  refine h X x Γ σ H _ r fun d1 v1 H1 h1 e1 p1 => ?_
  refine h1 X x Γ σ H1 _ (r.ext e1) fun d2 v2 H2 h2 e2 p2 => ?_
  obtain ⟨xs, ys, rfl, rfl, hl, q⟩ := h2
  have r2 := (r.ext e1).ext e2
  obtain ⟨l1, vs1, rfl, s1, q1⟩ := dp_lst ((r.ext e1).dp e2 p1)
  obtain ⟨l2, vs2, rfl, s2, q2⟩ := dp_lst p2
  refine ⟨l1, l2, vs1, vs2, rfl, rfl, by rw [x.K]; exact grow_l hid_le s1, by rw [x.K]; exact grow_l hid_le s2, fewLine (by rw [dpAll_len q1, dpAll_len q2]; exact hl), fun p hp => ?_⟩
  exact k _ _ _ _ q ((e1.trans e2).trans (.new hp)) (r.back (e1.trans e2) hp) upd_same (r2.fresh1 hp (dpAll_app q1 q2))
theorem e_catT (h : E g a δ fun d1 => E g b δ fun d2 => ∃ xs ys, d1 = .tuple xs ∧ d2 = .tuple ys ∧ xs.length + ys.length ≤ 100000 ∧ Q (.tuple (xs ++ ys))) : E g (.BinOp a .Add b pos) δ Q := fun X x Γ σ H R r k => by
  refine toW (pe_op op_catA (pW X a) (pW X b)) ?_
  refine h X x Γ σ H _ r fun d1 v1 H1 h1 e1 p1 => ?_
  refine h1 X x Γ σ H1 _ (r.ext e1) fun d2 v2 H2 h2 e2 p2 => ?_
  obtain ⟨xs, ys, rfl, rfl, hl, q⟩ := h2
  have r2 := (r.ext e1).ext e2
  have p1' := (r.ext e1).dp e2 p1
  obtain ⟨l1, vs1, rfl, s1, q1⟩ := dp_tup p1'
  obtain ⟨l2, vs2, rfl, s2, q2⟩ := dp_tup p2
  have n1 := dpAll_len q1
  have n2 := dpAll_len q2
  refine ⟨l1, l2, vs1, vs2, rfl, rfl, by rw [x.K]; exact grow_t hid_le s1, by rw [x.K]; exact grow_t hid_le s2, fewLine (by rw [n1, n2]; exact hl), fun z => ?_, fun _ z => ?_, fun _ _ p hp => ?_⟩
  · have z2 : xs = [] := List.eq_nil_of_length_eq_zero (by rw [← n1, z] <;> rfl)
    subst z2
    exact k _ _ H2 q (e1.trans e2) p2
  · have z2 : ys = [] := List.eq_nil_of_length_eq_zero (by rw [← n2, z] <;> rfl)
    subst z2
    refine k _ _ H2 q (e1.trans e2) ?_
    rw [List.append_nil]
    exact p1'
  · exact k _ _ _ q ((e1.trans e2).trans (.new hp)) (.tup (.inl (.inl (hid_mk (r2.fresh hp) upd_same))) (r2.dpAll (.new hp) (dpAll_app q1 q2)))
theorem e_repT (h : E g a δ fun d1 => E g b δ fun d2 => ∃ xs k, d1 = .tuple xs ∧ d2 = .int k ∧ xs ≠ [] ∧ 0 ≤ k ∧ k ≤ 1000 ∧ xs.length ≤ 1000 ∧ Q (.tuple (List.replicate k.toNat xs).flatten)) : E g (.BinOp a .Mult b pos) δ Q := fun X x Γ σ H R r k => by
  refine toW (pe_op op_repA (pW X a) (pW X b)) ?_
  refine h X x Γ σ H _ r fun d1 v1 H1 h1 e1 p1 => ?_
  refine h1 X x Γ σ H1 _ (r.ext e1) fun d2 v2 H2 h2 e2 p2 => ?_
  obtain ⟨xs, n, rfl, rfl, hne, h0, h1000, hl, q⟩ := h2
  have r2 := (r.ext e1).ext e2
  have p1' := (r.ext e1).dp e2 p1
  obtain ⟨l1, vs1, rfl, s1, q1⟩ := dp_tup p1'
  have n1 := dpAll_len q1
  refine ⟨l1, n, vs1, rfl, dp_int p2, by rw [x.K]; exact grow_t hid_le s1, fun z => hne ?_, h0, h1000, by rw [n1]; exact hl, fun z => ?_, fun _ p hp => ?_⟩
  · rw [z] at n1
    exact List.eq_nil_of_length_eq_zero n1.symm
  · subst z
    refine k _ _ H2 q (e1.trans e2) ?_
    have er : (List.replicate (1 : Int).toNat xs).flatten = xs := by simp
    rw [er]
    exact p1'
  · exact k _ _ _ q ((e1.trans e2).trans (.new hp)) (.tup (.inl (.inl (hid_mk (r2.fresh hp) upd_same))) (r2.dpAll (.new hp) (dpAll_rep q1 _)))
theorem ef_rep {QF : List PyData → Prop} (h : EF g a δ fun xs => E g b δ fun d2 => ∃ k, d2 = .int k ∧ 0 ≤ k ∧ k ≤ 1000 ∧ xs.length ≤ 100 ∧ QF (List.replicate k.toNat xs).flatten) : EF g (.BinOp a .Mult b pos) δ QF := fun X x Γ σ H R r k => by
  refine toW (pe_op op_rep (pW X a) (pW X b)) ?_
  refine h X x Γ σ H _ r fun ds p xs H1 h1 e1 hp0 hp1 p1 => ?_
  refine h1 X x Γ σ H1 _ (r.ext e1) fun d2 v2 H2 h2 e2 p2 => ?_
  obtain ⟨n, rfl, h0, h1000, hl, q⟩ := h2
  have r2 := (r.ext e1).ext e2
  have n1 := dpAll_len p1
  have np : ¬ Wl σ δ p := fun w => r.fresh hp0 (.inr w.o)
  have p1' : DpAll g.T.K (hid (Hd Γ σ δ) H2) xs ds := dpAll_mono (hid_grow fun a o z n => ⟨fun w => n (.inl w), e2.keep a o z fun w => n (.inl (.inr w.o))⟩) p1
  refine ⟨p, n, xs, rfl, dp_int p2, e2.keep p _ hp1 np, by omega, by omega, ?_, fun p' hp' => ?_⟩
  · refine fewLine ?_
    rw [n1]
    have a1 : ds.length * n.toNat ≤ 100 * 1000 := Nat.mul_le_mul hl (by omega)
    omega
  · exact k _ _ _ _ q ((e1.trans e2).trans (.new hp')) (r.back (e1.trans e2) hp') upd_same (r2.fresh1 hp' (dpAll_rep p1' _))
end
end Pd

/-! text Pc -/
set_option Elab.async false
set_option linter.all false
set_option maxRecDepth 100000
set_option maxHeartbeats 4000000
/-! Comparisons, truth, built-in calls, calls of defs. -/
namespace Pd
open PySem PySem.Spec PyProof.Rows L2

section
variable {g : G} {e a b c : Expr} {es : List Expr} {δ : List SD} {Q : PyData → Prop} {pos p : Pos}

/-! ### comparisons -/
/-- a comparison by values: r2 tells a Bool of data -/
def CmpD (g : G) (op : CmpOp) (C : PyData → PyData → Prop) (f : PyData → PyData → Bool) : Prop := ∀ X, XOk g X → ∃ r2, OpR X (compareOp op) r2 ∧
  ∀ (W : Addr → Prop) (d1 d2 : PyData) (v1 v2 : V) (H : Hp) (R : VK), C d1 d2 → Dp g.T.K (hid W H) v1 d1 → Dp g.T.K (hid W H) v2 d2 → R (.bl (f d1 d2)) H → r2 v1 v2 H R
theorem e_cmp {op : CmpOp} {C : PyData → PyData → Prop} {f : PyData → PyData → Bool} (hc : CmpD g op C f) (h : E g a δ fun d1 => E g b δ fun d2 => C d1 d2 ∧ Q (.bool (f d1 d2))) (hm : behindInMarks op b = false) : E g (.Compare a [op] [b] pos) δ Q := fun X x Γ σ H R r k => by
  obtain ⟨r2, ho, hr⟩ := hc X x
  refine toW (pe_cmpR ho (pW X a) (pW X b) hm) ?_
  refine h X x Γ σ H _ r fun d1 v1 H1 h1 e1 p1 => ?_
  refine h1 X x Γ σ H1 _ (r.ext e1) fun d2 v2 H2 h2 e2 p2 => ?_
  exact hr (Hd Γ σ δ) d1 d2 v1 v2 H2 R h2.1 ((r.ext e1).dp e2 p1) p2 (k _ _ H2 h2.2 (e1.trans e2) (.bl _))
theorem b_cmp {op : CmpOp} {C : PyData → PyData → Prop} {f : PyData → PyData → Bool} {QB : Bool → Prop} (hc : CmpD g op C f) (h : E g a δ fun d1 => E g b δ fun d2 => C d1 d2 ∧ QB (f d1 d2)) (hm : behindInMarks op b = false) : B g (.Compare a [op] [b] pos) δ QB := fun X x Γ σ H R r k => by
  obtain ⟨r2, ho, hr⟩ := hc X x
  refine toWT (pt_cmpR ho (pW X a) (pW X b) hm) ?_
  refine h X x Γ σ H _ r fun d1 v1 H1 h1 e1 p1 => ?_
  refine h1 X x Γ σ H1 _ (r.ext e1) fun d2 v2 H2 h2 e2 p2 => ?_
  exact hr (Hd Γ σ δ) d1 d2 v1 v2 H2 _ h2.1 ((r.ext e1).dp e2 p1) p2 ⟨_, rfl, k _ H2 h2.2 (e1.trans e2)⟩
/-- two comparisons in a row -/
theorem b_chain {op op' : CmpOp} {C C' : PyData → PyData → Prop} {f f' : PyData → PyData → Bool} {QB : Bool → Prop} (hc : CmpD g op C f) (hc' : CmpD g op' C' f')
    (h : E g a δ fun d1 => E g b δ fun d2 => C d1 d2 ∧ (f d1 d2 = true → E g c δ fun d3 => C' d2 d3 ∧ QB (f' d2 d3)) ∧ (f d1 d2 = false → QB false)) (hm : lastMarks [op, op'] [b, c] = false := by rfl) : B g (.Compare a [op, op'] [b, c] pos) δ QB := fun X x Γ σ H R r k => by
  obtain ⟨r2, ho, hr⟩ := hc X x
  obtain ⟨r3, ho', hr'⟩ := hc' X x
  refine toWT (pt_chain ho ho' (pW X a) (pW X b) (pW X c) hm) ?_
  refine h X x Γ σ H _ r fun d1 v1 H1 h1 e1 p1 => ?_
  refine h1 X x Γ σ H1 _ (r.ext e1) fun d2 v2 H2 h2 e2 p2 => ?_
  obtain ⟨hC, ht, hf⟩ := h2
  refine hr (Hd Γ σ δ) d1 d2 v1 v2 H2 _ hC ((r.ext e1).dp e2 p1) p2 ⟨_, rfl, ?_⟩
  cases z : f d1 d2 with
  | true =>
    refine ht z X x Γ σ H2 _ ((r.ext e1).ext e2) fun d3 v3 H3 h3 e3 p3 => ?_
    exact hr' (Hd Γ σ δ) d2 d3 v2 v3 H3 _ h3.1 (((r.ext e1).ext e2).dp e3 p2) p3 ⟨_, rfl, k _ H3 h3.2 ((e1.trans e2).trans e3)⟩
  | false => exact ⟨false, rfl, k _ H2 (hf z) (e1.trans e2)⟩
theorem e_chain {op op' : CmpOp} {C C' : PyData → PyData → Prop} {f f' : PyData → PyData → Bool} (hc : CmpD g op C f) (hc' : CmpD g op' C' f') 
    (h : E g a δ fun d1 => E g b δ fun d2 => C d1 d2 ∧ (f d1 d2 = true → E g c δ fun d3 => C' d2 d3 ∧ Q (.bool (f' d2 d3))) ∧ (f d1 d2 = false → Q (.bool false))) (hm : lastMarks [op, op'] [b, c] = false := by rfl) : E g (.Compare a [op, op'] [b, c] pos) δ Q := fun X x Γ σ H R r k => by
  obtain ⟨r2, ho, hr⟩ := hc X x
  obtain ⟨r3, ho', hr'⟩ := hc' X x
  refine toW (pe_chain ho ho' (pW X a) (pW X b) (pW X c) hm) ?_
  refine h X x Γ σ H _ r fun d1 v1 H1 h1 e1 p1 => ?_
  refine h1 X x Γ σ H1 _ (r.ext e1) fun d2 v2 H2 h2 e2 p2 => ?_
  obtain ⟨hC, ht, hf⟩ := h2
  refine hr (Hd Γ σ δ) d1 d2 v1 v2 H2 _ hC ((r.ext e1).dp e2 p1) p2 ⟨_, rfl, ?_⟩
  cases z : f d1 d2 with
  | true =>
    refine ht z X x Γ σ H2 _ ((r.ext e1).ext e2) fun d3 v3 H3 h3 e3 p3 => ?_
    exact hr' (Hd Γ σ δ) d2 d3 v2 v3 H3 _ h3.1 (((r.ext e1).ext e2).dp e3 p2) p3 (k _ _ H3 h3.2 ((e1.trans e2).trans e3) (.bl _))
  | false => exact k _ _ H2 (hf z) (e1.trans e2) (.bl _)
def iOf : PyData → Int
  | .int i => i
  | _ => 0
def IsI (d : PyData) : Prop := ∃ i, d = .int i
theorem cmp_I0 {op : CmpOp} {f : Int → Int → Bool} (ho : ∀ X, XOk g X → OpR X (compareOp op) (rI0 fun i j => .bl (f i j))) : CmpD g op (fun d1 d2 => IsI d1 ∧ IsI d2) (fun d1 d2 => f (iOf d1) (iOf d2)) := fun X x => ⟨_, ho X x, fun W d1 d2 v1 v2 H R hC p1 p2 q => by
  obtain ⟨⟨i, rfl⟩, j, rfl⟩ := hC
  exact ⟨i, j, dp_int p1, dp_int p2, q⟩⟩
theorem c_lt : CmpD g .Lt (fun d1 d2 => IsI d1 ∧ IsI d2) (fun d1 d2 => decide (iOf d1 < iOf d2)) := cmp_I0 fun _ _ => op_lt
theorem c_le : CmpD g .LtE (fun d1 d2 => IsI d1 ∧ IsI d2) (fun d1 d2 => decide (iOf d1 ≤ iOf d2)) := cmp_I0 fun _ _ => op_le
theorem c_gt : CmpD g .Gt (fun d1 d2 => IsI d1 ∧ IsI d2) (fun d1 d2 => decide (iOf d2 < iOf d1)) := cmp_I0 (f := fun i j => decide (j < i)) fun _ _ => op_gt
theorem c_ge : CmpD g .GtE (fun d1 d2 => IsI d1 ∧ IsI d2) (fun d1 d2 => decide (iOf d2 ≤ iOf d1)) := cmp_I0 (f := fun i j => decide (j ≤ i)) fun _ _ => op_ge
/-- ==, != of data -/
theorem c_eq : CmpD g .Eq (fun d1 d2 => SeqAt.shaped d1 = true ∧ SeqAt.shaped d2 = true) (fun d1 d2 => PyData.eqv d1 d2) := fun X x => ⟨_, op_eqD x.room.units, fun W d1 d2 v1 v2 H R hC p1 p2 q => by
  refine ⟨d1, d2, ?_, ?_, hC.1, hC.2, q⟩
  · rw [x.K]
    exact dp_mono hid_le p1
  · rw [x.K]
    exact dp_mono hid_le p2⟩
theorem c_ne : CmpD g .NotEq (fun d1 d2 => SeqAt.shaped d1 = true ∧ SeqAt.shaped d2 = true) (fun d1 d2 => !PyData.eqv d1 d2) := fun X x => ⟨_, op_neD x.room.units, fun W d1 d2 v1 v2 H R hC p1 p2 q => by
  refine ⟨d1, d2, ?_, ?_, hC.1, hC.2, q⟩
  · rw [x.K]
    exact dp_mono hid_le p1
  · rw [x.K]
    exact dp_mono hid_le p2⟩
def isN : PyData → Bool
  | .none => true
  | _ => false
theorem c_isN : CmpD g .Is (fun _ d2 => d2 = .none) (fun d1 _ => isN d1) := fun X x => ⟨_, op_isN, fun W d1 d2 v1 v2 H R hC p1 p2 q => by
  subst hC
  refine ⟨dp_none p2, ?_⟩
  have e : decide (v1 = V.non) = isN d1 := by
    cases p1 <;> rfl
  rw [e]
  exact q⟩
def bOf : PyData → Bool
  | .bool b => b
  | _ => false
theorem c_isB : CmpD g .Is (fun d1 d2 => (∃ a, d1 = .bool a) ∧ ∃ b, d2 = .bool b) (fun d1 d2 => decide (bOf d1 = bOf d2)) := fun X x => ⟨_, op_isBl, fun W d1 d2 v1 v2 H R hC p1 p2 q => by
  obtain ⟨⟨a, rfl⟩, b, rfl⟩ := hC
  exact ⟨a, b, dp_bool p1, dp_bool p2, q⟩⟩
/-- an int in a tuple, a list of ints -/
def inD (d1 d2 : PyData) : Bool := match d2 with
  | .tuple ds => ds.any fun d => iOf d == iOf d1
  | .list ds => ds.any fun d => iOf d == iOf d1
  | _ => false
def InC (d1 d2 : PyData) : Prop := ∃ (i : Int) (ns : List Int), d1 = .int i ∧ (d2 = .tuple (ns.map .int) ∨ d2 = .list (ns.map .int))
theorem in_ints (i : Int) : ∀ ns : List Int, inV (.int i) (ns.map V.int) = (ns.map PyData.int).any fun d => iOf d == i := by
  intro ns
  unfold inV
  rw [List.any_map, List.any_map] <;> rfl
theorem flat_ints : ∀ ns : List Int, (ns.map V.int).all flatV = true := fun ns => List.all_eq_true.mpr fun v hv => by
  obtain ⟨n, _, rfl⟩ := List.mem_map.mp hv
  rfl
theorem c_in : CmpD g .In InC inD := fun X x => ⟨_, op_in_seq, fun W d1 d2 v1 v2 H R hC p1 p2 q => by
  obtain ⟨i, ns, rfl, hd⟩ := hC
  obtain rfl := dp_int p1
  rcases hd with rfl | rfl
  · obtain ⟨p, xs, rfl, s1, q1⟩ := dp_tup p2
    obtain rfl := dpAll_int q1
    refine ⟨p, _, rfl, .inr (by rw [x.K]; exact grow_t hid_le s1), rfl, flat_ints _, ?_⟩
    rw [if_neg Bool.false_ne_true, in_ints]
    exact q
  · obtain ⟨p, xs, rfl, s1, q1⟩ := dp_lst p2
    obtain rfl := dpAll_int q1
    refine ⟨p, _, rfl, .inl (by rw [x.K]; exact grow_l hid_le s1), rfl, flat_ints _, ?_⟩
    rw [if_neg Bool.false_ne_true, in_ints]
    exact q⟩
theorem c_notIn : CmpD g .NotIn InC (fun a b => !inD a b) := fun X x => ⟨_, op_notIn_seq, fun W d1 d2 v1 v2 H R hC p1 p2 q => by
  obtain ⟨i, ns, rfl, hd⟩ := hC
  obtain rfl := dp_int p1
  rcases hd with rfl | rfl
  · obtain ⟨p, xs, rfl, s1, q1⟩ := dp_tup p2
    obtain rfl := dpAll_int q1
    refine ⟨p, _, rfl, .inr (by rw [x.K]; exact grow_t hid_le s1), rfl, flat_ints _, ?_⟩
    rw [if_pos rfl, in_ints]
    exact q
  · obtain ⟨p, xs, rfl, s1, q1⟩ := dp_lst p2
    obtain rfl := dpAll_int q1
    refine ⟨p, _, rfl, .inl (by rw [x.K]; exact grow_l hid_le s1), rfl, flat_ints _, ?_⟩
    rw [if_pos rfl, in_ints]
    exact q⟩
/-! ### truth -/
theorem b_val {QB : Bool → Prop} (h : E g e δ fun d => ∃ b, d = .bool b ∧ QB b) (he : ∀ env whole, isTrue e env whole = (do let v ← whole; standAt e.pos; holding [v] (truthy v)) := by intro _ _; rfl) : B g e δ QB := fun X x Γ σ H R r k => by
  refine toWT (pt_val (pW X e) (he _)) ?_
  refine h X x Γ σ H _ r fun d v H1 h1 e1 p1 => ?_
  obtain ⟨b, rfl, q⟩ := h1
  exact ⟨b, dp_bool p1, k b H1 q e1⟩
theorem b_not {QB : Bool → Prop} (h : B g e δ fun b => QB (!b)) : B g (.UnaryOp .Not e pos) δ QB := fun X x Γ σ H R r k => by
  refine toWT (pt_not (pWT X e)) ?_
  exact h X x Γ σ H _ r fun b H1 h1 e1 => k _ H1 h1 e1
theorem b_and {QB : Bool → Prop} (h : B g a δ fun x => (x = true → B g b δ QB) ∧ (x = false → QB false)) : B g (.BoolOp .And [a, b] pos) δ QB := fun X x Γ σ H R r k => by
  refine toWT (PW.pt (pw_and (pWT X a) (pw_and1 (pWT X b)))) ?_
  refine h X x Γ σ H _ r fun v H1 h1 e1 => ?_
  cases v with
  | true => exact h1.1 rfl X x Γ σ H1 _ (r.ext e1) fun b H2 h2 e2 => k b H2 h2 (e1.trans e2)
  | false => exact k false H1 (h1.2 rfl) e1
theorem b_or {QB : Bool → Prop} (h : B g a δ fun x => (x = false → B g b δ QB) ∧ (x = true → QB true)) : B g (.BoolOp .Or [a, b] pos) δ QB := fun X x Γ σ H R r k => by
  refine toWT (PW.pt (pw_or (pWT X a) (pw_or1 (pWT X b)))) ?_
  refine h X x Γ σ H _ r fun v H1 h1 e1 => ?_
  cases v with
  | false => exact h1.1 rfl X x Γ σ H1 _ (r.ext e1) fun b H2 h2 e2 => k b H2 h2 (e1.trans e2)
  | true => exact k true H1 (h1.2 rfl) e1
theorem b_or3 {QB : Bool → Prop} (h : B g a δ fun x => (x = false → B g b δ fun y => (y = false → B g c δ QB) ∧ (y = true → QB true)) ∧ (x = true → QB true)) : B g (.BoolOp .Or [a, b, c] pos) δ QB := fun X x Γ σ H R r k => by
  refine toWT (PW.pt (pw_or (pWT X a) (pw_or (pWT X b) (pw_or1 (pWT X c))))) ?_
  refine h X x Γ σ H _ r fun v H1 h1 e1 => ?_
  cases v with
  | true => exact k true H1 (h1.2 rfl) e1
  | false =>
    refine h1.1 rfl X x Γ σ H1 _ (r.ext e1) fun v2 H2 h2 e2 => ?_
    cases v2 with
    | true => exact k true H2 (h2.2 rfl) (e1.trans e2)
    | false => exact h2.1 rfl X x Γ σ H2 _ ((r.ext e1).ext e2) fun b H3 h3 e3 => k b H3 h3 ((e1.trans e2).trans e3)
theorem e_and (h : E g a δ fun d => ∃ x, d = .bool x ∧ (x = true → E g b δ Q) ∧ (x = false → Q (.bool false))) : E g (.BoolOp .And [a, b] pos) δ Q := fun X x Γ σ H R r k => by
  refine toW (pe_and (pW X a) (pe_one (pW X b))) ?_
  refine h X x Γ σ H _ r fun d v H1 h1 e1 p1 => ?_
  obtain ⟨y, rfl, ht, hf⟩ := h1
  refine ⟨y, dp_bool p1, ?_⟩
  cases y with
  | true => exact ht rfl X x Γ σ H1 _ (r.ext e1) fun d2 v2 H2 h2 e2 p2 => k d2 v2 H2 h2 (e1.trans e2) p2
  | false => exact k _ _ H1 (hf rfl) e1 (.bl false)
theorem e_or (h : E g a δ fun d => ∃ x, d = .bool x ∧ (x = false → E g b δ Q) ∧ (x = true → Q (.bool true))) : E g (.BoolOp .Or [a, b] pos) δ Q := fun X x Γ σ H R r k => by
  refine toW (pe_or (pW X a) (pe_one (pW X b))) ?_
  refine h X x Γ σ H _ r fun d v H1 h1 e1 p1 => ?_
  obtain ⟨y, rfl, ht, hf⟩ := h1
  refine ⟨y, dp_bool p1, ?_⟩
  cases y with
  | false => exact ht rfl X x Γ σ H1 _ (r.ext e1) fun d2 v2 H2 h2 e2 p2 => k d2 v2 H2 h2 (e1.trans e2) p2
  | true => exact k _ _ H1 (hf rfl) e1 (.bl true)
theorem e_not (h : E g a δ fun d => ∃ x, d = .bool x ∧ Q (.bool (!x))) : E g (.UnaryOp .Not a pos) δ Q := fun X x Γ σ H R r k => by
  refine toW (pe_not (pW X a)) ?_
  refine h X x Γ σ H _ r fun d v H1 h1 e1 p1 => ?_
  obtain ⟨y, rfl, q⟩ := h1
  exact ⟨y, dp_bool p1, k _ _ H1 q e1 (.bl _)⟩
theorem e_neg (h : E g a δ fun d => ∃ i, d = .int i ∧ Q (.int (-i))) : E g (.UnaryOp .USub a pos) δ Q := fun X x Γ σ H R r k => by
  refine toW (pe_un un_neg (pW X a)) ?_
  refine h X x Γ σ H _ r fun d v H1 h1 e1 p1 => ?_
  obtain ⟨y, rfl, q⟩ := h1
  exact ⟨y, dp_int p1, k _ _ H1 q e1 (.int _)⟩
theorem e_ifexp (h : B g c δ fun x => (x = true → E g a δ Q) ∧ (x = false → E g b δ Q)) : E g (.IfExp c a b pos) δ Q := fun X x Γ σ H R r k => by
  refine toW (pe_ifExp (pWT X c) (pW X a) (pW X b)) ?_
  refine h X x Γ σ H _ r fun v H1 h1 e1 => ?_
  cases v with
  | true => exact h1.1 rfl X x Γ σ H1 _ (r.ext e1) fun d2 v2 H2 h2 e2 p2 => k d2 v2 H2 h2 (e1.trans e2) p2
  | false => exact h1.2 rfl X x Γ σ H1 _ (r.ext e1) fun d2 v2 H2 h2 e2 p2 => k d2 v2 H2 h2 (e1.trans e2) p2
end
end Pd

/-! text Pe -/
set_option Elab.async false
set_option linter.all false
set_option maxRecDepth 100000
set_option maxHeartbeats 4000000
/-! Built-in calls, calls of defs. -/
namespace Pd
open PySem PySem.Spec PyProof.Rows L2

section
variable {g : G} {e a b c : Expr} {es : List Expr} {δ : List SD} {Q : PyData → Prop} {pos p : Pos}
/-- a built-in function by values -/
theorem e_bi {x : Str} {id : String} {r : List V → Hp → VK → Prop} (hc : ∀ X, XOk g X → CallR X (.builtin id) r) (hm : g.T.mg x = none) (hv : bootBuiltins x = some (.builtin id)) (hn : x ≠ "__name__") (hdb : (x == ("__debug__" : Str)) = false) (hg : Glob g x)
    (h : EA g (e :: es) δ fun ds => ∀ (W : Addr → Prop) vs H (R : VK), (∀ a, W a → ∃ o, H a = some o) → DpAll g.T.K (hid W H) vs ds → (∀ d v H', Q d → Grow H H' → Dp g.T.K (hid W H') v d → R v H') → r vs H R)
    (he : ∀ env, starEach (e :: es) env = (false, eval e env) :: starEach es env) (hpl : ∀ env, (backTo pos (starEach es env)).any (·.1) = false) : E g (.Call (.Name x p) (e :: es) [] pos) δ Q := fun X xo Γ σ H R rl k => by
  refine toW (pe_callB (hc X xo) (xo.gl hg) (by rw [xo.mg]; exact hm) hv (pWA X (e :: es)) hn hdb (he _) (hpl _)) ?_
  refine h X xo Γ σ H _ rl fun ds vs H1 h1 e1 p1 => ?_
  exact h1 (Hd Γ σ δ) vs H1 R (fun a w => (rl.ext e1).dom w) p1 fun d v H' q gr p => k d v H' q (e1.trans (.grow gr)) p
theorem e_ty {x : Str} {id : String} {r : List V → Hp → VK → Prop} (hc : ∀ X, XOk g X → CallR X (.type id) r) (hm : g.T.mg x = none) (hv : bootBuiltins x = some (.type id)) (hn : x ≠ "__name__") (hdb : (x == ("__debug__" : Str)) = false) (hg : Glob g x)
    (h : EA g (e :: es) δ fun ds => ∀ (W : Addr → Prop) vs H (R : VK), (∀ a, W a → ∃ o, H a = some o) → DpAll g.T.K (hid W H) vs ds → (∀ d v H', Q d → Grow H H' → Dp g.T.K (hid W H') v d → R v H') → r vs H R)
    (he : ∀ env, starEach (e :: es) env = (false, eval e env) :: starEach es env) (hpl : ∀ env, (backTo pos (starEach es env)).any (·.1) = false) : E g (.Call (.Name x p) (e :: es) [] pos) δ Q := fun X xo Γ σ H R rl k => by
  refine toW (pe_callTy (hc X xo) (xo.gl hg) (by rw [xo.mg]; exact hm) hv (pWA X (e :: es)) hn hdb (he _) (hpl _)) ?_
  refine h X xo Γ σ H _ rl fun ds vs H1 h1 e1 p1 => ?_
  exact h1 (Hd Γ σ δ) vs H1 R (fun a w => (rl.ext e1).dom w) p1 fun d v H' q gr p => k d v H' q (e1.trans (.grow gr)) p
theorem ea_imp {Q Q' : List PyData → Prop} (h : EA g es δ Q) (q : ∀ d, Q d → Q' d) : EA g es δ Q' := fun X x Γ σ H R r k => h X x Γ σ H R r fun d v H' hd => k d v H' (q d hd)
theorem e_len (hm : g.T.mg "len" = none) (h : E g e δ fun d => ∃ ds, (d = .tuple ds ∨ d = .list ds) ∧ Q (.int (ds.length : Int))) (hg : Glob g "len" := by rfl) (he : ∀ env, starEach [e] env = (false, eval e env) :: starEach [] env := by intro _; rfl) : E g (.Call (.Name "len" p) [e] [] pos) δ Q :=
  e_bi (r := fun vs H R => ∃ p ys, vs = [.ref p] ∧ (SqL g.T.K H p ys ∨ SqT g.T.K H p ys) ∧ R (.int ys.length) H) (fun X x => by rw [← x.K]; exact call_len_seq) hm boot_len (by decide) (by decide) hg (ea_cons (h.imp fun d hd => ea_nil (by
    obtain ⟨ds, hds, q⟩ := hd
    intro W vs H R _ pa k
    obtain ⟨v, ws, rfl, p1, pn⟩ := dpAll_cons pa
    obtain rfl := dpAll_nil pn
    rcases hds with rfl | rfl
    · obtain ⟨a, xs, rfl, s1, p2⟩ := dp_tup p1
      exact ⟨a, xs, rfl, .inr (grow_t hid_le s1), by rw [dpAll_len p2]; exact k _ _ H q (Grow.refl H) (.int _)⟩
    · obtain ⟨a, xs, rfl, s1, p2⟩ := dp_lst p1
      exact ⟨a, xs, rfl, .inl (grow_l hid_le s1), by rw [dpAll_len p2]; exact k _ _ H q (Grow.refl H) (.int _)⟩)) he) he (fun _ => rfl)
theorem e_all (hm : g.T.mg "all" = none) (h : E g e δ fun d => ∃ bs : List Bool, d = .list (bs.map .bool) ∧ Q (.bool (bs.all id))) (hg : Glob g "all" := by rfl) (he : ∀ env, starEach [e] env = (false, eval e env) :: starEach [] env := by intro _; rfl) : E g (.Call (.Name "all" p) [e] [] pos) δ Q :=
  e_bi (r := rAll g.T.K) (fun X x => by rw [← x.K]; exact cr_all x.calm) hm (by decide +kernel) (by decide) (by decide) hg (ea_cons (h.imp fun d hd => ea_nil (by
    obtain ⟨bs, rfl, q⟩ := hd
    intro W vs H R _ pa k
    obtain ⟨v, ws, rfl, p1, pn⟩ := dpAll_cons pa
    obtain rfl := dpAll_nil pn
    obtain ⟨a, xs, rfl, s1, p2⟩ := dp_lst p1
    obtain rfl := dpAll_bool p2
    exact ⟨a, bs, rfl, grow_l hid_le s1, k _ _ H q (Grow.refl H) (.bl _)⟩)) he) he (fun _ => rfl)
theorem e_any (hm : g.T.mg "any" = none) (h : E g e δ fun d => ∃ bs : List Bool, d = .list (bs.map .bool) ∧ Q (.bool (bs.any id))) (hg : Glob g "any" := by rfl) (he : ∀ env, starEach [e] env = (false, eval e env) :: starEach [] env := by intro _; rfl) : E g (.Call (.Name "any" p) [e] [] pos) δ Q :=
  e_bi (r := rAny g.T.K) (fun X x => by rw [← x.K]; exact cr_any x.calm) hm (by decide +kernel) (by decide) (by decide) hg (ea_cons (h.imp fun d hd => ea_nil (by
    obtain ⟨bs, rfl, q⟩ := hd
    intro W vs H R _ pa k
    obtain ⟨v, ws, rfl, p1, pn⟩ := dpAll_cons pa
    obtain rfl := dpAll_nil pn
    obtain ⟨a, xs, rfl, s1, p2⟩ := dp_lst p1
    obtain rfl := dpAll_bool p2
    exact ⟨a, bs, rfl, grow_l hid_le s1, k _ _ H q (Grow.refl H) (.bl _)⟩)) he) he (fun _ => rfl)
theorem e_abs (hm : g.T.mg "abs" = none) (h : E g e δ fun d => ∃ i, d = .int i ∧ Q (.int (if i < 0 then -i else i))) (hg : Glob g "abs" := by rfl) (he : ∀ env, starEach [e] env = (false, eval e env) :: starEach [] env := by intro _; rfl) : E g (.Call (.Name "abs" p) [e] [] pos) δ Q :=
  e_bi (r := fun xs H Q => ∃ i, xs = [.int i] ∧ Q (.int (if i < 0 then -i else i)) H) (fun X x => call_abs) hm (by decide +kernel) (by decide) (by decide) hg (ea_cons (h.imp fun d hd => ea_nil (by
    obtain ⟨i, rfl, q⟩ := hd
    intro W vs H R _ pa k
    obtain ⟨v, ws, rfl, p1, pn⟩ := dpAll_cons pa
    obtain rfl := dpAll_nil pn
    exact ⟨i, by rw [dp_int p1], k _ _ H q (Grow.refl H) (.int _)⟩)) he) he (fun _ => rfl)
theorem e_repr (hm : g.T.mg "repr" = none) (h : E g e δ fun d => ∃ i : Int, d = .int i ∧ i.natAbs.log2 < 1920 ∧ Q (.str (toString i))) (hg : Glob g "repr" := by rfl) (he : ∀ env, starEach [e] env = (false, eval e env) :: starEach [] env := by intro _; rfl) : E g (.Call (.Name "repr" p) [e] [] pos) δ Q :=
  e_bi (r := fun xs H Q => ∃ i, xs = [.int i] ∧ i.natAbs.log2 < 1920 ∧ Q (.str (toString i)) H) (fun X x => SkE.call_repr_int) hm (by decide +kernel) (by decide) (by decide) hg (ea_cons (h.imp fun d hd => ea_nil (by
    obtain ⟨i, rfl, hl, q⟩ := hd
    intro W vs H R _ pa k
    obtain ⟨v, ws, rfl, p1, pn⟩ := dpAll_cons pa
    obtain rfl := dpAll_nil pn
    exact ⟨i, by rw [dp_int p1], hl, k _ _ H q (Grow.refl H) (.str _)⟩)) he) he (fun _ => rfl)
theorem e_intc (hm : g.T.mg "int" = none) (h : E g e δ fun d => ∃ i, d = .int i ∧ Q (.int i)) (hg : Glob g "int" := by rfl) (he : ∀ env, starEach [e] env = (false, eval e env) :: starEach [] env := by intro _; rfl) : E g (.Call (.Name "int" p) [e] [] pos) δ Q :=
  e_ty (r := fun xs H Q => (∃ i, xs = [.int i] ∧ Q (.int i) H) ∨ ∃ k, xs = [.bl k] ∧ Q (.int (if k then 1 else 0)) H) (fun X x => call_int1) hm (by decide +kernel) (by decide) (by decide) hg (ea_cons (h.imp fun d hd => ea_nil (by
    obtain ⟨i, rfl, q⟩ := hd
    intro W vs H R _ pa k
    obtain ⟨v, ws, rfl, p1, pn⟩ := dpAll_cons pa
    obtain rfl := dpAll_nil pn
    exact .inl ⟨i, by rw [dp_int p1], k _ _ H q (Grow.refl H) (.int _)⟩)) he) he (fun _ => rfl)
theorem e_max2 (hm : g.T.mg "max" = none) (h : E g a δ fun d1 => E g b δ fun d2 => ∃ i j, d1 = .int i ∧ d2 = .int j ∧ Q (.int (if j > i then j else i))) (hg : Glob g "max" := by rfl) (he : ∀ env, starEach [a, b] env = (false, eval a env) :: starEach [b] env := by intro _; rfl) (he2 : ∀ env, starEach [b] env = (false, eval b env) :: starEach [] env := by intro _; rfl) : E g (.Call (.Name "max" p) [a, b] [] pos) δ Q :=
  e_bi (r := fun xs H Q => ∃ i j, xs = [.int i, .int j] ∧ Q (.int (if j > i then j else i)) H) (fun X x => call_max2 x.calm) hm (by decide +kernel) (by decide) (by decide) hg (ea_cons (h.imp fun d hd => ea_cons (hd.imp fun d2 hd2 => ea_nil (by
    obtain ⟨i, j, rfl, rfl, q⟩ := hd2
    intro W vs H R _ pa k
    obtain ⟨v, ws, rfl, p1, pn⟩ := dpAll_cons pa
    obtain ⟨v2, ws2, rfl, p2, pn2⟩ := dpAll_cons pn
    obtain rfl := dpAll_nil pn2
    exact ⟨i, j, by rw [dp_int p1, dp_int p2], k _ _ H q (Grow.refl H) (.int _)⟩)) he2) he) he (fun env => by rw [he2] <;> rfl)
theorem e_min2 (hm : g.T.mg "min" = none) (h : E g a δ fun d1 => E g b δ fun d2 => ∃ i j, d1 = .int i ∧ d2 = .int j ∧ Q (.int (if j < i then j else i))) (hg : Glob g "min" := by rfl) (he : ∀ env, starEach [a, b] env = (false, eval a env) :: starEach [b] env := by intro _; rfl) (he2 : ∀ env, starEach [b] env = (false, eval b env) :: starEach [] env := by intro _; rfl) : E g (.Call (.Name "min" p) [a, b] [] pos) δ Q :=
  e_bi (r := fun xs H Q => ∃ i j, xs = [.int i, .int j] ∧ Q (.int (if j < i then j else i)) H) (fun X x => call_min2 x.calm) hm (by decide +kernel) (by decide) (by decide) hg (ea_cons (h.imp fun d hd => ea_cons (hd.imp fun d2 hd2 => ea_nil (by
    obtain ⟨i, j, rfl, rfl, q⟩ := hd2
    intro W vs H R _ pa k
    obtain ⟨v, ws, rfl, p1, pn⟩ := dpAll_cons pa
    obtain ⟨v2, ws2, rfl, p2, pn2⟩ := dpAll_cons pn
    obtain rfl := dpAll_nil pn2
    exact ⟨i, j, by rw [dp_int p1, dp_int p2], k _ _ H q (Grow.refl H) (.int _)⟩)) he2) he) he (fun env => by rw [he2] <;> rfl)
theorem e_divmod (hm : g.T.mg "divmod" = none) (h : E g a δ fun d1 => E g b δ fun d2 => ∃ i j, d1 = .int i ∧ d2 = .int j ∧ CDiv i j ∧ Q (.tuple [.int (i / j), .int (i % j)])) (hg : Glob g "divmod" := by rfl) (he : ∀ env, starEach [a, b] env = (false, eval a env) :: starEach [b] env := by intro _; rfl) (he2 : ∀ env, starEach [b] env = (false, eval b env) :: starEach [] env := by intro _; rfl) : E g (.Call (.Name "divmod" p) [a, b] [] pos) δ Q :=
  e_bi (r := fun xs H Q => ∃ i j, xs = [.int i, .int j] ∧ CDiv i j ∧ ∀ p, H p = none → Q (.ref p) (upd H p (.tup [.int (i / j), .int (i % j)]))) (fun X x => call_divmod) hm (by decide +kernel) (by decide) (by decide) hg (ea_cons (h.imp fun d hd => ea_cons (hd.imp fun d2 hd2 => ea_nil (by
    obtain ⟨i, j, rfl, rfl, hc, q⟩ := hd2
    intro W vs H R hW pa k
    obtain ⟨v, ws, rfl, p1, pn⟩ := dpAll_cons pa
    obtain ⟨v2, ws2, rfl, p2, pn2⟩ := dpAll_cons pn
    obtain rfl := dpAll_nil pn2
    refine ⟨i, j, by rw [dp_int p1, dp_int p2], hc, fun pp hp => k _ _ _ q (Grow.new hp) (.tup (.inl (.inl (hid_mk (fun w => ?_) upd_same))) (.cons (.int _) (.cons (.int _) .nil)))⟩
    obtain ⟨o, z⟩ := hW _ w
    rw [hp] at z
    cases z)) he2) he) he (fun env => by rw [he2] <;> rfl)
/-- isinstance, the answers that are met -/
theorem e_isi {x : Str} {b : Bool} {n m : String} {px : Pos} (hm : g.T.mg "isinstance" = none) (hmx : g.T.mg x = none) (hvx : bootBuiltins x = some (.type n)) (hT : kitB m n = some b) (hnx : x ≠ "__name__") (hdx : (x == ("__debug__" : Str)) = false) (hgx : Glob g x)
    (h : E g e δ fun d => (∀ W H v, Dp g.T.K (hid W H) v d → TyX g.T.K H v (.type m)) ∧ Q (.bool b))
    (hg : Glob g "isinstance") (he : ∀ env, starEach [e, .Name x px] env = (false, eval e env) :: starEach [.Name x px] env) : E g (.Call (.Name "isinstance" p) [e, .Name x px] [] pos) δ Q := fun X xo Γ σ H R rl k => by
  refine toW (pe_callB call_isi (xo.gl hg) (by rw [xo.mg]; exact hm) (by decide +kernel) (pa_cons (pW X e) (pa_cons (pe_bltn (v := .ty n) (xo.gl hgx) (by rw [xo.mg]; exact hmx) hvx rfl hnx hdx) pa_nil) (he _)) (by decide) (by decide) (he _) rfl) ?_
  refine h X xo Γ σ H _ rl fun d v H1 h1 e1 p1 => ?_
  refine ⟨v, .ty n, .type m, .type n, b, rfl, .ty n, ?_, kit_ty hT, k _ _ H1 h1.2 e1 (.bl b)⟩
  rw [xo.K]
  exact h1.1 _ H1 v p1
theorem ty_tup {K : PySem.W.Frag} {ds : List PyData} (W : Addr → Prop) (H : Hp) (v : V) (h : Dp K (hid W H) v (.tuple ds)) : TyX K H v (.type "tuple") := by
  obtain ⟨a, xs, rfl, s1, _⟩ := dp_tup h
  rcases grow_t hid_le s1 with (z | ⟨o, z⟩) | ⟨o, its, n, z, c, _⟩
  · exact .base (.tup z)
  · exact .fTuple z
  · exact .kTuple z c
theorem e_isi_tt {px : Pos} (hm : g.T.mg "isinstance" = none) (hmx : g.T.mg "tuple" = none) (h : E g e δ fun d => (∃ ds, d = .tuple ds) ∧ Q (.bool true)) (hgx : Glob g "tuple" := by rfl) (hg : Glob g "isinstance" := by rfl) (he : ∀ env, starEach [e, .Name "tuple" px] env = (false, eval e env) :: starEach [.Name "tuple" px] env := by intro _; rfl) : E g (.Call (.Name "isinstance" p) [e, .Name "tuple" px] [] pos) δ Q :=
  e_isi (n := "tuple") (m := "tuple") hm hmx (by decide +kernel) (by decide +kernel) (by decide) (by decide) hgx (h.imp fun d hd => ⟨fun W H v q => by
    obtain ⟨⟨ds, rfl⟩, _⟩ := hd
    exact ty_tup W H v q, hd.2⟩) hg he
theorem e_isi_ii {px : Pos} (hm : g.T.mg "isinstance" = none) (hmx : g.T.mg "int" = none) (h : E g e δ fun d => (∃ i, d = .int i) ∧ Q (.bool true)) (hgx : Glob g "int" := by rfl) (hg : Glob g "isinstance" := by rfl) (he : ∀ env, starEach [e, .Name "int" px] env = (false, eval e env) :: starEach [.Name "int" px] env := by intro _; rfl) : E g (.Call (.Name "isinstance" p) [e, .Name "int" px] [] pos) δ Q :=
  e_isi (n := "int") (m := "int") hm hmx (by decide +kernel) (by decide +kernel) (by decide) (by decide) hgx (h.imp fun d hd => ⟨fun W H v q => by
    obtain ⟨⟨i, rfl⟩, _⟩ := hd
    obtain rfl := dp_int q
    exact .base (.int i), hd.2⟩) hg he
theorem e_isi_ib {px : Pos} (hm : g.T.mg "isinstance" = none) (hmx : g.T.mg "bool" = none) (h : E g e δ fun d => (∃ i, d = .int i) ∧ Q (.bool false)) (hgx : Glob g "bool" := by rfl) (hg : Glob g "isinstance" := by rfl) (he : ∀ env, starEach [e, .Name "bool" px] env = (false, eval e env) :: starEach [.Name "bool" px] env := by intro _; rfl) : E g (.Call (.Name "isinstance" p) [e, .Name "bool" px] [] pos) δ Q :=
  e_isi (n := "bool") (m := "int") hm hmx (by decide +kernel) (by decide +kernel) (by decide) (by decide) hgx (h.imp fun d hd => ⟨fun W H v q => by
    obtain ⟨⟨i, rfl⟩, _⟩ := hd
    obtain rfl := dp_int q
    exact .base (.int i), hd.2⟩) hg he
/-! ### new lists and tuples out of others -/
theorem ef_list (hm : g.T.mg "list" = none) {QF : List PyData → Prop} (h : E g e δ fun d => ∃ ds, (d = .tuple ds ∨ d = .list ds) ∧ QF ds) (hg : Glob g "list" := by rfl) (he : ∀ env, starEach [e] env = (false, eval e env) :: starEach [] env := by intro _; rfl) : EF g (.Call (.Name "list" p) [e] [] pos) δ QF := fun X xo Γ σ H R r k => by
  refine toW (pe_callTy call_list_of (xo.gl hg) (by rw [xo.mg]; exact hm) (by decide +kernel) (pa_cons (pW X e) pa_nil (he _)) (by decide) (by decide) (he _) rfl) ?_
  refine h X xo Γ σ H _ r fun d v H1 h1 e1 p1 => ?_
  obtain ⟨ds, hd, q⟩ := h1
  have r1 := r.ext e1
  rcases hd with rfl | rfl
  · obtain ⟨a, xs, rfl, s1, p2⟩ := dp_tup p1
    refine ⟨a, xs, rfl, .inr (by rw [xo.K]; exact grow_t hid_le s1), fun l hl => ?_⟩
    exact k _ _ _ _ q (e1.trans (.new hl)) (r.back e1 hl) upd_same (r1.fresh1 hl p2)
  · obtain ⟨a, xs, rfl, s1, p2⟩ := dp_lst p1
    refine ⟨a, xs, rfl, .inl (by rw [xo.K]; exact grow_l hid_le s1), fun l hl => ?_⟩
    exact k _ _ _ _ q (e1.trans (.new hl)) (r.back e1 hl) upd_same (r1.fresh1 hl p2)
theorem e_tuple (hm : g.T.mg "tuple" = none) (h : E g e δ fun d => ∃ ds, (d = .tuple ds ∨ d = .list ds) ∧ Q (.tuple ds)) (hg : Glob g "tuple" := by rfl) (he : ∀ env, starEach [e] env = (false, eval e env) :: starEach [] env := by intro _; rfl) : E g (.Call (.Name "tuple" p) [e] [] pos) δ Q := fun X xo Γ σ H R r k => by
  refine toW (pe_callTy call_tuple_of (xo.gl hg) (by rw [xo.mg]; exact hm) (by decide +kernel) (pa_cons (pW X e) pa_nil (he _)) (by decide) (by decide) (he _) rfl) ?_
  refine h X xo Γ σ H _ r fun d v H1 h1 e1 p1 => ?_
  obtain ⟨ds, hd, q⟩ := h1
  have r1 := r.ext e1
  rcases hd with rfl | rfl
  · obtain ⟨a, xs, rfl, s1, p2⟩ := dp_tup p1
    exact ⟨a, xs, rfl, .inr ⟨by rw [xo.K]; exact grow_t hid_le s1, k _ _ H1 q e1 p1⟩⟩
  · obtain ⟨a, xs, rfl, s1, p2⟩ := dp_lst p1
    refine ⟨a, xs, rfl, .inl ⟨by rw [xo.K]; exact grow_l hid_le s1, fun l hl => ?_⟩⟩
    exact k _ _ _ q (e1.trans (.new hl)) (.tup (.inl (.inl (hid_mk (r1.fresh hl) upd_same))) (r1.dpAll (.new hl) p2))
def rgD (n : Nat) : List PyData := (List.range n).map fun i => .int (i : Nat)
theorem rg_dp {K : PySem.W.Frag} {H : Hp} {n : Int} (h : 0 ≤ n) : DpAll K H (rgV 0 n) (rgD n.toNat) := by
  unfold rgV rgD
  have e : (n - 0).toNat = n.toNat := by omega
  rw [e]
  induction (List.range n.toNat) with
  | nil => exact .nil
  | cons a l ih =>
    refine .cons ?_ ih
    have e2 : (0 : Int) + (a : Nat) = (a : Nat) := by omega
    show Dp K H (V.int (0 + (a : Nat))) (PyData.int (a : Nat))
    rw [e2]
    exact .int _
/-- list(range(n)) -/
theorem ef_listRg {p2 pos2 : Pos} (hm : g.T.mg "list" = none) (hmr : g.T.mg "range" = none) {QF : List PyData → Prop} (h : E g e δ fun d => ∃ n, d = .int n ∧ 0 ≤ n ∧ n ≤ 1000 ∧ QF (rgD n.toNat)) (hg : Glob g "list" := by rfl) (hgr : Glob g "range" := by rfl) (he : ∀ env, starEach [e] env = (false, eval e env) :: starEach [] env := by intro _; rfl) :
    EF g (.Call (.Name "list" p) [.Call (.Name "range" p2) [e] [] pos2] [] pos) δ QF := fun X xo Γ σ H R r k => by
  refine toW (pe_listRg xo.calm (xo.gl hg) (by rw [xo.mg]; exact hm) (prg_1 (xo.gl hgr) (by rw [xo.mg]; exact hmr) (pW X e) (he _))) ?_
  refine h X xo Γ σ H _ r fun d v H1 h1 e1 p1 => ?_
  obtain ⟨n, rfl, h0, h1000, q⟩ := h1
  have r1 := r.ext e1
  refine ⟨n, dp_int p1, RgOk.of_le (by omega) (by omega) (by omega) h0, fun l hl => ?_⟩
  exact k _ _ _ _ q (e1.trans (.new hl)) (r.back e1 hl) upd_same (r1.fresh1 hl (rg_dp h0))
/-- gcd, a name of the module's for the built-in -/
theorem e_gcd (hm : g.T.mg "gcd" = some (.builtin "math.gcd")) (h : E g a δ fun d1 => E g b δ fun d2 => ∃ i j, d1 = .int i ∧ d2 = .int j ∧ Q (.int ((Nat.gcd i.natAbs j.natAbs : Nat) : Int))) (hg : Glob g "gcd" := by rfl) (he : ∀ env, starEach [a, b] env = (false, eval a env) :: starEach [b] env := by intro _; rfl) (he2 : ∀ env, starEach [b] env = (false, eval b env) :: starEach [] env := by intro _; rfl) : E g (.Call (.Name "gcd" p) [a, b] [] pos) δ Q := fun X xo Γ σ H R r k => by
  refine toW (pe_callBfun cr_gcd (xo.gl hg) (by rw [xo.mg]; exact hm) (pa_cons (pW X a) (pa_cons (pW X b) pa_nil (he2 _)) (he _)) (by decide) (he _) (by rw [he2] <;> rfl)) ?_
  refine h X xo Γ σ H _ r fun d1 v1 H1 h1 e1 p1 => ?_
  refine h1 X xo Γ σ H1 _ (r.ext e1) fun d2 v2 H2 h2 e2 p2 => ?_
  obtain ⟨i, j, rfl, rfl, q⟩ := h2
  exact ⟨i, j, by rw [dp_int p1, dp_int p2], k _ _ H2 q (e1.trans e2) (.int _)⟩
/-- max of a tuple or list of ints -/
theorem cr_maxA {X : Cx} (hc : X.calm = true) (hu : X.A.units + 64 < cLine) : CallR X (.builtin "max") (fun vs H Q => ∃ (a : Addr) (n : Int) (ns : List Int), vs = [.ref a] ∧ (SqL X.K H a ((n :: ns).map V.int) ∨ SqT X.K H a ((n :: ns).map V.int)) ∧ Q (.int (ns.foldl max n)) H) := by
  intro pins s σ H vs us Q I r h
  obtain ⟨a, n, ns, rfl, hs, q⟩ := h
  obtain rfl := Vals.ref1 r
  rcases hs with hs | hs
  · refine cr_max hc pins s σ H _ _ Q I r ⟨a, n :: ns, rfl, hs, Nat.succ_pos _, fun m hm hle => ?_⟩
    have key : ∀ (ns : List Int) (n : Int), (ns.foldl max n = n ∨ ns.foldl max n ∈ ns) ∧ n ≤ ns.foldl max n ∧ ∀ y ∈ ns, y ≤ ns.foldl max n := by
      intro ns
      induction ns with
      | nil => exact fun n => ⟨.inl rfl, Int.le_refl _, fun y hy => by cases hy⟩
      | cons x r ih =>
        intro n
        obtain ⟨h1, h2, h3⟩ := ih (max n x)
        rw [List.foldl_cons]
        refine ⟨?_, by omega, fun y hy => ?_⟩
        · rcases h1 with h1 | h1
          · rw [h1]
            rcases Int.le_total n x with z | z
            · exact .inr (by rw [Int.max_eq_right z]; exact List.mem_cons_self)
            · exact .inl (Int.max_eq_left z)
          · exact .inr (List.mem_cons_of_mem _ h1)
        · rcases List.mem_cons.mp hy with rfl | hy
          · omega
          · exact h3 y hy
    obtain ⟨k1, k2, k3⟩ := key ns n
    have hmem : ns.foldl max n ∈ n :: ns := by
      rcases k1 with z | z
      · rw [z]
        exact List.mem_cons_self
      · exact List.mem_cons_of_mem _ z
    have e1 := hle _ hmem
    have e2 : m ≤ ns.foldl max n := by
      rcases List.mem_cons.mp hm with rfl | z
      · exact k2
      · exact k3 m z
    have e3 : m = ns.foldl max n := by omega
    rw [e3]
    exact q
  · obtain ⟨its, rv, ht, hz⟩ := I.tuple hs
    have hd : DpAll X.K H ((n :: ns).map V.int) ((n :: ns).map PyData.int) := dpAll_ofInts _
    obtain ⟨as, hr⟩ := Dp.readsAll I _ _ _ hd rv
    have alike : ∀ (l : List Int), PySem.W.AlikeAll (l.map PyData.int) := fun l => ⟨fun d hd d' hd' => by
      obtain ⟨i, _, rfl⟩ := List.mem_map.mp hd
      obtain ⟨j, _, rfl⟩ := List.mem_map.mp hd'
      rfl, fun d hd => by
      obtain ⟨i, _, rfl⟩ := List.mem_map.mp hd
      exact fun z => by cases z⟩
    have dz : ∀ l : List Int, PyData.depthAll (l.map PyData.int) = 0 := fun l => by
      induction l with
      | nil => rfl
      | cons x r ih =>
        show max (PyData.depth (.int x)) (PyData.depthAll (r.map PyData.int)) = 0
        rw [ih] <;> rfl
    refine PySem.W.max_tuple_data (I.ok.hd hc) ht hr (alike (n :: ns)) (by rw [show PyData.depthAll (PyData.int n :: ns.map PyData.int) = 0 from dz (n :: ns)]; omega) fun i v h' tk bs hv hrd hk => ?_
    rw [PySem.W.maxD_ints] at hrd
    cases hrd
    exact ⟨.int _, H, I.kept hk, ⟨_, rfl⟩, q⟩
theorem e_maxL (hm : g.T.mg "max" = none) (h : E g e δ fun d => ∃ n ns, (d = .tuple ((n :: ns).map .int) ∨ d = .list ((n :: ns).map .int)) ∧ Q (.int (ns.foldl max n))) (hg : Glob g "max" := by rfl) (he : ∀ env, starEach [e] env = (false, eval e env) :: starEach [] env := by intro _; rfl) : E g (.Call (.Name "max" p) [e] [] pos) δ Q :=
  e_bi (r := fun vs H Q => ∃ (a : Addr) (n : Int) (ns : List Int), vs = [.ref a] ∧ (SqL g.T.K H a ((n :: ns).map V.int) ∨ SqT g.T.K H a ((n :: ns).map V.int)) ∧ Q (.int (ns.foldl max n)) H) (fun X x => by rw [← x.K]; exact cr_maxA x.calm x.room.units) hm (by decide +kernel) (by decide) (by decide) hg (ea_cons (h.imp fun d hd => ea_nil (by
    obtain ⟨n, ns, hd, q⟩ := hd
    intro W vs H R _ pa k
    obtain ⟨v, ws, rfl, p1, pn⟩ := dpAll_cons pa
    obtain rfl := dpAll_nil pn
    rcases hd with rfl | rfl
    · obtain ⟨a, xs, rfl, s1, p2⟩ := dp_tup p1
      obtain rfl := dpAll_int p2
      exact ⟨a, n, ns, rfl, .inr (grow_t hid_le s1), k _ _ H q (Grow.refl H) (.int _)⟩
    · obtain ⟨a, xs, rfl, s1, p2⟩ := dp_lst p1
      obtain rfl := dpAll_int p2
      exact ⟨a, n, ns, rfl, .inl (grow_l hid_le s1), k _ _ H q (Grow.refl H) (.int _)⟩)) he) he (fun _ => rfl)
/-! ### // by any divisor -/
theorem noSeer_keeps {h h' : Heap} (x : h.NoSeer) (hk : ∀ b o, h.get? b = some o → h'.get? b = some o) : h'.NoSeer := x.keeps hk
theorem op_fdivAny {X : Cx} (hN : Mod X.K X.mg X.base → X.base.NoSeer) (ht : X.prog.given.tree = none) (hd : X.A.depth + Builtin.pylongFrames < recursionLimit) (hs : ∃ env l, X.stack = env :: l ∧ env.scope.isGenerator = false ∧ env.scope.isCoroutine = false ∧ env.builtins = builtinsNs ∧ env.globals = mainGlobals) :
    OpR X (binaryOp .FloorDiv) (rI (fun _ j => j ≠ 0) fun i j => .int (i.fdiv j)) := by
  intro pins s σ H x y v u Q I rx ry h
  obtain ⟨i, j, rfl, rfl, hc, q⟩ := h
  obtain ⟨t, rfl⟩ := rx
  obtain ⟨t', rfl⟩ := ry
  obtain ⟨env, l, h1, h2, h3, h4, h5⟩ := hs
  have seer : SeerAt (model X.prog X.w) X.A s.heap := SeerAt.of (env := env) (l := l) ((hN I.ok.mod).keeps I.bk) ht (by rw [I.ok.frames, h1]) h2 h3 h4 h5
  exact floordiv_int hc ⟨.int _, H, I.tok _, ⟨_, rfl⟩, q⟩ (.inr (PylongRoom.of I.nolimit hd seer))
/-- the base does not see the interpreter's own division -/
structure Seer (T : Th) : Prop where
  ns : Mod T.K T.mg T.base → T.base.NoSeer
  tree : T.P.given.tree = none
theorem e_fdivA (hS : Seer g.T) (hk : 40 ≤ g.k) (h : E g a δ fun d1 => E g b δ fun d2 => ∃ i j, d1 = .int i ∧ d2 = .int j ∧ j ≠ 0 ∧ Q (.int (i.fdiv j))) : E g (.BinOp a .FloorDiv b pos) δ Q :=
  e_I (fun X x => op_fdivAny (by rw [x.base, x.K, x.mg]; exact hS.ns) (by rw [x.prog]; exact hS.tree) (by
    have h1 := x.room.dp
    have h2 : Builtin.pylongFrames = 100 := rfl
    omega) x.stk) h
/-! ### sorted of tuples of ints, one at least in each -/
theorem rel_each {R : Value → PyData → Prop} : ∀ {vs : List Value} {ds : List PyData}, PySem.W.EachIs R vs ds → vs.length = ds.length ∧ ∀ (i : Nat) v d, vs[i]? = some v → ds[i]? = some d → R v d
  | _, _, .nil => ⟨rfl, fun i v d h => by simp at h⟩
  | _, _, .cons h t => by
    obtain ⟨h1, h2⟩ := rel_each t
    refine ⟨congrArg Nat.succ h1, fun i v d e1 e2 => ?_⟩
    cases i with
    | zero =>
      have e1' := Option.some.inj e1
      have e2' := Option.some.inj e2
      rw [← e1', ← e2']
      exact h
    | succ i => exact h2 i v d e1 e2
def lotD (ns : List Int) : PyData := .tuple (ns.map .int)
theorem cr_sortedT {X : Cx} (hu : X.A.units + 80 < cLine) : CallR X (.builtin "sorted") (fun vs H Q => ∃ (W : Addr → Prop) (a : Addr) (xs : List V) (ls : List (List Int)), vs = [.ref a] ∧ SqL X.K H a xs ∧ (∀ a, W a → ∃ o, H a = some o) ∧ DpAll X.K (hid W H) xs (ls.map lotD) ∧ (∀ l ∈ ls, l ≠ []) ∧ ls.length ≤ 100000 ∧
    ∀ (ls' : List (List Int)) (p : Addr) (ys : List V), ls'.Perm ls → H p = none → DpAll X.K (hid W H) ys (ls'.map lotD) → Q (.ref p) (upd H p (.lst ys))) := by
  intro pins s σ H vs us Q I r h
  obtain ⟨W, a, xs, ls, rfl, hs, hW, hd, hne, hl, q⟩ := h
  obtain rfl := Vals.ref1 r
  obtain ⟨its, rv, pl, hz⟩ := I.list hs
  -- what an item is worth: a value of the abstract heap and a lot
  have each : ∀ {xs : List V} {its : List Value} {ls : List (List Int)}, DpAll X.K (hid W H) xs (ls.map lotD) → Vals xs its → PySem.W.EachIs (fun u (l : List Int) => ∃ v, RelV v u ∧ Dp X.K (hid W H) v (lotD l)) its ls := by
    intro xs its ls
    induction ls generalizing xs its with
    | nil =>
      intro h1 h2
      have e1 := dpAll_nil h1
      subst e1
      cases h2
      exact .nil
    | cons l ls ih =>
      intro h1 h2
      obtain ⟨v, ws, rfl, p1, p2⟩ := dpAll_cons (show DpAll X.K (hid W H) xs (lotD l :: ls.map lotD) from h1)
      cases h2 with
      | cons r1 r2 => exact .cons ⟨v, r1, p1⟩ (ih p2 r2)
  have e1 := each hd rv
  have er : PySem.W.EachIs (fun u (l : List Int) => ∃ as, Reads s.heap u (lotD l) as) its ls := e1.mono fun u l ⟨v, r1, p1⟩ => Dp.reads I _ _ _ (dp_mono hid_le p1) r1
  have alikeI : ∀ (l m : List Int), PySem.W.alikeAll (l.map PyData.int) (m.map PyData.int) = true := by
    intro l
    induction l with
    | nil => exact fun m => by cases m <;> rfl
    | cons x r ih =>
      intro m
      cases m with
      | nil => rfl
      | cons y t =>
        show (true && PySem.W.alikeAll (r.map PyData.int) (t.map PyData.int)) = true
        rw [ih t] <;> rfl
  have hal : PySem.W.AllAlike (ls.map lotD) := fun d hd d' hd' => by
    obtain ⟨l, _, rfl⟩ := List.mem_map.mp hd
    obtain ⟨m, _, rfl⟩ := List.mem_map.mp hd'
    exact alikeI l m
  have hk : PySem.W.Sortable (ls.map lotD) := .inl fun d hd => by
    obtain ⟨l, hl, rfl⟩ := List.mem_map.mp hd
    cases l with
    | nil => exact absurd rfl (hne _ hl)
    | cons x r => exact ⟨_, _, rfl⟩
  have dz : ∀ l : List Int, PyData.depthAll (l.map PyData.int) = 0 := fun l => by
    induction l with
    | nil => rfl
    | cons x r ih =>
      show max (PyData.depth (.int x)) (PyData.depthAll (r.map PyData.int)) = 0
      rw [ih] <;> rfl
  refine PySem.W.sorted_data (enc := lotD) (R := fun u (l : List Int) => ∃ v, RelV v u ∧ Dp X.K (hid W H) v (lotD l)) pl.isList e1 er hal hk (by have := fewLine hl; exact this) (fun l _ => by
    have : PyData.depth (lotD l) = 1 := by
      show PyData.depthAll (l.map PyData.int) + 1 = 1
      rw [dz]
    rw [this]
    omega) fun out ho eo => ?_
  -- the new list
  have back : ∀ {out : List Value} {ls : List (List Int)}, PySem.W.EachIs (fun u (l : List Int) => ∃ v, RelV v u ∧ Dp X.K (hid W H) v (lotD l)) out ls → ∃ ys, Vals ys out ∧ DpAll X.K (hid W H) ys (ls.map lotD) := by
    intro out ls h
    induction h with
    | nil => exact ⟨[], .nil, .nil⟩
    | cons h1 _ ih =>
      obtain ⟨v, r1, p1⟩ := h1
      obtain ⟨ys, r2, p2⟩ := ih
      exact ⟨v :: ys, .cons r1 r2, .cons p1 p2⟩
  obtain ⟨ys, rys, dys⟩ := back eo
  obtain ⟨c, hc⟩ := sortedAll_at s.heap its (List.toArray out)
  have hperm : (ls.mergeSort (PySem.W.dataLe false lotD)).Perm ls := List.mergeSort_perm _ _
  have hp : H (s.heap.objs.size + 1) = none := I.hok.fresh (Nat.le_succ _)
  refine ⟨.ref (s.heap.objs.size + 1), upd H (s.heap.objs.size + 1) (.lst ys), I.laid (t' := s.toks) (fun b o e => sortedAll_old e) (Nat.le_succ _) ?_, rfl, q _ _ ys hperm hp dys⟩
  refine ⟨?_, out, c, rys, hc⟩
  rw [rys.length, ho]
  exact fewLine hl
theorem ef_sorted (hm : g.T.mg "sorted" = none) {QF : List PyData → Prop} (h : E g e δ fun d => ∃ ls : List (List Int), d = .list (ls.map lotD) ∧ (∀ l ∈ ls, l ≠ []) ∧ ls.length ≤ 100000 ∧ ∀ ls' : List (List Int), ls'.Perm ls → QF (ls'.map lotD)) (hg : Glob g "sorted" := by rfl) (he : ∀ env, starEach [e] env = (false, eval e env) :: starEach [] env := by intro _; rfl) : EF g (.Call (.Name "sorted" p) [e] [] pos) δ QF := fun X xo Γ σ H R r k => by
  refine toW (pe_callB (cr_sortedT (by have := xo.room.un; omega)) (xo.gl hg) (by rw [xo.mg]; exact hm) (by decide +kernel) (pa_cons (pW X e) pa_nil (he _)) (by decide) (by decide) (he _) rfl) ?_
  refine h X xo Γ σ H _ r fun d v H1 h1 e1 p1 => ?_
  obtain ⟨ls, rfl, hne, hl, q⟩ := h1
  have r1 := r.ext e1
  obtain ⟨a, xs, rfl, s1, p2⟩ := dp_lst p1
  refine ⟨Hd Γ σ δ, a, xs, ls, rfl, by rw [xo.K]; exact grow_l hid_le s1, fun a w => r1.dom w, by rw [xo.K]; exact p2, hne, hl, fun ls' pp ys hp hpn hd => ?_⟩
  rw [xo.K] at hd
  exact k _ _ _ _ (q ls' hp) (e1.trans (.new hpn)) (r.back e1 hpn) upd_same (r1.fresh1 hpn hd)
/-! ### calls of the text's defs -/
/-- data in, data out; what stood stands -/
def PureSp (K : PySem.W.Frag) (F : List PyData → (PyData → Prop) → Prop) : Sp := fun vs H Q _ => ∃ (W : Addr → Prop) (ds : List PyData) (Pp : PyData → Prop), F ds Pp ∧ (∀ a, W a → ∃ o, H a = some o) ∧ DpAll K (hid W H) vs ds ∧
  ∀ d v H', Pp d → Grow H H' → Dp K (hid W H') v d → Q v H'
/-- the same, the first parameter a well, which alone may change -/
def WellSp (K : PySem.W.Frag) (F : List PyData → (PyData → Prop) → Prop) : Sp := fun vs H Q _ => ∃ (W : Addr → Prop) (aw : Addr) (ws : List V) (ds : List PyData) (Pp : PyData → Prop), vs = .ref aw :: ws ∧ F ds Pp ∧ W aw ∧ IsWell H aw ∧ (∀ a, W a → ∃ o, H a = some o) ∧ DpAll K (hid W H) ws ds ∧
  ∀ d v H', Pp d → (∀ a o, H a = some o → a ≠ aw → H' a = some o) → IsWell H' aw → Dp K (hid W H') v d → Q v H'
/-- a def of the module keeps a promise -/
def Ok (T : Th) (x : Str) (ps : List Str) (k : Nat) (sp : Sp) : Prop := ∃ f fd, T.mg x = some (.ref f) ∧ PySem.W.keepIn T.K (.ref f) = true ∧ Binds T.K fd ps [] ∧ FnOk T.P T.w T.K T.mg T.base CX0 k f fd ps sp
theorem XOk.fnok {X : Cx} (x : XOk g X) {k : Nat} {f : Addr} {fd : FuncData} {ps : List Str} {sp : Sp} (h : FnOk g.T.P g.T.w g.T.K g.T.mg g.T.base CX0 k f fd ps sp) : FnOk X.prog X.w X.K X.mg X.base CX0 k f fd ps sp := by
  rw [x.prog, x.w, x.K, x.mg, x.base]
  exact h
theorem e_call {x : Str} {ps : List Str} {k : Nat} {F : List PyData → (PyData → Prop) → Prop} (C : Ok g.T x ps k (PureSp g.T.K F)) (hk : k ≤ g.k) (h : EA g (e :: es) δ fun ds => F ds Q) (hg : Glob g x := by rfl) (hdb : (x == ("__debug__" : Str)) = false := by decide)
    (he : ∀ env, starEach (e :: es) env = (false, eval e env) :: starEach es env := by intro _; rfl) (hpl : ∀ env, (backTo pos (starEach es env)).any (·.1) = false := by intro _; rfl) : E g (.Call (.Name x p) (e :: es) [] pos) δ Q := fun X xo Γ σ H R rl kk => by
  obtain ⟨f, fd, hm, hkp, hb, hF⟩ := C
  refine toW (pe_call (xo.fnok hF) (xo.room.mono hk) (xo.gl hg) (by rw [xo.mg]; exact hm) (by rw [xo.K]; exact hkp) (by rw [xo.K]; exact hb) .nil pass0 (pWA X (e :: es)) hdb (he _) (hpl _)) ?_
  refine h X xo Γ σ H _ rl fun ds vs H1 h1 e1 p1 => ?_
  refine ⟨Hd Γ σ δ, ds, Q, h1, fun a w => (rl.ext e1).dom w, by rw [List.append_nil]; exact p1, fun d v H' q gr pd => kk d v H' q (e1.trans (.grow gr)) pd⟩
/-- f(well, ..) -/
theorem e_callW {x y : Str} {i : Nat} {ps : List Str} {k : Nat} {F : List PyData → (PyData → Prop) → Prop} {py : Pos} (C : Ok g.T x ps k (WellSp g.T.K F)) (hk : k ≤ g.k) (hs : δ[i]? = some SD.well) (h : EA g es δ fun ds => F ds Q) (hN : g.N[i]? = some y := by rfl) (hv : Vis g.sc y := by first | exact Or.inl rfl | exact Or.inr (Or.inl rfl) | exact Or.inr (Or.inr rfl)) (hd1 : (y == ("__debug__" : Str)) = false := by decide)
    (hcd : (y == ("__classdict__" : Str)) = false := by decide) (hg : Glob g x := by rfl) (hdb : (x == ("__debug__" : Str)) = false := by decide)
    (hpl : ∀ env, (backTo pos (starEach es env)).any (·.1) = false := by intro _; rfl) : E g (.Call (.Name x p) (.Name y py :: es) [] pos) δ Q := fun X xo Γ σ H R rl kk => by
  obtain ⟨f, fd, hm, hkp, hb, hF⟩ := C
  refine toW (pe_call (xo.fnok hF) (xo.room.mono hk) (xo.gl hg) (by rw [xo.mg]; exact hm) (by rw [xo.K]; exact hkp) (by rw [xo.K]; exact hb) .nil pass0 (pa_cons (pe_var (i := i) (by rw [xo.N]; exact hN) (by rw [xo.sc]; exact hv) hd1 hcd) (pWA X es)) hdb rfl (hpl _)) ?_
  obtain ⟨aw, hσ, hw⟩ := rl.well i hs
  refine ⟨.ref aw, hσ, ?_⟩
  refine h X xo Γ σ H _ rl fun ds vs H1 h1 e1 p1 => ?_
  have wl : Wl σ δ aw := ⟨i, hs, hσ⟩
  refine ⟨Hd Γ σ δ, aw, vs, ds, Q, by rw [List.append_nil], h1, .inr wl.o, e1.well aw wl hw, fun a w => (rl.ext e1).dom w, p1, fun d v H' q kp w' pd => kk d v H' q (e1.trans ⟨fun a o ho hn => kp a o ho fun z => hn (by rw [z]; exact wl), fun a w2 hw2 => ?_⟩) pd⟩
  by_cases z : a = aw
  · rw [z]
    exact w'
  · obtain ⟨i', j', k', hz⟩ := hw2
    exact ⟨i', j', k', kp a _ hz z⟩
end
end Pd

/-! text Pf -/
set_option Elab.async false
set_option linter.all false
set_option maxRecDepth 100000
set_option maxHeartbeats 4000000
/-! Iterators: zip and enumerate of lists and tuples mixed; the data-level judgement It. -/
namespace Pd
open PySem PySem.Spec PyProof.Rows L2

/-! ### lists and tuples alike -/
inductive Kd where
  | l
  | t
def Kd.sq (K : PySem.W.Frag) : Kd → Hp → Addr → List V → Prop
  | .l => SqL K
  | .t => SqT K
def Kd.hs : Kd → Heap → Addr → Array Value → Prop
  | .l => fun h a its => h.IsList a its
  | .t => fun h a its => h.IsTuple a its
def Kd.it : Kd → Heap → Addr → Addr → Nat → Prop
  | .l => fun h i a n => h.IsListIter i a n
  | .t => fun h i a n => h.IsTupleIter i a n
def Kd.o : Kd → Addr → Obj
  | .l => fun a => { cls := .type "list_iterator", data := .fields #[.ref a, .int 0 0] }
  | .t => fun a => { cls := .type "tuple_iterator", data := .fields #[.ref a, .int 0 0] }
theorem Kd.inv (kd : Kd) {X : Cx} {pins : List (Addr × Obj)} {σ : L2.St} {H : Hp} {s : Shared} {a : Addr} {xs : List V} (I : Inv X pins σ H s) (h : kd.sq X.K H a xs) :
    ∃ its : List Value, Vals xs its ∧ kd.hs s.heap a its.toArray ∧ a < s.heap.objs.size := by
  cases kd with
  | l =>
    obtain ⟨its, r, p, _⟩ := I.list h
    exact ⟨its, r, p.isList, p.lt⟩
  | t =>
    obtain ⟨its, r, p, _⟩ := I.tuple h
    obtain ⟨o, ho, _⟩ := id p
    exact ⟨its, r, p, Heap.lt_size ho⟩
theorem Kd.inj (kd : Kd) {X : Cx} {pins : List (Addr × Obj)} {σ : L2.St} {H : Hp} {s : Shared} {a : Addr} {xs ys : List V} (I : Inv X pins σ H s) (h : kd.sq X.K H a xs) (h' : kd.sq X.K H a ys) : xs = ys := by
  cases kd with
  | l => exact I.list_inj h h'
  | t => exact I.tuple_inj h h'
theorem Kd.grow (kd : Kd) {K : PySem.W.Frag} {H H' : Hp} {a : Addr} {xs : List V} (e : Grow H H') (h : kd.sq K H a xs) : kd.sq K H' a xs := by
  cases kd with
  | l => exact grow_l e h
  | t => exact grow_t e h
theorem Kd.draws (kd : Kd) {prog : Program} {w : World} {A : Around} (hh : A.handled = none) (it l : Addr) (hne : l ≠ it) (items : Array Value) :
    Draws prog w A it [it, l] items.size (fun i v => items[i]? = some v) (fun i h => kd.it h it l i ∧ kd.hs h l items) := by
  cases kd with
  | l => exact Draws.list hh it l hne items
  | t => exact Draws.tuple hh it l hne items
theorem Kd.begins (kd : Kd) (l : Addr) (items : Array Value) : Begins (.ref l) (kd.o l) (fun h => kd.hs h l items) := by
  cases kd with
  | l => exact begins_list l items
  | t => exact begins_tuple l items
theorem Kd.start (kd : Kd) {h : Heap} {i a : Addr} (e : h.get? i = some (kd.o a)) : kd.it h i a 0 := by
  cases kd with
  | l => exact ⟨_, e, rfl, rfl⟩
  | t => exact ⟨_, e, rfl, rfl⟩
theorem Kd.it_at (kd : Kd) {h h' : Heap} {i a : Addr} {n : Nat} (x : kd.it h i a n) (k : ∀ o, h.get? i = some o → h'.get? i = some o) : kd.it h' i a n := by
  cases kd with
  | l => exact Heap.IsListIter.at x k
  | t => exact Heap.IsTupleIter.at x k
theorem Kd.it_obj (kd : Kd) {h : Heap} {i a : Addr} {n : Nat} (x : kd.it h i a n) : ∃ o, h.get? i = some o ∧ ∀ v, o.data ≠ .cell v := by
  cases kd with
  | l =>
    obtain ⟨o, e, _, d⟩ := x
    exact ⟨o, e, fun v q => by rw [d] at q; cases q⟩
  | t =>
    obtain ⟨o, e, _, d⟩ := x
    exact ⟨o, e, fun v q => by rw [d] at q; cases q⟩
/-! ### zip -/
def Itzk (K : PySem.W.Frag) (k1 k2 : Kd) (a b : Addr) : It where
  go := fun i H => ∃ (xs ys : List V), k1.sq K H a xs ∧ k2.sq K H b ys ∧ i < xs.length ∧ i < ys.length
  yld := fun i H v H' => ∃ T x y, v = .ref T ∧ H T = none ∧ H' = upd H T (.tup [x, y]) ∧ (∀ xs, k1.sq K H a xs → xs[i]? = some x) ∧ ∀ ys, k2.sq K H b ys → ys[i]? = some y
  stop := fun i H => ∃ xs ys : List V, k1.sq K H a xs ∧ k2.sq K H b ys ∧ i = min xs.length ys.length
theorem turn_zipk {P : Program} {w : World} {K : PySem.W.Frag} {elts : List Expr} {kk : Nat} {tpos : Pos} (k1 k2 : Kd) {a b z TI TO i1 i2 : Addr} (D : ZipApart z TI TO i1 i2 a b) :
    Turn P w K (.Tuple elts kk tpos) (Itzk K k1 k2 a b) [z, TI, TO, i1, i2] z (fun i h => IsZip h z TI TO .none ∧ IsTupOf2 h TI (.ref i1) (.ref i2) ∧ (∃ x y, IsTupOf2 h TO x y) ∧ k1.it h i1 a i ∧ k2.it h i2 b i) := by
  have S : ZipSep2 z TI TO i1 i2 [i1, a] [i2, b] := ⟨D.TIz, D.TOz, D.TITO, D.TIi1, by simp, by simp [D.i1z.symm, D.l1z.symm], by simp [D.TOi1, D.l1TO.symm], D.TIi2, by simp, by simp [D.i2z.symm, D.l2z.symm], by simp [D.TOi2, D.l2TO.symm], by simp [D.i12, D.l2i1.symm], by simp [D.i12.symm, D.l1i2.symm]⟩
  have objs : ∀ i h, (IsZip h z TI TO .none ∧ IsTupOf2 h TI (.ref i1) (.ref i2) ∧ (∃ x y, IsTupOf2 h TO x y) ∧ k1.it h i1 a i ∧ k2.it h i2 b i) → ∀ c ∈ [z, TI, TO, i1, i2], ∃ o, h.get? c = some o ∧ ∀ v, o.data ≠ .cell v := fun i h st c hc => by
    obtain ⟨hz, hTI, ⟨x, y, hTO⟩, h1, h2⟩ := st
    simp only [List.mem_cons, List.mem_nil_iff, or_false] at hc
    rcases hc with q | q | q | q | q
    · rw [q]; exact ⟨_, hz, fun v e => nomatch e⟩
    · rw [q]; exact ⟨_, hTI, fun v e => nomatch e⟩
    · rw [q]; exact ⟨_, hTO, fun v e => nomatch e⟩
    · rw [q]; exact k1.it_obj h1
    · rw [q]; exact k2.it_obj h2
  refine ⟨by simp, objs, ?_, ?_, ?_, fun A i s Q E st h => wpAny_pyIter_zip st.1 h⟩
  · intro i h h' st k
    obtain ⟨hz, hTI, ⟨x, y, hTO⟩, h1, h2⟩ := st
    exact ⟨k z (by simp) _ hz, k TI (by simp) _ hTI, ⟨x, y, k TO (by simp) _ hTO⟩, k1.it_at h1 fun o q => k i1 (by simp) o q, k2.it_at h2 fun o q => k i2 (by simp) o q⟩
  · intro X hP hw hK hc i pins s σ H E I hf st hg
    subst hP hw hK
    have ob := objs i s.heap st
    obtain ⟨hz, hTI, hTO, h1, h2⟩ := st
    obtain ⟨xs, ys, hqx, hqy, hx, hy⟩ := hg
    obtain ⟨its, rv, p, _⟩ := k1.inv I hqx
    obtain ⟨its2, rv2, p2, _⟩ := k2.inv I hqy
    have l1 : its.length = xs.length := rv.length.symm
    have l2 : its2.length = ys.length := rv2.length.symm
    refine (GoesN.zip2 (elts := elts) (x1 := kk) (pos := tpos) S (k1.draws (A := X.A.in1) (I.ok.hd hc) i1 a D.l1i1 its.toArray) (k2.draws (A := X.A.in1) (I.ok.hd hc) i2 b D.l2i2 its2.toArray)).goes i s _ E (by simp only [List.size_toArray]; omega) ⟨hz, hTI, hTO, ⟨h1, p⟩, h2, p2⟩ fun v h' tk hY st' hk htk => ?_
    obtain ⟨T, u, u2, rfl, hT, hu, hu2, hTt⟩ := hY
    obtain ⟨hz', hTI', hTO', ⟨h1', _⟩, h2', _⟩ := st'
    have eu : its[i]? = some u := by simpa using hu
    have eu2 : its2[i]? = some u2 := by simpa using hu2
    obtain ⟨x, ex, rx⟩ : ∃ x, xs[i]? = some x ∧ RelV x u := by
      obtain ⟨u', e', r'⟩ := rv.get (List.getElem?_eq_getElem hx)
      rw [eu] at e'
      cases e'
      exact ⟨_, List.getElem?_eq_getElem hx, r'⟩
    obtain ⟨y, ey, ry⟩ : ∃ y, ys[i]? = some y ∧ RelV y u2 := by
      obtain ⟨u', e', r'⟩ := rv2.get (List.getElem?_eq_getElem hy)
      rw [eu2] at e'
      cases e'
      exact ⟨_, List.getElem?_eq_getElem hy, r'⟩
    have hTn : H T = none := I.hok.fresh hT
    refine ⟨.ref T, upd H T (.tup [x, y]), I.turnedNew (ch := [z, TO, i1, i2]) hk (fun c hcm => hf c ?_) hT ⟨by show 2 ≤ sizeLine; decide, [u, u2], .cons rx (.cons ry .nil), hTt⟩, rfl, ⟨T, x, y, rfl, hTn, rfl, fun l hl => by rw [k1.inj I hl hqx]; exact ex, fun l hl => by rw [k2.inj I hl hqy]; exact ey⟩, ⟨hz', hTI', hTO', h1', h2'⟩, fun c hcm => ?_⟩
    · simp only [List.mem_cons, List.mem_nil_iff, or_false] at hcm ⊢
      rcases hcm with q | q | q | q
      · exact .inl q
      · exact .inr (.inr (.inl q))
      · exact .inr (.inr (.inr (.inl q)))
      · exact .inr (.inr (.inr (.inr q)))
    · obtain ⟨o, eo, _⟩ := ob c hcm
      rw [upd_ne (Nat.ne_of_lt (Nat.lt_of_lt_of_le (Heap.lt_size eo) hT))]
      exact (hf c hcm).1
  · intro X hP hw hK hc i pins s σ H E I hf st hg
    subst hP hw hK
    obtain ⟨hz, hTI, hTO, h1, h2⟩ := st
    obtain ⟨xs, ys, hqx, hqy, hi⟩ := hg
    obtain ⟨its, rv, p, _⟩ := k1.inv I hqx
    obtain ⟨its2, rv2, p2, _⟩ := k2.inv I hqy
    have l1 : its.length = xs.length := rv.length.symm
    have l2 : its2.length = ys.length := rv2.length.symm
    have hi' : i = min its.toArray.size its2.toArray.size := by
      simp only [List.size_toArray]
      omega
    subst hi'
    refine (GoesN.zip2 (elts := elts) (x1 := kk) (pos := tpos) S (k1.draws (A := X.A.in1) (I.ok.hd hc) i1 a D.l1i1 its.toArray) (k2.draws (A := X.A.in1) (I.ok.hd hc) i2 b D.l2i2 its2.toArray)).stops s _ E ⟨hz, hTI, hTO, ⟨h1, p⟩, h2, p2⟩ fun h' tk hk htk => ?_
    refine I.turnedL (ch := [z, TO, i1, i2]) hk fun c hcm => hf c ?_
    simp only [List.mem_cons, List.mem_nil_iff, or_false] at hcm ⊢
    rcases hcm with q | q | q | q
    · exact .inl q
    · exact .inr (.inr (.inl q))
    · exact .inr (.inr (.inr (.inl q)))
    · exact .inr (.inr (.inr (.inr q)))
def iZipk (K : PySem.W.Frag) (ta : TA) : TI := fun σ H R => ta σ H fun vs H1 => ∃ (k1 k2 : Kd) (a b : Addr) (xs ys : List V), vs = [.ref a, .ref b] ∧ k1.sq K H1 a xs ∧ k2.sq K H1 b ys ∧ R (Itzk K k1 k2 a b) H1
theorem pi_zipk {X : Cx} {e e2 : Expr} {ta : TA} {p pos tpos : Pos} {elts : List Expr} {kk : Nat} (hg : Gl X "zip") (hm : X.mg "zip" = none) (ha : PA X [e, e2] ta)
    (hs : starEach [e, e2] X.env = (false, eval e X.env) :: starEach [e2] X.env) (hpl : (backTo pos (starEach [e2] X.env)).any (·.1) = false) : PI X (.Tuple elts kk tpos) (.Call (.Name "zip" p) [e, e2] [] pos) (iZipk X.K ta) := by
  refine ⟨fun pins s σ H R I h => Call_ (ld_blt I hg hm PyProof.Rows.boot_zip (PyProof.Rows.callWith_type1 (thn (ha.run pos pins s σ H _ I h) fun us s1 ⟨vs, H1, I1, r1, q1⟩ => ?_) hs hpl))⟩
  obtain ⟨k1, k2, a, b, xs, ys, rfl, hqx, hqy, q⟩ := q1
  cases r1 with
  | cons r rr =>
  cases rr with
  | cons r' rr =>
  cases rr
  cases r
  cases r'
  obtain ⟨its, rv, p1, lt1⟩ := k1.inv I1 hqx
  obtain ⟨its2, rv2, p2, lt2⟩ := k2.inv I1 hqy
  refine zip_begins2 (k1.begins a its.toArray) (k2.begins b its2.toArray) p1 p2 fun h' hz hTI hTO e1 e2 hsz hk => wpAny_pyIter_zip hz ?_
  refine ⟨s1.heap.objs.size + 4, [s1.heap.objs.size + 4, s1.heap.objs.size + 2, s1.heap.objs.size + 3, s1.heap.objs.size, s1.heap.objs.size + 1], _, _, H1, rfl, I1.kept (t' := s1.toks) hk, turn_zipk k1 k2 (PySem.W.ktu_apart s1.heap.objs.size a b lt1 lt2), ⟨hz, hTI, ⟨_, _, hTO⟩, k1.start e1, k2.start e2⟩, fun c hcm => ?_, q⟩
  have hle : s1.heap.objs.size ≤ c := by
    simp only [List.mem_cons, List.mem_nil_iff, or_false] at hcm
    rcases hcm with q | q | q | q | q <;> rw [q] <;> first | exact Nat.le_refl _ | exact Nat.le_add_right _ _
  exact I1.fpOk hle (I1.hok.fresh hle)
/-! ### enumerate -/
def Itek (K : PySem.W.Frag) (kd : Kd) (a : Addr) : It where
  go := fun i H => ∃ xs : List V, kd.sq K H a xs ∧ i < xs.length
  yld := fun i H v H' => ∃ T x, v = .ref T ∧ H T = none ∧ H' = upd H T (.tup [.int (i : Nat), x]) ∧ ∀ xs, kd.sq K H a xs → xs[i]? = some x
  stop := fun i H => ∃ xs : List V, kd.sq K H a xs ∧ i = xs.length
theorem turn_enumk {P : Program} {w : World} {K : PySem.W.Frag} {elts : List Expr} {kk : Nat} {tpos : Pos} (kd : Kd) {a e it : Addr} (hne : e ≠ it) (hae : a ≠ e) (hai : a ≠ it) :
    Turn P w K (.Tuple elts kk tpos) (Itek K kd a) [e, it] e (fun i h => (∃ old, IsEnum h e it (0 + (i : Int)) old) ∧ kd.it h it a i) := by
  have objs : ∀ (i : Nat) h, ((∃ old, IsEnum h e it (0 + (i : Int)) old) ∧ kd.it h it a i) → ∀ c ∈ [e, it], ∃ o, h.get? c = some o ∧ ∀ v, o.data ≠ .cell v := fun i h st c hc => by
    obtain ⟨⟨old, he⟩, h1⟩ := st
    simp only [List.mem_cons, List.mem_nil_iff, or_false] at hc
    rcases hc with q | q
    · rw [q]; exact ⟨_, he, fun v e => nomatch e⟩
    · rw [q]; exact kd.it_obj h1
  refine ⟨by simp, objs, ?_, ?_, ?_, fun A i s Q E st h => let ⟨⟨_, he⟩, _⟩ := st; wpAny_pyIter_enum he h⟩
  · intro i h h' st k
    obtain ⟨⟨old, he⟩, h1⟩ := st
    exact ⟨⟨old, k e (by simp) _ he⟩, kd.it_at h1 fun o q => k it (by simp) o q⟩
  · intro X hP hw hK hc i pins s σ H E I hf st hg
    subst hP hw hK
    have ob := objs i s.heap st
    obtain ⟨he, h1⟩ := st
    obtain ⟨xs, hqx, hx⟩ := hg
    obtain ⟨its, rv, p, _⟩ := kd.inv I hqx
    have l1 : its.length = xs.length := rv.length.symm
    refine (GoesN.enumFrom (elts := elts) (x1 := kk) (pos := tpos) 0 (kd.draws (A := X.A.in1) (I.ok.hd hc) it a hai its.toArray) e hne (by simp [hne, hae.symm]) (by simp)).goes i s _ E (by simp only [List.size_toArray]; omega) ⟨he, h1, p⟩ fun v h' tk hY st' hk htk => ?_
    obtain ⟨T, t, u, rfl, hT, hu, hTt⟩ := hY
    obtain ⟨he', h1', _⟩ := st'
    have eu : its[i]? = some u := by simpa using hu
    obtain ⟨x, ex, rx⟩ : ∃ x, xs[i]? = some x ∧ RelV x u := by
      obtain ⟨u', e', r'⟩ := rv.get (List.getElem?_eq_getElem hx)
      rw [eu] at e'
      cases e'
      exact ⟨_, List.getElem?_eq_getElem hx, r'⟩
    have hTn : H T = none := I.hok.fresh hT
    rw [Int.zero_add] at hTt
    refine ⟨.ref T, upd H T (.tup [.int (i : Nat), x]), I.turnedNew (ch := [e, it]) hk (fun c hcm => hf c hcm) hT ⟨by show 2 ≤ sizeLine; decide, [.int (i : Nat) t, u], .cons ⟨t, rfl⟩ (.cons rx .nil), hTt⟩, rfl, ⟨T, x, rfl, hTn, rfl, fun l hl => by rw [kd.inj I hl hqx]; exact ex⟩, ⟨he', h1'⟩, fun c hcm => ?_⟩
    obtain ⟨o, eo, _⟩ := ob c hcm
    rw [upd_ne (Nat.ne_of_lt (Nat.lt_of_lt_of_le (Heap.lt_size eo) hT))]
    exact (hf c hcm).1
  · intro X hP hw hK hc i pins s σ H E I hf st hg
    subst hP hw hK
    obtain ⟨he, h1⟩ := st
    obtain ⟨xs, hqx, hi⟩ := hg
    obtain ⟨its, rv, p, _⟩ := kd.inv I hqx
    have l1 : its.length = xs.length := rv.length.symm
    have hi' : i = its.toArray.size := by
      simp only [List.size_toArray]
      omega
    subst hi'
    exact (GoesN.enumFrom (elts := elts) (x1 := kk) (pos := tpos) 0 (kd.draws (A := X.A.in1) (I.ok.hd hc) it a hai its.toArray) e hne (by simp [hne, hae.symm]) (by simp)).stops s _ E ⟨he, h1, p⟩ fun h' tk hk htk => I.turnedL (ch := [e, it]) hk hf
theorem meets_enum1 {v : Value} {o : Obj} {H : Heap → Prop} (B : Begins v o H) :
    Meets (Builtin.«enumerate.__new__» ⟨[.type "enumerate", v], []⟩) (fun _ R s => H s.heap ∧
      R (.ok (.ret (.ref (s.heap.push o).objs.size))) { s with heap := (s.heap.push o).push { cls := .type "enumerate", data := .fields #[.none, .bool false, .ref s.heap.objs.size, rawInt 0, .none, .none] } }) :=
  .of_wp fun prog w A R s h => by
    obtain ⟨hp, g, d, tk, os⟩ := s
    obtain ⟨h1, h⟩ := h
    have hsub := sub_enumerate
    have q1 : ∀ {A' : Around} {E : Value → Shared → Prop} {Q : Value → Shared → Prop}, Q (.ref hp.objs.size) ⟨hp.push o, g, d, tk, os⟩ → wpAny (model prog w) A' (pyIter v) Q E ⟨hp, g, d, tk, os⟩ := fun q => B.iter prog w _ _ ⟨hp, g, d, tk, os⟩ _ h1 q
    wp_walk using q1
    refine wpAny_stack_any fun st => wpAny_pure ?_
    split
    · rename_i c _ _ _ _ _
      cases (c == Value.type "enumerate")
      · (wp_walk using q1); exact ⟨_, rfl, h⟩
      · (wp_walk using q1); exact ⟨_, rfl, h⟩
    · (wp_walk using q1); exact ⟨_, rfl, h⟩
theorem enum_begins1 {prog : Program} {w : World} {A : Around} {E : Value → Shared → Prop} {s : Shared} {v : Value} {o : Obj} {H : Heap → Prop} {Q : Value → Shared → Prop} (B : Begins v o H) (h1 : H s.heap)
    (h : ∀ h', IsEnum h' (s.heap.objs.size + 1) s.heap.objs.size 0 .none → h'.get? s.heap.objs.size = some o → (∀ b o, s.heap.get? b = some o → h'.get? b = some o) → Q (.ref (s.heap.objs.size + 1)) { s with heap := h' }) :
    wpAny (model prog w) A (call (.type "enumerate") [v]) Q E s := by
  refine callType_new F.called_enumerate (by decide) (F.typeCall_enumerate_1 _) (F.newCall_enumerate_1 _) (fun obj => F.args_object_init_2 obj _) F.entry_enumerate_new (meets_enum1 B) ⟨h1, ?_⟩
  have hz : (s.heap.push o).objs.size = s.heap.objs.size + 1 := Heap.size_push ..
  have he : IsEnum ((s.heap.push o).push { cls := .type "enumerate", data := .fields #[.none, .bool false, .ref s.heap.objs.size, rawInt 0, .none, .none] }) (s.heap.objs.size + 1) s.heap.objs.size 0 .none := by
    have k := Heap.get?_push_size (s.heap.push o) (o := { cls := .type "enumerate", data := .fields #[.none, .bool false, .ref s.heap.objs.size, rawInt 0, .none, .none] }) rfl
    rw [hz] at k
    exact k
  show _ ∧ _
  rw [hz]
  exact ⟨⟨_, he, rfl⟩, h _ he (Heap.get?_push_of_some _ (Heap.get?_push_size _ B.free)) fun b o x => Heap.get?_push_of_some _ (Heap.get?_push_of_some _ x)⟩
def iEnumk (K : PySem.W.Frag) (ta : TA) : TI := fun σ H R => ta σ H fun vs H1 => ∃ (kd : Kd) (a : Addr) (xs : List V), vs = [.ref a] ∧ kd.sq K H1 a xs ∧ R (Itek K kd a) H1
theorem pi_enumk {X : Cx} {e : Expr} {ta : TA} {p pos tpos : Pos} {elts : List Expr} {kk : Nat} (hg : Gl X "enumerate") (hm : X.mg "enumerate" = none) (ha : PA X [e] ta) (hs : starEach [e] X.env = [(false, eval e X.env)]) :
    PI X (.Tuple elts kk tpos) (.Call (.Name "enumerate" p) [e] [] pos) (iEnumk X.K ta) := by
  refine ⟨fun pins s σ H R I h => Call_ (ld_blt I hg hm boot_enumerate (PyProof.Rows.callWith_type1 (thn (ha.run pos pins s σ H _ I h) fun us s1 ⟨vs, H1, I1, r1, q1⟩ => ?_) hs rfl))⟩
  obtain ⟨kd, a, xs, rfl, hq, q⟩ := q1
  cases r1 with
  | cons r rr =>
  cases rr
  cases r
  obtain ⟨its, rv, p1, lt1⟩ := kd.inv I1 hq
  refine enum_begins1 (kd.begins a its.toArray) p1 fun h' he e1 hk => wpAny_pyIter_enum he ?_
  have h0 : IsEnum h' (s1.heap.objs.size + 1) s1.heap.objs.size (0 + ((0 : Nat) : Int)) .none := he
  refine ⟨s1.heap.objs.size + 1, [s1.heap.objs.size + 1, s1.heap.objs.size], _, _, H1, rfl, I1.kept (t' := s1.toks) hk, turn_enumk kd (Nat.succ_ne_self _) (Nat.ne_of_lt (Nat.lt_succ_of_lt lt1)) (Nat.ne_of_lt lt1), ⟨⟨_, h0⟩, kd.start e1⟩, fun c hcm => ?_, q⟩
  have hle : s1.heap.objs.size ≤ c := by
    simp only [List.mem_cons, List.mem_nil_iff, or_false] at hcm
    rcases hcm with q | q <;> rw [q] <;> first | exact Nat.le_refl _ | exact Nat.le_add_right _ _
  exact I1.fpOk hle (I1.hok.fresh hle)
end Pd

/-! text Pg -/
set_option Elab.async false
set_option linter.all false
set_option maxRecDepth 100000
set_option maxHeartbeats 4000000
/-! Walks over data, targets, comprehensions. -/
namespace Pd
open PySem PySem.Spec PyProof.Rows L2

/-! ### slots change -/
def SDok (K : PySem.W.Frag) (W : Addr → Prop) (H : Hp) (o : Option V) : SD → Prop
  | .any => True
  | .sh d => ∃ v, o = some v ∧ Dp K (hid W H) v d
  | .rng lo hi => ∃ a, o = some (.ref a) ∧ H a = some (.rng lo hi)
  | _ => False
theorem SDok.ow {K : PySem.W.Frag} {W : Addr → Prop} {H : Hp} {o : Option V} {s : SD} (h : SDok K W H o s) : s.ow = false := by
  cases s <;> first | rfl | exact h.elim
def nOw (δ : List SD) (j : Nat) : Bool := !(SD.ow (δ[j]?.getD .any))
section
variable {K : PySem.W.Frag} {Γ : Dy} {H H' : Hp} {σ : L2.St} {δ : List SD}
theorem nOw_at {j : Nat} {s : SD} (h : nOw δ j = true) (e : δ[j]? = some s) : s.ow = false := by
  unfold nOw at h
  rw [e] at h
  simpa using h
theorem get_set {α : Type} {l : List α} {i j : Nat} {x y : α} (h : (l.set j x)[i]? = some y) : (i = j ∧ y = x) ∨ (i ≠ j ∧ l[i]? = some y) := by
  rw [List.getElem?_set] at h
  by_cases e : j = i
  · rw [if_pos e] at h
    split at h
    · exact .inl ⟨e.symm, (Option.some.inj h).symm⟩
    · cases h
  · rw [if_neg e] at h
    exact .inr ⟨fun z => e z.symm, h⟩
theorem wo_set {j : Nat} {o : Option V} {s : SD} (hj : nOw δ j = true) (hs : s.ow = false) (a : Addr) : Wo (σ.set j o) (δ.set j s) a ↔ Wo σ δ a := by
  constructor
  · rintro ⟨i, t, h1, h2, h3⟩
    rcases get_set h1 with ⟨rfl, rfl⟩ | ⟨n, h1⟩
    · rw [hs] at h2
      cases h2
    · rw [List.getElem?_set_ne (Ne.symm n)] at h3
      exact ⟨i, t, h1, h2, h3⟩
  · rintro ⟨i, t, h1, h2, h3⟩
    have n : i ≠ j := fun e => by
      subst e
      rw [nOw_at hj h1] at h2
      cases h2
    exact ⟨i, t, by rw [List.getElem?_set_ne (Ne.symm n)]; exact h1, h2, by rw [List.getElem?_set_ne (Ne.symm n)]; exact h3⟩
theorem wl_set {j : Nat} {o : Option V} {s : SD} (hj : nOw δ j = true) (hs : s.ow = false) (a : Addr) : Wl (σ.set j o) (δ.set j s) a ↔ Wl σ δ a := by
  constructor
  · rintro ⟨i, h1, h3⟩
    rcases get_set h1 with ⟨rfl, e⟩ | ⟨n, h1⟩
    · rw [← e] at hs
      cases hs
    · rw [List.getElem?_set_ne (Ne.symm n)] at h3
      exact ⟨i, h1, h3⟩
  · rintro ⟨i, h1, h3⟩
    have n : i ≠ j := fun e => by
      subst e
      have := nOw_at hj h1
      cases this
    exact ⟨i, by rw [List.getElem?_set_ne (Ne.symm n)]; exact h1, by rw [List.getElem?_set_ne (Ne.symm n)]; exact h3⟩
/-- the same hidden things -/
structure Same (σ σ' : L2.St) (δ δ' : List SD) : Prop where
  wo : ∀ a, Wo σ' δ' a ↔ Wo σ δ a
  wl : ∀ a, Wl σ' δ' a ↔ Wl σ δ a
theorem Same.refl : Same σ σ δ δ := ⟨fun _ => Iff.rfl, fun _ => Iff.rfl⟩
theorem Same.trans {σ' σ2 : L2.St} {δ' δ2 : List SD} (a : Same σ σ' δ δ') (b : Same σ' σ2 δ' δ2) : Same σ σ2 δ δ2 := ⟨fun x => (b.wo x).trans (a.wo x), fun x => (b.wl x).trans (a.wl x)⟩
theorem Same.hd {σ' : L2.St} {δ' : List SD} (a : Same σ σ' δ δ') : Hd Γ σ' δ' = Hd Γ σ δ := by
  funext x
  unfold Hd
  rw [propext (a.wo x)]
theorem Same.wlE {σ' : L2.St} {δ' : List SD} (a : Same σ σ' δ δ') : Wl σ' δ' = Wl σ δ := funext fun x => propext (a.wl x)
theorem Same.woE {σ' : L2.St} {δ' : List SD} (a : Same σ σ' δ δ') : Wo σ' δ' = Wo σ δ := funext fun x => propext (a.wo x)
theorem Same.set {j : Nat} {o : Option V} {s : SD} (hj : nOw δ j = true) (hs : s.ow = false) : Same σ (σ.set j o) δ (δ.set j s) := ⟨wo_set hj hs, wl_set hj hs⟩
theorem Real.set (r : Real K Γ H σ δ) {j : Nat} {o : Option V} {s : SD} (hj : nOw δ j = true) (ok : SDok K (Hd Γ σ δ) H o s) : Real K Γ H (σ.set j o) (δ.set j s) := by
  have hs := ok.ow
  have sm : Same σ (σ.set j o) δ (δ.set j s) := .set hj hs
  have hh : Hd Γ (σ.set j o) (δ.set j s) = Hd Γ σ δ := sm.hd
  have lt : ∀ {i : Nat} {t : SD}, (δ.set j s)[i]? = some t → i = j → j < σ.length := fun {i t} e z => by
    rw [← r.len]
    have := (List.getElem?_eq_some_iff.mp e).1
    rw [List.length_set] at this
    omega
  have ne : ∀ {i : Nat}, i ≠ j → (σ.set j o)[i]? = σ[i]? := fun n => List.getElem?_set_ne (Ne.symm n)
  refine ⟨by rw [List.length_set, List.length_set, r.len], r.fr, r.w0, r.oa, fun i d h => ?_, fun i ds h => ?_, fun i h => ?_, fun i lo hi h => ?_, fun a w => r.ch a ((sm.wo a).mp w), fun i k t u a h1 h2 h3 h4 h5 h6 => ?_, fun i ds a h h2 => ?_, fun n i2 j2 k2 h => ?_⟩
  · rw [hh]
    rcases get_set h with ⟨z, e⟩ | ⟨n, h'⟩
    · subst e
      obtain ⟨v, rfl, p⟩ := ok
      have l := lt h z
      subst z
      exact ⟨v, List.getElem?_set_self l, p⟩
    · rw [ne n]
      exact r.sh i d h'
  · rw [hh]
    rcases get_set h with ⟨z, e⟩ | ⟨n, h'⟩
    · rw [← e] at hs
      cases hs
    · rw [ne n]
      exact r.own i ds h'
  · rcases get_set h with ⟨z, e⟩ | ⟨n, h'⟩
    · rw [← e] at hs
      cases hs
    · rw [ne n]
      exact r.well i h'
  · rcases get_set h with ⟨z, e⟩ | ⟨n, h'⟩
    · subst e
      obtain ⟨a, rfl, p⟩ := ok
      have l := lt h z
      subst z
      exact ⟨a, List.getElem?_set_self l, p⟩
    · rw [ne n]
      exact r.rng i lo hi h'
  · have q1 : i ≠ j := fun e => by
      subst e
      rcases get_set h1 with ⟨_, e⟩ | ⟨n, _⟩
      · rw [e, hs] at h2
        cases h2
      · exact n rfl
    have q2 : k ≠ j := fun e => by
      subst e
      rcases get_set h3 with ⟨_, e⟩ | ⟨n, _⟩
      · rw [e, hs] at h4
        cases h4
      · exact n rfl
    rw [ne q1] at h5
    rw [ne q2] at h6
    rw [List.getElem?_set_ne (Ne.symm q1)] at h1
    rw [List.getElem?_set_ne (Ne.symm q2)] at h3
    exact r.inj i k t u a h1 h2 h3 h4 h5 h6
  · rcases get_set h with ⟨z, e⟩ | ⟨n, h'⟩
    · rw [← e] at hs
      cases hs
    · rw [ne n] at h2
      exact r.ow0 i ds a h' h2
  · rcases get_set h with ⟨z, e⟩ | ⟨n, h'⟩
    · rw [← e] at hs
      cases hs
    · rw [ne n]
      exact r.pw _ _ _ _ h'
def wipeD (δ : List SD) : List Nat → List SD
  | [] => δ
  | v :: vs => (wipeD δ vs).set v .any
theorem nOw_wipe {v : Nat} : ∀ {vs : List Nat}, nOw δ v = true → nOw (wipeD δ vs) v = true
  | [], h => h
  | w :: vs, h => by
    have ih : (!(SD.ow ((wipeD δ vs)[v]?.getD .any))) = true := nOw_wipe (vs := vs) h
    show (!(SD.ow (((wipeD δ vs).set w .any)[v]?.getD .any))) = true
    rw [List.getElem?_set]
    by_cases e : w = v
    · rw [if_pos e]
      split <;> rfl
    · rw [if_neg e]
      exact ih
theorem Real.wipe (r : Real K Γ H σ δ) : ∀ {vs : List Nat}, (vs.all fun v => nOw δ v) = true → Real K Γ H (wipe σ vs) (wipeD δ vs) ∧ Same σ (L2.wipe σ vs) δ (wipeD δ vs)
  | [], h => ⟨r, .refl⟩
  | v :: vs, h => by
    obtain ⟨h1, h2⟩ := Bool.and_eq_true_iff.mp (show (nOw δ v && vs.all fun v => nOw δ v) = true from h)
    obtain ⟨r', s'⟩ := Real.wipe r h2
    have n := nOw_wipe (vs := vs) h1
    exact ⟨r'.set (o := none) (s := .any) n trivial, s'.trans (.set n rfl)⟩
/-- a list that is being made, hidden -/
theorem Real.hideD (r1 : Real K Γ H σ δ) {D : Addr} {o : HO} (hD : H D = none) (e : Ext (Wl σ δ) H H') (hs : H' D = some o) : Real K { Γ with W0 := fun a => Γ.W0 a ∨ a = D } H' σ δ := by
  have r := r1.ext e
  have gr : Grow (hid (Hd Γ σ δ) H) (hid (Hd { Γ with W0 := fun a => Γ.W0 a ∨ a = D } σ δ) H') := hid_grow fun a u z n => by
    have nD : a ≠ D := fun q => by
      rw [q, hD] at z
      cases z
    exact ⟨fun w => w.elim (fun w => w.elim (fun w => n (.inl w)) nD) fun w => n (.inr w), e.keep a u z fun w => n (.inr w.o)⟩
  refine ⟨r.len, r.fr, fun a w => w.elim (r.w0 a) fun q => ⟨o, by rw [q]; exact hs⟩, r.oa, fun i d h => ?_, fun i ds h => ?_, r.well, r.rng, r.ch, r.inj, fun i ds a h1 h2 => ⟨fun w => ?_, (r.ow0 i ds a h1 h2).2⟩, r.pw⟩
  · obtain ⟨v, e1, p⟩ := r1.sh i d h
    exact ⟨v, e1, dp_mono gr p⟩
  · obtain ⟨a, xs, e1, e2, p⟩ := r1.own i ds h
    obtain ⟨a', xs', e1', e2', _⟩ := r.own i ds h
    rw [e1] at e1'
    cases e1'
    have q : xs' = xs := by
      have k := e.keep a _ e2 fun ⟨j, q1, q2⟩ => by
        have ij := r1.inj i j _ _ a h rfl q1 rfl e1 q2
        subst ij
        rw [h] at q1
        cases q1
      rw [e2'] at k
      cases k
      rfl
    subst q
    exact ⟨a, xs', e1, e2', dpAll_mono gr p⟩
  · rcases w with w | w
    · exact (r.ow0 i ds a h1 h2).1 w
    · subst w
      obtain ⟨a', xs, e1, e2, _⟩ := r1.own i ds h1
      rw [h2] at e1
      cases e1
      rw [hD] at e2
      cases e2
end
/-! ### targets: a name, or a tuple of names -/
def gNs : List Nat → TGs
  | [] => gNil
  | j :: js => gCons (gName j) (gNs js)
def gT (K : PySem.W.Frag) : List Nat → TG
  | [j] => gName j
  | js => gTup K js.length (gNs js)
def unp : List Nat → PyData → Option (List PyData)
  | [_], d => some [d]
  | js, .tuple ds => if ds.length = js.length then some ds else none
  | _, _ => none
def bindL (δ : List SD) : List Nat → List PyData → List SD
  | j :: js, d :: ds => bindL (δ.set j (.sh d)) js ds
  | _, _ => δ
def TgOk (g : G) (tg : Expr) (js : List Nat) : Prop := ∀ X, XOk g X → PG X tg (gT g.T.K js)
def TgsOk (g : G) (tgs : List Expr) (js : List Nat) : Prop := ∀ X, XOk g X → PGs X tgs (gNs js)
theorem tg_name {g : G} {x : Str} {p : Pos} {j : Nat} (hN : g.N[j]? = some x := by rfl) (hl : Loc g.sc x := by first | exact Or.inl rfl | exact Or.inr rfl) (hf : g.fc x = true ∨ g.sc.names.lookup x = some .local := by first | exact Or.inr rfl | exact Or.inl rfl) : TgOk g (.Name x p) [j] := fun X xo =>
  pg_name (by rw [xo.N]; exact xo.nd) (by rw [xo.N]; exact hN) (by rw [xo.sc]; exact hl) (hf.imp (xo.fn x) fun e => by rw [xo.sc]; exact e)
theorem tgs_nil {g : G} : TgsOk g [] [] := fun X xo => pgs_nil
theorem tgs_cons {g : G} {e : Expr} {es : List Expr} {j : Nat} {js : List Nat} (h1 : TgOk g e [j]) (h2 : TgsOk g es js) (hs : ∀ env, (assignEach (e :: es) env).map (·.2) = assign e env :: (assignEach es env).map (·.2) := by intro _; rfl) : TgsOk g (e :: es) (j :: js) := fun X xo => pgs_cons (h1 X xo) (h2 X xo) (hs _)
theorem tg_tup {g : G} {es : List Expr} {k : Nat} {p : Pos} {i j : Nat} {js : List Nat} (h : TgsOk g es (i :: j :: js)) (hn : ∀ env, (assignEach es env).length = (i :: j :: js).length := by intro _; rfl) (hst : ∀ env, (assignEach es env).findIdx? (·.1) = none := by intro _; rfl) : TgOk g (.Tuple es k p) (i :: j :: js) := fun X xo => by
  have := pg_tup (k := k) (pos := p) xo.calm (h X xo) (hn _) (hst _)
  rw [xo.K] at this
  exact this
theorem wipe_set {σ : L2.St} {j : Nat} {o : Option V} : ∀ {vs : List Nat}, j ∈ vs → wipe (σ.set j o) vs = wipe σ vs
  | v :: vs, h => by
    unfold L2.wipe
    by_cases hm : j ∈ vs
    · rw [wipe_set hm]
    · have e : v = j := by
        rcases List.mem_cons.mp h with e | e
        · exact e.symm
        · exact absurd e hm
      subst e
      have key : ∀ {ws : List Nat}, v ∉ ws → L2.wipe (σ.set v o) ws = (L2.wipe σ ws).set v o := by
        intro ws
        induction ws with
        | nil => exact fun _ => rfl
        | cons w ws ih =>
          intro hn
          have h1 : v ≠ w := fun e => hn (by rw [e]; exact List.mem_cons_self)
          have h2 : v ∉ ws := fun e => hn (List.mem_cons_of_mem _ e)
          unfold L2.wipe
          rw [ih h2, List.set_comm _ _ h1]
      rw [key hm, List.set_set]
section
variable {K : PySem.W.Frag} {Γ : Dy} {H H' : Hp} {σ : L2.St} {δ : List SD}
theorem nOw_set {j i : Nat} {s : SD} (h : nOw δ i = true) (hs : s.ow = false) : nOw (δ.set j s) i = true := by
  unfold nOw at *
  rw [List.getElem?_set]
  by_cases e : j = i
  · rw [if_pos e]
    split
    · show (!s.ow) = true
      rw [hs] <;> rfl
    · rfl
  · rw [if_neg e]
    exact h
theorem binds_ok : ∀ {js : List Nat} {ds : List PyData} {vs : List V} {σ : L2.St} {δ : List SD} {Q : L2.St → Hp → Prop}, Real K Γ H σ δ → (js.all fun j => nOw δ j) = true → ds.length = js.length → DpAll K (hid (Hd Γ σ δ) H) vs ds →
    (∀ σ', Real K Γ H σ' (bindL δ js ds) → Same σ σ' δ (bindL δ js ds) → (∀ ws, (∀ j ∈ js, j ∈ ws) → wipe σ' ws = wipe σ ws) → Q σ' H) → gNs js vs σ H Q
  | [], [], vs, σ, δ, Q, r, hj, hl, hd, k => by
    obtain rfl := dpAll_nil hd
    exact ⟨rfl, k σ r .refl fun ws _ => rfl⟩
  | j :: js, d :: ds, vs, σ, δ, Q, r, hj, hl, hd, k => by
    obtain ⟨v, ws, rfl, p1, p2⟩ := dpAll_cons hd
    obtain ⟨h1, h2⟩ := Bool.and_eq_true_iff.mp (show (nOw δ j && js.all fun j => nOw δ j) = true from hj)
    refine ⟨v, ws, rfl, ?_⟩
    have r' := r.set (o := some v) (s := .sh d) h1 ⟨v, rfl, p1⟩
    have sm : Same σ (σ.set j (some v)) δ (δ.set j (.sh d)) := .set h1 rfl
    refine binds_ok r' (List.all_eq_true.mpr fun i hi => nOw_set (List.all_eq_true.mp h2 i hi) rfl) (by simpa using hl) (by rw [sm.hd]; exact p2) fun σ' r2 s2 w2 => ?_
    refine k σ' r2 (sm.trans s2) fun ws hw => ?_
    rw [w2 ws fun j hj => hw j (List.mem_cons_of_mem _ hj), wipe_set (hw j List.mem_cons_self)]
  | [], d :: ds, vs, σ, δ, Q, r, hj, hl, hd, k => by cases hl
  | j :: js, [], vs, σ, δ, Q, r, hj, hl, hd, k => by cases hl
theorem bind_ok {js : List Nat} {ds : List PyData} {d : PyData} {v : V} {Q : L2.St → Hp → Prop} (r : Real K Γ H σ δ) (hj : (js.all fun j => nOw δ j) = true) (hu : unp js d = some ds) (hd : Dp K (hid (Hd Γ σ δ) H) v d)
    (k : ∀ σ', Real K Γ H σ' (bindL δ js ds) → Same σ σ' δ (bindL δ js ds) → (∀ ws, (∀ j ∈ js, j ∈ ws) → wipe σ' ws = wipe σ ws) → Q σ' H) : gT K js v σ H Q := by
  by_cases h1 : ∃ j, js = [j]
  · obtain ⟨j, rfl⟩ := h1
    have e : [d] = ds := Option.some.inj hu
    subst e
    obtain ⟨_, _, e1, k1⟩ := binds_ok (Q := Q) r hj rfl (DpAll.cons hd .nil) k
    cases e1
    exact k1.2
  · have hg : gT K js = gTup K js.length (gNs js) := by
      cases js with
      | nil => rfl
      | cons a t =>
        cases t with
        | nil => exact absurd ⟨a, rfl⟩ h1
        | cons b t => rfl
    have hu' : ∃ es, d = .tuple es ∧ es.length = js.length ∧ es = ds := by
      unfold unp at hu
      split at hu
      · exact absurd ⟨_, rfl⟩ h1
      · split at hu
        · exact ⟨_, rfl, by assumption, Option.some.inj hu⟩
        · cases hu
      · cases hu
    obtain ⟨es, rfl, hl, rfl⟩ := hu'
    obtain ⟨a, xs, rfl, s1, p1⟩ := dp_tup hd
    rw [hg]
    exact ⟨a, xs, rfl, grow_t hid_le s1, by rw [dpAll_len p1, hl], binds_ok r hj hl p1 k⟩
end
/-! ### walks -/
structure WalkD (K : PySem.W.Frag) (Wh C : Addr → Prop) (J : It) (H1 : Hp) (ds : List PyData) : Prop where
  goes : ∀ i H, i < ds.length → (∀ a o, H1 a = some o → ¬ C a → H a = some o) → J.go i H
  stops : ∀ H, (∀ a o, H1 a = some o → ¬ C a → H a = some o) → J.stop ds.length H
  yields : ∀ i H x H', i < ds.length → (∀ a o, H1 a = some o → ¬ C a → H a = some o) → J.yld i H x H' → Grow H H' ∧ ∃ d, ds[i]? = some d ∧ ∀ W', (∀ a, W' a → ∃ o, H a = some o) → Grow (hid Wh H1) (hid W' H) → Dp K (hid W' H') x d
def tWI (X : Cx) (tg e : Expr) : TI := fun σ H R => ∀ (pins : List (Addr × Obj)) (s : Shared), Inv X pins σ H s → wpAny (model X.prog X.w) X.A (eval e X.env) (fun v s1 => wpAny (model X.prog X.w) X.A (pyIter v) (PIE X pins σ tg R) X.xe s1) X.xe s
theorem pWI (X : Cx) (tg e : Expr) : PI X tg e (tWI X tg e) := ⟨fun pins s _ _ _ I h => h pins s I⟩
theorem toWI {X : Cx} {tg e : Expr} {t : TI} (h : PI X tg e t) {σ : L2.St} {H : Hp} {R : It → Hp → Prop} (q : t σ H R) : tWI X tg e σ H R := fun pins s I => h.run pins s σ H R I q
def CC (fr : Bool) (σ : L2.St) (δ : List SD) : Addr → Prop := if fr = true then Wo σ δ else Wl σ δ
theorem CC.hd {fr : Bool} {Γ : Dy} {σ : L2.St} {δ : List SD} {a : Addr} (h : CC fr σ δ a) : Hd Γ σ δ a := by
  cases fr
  · exact .inr (Wl.o h)
  · exact .inr h
/-- e is walked: the data ds, one after another; fr: what a slot owns may change on the way -/
def ItJ (g : G) (e tg : Expr) (δ : List SD) (fr : Bool) (Q : List PyData → Prop) : Prop := ∀ X, XOk g X → ∀ (Γ : Dy) (σ : L2.St) (H : Hp) (R : It → Hp → Prop), Real g.T.K Γ H σ δ →
  (∀ ds J H1, Q ds → Ext (Wl σ δ) H H1 → WalkD g.T.K (Hd Γ σ δ) (CC fr σ δ) J H1 ds → R J H1) → tWI X tg e σ H R
def Kd.J (K : PySem.W.Frag) (kd : Kd) (a : Addr) : It := match kd with
  | .l => Itl K a
  | .t => Itt K a
theorem walk_seq {K : PySem.W.Frag} {Wh C : Addr → Prop} {H1 : Hp} {ds : List PyData} {xs : List V} {a : Addr} (kd : Kd) (hC : ∀ a, C a → Wh a) (hs : ∀ H, (∀ a o, H1 a = some o → ¬ C a → H a = some o) → kd.sq K H a xs) (hd : DpAll K (hid Wh H1) xs ds) : WalkD K Wh C (kd.J K a) H1 ds := by
  have hl := dpAll_len hd
  refine ⟨fun i H hi hk => ?_, fun H hk => ?_, fun i H x H' hi hk hy => ?_⟩
  · have q := hs H hk
    cases kd with
    | l => exact (walk_list (xs := xs)).goes i H (by rw [hl]; exact hi) q
    | t => exact (walk_tup (xs := xs)).goes i H (by rw [hl]; exact hi) q
  · have q := hs H hk
    rw [← hl]
    cases kd with
    | l => exact (walk_list (xs := xs)).stops H q
    | t => exact (walk_tup (xs := xs)).stops H q
  · have q := hs H hk
    obtain ⟨e, hx⟩ : H' = H ∧ xs[i]? = some x := by
      cases kd with
      | l => exact (walk_list (xs := xs)).yields i H x H' (by rw [hl]; exact hi) q hy
      | t => exact (walk_tup (xs := xs)).yields i H x H' (by rw [hl]; exact hi) q hy
    subst e
    obtain ⟨d, ed, p⟩ := dpAll_getV hd hx
    exact ⟨Grow.refl _, d, ed, fun W' _ gr => dp_mono gr p⟩
theorem sq_keep {K : PySem.W.Frag} {Wh C : Addr → Prop} {H1 : Hp} {xs : List V} {a : Addr} (kd : Kd) (hC : ∀ a, C a → Wh a) (h : kd.sq K (hid Wh H1) a xs) : ∀ H, (∀ a o, H1 a = some o → ¬ C a → H a = some o) → kd.sq K H a xs := fun H hk =>
  kd.grow (fun b o e => by
    obtain ⟨n, e'⟩ := hid_some e
    exact hk b o e' fun c => n (hC b c)) h
def enumD (ds : List PyData) : List PyData := ds.mapIdx fun i d => .tuple [.int (i : Nat), d]
def zipD (ds es : List PyData) : List PyData := List.zipWith (fun d e => .tuple [d, e]) ds es
theorem walk_enumk {K : PySem.W.Frag} {Wh C : Addr → Prop} {H1 : Hp} {ds : List PyData} {xs : List V} {a : Addr} (kd : Kd) (hs : ∀ H, (∀ a o, H1 a = some o → ¬ C a → H a = some o) → kd.sq K H a xs) (hd : DpAll K (hid Wh H1) xs ds) : WalkD K Wh C (Itek K kd a) H1 (enumD ds) := by
  have hl := dpAll_len hd
  have hle : (enumD ds).length = ds.length := List.length_mapIdx
  refine ⟨fun i H hi hk => ⟨xs, hs H hk, by omega⟩, fun H hk => ⟨xs, hs H hk, by omega⟩, fun i H x H' hi hk hy => ?_⟩
  obtain ⟨T, y, rfl, hT, rfl, hx⟩ := hy
  obtain ⟨d, ed, p⟩ := dpAll_getV hd (hx xs (hs H hk))
  refine ⟨Grow.new hT, .tuple [.int (i : Nat), d], ?_, fun W' hW gr => ?_⟩
  · unfold enumD
    rw [List.getElem?_mapIdx, ed]
    rfl
  · have nT : ¬ W' T := fun w => by
      obtain ⟨o, e⟩ := hW T w
      rw [hT] at e
      cases e
    refine .tup (.inl (.inl (hid_mk nT upd_same))) (.cons (.int _) (.cons (dp_mono (fun b o e => ?_) p) .nil))
    obtain ⟨n, e'⟩ := hid_some (gr b o e)
    exact hid_mk n (Grow.new hT b o e')
theorem walk_zipk {K : PySem.W.Frag} {Wh C : Addr → Prop} {H1 : Hp} {ds es : List PyData} {xs ys : List V} {a b : Addr} (k1 k2 : Kd) (hs : ∀ H, (∀ a o, H1 a = some o → ¬ C a → H a = some o) → k1.sq K H a xs) (hs2 : ∀ H, (∀ a o, H1 a = some o → ¬ C a → H a = some o) → k2.sq K H b ys) (hd : DpAll K (hid Wh H1) xs ds) (hd2 : DpAll K (hid Wh H1) ys es) : WalkD K Wh C (Itzk K k1 k2 a b) H1 (zipD ds es) := by
  have hl := dpAll_len hd
  have hl2 := dpAll_len hd2
  have hle : (zipD ds es).length = min ds.length es.length := List.length_zipWith
  refine ⟨fun i H hi hk => ⟨xs, ys, hs H hk, hs2 H hk, by omega, by omega⟩, fun H hk => ⟨xs, ys, hs H hk, hs2 H hk, by omega⟩, fun i H x H' hi hk hy => ?_⟩
  obtain ⟨T, u, v, rfl, hT, rfl, hx, hx2⟩ := hy
  obtain ⟨d, ed, p⟩ := dpAll_getV hd (hx xs (hs H hk))
  obtain ⟨d2, ed2, p2⟩ := dpAll_getV hd2 (hx2 ys (hs2 H hk))
  refine ⟨Grow.new hT, .tuple [d, d2], ?_, fun W' hW gr => ?_⟩
  · unfold zipD
    rw [List.getElem?_zipWith, ed, ed2]
  · have nT : ¬ W' T := fun w => by
      obtain ⟨o, e⟩ := hW T w
      rw [hT] at e
      cases e
    have g2 : Grow (hid Wh H1) (hid W' (upd H T (.tup [u, v]))) := fun b o e => by
      obtain ⟨n, e'⟩ := hid_some (gr b o e)
      exact hid_mk n (Grow.new hT b o e')
    exact .tup (.inl (.inl (hid_mk nT upd_same))) (.cons (dp_mono g2 p) (.cons (dp_mono g2 p2) .nil))
def rgL (lo : Int) (n : Nat) : List PyData := (List.range n).map fun i => .int (lo + (i : Nat))
theorem walk_rg {K : PySem.W.Frag} {Wh C : Addr → Prop} {H1 : Hp} {lo : Int} {n : Nat} : WalkD K Wh C (Itr lo n) H1 (rgL lo n) := by
  have hl : (rgL lo n).length = n := by simp [rgL]
  refine ⟨fun i H hi hk => by rw [hl] at hi; exact hi, fun H hk => by rw [hl]; exact Nat.le_refl n, fun i H x H' hi hk hy => ?_⟩
  obtain ⟨rfl, rfl⟩ := hy
  rw [hl] at hi
  exact ⟨Grow.refl _, .int (lo + (i : Nat)), by simp [rgL, hi], fun W' _ _ => .int _⟩
/-! ### rules of walks -/
theorem pi_seqk {X : Cx} {tg e : Expr} {te : TE} (he : PE X e te) : PI X tg e (fun σ H R => te σ H fun x H1 => ∃ (kd : Kd) (a : Addr) (xs : List V), x = .ref a ∧ kd.sq X.K H1 a xs ∧ R (kd.J X.K a) H1) := by
  refine ⟨fun pins s σ H R I h => thn (he.run pins s σ H _ I h) fun v s1 ⟨x, H1, I1, r1, q1⟩ => ?_⟩
  obtain ⟨kd, a, xs, rfl, hq, q⟩ := q1
  cases kd with
  | l =>
      cases r1
      obtain ⟨its, rv, p, _⟩ := I1.list hq
      refine wpAny_pyIter_list p.isList ⟨s1.heap.objs.size, [s1.heap.objs.size], _, _, H1, rfl, I1.kept (t' := s1.toks) fun b o e => Heap.get?_push_of_some _ e, turn_list a _, ⟨_, Heap.get?_push_size _ rfl, rfl, rfl⟩, fun b hb => ?_, q⟩
      rw [List.mem_singleton.mp hb]
      exact I1.fpOk (Nat.le_refl _) (I1.hok.fresh (Nat.le_refl _))
  | t =>
      cases r1
      obtain ⟨its, rv, p, _⟩ := I1.tuple hq
      refine wpAny_pyIter_tuple (show s1.heap.IsTuple a its.toArray from p) ⟨s1.heap.objs.size, [s1.heap.objs.size], _, _, H1, rfl, I1.kept (t' := s1.toks) fun b o e => Heap.get?_push_of_some _ e, turn_tuple a _, ⟨_, Heap.get?_push_size _ rfl, rfl, rfl⟩, fun b hb => ?_, q⟩
      rw [List.mem_singleton.mp hb]
      exact I1.fpOk (Nat.le_refl _) (I1.hok.fresh (Nat.le_refl _))
theorem pi_rngk {X : Cx} {tg e : Expr} {te : TE} (he : PE X e te) : PI X tg e (fun σ H R => te σ H fun x H1 => ∃ (a : Addr) (lo hi : Int), x = .ref a ∧ H1 a = some (.rng lo hi) ∧ (-(2 ^ 62) ≤ lo ∧ lo < 2 ^ 62 ∧ -(2 ^ 62) ≤ hi ∧ hi < 2 ^ 62) ∧ R (Itr lo (hi - lo).toNat) H1) := by
  refine ⟨fun pins s σ H R I h => thn (he.run pins s σ H _ I h) fun v s1 ⟨x, H1, I1, r1, q1⟩ => ?_⟩
  obtain ⟨a, lo, hi, rfl, hq, ⟨b1, b2, b3, b4⟩, q⟩ := q1
  cases r1
  obtain ⟨t, u, w, ho⟩ := I1.hok a _ hq
  refine wpAny_pyIter_range ho (small_one b1 b2 b3 b4) ⟨s1.heap.objs.size, [s1.heap.objs.size], _, _, H1, rfl, I1.kept (t' := s1.toks) fun b o e => Heap.get?_push_of_some _ e, turn_range _ lo (hi - lo).toNat, ?_, fun b hb => ?_, q⟩
  · have e1 : lo + ((0 : Nat) : Int) * 1 = lo := by simp
    have e2 : (((hi - lo).toNat : Nat) : Int) - ((0 : Nat) : Int) = Builtin.Range.rangeSize lo hi 1 := by
      rw [rangeSize_one]
      split <;> omega
    show IsRangeIter _ _ (lo + ((0 : Nat) : Int) * 1) ((((hi - lo).toNat : Nat) : Int) - ((0 : Nat) : Int)) 1
    rw [e1, e2]
    exact Heap.get?_push_size _ rfl
  · rw [List.mem_singleton.mp hb]
    exact I1.fpOk (Nat.le_refl _) (I1.hok.fresh (Nat.le_refl _))
section
variable {g : G} {e a b c tg : Expr} {es : List Expr} {δ : List SD} {fr : Bool} {Q : List PyData → Prop} {pos p : Pos}
theorem it_seq (h : E g e δ fun d => ∃ ds, (d = .tuple ds ∨ d = .list ds) ∧ Q ds) : ItJ g e tg δ fr Q := fun X x Γ σ H R r k => by
  refine toWI (pi_seqk (pW X e)) (h X x Γ σ H _ r fun d v H1 h1 e1 p1 => ?_)
  obtain ⟨ds, hd, q⟩ := h1
  rcases hd with rfl | rfl
  · obtain ⟨a, xs, rfl, s1, p2⟩ := dp_tup p1
    refine ⟨.t, a, xs, rfl, ?_, ?_⟩
    · rw [x.K]
      exact grow_t hid_le s1
    · rw [x.K]
      exact k ds _ H1 q e1 (walk_seq .t (fun _ c => CC.hd c) (sq_keep .t (fun _ c => CC.hd c) s1) p2)
  · obtain ⟨a, xs, rfl, s1, p2⟩ := dp_lst p1
    refine ⟨.l, a, xs, rfl, ?_, ?_⟩
    · rw [x.K]
      exact grow_l hid_le s1
    · rw [x.K]
      exact k ds _ H1 q e1 (walk_seq .l (fun _ c => CC.hd c) (sq_keep .l (fun _ c => CC.hd c) s1) p2)
theorem CC.keepOwn {Γ : Dy} {K : PySem.W.Frag} {H : Hp} {σ : L2.St} {i : Nat} {ds : List PyData} {a : Addr} (r : Real K Γ H σ δ) (hs : δ[i]? = some (.own ds)) (hσ : σ[i]? = some (some (.ref a))) : ¬ CC false σ δ a := fun ⟨j, q1, q2⟩ => by
  have ij := r.inj i j _ _ a hs rfl q1 rfl hσ q2
  subst ij
  rw [hs] at q1
  cases q1
/-- a list of one's own, in a comprehension -/
theorem it_enumOwn {i : Nat} {x : Str} {ds : List PyData} {py : Pos} {elts : List Expr} {kk : Nat} {tpos : Pos} (hm : g.T.mg "enumerate" = none) (hs : δ[i]? = some (.own ds)) (q : Q (enumD ds)) (hg : Glob g "enumerate" := by rfl) (hN : g.N[i]? = some x := by rfl) (hv : Vis g.sc x := by first | exact Or.inl rfl | exact Or.inr (Or.inl rfl) | exact Or.inr (Or.inr rfl)) (hd : (x == ("__debug__" : Str)) = false := by decide)
    (hcd : (x == ("__classdict__" : Str)) = false := by decide) : ItJ g (.Call (.Name "enumerate" p) [.Name x py] [] pos) (.Tuple elts kk tpos) δ false Q := fun X xo Γ σ H R r k => by
  refine toWI (pi_enumk (xo.gl hg) (by rw [xo.mg]; exact hm) (pa_cons (pe_var (i := i) (by rw [xo.N]; exact hN) (by rw [xo.sc]; exact hv) hd hcd) pa_nil rfl) rfl) ?_
  obtain ⟨a, xs, hσ, hH, hp⟩ := r.own i ds hs
  refine ⟨.ref a, hσ, .l, a, xs, rfl, .inl (.inl hH), ?_⟩
  rw [xo.K]
  exact k _ _ H q .refl (walk_enumk .l (fun H' hk => .inl (.inl (hk a _ hH (CC.keepOwn r hs hσ)))) hp)
theorem it_enum {elts : List Expr} {kk : Nat} {tpos : Pos} (hm : g.T.mg "enumerate" = none) (h : E g e δ fun d => ∃ ds, (d = .tuple ds ∨ d = .list ds) ∧ Q (enumD ds)) (hg : Glob g "enumerate" := by rfl) (he : ∀ env, starEach [e] env = (false, eval e env) :: starEach [] env := by intro _; rfl) :
    ItJ g (.Call (.Name "enumerate" p) [e] [] pos) (.Tuple elts kk tpos) δ fr Q := fun X xo Γ σ H R r k => by
  refine toWI (pi_enumk (xo.gl hg) (by rw [xo.mg]; exact hm) (pa_cons (pW X e) pa_nil (he _)) (he _)) ?_
  refine h X xo Γ σ H _ r fun d v H1 h1 e1 p1 => ?_
  obtain ⟨ds, hd, q⟩ := h1
  rcases hd with rfl | rfl
  · obtain ⟨a, xs, rfl, s1, p2⟩ := dp_tup p1
    refine ⟨.t, a, xs, rfl, ?_, ?_⟩
    · rw [xo.K]
      exact grow_t hid_le s1
    · rw [xo.K]
      exact k _ _ H1 q e1 (walk_enumk .t (sq_keep .t (fun _ c => CC.hd c) s1) p2)
  · obtain ⟨a, xs, rfl, s1, p2⟩ := dp_lst p1
    refine ⟨.l, a, xs, rfl, ?_, ?_⟩
    · rw [xo.K]
      exact grow_l hid_le s1
    · rw [xo.K]
      exact k _ _ H1 q e1 (walk_enumk .l (sq_keep .l (fun _ c => CC.hd c) s1) p2)
theorem seq_of {K : PySem.W.Frag} {H : Hp} {v : V} {d : PyData} {ds : List PyData} (hd : d = .tuple ds ∨ d = .list ds) (p : Dp K H v d) : ∃ (kd : Kd) (a : Addr) (xs : List V), v = .ref a ∧ kd.sq K H a xs ∧ DpAll K H xs ds := by
  rcases hd with rfl | rfl
  · obtain ⟨a, xs, rfl, s1, p2⟩ := dp_tup p
    exact ⟨.t, a, xs, rfl, s1, p2⟩
  · obtain ⟨a, xs, rfl, s1, p2⟩ := dp_lst p
    exact ⟨.l, a, xs, rfl, s1, p2⟩
theorem it_zip {elts : List Expr} {kk : Nat} {tpos : Pos} (hm : g.T.mg "zip" = none) (h : E g a δ fun d => E g b δ fun d2 => ∃ ds es, (d = .tuple ds ∨ d = .list ds) ∧ (d2 = .tuple es ∨ d2 = .list es) ∧ Q (zipD ds es)) (hg : Glob g "zip" := by rfl) (he : ∀ env, starEach [a, b] env = (false, eval a env) :: starEach [b] env := by intro _; rfl)
    (he2 : ∀ env, starEach [b] env = (false, eval b env) :: starEach [] env := by intro _; rfl) : ItJ g (.Call (.Name "zip" p) [a, b] [] pos) (.Tuple elts kk tpos) δ fr Q := fun X xo Γ σ H R r k => by
  refine toWI (pi_zipk (xo.gl hg) (by rw [xo.mg]; exact hm) (pa_cons (pW X a) (pa_cons (pW X b) pa_nil (he2 _)) (he _)) (he _) (by rw [he2] <;> rfl)) ?_
  refine h X xo Γ σ H _ r fun d v H1 h1 e1 p1 => ?_
  refine h1 X xo Γ σ H1 _ (r.ext e1) fun d2 v2 H2 h2 e2 p2 => ?_
  obtain ⟨ds, es, hd, hd2, q⟩ := h2
  obtain ⟨k1, a1, xs, rfl, s1, q1⟩ := seq_of hd ((r.ext e1).dp e2 p1)
  obtain ⟨k2, a2, ys, rfl, s2, q2⟩ := seq_of hd2 p2
  refine ⟨k1, k2, a1, a2, xs, ys, rfl, ?_, ?_, ?_⟩
  · rw [xo.K]
    exact k1.grow hid_le s1
  · rw [xo.K]
    exact k2.grow hid_le s2
  · rw [xo.K]
    exact k _ _ H2 q (e1.trans e2) (walk_zipk k1 k2 (sq_keep k1 (fun _ c => CC.hd c) s1) (sq_keep k2 (fun _ c => CC.hd c) s2) q1 q2)
theorem it_range1 (hm : g.T.mg "range" = none) (h : E g a δ fun d => ∃ j : Int, d = .int j ∧ j < 2 ^ 62 ∧ -(2 ^ 62) ≤ j ∧ Q (rgL 0 j.toNat)) (hg : Glob g "range" := by rfl) (he : ∀ env, starEach [a] env = (false, eval a env) :: starEach [] env := by intro _; rfl) : ItJ g (.Call (.Name "range" p) [a] [] pos) tg δ fr Q := fun X xo Γ σ H R r k => by
  refine toWI (pi_range1 (xo.gl hg) (by rw [xo.mg]; exact hm) (pa_cons (pW X a) pa_nil (he _)) (he _)) ?_
  refine h X xo Γ σ H _ r fun d v H1 h1 e1 p1 => ?_
  obtain ⟨j, rfl, b1, b2, q⟩ := h1
  exact ⟨j, by rw [dp_int p1], b2, b1, k _ _ H1 q e1 walk_rg⟩
theorem it_range2 (hm : g.T.mg "range" = none) (h : E g a δ fun d => E g b δ fun d2 => ∃ i j : Int, d = .int i ∧ d2 = .int j ∧ (-(2 ^ 62) ≤ i ∧ i < 2 ^ 62 ∧ -(2 ^ 62) ≤ j ∧ j < 2 ^ 62) ∧ Q (rgL i (j - i).toNat)) (hg : Glob g "range" := by rfl) (he : ∀ env, starEach [a, b] env = (false, eval a env) :: starEach [b] env := by intro _; rfl)
    (he2 : ∀ env, starEach [b] env = (false, eval b env) :: starEach [] env := by intro _; rfl) : ItJ g (.Call (.Name "range" p) [a, b] [] pos) tg δ fr Q := fun X xo Γ σ H R r k => by
  refine toWI (pi_range2 (xo.gl hg) (by rw [xo.mg]; exact hm) (pa_cons (pW X a) (pa_cons (pW X b) pa_nil (he2 _)) (he _)) (by rw [he, he2] <;> rfl) (he2 _)) ?_
  refine h X xo Γ σ H _ r fun d v H1 h1 e1 p1 => ?_
  refine h1 X xo Γ σ H1 _ (r.ext e1) fun d2 v2 H2 h2 e2 p2 => ?_
  obtain ⟨i, j, rfl, rfl, bb, q⟩ := h2
  exact ⟨i, j, by rw [dp_int p1, dp_int p2], bb, k _ _ H2 q (e1.trans e2) walk_rg⟩
theorem it_rng {i : Nat} {x : Str} {lo hi : Int} (hs : δ[i]? = some (.rng lo hi)) (bb : -(2 ^ 62) ≤ lo ∧ lo < 2 ^ 62 ∧ -(2 ^ 62) ≤ hi ∧ hi < 2 ^ 62) (q : Q (rgL lo (hi - lo).toNat)) (hN : g.N[i]? = some x := by rfl) (hv : Vis g.sc x := by first | exact Or.inl rfl | exact Or.inr (Or.inl rfl) | exact Or.inr (Or.inr rfl)) (hd : (x == ("__debug__" : Str)) = false := by decide)
    (hcd : (x == ("__classdict__" : Str)) = false := by decide) : ItJ g (.Name x pos) tg δ fr Q := fun X xo Γ σ H R r k => by
  refine toWI (pi_rngk (pe_var (i := i) (by rw [xo.N]; exact hN) (by rw [xo.sc]; exact hv) hd hcd)) ?_
  obtain ⟨a, hσ, hH⟩ := r.rng i lo hi hs
  exact ⟨.ref a, hσ, a, lo, hi, rfl, hH, bb, k _ _ H q .refl walk_rg⟩
end
end Pd

/-! text Ph -/
set_option Elab.async false
set_option linter.all false
set_option maxRecDepth 100000
set_option maxHeartbeats 4000000
/-! Comprehensions over data. -/
namespace Pd
open PySem PySem.Spec PyProof.Rows L2

def G.blk (g : G) (scope : Scope) : G := { g with sc := relS scope g.sc, fc := fun x => scope.names.lookup x == some .cell }
theorem XOk.blk {g : G} {X : Cx} {scope : Scope} (xo : XOk g X) (hk : scope.kind = .function) (s : Shared) (H : Hp) (C : Addr) (cl : List (Str × Addr)) (fp : List Addr) : XOk (g.blk scope) (X.blk s H scope (compEnvC scope cl C X.env) fp) :=
  ⟨xo.prog, xo.w, xo.K, xo.mg, xo.base, xo.N, by show relS scope X.env.scope = relS scope g.sc; rw [xo.sc], xo.nd, xo.calm, xo.room, rfl, fun x h => h, hk, xo.stk⟩
theorem wipe_get {σ : L2.St} {i : Nat} : ∀ {vs : List Nat}, i ∈ vs → i < σ.length → (wipe σ vs)[i]? = some none
  | v :: vs, h, hl => by
    unfold L2.wipe
    by_cases e : v = i
    · subst e
      exact List.getElem?_set_self (by rw [wipe_length]; exact hl)
    · rw [List.getElem?_set_ne e]
      exact wipe_get ((List.mem_cons.mp h).elim (fun q => absurd q.symm e) id) hl
theorem wipe_wipe {σ : L2.St} {vs : List Nat} : wipe (wipe σ vs) vs = wipe σ vs := by
  refine List.ext_getElem? fun i => ?_
  by_cases h : i ∈ vs
  · by_cases hl : i < σ.length
    · rw [wipe_get h (by rw [wipe_length]; exact hl), wipe_get h hl]
    · rw [List.getElem?_eq_none (by rw [wipe_length, wipe_length]; omega), List.getElem?_eq_none (by rw [wipe_length]; omega)]
  · rw [wipe_out h]
section
variable {g : G} {X : Cx} {Γ : Dy} {H : Hp} {σ : L2.St} {δ : List SD} {tt : TT} {te : TE} {R : VK}
/-- a turn's tests and item: an item of P, or none -/
def TnOk (K : PySem.W.Frag) (tt : TT) (te : TE) (δ : List SD) (P : PyData → Prop) (N : Prop) : Prop := ∀ (Γ : Dy) (σ : L2.St) (H : Hp) (R : Option V → Hp → Prop), Real K Γ H σ δ →
  (∀ d v H', P d → Ext (Wl σ δ) H H' → Dp K (hid (Hd Γ σ δ) H') v d → R (some v) H') → (N → ∀ H', Ext (Wl σ δ) H H' → R none H') → tt σ H fun b H3 => if b = true then te σ H3 fun y H4 => R (some y) H4 else R none H3
/-- what the walk of a comprehension asks -/
def LcC (K : PySem.W.Frag) (tt : TT) (te : TE) (δ : List SD) (vs js : List Nat) (QF : List PyData → Prop) (ds : List PyData) : Prop := ∃ I : Nat → List PyData → Prop, I 0 [] ∧ ds.length ≤ 100000 ∧
  (∀ i acc d, ds[i]? = some d → acc.length ≤ i → I i acc → ∃ ds', unp js d = some ds' ∧ TnOk K tt te (bindL (wipeD δ vs) js ds') (fun y => I (i + 1) (acc ++ [y])) (I (i + 1) acc)) ∧ ∀ acc, acc.length ≤ ds.length → I ds.length acc → QF acc
theorem lc_data {tg iter : Expr} {vs js : List Nat} {QF : List PyData → Prop} (xo : XOk g X) (r : Real g.T.K Γ H σ δ) (hv : (vs.all fun v => nOw δ v) = true) (hj : (js.all fun j => decide (j ∈ vs)) = true)
    (k : ∀ ds p xs H', QF ds → Ext (Wl σ δ) H H' → H p = none → H' p = some (.lst xs) → DpAll g.T.K (hid (fun a => Hd Γ σ δ a ∨ a = p) H') xs ds → R (.ref p) H') (h : ItJ g iter tg δ false (LcC g.T.K tt te δ vs js QF)) :
    tLc (tWI X tg iter) (gT g.T.K js) tt te vs σ H R := by
  refine h X xo Γ σ H _ r fun ds J H1 hc e1 wd D hD => ?_
  obtain ⟨I, i0, hlen, turn, fin⟩ := hc
  have r1 := r.ext e1
  have nW : ¬ Wl σ δ D := fun w => by
    obtain ⟨o, z⟩ := r1.dom (.inr w.o)
    rw [hD] at z
    cases z
  have hjv : ∀ j ∈ js, j ∈ vs := fun j hj' => by simpa using List.all_eq_true.mp hj j hj'
  have hdE : Hd { Γ with W0 := fun a => Γ.W0 a ∨ a = D } σ δ = fun a => Hd Γ σ δ a ∨ a = D := by
    funext a
    unfold Hd
    apply propext
    constructor
    · rintro ((w | w) | w)
      · exact .inl (.inl w)
      · exact .inr w
      · exact .inl (.inr w)
    · rintro ((w | w) | w)
      · exact .inl (.inl w)
      · exact .inr w
      · exact .inl (.inr w)
  have W : Walk J ds.length (fun H => ∀ a o, H1 a = some o → ¬ CC false σ δ a → H a = some o) (fun i H x H' => Grow H H' ∧ ∃ d, ds[i]? = some d ∧ ∀ W', (∀ a, W' a → ∃ o, H a = some o) → Grow (hid (Hd Γ σ δ) H1) (hid W' H) → Dp g.T.K (hid W' H') x d) :=
    ⟨fun i H hi hk => wd.goes i H hi hk, fun H hk => wd.stops H hk, fun i H x H' hi hk hy => wd.yields i H x H' hi hk hy⟩
  refine lc_it W (Qd := fun H => R (.ref D) H) (fun i H2 => ∃ acc ys, I i acc ∧ acc.length ≤ i ∧ H2 D = some (.lst ys) ∧ Ext (Wl σ δ) H1 H2 ∧ DpAll g.T.K (hid (fun a => Hd Γ σ δ a ∨ a = D) H2) ys acc)
    ⟨[], [], i0, Nat.le_refl _, upd_same, .new hD, .nil⟩ (fun i H2 _ ⟨acc, ys, _, _, _, e, _⟩ => fun a o z n => e.keep a o z n) (fun i x H2 H3 hi pv hy => ?_) fun H2 ⟨acc, ys, q1, q2, q3, q4, q5⟩ => k acc D ys H2 (fin acc q2 q1) (e1.trans q4) (r.back e1 hD) q3 q5
  obtain ⟨acc, ys, q1, q2, q3, q4, q5⟩ := pv
  obtain ⟨gr, d, ed, hx⟩ := hy
  obtain ⟨ds', hu, tn⟩ := turn i acc d ed q2 q1
  have rD := r1.hideD hD q4 q3
  have grw : Grow (hid (Hd Γ σ δ) H1) (hid (Hd { Γ with W0 := fun a => Γ.W0 a ∨ a = D } σ δ) H2) := by
    rw [hdE]
    exact hid_grow fun a o z n => ⟨fun w => w.elim n fun w => (by rw [w, hD] at z; cases z), q4.keep a o z fun w => n (.inr w.o)⟩
  have px := hx _ (fun a w => rD.dom w) grw
  have rD' := rD.ext (.grow gr)
  obtain ⟨rw', sm⟩ := rD'.wipe hv
  have hjn : (js.all fun j => nOw (wipeD δ vs) j) = true := List.all_eq_true.mpr fun j hj' => nOw_wipe (List.all_eq_true.mp hv j (hjv j hj'))
  refine bind_ok rw' hjn hu (by rw [sm.hd]; exact px) fun σ2 r2 s2 w2 => ⟨by rw [w2 vs hjv, wipe_wipe], ?_⟩
  have s3 := sm.trans s2
  refine tn _ σ2 H3 (fun oy H4 => match oy with
    | some y => ∃ acc, H4 D = some (.lst acc) ∧ acc.length < sizeLine ∧ (fun i H2 => ∃ acc ys, I i acc ∧ acc.length ≤ i ∧ H2 D = some (.lst ys) ∧ Ext (Wl σ δ) H1 H2 ∧ DpAll g.T.K (hid (fun a => Hd Γ σ δ a ∨ a = D) H2) ys acc) (i + 1) (upd H4 D (.lst (acc ++ [y])))
    | none => (fun i H2 => ∃ acc ys, I i acc ∧ acc.length ≤ i ∧ H2 D = some (.lst ys) ∧ Ext (Wl σ δ) H1 H2 ∧ DpAll g.T.K (hid (fun a => Hd Γ σ δ a ∨ a = D) H2) ys acc) (i + 1) H4) r2 (fun dv v H4 hP ex pv => ?_) fun hN H4 ex => ?_
  · rw [s3.wlE] at ex
    rw [s3.hd, hdE] at pv
    have hD4 : H4 D = some (.lst ys) := ex.keep D _ (gr D _ q3) nW
    have e4 : Ext (Wl σ δ) H1 H4 := q4.trans ((Ext.grow gr).trans ex)
    have gu : Grow (hid (fun a => Hd Γ σ δ a ∨ a = D) H4) (hid (fun a => Hd Γ σ δ a ∨ a = D) (upd H4 D (.lst (ys ++ [v])))) := hid_grow fun a o z n => ⟨n, by rw [upd_ne fun e => n (.inr e)]; exact z⟩
    have gk : Grow (hid (fun a => Hd Γ σ δ a ∨ a = D) H2) (hid (fun a => Hd Γ σ δ a ∨ a = D) H4) := hid_grow fun a o z n => ⟨n, ex.keep a o (gr a o z) fun w => n (.inl (.inr w.o))⟩
    have hyl : ys.length = acc.length := dpAll_len q5
    refine ⟨ys, hD4, Nat.lt_of_lt_of_le (show ys.length < 100000 by omega) (by decide), acc ++ [dv], ys ++ [v], hP, by rw [List.length_append]; exact Nat.succ_le_succ q2, upd_same, ⟨fun a o z n => ?_, fun a w z => ?_⟩, dpAll_mono gu (dpAll_app (dpAll_mono gk q5) (.cons pv .nil))⟩
    · rw [upd_ne (ne_of_none z hD)]
      exact e4.keep a o z n
    · obtain ⟨i', j', k', z'⟩ := e4.well a w z
      have na : a ≠ D := fun e => nW (by rw [← e]; exact w)
      exact ⟨i', j', k', by rw [upd_ne na]; exact z'⟩
  · rw [s3.wlE] at ex
    have hD4 : H4 D = some (.lst ys) := ex.keep D _ (gr D _ q3) nW
    exact ⟨acc, ys, hN, Nat.le_succ_of_le q2, hD4, q4.trans ((Ext.grow gr).trans ex), dpAll_mono (hid_grow fun a o z n => ⟨n, ex.keep a o (gr a o z) fun w => n (.inl (.inr w.o))⟩) q5⟩
end
def teB (X : Cx) (scope : Scope) (e : Expr) : TE := fun σ H Q => ∀ (s : Shared) (H0 : Hp) (C : Addr) (cl : List (Str × Addr)) (fp : List Addr), tW (X.blk s H0 scope (compEnvC scope cl C X.env) fp) e σ H Q
def ttB (X : Cx) (scope : Scope) (e : Expr) : TT := fun σ H Q => ∀ (s : Shared) (H0 : Hp) (C : Addr) (cl : List (Str × Addr)) (fp : List Addr), tWT (X.blk s H0 scope (compEnvC scope cl C X.env) fp) e σ H Q
theorem peB (X : Cx) (scope : Scope) (e : Expr) (s : Shared) (H0 : Hp) (C : Addr) (cl : List (Str × Addr)) (fp : List Addr) : PE (X.blk s H0 scope (compEnvC scope cl C X.env) fp) e (teB X scope e) := ⟨fun pins s' σ H Q I h => h s H0 C cl fp pins s' I⟩
theorem ptB (X : Cx) (scope : Scope) (e : Expr) (s : Shared) (H0 : Hp) (C : Addr) (cl : List (Str × Addr)) (fp : List Addr) : PTs (X.blk s H0 scope (compEnvC scope cl C X.env) fp) [e] (ttB X scope e) := pts_one ⟨fun pins s' σ H Q I h => h s H0 C cl fp pins s' I⟩
section
variable {g : G} {elt c tg iter : Expr} {scope : Scope} {own : List (Str × Nat)} {js : List Nat} {δ : List SD} {QF : List PyData → Prop} {pos : Pos}
/-- what is asked of the walk, in the judgements -/
def Lc0 (g : G) (elt : Expr) (scope : Scope) (δ : List SD) (vs js : List Nat) (QF : List PyData → Prop) (ds : List PyData) : Prop := ∃ I : Nat → List PyData → Prop, I 0 [] ∧ ds.length ≤ 100000 ∧
  (∀ i acc d, ds[i]? = some d → acc.length ≤ i → I i acc → ∃ ds', unp js d = some ds' ∧ E (g.blk scope) elt (bindL (wipeD δ vs) js ds') (fun y => I (i + 1) (acc ++ [y]))) ∧ ∀ acc, acc.length ≤ ds.length → I ds.length acc → QF acc
def Lc1 (g : G) (c elt : Expr) (scope : Scope) (δ : List SD) (vs js : List Nat) (QF : List PyData → Prop) (ds : List PyData) : Prop := ∃ I : Nat → List PyData → Prop, I 0 [] ∧ ds.length ≤ 100000 ∧
  (∀ i acc d, ds[i]? = some d → acc.length ≤ i → I i acc → ∃ ds', unp js d = some ds' ∧ B (g.blk scope) c (bindL (wipeD δ vs) js ds') (fun b => (b = true → E (g.blk scope) elt (bindL (wipeD δ vs) js ds') (fun y => I (i + 1) (acc ++ [y]))) ∧ (b = false → I (i + 1) acc))) ∧ ∀ acc, acc.length ≤ ds.length → I ds.length acc → QF acc
theorem ItJ.imp {e : Expr} {fr : Bool} {Q Q' : List PyData → Prop} (h : ItJ g e tg δ fr Q) (q : ∀ ds, Q ds → Q' ds) : ItJ g e tg δ fr Q' := fun X x Γ σ H R r k => h X x Γ σ H R r fun ds J H1 hd => k ds J H1 (q ds hd)
theorem Lc0.core {X : Cx} (xo : XOk g X) (hk : scope.kind = .function) {vs : List Nat} (h : ItJ g iter tg δ false (Lc0 g elt scope δ vs js QF)) : ItJ g iter tg δ false (LcC g.T.K tYes (teB X scope elt) δ vs js QF) := h.imp fun ds ⟨I, i0, hl, tn, fin⟩ =>
  ⟨I, i0, hl, fun i acc d ed ha hi => by
    obtain ⟨ds', hu, he⟩ := tn i acc d ed ha hi
    refine ⟨ds', hu, fun Γ σ H R r ky kn => ?_⟩
    show (if true = true then teB X scope elt σ H fun y H4 => R (some y) H4 else R none H)
    rw [if_pos rfl]
    exact fun s H0 C cl fp => he _ (xo.blk hk s H0 C cl fp) Γ σ H _ r fun d v H' hP ex pv => ky d v H' hP ex pv, fin⟩
theorem Lc1.core {X : Cx} (xo : XOk g X) (hk : scope.kind = .function) {vs : List Nat} (h : ItJ g iter tg δ false (Lc1 g c elt scope δ vs js QF)) : ItJ g iter tg δ false (LcC g.T.K (ttB X scope c) (teB X scope elt) δ vs js QF) := h.imp fun ds ⟨I, i0, hl, tn, fin⟩ =>
  ⟨I, i0, hl, fun i acc d ed ha hi => by
    obtain ⟨ds', hu, hb⟩ := tn i acc d ed ha hi
    refine ⟨ds', hu, fun Γ σ H R r ky kn => ?_⟩
    intro s H0 C cl fp
    refine hb _ (xo.blk hk s H0 C cl fp) Γ σ H _ r fun b H1 ⟨h1, h2⟩ e1 => ?_
    cases b with
    | true =>
      rw [if_pos rfl]
      intro s H0 C cl fp
      exact h1 rfl _ (xo.blk hk s H0 C cl fp) Γ σ H1 _ (r.ext e1) fun d v H' hP ex pv => ky d v H' hP (e1.trans ex) pv
    | false =>
      rw [if_neg Bool.false_ne_true]
      exact kn (h2 rfl) H1 e1, fin⟩
/-- [elt for tg in iter], a new list -/
theorem ef_lc (own : List (Str × Nat)) (js : List Nat) (h : ItJ g iter tg δ false (Lc0 g elt scope δ (own.map (·.2)) js QF)) (ht : TgOk (g.blk scope) tg js) (hb : blkC g.N g.sc scope own = true := by rfl) (hv : ((own.map (·.2)).all fun v => nOw δ v) = true := by rfl)
    (hj : (js.all fun j => decide (j ∈ own.map (·.2))) = true := by rfl) (hs : ∀ env x, foldedSetIterable iter env x = pure x := by intro _ _; rfl) : EF g (.ListComp elt [⟨tg, iter, [], 0⟩] scope pos) δ QF := fun X xo Γ σ H R r k => by
  have ok : BlkOk X.N X.env.scope scope own := by
    rw [xo.N, xo.sc]
    exact blkOk_by hb
  refine toW (pe_lc xo.calm (by rw [xo.N]; exact xo.nd) (pWI X tg iter) ok (g := gT g.T.K js) (tt := tYes) (te := teB X scope elt) (fun s H0 C cl fp => ht _ (xo.blk ok.kind s H0 C cl fp)) (fun _ _ _ _ _ => pts_nil) (peB X scope elt) (hs _)) ?_
  exact lc_data xo r hv hj k (Lc0.core xo ok.kind h)
theorem ef_lcIf (own : List (Str × Nat)) (js : List Nat) (h : ItJ g iter tg δ false (Lc1 g c elt scope δ (own.map (·.2)) js QF)) (ht : TgOk (g.blk scope) tg js) (hb : blkC g.N g.sc scope own = true := by rfl) (hv : ((own.map (·.2)).all fun v => nOw δ v) = true := by rfl)
    (hj : (js.all fun j => decide (j ∈ own.map (·.2))) = true := by rfl) (hs : ∀ env x, foldedSetIterable iter env x = pure x := by intro _ _; rfl) : EF g (.ListComp elt [⟨tg, iter, [c], 0⟩] scope pos) δ QF := fun X xo Γ σ H R r k => by
  have ok : BlkOk X.N X.env.scope scope own := by
    rw [xo.N, xo.sc]
    exact blkOk_by hb
  refine toW (pe_lc xo.calm (by rw [xo.N]; exact xo.nd) (pWI X tg iter) ok (g := gT g.T.K js) (tt := ttB X scope c) (te := teB X scope elt) (fun s H0 C cl fp => ht _ (xo.blk ok.kind s H0 C cl fp)) (ptB X scope c) (peB X scope elt) (hs _)) ?_
  exact lc_data xo r hv hj k (Lc1.core xo ok.kind h)
/-! ### the forms one uses -/
/-- item by item -/
theorem Lc0.map {vs : List Nat} {ds : List PyData} (P : Nat → PyData → PyData → Prop) (hl : ds.length ≤ 100000) (h : ∀ i d, ds[i]? = some d → ∃ ds', unp js d = some ds' ∧ E (g.blk scope) elt (bindL (wipeD δ vs) js ds') (P i d)) (q : ∀ ys : List PyData, ys.length = ds.length → (∀ i d y, ds[i]? = some d → ys[i]? = some y → P i d y) → QF ys) : Lc0 g elt scope δ vs js QF ds := by
  refine ⟨fun i acc => acc.length = i ∧ ∀ j d y, ds[j]? = some d → acc[j]? = some y → P j d y, ⟨rfl, fun j d y _ e => by simp at e⟩, hl, fun i acc d ed _ ha => ?_, fun acc _ ha => q acc ha.1 ha.2⟩
  obtain ⟨ds', hu, he⟩ := h i d ed
  refine ⟨ds', hu, he.imp fun y hy => ⟨by rw [List.length_append, ha.1] <;> rfl, fun j d' y' e1 e2 => ?_⟩⟩
  rcases Nat.lt_trichotomy j acc.length with z | z | z
  · rw [List.getElem?_append_left z] at e2
    exact ha.2 j d' y' e1 e2
  · rw [List.getElem?_append_right (by omega), z, Nat.sub_self] at e2
    cases e2
    have ij : j = i := z.trans ha.1
    subst ij
    rw [ed] at e1
    cases e1
    exact hy
  · rw [List.getElem?_eq_none (by rw [List.length_append]; simp; omega)] at e2
    cases e2
/-- a function of the item alone -/
theorem Lc0.fn {vs : List Nat} {ds : List PyData} (f : PyData → PyData) (hl : ds.length ≤ 100000) (h : ∀ d ∈ ds, ∃ ds', unp js d = some ds' ∧ E (g.blk scope) elt (bindL (wipeD δ vs) js ds') (fun y => y = f d)) (q : QF (ds.map f)) : Lc0 g elt scope δ vs js QF ds :=
  Lc0.map (fun _ d y => y = f d) hl (fun i d e => h d (List.mem_of_getElem? e)) fun ys hl' hy => by
    have e : ys = ds.map f := List.ext_getElem? fun i => by
      rw [List.getElem?_map]
      cases e1 : ds[i]? with
      | none =>
        have := List.getElem?_eq_none_iff.mp e1
        exact List.getElem?_eq_none (by omega)
      | some d =>
        have hi := (List.getElem?_eq_some_iff.mp e1).1
        have e2 : ys[i]? = some ys[i] := List.getElem?_eq_getElem (by omega)
        rw [e2, hy i d _ e1 e2] <;> rfl
    rw [e]
    exact q
/-- chosen items -/
theorem Lc1.fn {vs : List Nat} {ds : List PyData} (p : PyData → Bool) (f : PyData → PyData) (hl : ds.length ≤ 100000) (h : ∀ d ∈ ds, ∃ ds', unp js d = some ds' ∧ B (g.blk scope) c (bindL (wipeD δ vs) js ds') (fun b => b = p d) ∧ (p d = true → E (g.blk scope) elt (bindL (wipeD δ vs) js ds') (fun y => y = f d))) (q : QF ((ds.filter p).map f)) : Lc1 g c elt scope δ vs js QF ds := by
  refine ⟨fun i acc => acc = ((ds.take i).filter p).map f, rfl, hl, fun i acc d ed _ ha => ?_, fun acc _ ha => by rw [ha, List.take_length]; exact q⟩
  obtain ⟨ds', hu, hb, he⟩ := h d (List.mem_of_getElem? ed)
  have et : ds.take (i + 1) = ds.take i ++ [d] := by rw [List.take_add_one, ed] <;> rfl
  refine ⟨ds', hu, hb.imp fun b eb => ?_⟩
  have ha' : acc = ((ds.take i).filter p).map f := ha
  have e3 : ((ds.take (i + 1)).filter p).map f = acc ++ ([d].filter p).map f := by rw [et, List.filter_append, List.map_append, ← ha']
  show (b = true → E (g.blk scope) elt (bindL (wipeD δ vs) js ds') fun y => acc ++ [y] = ((ds.take (i + 1)).filter p).map f) ∧ (b = false → acc = ((ds.take (i + 1)).filter p).map f)
  rw [e3]
  cases z : p d with
  | true =>
    rw [z] at eb
    subst eb
    exact ⟨fun _ => (he z).imp fun y ey => by rw [ey, List.filter_cons_of_pos z] <;> rfl, fun w => (by cases w)⟩
  | false =>
    rw [z] at eb
    subst eb
    exact ⟨fun w => (by cases w), fun _ => by rw [List.filter_cons_of_neg (by rw [z]; exact Bool.false_ne_true)]; simp⟩
end
end Pd

/-! text Pi -/
set_option Elab.async false
set_option linter.all false
set_option maxRecDepth 100000
set_option maxHeartbeats 4000000
/-! Statements over data. -/
namespace Pd
open PySem PySem.Spec PyProof.Rows L2

/-! ### freezing an own list; viewing it -/
section
variable {K : PySem.W.Frag} {Γ : Dy} {H H' : Hp} {σ : L2.St} {δ : List SD}
theorem setD_get {i j : Nat} {s t u : SD} (h : δ[i]? = some t) (e : (δ.set i s)[j]? = some u) : (j = i ∧ u = s) ∨ (j ≠ i ∧ δ[j]? = some u) := get_set e
theorem Real.freeze (r : Real K Γ H σ δ) {i : Nat} {ds : List PyData} (h : δ[i]? = some (.own ds)) : Real K Γ H σ (δ.set i (.sh (.list ds))) := by
  obtain ⟨a, xs, eσ, hH, p⟩ := r.own i ds h
  have wo : ∀ b, Wo σ (δ.set i (.sh (.list ds))) b → Wo σ δ b ∧ b ≠ a := fun b ⟨j, s, h1, h2, h3⟩ => by
    rcases get_set h1 with ⟨_, e⟩ | ⟨n, h1⟩
    · rw [e] at h2
      cases h2
    · refine ⟨⟨j, s, h1, h2, h3⟩, fun e => n ?_⟩
      subst e
      exact r.inj j i s _ b h1 h2 h rfl h3 eσ
  have gr : Grow (hid (Hd Γ σ δ) H) (hid (Hd Γ σ (δ.set i (.sh (.list ds)))) H) := hid_grow fun b o e n => ⟨fun w => n (w.imp id fun w => (wo b w).1), e⟩
  have na : ¬ Hd Γ σ (δ.set i (.sh (.list ds))) a := fun w => w.elim (fun w => (r.ow0 i ds a h eσ).1 w) fun w => (wo a w).2 rfl
  refine ⟨by rw [List.length_set]; exact r.len, r.fr, r.w0, r.oa, fun j d h1 => ?_, fun j es h1 => ?_, fun j h1 => ?_, fun j lo hi h1 => ?_, fun b w => r.ch b (wo b w).1, fun j k s t b h1 h2 h3 h4 h5 h6 => ?_, fun j es b h1 h2 => ?_, fun n i2 j2 k2 h1 => ?_⟩
  · rcases get_set h1 with ⟨rfl, e⟩ | ⟨n, h1⟩
    · cases e
      exact ⟨.ref a, eσ, .lst (.inl (.inl (hid_mk na hH))) (dpAll_mono gr p)⟩
    · obtain ⟨v, e1, p1⟩ := r.sh j d h1
      exact ⟨v, e1, dp_mono gr p1⟩
  · rcases get_set h1 with ⟨_, e⟩ | ⟨n, h1⟩
    · cases e
    · obtain ⟨b, ys, e1, e2, p1⟩ := r.own j es h1
      exact ⟨b, ys, e1, e2, dpAll_mono gr p1⟩
  · rcases get_set h1 with ⟨_, e⟩ | ⟨n, h1⟩
    · cases e
    · exact r.well j h1
  · rcases get_set h1 with ⟨_, e⟩ | ⟨n, h1⟩
    · cases e
    · exact r.rng j lo hi h1
  · rcases get_set h1 with ⟨_, e⟩ | ⟨n, h1⟩
    · rw [e] at h2
      cases h2
    · rcases get_set h3 with ⟨_, e⟩ | ⟨n, h3⟩
      · rw [e] at h4
        cases h4
      · exact r.inj j k s t b h1 h2 h3 h4 h5 h6
  · rcases get_set h1 with ⟨_, e⟩ | ⟨n, h1⟩
    · cases e
    · exact r.ow0 j es b h1 h2
  · rcases get_set h1 with ⟨_, e⟩ | ⟨n, h1⟩
    · cases e
    · exact r.pw _ _ _ _ h1
theorem wl_freeze {i : Nat} {ds : List PyData} (h : δ[i]? = some (.own ds)) : Wl σ (δ.set i (.sh (.list ds))) = Wl σ δ := by
  funext a
  apply propext
  constructor
  · rintro ⟨j, h1, h2⟩
    rcases get_set h1 with ⟨_, e⟩ | ⟨n, h1⟩
    · cases e
    · exact ⟨j, h1, h2⟩
  · rintro ⟨j, h1, h2⟩
    refine ⟨j, ?_, h2⟩
    rw [List.getElem?_set_ne]
    · exact h1
    · intro e
      subst e
      rw [h] at h1
      cases h1
-- data with no part that is the list L
mutual
def Av (L : List PyData) : PyData → Prop
  | .list es => es ≠ L ∧ AvAll L es
  | .tuple es => AvAll L es
  | .dict _ => False
  | _ => True
def AvAll (L : List PyData) : List PyData → Prop
  | [] => True
  | d :: ds => Av L d ∧ AvAll L ds
end
mutual
theorem av_noL {L : List PyData} : ∀ {d : PyData}, noL d = true → Av L d
  | .none, _ => trivial
  | .bool _, _ => trivial
  | .int _, _ => trivial
  | .str _, _ => trivial
  | .list _, h => by cases h
  | .tuple ds, h => avAll_noL (ds := ds) h
  | .dict _, h => by cases h
theorem avAll_noL {L : List PyData} : ∀ {ds : List PyData}, noLs ds = true → AvAll L ds
  | [], _ => trivial
  | d :: ds, h => by
    obtain ⟨h1, h2⟩ := Bool.and_eq_true_iff.mp (show (noL d && noLs ds) = true from h)
    exact ⟨av_noL h1, avAll_noL h2⟩
end
-- a list at p whose items are worth L is not touched by data without L
mutual
theorem dp_av {W W' : Addr → Prop} {p : Addr} {L : List PyData} (hW : ∀ a o, H a = some o → ¬ W a → a ≠ p → ¬ W' a) (hp : ∀ ys ds, SqL K H p ys → DpAll K (hid W H) ys ds → ds = L) (ht : ∀ ys, ¬ Rd H p (.tup ys)) : ∀ {d : PyData} {v : V}, Av L d → Dp K (hid W H) v d → Dp K (hid W' H) v d
  | .none, _, _, h => by
    cases h
    exact .non
  | .bool b, _, _, h => by
    cases h
    exact .bl b
  | .int i, _, _, h => by
    cases h
    exact .int i
  | .str x, _, _, h => by
    cases h
    exact .str x
  | .list ds, _, n, h => by
    cases h with
    | @lst a xs _ hs ha =>
      have na : a ≠ p := fun e => n.1 (hp xs ds (by rw [← e]; exact grow_l hid_le hs) ha)
      refine .lst (hs.imp (fun q => ?_) id) (dpAll_av hW hp ht n.2 ha)
      rcases q with q | ⟨o, q⟩
      · obtain ⟨n1, q'⟩ := hid_some q
        exact .inl (hid_mk (hW a _ q' n1 na) q')
      · obtain ⟨n1, q'⟩ := hid_some q
        exact .inr ⟨o, hid_mk (hW a _ q' n1 na) q'⟩
  | .tuple ds, _, n, h => by
    cases h with
    | @tup a xs _ hs ha =>
      refine .tup (hs.imp (fun q => ?_) id) (dpAll_av hW hp ht n ha)
      have na : a ≠ p := fun e => ht xs (by rw [← e]; exact grow_rd hid_le q)
      rcases q with q | ⟨o, q⟩
      · obtain ⟨n1, q'⟩ := hid_some q
        exact .inl (hid_mk (hW a _ q' n1 na) q')
      · obtain ⟨n1, q'⟩ := hid_some q
        exact .inr ⟨o, hid_mk (hW a _ q' n1 na) q'⟩
  | .dict _, _, n, h => by cases h
theorem dpAll_av {W W' : Addr → Prop} {p : Addr} {L : List PyData} (hW : ∀ a o, H a = some o → ¬ W a → a ≠ p → ¬ W' a) (hp : ∀ ys ds, SqL K H p ys → DpAll K (hid W H) ys ds → ds = L) (ht : ∀ ys, ¬ Rd H p (.tup ys)) : ∀ {ds : List PyData} {vs : List V}, AvAll L ds → DpAll K (hid W H) vs ds → DpAll K (hid W' H) vs ds
  | [], _, _, h => by
    cases h
    exact .nil
  | d :: ds, _, n, h => by
    cases h with
    | cons a b => exact .cons (dp_av hW hp ht n.1 a) (dpAll_av hW hp ht n.2 b)
end
end
-- a value tells its data
mutual
theorem dp_inj {X : Cx} {pins : List (Addr × Obj)} {σ : L2.St} {H : Hp} {s : Shared} (I : Inv X pins σ H s) : ∀ {d e : PyData} {v : V}, Dp X.K H v d → Dp X.K H v e → d = e
  | .none, _, _, h, k => by
    cases h
    cases k
    rfl
  | .bool b, _, _, h, k => by
    cases h
    cases k
    rfl
  | .int i, _, _, h, k => by
    cases h
    cases k
    rfl
  | .str x, _, _, h, k => by
    cases h
    cases k
    rfl
  | .list ds, _, _, h, k => by
    cases h with
    | lst hs ha =>
    cases k with
    | lst hs' ha' =>
      have e := I.list_inj hs hs'
      subst e
      rw [dpAll_inj I ha ha']
    | tup hs' ha' =>
      obtain ⟨its, _, p, _⟩ := I.list hs
      obtain ⟨its', _, p', _⟩ := I.tuple hs'
      obtain ⟨o, n, e, c, _⟩ := p
      obtain ⟨o', e', c', _⟩ := p'
      rw [e] at e'
      cases e'
      rw [c] at c'
      injection c' with z
      exact absurd z (by decide)
  | .tuple ds, _, _, h, k => by
    cases h with
    | tup hs ha =>
    cases k with
    | tup hs' ha' =>
      have e := I.tuple_inj hs hs'
      subst e
      rw [dpAll_inj I ha ha']
    | lst hs' ha' =>
      obtain ⟨its, _, p, _⟩ := I.list hs'
      obtain ⟨its', _, p', _⟩ := I.tuple hs
      obtain ⟨o, n, e, c, _⟩ := p
      obtain ⟨o', e', c', _⟩ := p'
      rw [e] at e'
      cases e'
      rw [c] at c'
      injection c' with z
      exact absurd z (by decide)
  | .dict _, _, _, h, _ => by cases h
theorem dpAll_inj {X : Cx} {pins : List (Addr × Obj)} {σ : L2.St} {H : Hp} {s : Shared} (I : Inv X pins σ H s) : ∀ {ds es : List PyData} {vs : List V}, DpAll X.K H vs ds → DpAll X.K H vs es → ds = es
  | [], _, _, h, k => by
    cases h
    cases k
    rfl
  | d :: ds, _, _, h, k => by
    cases h with
    | cons a b =>
    cases k with
    | cons a' b' => rw [dp_inj I a a', dpAll_inj I b b']
end
section
variable {g : G} {e a b c : Expr} {es : List Expr} {δ : List SD} {Q : PyData → Prop} {pos : Pos}
/-- an own list handed to an expression that but reads it, and whose value does not hold it -/
theorem e_view {i : Nat} {ds : List PyData} (hs : δ[i]? = some (.own ds)) (h : E g e (δ.set i (.sh (.list ds))) fun d => Av ds d ∧ Q d) : E g e δ Q := fun X xo Γ σ H R r k => by
  have rf := r.freeze hs
  obtain ⟨p, xs, eσ, hH, hp⟩ := r.own i ds hs
  intro pins s I
  refine thn (h X xo Γ σ H (fun v H' => ∃ d, Av ds d ∧ Q d ∧ Ext (Wl σ δ) H H' ∧ Dp g.T.K (hid (Hd Γ σ (δ.set i (.sh (.list ds)))) H') v d) rf (fun d v H' hd ex pd => ⟨d, hd.1, hd.2, by rw [← wl_freeze hs]; exact ex, pd⟩) pins s I) fun u s' ⟨v, H', I', rv, d, hav, hq, ex, pd⟩ => ?_
  refine ⟨v, H', I', rv, k d v H' hq ex ?_⟩
  have nl : ¬ Wl σ δ p := fun ⟨j, q1, q2⟩ => by
    have ij := r.inj i j _ _ p hs rfl q1 rfl eσ q2
    subst ij
    rw [hs] at q1
    cases q1
  have hH' : H' p = some (.lst xs) := ex.keep p _ hH nl
  have hp' := r.dpAll ex hp
  refine dp_av (W := Hd Γ σ (δ.set i (.sh (.list ds)))) (p := p) (fun b o _ n nb w => ?_) (fun ys es hy ha => ?_) (fun ys hy => ?_) hav pd
  · rcases w with w | ⟨j, t, h1, h2, h3⟩
    · exact n (.inl w)
    · refine n (.inr ⟨j, t, ?_, h2, h3⟩)
      rw [List.getElem?_set_ne]
      · exact h1
      · intro e
        subst e
        rw [eσ] at h3
        cases h3
        exact nb rfl
  · have hy' : SqL X.K H' p ys := by
      rw [xo.K]
      exact hy
    have e1 : ys = xs := I'.list_inj hy' (.inl (.inl hH'))
    subst e1
    have a1 : DpAll X.K H' ys es := by
      rw [xo.K]
      exact dpAll_mono hid_le ha
    have a2 : DpAll X.K H' ys ds := by
      rw [xo.K]
      exact dpAll_mono hid_le hp'
    exact dpAll_inj I' a1 a2
  · rcases hy with q | ⟨o, q⟩
    · rw [hH'] at q
      cases q
    · rw [hH'] at q
      cases q
end
end Pd

/-! text Pj -/
set_option Elab.async false
set_option linter.all false
set_option maxRecDepth 100000
set_option maxHeartbeats 4000000
/-! Statements over data. -/
namespace Pd
open PySem PySem.Spec PyProof.Rows L2

/-! ### what is stored in a slot -/
def SOk (K : PySem.W.Frag) (Γ : Dy) (σ : L2.St) (δ : List SD) (H H' : Hp) (v : V) : SD → Prop
  | .sh d => Dp K (hid (Hd Γ σ δ) H') v d
  | .own ds => ∃ p xs, v = .ref p ∧ H p = none ∧ H' p = some (.lst xs) ∧ DpAll K (hid (fun a => Hd Γ σ δ a ∨ a = p) H') xs ds
  | .rng lo hi => ∃ p, v = .ref p ∧ H' p = some (.rng lo hi)
  | _ => False
section
variable {K : PySem.W.Frag} {Γ : Dy} {H H' : Hp} {σ : L2.St} {δ : List SD}
theorem hdE1 {p : Addr} : Hd { Γ with W0 := fun a => Γ.W0 a ∨ a = p } σ δ = fun a => Hd Γ σ δ a ∨ a = p := by
  funext a
  unfold Hd
  apply propext
  constructor
  · rintro ((w | w) | w)
    · exact .inl (.inl w)
    · exact .inr w
    · exact .inl (.inr w)
  · rintro ((w | w) | w)
    · exact .inl (.inl w)
    · exact .inr w
    · exact .inl (.inr w)
theorem wo_own {j : Nat} {p : Addr} {ds : List PyData} (hj : nOw δ j = true) (hl : j < σ.length) (hd : δ.length = σ.length) (a : Addr) : Wo (σ.set j (some (.ref p))) (δ.set j (.own ds)) a ↔ Wo σ δ a ∨ a = p := by
  constructor
  · rintro ⟨i, t, h1, h2, h3⟩
    rcases get_set h1 with ⟨rfl, rfl⟩ | ⟨n, h1⟩
    · rw [List.getElem?_set_self hl] at h3
      cases h3
      exact .inr rfl
    · rw [List.getElem?_set_ne (Ne.symm n)] at h3
      exact .inl ⟨i, t, h1, h2, h3⟩
  · rintro (⟨i, t, h1, h2, h3⟩ | rfl)
    · have n : i ≠ j := fun e => by
        subst e
        rw [nOw_at hj h1] at h2
        cases h2
      exact ⟨i, t, by rw [List.getElem?_set_ne (Ne.symm n)]; exact h1, h2, by rw [List.getElem?_set_ne (Ne.symm n)]; exact h3⟩
    · exact ⟨j, .own ds, List.getElem?_set_self (by rw [hd]; exact hl), rfl, List.getElem?_set_self hl⟩
theorem wl_own {j : Nat} {p : Addr} {ds : List PyData} (hj : nOw δ j = true) : Wl (σ.set j (some (.ref p))) (δ.set j (.own ds)) = Wl σ δ := by
  funext a
  apply propext
  constructor
  · rintro ⟨i, h1, h3⟩
    rcases get_set h1 with ⟨_, e⟩ | ⟨n, h1⟩
    · cases e
    · rw [List.getElem?_set_ne (Ne.symm n)] at h3
      exact ⟨i, h1, h3⟩
  · rintro ⟨i, h1, h3⟩
    have n : i ≠ j := fun e => by
      subst e
      have := nOw_at hj h1
      cases this
    exact ⟨i, by rw [List.getElem?_set_ne (Ne.symm n)]; exact h1, by rw [List.getElem?_set_ne (Ne.symm n)]; exact h3⟩
theorem Real.setOwn (r : Real K Γ H σ δ) (e : Ext (Wl σ δ) H H') {j : Nat} {p : Addr} {xs : List V} {ds : List PyData} (hj : nOw δ j = true) (hl : j < σ.length) (hp : H p = none) (hH : H' p = some (.lst xs)) (hd : DpAll K (hid (fun a => Hd Γ σ δ a ∨ a = p) H') xs ds) :
    Real K Γ H' (σ.set j (some (.ref p))) (δ.set j (.own ds)) := by
  have r' := r.ext e
  have rD := r.hideD hp e hH
  have hE : Hd Γ (σ.set j (some (.ref p))) (δ.set j (.own ds)) = Hd { Γ with W0 := fun a => Γ.W0 a ∨ a = p } σ δ := by
    rw [hdE1]
    funext a
    unfold Hd
    rw [propext (wo_own (ds := ds) hj hl r.len a)]
    apply propext
    constructor
    · rintro (w | w | w)
      · exact .inl (.inl w)
      · exact .inl (.inr w)
      · exact .inr w
    · rintro ((w | w) | w)
      · exact .inl w
      · exact .inr (.inl w)
      · exact .inr (.inr w)
  have ne : ∀ {i : Nat}, i ≠ j → (σ.set j (some (.ref p)))[i]? = σ[i]? := fun n => List.getElem?_set_ne (Ne.symm n)
  have nD : ∀ {i : Nat} {s : SD}, δ[i]? = some s → s.ow = true → σ[i]? ≠ some (some (.ref p)) := fun {i s} h1 h2 h3 => r.fresh hp (.inr ⟨i, s, h1, h2, h3⟩)
  refine ⟨by rw [List.length_set, List.length_set, r.len], r'.fr, r'.w0, r'.oa, fun i d h => ?_, fun i es h => ?_, fun i h => ?_, fun i lo hi h => ?_, fun a w => ?_, fun i k t u a h1 h2 h3 h4 h5 h6 => ?_, fun i es a h h2 => ?_, fun n i2 j2 k2 h => ?_⟩
  · rw [hE]
    rcases get_set h with ⟨_, e⟩ | ⟨n, h'⟩
    · cases e
    · rw [ne n]
      exact rD.sh i d h'
  · rw [hE]
    rcases get_set h with ⟨z, e⟩ | ⟨n, h'⟩
    · cases e
      subst z
      refine ⟨p, xs, List.getElem?_set_self hl, hH, ?_⟩
      rw [hdE1]
      exact hd
    · rw [ne n]
      exact rD.own i es h'
  · rcases get_set h with ⟨_, e⟩ | ⟨n, h'⟩
    · cases e
    · rw [ne n]
      exact r'.well i h'
  · rcases get_set h with ⟨_, e⟩ | ⟨n, h'⟩
    · cases e
    · rw [ne n]
      exact r'.rng i lo hi h'
  · rcases (wo_own hj hl r.len a).mp w with w | rfl
    · exact r.ch a w
    · by_cases c : Γ.CH a
      · exact .inl c
      · refine .inr ?_
        cases z : Γ.H0 a with
        | none => rfl
        | some o =>
          rw [r.fr a o z c] at hp
          cases hp
  · rcases get_set h1 with ⟨z, e⟩ | ⟨n, g1⟩
    · rcases get_set h3 with ⟨z', e'⟩ | ⟨n', g3⟩
      · exact z.trans z'.symm
      · rw [z, List.getElem?_set_self hl] at h5
        rw [ne n'] at h6
        cases h5
        exact absurd h6 (nD g3 h4)
    · rcases get_set h3 with ⟨z', e'⟩ | ⟨n', g3⟩
      · rw [z', List.getElem?_set_self hl] at h6
        rw [ne n] at h5
        cases h6
        exact absurd h5 (nD g1 h2)
      · rw [ne n] at h5
        rw [ne n'] at h6
        exact r.inj i k t u a g1 h2 g3 h4 h5 h6
  · rcases get_set h with ⟨z, e⟩ | ⟨n, h'⟩
    · subst z
      rw [List.getElem?_set_self hl] at h2
      cases h2
      refine ⟨fun w => ?_, fun w => ?_⟩
      · obtain ⟨o, q⟩ := r.w0 _ w
        rw [hp] at q
        cases q
      · obtain ⟨_, _, _, q⟩ := r.oa _ w
        rw [hp] at q
        cases q
    · rw [ne n] at h2
      exact r.ow0 i es a h' h2
  · rcases get_set h with ⟨_, e⟩ | ⟨n, h'⟩
    · cases e
    · rw [ne n]
      exact r'.pw _ _ _ _ h'
theorem Real.store (r : Real K Γ H σ δ) (e : Ext (Wl σ δ) H H') {j : Nat} {v : V} {s : SD} (hj : nOw δ j = true) (hl : j < σ.length) (ok : SOk K Γ σ δ H H' v s) : Real K Γ H' (σ.set j (some v)) (δ.set j s) := by
  cases s with
  | sh d => exact (r.ext e).set hj ⟨v, rfl, ok⟩
  | own ds =>
    obtain ⟨p, xs, rfl, h1, h2, h3⟩ := ok
    exact r.setOwn e hj hl h1 h2 h3
  | rng lo hi =>
    obtain ⟨p, rfl, h1⟩ := ok
    exact (r.ext e).set hj ⟨p, rfl, h1⟩
  | _ => exact ok.elim
theorem SOk.wl {j : Nat} {v : V} {s : SD} (hj : nOw δ j = true) (ok : SOk K Γ σ δ H H' v s) : Wl (σ.set j (some v)) (δ.set j s) = Wl σ δ := by
  cases s with
  | sh d => exact (Same.set hj rfl : Same σ _ δ _).wlE
  | own ds =>
    obtain ⟨p, xs, rfl, h1, h2, h3⟩ := ok
    exact wl_own hj
  | rng lo hi => exact (Same.set hj rfl : Same σ _ δ _).wlE
  | _ => exact ok.elim
end
/-- e is worth something that a slot may hold -/
def EV (g : G) (e : Expr) (δ : List SD) (Q : SD → Prop) : Prop := ∀ X, XOk g X → ∀ (Γ : Dy) (σ : L2.St) (H : Hp) (R : VK), Real g.T.K Γ H σ δ →
  (∀ s v H', Q s → Ext (Wl σ δ) H H' → SOk g.T.K Γ σ δ H H' v s → R v H') → tW X e σ H R
section
variable {g : G} {e a b c : Expr} {es : List Expr} {δ : List SD} {Q : PyData → Prop} {pos p : Pos} {nx : List SD → Prop} {rt : PyData → Prop}
theorem E.ev {QV : SD → Prop} (h : E g e δ fun d => QV (.sh d)) : EV g e δ QV := fun X x Γ σ H R r k => h X x Γ σ H R r fun d v H' q ex pd => k (.sh d) v H' q ex pd
theorem EF.ev {QV : SD → Prop} (h : EF g e δ fun ds => QV (.own ds)) : EV g e δ QV := fun X x Γ σ H R r k => h X x Γ σ H R r fun ds p xs H' q ex h1 h2 h3 => k (.own ds) (.ref p) H' q ex ⟨p, xs, rfl, h1, h2, h3⟩
theorem cr_range1 {X : Cx} : CallR X (.type "range") (fun vs H Q => ∃ j, vs = [V.int j] ∧ ∀ p, H p = none → Q (.ref p) (upd H p (.rng 0 j))) := by
  intro pins s σ H vs us Q I r h
  obtain ⟨j, rfl, q⟩ := h
  obtain ⟨u, rfl, t, rfl⟩ := vals1 r
  refine call_range_1 ⟨.ref s.heap.objs.size, upd H s.heap.objs.size (.rng 0 j), I.laid (t' := s.toks + 1 + 1) (fun b o e => Heap.get?_push_of_some _ e) (Nat.le_refl _) ?_, rfl, q _ (I.hok.fresh (Nat.le_refl _))⟩
  exact ⟨s.toks, t, s.toks + 1, Heap.get?_push_size _ rfl⟩
/-! ### blocks -/
theorem ss_nil (h : nx δ) : SS g [] δ nx rt := fun X x Γ σ H D r kn kr => toWSs pss_nil (kn δ σ H h r)
theorem ss_cons {st : Stmt} {sts : List Stmt} (h : S g st δ (fun δ' => SS g sts δ' nx rt) rt) : SS g (st :: sts) δ nx rt := fun X x Γ σ H D r kn kr => by
  refine toWSs (pss_cons (pWS X st) (pWSs X sts)) ?_
  refine h X x Γ σ H { D with nx := fun σ' H' => tWSs X sts D σ' H' } r (fun δ' σ' H' h1 r' => h1 X x Γ σ' H' D r' kn kr) kr
theorem s_ret (h : E g e δ rt) : S g (.Return (some e) pos) δ nx rt := fun X x Γ σ H D r kn kr => by
  refine toWS (ps_ret (pW X e)) (h X x Γ σ H D.rt r fun d v H' hd ex pd => kr d v H' hd ?_)
  have r' := r.ext ex
  exact ⟨r'.fr, r'.oa, dp_mono (hid_grow fun a o q n => ⟨fun w => n (.inl w), q⟩) pd⟩
theorem s_expr (h : E g e δ fun _ => nx δ) (hs : ∀ env, swapsWith e none pos.line env = pure false := by intro _; rfl) : S g (.Expr e pos) δ nx rt := fun X x Γ σ H D r kn kr =>
  toWS (ps_expr (pW X e) (hs _)) (h X x Γ σ H _ r fun d v H' hd ex pd => kn δ σ H' hd (r.ext ex))
theorem s_if {s1 s2 : List Stmt} (h : B g c δ fun t => (t = true → SS g s1 δ nx rt) ∧ (t = false → SS g s2 δ nx rt)) : S g (.If c s1 s2 pos) δ nx rt := fun X x Γ σ H D r kn kr => by
  refine toWS (ps_if (pWT X c) (pWSs X s1) (pWSs X s2)) (h X x Γ σ H _ r fun t H1 hq ex => ?_)
  cases t with
  | true =>
    rw [if_pos rfl]
    exact hq.1 rfl X x Γ σ H1 D (r.ext ex) kn kr
  | false =>
    rw [if_neg Bool.false_ne_true]
    exact hq.2 rfl X x Γ σ H1 D (r.ext ex) kn kr
theorem ss_freeze {sts : List Stmt} {i : Nat} {ds : List PyData} (hs : δ[i]? = some (.own ds)) (h : SS g sts (δ.set i (.sh (.list ds))) nx rt) : SS g sts δ nx rt := fun X x Γ σ H D r kn kr => h X x Γ σ H D (r.freeze hs) kn kr
theorem s_freeze {st : Stmt} {i : Nat} {ds : List PyData} (hs : δ[i]? = some (.own ds)) (h : S g st (δ.set i (.sh (.list ds))) nx rt) : S g st δ nx rt := fun X x Γ σ H D r kn kr => h X x Γ σ H D (r.freeze hs) kn kr
theorem S.imp {st : Stmt} {nx' : List SD → Prop} {rt' : PyData → Prop} (h : S g st δ nx rt) (q : ∀ δ', nx δ' → nx' δ') (q2 : ∀ d, rt d → rt' d) : S g st δ nx' rt' := fun X x Γ σ H D r kn kr => h X x Γ σ H D r (fun δ' σ' H' hd => kn δ' σ' H' (q δ' hd)) fun d v H' hd => kr d v H' (q2 d hd)
theorem SS.imp {st : List Stmt} {nx' : List SD → Prop} {rt' : PyData → Prop} (h : SS g st δ nx rt) (q : ∀ δ', nx δ' → nx' δ') (q2 : ∀ d, rt d → rt' d) : SS g st δ nx' rt' := fun X x Γ σ H D r kn kr => h X x Γ σ H D r (fun δ' σ' H' hd => kn δ' σ' H' (q δ' hd)) fun d v H' hd => kr d v H' (q2 d hd)
/-! ### assignments -/
theorem slot_lt {K : PySem.W.Frag} {Γ : Dy} {H : Hp} {σ : L2.St} (r : Real K Γ H σ δ) {i : Nat} (h : decide (i < δ.length) = true) : i < σ.length := by
  rw [← r.len]
  exact of_decide_eq_true h
theorem s_set {i : Nat} {x : Str} {p' : Pos} (h : EV g e δ fun s => nx (δ.set i s)) (hN : g.N[i]? = some x := by rfl) (hn : nOw δ i = true := by rfl) (hd : decide (i < δ.length) = true := by rfl) (hl : Loc g.sc x := by first | exact Or.inl rfl | exact Or.inr rfl)
    (hf : g.fc x = true ∨ g.sc.names.lookup x = some .local := by first | exact Or.inr rfl | exact Or.inl rfl) (hs : ∀ env, env.scope = g.sc → swapsWith e (some (.Name x p')) pos.line env = pure false := by intro _ _; rfl) : S g (.Assign [.Name x p'] e pos) δ nx rt := fun X xo Γ σ H D r kn kr => by
  refine toWS (ps_set (i := i) (by rw [xo.N]; exact xo.nd) (by rw [xo.N]; exact hN) (by rw [xo.sc]; exact hl) (pW X e) (hs _ xo.sc) (hf.imp (xo.fn x) fun q => by rw [xo.sc]; exact q)) ?_
  exact h X xo Γ σ H _ r fun s v H' q ex ok => kn _ _ H' q (r.store ex hn (slot_lt r hd) ok)
theorem sw_cell {elt : Expr} {gs : List Comprehension} {scope : Scope} {pos py : Pos} {y : Str} {l : Nat} (hy : g.sc.names.lookup y = some .cell) : ∀ env : Env, env.scope = g.sc → swapsWith (.ListComp elt gs scope pos) (some (.Name y py)) l env = pure false := fun env he => by
  have ky : env.kindOf y = some .cell := by
    unfold Env.kindOf
    rw [he]
    exact hy
  unfold swapsWith
  simp only [ky]
  have e1 : (some NameKind.cell == some NameKind.local) = false := by decide
  rw [e1, Bool.and_false]
  rfl
section
variable {elt tg iter : Expr} {scope : Scope} {pos' py : Pos} {x : Str}
/-- name = [..] on its line, the name a plain local -/
theorem s_lc {i : Nat} (own : List (Str × Nat)) (js : List Nat) (h : ItJ g iter tg δ false (Lc0 g elt scope δ (own.map (·.2)) js fun ds => nx (δ.set i (.own ds)))) (ht : TgOk (g.blk scope) tg js) (hyl : g.sc.names.lookup x = some .local := by rfl) (hl : (py.line == pos'.line) = true := by rfl)
    (ha : (scope.names.any fun (n, k) => n == x && (k == .local || k == .cell)) = false := by rfl) (hN : g.N[i]? = some x := by rfl) (hn : nOw δ i = true := by rfl) (hd : decide (i < δ.length) = true := by rfl) (hb : blkC g.N g.sc scope own = true := by rfl) (hv : ((own.map (·.2)).all fun v => nOw δ v) = true := by rfl)
    (hj : (js.all fun j => decide (j ∈ own.map (·.2))) = true := by rfl) (hs : ∀ env x, foldedSetIterable iter env x = pure x := by intro _ _; rfl) : S g (.Assign [.Name x py] (.ListComp elt [⟨tg, iter, [], 0⟩] scope pos') pos) δ nx rt := fun X xo Γ σ H D r kn kr => by
  have ok : BlkOk X.N X.env.scope scope own := by
    rw [xo.N, xo.sc]
    exact blkOk_by hb
  refine toWS (ps_setLc xo.calm (by rw [xo.N]; exact xo.nd) (by rw [xo.N]; exact hN) (by rw [xo.sc]; exact hyl) (sw_true (by rw [xo.sc]; exact xo.fk) (by rw [xo.sc]; exact hyl) hl ha) (pWI X tg iter) ok (g := gT g.T.K js) (tt := tYes) (te := teB X scope elt) (fun s H0 C cl fp => ht _ (xo.blk ok.kind s H0 C cl fp)) (fun _ _ _ _ _ => pts_nil) (peB X scope elt) (hs _)) ?_
  exact lc_data xo r hv hj (fun ds p xs H' q ex h1 h2 h3 => kn _ _ H' q (r.setOwn ex hn (slot_lt r hd) h1 h2 h3)) (Lc0.core xo ok.kind h)
theorem s_lcIf {i : Nat} (own : List (Str × Nat)) (js : List Nat) (h : ItJ g iter tg δ false (Lc1 g c elt scope δ (own.map (·.2)) js fun ds => nx (δ.set i (.own ds)))) (ht : TgOk (g.blk scope) tg js) (hyl : g.sc.names.lookup x = some .local := by rfl) (hl : (py.line == pos'.line) = true := by rfl)
    (ha : (scope.names.any fun (n, k) => n == x && (k == .local || k == .cell)) = false := by rfl) (hN : g.N[i]? = some x := by rfl) (hn : nOw δ i = true := by rfl) (hd : decide (i < δ.length) = true := by rfl) (hb : blkC g.N g.sc scope own = true := by rfl) (hv : ((own.map (·.2)).all fun v => nOw δ v) = true := by rfl)
    (hj : (js.all fun j => decide (j ∈ own.map (·.2))) = true := by rfl) (hs : ∀ env x, foldedSetIterable iter env x = pure x := by intro _ _; rfl) : S g (.Assign [.Name x py] (.ListComp elt [⟨tg, iter, [c], 0⟩] scope pos') pos) δ nx rt := fun X xo Γ σ H D r kn kr => by
  have ok : BlkOk X.N X.env.scope scope own := by
    rw [xo.N, xo.sc]
    exact blkOk_by hb
  refine toWS (ps_setLc xo.calm (by rw [xo.N]; exact xo.nd) (by rw [xo.N]; exact hN) (by rw [xo.sc]; exact hyl) (sw_true (by rw [xo.sc]; exact xo.fk) (by rw [xo.sc]; exact hyl) hl ha) (pWI X tg iter) ok (g := gT g.T.K js) (tt := ttB X scope c) (te := teB X scope elt) (fun s H0 C cl fp => ht _ (xo.blk ok.kind s H0 C cl fp)) (ptB X scope c) (peB X scope elt) (hs _)) ?_
  exact lc_data xo r hv hj (fun ds p xs H' q ex h1 h2 h3 => kn _ _ H' q (r.setOwn ex hn (slot_lt r hd) h1 h2 h3)) (Lc1.core xo ok.kind h)
end
/-! ### two at once -/
theorem pair_core {i j : Nat} {QP : List SD → Prop} {X : Cx} (xo : XOk g X) {Γ : Dy} {σ : L2.St} {H : Hp} {R : List V → Hp → Prop} (r : Real g.T.K Γ H σ δ) (h : EV g a δ fun s1 => EV g b δ fun s2 => QP ((δ.set i s1).set j s2)) (hi : nOw δ i = true) (hj : nOw δ j = true) (hij : i ≠ j) (di : i < σ.length) (dj : j < σ.length)
    (k : ∀ δ' v w H', QP δ' → Real g.T.K Γ H' ((σ.set i (some v)).set j (some w)) δ' → R [v, w] H') (he : ∀ env, starEach [a, b] env = (false, eval a env) :: starEach [b] env) (he2 : ∀ env, starEach [b] env = (false, eval b env) :: starEach [] env) : tWA X [a, b] σ H R := by
  refine toWA (pa_cons (pW X a) (pa_cons (pW X b) pa_nil (he2 _)) (he _)) ?_
  refine h X xo Γ σ H _ r fun s1 v H1 h1 e1 ok1 => ?_
  have hj' : nOw (δ.set i s1) j = true := by
    unfold nOw at *
    rw [List.getElem?_set_ne hij]
    exact hj
  have dj' : j < (σ.set i (some v)).length := by
    rw [List.length_set]
    exact dj
  have rs := r.store e1 hi di ok1
  -- the second is evaluated with the first hidden
  obtain ⟨Γ1, r1, hE, hch⟩ : ∃ Γ1 : Dy, Real g.T.K Γ1 H1 σ δ ∧ Hd Γ (σ.set i (some v)) (δ.set i s1) = Hd Γ1 σ δ ∧ True := by
    cases s1 with
    | sh d => exact ⟨Γ, r.ext e1, (Same.set hi rfl : Same σ _ δ _).hd, trivial⟩
    | rng lo hi' => exact ⟨Γ, r.ext e1, (Same.set hi rfl : Same σ _ δ _).hd, trivial⟩
    | own ds =>
      obtain ⟨p, xs, rfl, q1, q2, q3⟩ := ok1
      refine ⟨{ Γ with W0 := fun a => Γ.W0 a ∨ a = p }, r.hideD q1 e1 q2, ?_, trivial⟩
      rw [hdE1]
      funext a
      unfold Hd
      rw [propext (wo_own (ds := ds) hi di r.len a)]
      apply propext
      constructor
      · rintro (w | w | w)
        · exact .inl (.inl w)
        · exact .inl (.inr w)
        · exact .inr w
      · rintro ((w | w) | w)
        · exact .inl w
        · exact .inr (.inl w)
        · exact .inr (.inr w)
    | _ => exact ok1.elim
  refine h1 X xo Γ1 σ H1 _ r1 fun s2 w H2 h2 e2 ok2 => ?_
  have e2' : Ext (Wl (σ.set i (some v)) (δ.set i s1)) H1 H2 := by
    rw [ok1.wl hi]
    exact e2
  refine k _ v w H2 h2 (rs.store e2' hj' dj' ?_)
  unfold SOk at ok2 ⊢
  cases s2 with
  | sh d =>
    rw [hE]
    exact ok2
  | own ds =>
    obtain ⟨p, xs, q1, q2, q3, q4⟩ := ok2
    refine ⟨p, xs, q1, q2, q3, ?_⟩
    rw [hE]
    exact q4
  | rng lo hi' => exact ok2
  | _ => exact ok2.elim
theorem par_some {x y : Str} {px py pt pt2 : Pos} {kt k2} (hk : g.sc.kind = .function) (hx : g.sc.names.lookup x = some .local) (hy : g.sc.names.lookup y = some .local) (hxy : (x == y) = false) (hl : (py.line == px.line) = true) (hst : ([a, b].any fun | .Starred .. => true | _ => false) = false) (h1 : ([a, b].all (foldedForSure 8)) = false) (h2 : ([a, b].all (constantsAlone 8)) = false) :
    ∀ env : Env, env.scope = g.sc → swappedStores [.Tuple [.Name x px, .Name y py] kt pt] (.Tuple [a, b] k2 pt2) env = pure (some [x, y]) := fun env he => by
  have kx : env.kindOf x = some .local := by
    unfold Env.kindOf
    rw [he]
    exact hx
  have ky : env.kindOf y = some .local := by
    unfold Env.kindOf
    rw [he]
    exact hy
  have hb : env.blockKind = .function := by
    unfold Env.blockKind
    rw [he, hk]
    rfl
  have hyx : (y == x) = false := by
    rw [Bool.eq_false_iff] at hxy ⊢
    intro z
    rw [eq_of_beq z] at hxy
    exact hxy (beq_self_eq_true _)
  unfold swappedStores
  simp only [List.length_cons, List.length_nil, hb, List.filterMap_cons, List.filterMap_nil, kx, ky, List.head?_cons, Option.map_some, Option.getD_some, Expr.pos, beq_self_eq_true, hl, Bool.and_self, if_true]
  have e : ([x, y] : List Str).eraseDups = [x, y] := by
    rw [List.eraseDups_cons]
    simp [hyx]
    rw [List.eraseDups_cons]
    simp
  rw [e, h1, h2]
  refine (if_neg (by decide)).trans ?_
  refine (if_neg fun z => Bool.noConfusion (hst.symm.trans z)).trans ?_
  rfl
theorem par_none {x y : Str} {px py pt pt2 : Pos} {kt k2} (h : (g.sc.names.lookup x == some .local && g.sc.names.lookup y == some .local) = false) : ∀ env : Env, env.scope = g.sc → swappedStores [.Tuple [.Name x px, .Name y py] kt pt] (.Tuple [a, b] k2 pt2) env = pure none := fun env he => by
  have h' : (env.kindOf x == some .local && env.kindOf y == some .local) = false := by
    unfold Env.kindOf
    rw [he]
    exact h
  unfold swappedStores
  simp only [List.length_cons, List.length_nil]
  split
  · rfl
  · split
    · rfl
    · refine if_pos (Bool.or_eq_true_iff.mpr (.inl ?_))
      cases hx : (env.kindOf x == some .local) with
      | false =>
        simp only [List.filterMap_cons, List.filterMap_nil, hx, Bool.false_and, Bool.false_eq_true, if_false]
        split <;> rfl
      | true =>
        rw [hx, Bool.true_and] at h'
        simp only [List.filterMap_cons, List.filterMap_nil, h', Bool.false_and, Bool.false_eq_true, if_false]
        split <;> rfl
/-- x, y = a, b; the names plain locals -/
theorem s_par {i j : Nat} {x y : Str} {px py pt pt2 : Pos} {kt k2} (h : EV g a δ fun s1 => EV g b δ fun s2 => nx ((δ.set i s1).set j s2)) (hij : i ≠ j := by decide) (hx : g.sc.names.lookup x = some .local := by rfl) (hy : g.sc.names.lookup y = some .local := by rfl) (hNi : g.N[i]? = some x := by rfl) (hNj : g.N[j]? = some y := by rfl) (hni : nOw δ i = true := by rfl) (hnj : nOw δ j = true := by rfl) (di : decide (i < δ.length) = true := by rfl) (dj : decide (j < δ.length) = true := by rfl)
    (hk : g.sc.kind = .function := by rfl) (hxy : (x == y) = false := by decide) (hl : (py.line == px.line) = true := by rfl) (hst : ([a, b].any fun | .Starred .. => true | _ => false) = false := by rfl) (h1 : ([a, b].all (foldedForSure 8)) = false := by rfl) (h2 : ([a, b].all (constantsAlone 8)) = false := by rfl)
    (he : ∀ env, starEach [a, b] env = (false, eval a env) :: starEach [b] env := by intro _; rfl) (he2 : ∀ env, starEach [b] env = (false, eval b env) :: starEach [] env := by intro _; rfl) (hsw : ∀ env, swapsWithSole [.Tuple [.Name x px, .Name y py] kt pt] (.Tuple [a, b] k2 pt2) pos.line env = pure false := by intro _; rfl) :
    S g (.Assign [.Tuple [.Name x px, .Name y py] kt pt] (.Tuple [a, b] k2 pt2) pos) δ nx rt := fun X xo Γ σ H D r kn kr => by
  refine toWS (ps_par xo.calm (by rw [xo.N]; exact xo.nd) (by rw [xo.N]; exact hNi) (by rw [xo.N]; exact hNj) hij (by rw [xo.sc]; exact hx) (by rw [xo.sc]; exact hy) (pWA X [a, b]) (par_some (g := g) hk hx hy hxy hl hst h1 h2 _ xo.sc) (hsw _)) ?_
  exact pair_core xo r h hni hnj hij (slot_lt r di) (slot_lt r dj) (fun δ' v w H' q r' => ⟨v, w, rfl, kn δ' _ H' q r'⟩) he he2
/-- x, y = a, b; by a tuple -/
theorem s_parC {i j : Nat} {x y : Str} {px py pt pt2 : Pos} {kt k2} (h : EV g a δ fun s1 => EV g b δ fun s2 => nx ((δ.set i s1).set j s2)) (hw : ∀ env : Env, env.scope = g.sc → swappedStores [.Tuple [.Name x px, .Name y py] kt pt] (.Tuple [a, b] k2 pt2) env = pure none) (hij : i ≠ j := by decide) (hNi : g.N[i]? = some x := by rfl) (hNj : g.N[j]? = some y := by rfl) (hni : nOw δ i = true := by rfl) (hnj : nOw δ j = true := by rfl) (di : decide (i < δ.length) = true := by rfl) (dj : decide (j < δ.length) = true := by rfl)
    (hx : Loc g.sc x := by first | exact Or.inl rfl | exact Or.inr rfl) (hfx : g.fc x = true ∨ g.sc.names.lookup x = some .local := by first | exact Or.inr rfl | exact Or.inl rfl) (hy : Loc g.sc y := by first | exact Or.inl rfl | exact Or.inr rfl) (hfy : g.fc y = true ∨ g.sc.names.lookup y = some .local := by first | exact Or.inr rfl | exact Or.inl rfl)
    (he : ∀ env, starEach [a, b] env = (false, eval a env) :: starEach [b] env := by intro _; rfl) (he2 : ∀ env, starEach [b] env = (false, eval b env) :: starEach [] env := by intro _; rfl) (hsw : ∀ env, swapsWithSole [.Tuple [.Name x px, .Name y py] kt pt] (.Tuple [a, b] k2 pt2) pos.line env = pure false := by intro _; rfl)
    (ha1 : ∀ env, (assignEach [.Tuple [.Name x px, .Name y py] kt pt] env).map (·.2) = [assign (.Tuple [.Name x px, .Name y py] kt pt) env] := by intro _; rfl) :
    S g (.Assign [.Tuple [.Name x px, .Name y py] kt pt] (.Tuple [a, b] k2 pt2) pos) δ nx rt := fun X xo Γ σ H D r kn kr => by
  have ht : TgOk g (.Tuple [.Name x px, .Name y py] kt pt) [i, j] := tg_tup (tgs_cons (tg_name hNi hx hfx) (tgs_cons (tg_name hNj hy hfy) tgs_nil))
  refine toWS (ps_asg (pe_tup (pWA X [a, b])) (ht X xo) (hsw _) (hw _ xo.sc) (ha1 _)) ?_
  refine pair_core xo r h hni hnj hij (slot_lt r di) (slot_lt r dj) (fun δ' v w H' q r' => ⟨by show 2 ≤ sizeLine; decide, fun T hT => ?_⟩) he he2
  exact ⟨T, [v, w], rfl, .inl (.inl upd_same), rfl, v, [w], rfl, w, [], rfl, rfl, kn δ' _ _ q (r'.ext (.new hT))⟩
/-- x, y, .. = e, the value a tuple -/
theorem s_unp {tg : Expr} {js : List Nat} (h : E g e δ fun d => ∃ ds, unp js d = some ds ∧ nx (bindL δ js ds)) (ht : TgOk g tg js) (hw : ∀ env : Env, env.scope = g.sc → swappedStores [tg] e env = pure none := by intro _ _; rfl) (hn : (js.all fun j => nOw δ j) = true := by rfl) (hsw : ∀ env, swapsWithSole [tg] e pos.line env = pure false := by intro _; rfl)
    (ha1 : ∀ env, (assignEach [tg] env).map (·.2) = [assign tg env] := by intro _; rfl) : S g (.Assign [tg] e pos) δ nx rt := fun X xo Γ σ H D r kn kr => by
  refine toWS (ps_asg (pW X e) (ht X xo) (hsw _) (hw _ xo.sc) (ha1 _)) (h X xo Γ σ H _ r fun d v H' hq ex pd => ?_)
  obtain ⟨ds, hu, q⟩ := hq
  exact bind_ok (r.ext ex) hn hu pd fun σ' r' _ _ => kn _ _ _ q r'
end
end Pd

/-! text Pk -/
set_option Elab.async false
set_option linter.all false
set_option maxRecDepth 100000
set_option maxHeartbeats 4000000
/-! Own lists written; loops; the wells; a def's body; calls by keywords. -/
namespace Pd
open PySem PySem.Spec PyProof.Rows L2

section
variable {K : PySem.W.Frag} {Γ : Dy} {H H' : Hp} {σ : L2.St} {δ : List SD}
/-- the object of an owning slot written, the slot owning still -/
theorem Real.upOw (r : Real K Γ H σ δ) {i : Nat} {s t : SD} {a : Addr} {xs ys : List V} (hs : δ[i]? = some s) (how : s.ow = true) (hnw : s ≠ .well) (eσ : σ[i]? = some (some (.ref a))) (hH : H a = some (.lst xs)) (ht : (∃ ds, s = .own ds ∧ ∃ es, t = .own es ∧ DpAll K (hid (Hd Γ σ δ) H) ys es) ∨ ((∃ i j k, s = .pw i j k) ∧ ∃ i j k, t = .pw i j k ∧ ys = [.int i, .int j, .int k])) :
    Real K Γ (upd H a (.lst ys)) σ (δ.set i t) := by
  have lt : i < δ.length := (List.getElem?_eq_some_iff.mp hs).1
  have tow : t.ow = true := by
    rcases ht with ⟨_, _, _, rfl, _⟩ | ⟨_, _, _, _, rfl, _⟩ <;> rfl
  have wo : ∀ b, Wo σ (δ.set i t) b ↔ Wo σ δ b := fun b => by
    constructor
    · rintro ⟨j, u, h1, h2, h3⟩
      rcases get_set h1 with ⟨z, e⟩ | ⟨n, h1⟩
      · rw [z, eσ] at h3
        cases h3
        exact ⟨i, s, hs, how, eσ⟩
      · exact ⟨j, u, h1, h2, h3⟩
    · rintro ⟨j, u, h1, h2, h3⟩
      by_cases e : j = i
      · rw [e, eσ] at h3
        cases h3
        exact ⟨i, t, List.getElem?_set_self lt, tow, eσ⟩
      · exact ⟨j, u, by rw [List.getElem?_set_ne (Ne.symm e)]; exact h1, h2, h3⟩
  have hh : Hd Γ σ (δ.set i t) = Hd Γ σ δ := by
    funext b
    unfold Hd
    rw [propext (wo b)]
  have na : ∀ {j : Nat} {u : SD} {b : Addr}, j ≠ i → δ[j]? = some u → u.ow = true → σ[j]? = some (some (.ref b)) → b ≠ a := fun n h1 h2 h3 e => by
    subst e
    exact n (r.inj _ _ _ _ _ h1 h2 hs how h3 eσ)
  have gr : Grow (hid (Hd Γ σ δ) H) (hid (Hd Γ σ δ) (upd H a (.lst ys))) := hid_grow fun b o q n => ⟨n, by
    rw [upd_ne fun e => n (.inr (by rw [e]; exact ⟨i, s, hs, how, eσ⟩))]
    exact q⟩
  have hw : Wo σ δ a := ⟨i, s, hs, how, eσ⟩
  refine ⟨by rw [List.length_set]; exact r.len, fun b o q c => ?_, fun b w => ?_, fun b w => ?_, fun j d h => ?_, fun j es h => ?_, fun j h => ?_, fun j lo hi h => ?_, fun b w => r.ch b ((wo b).mp w), fun j k u w b h1 h2 h3 h4 h5 h6 => ?_, fun j es b h h2 => ?_, fun n i2 j2 k2 h => ?_⟩
  · have nb : b ≠ a := fun e => by
      subst e
      rcases r.ch b hw with z | z
      · exact c z
      · rw [q] at z
        cases z
    rw [upd_ne nb]
    exact r.fr b o q c
  · by_cases e : b = a
    · rw [e, upd_same]
      exact ⟨_, rfl⟩
    · rw [upd_ne e]
      exact r.w0 b w
  · by_cases e : b = a
    · subst e
      rcases ht with ⟨ds, rfl, _⟩ | ⟨_, i', j', k', _, rfl⟩
      · exact absurd w (r.ow0 i ds b hs eσ).2
      · exact ⟨i', j', k', upd_same⟩
    · obtain ⟨i', j', k', z⟩ := r.oa b w
      exact ⟨i', j', k', by rw [upd_ne e]; exact z⟩
  · rcases get_set h with ⟨z, e⟩ | ⟨n, h'⟩
    · rw [← e] at tow
      cases tow
    · obtain ⟨v, e1, p⟩ := r.sh j d h'
      rw [hh]
      exact ⟨v, e1, dp_mono gr p⟩
  · rw [hh]
    rcases get_set h with ⟨z, e⟩ | ⟨n, h'⟩
    · rcases ht with ⟨_, _, es', rfl, p⟩ | ⟨_, _, _, _, rfl, _⟩
      · cases e
        subst z
        exact ⟨a, ys, eσ, upd_same, dpAll_mono gr p⟩
      · cases e
    · obtain ⟨b, zs, e1, e2, p⟩ := r.own j es h'
      exact ⟨b, zs, e1, by rw [upd_ne (na n h' rfl e1)]; exact e2, dpAll_mono gr p⟩
  · rcases get_set h with ⟨z, e⟩ | ⟨n, h'⟩
    · rcases ht with ⟨_, _, es', rfl, p⟩ | ⟨_, _, _, _, rfl, _⟩ <;> cases e
    · obtain ⟨b, e1, i', j', k', e2⟩ := r.well j h'
      exact ⟨b, e1, i', j', k', by rw [upd_ne (na n h' rfl e1)]; exact e2⟩
  · rcases get_set h with ⟨z, e⟩ | ⟨n, h'⟩
    · rw [← e] at tow
      cases tow
    · obtain ⟨b, e1, e2⟩ := r.rng j lo hi h'
      refine ⟨b, e1, ?_⟩
      rw [upd_ne fun e => by rw [e, hH] at e2; cases e2]
      exact e2
  · have q1 : ∃ u', δ[j]? = some u' ∧ u'.ow = true := by
      rcases get_set h1 with ⟨z, e⟩ | ⟨n, h1⟩
      · exact ⟨s, by rw [z]; exact hs, how⟩
      · exact ⟨u, h1, h2⟩
    have q2 : ∃ u', δ[k]? = some u' ∧ u'.ow = true := by
      rcases get_set h3 with ⟨z, e⟩ | ⟨n, h1⟩
      · exact ⟨s, by rw [z]; exact hs, how⟩
      · exact ⟨w, h1, h4⟩
    obtain ⟨u', a1, a2⟩ := q1
    obtain ⟨w', b1, b2⟩ := q2
    exact r.inj j k u' w' b a1 a2 b1 b2 h5 h6
  · rcases get_set h with ⟨z, e⟩ | ⟨n, h'⟩
    · rcases ht with ⟨ds, rfl, _⟩ | ⟨_, _, _, _, rfl, _⟩
      · rw [z] at h2
        exact r.ow0 i ds b hs h2
      · cases e
    · exact r.ow0 j es b h' h2
  · rcases get_set h with ⟨z, e⟩ | ⟨n', h'⟩
    · rcases ht with ⟨_, _, es', rfl, p⟩ | ⟨_, i', j', k', rfl, rfl⟩
      · cases e
      · cases e
        rw [z]
        exact ⟨a, eσ, upd_same⟩
    · obtain ⟨b, e1, e2⟩ := r.pw n i2 j2 k2 h'
      exact ⟨b, e1, by rw [upd_ne (na n' h' rfl e1)]; exact e2⟩
theorem nWl {i : Nat} {s : SD} {a : Addr} (r : Real K Γ H σ δ) (hs : δ[i]? = some s) (how : s.ow = true) (hnw : s ≠ .well) (eσ : σ[i]? = some (some (.ref a))) : ¬ Wl σ δ a := fun ⟨j, q1, q2⟩ => by
  have ij := r.inj i j _ _ a hs how q1 rfl eσ q2
  subst ij
  rw [hs] at q1
  exact hnw (Option.some.inj q1)
end
section
variable {g : G} {e a b c ix : Expr} {es : List Expr} {δ : List SD} {Q : PyData → Prop} {pos p : Pos} {nx : List SD → Prop} {rt : PyData → Prop}
/-- x.append(e), x an own list -/
theorem s_append {i : Nat} {x : Str} {ds : List PyData} {p1 ap cp : Pos} (hs : δ[i]? = some (.own ds)) (h : E g e δ fun d => ds.length ≤ 100000 ∧ nx (δ.set i (.own (ds ++ [d])))) (hN : g.N[i]? = some x := by rfl) (hv : Vis g.sc x := by first | exact Or.inl rfl | exact Or.inr (Or.inl rfl) | exact Or.inr (Or.inr rfl)) (hd1 : (x == ("__debug__" : Str)) = false := by decide)
    (hcd : (x == ("__classdict__" : Str)) = false := by decide) (hbase : ∀ env, attributeBase (.Name x p1) "append" env (eval (.Name x p1) env) = eval (.Name x p1) env := by intro _; rfl)
    (hfew : ∀ env, ((backTo cp (starEach [e] env)).all (fun x => !x.1) && (backToKw cp (keywordEach [] env)).all (fun x => x.1.isSome) && decide ([e].length + ([] : List Keyword).length + (if ([] : List Keyword).isEmpty then 0 else 1) < 30)) = true := by intro _; rfl)
    (hline : (ap.endLine == cp.line) = true := by rfl) (he : ∀ env, starEach [e] env = (false, eval e env) :: starEach [] env := by intro _; rfl) (hsw : ∀ env, swapsWith (.Call (.Attribute (.Name x p1) "append" ap) [e] [] cp) none pos.line env = pure false := by intro _; rfl) :
    S g (.Expr (.Call (.Attribute (.Name x p1) "append" ap) [e] [] cp) pos) δ nx rt := fun X xo Γ σ H D r kn kr => by
  refine toWS (ps_expr (pe_bm PySem.F.plainAttrs_list PySem.F.slot_list_append PySem.F.type_list_append mt_append (pe_var (i := i) (by rw [xo.N]; exact hN) (by rw [xo.sc]; exact hv) hd1 hcd) (pa_cons (pW X e) pa_nil (he _)) (hbase _) (hfew _) hline (he _) rfl) (hsw _)) ?_
  obtain ⟨q, xs, eσ, hH, hp⟩ := r.own i ds hs
  refine ⟨.ref q, eσ, .inl ⟨rfl, _, .inl (.inl hH)⟩, ?_⟩
  refine h X xo Γ σ H _ r fun d v H1 h1 ex pd => ?_
  have r1 := r.ext ex
  have hH1 : H1 q = some (.lst xs) := ex.keep q _ hH (nWl r hs rfl (by intro z; cases z) eσ)
  have hp1 := r.dpAll ex hp
  refine ⟨q, xs, v, rfl, rfl, hH1, ?_, ?_⟩
  · rw [dpAll_len hp]
    exact Nat.lt_of_le_of_lt h1.1 (by decide)
  · exact kn _ _ _ h1.2 (r1.upOw hs rfl (by intro z; cases z) eσ hH1 (.inl ⟨ds, rfl, _, rfl, dpAll_app hp1 (.cons pd .nil)⟩))
/-- x[ix] = e, x an own list -/
theorem s_sub {i : Nat} {x : Str} {ds : List PyData} {p1 p2 : Pos} (hs : δ[i]? = some (.own ds)) (h : E g e δ fun d => E g ix δ fun di => ∃ k j, di = .int k ∧ ixN ds.length k = some j ∧ nx (δ.set i (.own (ds.set j d)))) (hN : g.N[i]? = some x := by rfl) (hv : Vis g.sc x := by first | exact Or.inl rfl | exact Or.inr (Or.inl rfl) | exact Or.inr (Or.inr rfl)) (hd1 : (x == ("__debug__" : Str)) = false := by decide)
    (hcd : (x == ("__classdict__" : Str)) = false := by decide) (ha : ∀ env v, assign (.Subscript (.Name x p1) ix p2) env v = (do
      let ov ← holding [v] (eval (.Name x p1) env)
      let iv ← holding [v, ov] (eval ix env)
      standAt p2
      holding [v, ov, iv] (setItem ov iv v)
      release [v, ov, iv] []) := by intro _ _; rfl) (hsw : ∀ env, swapsWithSole [.Subscript (.Name x p1) ix p2] e pos.line env = pure false := by intro _; rfl) (hw : ∀ env, swappedStores [.Subscript (.Name x p1) ix p2] e env = pure none := by intro _; rfl)
    (ha1 : ∀ env, (assignEach [.Subscript (.Name x p1) ix p2] env).map (·.2) = [assign (.Subscript (.Name x p1) ix p2) env] := by intro _; rfl) : S g (.Assign [.Subscript (.Name x p1) ix p2] e pos) δ nx rt := fun X xo Γ σ H D r kn kr => by
  refine toWS (ps_asg (pW X e) (pg_sub (pe_var (i := i) (by rw [xo.N]; exact hN) (by rw [xo.sc]; exact hv) hd1 hcd) (pW X ix) set_list (ha _)) (hsw _) (hw _) (ha1 _)) ?_
  refine h X xo Γ σ H _ r fun d v H1 h1 e1 p1 => ?_
  have r1 := r.ext e1
  obtain ⟨q, xs, eσ, hH, hp⟩ := r1.own i ds hs
  refine ⟨.ref q, eσ, ?_⟩
  refine h1 X xo Γ σ H1 _ r1 fun di w H2 h2 e2 p2 => ?_
  obtain ⟨k, j, rfl, hj, hn⟩ := h2
  have r2 := r1.ext e2
  have hH2 : H2 q = some (.lst xs) := e2.keep q _ hH (nWl r1 hs rfl (by intro z; cases z) eσ)
  refine ⟨q, xs, k, j, rfl, dp_int p2, hH2, by rw [dpAll_len hp]; exact hj, ?_⟩
  exact kn _ _ _ hn (r2.upOw hs rfl (by intro z; cases z) eσ hH2 (.inl ⟨ds, rfl, _, rfl, dpAll_set (r1.dp e2 p1) j (r1.dpAll e2 hp)⟩))
/-- x[ix1], x[ix2] = e (a pair), x an own list -/
theorem s_sub2 {i : Nat} {x : Str} {ds : List PyData} {p1 p2 p3 p4 pt : Pos} {kt : Nat} {ix2 : Expr} (hs : δ[i]? = some (.own ds)) (h : E g e δ fun d => ∃ d1 d2, d = .tuple [d1, d2] ∧ E g ix δ fun di => ∃ k j, di = .int k ∧ ixN ds.length k = some j ∧ E g ix2 (δ.set i (.own (ds.set j d1))) fun dj => ∃ k' j', dj = .int k' ∧ ixN ds.length k' = some j' ∧ nx (δ.set i (.own ((ds.set j d1).set j' d2)))) (hN : g.N[i]? = some x := by rfl) (hv : Vis g.sc x := by first | exact Or.inl rfl | exact Or.inr (Or.inl rfl) | exact Or.inr (Or.inr rfl)) (hd1 : (x == ("__debug__" : Str)) = false := by decide)
    (hcd : (x == ("__classdict__" : Str)) = false := by decide) (ha : ∀ env v, assign (.Subscript (.Name x p1) ix p2) env v = (do
      let ov ← holding [v] (eval (.Name x p1) env)
      let iv ← holding [v, ov] (eval ix env)
      standAt p2
      holding [v, ov, iv] (setItem ov iv v)
      release [v, ov, iv] []) := by intro _ _; rfl) (ha2 : ∀ env v, assign (.Subscript (.Name x p3) ix2 p4) env v = (do
      let ov ← holding [v] (eval (.Name x p3) env)
      let iv ← holding [v, ov] (eval ix2 env)
      standAt p4
      holding [v, ov, iv] (setItem ov iv v)
      release [v, ov, iv] []) := by intro _ _; rfl) (hsw : ∀ env, swapsWithSole [.Tuple [.Subscript (.Name x p1) ix p2, .Subscript (.Name x p3) ix2 p4] kt pt] e pos.line env = pure false := by intro _; rfl) (hw : ∀ env, env.scope = g.sc → swappedStores [.Tuple [.Subscript (.Name x p1) ix p2, .Subscript (.Name x p3) ix2 p4] kt pt] e env = pure none)
    (ha1 : ∀ env, (assignEach [.Tuple [.Subscript (.Name x p1) ix p2, .Subscript (.Name x p3) ix2 p4] kt pt] env).map (·.2) = [assign (.Tuple [.Subscript (.Name x p1) ix p2, .Subscript (.Name x p3) ix2 p4] kt pt) env] := by intro _; rfl)
    (hc1 : ∀ env, (assignEach [.Subscript (.Name x p1) ix p2, .Subscript (.Name x p3) ix2 p4] env).map (·.2) = assign (.Subscript (.Name x p1) ix p2) env :: (assignEach [.Subscript (.Name x p3) ix2 p4] env).map (·.2) := by intro _; rfl) (hc2 : ∀ env, (assignEach [.Subscript (.Name x p3) ix2 p4] env).map (·.2) = assign (.Subscript (.Name x p3) ix2 p4) env :: (assignEach [] env).map (·.2) := by intro _; rfl)
    (hn : ∀ env, (assignEach [.Subscript (.Name x p1) ix p2, .Subscript (.Name x p3) ix2 p4] env).length = 2 := by intro _; rfl) (hst : ∀ env, (assignEach [.Subscript (.Name x p1) ix p2, .Subscript (.Name x p3) ix2 p4] env).findIdx? (·.1) = none := by intro _; rfl) :
    S g (.Assign [.Tuple [.Subscript (.Name x p1) ix p2, .Subscript (.Name x p3) ix2 p4] kt pt] e pos) δ nx rt := fun X xo Γ σ H D r kn kr => by
  refine toWS (ps_asg (pW X e) (pg_tup xo.calm (pgs_cons (pg_sub (pe_var (i := i) (by rw [xo.N]; exact hN) (by rw [xo.sc]; exact hv) hd1 hcd) (pW X ix) set_list (ha _)) (pgs_cons (pg_sub (pe_var (i := i) (by rw [xo.N]; exact hN) (by rw [xo.sc]; exact hv) hd1 hcd) (pW X ix2) set_list (ha2 _)) pgs_nil (hc2 _)) (hc1 _)) (hn _) (hst _)) (hsw _) (hw _ xo.sc) (ha1 _)) ?_
  refine h X xo Γ σ H _ r fun d v H1 h1 e1 pd => ?_
  obtain ⟨d1, d2, rfl, h1⟩ := h1
  obtain ⟨T, vs, rfl, sT, pT⟩ := dp_tup pd
  obtain ⟨v1, ws, rfl, q1, pT⟩ := dpAll_cons pT
  obtain ⟨v2, ws, rfl, q2, pT⟩ := dpAll_cons pT
  obtain rfl := dpAll_nil pT
  have r1 := r.ext e1
  obtain ⟨q, xs, eσ, hH, hp⟩ := r1.own i ds hs
  refine ⟨T, [v1, v2], rfl, by rw [xo.K]; exact grow_t hid_le sT, rfl, v1, [v2], rfl, .ref q, eσ, ?_⟩
  refine h1 X xo Γ σ H1 _ r1 fun di w H2 h2 e2 p2 => ?_
  obtain ⟨k, j, rfl, hj, h2⟩ := h2
  have r2 := r1.ext e2
  have hH2 : H2 q = some (.lst xs) := e2.keep q _ hH (nWl r1 hs rfl (by intro z; cases z) eσ)
  refine ⟨q, xs, k, j, rfl, dp_int p2, hH2, by rw [dpAll_len hp]; exact hj, v2, [], rfl, .ref q, eσ, ?_⟩
  have hp2 := dpAll_set (r1.dp e2 q1) j (r1.dpAll e2 hp)
  have r3 := r2.upOw (ys := xs.set j v1) hs rfl (by intro z; cases z) eσ hH2 (.inl ⟨ds, rfl, _, rfl, hp2⟩)
  have lt : i < δ.length := (List.getElem?_eq_some_iff.mp hs).1
  have hs3 : (δ.set i (.own (ds.set j d1)))[i]? = some (.own (ds.set j d1)) := List.getElem?_set_self lt
  have g3 : ∀ {u : V} {du : PyData}, Dp g.T.K (hid (Hd Γ σ δ) H2) u du → Dp g.T.K (hid (Hd Γ σ (δ.set i (.own (ds.set j d1)))) (upd H2 q (.lst (xs.set j v1)))) u du := fun p => dp_mono (hid_grow fun b o z n => by
    have nb : b ≠ q := fun e => n (.inr (by rw [e]; exact ⟨i, _, hs, rfl, eσ⟩))
    refine ⟨fun w => n (w.imp id fun ⟨m, u, a1, a2, a3⟩ => ?_), by rw [upd_ne nb]; exact z⟩
    rcases get_set a1 with ⟨y, _⟩ | ⟨y, a1⟩
    · rw [y, eσ] at a3
      cases a3
      exact absurd rfl nb
    · exact ⟨m, u, a1, a2, a3⟩) p
  refine h2 X xo Γ σ _ _ r3 fun dj w' H4 h4 e4 p4 => ?_
  obtain ⟨k', j', rfl, hj', hn'⟩ := h4
  have r4 := r3.ext e4
  have hH4 : H4 q = some (.lst (xs.set j v1)) := e4.keep q _ upd_same (nWl r3 hs3 rfl (by intro z; cases z) eσ)
  obtain ⟨q', xs', eσ', hH', hp'⟩ := r4.own i _ hs3
  rw [eσ] at eσ'
  cases eσ'
  rw [hH4] at hH'
  cases hH'
  refine ⟨q, xs.set j v1, k', j', rfl, dp_int p4, hH4, by rw [List.length_set, dpAll_len hp]; exact hj', rfl, ?_⟩
  have fin := r4.upOw (ys := (xs.set j v1).set j' v2) hs3 rfl (by intro z; cases z) eσ hH4 (.inl ⟨_, rfl, _, rfl, dpAll_set (r3.dp e4 (g3 (r1.dp e2 q2))) j' hp'⟩)
  rw [List.set_set] at fin
  exact kn _ _ _ hn' fin
end
end Pd

/-! text Pl -/
set_option Elab.async false
set_option linter.all false
set_option maxRecDepth 100000
set_option maxHeartbeats 4000000
/-! Loops; wells; a def's body; calls by keywords. -/
namespace Pd
open PySem PySem.Spec PyProof.Rows L2

section
variable {g : G} {e a b c iter tg : Expr} {es : List Expr} {δ : List SD} {Q : PyData → Prop} {pos p : Pos} {nx : List SD → Prop} {rt : PyData → Prop} {body : List Stmt}
theorem XOk.own {X : Cx} (xo : XOk g X) : PassesOwn (model X.prog X.w) X.A X.env X.xe := by
  rw [xo.xe]
  exact PassesOwn.never
theorem s_while (Iv : Nat → List SD → Prop) (m0 : Nat) (h0 : Iv m0 δ) (h : ∀ m δ', Iv m δ' → B g c δ' fun t => (t = true → SS g body δ' (fun δ2 => ∃ m', m' < m ∧ Iv m' δ2) rt) ∧ (t = false → nx δ')) : S g (.While c body [] pos) δ nx rt := fun X xo Γ σ H D r kn kr => by
  refine toWS (ps_while xo.own (pWT X c) (pWSs X body)) ⟨fun m σ' H' => ∃ δ', Iv m δ' ∧ Real g.T.K Γ H' σ' δ', ⟨m0, δ, h0, r⟩, fun m σ' H' ⟨δ', hi, r'⟩ => ?_⟩
  refine h m δ' hi X xo Γ σ' H' _ r' fun t H1 ⟨ht, hf⟩ ex => ?_
  cases t with
  | true =>
    rw [if_pos rfl]
    refine ⟨fun σ2 H2 => ∃ m', m' < m ∧ ∃ δ2, Iv m' δ2 ∧ Real g.T.K Γ H2 σ2 δ2, fun σ2 H2 ⟨m', hm, δ2, q1, q2⟩ => ⟨m', hm, δ2, q1, q2⟩, ?_⟩
    exact ht rfl X xo Γ σ' H1 _ (r'.ext ex) (fun δ2 σ2 H2 ⟨m', hm, q1⟩ q2 => ⟨m', hm, δ2, q1, q2⟩) kr
  | false =>
    rw [if_neg Bool.false_ne_true]
    exact kn δ' σ' H1 (hf rfl) (r'.ext ex)
/-- for tg in iter -/
theorem s_for (js : List Nat) (h : ItJ g iter tg δ true fun ds => ∃ Iv : Nat → List SD → Prop, Iv 0 δ ∧ (∀ i d δ', ds[i]? = some d → Iv i δ' → ∃ ds', unp js d = some ds' ∧ (js.all fun j => nOw δ' j) = true ∧ SS g body (bindL δ' js ds') (Iv (i + 1)) rt) ∧ ∀ δ', Iv ds.length δ' → nx δ') (ht : TgOk g tg js) (hs : ∀ env x, foldedSetIterable iter env x = pure x := by intro _ _; rfl) : S g (.For tg iter body [] pos) δ nx rt := fun X xo Γ σ H D r kn kr => by
  refine toWS (ps_for xo.own xo.calm (pWI X tg iter) (ht X xo) (pWSs X body) (hs _)) ?_
  refine h X xo Γ σ H _ r fun ds J H1 hq e1 wd => ?_
  obtain ⟨Iv, h0, step, fin⟩ := hq
  have r1 := r.ext e1
  -- inside: what the slots own may change, all else stands
  have into : ∀ {σ' : L2.St} {δ' : List SD} {H' : Hp}, Real g.T.K { Γ with H0 := H1, CH := Wo σ δ } H' σ' δ' → Real g.T.K Γ H' σ' δ' := fun {σ' δ' H'} q => by
    refine ⟨q.len, fun a o h1 h2 => ?_, q.w0, q.oa, q.sh, q.own, q.well, q.rng, fun a w => ?_, q.inj, q.ow0, q.pw⟩
    · refine q.fr a o (r1.fr a o h1 h2) fun w => ?_
      rcases r1.ch a w with z | z
      · exact h2 z
      · rw [h1] at z
        cases z
    · rcases q.ch a w with z | z
      · exact r1.ch a z
      · by_cases c : Γ.CH a
        · exact .inl c
        · refine .inr ?_
          cases y : Γ.H0 a with
          | none => rfl
          | some o =>
            have z' : H1 a = none := z
            rw [r1.fr a o y c] at z'
            cases z'
  have r0 : Real g.T.K { Γ with H0 := H1, CH := Wo σ δ } H1 σ δ := ⟨r1.len, fun a o h1 _ => h1, r1.w0, r1.oa, r1.sh, r1.own, r1.well, r1.rng, fun a w => .inl w, r1.inj, r1.ow0, r1.pw⟩
  have W : Walk J ds.length (fun H => ∀ a o, H1 a = some o → ¬ CC true σ δ a → H a = some o) (fun i H x H' => Grow H H' ∧ ∃ d, ds[i]? = some d ∧ ∀ W', (∀ a, W' a → ∃ o, H a = some o) → Grow (hid (Hd Γ σ δ) H1) (hid W' H) → Dp g.T.K (hid W' H') x d) :=
    ⟨fun i H hi hk => wd.goes i H hi hk, fun H hk => wd.stops H hk, fun i H x H' hi hk hy => wd.yields i H x H' hi hk hy⟩
  refine for_it W (fun i σ' H' => ∃ δ', Iv i δ' ∧ Real g.T.K { Γ with H0 := H1, CH := Wo σ δ } H' σ' δ') ⟨δ, h0, r0⟩ (fun i σ' H' _ ⟨δ', _, q⟩ a o h1 n => q.fr a o h1 n) (fun i x σ' H' H2 hi ⟨δ', hI, q⟩ hy => ?_) fun σ' H' ⟨δ', hI, q⟩ => kn δ' σ' H' (fin δ' hI) (into q)
  obtain ⟨gr, d, ed, hx⟩ := hy
  obtain ⟨ds', hu, hj, hb⟩ := step i d δ' ed hI
  have px := hx (Hd Γ σ' δ') (fun a w => q.dom w) (hid_grow fun a o h1 n => by
    have h2 := q.fr a o h1 fun w => n (.inr w)
    refine ⟨fun w => ?_, h2⟩
    rcases w with w | w
    · exact n (.inl w)
    · rcases q.ch a w with z | z
      · exact n (.inr z)
      · have z' : H1 a = none := z
        rw [h1] at z'
        cases z')
  refine bind_ok (q.ext (.grow gr)) hj hu px fun σ2 r2 _ _ => ?_
  refine hb X xo _ σ2 H2 _ r2 (fun δ3 σ3 H3 hI3 q3 => ⟨δ3, hI3, q3⟩) fun d v H' hd ok => kr d v H' hd ⟨fun a o h1 h2 => ?_, ok.oa, ok.dp⟩
  refine ok.fr a o (r1.fr a o h1 h2) fun w => ?_
  rcases r1.ch a w with z | z
  · exact h2 z
  · rw [h1] at z
    cases z
/-! ### the well, open -/
theorem ss_open {n : Nat} {sts : List Stmt} (hs : δ[n]? = some SD.well) (h : ∀ i j k : Int, SS g sts (δ.set n (.pw i j k)) nx rt) : SS g sts δ nx rt := fun X x Γ σ H D r kn kr => by
  obtain ⟨a, eσ, i, j, k, hH⟩ := r.well n hs
  refine h i j k X x Γ σ H D ?_ kn kr
  have lt : n < δ.length := (List.getElem?_eq_some_iff.mp hs).1
  have wo : ∀ b, Wo σ (δ.set n (.pw i j k)) b ↔ Wo σ δ b := fun b => by
    constructor
    · rintro ⟨m, u, h1, h2, h3⟩
      rcases get_set h1 with ⟨z, _⟩ | ⟨_, h1⟩
      · rw [z] at h3
        exact ⟨n, _, hs, rfl, h3⟩
      · exact ⟨m, u, h1, h2, h3⟩
    · rintro ⟨m, u, h1, h2, h3⟩
      by_cases z : m = n
      · rw [z] at h3
        exact ⟨n, _, List.getElem?_set_self lt, rfl, h3⟩
      · exact ⟨m, u, by rw [List.getElem?_set_ne (Ne.symm z)]; exact h1, h2, h3⟩
  have hh : Hd Γ σ (δ.set n (.pw i j k)) = Hd Γ σ δ := by
    funext b
    unfold Hd
    rw [propext (wo b)]
  have old : ∀ {m : Nat} {u : SD}, (δ.set n (.pw i j k))[m]? = some u → u.ow = true → ∃ u', δ[m]? = some u' ∧ u'.ow = true := fun {m u} h1 h2 => by
    rcases get_set h1 with ⟨z, _⟩ | ⟨_, h1⟩
    · exact ⟨_, by rw [z]; exact hs, rfl⟩
    · exact ⟨u, h1, h2⟩
  refine ⟨by rw [List.length_set]; exact r.len, r.fr, r.w0, r.oa, fun m d h1 => ?_, fun m es h1 => ?_, fun m h1 => ?_, fun m lo hi h1 => ?_, fun b w => r.ch b ((wo b).mp w), fun l m u w b h1 h2 h3 h4 h5 h6 => ?_, fun m es b h1 h2 => ?_, fun m i2 j2 k2 h1 => ?_⟩
  · rw [hh]
    rcases get_set h1 with ⟨_, e⟩ | ⟨_, h1⟩
    · cases e
    · exact r.sh m d h1
  · rw [hh]
    rcases get_set h1 with ⟨_, e⟩ | ⟨_, h1⟩
    · cases e
    · exact r.own m es h1
  · rcases get_set h1 with ⟨_, e⟩ | ⟨_, h1⟩
    · cases e
    · exact r.well m h1
  · rcases get_set h1 with ⟨_, e⟩ | ⟨_, h1⟩
    · cases e
    · exact r.rng m lo hi h1
  · obtain ⟨u', a1, a2⟩ := old h1 h2
    obtain ⟨w', b1, b2⟩ := old h3 h4
    exact r.inj l m u' w' b a1 a2 b1 b2 h5 h6
  · rcases get_set h1 with ⟨_, e⟩ | ⟨_, h1⟩
    · cases e
    · exact r.ow0 m es b h1 h2
  · rcases get_set h1 with ⟨z, e⟩ | ⟨_, h1⟩
    · cases e
      rw [z]
      exact ⟨a, eσ, hH⟩
    · exact r.pw m i2 j2 k2 h1
def pwL (i j k : Int) : List Int := [i, j, k]
theorem e_pw {n : Nat} {x : Str} {i j k : Int} {p1 : Pos} (hs : δ[n]? = some (.pw i j k)) (h : E g b δ fun d => ∃ m v, d = .int m ∧ atI (pwL i j k) m = some v ∧ Q (.int v)) (hN : g.N[n]? = some x := by rfl) (hv : Vis g.sc x := by first | exact Or.inl rfl | exact Or.inr (Or.inl rfl) | exact Or.inr (Or.inr rfl)) (hd1 : (x == ("__debug__" : Str)) = false := by decide)
    (hcd : (x == ("__classdict__" : Str)) = false := by decide) (hi : PlainIx b := by intro _ _; rfl) : E g (.Subscript (.Name x p1) b pos) δ Q := fun X xo Γ σ H R r kk => by
  refine toW (pe_ix (IxR.or ix_list ix_tup) (pe_var (i := n) (by rw [xo.N]; exact hN) (by rw [xo.sc]; exact hv) hd1 hcd) (pW X b) hi) ?_
  obtain ⟨q, eσ, hH⟩ := r.pw n i j k hs
  refine ⟨.ref q, eσ, ?_⟩
  refine h X xo Γ σ H _ r fun d v H1 h1 ex pd => ?_
  obtain ⟨m, w, rfl, hat, hq⟩ := h1
  have hH1 : H1 q = some (.lst [.int i, .int j, .int k]) := ex.keep q _ hH (nWl r hs rfl (by intro z; cases z) eσ)
  refine .inl ⟨q, _, m, .int w, rfl, dp_int pd, .inl (.inl hH1), ?_, kk _ _ H1 hq ex (.int w)⟩
  have e1 : ([.int i, .int j, .int k] : List V) = (pwL i j k).map V.int := rfl
  unfold atI at hat ⊢
  rw [e1, List.length_map]
  cases z : ixN (pwL i j k).length m with
  | none =>
    rw [z] at hat
    cases hat
  | some u =>
    rw [z] at hat
    show ((pwL i j k).map V.int)[u]? = some (.int w)
    rw [List.getElem?_map, show (pwL i j k)[u]? = some w from hat]
    rfl
/-- the well after a store -/
def pwS (i j k : Int) (n : Nat) (v : Int) : SD := .pw (if n = 0 then v else i) (if n = 1 then v else j) (if n = 2 then v else k)
theorem pwS_list (i j k v : Int) (n : Nat) : ([.int i, .int j, .int k] : List V).set n (.int v) = [.int (if n = 0 then v else i), .int (if n = 1 then v else j), .int (if n = 2 then v else k)] := by
  rcases n with _ | _ | _ | n <;> simp
/-- x[m] = e, x the open well -/
theorem s_pw {n : Nat} {x : Str} {i j k : Int} {m : Int} {p1 p2 : Pos} {q1 p3} (hs : δ[n]? = some (.pw i j k)) (h : E g e δ fun d => ∃ v u, d = .int v ∧ ixN 3 m = some u ∧ nx (δ.set n (pwS i j k u v))) (hN : g.N[n]? = some x := by rfl) (hv : Vis g.sc x := by first | exact Or.inl rfl | exact Or.inr (Or.inl rfl) | exact Or.inr (Or.inr rfl)) (hd1 : (x == ("__debug__" : Str)) = false := by decide)
    (hcd : (x == ("__classdict__" : Str)) = false := by decide) (ha : ∀ env v, assign (.Subscript (.Name x p1) (.Constant (.int m) q1 p3) p2) env v = (do
      let ov ← holding [v] (eval (.Name x p1) env)
      let iv ← holding [v, ov] (eval (.Constant (.int m) q1 p3) env)
      standAt p2
      holding [v, ov, iv] (setItem ov iv v)
      release [v, ov, iv] []) := by intro _ _; rfl) (hsw : ∀ env, swapsWithSole [.Subscript (.Name x p1) (.Constant (.int m) q1 p3) p2] e pos.line env = pure false := by intro _; rfl) (hw : ∀ env, swappedStores [.Subscript (.Name x p1) (.Constant (.int m) q1 p3) p2] e env = pure none := by intro _; rfl)
    (ha1 : ∀ env, (assignEach [.Subscript (.Name x p1) (.Constant (.int m) q1 p3) p2] env).map (·.2) = [assign (.Subscript (.Name x p1) (.Constant (.int m) q1 p3) p2) env] := by intro _; rfl) : S g (.Assign [.Subscript (.Name x p1) (.Constant (.int m) q1 p3) p2] e pos) δ nx rt := fun X xo Γ σ H D r kn kr => by
  refine toWS (ps_asg (pW X e) (pg_sub (pe_var (i := n) (by rw [xo.N]; exact hN) (by rw [xo.sc]; exact hv) hd1 hcd) pe_int set_list (ha _)) (hsw _) (hw _) (ha1 _)) ?_
  refine h X xo Γ σ H _ r fun d v H1 h1 e1 p1 => ?_
  obtain ⟨v', u, rfl, hu, hn⟩ := h1
  obtain rfl := dp_int p1
  have r1 := r.ext e1
  obtain ⟨q, eσ, hH⟩ := r1.pw n i j k hs
  refine ⟨.ref q, eσ, q, _, m, u, rfl, rfl, hH, hu, kn _ _ _ hn ?_⟩
  rw [pwS_list]
  exact r1.upOw hs rfl (by intro z; cases z) eσ hH (.inr ⟨⟨_, _, _, rfl⟩, _, _, _, rfl, rfl⟩)
/-- x[m], y = e (a pair), x the open well -/
theorem s_pw2 {n l : Nat} {x y : Str} {i j k : Int} {m : Int} {p1 p2 py pt : Pos} {kt : Nat} {q1 p3} (hs : δ[n]? = some (.pw i j k)) (h : E g e δ fun d => ∃ v d2 u, d = .tuple [.int v, d2] ∧ ixN 3 m = some u ∧ nx ((δ.set n (pwS i j k u v)).set l (.sh d2))) (hnl : n ≠ l := by decide) (hN : g.N[n]? = some x := by rfl) (hv : Vis g.sc x := by first | exact Or.inl rfl | exact Or.inr (Or.inl rfl) | exact Or.inr (Or.inr rfl)) (hd1 : (x == ("__debug__" : Str)) = false := by decide)
    (hcd : (x == ("__classdict__" : Str)) = false := by decide) (hNl : g.N[l]? = some y := by rfl) (hly : Loc g.sc y := by first | exact Or.inl rfl | exact Or.inr rfl) (hfy : g.fc y = true ∨ g.sc.names.lookup y = some .local := by first | exact Or.inr rfl | exact Or.inl rfl) (hol : nOw δ l = true := by rfl) (ha : ∀ env v, assign (.Subscript (.Name x p1) (.Constant (.int m) q1 p3) p2) env v = (do
      let ov ← holding [v] (eval (.Name x p1) env)
      let iv ← holding [v, ov] (eval (.Constant (.int m) q1 p3) env)
      standAt p2
      holding [v, ov, iv] (setItem ov iv v)
      release [v, ov, iv] []) := by intro _ _; rfl) (hsw : ∀ env, swapsWithSole [.Tuple [.Subscript (.Name x p1) (.Constant (.int m) q1 p3) p2, .Name y py] kt pt] e pos.line env = pure false := by intro _; rfl) (hw : ∀ env, swappedStores [.Tuple [.Subscript (.Name x p1) (.Constant (.int m) q1 p3) p2, .Name y py] kt pt] e env = pure none := by intro _; rfl)
    (ha1 : ∀ env, (assignEach [.Tuple [.Subscript (.Name x p1) (.Constant (.int m) q1 p3) p2, .Name y py] kt pt] env).map (·.2) = [assign (.Tuple [.Subscript (.Name x p1) (.Constant (.int m) q1 p3) p2, .Name y py] kt pt) env] := by intro _; rfl)
    (hc1 : ∀ env, (assignEach [.Subscript (.Name x p1) (.Constant (.int m) q1 p3) p2, .Name y py] env).map (·.2) = assign (.Subscript (.Name x p1) (.Constant (.int m) q1 p3) p2) env :: (assignEach [.Name y py] env).map (·.2) := by intro _; rfl) (hc2 : ∀ env, (assignEach [.Name y py] env).map (·.2) = assign (.Name y py) env :: (assignEach [] env).map (·.2) := by intro _; rfl)
    (hn : ∀ env, (assignEach [.Subscript (.Name x p1) (.Constant (.int m) q1 p3) p2, .Name y py] env).length = 2 := by intro _; rfl) (hst : ∀ env, (assignEach [.Subscript (.Name x p1) (.Constant (.int m) q1 p3) p2, .Name y py] env).findIdx? (·.1) = none := by intro _; rfl) :
    S g (.Assign [.Tuple [.Subscript (.Name x p1) (.Constant (.int m) q1 p3) p2, .Name y py] kt pt] e pos) δ nx rt := fun X xo Γ σ H D r kn kr => by
  refine toWS (ps_asg (pW X e) (pg_tup xo.calm (pgs_cons (pg_sub (pe_var (i := n) (by rw [xo.N]; exact hN) (by rw [xo.sc]; exact hv) hd1 hcd) pe_int set_list (ha _)) (pgs_cons (tg_name hNl hly hfy X xo) pgs_nil (hc2 _)) (hc1 _)) (hn _) (hst _)) (hsw _) (hw _) (ha1 _)) ?_
  refine h X xo Γ σ H _ r fun d v H1 h1 e1 pd => ?_
  obtain ⟨v', d2, u, rfl, hu, hq⟩ := h1
  obtain ⟨T, vs, rfl, sT, pT⟩ := dp_tup pd
  obtain ⟨v1, ws, rfl, q1, pT⟩ := dpAll_cons pT
  obtain ⟨v2, ws, rfl, q2, pT⟩ := dpAll_cons pT
  obtain rfl := dpAll_nil pT
  obtain rfl := dp_int q1
  have r1 := r.ext e1
  obtain ⟨q, eσ, hH⟩ := r1.pw n i j k hs
  refine ⟨T, [.int v', v2], rfl, by rw [xo.K]; exact grow_t hid_le sT, rfl, .int v', [v2], rfl, .ref q, eσ, q, _, m, u, rfl, rfl, hH, hu, v2, [], rfl, rfl, kn _ _ _ hq ?_⟩
  rw [pwS_list]
  have r2 := r1.upOw (t := pwS i j k u v') (ys := [.int (if u = 0 then v' else i), .int (if u = 1 then v' else j), .int (if u = 2 then v' else k)]) hs rfl (by intro z; cases z) eσ hH (.inr ⟨⟨_, _, _, rfl⟩, _, _, _, rfl, rfl⟩)
  have hol' : nOw (δ.set n (pwS i j k u v')) l = true := by
    unfold nOw at *
    rw [List.getElem?_set_ne hnl]
    exact hol
  refine r2.set hol' ⟨v2, rfl, dp_mono (hid_grow fun b o z nn => ?_) q2⟩
  have nb : b ≠ q := fun e => nn (.inr (by rw [e]; exact ⟨n, _, hs, rfl, eσ⟩))
  refine ⟨fun w => nn (w.imp id fun ⟨m', u', a1, a2, a3⟩ => ?_), by rw [upd_ne nb]; exact z⟩
  rcases get_set a1 with ⟨y, _⟩ | ⟨y, a1⟩
  · rw [y] at a3
    exact ⟨n, _, hs, rfl, a3⟩
  · exact ⟨m', u', a1, a2, a3⟩
end
/-! ### defs -/
def startD (N : List Str) (ds : List SD) : List SD := ds ++ List.replicate (N.length - ds.length) .any
theorem start_get {N : List Str} {vs : List V} {i : Nat} {v : V} (h : vs[i]? = some v) : (L2.start N vs)[i]? = some (some v) := by
  unfold L2.start
  have hl := (List.getElem?_eq_some_iff.mp h).1
  rw [List.getElem?_append_left (by simpa using hl), List.getElem?_map, h] <;> rfl
theorem startD_get {N : List Str} {ds : List SD} {i : Nat} {s : SD} (h : (startD N ds)[i]? = some s) (hs : s ≠ .any) : ds[i]? = some s := by
  unfold startD at h
  by_cases hl : i < ds.length
  · rw [List.getElem?_append_left hl] at h
    exact h
  · rw [List.getElem?_append_right (by omega), List.getElem?_replicate] at h
    split at h
    · exact absurd (Option.some.inj h).symm hs
    · cases h
section
variable {T : Th} {N ps : List Str} {k : Nat} {x qual : Str} {params : Arguments} {body : List Stmt} {scope : Scope} {f : Addr} {fd : FuncData}
def gOf (T : Th) (N : List Str) (scope : Scope) (k : Nat) : G := ⟨T, N, scope, fun _ => true, k⟩
theorem xok_def {qual : Str} {cdv : Value} {A : Around} {outer : List Env} {s : Shared} {H : Hp} {E : XK} (S : FnScope N ps scope) (hr : Room k (A.deeper (envOfC qual scope s.heap.objs.size f cdv))) : XOk (gOf T N scope k) (cxOf CX0 T.P T.w T.K T.mg T.base N qual scope f cdv A outer s H E).nox :=
  ⟨rfl, rfl, rfl, rfl, rfl, rfl, rfl, S.nd, rfl, hr, rfl, fun _ _ => rfl, S.kind, ⟨_, _, rfl, S.gen, S.co, rfl, rfl⟩⟩
theorem pure_real {K : PySem.W.Frag} {W : Addr → Prop} {H : Hp} {vs : List V} {ds : List PyData} (hW : ∀ a, W a → ∃ o, H a = some o) (hd : DpAll K (hid W H) vs ds) (hl : vs.length ≤ N.length) : Real K ⟨W, H, fun _ => False, fun _ => False⟩ H (L2.start N vs) (startD N (ds.map .sh)) := by
  have hlen := dpAll_len hd
  have at_ : ∀ {i : Nat} {s : SD}, (startD N (ds.map SD.sh))[i]? = some s → s ≠ .any → ∃ d, ds[i]? = some d ∧ s = .sh d := fun {i s} h hs => by
    have h' := startD_get h hs
    rw [List.getElem?_map] at h'
    cases z : ds[i]? with
    | none =>
      rw [z] at h'
      cases h'
    | some d =>
      rw [z] at h'
      exact ⟨d, rfl, (Option.some.inj h').symm⟩
  have now : ∀ a, ¬ Wo (L2.start N vs) (startD N (ds.map SD.sh)) a := fun a ⟨i, s, h1, h2, _⟩ => by
    obtain ⟨d, _, rfl⟩ := at_ h1 (fun e => by rw [e] at h2; cases h2)
    cases h2
  have hh : Hd ⟨W, H, fun _ => False, fun _ => False⟩ (L2.start N vs) (startD N (ds.map SD.sh)) = W := by
    funext a
    unfold Hd
    exact propext ⟨fun w => w.elim id fun w => absurd w (now a), .inl⟩
  refine ⟨?_, fun a o h _ => h, hW, fun a w => w.elim, fun i d h => ?_, fun i ds' h => ?_, fun i h => ?_, fun i lo hi h => ?_, fun a w => absurd w (now a), fun i j s t a h1 h2 _ _ _ _ => ?_, fun i ds' a h _ => ?_, fun n i j k' h => ?_⟩
  · unfold startD L2.start
    simp only [List.length_append, List.length_map, List.length_replicate]
    omega
  · obtain ⟨d', e1, e2⟩ := at_ h (by intro z; cases z)
    cases e2
    obtain ⟨v, q1, q2⟩ := dpAll_get hd e1
    rw [hh]
    exact ⟨v, start_get q1, q2⟩
  · obtain ⟨d', _, e2⟩ := at_ h (by intro z; cases z)
    cases e2
  · obtain ⟨d', _, e2⟩ := at_ h (by intro z; cases z)
    cases e2
  · obtain ⟨d', _, e2⟩ := at_ h (by intro z; cases z)
    cases e2
  · obtain ⟨d', _, e2⟩ := at_ h1 (by intro z; rw [z] at h2; cases h2)
    rw [e2] at h2
    cases h2
  · obtain ⟨d', _, e2⟩ := at_ h (by intro z; cases z)
    cases e2
  · obtain ⟨d', _, e2⟩ := at_ h (by intro z; cases z)
    cases e2
/-- a def of data -/
theorem pure_fn {F : List PyData → (PyData → Prop) → Prop} (D : FunD T.K x qual params body scope [] [] f fd) (S : FnScope N ps scope) (hl : ∀ ds Pp, F ds Pp → ds.length = ps.length)
    (h : ∀ ds Pp, F ds Pp → SS (gOf T N scope k) body (startD N (ds.map .sh)) (fun _ => Pp .none) Pp) : FnOk T.P T.w T.K T.mg T.base CX0 (k + 1) f fd ps (PureSp T.K F) := by
  have hpl : ps.length ≤ N.length := by
    have e := congrArg List.length S.pre
    rw [List.length_take] at e
    omega
  refine D.ok S (fun vs H Q E ⟨W, ds, Pp, h1, _, h3, _⟩ => by rw [dpAll_len h3, hl ds Pp h1]) fun cdv A outer s H vs Q E hr ⟨W, ds, Pp, h1, h2, h3, h4⟩ => ?_
  refine ⟨_, (pWSs _ body).nox, ?_⟩
  have hlv : vs.length ≤ N.length := by
    rw [dpAll_len h3, hl ds Pp h1]
    exact hpl
  refine h ds Pp h1 _ (xok_def S hr) _ _ H _ (pure_real h2 h3 hlv) (fun δ' σ' H' hP r' => ?_) fun d v H' hP ok => ?_
  · exact h4 .none .non H' hP (fun a o q => r'.fr a o q id) .non
  · exact h4 d v H' hP (fun a o q => ok.fr a o q id) ok.dp
theorem Ok.pure {F : List PyData → (PyData → Prop) → Prop} (D : FunD T.K x qual params body scope [] [] f fd) (hm : T.mg x = some (.ref f)) (S : FnScope N ps scope) (hb : Binds T.K fd ps []) (hl : ∀ ds Pp, F ds Pp → ds.length = ps.length)
    (h : ∀ ds Pp, F ds Pp → SS (gOf T N scope k) body (startD N (ds.map .sh)) (fun _ => Pp .none) Pp) : Ok T x ps (k + 1) (PureSp T.K F) := ⟨f, fd, hm, D.kp, hb, pure_fn D S hl h⟩
/-- a def whose first parameter is a well -/
theorem Ok.well {F : List PyData → (PyData → Prop) → Prop} (D : FunD T.K x qual params body scope [] [] f fd) (hm : T.mg x = some (.ref f)) (S : FnScope N ps scope) (hb : Binds T.K fd ps []) (hl : ∀ ds Pp, F ds Pp → ds.length + 1 = ps.length)
    (h : ∀ ds Pp, F ds Pp → SS (gOf T N scope k) body (startD N (.well :: ds.map .sh)) (fun _ => Pp .none) Pp) : Ok T x ps (k + 1) (WellSp T.K F) := by
  have hpl : ps.length ≤ N.length := by
    have e := congrArg List.length S.pre
    rw [List.length_take] at e
    omega
  refine ⟨f, fd, hm, D.kp, hb, D.ok S (fun vs H Q E ⟨W, aw, ws, ds, Pp, e, h1, _, _, _, h3, _⟩ => by rw [e, List.length_cons, dpAll_len h3, hl ds Pp h1]) fun cdv A outer s H vs Q E hr ⟨W, aw, ws, ds, Pp, e, h1, h5, h6, h2, h3, h4⟩ => ?_⟩
  subst e
  refine ⟨_, (pWSs _ body).nox, ?_⟩
  have hlv : (V.ref aw :: ws).length ≤ N.length := by
    rw [List.length_cons, dpAll_len h3, hl ds Pp h1]
    exact hpl
  have hlen := dpAll_len h3
  -- the slots
  have at_ : ∀ {i : Nat} {s : SD}, (startD N (SD.well :: ds.map SD.sh))[i]? = some s → s ≠ .any → (i = 0 ∧ s = .well) ∨ ∃ j d, i = j + 1 ∧ ds[j]? = some d ∧ s = .sh d := fun {i s} h hs => by
    have h' := startD_get h hs
    cases i with
    | zero => exact .inl ⟨rfl, (Option.some.inj h').symm⟩
    | succ j =>
      rw [List.getElem?_cons_succ, List.getElem?_map] at h'
      cases z : ds[j]? with
      | none =>
        rw [z] at h'
        cases h'
      | some d =>
        rw [z] at h'
        exact .inr ⟨j, d, rfl, z, (Option.some.inj h').symm⟩
  have s0 : (L2.start N (V.ref aw :: ws))[0]? = some (some (.ref aw)) := start_get rfl
  have wo : ∀ a, Wo (L2.start N (V.ref aw :: ws)) (startD N (SD.well :: ds.map SD.sh)) a → a = aw := fun a ⟨i, s, q1, q2, q3⟩ => by
    rcases at_ q1 (fun e => by rw [e] at q2; cases q2) with ⟨rfl, _⟩ | ⟨j, d, _, _, rfl⟩
    · rw [s0] at q3
      cases q3
      rfl
    · cases q2
  have hh : Hd ⟨W, H, fun a => a = aw, fun a => a = aw⟩ (L2.start N (V.ref aw :: ws)) (startD N (SD.well :: ds.map SD.sh)) = W := by
    funext a
    unfold Hd
    exact propext ⟨fun w => w.elim id fun w => by rw [wo a w]; exact h5, .inl⟩
  have R0 : Real T.K ⟨W, H, fun a => a = aw, fun a => a = aw⟩ H (L2.start N (V.ref aw :: ws)) (startD N (SD.well :: ds.map SD.sh)) := by
    refine ⟨?_, fun a o h _ => h, h2, fun a w => by rw [show a = aw from w]; exact h6, fun i d h => ?_, fun i ds' h => ?_, fun i h => ?_, fun i lo hi h => ?_, fun a w => .inl (wo a w), fun i j s t a q1 q2 q3 q4 _ _ => ?_, fun i ds' a h _ => ?_, fun n i j k' h => ?_⟩
    · unfold startD L2.start
      simp only [List.length_append, List.length_map, List.length_replicate, List.length_cons]
      simp only [List.length_cons] at hlv
      omega
    · rcases at_ h (by intro z; cases z) with ⟨_, e⟩ | ⟨j, d', rfl, e1, e2⟩
      · cases e
      · cases e2
        obtain ⟨v, q1, q2⟩ := dpAll_get h3 e1
        rw [hh]
        exact ⟨v, start_get (vs := V.ref aw :: ws) (by simpa using q1), q2⟩
    · rcases at_ h (by intro z; cases z) with ⟨_, e⟩ | ⟨j, d', rfl, e1, e2⟩
      · cases e
      · cases e2
    · rcases at_ h (by intro z; cases z) with ⟨e, _⟩ | ⟨j, d', rfl, e1, e2⟩
      · rw [e]
        exact ⟨aw, s0, h6⟩
      · cases e2
    · rcases at_ h (by intro z; cases z) with ⟨_, e⟩ | ⟨j, d', rfl, e1, e2⟩
      · cases e
      · cases e2
    · have z1 : i = 0 := by
        rcases at_ q1 (fun e => by rw [e] at q2; cases q2) with ⟨e, _⟩ | ⟨j, d', rfl, e1, e2⟩
        · exact e
        · rw [e2] at q2
          cases q2
      have z2 : j = 0 := by
        rcases at_ q3 (fun e => by rw [e] at q4; cases q4) with ⟨e, _⟩ | ⟨j, d', rfl, e1, e2⟩
        · exact e
        · rw [e2] at q4
          cases q4
      rw [z1, z2]
    · rcases at_ h (by intro z; cases z) with ⟨_, e⟩ | ⟨j, d', rfl, e1, e2⟩
      · cases e
      · cases e2
    · rcases at_ h (by intro z; cases z) with ⟨_, e⟩ | ⟨j, d', rfl, e1, e2⟩
      · cases e
      · cases e2
  refine h ds Pp h1 _ (xok_def S hr) _ _ H _ R0 (fun δ' σ' H' hP r' => ?_) fun d v H' hP ok => ?_
  · exact h4 .none .non H' hP (fun a o q n => r'.fr a o q n) (r'.oa aw rfl) .non
  · exact h4 d v H' hP (fun a o q n => ok.fr a o q n) (ok.oa aw rfl) ok.dp
end
end Pd

/-! text Pm -/
set_option Elab.async false
set_option linter.all false
set_option maxRecDepth 100000
set_option maxHeartbeats 4000000
/-! Calls: a new well handed on; calls by keywords. -/
namespace Pd
open PySem PySem.Spec PyProof.Rows L2

section
variable {g : G} {e e1 e2 e3 : Expr} {es : List Expr} {δ : List SD} {Q : PyData → Prop} {pos p : Pos}
/-- f(e), e a new list of three ints -/
theorem e_callNW {x : Str} {ps : List Str} {k : Nat} {F : List PyData → (PyData → Prop) → Prop} (C : Ok g.T x ps k (WellSp g.T.K F)) (hk : k ≤ g.k) (h : EF g e δ fun ds => (∃ i j k, ds = [.int i, .int j, .int k]) ∧ F [] Q) (hg : Glob g x := by rfl) (hdb : (x == ("__debug__" : Str)) = false := by decide)
    (he : ∀ env, starEach [e] env = (false, eval e env) :: starEach [] env := by intro _; rfl) : E g (.Call (.Name x p) [e] [] pos) δ Q := fun X xo Γ σ H R rl kk => by
  obtain ⟨f, fd, hm, hkp, hb, hF⟩ := C
  refine toW (pe_call (xo.fnok hF) (xo.room.mono hk) (xo.gl hg) (by rw [xo.mg]; exact hm) (by rw [xo.K]; exact hkp) (by rw [xo.K]; exact hb) .nil pass0 (pa_cons (pW X e) pa_nil (he _)) hdb (he _) rfl) ?_
  refine h X xo Γ σ H _ rl fun ds q xs H1 h1 ex hq hq1 pd => ?_
  obtain ⟨⟨i, j, k', rfl⟩, hf⟩ := h1
  have exs : xs = [V.int i, V.int j, V.int k'] := dpAll_int (ns := [i, j, k']) pd
  subst exs
  have r1 := rl.ext ex
  have nl : ∀ a, Wl σ δ a → a ≠ q := fun a w e => by
    rw [e] at w
    exact rl.fresh hq (.inr w.o)
  refine ⟨fun a => Hd Γ σ δ a ∨ a = q, q, [], [], Q, rfl, hf, .inr rfl, ⟨i, j, k', hq1⟩, fun a w => w.elim (fun w => r1.dom w) (fun w => by subst w; exact ⟨_, hq1⟩), .nil, fun d v H' hQ kp _ pv => ?_⟩
  refine kk d v H' hQ ⟨fun a o ho n => kp a o (ex.keep a o ho n) (ne_of_none ho hq), fun a w hw => ?_⟩ (dp_mono (hid_grow fun a o z n => ⟨fun w => n (.inl w), z⟩) pv)
  obtain ⟨i', j', k2, z⟩ := ex.well a w hw
  exact ⟨i', j', k2, kp a _ z (nl a w)⟩
/-- a def of the module keeps a promise when it is called by keywords -/
def OkK (T : Th) (x : Str) (ks ps : List Str) (π : {α : Type} → List α → List α) (k : Nat) (sp : Sp) : Prop := ∃ f fd, T.mg x = some (.ref f) ∧ PySem.W.keepIn T.K (.ref f) = true ∧ (∀ (s : Shared) (ws : List Value), ws.length = ks.length → BindsTo s fd ⟨[], ks.zip ws⟩ (ps.zip (π ws))) ∧ FnOk T.P T.w T.K T.mg T.base CX0 k f fd ps sp
theorem run_kw {X : Cx} {k : Nat} {f : Addr} {fd : FuncData} {ps ks : List Str} {sp : Sp} {π : {α : Type} → List α → List α} {pins : List (Addr × Obj)} {σ : L2.St} {H : Hp} {s : Shared} {Q : VK} {ws : List Value} {zs : List V} (F : FnOk X.prog X.w X.K X.mg X.base CX0 k f fd ps sp) (hr : Room k X.A) (hb : BindsTo s fd ⟨[], ks.zip ws⟩ (ps.zip (π ws)))
    (I : Inv X pins σ H s) (rz : Vals (π zs) (π ws)) (h : sp (π zs) H Q (fun _ _ _ => False)) : wpAny (model X.prog X.w) X.A (call (.ref f) [] (ks.zip ws)) (EP X pins σ Q) X.xe s := by
  refine wpAny_call (codeAny_mono (F.run X.A X.stack s H ⟨[], ks.zip ws⟩ (π ws) (π zs) Q (fun _ _ _ => False) hr I.env0 hb rz h) fun r s' hq => ?_)
  cases r with
  | error e => exact pass0 pins σ H s e s' I hq
  | ok fl =>
    cases fl with
    | ret u => exact I.after hq
    | _ => exact hq.elim
def perm3 {α : Type} : List α → List α
  | [a, b, c] => [c, b, a]
  | l => l
def perm2 {α : Type} : List α → List α
  | [a, b] => [b, a]
  | l => l
theorem e_call3 {x k1 k2 k3 : Str} {p1 p2 p3 : Pos} {ps : List Str} {k : Nat} {F : List PyData → (PyData → Prop) → Prop} (C : OkK g.T x [k1, k2, k3] ps perm3 k (PureSp g.T.K F)) (hk : k ≤ g.k) (h : E g e1 δ fun d1 => E g e2 δ fun d2 => E g e3 δ fun d3 => F [d3, d2, d1] Q) (hg : Glob g x := by rfl) (hdb : (x == ("__debug__" : Str)) = false := by decide)
    (hall : ∀ env, (backToKw pos (keywordEach [⟨some k1, e1, p1⟩, ⟨some k2, e2, p2⟩, ⟨some k3, e3, p3⟩] env)).all (·.1.isSome) = true := by intro _; rfl) (hks : ∀ env, (backToKw pos (keywordEach [⟨some k1, e1, p1⟩, ⟨some k2, e2, p2⟩, ⟨some k3, e3, p3⟩] env)).filterMap (·.1) = [k1, k2, k3] := by intro _; rfl)
    (hpl : ∀ env, ((backTo pos (starEach [] env)).any (·.1) || (backToKw pos (keywordEach [⟨some k1, e1, p1⟩, ⟨some k2, e2, p2⟩, ⟨some k3, e3, p3⟩] env)).any (·.1.isNone)) = false := by intro _; rfl) : E g (.Call (.Name x p) [] [⟨some k1, e1, p1⟩, ⟨some k2, e2, p2⟩, ⟨some k3, e3, p3⟩] pos) δ Q := fun X xo Γ σ H R rl kk => by
  obtain ⟨f, fd, hm, hkp, hb, hF⟩ := C
  intro pins s I
  refine wpAny_Call_Name_kw (ld_glob I (xo.gl hg) (by rw [xo.mg]; exact hm) ?_ hdb)
  refine PySem.W.callWith_KW0 (h₀ := X.base) I.ok.mod.kin (by rw [xo.K]; exact hkp) (hall _) (thn ((pk_cons (pW X e1) (pk_cons (pW X e2) (pk_cons (pW X e3) pk_nil))).run pos pins s σ H (fun zs H1 => ∃ d1 d2 d3 z1 z2 z3, zs = [z1, z2, z3] ∧ F [d3, d2, d1] Q ∧ Ext (Wl σ δ) H H1 ∧ DpAll g.T.K (hid (Hd Γ σ δ) H1) [z3, z2, z1] [d3, d2, d1]) I ?_) fun ws s2 ⟨zs, H2, I2, rz, d1, d2, d3, z1, z2, z3, ez, hf, ex, pd⟩ => ⟨I2.kIn, ?_⟩) (hpl _)
  · refine h X xo Γ σ H _ rl fun d1 v1 H1 h1 a1 q1 => ?_
    refine h1 X xo Γ σ H1 _ (rl.ext a1) fun d2 v2 H2 h2 a2 q2 => ?_
    refine h2 X xo Γ σ H2 _ ((rl.ext a1).ext a2) fun d3 v3 H3 h3 a3 q3 => ?_
    exact ⟨d1, d2, d3, v1, v2, v3, rfl, h3, (a1.trans a2).trans a3, .cons q3 (.cons (((rl.ext a1).ext a2).dp a3 q2) (.cons (((rl.ext a1).ext a2).dp a3 ((rl.ext a1).dp a2 q1)) .nil))⟩
  · subst ez
    rw [hks]
    have hw : ws.length = 3 := rz.length.symm
    cases rz with
    | cons r1 rr =>
    cases rr with
    | cons r2 rr =>
    cases rr with
    | cons r3 rr =>
    cases rr
    refine run_kw (π := perm3) (zs := [z1, z2, z3]) (xo.fnok hF) (xo.room.mono hk) (hb s2 _ rfl) I2 (.cons r3 (.cons r2 (.cons r1 .nil))) ?_
    exact ⟨Hd Γ σ δ, _, Q, hf, fun a w => (rl.ext ex).dom w, pd, fun d v H' q gr pv => kk d v H' q (ex.trans (.grow gr)) pv⟩
theorem e_call2 {x k1 k2 : Str} {p1 p2 : Pos} {ps : List Str} {k : Nat} {F : List PyData → (PyData → Prop) → Prop} (C : OkK g.T x [k1, k2] ps perm2 k (PureSp g.T.K F)) (hk : k ≤ g.k) (h : E g e1 δ fun d1 => E g e2 δ fun d2 => F [d2, d1] Q) (hg : Glob g x := by rfl) (hdb : (x == ("__debug__" : Str)) = false := by decide)
    (hall : ∀ env, (backToKw pos (keywordEach [⟨some k1, e1, p1⟩, ⟨some k2, e2, p2⟩] env)).all (·.1.isSome) = true := by intro _; rfl) (hks : ∀ env, (backToKw pos (keywordEach [⟨some k1, e1, p1⟩, ⟨some k2, e2, p2⟩] env)).filterMap (·.1) = [k1, k2] := by intro _; rfl)
    (hpl : ∀ env, ((backTo pos (starEach [] env)).any (·.1) || (backToKw pos (keywordEach [⟨some k1, e1, p1⟩, ⟨some k2, e2, p2⟩] env)).any (·.1.isNone)) = false := by intro _; rfl) : E g (.Call (.Name x p) [] [⟨some k1, e1, p1⟩, ⟨some k2, e2, p2⟩] pos) δ Q := fun X xo Γ σ H R rl kk => by
  obtain ⟨f, fd, hm, hkp, hb, hF⟩ := C
  intro pins s I
  refine wpAny_Call_Name_kw (ld_glob I (xo.gl hg) (by rw [xo.mg]; exact hm) ?_ hdb)
  refine PySem.W.callWith_KW0 (h₀ := X.base) I.ok.mod.kin (by rw [xo.K]; exact hkp) (hall _) (thn ((pk_cons (pW X e1) (pk_cons (pW X e2) pk_nil)).run pos pins s σ H (fun zs H1 => ∃ d1 d2 z1 z2, zs = [z1, z2] ∧ F [d2, d1] Q ∧ Ext (Wl σ δ) H H1 ∧ DpAll g.T.K (hid (Hd Γ σ δ) H1) [z2, z1] [d2, d1]) I ?_) fun ws s2 ⟨zs, H2, I2, rz, d1, d2, z1, z2, ez, hf, ex, pd⟩ => ⟨I2.kIn, ?_⟩) (hpl _)
  · refine h X xo Γ σ H _ rl fun d1 v1 H1 h1 a1 q1 => ?_
    refine h1 X xo Γ σ H1 _ (rl.ext a1) fun d2 v2 H2 h2 a2 q2 => ?_
    exact ⟨d1, d2, v1, v2, rfl, h2, a1.trans a2, .cons q2 (.cons ((rl.ext a1).dp a2 q1) .nil)⟩
  · subst ez
    rw [hks]
    cases rz with
    | cons r1 rr =>
    cases rr with
    | cons r2 rr =>
    cases rr
    refine run_kw (π := perm2) (zs := [z1, z2]) (xo.fnok hF) (xo.room.mono hk) (hb s2 _ rfl) I2 (.cons r2 (.cons r1 .nil)) ?_
    exact ⟨Hd Γ σ δ, _, Q, hf, fun a w => (rl.ext ex).dom w, pd, fun d v H' q gr pv => kk d v H' q (ex.trans (.grow gr)) pv⟩
end
end Pd

/-! text Pn -/
set_option Elab.async false
set_option linter.all false
set_option maxRecDepth 100000
set_option maxHeartbeats 4000000
/-! What the module's top gives. -/
namespace Pd
open PySem PySem.Spec PyProof.Rows L2 C8

/-- a fraction as the program writes it -/
def frac (q : Rat) : PyData := .tuple [.int q.num, .int (q.den : Int)]
structure Md (T : Th) : Prop where
  prog : T.P = PySem.Challenge.pw_trialground_k24_whole_outlasting_by_othe
  kin : T.K.In T.base
  ns : T.base.Ns mainGlobals T.mg
  says : He.SaysD _root_.Hd.fa _root_.Hd.fn T.K
  ex : _root_.Hd.exF T.K = true
theorem band {a b : Bool} (h : (a && b) = true) : a = true ∧ b = true := Bool.and_eq_true_iff.mp h
section
variable {T : Th}
theorem Md.gcd (M : Md T) : T.mg "gcd" = some (.builtin "math.gcd") := PySem.W.mg_of M.kin M.ns (He.eqO_ok (band M.ex).1)
theorem Md.zero (M : Md T) : T.mg "ZERO" = some (.ref (He.ga T.K "ZERO")) := He.glo_ok M.kin M.ns (M.says.fact 85 (f := .glo "ZERO") (by rfl))
theorem Md.one (M : Md T) : T.mg "ONE" = some (.ref (He.ga T.K "ONE")) := He.glo_ok M.kin M.ns (M.says.fact 86 (f := .glo "ONE") (by rfl))
theorem Md.zeroD (M : Md T) (H : Hp) : Dp T.K H (.ref (He.ga T.K "ZERO")) (frac 0) := .tup (He.tupB_ok (band (band M.ex).2).1 H) (.cons (.int 0) (.cons (.int 1) .nil))
theorem Md.oneD (M : Md T) (H : Hp) : Dp T.K H (.ref (He.ga T.K "ONE")) (frac 1) := .tup (He.tupB_ok (band (band (band M.ex).2).2).1 H) (.cons (.int 1) (.cons (.int 1) .nil))
theorem Md.b_isinstance (M : Md T) : T.mg "isinstance" = none := He.free_ok M.kin M.ns (M.says.fact 87 (f := .free "isinstance") (by rfl))
theorem Md.b_int (M : Md T) : T.mg "int" = none := He.free_ok M.kin M.ns (M.says.fact 88 (f := .free "int") (by rfl))
theorem Md.b_bool (M : Md T) : T.mg "bool" = none := He.free_ok M.kin M.ns (M.says.fact 89 (f := .free "bool") (by rfl))
theorem Md.b_tuple (M : Md T) : T.mg "tuple" = none := He.free_ok M.kin M.ns (M.says.fact 90 (f := .free "tuple") (by rfl))
theorem Md.b_len (M : Md T) : T.mg "len" = none := He.free_ok M.kin M.ns (M.says.fact 91 (f := .free "len") (by rfl))
theorem Md.b_all (M : Md T) : T.mg "all" = none := He.free_ok M.kin M.ns (M.says.fact 92 (f := .free "all") (by rfl))
theorem Md.b_any (M : Md T) : T.mg "any" = none := He.free_ok M.kin M.ns (M.says.fact 93 (f := .free "any") (by rfl))
theorem Md.b_range (M : Md T) : T.mg "range" = none := He.free_ok M.kin M.ns (M.says.fact 94 (f := .free "range") (by rfl))
theorem Md.b_list (M : Md T) : T.mg "list" = none := He.free_ok M.kin M.ns (M.says.fact 95 (f := .free "list") (by rfl))
theorem Md.b_zip (M : Md T) : T.mg "zip" = none := He.free_ok M.kin M.ns (M.says.fact 96 (f := .free "zip") (by rfl))
theorem Md.b_enumerate (M : Md T) : T.mg "enumerate" = none := He.free_ok M.kin M.ns (M.says.fact 97 (f := .free "enumerate") (by rfl))
theorem Md.b_max (M : Md T) : T.mg "max" = none := He.free_ok M.kin M.ns (M.says.fact 98 (f := .free "max") (by rfl))
theorem Md.b_min (M : Md T) : T.mg "min" = none := He.free_ok M.kin M.ns (M.says.fact 99 (f := .free "min") (by rfl))
theorem Md.b_abs (M : Md T) : T.mg "abs" = none := He.free_ok M.kin M.ns (M.says.fact 100 (f := .free "abs") (by rfl))
theorem Md.b_divmod (M : Md T) : T.mg "divmod" = none := He.free_ok M.kin M.ns (M.says.fact 101 (f := .free "divmod") (by rfl))
theorem Md.b_sorted (M : Md T) : T.mg "sorted" = none := He.free_ok M.kin M.ns (M.says.fact 102 (f := .free "sorted") (by rfl))
theorem Md.b_repr (M : Md T) : T.mg "repr" = none := He.free_ok M.kin M.ns (M.says.fact 103 (f := .free "repr") (by rfl))
theorem Md.i_MOST_PLOTS (M : Md T) : ∃ t, T.mg "MOST_PLOTS" = some (.int 10 t) := He.int_ok M.kin M.ns (M.says.fact 104 (f := .int "MOST_PLOTS" 10) (by rfl))
theorem Md.i_MOST_UNKNOWNS (M : Md T) : ∃ t, T.mg "MOST_UNKNOWNS" = some (.int 5 t) := He.int_ok M.kin M.ns (M.says.fact 105 (f := .int "MOST_UNKNOWNS" 5) (by rfl))
theorem Md.i_MOST_BLOCK (M : Md T) : ∃ t, T.mg "MOST_BLOCK" = some (.int 4 t) := He.int_ok M.kin M.ns (M.says.fact 106 (f := .int "MOST_BLOCK" 4) (by rfl))
theorem nsB_ok {K : PySem.W.Frag} {a : Addr} {h : Heap} (X : K.In h) (e : _root_.Hd.nsB K a = true) : ∃ m, h.Ns a m := by
  unfold _root_.Hd.nsB at e
  split at e
  · rename_i c d es ep sl q
    refine ⟨fun name => nsFind es name, _, es, ep, X _ _ q, rfl, fun en hen => ?_, fun _ => rfl⟩
    have k := List.all_eq_true.mp e en (by simpa using hen)
    split at k
    · exact ⟨_, _, by assumption⟩
    · cases k
  · cases e
theorem Md.seer (M : Md T) : Seer T where
  tree := by
    rw [M.prog]
    rfl
  ns := fun md => by
    obtain ⟨_, q⟩ := band M.ex
    obtain ⟨_, q⟩ := band q
    obtain ⟨_, q⟩ := band q
    obtain ⟨q1, q⟩ := band q
    obtain ⟨q2, q⟩ := band q
    obtain ⟨q3, q⟩ := band q
    obtain ⟨q4, q⟩ := band q
    obtain ⟨q5, q⟩ := band q
    obtain ⟨mc, n1⟩ := nsB_ok M.kin q1
    obtain ⟨mm, n2⟩ := nsB_ok M.kin q2
    refine ⟨⟨mc, n1, PySem.W.ns_none_of M.kin n1 (He.eqO_ok q3), PySem.W.ns_none_of M.kin n1 (He.eqO_ok q4)⟩, ⟨mm, n2, PySem.W.ns_none_of M.kin n2 (He.eqO_ok q5)⟩, md.blt, ?_⟩
    split at q
    · rename_i b e1
      split at q
      · rename_i c d x3 x4 e2
        obtain ⟨z1, z2⟩ := band q
        have z1' := of_decide_eq_true z1
        have z2' := of_decide_eq_true z2
        subst z1' z2'
        exact ⟨T.mg, b, _, M.ns, PySem.W.mg_of M.kin M.ns e1, M.kin _ _ e2, rfl, rfl⟩
      · cases q
    · cases q
/-- a def of data, from the module -/
theorem okP (M : Md T) {k i : Nat} {x : Str} {s : Stmt} {N ps : List Str} {F : List PyData → (PyData → Prop) → Prop} (hd : _root_.Hd.fn[i]? = some (_root_.Hd.mkD x s)) (hf : _root_.Hd.fa[i]? = some (.glo x)) (hS : scC N ps (defScope s) = true)
    (hb : ∀ (kV doc pm : Value) (an : Option Addr) (cdv ct : Value) (us : List Value), us.length = ps.length → bindArgs (PySem.W.fnOf x x (defArgs s) (defBody s) (defScope s) .none kV doc pm an cdv ct) ⟨us, []⟩ = pure (ps.zip us)) (hl : ∀ ds Pp, F ds Pp → ds.length = ps.length)
    (h : ∀ ds Pp, F ds Pp → SS (gOf T N (defScope s) k) (defBody s) (startD N (ds.map .sh)) (fun _ => Pp .none) Pp) : Ok T x ps (k + 1) (PureSp T.K F) := by
  obtain ⟨fd, D⟩ := M.says.def_ i hd
  exact Ok.pure (D : FunD T.K x x (defArgs s) (defBody s) (defScope s) [] [] (He.ga T.K x) fd) (He.glo_ok M.kin M.ns (M.says.fact i hf)) (fnScope_by hS) (FunD.bindsN D hb) hl h
theorem okW (M : Md T) {k i : Nat} {x : Str} {s : Stmt} {N ps : List Str} {F : List PyData → (PyData → Prop) → Prop} (hd : _root_.Hd.fn[i]? = some (_root_.Hd.mkD x s)) (hf : _root_.Hd.fa[i]? = some (.glo x)) (hS : scC N ps (defScope s) = true)
    (hb : ∀ (kV doc pm : Value) (an : Option Addr) (cdv ct : Value) (us : List Value), us.length = ps.length → bindArgs (PySem.W.fnOf x x (defArgs s) (defBody s) (defScope s) .none kV doc pm an cdv ct) ⟨us, []⟩ = pure (ps.zip us)) (hl : ∀ ds Pp, F ds Pp → ds.length + 1 = ps.length)
    (h : ∀ ds Pp, F ds Pp → SS (gOf T N (defScope s) k) (defBody s) (startD N (.well :: ds.map .sh)) (fun _ => Pp .none) Pp) : Ok T x ps (k + 1) (WellSp T.K F) := by
  obtain ⟨fd, D⟩ := M.says.def_ i hd
  exact Ok.well (D : FunD T.K x x (defArgs s) (defBody s) (defScope s) [] [] (He.ga T.K x) fd) (He.glo_ok M.kin M.ns (M.says.fact i hf)) (fnScope_by hS) (FunD.bindsN D hb) hl h
/-- .. called by keywords -/
theorem okK (M : Md T) {k i : Nat} {x : Str} {s : Stmt} {N ps ks : List Str} {π : {α : Type} → List α → List α} {F : List PyData → (PyData → Prop) → Prop} (hd : _root_.Hd.fn[i]? = some (_root_.Hd.mkD x s)) (hf : _root_.Hd.fa[i]? = some (.glo x)) (hS : scC N ps (defScope s) = true)
    (hb : ∀ (kV doc pm : Value) (an : Option Addr) (cdv ct : Value) (ws : List Value), ws.length = ks.length → bindArgs (PySem.W.fnOf x x (defArgs s) (defBody s) (defScope s) .none kV doc pm an cdv ct) ⟨[], ks.zip ws⟩ = pure (ps.zip (π ws))) (hl : ∀ ds Pp, F ds Pp → ds.length = ps.length)
    (h : ∀ ds Pp, F ds Pp → SS (gOf T N (defScope s) k) (defBody s) (startD N (ds.map .sh)) (fun _ => Pp .none) Pp) : OkK T x ks ps π (k + 1) (PureSp T.K F) := by
  obtain ⟨fd, D⟩ := M.says.def_ i hd
  have D' : FunD T.K x x (defArgs s) (defBody s) (defScope s) [] [] (He.ga T.K x) fd := D
  refine ⟨He.ga T.K x, fd, He.glo_ok M.kin M.ns (M.says.fact i hf), D'.kp, ?_, pure_fn D' (fnScope_by hS) hl h⟩
  obtain ⟨oc, od, dV, kV, doc, pm, an, cdv, ct, osl, rfl, lk, hcd, hD, hK⟩ := D'.ex
  rcases hD with ⟨_, rfl⟩ | ⟨e, _⟩
  · exact fun s ws hl => .of_eq (hb kV doc pm an cdv ct ws hl)
  · exact absurd rfl e
end
section
variable {g : G} {Q : PyData → Prop} {δ : List SD} {pos : Pos}
theorem e_zero (M : Md g.T) (q : Q (frac 0)) (hg : Glob g "ZERO" := by rfl) : E g (.Name "ZERO" pos) δ Q := e_glob (v := .ref (He.ga g.T.K "ZERO")) M.zero rfl M.zeroD q hg (by decide)
theorem e_one (M : Md g.T) (q : Q (frac 1)) (hg : Glob g "ONE" := by rfl) : E g (.Name "ONE" pos) δ Q := e_glob (v := .ref (He.ga g.T.K "ONE")) M.one rfl M.oneD q hg (by decide)
theorem e_MOST_PLOTS (M : Md g.T) (q : Q (.int 10)) (hg : Glob g "MOST_PLOTS" := by rfl) : E g (.Name "MOST_PLOTS" pos) δ Q := by
  obtain ⟨t, h⟩ := M.i_MOST_PLOTS
  exact e_glob (v := .int 10) h ⟨t, rfl⟩ (fun H => .int 10) q hg (by decide)
theorem e_MOST_UNKNOWNS (M : Md g.T) (q : Q (.int 5)) (hg : Glob g "MOST_UNKNOWNS" := by rfl) : E g (.Name "MOST_UNKNOWNS" pos) δ Q := by
  obtain ⟨t, h⟩ := M.i_MOST_UNKNOWNS
  exact e_glob (v := .int 5) h ⟨t, rfl⟩ (fun H => .int 5) q hg (by decide)
theorem e_MOST_BLOCK (M : Md g.T) (q : Q (.int 4)) (hg : Glob g "MOST_BLOCK" := by rfl) : E g (.Name "MOST_BLOCK" pos) δ Q := by
  obtain ⟨t, h⟩ := M.i_MOST_BLOCK
  exact e_glob (v := .int 4) h ⟨t, rfl⟩ (fun H => .int 4) q hg (by decide)
end
end Pd

/-! text Ra -/
set_option Elab.async false
set_option linter.all false
set_option maxRecDepth 100000
set_option maxHeartbeats 4000000
/-! Fractions: what ratio makes; sizes. -/
namespace Pd
open PySem PySem.Spec PyProof.Rows L2 C8

theorem lk {a b : Nat} (h : Nat.ble a b = true := by rfl) : a ≤ b := Nat.le_of_ble_eq_true h
/-! ### ratio -/
theorem gcdP {t l : Int} (h : l ≠ 0) : 0 < Nat.gcd t.natAbs l.natAbs := Nat.gcd_pos_of_pos_right _ (Int.natAbs_pos.mpr h)
theorem gdvd1 (t l : Int) : ((Nat.gcd t.natAbs l.natAbs : Nat) : Int) ∣ t := Int.ofNat_dvd_left.mpr (Nat.gcd_dvd_left _ _)
theorem gdvd2 (t l : Int) : ((Nat.gcd t.natAbs l.natAbs : Nat) : Int) ∣ l := Int.ofNat_dvd_left.mpr (Nat.gcd_dvd_right _ _)
theorem ratio_pos (t l : Int) (h : 0 < l) : frac (Rat.divInt t l) = .tuple [.int (t.fdiv ((Nat.gcd t.natAbs l.natAbs : Nat) : Int)), .int (l.fdiv ((Nat.gcd t.natAbs l.natAbs : Nat) : Int))] := by
  have hg : Int.gcd l t = Nat.gcd t.natAbs l.natAbs := Nat.gcd_comm _ _
  have e1 : (Rat.divInt t l).num = t.fdiv ((Nat.gcd t.natAbs l.natAbs : Nat) : Int) := by
    rw [Rat.num_divInt, hg, Int.sign_eq_one_of_pos h, Int.one_mul, Int.fdiv_eq_ediv_of_nonneg _ (Int.natCast_nonneg _)]
  have e2 : ((Rat.divInt t l).den : Int) = l.fdiv ((Nat.gcd t.natAbs l.natAbs : Nat) : Int) := by
    rw [Rat.den_divInt, hg, if_neg (by omega), Int.fdiv_eq_ediv_of_nonneg _ (Int.natCast_nonneg _), Int.natCast_ediv, Int.natAbs_of_nonneg (by omega)]
  unfold frac
  rw [e1, e2]
theorem fdivNeg (a : Int) (g : Nat) (hd : (g : Int) ∣ a) : a.fdiv (-(g : Int)) = -(a / (g : Int)) := by
  obtain ⟨c, rfl⟩ := hd
  by_cases hg : g = 0
  · subst hg
    simp
  · have hp : (g : Int) ≠ 0 := by omega
    rw [Int.mul_ediv_cancel_left _ hp]
    have : (g : Int) * c = -(g : Int) * -c := by rw [Int.neg_mul_neg]
    rw [this, Int.mul_fdiv_cancel_left _ (by omega)]
theorem ratio_neg (t l : Int) (h : l < 0) : frac (Rat.divInt t l) = .tuple [.int (t.fdiv (-((Nat.gcd t.natAbs l.natAbs : Nat) : Int))), .int (l.fdiv (-((Nat.gcd t.natAbs l.natAbs : Nat) : Int)))] := by
  have hg : Int.gcd l t = Nat.gcd t.natAbs l.natAbs := Nat.gcd_comm _ _
  have e1 : (Rat.divInt t l).num = t.fdiv (-((Nat.gcd t.natAbs l.natAbs : Nat) : Int)) := by
    rw [Rat.num_divInt, hg, Int.sign_eq_neg_one_of_neg h, fdivNeg _ _ (gdvd1 t l)]
    obtain ⟨c, hc⟩ := gdvd1 t l
    generalize (Nat.gcd t.natAbs l.natAbs : Nat) = g at hc ⊢
    by_cases hg0 : (g : Int) = 0
    · rw [hg0]
      simp
    · rw [hc, Int.mul_ediv_cancel_left _ hg0]
      have : -1 * ((g : Int) * c) = (g : Int) * -c := by
        rw [Int.mul_neg, Int.neg_mul, Int.one_mul]
      rw [this, Int.mul_ediv_cancel_left _ hg0]
  have e2 : ((Rat.divInt t l).den : Int) = l.fdiv (-((Nat.gcd t.natAbs l.natAbs : Nat) : Int)) := by
    rw [Rat.den_divInt, hg, if_neg (by omega), fdivNeg _ _ (gdvd2 t l), Int.natCast_ediv]
    have : ((l.natAbs : Nat) : Int) = -l := by omega
    rw [this]
    obtain ⟨c, hc⟩ := gdvd2 t l
    generalize (Nat.gcd t.natAbs l.natAbs : Nat) = g at hc ⊢
    by_cases hg0 : (g : Int) = 0
    · rw [hg0]
      simp
    · rw [hc, Int.mul_ediv_cancel_left _ hg0]
      have : -((g : Int) * c) = (g : Int) * -c := by rw [Int.mul_neg]
      rw [this, Int.mul_ediv_cancel_left _ hg0]
  unfold frac
  rw [e1, e2]
theorem den0 (q : Rat) : (q.den : Int) ≠ 0 := by
  have := q.den_nz
  omega
theorem denP (q : Rat) : 0 < (q.den : Int) := by
  have := q.den_pos
  omega
theorem rat_eq (p : Rat) : Rat.divInt p.num (p.den : Int) = p := Rat.num_divInt_den p
theorem plus_eq (p q : Rat) : Rat.divInt (p.num * (q.den : Int) + q.num * (p.den : Int)) ((p.den : Int) * (q.den : Int)) = p + q := by
  rw [← Rat.divInt_add_divInt _ _ (den0 p) (den0 q), rat_eq, rat_eq]
theorem minus_eq (p q : Rat) : Rat.divInt (p.num * (q.den : Int) - q.num * (p.den : Int)) ((p.den : Int) * (q.den : Int)) = p - q := by
  rw [← Rat.divInt_sub_divInt _ _ (den0 p) (den0 q), rat_eq, rat_eq]
theorem times_eq (p q : Rat) : Rat.divInt (p.num * q.num) ((p.den : Int) * (q.den : Int)) = p * q := by
  rw [← Rat.divInt_mul_divInt _ _, rat_eq, rat_eq]
theorem num0 {q : Rat} (h : q ≠ 0) : q.num ≠ 0 := fun e => h (Rat.num_eq_zero.mp e)
theorem over_eq (p q : Rat) : Rat.divInt (p.num * (q.den : Int)) ((p.den : Int) * q.num) = p / q := by
  rw [← Rat.divInt_mul_divInt, rat_eq, Rat.div_def, Rat.inv_def]
theorem den_mul0 (p q : Rat) : (p.den : Int) * (q.den : Int) ≠ 0 := Int.mul_ne_zero (den0 p) (den0 q)
theorem over0 (p : Rat) {q : Rat} (h : q ≠ 0) : (p.den : Int) * q.num ≠ 0 := Int.mul_ne_zero (den0 p) (num0 h)
theorem frac_inj {p q : Rat} (h : frac p = frac q) : p = q := by
  unfold frac at h
  injection h with h
  injection h with h1 h
  injection h with h2 h
  injection h1 with h1
  injection h2 with h2
  exact Rat.ext h1 (by omega)
theorem frac_eqv (p q : Rat) : PyData.eqv (frac p) (frac q) = decide (p = q) := by
  have e : PyData.eqv (frac p) (frac q) = (decide (p.num = q.num) && (decide ((p.den : Int) = (q.den : Int)) && true)) := by
    unfold frac
    rfl
  rw [e, Bool.and_true]
  by_cases h : p = q
  · subst h
    simp
  · rw [decide_eq_false h]
    by_cases h1 : p.num = q.num
    · have h2 : (p.den : Int) ≠ (q.den : Int) := fun z => h (Rat.ext h1 (by omega))
      simp [h2]
    · simp [h1]
theorem frac_shaped (q : Rat) : SeqAt.shaped (frac q) = true := rfl
/-! ### sizes -/
/-- numerator and denominator of at most n bits -/
def Sz (n : Nat) (q : Rat) : Prop := q.num.natAbs < 2 ^ n ∧ q.den < 2 ^ n
theorem p2mono {a b : Nat} (h : a ≤ b) : 2 ^ a ≤ 2 ^ b := Nat.pow_le_pow_right (by decide) h
theorem Sz.mono {a b : Nat} {q : Rat} (h : Sz a q) (l : a ≤ b) : Sz b q := ⟨Nat.lt_of_lt_of_le h.1 (p2mono l), Nat.lt_of_lt_of_le h.2 (p2mono l)⟩
theorem mul2 {x y a b : Nat} (h1 : x < 2 ^ a) (h2 : y < 2 ^ b) : x * y < 2 ^ (a + b) := by
  rw [Nat.pow_add]
  exact Nat.mul_lt_mul'' h1 h2
theorem Sz.divInt {n : Nat} {t l : Int} (h1 : t.natAbs < 2 ^ n) (h2 : l.natAbs < 2 ^ n) (h0 : l ≠ 0) : Sz n (Rat.divInt t l) := by
  have hn : 1 ≤ 2 ^ n := Nat.one_le_two_pow
  constructor
  · rw [Rat.num_divInt]
    refine Nat.lt_of_le_of_lt (Int.natAbs_ediv_le_natAbs _ _) ?_
    rw [Int.natAbs_mul]
    have : l.sign.natAbs ≤ 1 := by
      rw [Int.natAbs_sign]
      split <;> omega
    calc l.sign.natAbs * t.natAbs ≤ 1 * t.natAbs := Nat.mul_le_mul_right _ this
      _ = t.natAbs := Nat.one_mul _
      _ < 2 ^ n := h1
  · rw [Rat.den_divInt, if_neg h0]
    exact Nat.lt_of_le_of_lt (Nat.div_le_self _ _) h2
theorem Sz.mul {a b : Nat} {p q : Rat} (h1 : Sz a p) (h2 : Sz b q) : Sz (a + b) (p * q) := by
  rw [← times_eq]
  refine Sz.divInt ?_ ?_ (den_mul0 p q)
  · rw [Int.natAbs_mul]
    exact mul2 h1.1 h2.1
  · rw [Int.natAbs_mul]
    exact mul2 h1.2 h2.2
theorem Sz.div {a b : Nat} {p q : Rat} (h1 : Sz a p) (h2 : Sz b q) (h0 : q ≠ 0) : Sz (a + b) (p / q) := by
  rw [← over_eq]
  refine Sz.divInt ?_ ?_ (over0 p h0)
  · rw [Int.natAbs_mul]
    exact mul2 h1.1 h2.2
  · rw [Int.natAbs_mul]
    exact mul2 h1.2 h2.1
theorem Sz.add {a b : Nat} {p q : Rat} (h1 : Sz a p) (h2 : Sz b q) : Sz (a + b + 1) (p + q) := by
  rw [← plus_eq]
  have m1 := mul2 h1.1 h2.2
  have m2 := mul2 h2.1 h1.2
  have m3 := mul2 h1.2 h2.2
  rw [Nat.add_comm b a] at m2
  have e : 2 ^ (a + b + 1) = 2 ^ (a + b) + 2 ^ (a + b) := by rw [Nat.pow_succ]; omega
  refine Sz.divInt ?_ ?_ (den_mul0 p q)
  · refine Nat.lt_of_le_of_lt (Int.natAbs_add_le _ _) ?_
    rw [Int.natAbs_mul, Int.natAbs_mul, Int.natAbs_natCast, Int.natAbs_natCast]
    omega
  · rw [Int.natAbs_mul, Int.natAbs_natCast, Int.natAbs_natCast]
    omega
theorem Sz.neg {a : Nat} {p : Rat} (h : Sz a p) : Sz a (-p) := ⟨by rw [Rat.neg_num, Int.natAbs_neg]; exact h.1, by rw [Rat.neg_den]; exact h.2⟩
theorem Sz.sub {a b : Nat} {p q : Rat} (h1 : Sz a p) (h2 : Sz b q) : Sz (a + b + 1) (p - q) := by
  rw [Rat.sub_eq_add_neg]
  exact Sz.add h1 h2.neg
theorem Sz.zero {a : Nat} (h : 1 ≤ a) : Sz a 0 := ⟨Nat.lt_of_lt_of_le (by decide : 0 < 1) Nat.one_le_two_pow, Nat.lt_of_lt_of_le (by decide : 1 < 2 ^ 1) (p2mono h)⟩
theorem Sz.one {a : Nat} (h : 1 ≤ a) : Sz a 1 := ⟨Nat.lt_of_lt_of_le (by decide : 1 < 2 ^ 1) (p2mono h), Nat.lt_of_lt_of_le (by decide : 1 < 2 ^ 1) (p2mono h)⟩
/-- the sum of a line -/
def sumR : List Rat → Rat
  | [] => 0
  | x :: r => x + sumR r
/-! ### products -/
theorem bits_le {i : Int} {a : Nat} (h : i.natAbs < 2 ^ a) : Builtin.Int.intBits i ≤ a := by
  unfold Builtin.Int.intBits
  split
  · omega
  · rename_i hz
    have hz' : i.natAbs ≠ 0 := by simpa using hz
    have := (Nat.log2_lt hz').mpr h
    omega
theorem cmx {i j : Int} {a b : Nat} (h1 : i.natAbs < 2 ^ a) (h2 : j.natAbs < 2 ^ b) (h : a + b ≤ 134217728) : CMulX i j := by
  have k1 := bits_le h1
  have k2 := bits_le h2
  show (Builtin.Int.intBits i : Int) + (Builtin.Int.intBits j : Int) ≤ 134217728
  omega
section
variable {p q : Rat} {a b : Nat}
theorem Sz.nn (h1 : Sz a p) (h2 : Sz b q) (h : a + b ≤ 134217728) : CMulX p.num q.num := cmx h1.1 h2.1 h
theorem Sz.nd (h1 : Sz a p) (h2 : Sz b q) (h : a + b ≤ 134217728) : CMulX p.num (q.den : Int) := cmx h1.1 h2.2 h
theorem Sz.dn (h1 : Sz a p) (h2 : Sz b q) (h : a + b ≤ 134217728) : CMulX (p.den : Int) q.num := cmx h1.2 h2.1 h
theorem Sz.dd (h1 : Sz a p) (h2 : Sz b q) (h : a + b ≤ 134217728) : CMulX (p.den : Int) (q.den : Int) := cmx h1.2 h2.2 h
end
/-! ### range as a value -/
theorem ev_range {g : G} {e : Expr} {δ : List SD} {p pos : Pos} {QV : SD → Prop} (hm : g.T.mg "range" = none) (h : E g e δ fun d => ∃ j, d = .int j ∧ QV (.rng 0 j)) (hg : Glob g "range" := by rfl) (he : ∀ env, starEach [e] env = (false, eval e env) :: starEach [] env := by intro _; rfl) : EV g (.Call (.Name "range" p) [e] [] pos) δ QV := fun X xo Γ σ H R r k => by
  refine toW (pe_callTy cr_range1 (xo.gl hg) (by rw [xo.mg]; exact hm) boot_range (pa_cons (pW X e) pa_nil (he _)) (by decide) (by decide) (he _) rfl) ?_
  refine h X xo Γ σ H _ r fun d v H1 h1 e1 p1 => ?_
  obtain ⟨j, rfl, q⟩ := h1
  obtain rfl := dp_int p1
  exact ⟨j, rfl, fun p hp => k (.rng 0 j) (.ref p) _ q (e1.trans (.new hp)) ⟨p, rfl, upd_same⟩⟩
end Pd

/-! text Rb -/
set_option Elab.async false
set_option linter.all false
set_option maxRecDepth 100000
set_option maxHeartbeats 4000000
/-! Lists of fractions as data. -/
namespace Pd
open PySem PySem.Spec PyProof.Rows L2 C8

def FL (xs : List Rat) : PyData := .list (xs.map frac)
def FT (xs : List Rat) : PyData := .tuple (xs.map frac)
def NT (ns : List Int) : PyData := .tuple (ns.map .int)
def NL (ns : List Int) : PyData := .list (ns.map .int)
def AllS (n : Nat) (xs : List Rat) : Prop := ∀ x ∈ xs, Sz n x
theorem AllS.mono {a b : Nat} {xs : List Rat} (h : AllS a xs) (l : a ≤ b) : AllS b xs := fun x hx => (h x hx).mono l
theorem AllS.at {n : Nat} {xs : List Rat} (h : AllS n xs) {i : Nat} {x : Rat} (e : xs[i]? = some x) : Sz n x := h x (List.mem_of_getElem? e)
theorem map_get {α β : Type} {f : α → β} {xs : List α} {i : Nat} {d : β} (h : (xs.map f)[i]? = some d) : ∃ x, xs[i]? = some x ∧ d = f x := by
  rw [List.getElem?_map] at h
  cases e : xs[i]? with
  | none =>
    rw [e] at h
    cases h
  | some x =>
    rw [e] at h
    exact ⟨x, rfl, (Option.some.inj h).symm⟩
theorem get_lt {α : Type} {xs : List α} {i : Nat} {x : α} (h : xs[i]? = some x) : i < xs.length := (List.getElem?_eq_some_iff.mp h).1
theorem zip_get {α β : Type} {f : α → PyData} {k : β → PyData} {xs : List α} {ys : List β} {i : Nat} {d : PyData} (h : (zipD (xs.map f) (ys.map k))[i]? = some d) : ∃ x y, xs[i]? = some x ∧ ys[i]? = some y ∧ d = .tuple [f x, k y] := by
  unfold zipD at h
  rw [List.getElem?_zipWith] at h
  cases e : (xs.map f)[i]? with
  | none =>
    rw [e] at h
    cases h
  | some u =>
    cases e2 : (ys.map k)[i]? with
    | none =>
      rw [e, e2] at h
      cases h
    | some v =>
      rw [e, e2] at h
      obtain ⟨x, hx, rfl⟩ := map_get e
      obtain ⟨y, hy, rfl⟩ := map_get e2
      exact ⟨x, y, hx, hy, (Option.some.inj h).symm⟩
theorem enum_get {α : Type} {f : α → PyData} {xs : List α} {i : Nat} {d : PyData} (h : (enumD (xs.map f))[i]? = some d) : ∃ x, xs[i]? = some x ∧ d = .tuple [.int (i : Nat), f x] := by
  unfold enumD at h
  rw [List.getElem?_mapIdx] at h
  cases e : (xs.map f)[i]? with
  | none =>
    rw [e] at h
    cases h
  | some u =>
    rw [e] at h
    obtain ⟨x, hx, rfl⟩ := map_get e
    exact ⟨x, hx, (Option.some.inj h).symm⟩
theorem rgL_get {lo : Int} {n i : Nat} {d : PyData} (h : (rgL lo n)[i]? = some d) : i < n ∧ d = .int (lo + (i : Nat)) := by
  unfold rgL at h
  obtain ⟨x, hx, rfl⟩ := map_get h
  have := get_lt hx
  rw [List.length_range] at this
  rw [List.getElem?_range this] at hx
  cases hx
  exact ⟨this, rfl⟩
theorem rgL_len (lo : Int) (n : Nat) : (rgL lo n).length = n := by simp [rgL]
theorem enumD_len (ds : List PyData) : (enumD ds).length = ds.length := List.length_mapIdx
theorem zipD_len (ds es : List PyData) : (zipD ds es).length = min ds.length es.length := List.length_zipWith
/-- an item at a place that is not negative -/
theorem at_nat {α : Type} {xs : List α} {n : Nat} {x : α} (h : xs[n]? = some x) : atI xs (n : Int) = some x := by
  unfold atI ixN
  have := get_lt h
  rw [if_pos (Int.natCast_nonneg n), if_pos (by omega)]
  simpa using h
theorem at_int {α : Type} {xs : List α} {i : Int} {x : α} (h0 : 0 ≤ i) (h : xs[i.toNat]? = some x) : atI xs i = some x := by
  have e : i = ((i.toNat : Nat) : Int) := by omega
  rw [e]
  exact at_nat h
theorem at_map {α : Type} {xs : List α} {f : α → PyData} {n : Nat} {x : α} (h : xs[n]? = some x) : atI (xs.map f) (n : Int) = some (f x) := at_nat (by rw [List.getElem?_map, h] <;> rfl)
theorem ixN_nat {n m : Nat} (h : m < n) : ixN n (m : Int) = some m := by
  unfold ixN
  rw [if_pos (Int.natCast_nonneg m), if_pos (by omega)]
  simp
section
variable {g : G} {elt c : Expr} {scope : Scope} {js : List Nat} {δ : List SD} {QF : List PyData → Prop}
/-- the new list is zs -/
theorem Lc0.to {vs : List Nat} {ds : List PyData} (zs : List PyData) (hz : zs.length = ds.length) (hl : ds.length ≤ 100000) (h : ∀ (i : Nat) (d z : PyData), ds[i]? = some d → zs[i]? = some z → ∃ ds', unp js d = some ds' ∧ E (g.blk scope) elt (bindL (wipeD δ vs) js ds') (fun y => y = z)) (q : QF zs) : Lc0 g elt scope δ vs js QF ds :=
  Lc0.map (fun i _ y => zs[i]? = some y) hl (fun i d e => by
    have hi : i < zs.length := by
      rw [hz]
      exact get_lt e
    obtain ⟨ds', hu, he⟩ := h i d zs[i] e (List.getElem?_eq_getElem hi)
    exact ⟨ds', hu, he.imp fun y ey => by rw [ey, List.getElem?_eq_getElem hi]⟩) fun ys hl' hy => by
    have e : ys = zs := List.ext_getElem? fun i => by
      cases e1 : ds[i]? with
      | none =>
        have := List.getElem?_eq_none_iff.mp e1
        rw [List.getElem?_eq_none (by omega), List.getElem?_eq_none (by omega)]
      | some d =>
        have hi := get_lt e1
        have e2 : ys[i]? = some ys[i] := List.getElem?_eq_getElem (by omega)
        rw [e2, hy i d _ e1 e2]
    rw [e]
    exact q
/-- all items alike in kind -/
theorem Lc0.all {vs : List Nat} {ds : List PyData} (P : PyData → Prop) (hl : ds.length ≤ 100000) (h : ∀ (i : Nat) (d : PyData), ds[i]? = some d → ∃ ds', unp js d = some ds' ∧ E (g.blk scope) elt (bindL (wipeD δ vs) js ds') P) (q : ∀ zs : List PyData, zs.length = ds.length → (∀ z ∈ zs, P z) → QF zs) : Lc0 g elt scope δ vs js QF ds :=
  Lc0.map (fun _ _ y => P y) hl (fun i d e => h i d e) fun ys hl' hy => q ys hl' fun z hz => by
    obtain ⟨i, e⟩ := List.mem_iff_getElem?.mp hz
    have hi := get_lt e
    have e1 : ds[i]? = some (ds[i]'(by omega)) := List.getElem?_eq_getElem (by omega)
    exact hy i _ z e1 e
/-- chosen items of a mapped list -/
theorem Lc1.on {α : Type} {vs : List Nat} {xs : List α} {k : α → PyData} (p : α → Bool) (f : α → PyData) (hl : xs.length ≤ 100000) (h : ∀ x ∈ xs, ∃ ds', unp js (k x) = some ds' ∧ B (g.blk scope) c (bindL (wipeD δ vs) js ds') (fun b => b = p x) ∧ (p x = true → E (g.blk scope) elt (bindL (wipeD δ vs) js ds') (fun y => y = f x))) (q : QF ((xs.filter p).map f)) : Lc1 g c elt scope δ vs js QF (xs.map k) := by
  refine ⟨fun i acc => acc = ((xs.take i).filter p).map f, rfl, by rw [List.length_map]; exact hl, fun i acc d ed _ ha => ?_, fun acc _ ha => by rw [ha, List.length_map, List.take_length]; exact q⟩
  obtain ⟨x, hx, rfl⟩ := map_get ed
  obtain ⟨ds', hu, hb, he⟩ := h x (List.mem_of_getElem? hx)
  have et : xs.take (i + 1) = xs.take i ++ [x] := by rw [List.take_add_one, hx] <;> rfl
  refine ⟨ds', hu, hb.imp fun b eb => ?_⟩
  have ha' : acc = ((xs.take i).filter p).map f := ha
  have e3 : ((xs.take (i + 1)).filter p).map f = acc ++ ([x].filter p).map f := by rw [et, List.filter_append, List.map_append, ← ha']
  show (b = true → E (g.blk scope) elt (bindL (wipeD δ vs) js ds') fun y => acc ++ [y] = ((xs.take (i + 1)).filter p).map f) ∧ (b = false → acc = ((xs.take (i + 1)).filter p).map f)
  rw [e3]
  cases z : p x with
  | true =>
    rw [z] at eb
    subst eb
    exact ⟨fun _ => (he z).imp fun y ey => by rw [ey, List.filter_cons_of_pos z] <;> rfl, fun w => (by cases w)⟩
  | false =>
    rw [z] at eb
    subst eb
    exact ⟨fun w => (by cases w), fun _ => by rw [List.filter_cons_of_neg (by rw [z]; exact Bool.false_ne_true)]; simp⟩
end
/-! ### sums -/
def sumL (xs : List Rat) : Rat := xs.foldl (· + ·) 0
def dotR (xs ys : List Rat) : Rat := sumL (List.zipWith (· * ·) xs ys)
theorem foldl_add (xs : List Rat) : ∀ a : Rat, xs.foldl (· + ·) a = a + xs.foldl (· + ·) 0 := by
  induction xs with
  | nil => intro a; rw [List.foldl_nil, List.foldl_nil, Rat.add_zero]
  | cons x r ih =>
    intro a
    rw [List.foldl_cons, List.foldl_cons, ih (a + x), ih (0 + x), Rat.zero_add, Rat.add_assoc]
theorem sumL_nil : sumL [] = 0 := rfl
theorem sumL_cons (x : Rat) (r : List Rat) : sumL (x :: r) = x + sumL r := by
  unfold sumL
  rw [List.foldl_cons, foldl_add, Rat.zero_add]
theorem sumL_snoc (r : List Rat) (x : Rat) : sumL (r ++ [x]) = sumL r + x := by
  unfold sumL
  rw [List.foldl_append] <;> rfl
theorem AllS.zipMul {a b : Nat} {xs ys : List Rat} (h1 : AllS a xs) (h2 : AllS b ys) : AllS (a + b) (List.zipWith (· * ·) xs ys) := fun z hz => by
  obtain ⟨i, e⟩ := List.mem_iff_getElem?.mp hz
  rw [List.getElem?_zipWith] at e
  cases e1 : xs[i]? with
  | none =>
    rw [e1] at e
    cases e
  | some x =>
    cases e2 : ys[i]? with
    | none =>
      rw [e1, e2] at e
      cases e
    | some y =>
      rw [e1, e2] at e
      cases e
      exact (h1.at e1).mul (h2.at e2)
theorem Sz.sumL {n : Nat} {xs : List Rat} (h : AllS n xs) : Sz (1 + xs.length * (n + 1)) (sumL xs) := by
  induction xs with
  | nil => exact Sz.zero (by omega)
  | cons x r ih =>
    rw [sumL_cons]
    have h1 := (h x List.mem_cons_self).add (ih fun y hy => h y (List.mem_cons_of_mem _ hy))
    refine h1.mono ?_
    rw [List.length_cons, Nat.succ_mul]
    omega
end Pd

/-! text Rc -/
set_option Elab.async false
set_option linter.all false
set_option maxRecDepth 100000
set_option maxHeartbeats 4000000
/-! Trials as data. -/
namespace Pd
open PySem PySem.Spec PyProof.Rows L2 C8

structure Tr where
  rows : List (List Rat)
  spr : List Rat
  blk : List Int
def Tr.D (t : Tr) : PyData := .tuple [.tuple (t.rows.map FT), FT t.spr, NT t.blk]
structure Tr.Ok (s u : Nat) (t : Tr) : Prop where
  n1 : 1 ≤ t.rows.length
  n10 : t.rows.length ≤ 10
  u1 : 1 ≤ u
  u5 : u ≤ 5
  s1 : 1 ≤ s
  wd : ∀ r ∈ t.rows, r.length = u
  sz : ∀ r ∈ t.rows, AllS s r
  sl : t.spr.length = t.rows.length
  sp : ∀ q ∈ t.spr, 0 < q.num
  bl : t.blk = [] ∨ (t.blk.length = t.rows.length ∧ ∀ b ∈ t.blk, 0 ≤ b ∧ b ≤ 4)
/-- a lot of plots -/
def PT (ps : List Nat) : PyData := .tuple (ps.map fun p : Nat => .int ((p : Nat) : Int))
def PL (ps : List Nat) : PyData := .list (ps.map fun p : Nat => .int ((p : Nat) : Int))
/-- how many levels the blocks have -/
def lv : List Int → Int
  | [] => 0
  | n :: ns => ns.foldl max n + 1
theorem foldl_max : ∀ (ns : List Int) (n : Int), n ≤ ns.foldl max n ∧ (∀ m ∈ ns, m ≤ ns.foldl max n) ∧ ∀ c, n ≤ c → (∀ m ∈ ns, m ≤ c) → ns.foldl max n ≤ c
  | [], n => ⟨Int.le_refl _, fun m h => (by cases h), fun c h _ => h⟩
  | x :: r, n => by
    obtain ⟨h1, h2, h3⟩ := foldl_max r (max n x)
    rw [List.foldl_cons]
    refine ⟨by omega, fun m hm => ?_, fun c hc hm => h3 c ?_ fun m h => hm m (List.mem_cons_of_mem _ h)⟩
    · rcases List.mem_cons.mp hm with rfl | hm
      · omega
      · exact h2 m hm
    · have := hm x List.mem_cons_self
      omega
section
variable {s u : Nat} {t : Tr}
theorem Tr.Ok.lv (h : t.Ok s u) : 0 ≤ lv t.blk ∧ lv t.blk ≤ 5 ∧ ∀ b ∈ t.blk, b < Pd.lv t.blk := by
  rcases h.bl with e | ⟨_, hb⟩
  · rw [e]
    exact ⟨by decide, by decide, fun b hb => by cases hb⟩
  · cases e : t.blk with
    | nil => exact ⟨by decide, by decide, fun b hb => by cases hb⟩
    | cons n ns =>
      rw [e] at hb
      obtain ⟨h1, h2, h3⟩ := foldl_max ns n
      have hn := hb n List.mem_cons_self
      have h4 := h3 4 hn.2 fun m hm => (hb m (List.mem_cons_of_mem _ hm)).2
      refine ⟨?_, ?_, fun b hb' => ?_⟩
      · show 0 ≤ ns.foldl max n + 1
        omega
      · show ns.foldl max n + 1 ≤ 5
        omega
      · show b < ns.foldl max n + 1
        rcases List.mem_cons.mp hb' with rfl | hb'
        · omega
        · have := h2 b hb'
          omega
/-- the rows with a column for each level -/
def lvRow (bs : List Int) (i : Nat) : List Rat := (List.range (Pd.lv bs).toNat).map fun l : Nat => if bs[i]? = some ((l : Nat) : Int) then 1 else 0
def wide (t : Tr) : List (List Rat) := t.rows.mapIdx fun i r => r ++ lvRow t.blk i
def wideQ (t : Tr) (q : List Rat) : List Rat := q ++ List.replicate (Pd.lv t.blk).toNat 0
theorem wide_len (t : Tr) : (wide t).length = t.rows.length := List.length_mapIdx
theorem wide_get {i : Nat} {r : List Rat} (h : t.rows[i]? = some r) : (wide t)[i]? = some (r ++ lvRow t.blk i) := by
  unfold wide
  rw [List.getElem?_mapIdx, h]
  rfl
theorem lvRow_len (bs : List Int) (i : Nat) : (lvRow bs i).length = (Pd.lv bs).toNat := by simp [lvRow]
theorem Tr.Ok.wideRow (h : t.Ok s u) {r : List Rat} (hr : r ∈ wide t) : r.length = u + (Pd.lv t.blk).toNat ∧ AllS s r := by
  obtain ⟨i, e⟩ := List.mem_iff_getElem?.mp hr
  unfold wide at e
  rw [List.getElem?_mapIdx] at e
  cases e1 : t.rows[i]? with
  | none =>
    rw [e1] at e
    cases e
  | some r' =>
    rw [e1] at e
    cases e
    have hm := List.mem_of_getElem? e1
    refine ⟨by rw [List.length_append, lvRow_len, h.wd r' hm], fun q hq => ?_⟩
    rcases List.mem_append.mp hq with hq | hq
    · exact h.sz r' hm q hq
    · obtain ⟨l, _, rfl⟩ := List.mem_map.mp hq
      split
      · exact Sz.one h.s1
      · exact Sz.zero h.s1
end
/-- the plots of a lot -/
def sub (t : Tr) (L : List Nat) : Tr := ⟨L.map fun p => t.rows.getD p [], L.map fun p => t.spr.getD p 0, if t.blk = [] then [] else L.map fun p => t.blk.getD p 0⟩
/-- a lot of plots below n, from the smallest -/
def Lot (n : Nat) (L : List Nat) : Prop := L.Pairwise (· < ·) ∧ ∀ p ∈ L, p < n
theorem lot_len {n : Nat} : ∀ (L : List Nat) (lo : Nat), L.Pairwise (· < ·) → (∀ p ∈ L, lo ≤ p ∧ p < n) → L.length ≤ n - lo
  | [], _, _, _ => Nat.zero_le _
  | p :: r, lo, h, hp => by
    obtain ⟨h1, h2⟩ := List.pairwise_cons.mp h
    have hp0 := hp p List.mem_cons_self
    have ih := lot_len r (p + 1) h2 fun q hq => ⟨h1 q hq, (hp q (List.mem_cons_of_mem _ hq)).2⟩
    rw [List.length_cons]
    omega
theorem Lot.len {n : Nat} {L : List Nat} (h : Lot n L) : L.length ≤ n := lot_len L 0 h.1 fun p hp => ⟨Nat.zero_le _, h.2 p hp⟩
theorem getD_mem {α : Type} {xs : List α} {p : Nat} {d : α} (h : p < xs.length) : xs.getD p d ∈ xs := by
  rw [List.getD_eq_getElem?_getD, List.getElem?_eq_getElem h]
  exact List.getElem_mem h
theorem getD_get {α : Type} {xs : List α} {p : Nat} {d : α} (h : p < xs.length) : xs[p]? = some (xs.getD p d) := by
  rw [List.getD_eq_getElem?_getD, List.getElem?_eq_getElem h] <;> rfl
theorem Tr.Ok.sub {s u : Nat} {t : Tr} (h : t.Ok s u) {L : List Nat} (hL : Lot t.rows.length L) (h0 : L ≠ []) : (sub t L).Ok s u := by
  have hl : L.length ≤ t.rows.length := by
    exact hL.len
  have hp : 1 ≤ L.length := by
    cases L with
    | nil => exact absurd rfl h0
    | cons a r => exact Nat.succ_le_succ (Nat.zero_le _)
  refine ⟨?_, ?_, h.u1, h.u5, h.s1, fun r hr => ?_, fun r hr => ?_, ?_, fun q hq => ?_, ?_⟩
  · show 1 ≤ (L.map _).length
    rw [List.length_map]
    exact hp
  · show (L.map _).length ≤ 10
    rw [List.length_map]
    exact Nat.le_trans hl h.n10
  · obtain ⟨p, hpl, rfl⟩ := List.mem_map.mp hr
    exact h.wd _ (getD_mem (hL.2 p hpl))
  · obtain ⟨p, hpl, rfl⟩ := List.mem_map.mp hr
    exact h.sz _ (getD_mem (hL.2 p hpl))
  · show (L.map _).length = (L.map _).length
    rw [List.length_map, List.length_map]
  · obtain ⟨p, hpl, rfl⟩ := List.mem_map.mp hq
    exact h.sp _ (getD_mem (by rw [h.sl]; exact hL.2 p hpl))
  · show (if t.blk = [] then [] else L.map fun p => t.blk.getD p 0) = [] ∨ _
    rcases h.bl with e | ⟨hb1, hb2⟩
    · left
      rw [if_pos e]
    · by_cases e : t.blk = []
      · left
        rw [if_pos e]
      · right
        show (if t.blk = [] then [] else L.map fun p => t.blk.getD p 0).length = (L.map _).length ∧ ∀ b ∈ (if t.blk = [] then [] else L.map fun p => t.blk.getD p 0), _
        rw [if_neg e, List.length_map, List.length_map]
        refine ⟨rfl, fun b hb => ?_⟩
        obtain ⟨p, hpl, rfl⟩ := List.mem_map.mp hb
        exact hb2 _ (getD_mem (by rw [hb1]; exact hL.2 p hpl))
/-! ### branches that are not taken -/
theorem nf {p : Prop} [Decidable p] (h : p) : ¬ (decide p = false) := fun z => of_decide_eq_false z h
theorem nt {p : Prop} [Decidable p] (h : ¬ p) : ¬ (decide p = true) := fun z => h (of_decide_eq_true z)
theorem nn {p : Prop} [Decidable p] (h : p) : ¬ ((!decide p) = true) := by simp [h]
theorem nm {p : Prop} [Decidable p] (h : ¬ p) : ¬ ((!decide p) = false) := by simp [h]
theorem at0 {α : Type} (x : α) (r : List α) : atI (x :: r) 0 = some x := at_nat (n := 0) rfl
theorem rep_all (n : Nat) : (List.replicate n true).all id = true := List.all_eq_true.mpr fun b hb => List.eq_of_mem_replicate hb
theorem rep_get {α : Type} {n i : Nat} {x z : α} (h : (List.replicate n x)[i]? = some z) : x = z := (List.eq_of_mem_replicate (List.mem_of_getElem? h)).symm
theorem Tr.Ok.cons {s u : Nat} {t : Tr} (h : t.Ok s u) : ∃ r0 rs, t.rows = r0 :: rs := by
  have := h.n1
  cases e : t.rows with
  | nil =>
    rw [e] at this
    exact absurd this (by decide)
  | cons a b => exact ⟨a, b, rfl⟩
/-! ### data's equality -/
theorem shaped_ints (ns : List Int) : SeqAt.shaped (NT ns) = true := by
  show SeqAt.shaped (.tuple (ns.map .int)) = true
  induction ns with
  | nil => rfl
  | cons n r ih => exact ih
theorem shaped_PT (L : List Nat) : SeqAt.shaped (PT L) = true := by
  have e : PT L = NT (L.map fun p : Nat => ((p : Nat) : Int)) := by
    unfold PT NT
    rw [List.map_map] <;> rfl
  rw [e]
  exact shaped_ints _
theorem eqv_PT {L : List Nat} (h : L ≠ []) : PyData.eqv (PT L) (.tuple []) = false := by
  cases L with
  | nil => exact absurd rfl h
  | cons a r => rfl
theorem rep1 {α : Type} (n : Nat) (x : α) : (List.replicate n [x]).flatten = List.replicate n x := by
  induction n with
  | zero => rfl
  | succ n ih => rw [List.replicate_succ, List.flatten_cons, ih, List.replicate_succ] <;> rfl
theorem eqv_int (a b : Int) : PyData.eqv (.int a) (.int b) = decide (a = b) := rfl
theorem Lot.lt {n : Nat} {L : List Nat} (h : Lot n L) {i : Nat} {p q : Nat} (h1 : L[i]? = some p) (h2 : L[i + 1]? = some q) : p < q := by
  have l1 := get_lt h1
  have l2 := get_lt h2
  have e1 := (List.getElem?_eq_some_iff.mp h1).2
  have e2 := (List.getElem?_eq_some_iff.mp h2).2
  rw [← e1, ← e2]
  exact List.pairwise_iff_getElem.mp h.1 i (i + 1) l1 l2 (Nat.lt_succ_self i)
theorem eqv_nil (ds : List PyData) : PyData.eqv (.tuple ds) (.tuple []) = ds.isEmpty := by
  cases ds with
  | nil => rfl
  | cons d r => rfl
theorem eqv_nilL (ds : List PyData) : PyData.eqv (.list ds) (.list []) = ds.isEmpty := by
  cases ds with
  | nil => rfl
  | cons d r => rfl
end Pd

/-! text Rd -/
set_option Elab.async false
set_option linter.all false
set_option maxRecDepth 100000
set_option maxHeartbeats 4000000
/-! Elimination: what brought makes of a table. -/
namespace Pd
open PySem PySem.Spec PyProof.Rows L2 C8

/-! ### sums over places -/
def Sm (m : Nat) (f : Nat → Rat) : Rat := match m with
  | 0 => 0
  | m + 1 => Sm m f + f m
theorem Sm_congr {m : Nat} {f g : Nat → Rat} (h : ∀ j, j < m → f j = g j) : Sm m f = Sm m g := by
  induction m with
  | zero => rfl
  | succ m ih =>
    show Sm m f + f m = Sm m g + g m
    rw [ih fun j hj => h j (by omega), h m (by omega)]
theorem Sm_zero {m : Nat} {f : Nat → Rat} (h : ∀ j, j < m → f j = 0) : Sm m f = 0 := by
  induction m with
  | zero => rfl
  | succ m ih =>
    show Sm m f + f m = 0
    rw [ih fun j hj => h j (by omega), h m (by omega), Rat.add_zero]
theorem Sm_add {m : Nat} {f g : Nat → Rat} : Sm m (fun j => f j + g j) = Sm m f + Sm m g := by
  induction m with
  | zero => exact (Rat.add_zero 0).symm
  | succ m ih =>
    show Sm m (fun j => f j + g j) + (f m + g m) = (Sm m f + f m) + (Sm m g + g m)
    rw [ih]
    grind
theorem Sm_mul {m : Nat} {c : Rat} {f : Nat → Rat} : Sm m (fun j => c * f j) = c * Sm m f := by
  induction m with
  | zero => exact (Rat.mul_zero c).symm
  | succ m ih =>
    show Sm m (fun j => c * f j) + c * f m = c * (Sm m f + f m)
    rw [ih, Rat.mul_add]
theorem Sm_one {m k : Nat} {f : Nat → Rat} (hk : k < m) (h : ∀ j, j < m → j ≠ k → f j = 0) : Sm m f = f k := by
  induction m with
  | zero => omega
  | succ m ih =>
    show Sm m f + f m = f k
    by_cases e : k = m
    · subst e
      rw [Sm_zero fun j hj => h j (by omega) (by omega), Rat.zero_add]
    · rw [ih (by omega) fun j hj hn => h j (by omega) hn, h m (by omega) (by omega), Rat.add_zero]
/-- the entry of a line -/
abbrev ent (r : List Rat) (j : Nat) : Rat := r.getD j 0
/-- x solves the line r, whose right side stands at m -/
def SolR (m : Nat) (x : Nat → Rat) (r : List Rat) : Prop := Sm m (fun j => ent r j * x j) = ent r m
def Sol (m : Nat) (x : Nat → Rat) (rows : List (List Rat)) : Prop := ∀ r ∈ rows, SolR m x r
theorem ent_map {f : Rat → Rat} (hf : f 0 = 0) (r : List Rat) (j : Nat) : ent (r.map f) j = f (ent r j) := by
  unfold ent
  rw [List.getD_eq_getElem?_getD, List.getD_eq_getElem?_getD, List.getElem?_map]
  cases r[j]? with
  | none => exact hf.symm
  | some x => rfl
theorem ent_zip {f : Rat → Rat → Rat} (hf : f 0 0 = 0) {r q : List Rat} (h : r.length = q.length) (j : Nat) : ent (List.zipWith f r q) j = f (ent r j) (ent q j) := by
  unfold ent
  rw [List.getD_eq_getElem?_getD, List.getD_eq_getElem?_getD, List.getD_eq_getElem?_getD, List.getElem?_zipWith]
  by_cases hj : j < r.length
  · rw [List.getElem?_eq_getElem hj, List.getElem?_eq_getElem (by omega)]
    rfl
  · rw [List.getElem?_eq_none (by omega), List.getElem?_eq_none (by omega)]
    exact hf.symm
theorem ent_out {r : List Rat} {j : Nat} (h : r.length ≤ j) : ent r j = 0 := by
  unfold ent
  rw [List.getD_eq_getElem?_getD, List.getElem?_eq_none h]
  rfl
theorem ent_get {r : List Rat} {j : Nat} {x : Rat} (h : r[j]? = some x) : ent r j = x := by
  unfold ent
  rw [List.getD_eq_getElem?_getD, h]
  rfl
/-! ### the step -/
def withoutCol (row lead : List Rat) (c : Nat) : List Rat := if ent row c = 0 then row else List.zipWith (fun x y => x - ent row c * y) row lead
theorem withoutCol_len {row lead : List Rat} {c : Nat} (h : row.length = lead.length) : (withoutCol row lead c).length = row.length := by
  unfold withoutCol
  split
  · rfl
  · rw [List.length_zipWith, ← h, Nat.min_self]
theorem withoutCol_ent {row lead : List Rat} {c : Nat} (h : row.length = lead.length) (j : Nat) : ent (withoutCol row lead c) j = ent row j - ent row c * ent lead j := by
  unfold withoutCol
  split
  · rename_i e
    rw [e]
    grind
  · exact ent_zip (by grind) h j
def rowAt (rows : List (List Rat)) (a : Nat) : List Rat := rows.getD a []
def spotsOf (rows : List (List Rat)) (done c : Nat) : List Nat := (List.range' done (rows.length - done)).filter fun a => decide (ent (rowAt rows a) c ≠ 0)
def leadOf (p : List Rat) (c : Nat) : List Rat := p.map fun x => x / ent p c
def stepWith (rows : List (List Rat)) (done sp c : Nat) : List (List Rat) :=
  let rows1 := (rows.set done (rowAt rows sp)).set sp (rowAt rows done)
  rows1.mapIdx fun a row => if a = done then leadOf (rowAt rows1 done) c else withoutCol row (leadOf (rowAt rows1 done) c) c
def stepB (st : List (List Rat) × List Nat) (c : Nat) : List (List Rat) × List Nat := match spotsOf st.1 st.2.length c with
  | [] => st
  | sp :: _ => (stepWith st.1 st.2.length sp c, st.2 ++ [c])
def broughtF (tab : List (List Rat)) (m : Nat) : List (List Rat) × List Nat := (List.range m).foldl stepB (tab, [])
/-- how the sizes grow -/
def gz (s : Nat) : Nat → Nat
  | 0 => s
  | k + 1 => 4 * gz s k + 1
theorem gz_mono {s a b : Nat} (h : a ≤ b) : gz s a ≤ gz s b := by
  induction b with
  | zero =>
    have : a = 0 := by omega
    subst this
    exact Nat.le_refl _
  | succ b ih =>
    by_cases e : a = b + 1
    · subst e
      exact Nat.le_refl _
    · have := ih (by omega)
      show gz s a ≤ 4 * gz s b + 1
      omega
theorem gz_le {s : Nat} (k : Nat) : s ≤ gz s k := gz_mono (s := s) (Nat.zero_le k)
/-- what holds of the state at column i -/
structure BInv (w i : Nat) (rows : List (List Rat)) (leads : List Nat) : Prop where
  wd : ∀ r ∈ rows, r.length = w
  le : leads.length ≤ rows.length
  lt : ∀ c ∈ leads, c < i
  nd : leads.Nodup
  one : ∀ k c, leads[k]? = some c → ∀ a, a < rows.length → ent (rowAt rows a) c = if a = k then 1 else 0
  zero : ∀ a, leads.length ≤ a → a < rows.length → ∀ j, j < i → ent (rowAt rows a) j = 0
theorem rowAt_get {rows : List (List Rat)} {a : Nat} (h : a < rows.length) : rows[a]? = some (rowAt rows a) := getD_get h
theorem rowAt_mem {rows : List (List Rat)} {a : Nat} (h : a < rows.length) : rowAt rows a ∈ rows := getD_mem h
theorem rowAt_of {rows : List (List Rat)} {a : Nat} {r : List Rat} (h : rows[a]? = some r) : rowAt rows a = r := by
  unfold rowAt
  rw [List.getD_eq_getElem?_getD, h]
  rfl
theorem spots_mem {rows : List (List Rat)} {done c sp : Nat} (h : sp ∈ spotsOf rows done c) : done ≤ sp ∧ sp < rows.length ∧ ent (rowAt rows sp) c ≠ 0 := by
  unfold spotsOf at h
  obtain ⟨h1, h2⟩ := List.mem_filter.mp h
  obtain ⟨h3, h4⟩ := List.mem_range'_1.mp h1
  exact ⟨h3, by omega, of_decide_eq_true h2⟩
/-- the rows swapped -/
def swapR (rows : List (List Rat)) (done sp : Nat) : List (List Rat) := (rows.set done (rowAt rows sp)).set sp (rowAt rows done)
theorem swap_len (rows : List (List Rat)) (done sp : Nat) : (swapR rows done sp).length = rows.length := by simp [swapR]
theorem swap_at {rows : List (List Rat)} {done sp a : Nat} (hd : done < rows.length) (hs : sp < rows.length) (ha : a < rows.length) : rowAt (swapR rows done sp) a = rowAt rows (if a = sp then done else if a = done then sp else a) := by
  apply rowAt_of
  unfold swapR
  rw [List.getElem?_set]
  by_cases e : sp = a
  · subst e
    rw [if_pos rfl, if_pos rfl, if_pos (by simpa using hs)]
  · rw [if_neg e, if_neg (Ne.symm e), List.getElem?_set]
    by_cases e2 : done = a
    · subst e2
      rw [if_pos rfl, if_pos rfl, if_pos hd]
    · rw [if_neg e2, if_neg (Ne.symm e2)]
      exact rowAt_get ha
theorem stepWith_eq (rows : List (List Rat)) (done sp c : Nat) : stepWith rows done sp c = (swapR rows done sp).mapIdx fun a row => if a = done then leadOf (rowAt (swapR rows done sp) done) c else withoutCol row (leadOf (rowAt (swapR rows done sp) done) c) c := rfl
theorem stepWith_len (rows : List (List Rat)) (done sp c : Nat) : (stepWith rows done sp c).length = rows.length := by
  rw [stepWith_eq, List.length_mapIdx, swap_len]
theorem stepWith_at {rows : List (List Rat)} {done sp c a : Nat} (ha : a < rows.length) : rowAt (stepWith rows done sp c) a = if a = done then leadOf (rowAt (swapR rows done sp) done) c else withoutCol (rowAt (swapR rows done sp) a) (leadOf (rowAt (swapR rows done sp) done) c) c := by
  apply rowAt_of
  rw [stepWith_eq, List.getElem?_mapIdx, rowAt_get (rows := swapR rows done sp) (by rw [swap_len]; exact ha)]
  rfl
theorem lead_ent (p : List Rat) (c j : Nat) : ent (leadOf p c) j = ent p j / ent p c := by
  unfold leadOf
  exact ent_map (f := fun x => x / ent p c) (by rw [Rat.div_def, Rat.zero_mul]) p j
section
variable {w i : Nat} {rows : List (List Rat)} {leads : List Nat} {sp : Nat} {rest : List Nat}
theorem BInv.step (h : BInv w i rows leads) : BInv w (i + 1) (stepB (rows, leads) i).1 (stepB (rows, leads) i).2 := by
  unfold stepB
  cases e : spotsOf rows leads.length i with
  | nil =>
    show BInv w (i + 1) rows leads
    refine ⟨h.wd, h.le, fun c hc => Nat.lt_succ_of_lt (h.lt c hc), h.nd, h.one, fun a ha ha2 j hj => ?_⟩
    by_cases hji : j = i
    · subst hji
      refine Classical.byContradiction fun hn => ?_
      have hm : a ∈ spotsOf rows leads.length j := by
        unfold spotsOf
        exact List.mem_filter.mpr ⟨List.mem_range'_1.mpr ⟨ha, by omega⟩, decide_eq_true hn⟩
      have e' : spotsOf rows leads.length j = [] := e
      rw [e'] at hm
      cases hm
    · exact h.zero a ha ha2 j (by omega)
  | cons sp rest =>
    obtain ⟨h1, h2, h3⟩ := spots_mem (rows := rows) (done := leads.length) (c := i) (sp := sp) (by rw [e]; exact List.mem_cons_self)
    have hd : leads.length < rows.length := by omega
    show BInv w (i + 1) (stepWith rows leads.length sp i) (leads ++ [i])
    -- the row that leads
    have eP : rowAt (swapR rows leads.length sp) leads.length = rowAt rows sp := by
      rw [swap_at hd h2 hd]
      by_cases q : leads.length = sp
      · rw [if_pos q, q]
      · rw [if_neg q, if_pos rfl]
    have wP : (rowAt rows sp).length = w := h.wd _ (rowAt_mem h2)
    have wL : (leadOf (rowAt rows sp) i).length = w := by
      unfold leadOf
      rw [List.length_map, wP]
    have sw : ∀ a, a < rows.length → rowAt (swapR rows leads.length sp) a ∈ rows := fun a ha => by
      rw [swap_at hd h2 ha]
      apply rowAt_mem
      split
      · exact hd
      · split
        · exact h2
        · exact ha
    have eAt : ∀ a, a < rows.length → rowAt (stepWith rows leads.length sp i) a = if a = leads.length then leadOf (rowAt rows sp) i else withoutCol (rowAt (swapR rows leads.length sp) a) (leadOf (rowAt rows sp) i) i := fun a ha => by
      rw [stepWith_at ha, eP]
    have oEnt : ∀ a, a < rows.length → a ≠ leads.length → ∀ j, ent (rowAt (stepWith rows leads.length sp i) a) j = ent (rowAt (swapR rows leads.length sp) a) j - ent (rowAt (swapR rows leads.length sp) a) i * (ent (rowAt rows sp) j / ent (rowAt rows sp) i) := fun a ha hn j => by
      rw [eAt a ha, if_neg hn, withoutCol_ent (by rw [wL, h.wd _ (sw a ha)]), lead_ent]
    have dEnt : ∀ j, ent (rowAt (stepWith rows leads.length sp i) leads.length) j = ent (rowAt rows sp) j / ent (rowAt rows sp) i := fun j => by
      rw [eAt _ hd, if_pos rfl, lead_ent]
    refine ⟨fun r hr => ?_, ?_, fun c hc => ?_, ?_, fun k c hk a ha => ?_, fun a ha ha2 j hj => ?_⟩
    · obtain ⟨a, ea⟩ := List.mem_iff_getElem?.mp hr
      have ha := get_lt ea
      rw [stepWith_len] at ha
      rw [← rowAt_of ea, eAt a ha]
      split
      · exact wL
      · rw [withoutCol_len (by rw [wL, h.wd _ (sw a ha)]), h.wd _ (sw a ha)]
    · rw [List.length_append, stepWith_len]
      exact hd
    · rcases List.mem_append.mp hc with hc | hc
      · exact Nat.lt_succ_of_lt (h.lt c hc)
      · rw [List.mem_singleton.mp hc]
        exact Nat.lt_succ_self i
    · rw [List.nodup_append]
      refine ⟨h.nd, by simp, fun x hx y hy => ?_⟩
      rw [List.mem_singleton.mp hy]
      exact Nat.ne_of_lt (h.lt x hx)
    · rw [stepWith_len] at ha
      rcases Nat.lt_trichotomy k leads.length with hkl | hkl | hkl
      · rw [List.getElem?_append_left hkl] at hk
        have hc := h.one k c hk
        have hsp : ent (rowAt rows sp) c = 0 := by
          rw [hc sp h2, if_neg (by omega)]
        by_cases hal : a = leads.length
        · subst hal
          rw [dEnt, hsp, Rat.div_def, Rat.zero_mul, if_neg (by omega)]
        · rw [oEnt a ha hal, hsp, Rat.div_def, Rat.zero_mul, Rat.mul_zero, swap_at hd h2 ha]
          have e0 : ∀ z : Rat, z - 0 = z := fun z => by grind
          rw [e0]
          by_cases q : a = sp
          · rw [if_pos q, hc _ hd, if_neg (by omega), if_neg (by omega)]
          · rw [if_neg q, if_neg hal, hc a ha]
      · subst hkl
        rw [List.getElem?_append_right (Nat.le_refl _), Nat.sub_self] at hk
        cases hk
        by_cases hal : a = leads.length
        · rw [hal, dEnt, if_pos rfl, Rat.div_def, Rat.mul_inv_cancel _ h3]
        · rw [oEnt a ha hal, if_neg hal, Rat.div_def, Rat.mul_inv_cancel _ h3]
          grind
      · rw [List.getElem?_eq_none (by rw [List.length_append]; simp; omega)] at hk
        cases hk
    · rw [List.length_append] at ha
      rw [stepWith_len] at ha2
      have hal : a ≠ leads.length := by
        simp at ha
        omega
      have ha' : leads.length ≤ a := by
        simp at ha
        omega
      rw [oEnt a ha2 hal]
      by_cases hji : j = i
      · subst hji
        rw [Rat.div_def, Rat.mul_inv_cancel _ h3]
        grind
      · have z1 : ent (rowAt rows sp) j = 0 := h.zero sp h1 h2 j (by omega)
        have z2 : ent (rowAt (swapR rows leads.length sp) a) j = 0 := by
          rw [swap_at hd h2 ha2]
          by_cases q : a = sp
          · rw [if_pos q]
            exact h.zero _ (Nat.le_refl _) hd j (by omega)
          · rw [if_neg q, if_neg hal]
            exact h.zero a ha' ha2 j (by omega)
        rw [z1, z2, Rat.div_def, Rat.zero_mul, Rat.mul_zero]
        grind
/-- the solutions stay -/
theorem lead_sol {m : Nat} {x : Nat → Rat} {p : List Rat} {c : Nat} (hp : ent p c ≠ 0) : SolR m x (leadOf p c) ↔ SolR m x p := by
  unfold SolR
  have e : Sm m (fun j => ent (leadOf p c) j * x j) = (ent p c)⁻¹ * Sm m (fun j => ent p j * x j) := by
    rw [← Sm_mul]
    refine Sm_congr fun j _ => ?_
    rw [lead_ent, Rat.div_def]
    grind
  rw [e, lead_ent, Rat.div_def]
  have hi := Rat.mul_inv_cancel _ hp
  constructor
  · intro h
    have h2 : ent p c * ((ent p c)⁻¹ * Sm m (fun j => ent p j * x j)) = ent p c * (ent p m * (ent p c)⁻¹) := by rw [h]
    grind
  · intro h
    rw [h]
    grind
theorem without_sol {m c : Nat} {x : Nat → Rat} {r l : List Rat} (hl : r.length = l.length) (h : SolR m x l) : SolR m x (withoutCol r l c) ↔ SolR m x r := by
  unfold SolR at *
  have e : Sm m (fun j => ent (withoutCol r l c) j * x j) = Sm m (fun j => ent r j * x j) + (-(ent r c)) * Sm m (fun j => ent l j * x j) := by
    rw [← Sm_mul, ← Sm_add]
    refine Sm_congr fun j _ => ?_
    rw [withoutCol_ent hl]
    grind
  rw [e, withoutCol_ent hl, h]
  constructor
  · intro q
    grind
  · intro q
    rw [q]
    grind
theorem BInv.sol (h : BInv w i rows leads) {m : Nat} {x : Nat → Rat} : Sol m x (stepB (rows, leads) i).1 ↔ Sol m x rows := by
  unfold stepB
  cases e : spotsOf rows leads.length i with
  | nil => exact Iff.rfl
  | cons sp rest =>
    obtain ⟨h1, h2, h3⟩ := spots_mem (rows := rows) (done := leads.length) (c := i) (sp := sp) (by rw [e]; exact List.mem_cons_self)
    have hd : leads.length < rows.length := by omega
    show Sol m x (stepWith rows leads.length sp i) ↔ Sol m x rows
    have eP : rowAt (swapR rows leads.length sp) leads.length = rowAt rows sp := by
      rw [swap_at hd h2 hd]
      by_cases q : leads.length = sp
      · rw [if_pos q, q]
      · rw [if_neg q, if_pos rfl]
    have wL : (leadOf (rowAt rows sp) i).length = w := by
      unfold leadOf
      rw [List.length_map, h.wd _ (rowAt_mem h2)]
    have sw : ∀ a, a < rows.length → rowAt (swapR rows leads.length sp) a ∈ rows := fun a ha => by
      rw [swap_at hd h2 ha]
      apply rowAt_mem
      split
      · exact hd
      · split
        · exact h2
        · exact ha
    have eAt : ∀ a, a < rows.length → rowAt (stepWith rows leads.length sp i) a = if a = leads.length then leadOf (rowAt rows sp) i else withoutCol (rowAt (swapR rows leads.length sp) a) (leadOf (rowAt rows sp) i) i := fun a ha => by
      rw [stepWith_at ha, eP]
    constructor
    · intro hs r hr
      -- the leading row's own
      have hlead : SolR m x (leadOf (rowAt rows sp) i) := by
        have := hs _ (rowAt_mem (rows := stepWith rows leads.length sp i) (a := leads.length) (by rw [stepWith_len]; exact hd))
        rwa [eAt _ hd, if_pos rfl] at this
      have hsp : SolR m x (rowAt rows sp) := (lead_sol h3).mp hlead
      obtain ⟨a, ea⟩ := List.mem_iff_getElem?.mp hr
      have ha := get_lt ea
      rw [← rowAt_of ea]
      -- where a went
      have hb : ∃ b, b < rows.length ∧ rowAt (swapR rows leads.length sp) b = rowAt rows a := by
        by_cases q : a = sp
        · exact ⟨leads.length, hd, by rw [eP, q]⟩
        · by_cases q2 : a = leads.length
          · refine ⟨sp, h2, ?_⟩
            rw [swap_at hd h2 h2, if_pos rfl, q2]
          · refine ⟨a, ha, ?_⟩
            rw [swap_at hd h2 ha, if_neg q, if_neg q2]
      obtain ⟨b, hb1, hb2⟩ := hb
      by_cases q : b = leads.length
      · rw [← hb2, q, eP]
        exact hsp
      · have := hs _ (rowAt_mem (rows := stepWith rows leads.length sp i) (a := b) (by rw [stepWith_len]; exact hb1))
        rw [eAt b hb1, if_neg q] at this
        rw [← hb2]
        exact (without_sol (by rw [wL, h.wd _ (sw b hb1)]) hlead).mp this
    · intro hs r hr
      obtain ⟨a, ea⟩ := List.mem_iff_getElem?.mp hr
      have ha := get_lt ea
      rw [stepWith_len] at ha
      have hlead : SolR m x (leadOf (rowAt rows sp) i) := (lead_sol h3).mpr (hs _ (rowAt_mem h2))
      rw [← rowAt_of ea, eAt a ha]
      split
      · exact hlead
      · exact (without_sol (by rw [wL, h.wd _ (sw a ha)]) hlead).mpr (hs _ (sw a ha))
/-- the sizes grow by leads -/
theorem withoutCol_sz {b : Nat} {r l : List Rat} {c : Nat} (h1 : AllS b r) (h2 : AllS (2 * b) l) (hc : 1 ≤ b) : AllS (4 * b + 1) (withoutCol r l c) := by
  unfold withoutCol
  split
  · exact h1.mono (by omega)
  · intro z hz
    obtain ⟨j, e⟩ := List.mem_iff_getElem?.mp hz
    rw [List.getElem?_zipWith] at e
    cases e1 : r[j]? with
    | none =>
      rw [e1] at e
      cases e
    | some x =>
      cases e2 : l[j]? with
      | none =>
        rw [e1, e2] at e
        cases e
      | some y =>
        rw [e1, e2] at e
        cases e
        have hr : Sz b (ent r c) := by
          unfold ent
          rw [List.getD_eq_getElem?_getD]
          cases e3 : r[c]? with
          | none => exact Sz.zero hc
          | some v => exact h1.at e3
        exact ((h1.at e1).sub (hr.mul (h2.at e2))).mono (by omega)
theorem ent_sz {b : Nat} {r : List Rat} (h : AllS b r) (hb : 1 ≤ b) (c : Nat) : Sz b (ent r c) := by
  unfold ent
  rw [List.getD_eq_getElem?_getD]
  cases e : r[c]? with
  | none => exact Sz.zero hb
  | some v => exact h.at e
theorem leadOf_sz {b : Nat} {p : List Rat} {c : Nat} (h : AllS b p) (hb : 1 ≤ b) (h0 : ent p c ≠ 0) : AllS (2 * b) (leadOf p c) := fun z hz => by
  unfold leadOf at hz
  obtain ⟨x, hx, rfl⟩ := List.mem_map.mp hz
  exact ((h x hx).div (ent_sz h hb c) h0).mono (by omega)
def TabS (b : Nat) (rows : List (List Rat)) : Prop := ∀ r ∈ rows, AllS b r
theorem stepB_sz {s : Nat} (h1 : 1 ≤ s) (hle : leads.length ≤ rows.length) (h : TabS (gz s leads.length) rows) : TabS (gz s (stepB (rows, leads) i).2.length) (stepB (rows, leads) i).1 := by
  unfold stepB
  cases e : spotsOf rows leads.length i with
  | nil => exact h
  | cons sp rest =>
    obtain ⟨q1, q2, q3⟩ := spots_mem (rows := rows) (done := leads.length) (c := i) (sp := sp) (by rw [e]; exact List.mem_cons_self)
    have hd : leads.length < rows.length := by omega
    show TabS (gz s (leads ++ [i]).length) (stepWith rows leads.length sp i)
    rw [List.length_append]
    have hb : 1 ≤ gz s leads.length := Nat.le_trans h1 (gz_le _)
    have eP : rowAt (swapR rows leads.length sp) leads.length = rowAt rows sp := by
      rw [swap_at hd q2 hd]
      by_cases q : leads.length = sp
      · rw [if_pos q, q]
      · rw [if_neg q, if_pos rfl]
    intro r hr
    obtain ⟨a, ea⟩ := List.mem_iff_getElem?.mp hr
    have ha := get_lt ea
    rw [stepWith_len] at ha
    rw [← rowAt_of ea, stepWith_at ha, eP]
    have hL := leadOf_sz (c := i) (h _ (rowAt_mem q2)) hb q3
    split
    · exact hL.mono (by show 2 * gz s leads.length ≤ 4 * gz s leads.length + 1; omega)
    · refine withoutCol_sz (h _ ?_) hL hb
      rw [swap_at hd q2 ha]
      apply rowAt_mem
      by_cases z1 : a = sp
      · rw [if_pos z1]
        exact hd
      · rw [if_neg z1]
        by_cases z2 : a = leads.length
        · rw [if_pos z2]
          exact q2
        · rw [if_neg z2]
          exact ha
end
theorem stepB_len (st : List (List Rat) × List Nat) (i : Nat) : (stepB st i).1.length = st.1.length ∧ (stepB st i).2.length ≤ st.2.length + 1 := by
  unfold stepB
  split
  · exact ⟨rfl, Nat.le_succ _⟩
  · exact ⟨stepWith_len _ _ _ _, by rw [List.length_append] <;> exact Nat.le_refl _⟩
/-- the state behind i columns -/
def bst (tab : List (List Rat)) (i : Nat) : List (List Rat) × List Nat := (List.range i).foldl stepB (tab, [])
theorem bst_succ (tab : List (List Rat)) (i : Nat) : bst tab (i + 1) = stepB (bst tab i) i := by
  unfold bst
  rw [List.range_succ, List.foldl_append] <;> rfl
theorem bst_inv {w : Nat} {tab : List (List Rat)} (hw : ∀ r ∈ tab, r.length = w) : ∀ i, BInv w i (bst tab i).1 (bst tab i).2
  | 0 => ⟨hw, Nat.zero_le _, fun c hc => (by cases hc), List.nodup_nil, fun k c hk => (by cases hk), fun a _ _ j hj => absurd hj (Nat.not_lt_zero j)⟩
  | i + 1 => by
    rw [bst_succ]
    exact (bst_inv hw i).step
theorem bst_sol {w : Nat} {tab : List (List Rat)} (hw : ∀ r ∈ tab, r.length = w) {m : Nat} {x : Nat → Rat} : ∀ i, Sol m x (bst tab i).1 ↔ Sol m x tab
  | 0 => Iff.rfl
  | i + 1 => by
    rw [bst_succ]
    exact ((bst_inv hw i).sol).trans (bst_sol hw i)
theorem bst_len (tab : List (List Rat)) : ∀ i, (bst tab i).1.length = tab.length ∧ (bst tab i).2.length ≤ i
  | 0 => ⟨rfl, Nat.le_refl _⟩
  | i + 1 => by
    rw [bst_succ]
    obtain ⟨h1, h2⟩ := bst_len tab i
    obtain ⟨k1, k2⟩ := stepB_len (bst tab i) i
    exact ⟨k1.trans h1, by omega⟩
theorem bst_sz {w s : Nat} {tab : List (List Rat)} (hw : ∀ r ∈ tab, r.length = w) (h1 : 1 ≤ s) (h : TabS s tab) : ∀ i, TabS (gz s (bst tab i).2.length) (bst tab i).1
  | 0 => h
  | i + 1 => by
    rw [bst_succ]
    exact stepB_sz h1 (bst_inv hw i).le (bst_sz hw h1 h i)
/-- no solution -/
theorem no_sol {w m : Nat} {rows : List (List Rat)} {leads : List Nat} (h : BInv w m rows leads) {a : Nat} (h1 : leads.length ≤ a) (h2 : a < rows.length) (h3 : ent (rowAt rows a) m ≠ 0) (x : Nat → Rat) : ¬ Sol m x rows := fun hs => by
  have k := hs _ (rowAt_mem h2)
  unfold SolR at k
  rw [Sm_zero fun j hj => by rw [h.zero a h1 h2 j hj, Rat.zero_mul]] at k
  exact h3 k.symm
/-- the solution that is read off -/
theorem read_sol {w m : Nat} {rows : List (List Rat)} {leads : List Nat} (h : BInv w m rows leads) (h3 : ∀ a, leads.length ≤ a → a < rows.length → ent (rowAt rows a) m = 0) {x : Nat → Rat} (hx : ∀ k c, leads[k]? = some c → x c = ent (rowAt rows k) m) (h0 : ∀ j, j < m → j ∉ leads → x j = 0) : Sol m x rows := fun r hr => by
  obtain ⟨a, ea⟩ := List.mem_iff_getElem?.mp hr
  have ha := get_lt ea
  rw [← rowAt_of ea]
  unfold SolR
  by_cases hal : a < leads.length
  · have hc : leads[a]? = some leads[a] := List.getElem?_eq_getElem hal
    have hcm := h.lt _ (List.getElem_mem hal)
    rw [Sm_one hcm fun j hj hn => ?_]
    · show ent (rowAt rows a) leads[a] * x leads[a] = _
      rw [h.one a _ hc a ha, if_pos rfl, hx a _ hc, Rat.one_mul]
    · by_cases hm : j ∈ leads
      · obtain ⟨k, hk⟩ := List.mem_iff_getElem?.mp hm
        have hka : a ≠ k := fun e => hn (by
          subst e
          rw [hc] at hk
          exact (Option.some.inj hk).symm)
        rw [h.one k j hk a ha, if_neg hka, Rat.zero_mul]
      · rw [h0 j hj hm, Rat.mul_zero]
  · rw [h3 a (by omega) ha]
    exact Sm_zero fun j hj => by rw [h.zero a (by omega) ha j hj, Rat.zero_mul]
end Pd

/-! text Re -/
set_option Elab.async false
set_option linter.all false
set_option maxRecDepth 100000
set_option maxHeartbeats 4000000
/-! What the walks of the elimination need. -/
namespace Pd
open PySem PySem.Spec PyProof.Rows L2 C8

theorem set_self {α : Type} (l : List (Option α)) (j : Nat) : l.set j ((l[j]?).getD none) = l := by
  refine List.ext_getElem? fun i => ?_
  rw [List.getElem?_set]
  by_cases e : j = i
  · subst e
    rw [if_pos rfl]
    by_cases h : j < l.length
    · rw [if_pos h, List.getElem?_eq_getElem h]
      rfl
    · rw [if_neg h, List.getElem?_eq_none (by omega)]
  · rw [if_neg e]
/-- a slot forgotten -/
theorem ss_drop {g : G} {δ : List SD} {sts : List Stmt} {nx : List SD → Prop} {rt : PyData → Prop} {i : Nat} (hn : nOw δ i = true) (h : SS g sts (δ.set i .any) nx rt) : SS g sts δ nx rt := fun X x Γ σ H D r kn kr => by
  have r' := r.set (j := i) (o := (σ[i]?).getD none) (s := .any) hn trivial
  rw [set_self] at r'
  exact h X x Γ σ H D r' kn kr
def natI (p : Nat) : PyData := .int ((p : Nat) : Int)
theorem PL_eq (L : List Nat) : PL L = .list (L.map natI) := rfl
theorem PT_eq (L : List Nat) : PT L = .tuple (L.map natI) := rfl
theorem sub_none {a b v w : Expr} {p1 p2 pt pt2 : Pos} {kt k2} {c d : Expr} : ∀ env : Env, swappedStores [.Tuple [.Subscript a b p1, .Subscript c d p2] kt pt] (.Tuple [v, w] k2 pt2) env = pure none := fun env => by
  unfold swappedStores
  simp only [List.length_cons, List.length_nil]
  split
  · rfl
  · split
    · rfl
    · rfl
theorem noL_frac (q : Rat) : noL (frac q) = true := rfl
theorem noLs_fracs : ∀ xs : List Rat, noLs (xs.map frac) = true
  | [] => rfl
  | x :: r => noLs_fracs r
theorem av_frac {L : List PyData} (q : Rat) : Av L (frac q) := av_noL rfl
theorem av_FL {rows : List (List Rat)} (r : List Rat) (h : rows ≠ []) : Av (rows.map FL) (FL r) := by
  refine ⟨fun e => ?_, avAll_noL (noLs_fracs r)⟩
  cases rows with
  | nil => exact h rfl
  | cons a b =>
    cases r with
    | nil => cases e
    | cons x t =>
      have e1 : frac x = FL a := by
        rw [List.map_cons, List.map_cons] at e
        exact (List.cons.inj e).1
      unfold frac FL at e1
      cases e1
theorem swap_map (rows : List (List Rat)) (done sp : Nat) : ((rows.map FL).set done (FL (rowAt rows sp))).set sp (FL (rowAt rows done)) = (swapR rows done sp).map FL := by
  unfold swapR
  rw [List.map_set, List.map_set]
theorem spots_eq (rows : List (List Rat)) (done c : Nat) : (spotsOf rows done c).map natI = ((List.range (rows.length - done)).filter fun i => decide (ent (rowAt rows (done + i)) c ≠ 0)).map fun i : Nat => PyData.int ((done : Int) + ((i : Nat) : Int)) := by
  unfold spotsOf
  rw [List.range'_eq_map_range, List.filter_map, List.map_map]
  refine List.map_congr_left fun i _ => ?_
  show PyData.int (((done + i : Nat) : Nat) : Int) = PyData.int ((done : Int) + ((i : Nat) : Int))
  rw [Int.natCast_add]
theorem stepB_nil {st : List (List Rat) × List Nat} {c : Nat} (h : spotsOf st.1 st.2.length c = []) : stepB st c = st := by
  unfold stepB
  rw [h]
theorem stepB_cons {st : List (List Rat) × List Nat} {c sp : Nat} {rest : List Nat} (h : spotsOf st.1 st.2.length c = sp :: rest) : stepB st c = (stepWith st.1 st.2.length sp c, st.2 ++ [c]) := by
  unfold stepB
  rw [h]
theorem cutD_from (ds : List PyData) (n : Nat) (h : n ≤ ds.length) : cutD ds (some (n : Int)) none = ds.drop n := by
  have e1 : HT.sIx ds.length 0 (some (n : Int)) = n := by
    unfold HT.sIx
    simp only
    split <;> omega
  have e2 : HT.sIx ds.length ds.length none = ds.length := rfl
  unfold cutD
  rw [e1, e2]
  exact List.take_of_length_le (by rw [List.length_drop]; omega)
theorem eo_none {g : G} {δ : List SD} {Q : Option Int → Prop} (h : Q none) : EO g none δ Q := h
theorem eo_some {g : G} {δ : List SD} {e : Expr} {Q : Option Int → Prop} (h : E g e δ fun d => ∃ i, d = .int i ∧ Q (some i)) : EO g (some e) δ Q := h
theorem at_z {α : Type} {xs : List α} {x : α} (h : xs[0]? = some x) : atI xs 0 = some x := at_nat (n := 0) h
theorem at_zm {α : Type} {xs : List α} {f : α → PyData} {x : α} (h : xs[0]? = some x) : atI (xs.map f) 0 = some (f x) := at_map (n := 0) h
/-- right sides put behind -/
def aug (tab : List (List Rat)) (b : List Rat) : List (List Rat) := List.zipWith (fun r v => r ++ [v]) tab b
theorem aug_get {tab : List (List Rat)} {b : List Rat} {i : Nat} {r : List Rat} {v : Rat} (h1 : tab[i]? = some r) (h2 : b[i]? = some v) : (aug tab b)[i]? = some (r ++ [v]) := by
  unfold aug
  rw [List.getElem?_zipWith, h1, h2]
theorem aug_len {tab : List (List Rat)} {b : List Rat} (h : b.length = tab.length) : (aug tab b).length = tab.length := by
  unfold aug
  rw [List.length_zipWith, h, Nat.min_self]
theorem aug_mem {tab : List (List Rat)} {b : List Rat} {q : List Rat} (h : q ∈ aug tab b) : ∃ r ∈ tab, ∃ v ∈ b, q = r ++ [v] := by
  obtain ⟨i, e⟩ := List.mem_iff_getElem?.mp h
  unfold aug at e
  rw [List.getElem?_zipWith] at e
  cases e1 : tab[i]? with
  | none =>
    rw [e1] at e
    cases e
  | some r =>
    cases e2 : b[i]? with
    | none =>
      rw [e1, e2] at e
      cases e
    | some v =>
      rw [e1, e2] at e
      exact ⟨r, List.mem_of_getElem? e1, v, List.mem_of_getElem? e2, (Option.some.inj e).symm⟩
theorem ent_set {xs : List Rat} {c j : Nat} {v : Rat} (hc : c < xs.length) : ent (xs.set c v) j = if j = c then v else ent xs j := by
  unfold ent
  rw [List.getD_eq_getElem?_getD, List.getD_eq_getElem?_getD, List.getElem?_set]
  by_cases e : c = j
  · rw [if_pos e, if_pos e.symm, if_pos (by omega)]
    rfl
  · rw [if_neg e, if_neg (Ne.symm e)]
theorem AllS.set {n c : Nat} {xs : List Rat} {v : Rat} (h : AllS n xs) (hv : Sz n v) : AllS n (xs.set c v) := fun x hx => by
  rcases List.mem_or_eq_of_mem_set hx with hx | rfl
  · exact h x hx
  · exact hv
theorem shaped_natI (L : List Nat) : SeqAt.shaped (.list (L.map natI)) = true := by
  have : ∀ L : List Nat, SeqAt.shaped (.list (L.map natI)) = true := fun L => by
    induction L with
    | nil => rfl
    | cons a r ih => exact ih
  exact this L
/-- columns made lines -/
def turn (w : Nat) (tab : List (List Rat)) : List (List Rat) := (List.range w).map fun j => tab.map fun r => ent r j
end Pd

/-! text Rf -/
set_option Elab.async false
set_option linter.all false
set_option maxRecDepth 100000
set_option maxHeartbeats 4000000
/-! Fair tellings, lots that spoil. -/
namespace Pd
open PySem PySem.Spec PyProof.Rows L2 C8

/-- the plots out of the lot -/
def leftOf (n : Nat) (L : List Nat) : List Nat := (List.range n).filter fun i => decide (i ∉ L)
theorem left_mem {n i : Nat} {L : List Nat} : i ∈ leftOf n L ↔ i < n ∧ i ∉ L := by
  unfold leftOf
  rw [List.mem_filter, List.mem_range, decide_eq_true_iff]
theorem left_succ (n : Nat) (L : List Nat) : leftOf (n + 1) L = leftOf n L ++ (if n ∈ L then [] else [n]) := by
  unfold leftOf
  rw [List.range_succ, List.filter_append]
  by_cases h : n ∈ L
  · rw [if_pos h, List.filter_cons_of_neg (by simpa using h)]
    rfl
  · rw [if_neg h, List.filter_cons_of_pos (by simpa using h)]
    rfl
theorem left_len {n : Nat} {L : List Nat} : (leftOf n L).length ≤ n := by
  unfold leftOf
  have := List.length_filter_le (fun i => decide (i ∉ L)) (List.range n)
  rwa [List.length_range] at this
theorem left_nodup {n : Nat} {L : List Nat} : (leftOf n L).Nodup := by
  unfold leftOf
  exact List.nodup_range.filter _
theorem sum_left {n : Nat} {L : List Nat} {f : Nat → Rat} (h : ∀ i, i < n → i ∈ L → f i = 0) : Sm n f = Sm (leftOf n L).length (fun k => f ((leftOf n L).getD k 0)) := by
  induction n with
  | zero => rfl
  | succ n ih =>
    have ih' := ih fun i hi hm => h i (by omega) hm
    rw [left_succ]
    by_cases hn : n ∈ L
    · rw [if_pos hn, List.append_nil]
      show Sm n f + f n = _
      rw [h n (by omega) hn, Rat.add_zero, ih']
    · rw [if_neg hn, List.length_append]
      show Sm n f + f n = Sm (leftOf n L).length (fun k => f ((leftOf n L ++ [n]).getD k 0)) + f ((leftOf n L ++ [n]).getD (leftOf n L).length 0)
      have e1 : (leftOf n L ++ [n]).getD (leftOf n L).length 0 = n := by
        rw [List.getD_eq_getElem?_getD, List.getElem?_append_right (Nat.le_refl _), Nat.sub_self]
        rfl
      rw [e1, ih']
      congr 1
      refine Sm_congr fun k hk => ?_
      rw [List.getD_eq_getElem?_getD, List.getD_eq_getElem?_getD, List.getElem?_append_left hk]
theorem ent_app_left {l r : List Rat} {k : Nat} (h : k < l.length) : ent (l ++ r) k = ent l k := by
  unfold ent
  rw [List.getD_eq_getElem?_getD, List.getD_eq_getElem?_getD, List.getElem?_append_left h]
theorem ent_app_at (l : List Rat) (v : Rat) : ent (l ++ [v]) l.length = v := by
  unfold ent
  rw [List.getD_eq_getElem?_getD, List.getElem?_append_right (Nat.le_refl _), Nat.sub_self]
  rfl
theorem ent_mapF {f : Nat → Rat} {l : List Nat} {k : Nat} (h : k < l.length) : ent (l.map f) k = f (l.getD k 0) := by
  unfold ent
  rw [List.getD_eq_getElem?_getD, List.getD_eq_getElem?_getD, List.getElem?_map, List.getElem?_eq_getElem h]
  rfl
section
variable (t : Tr) (q : List Rat)
/-- y is fair: it says what is asked -/
def FairF (y : Nat → Rat) : Prop := ∀ j, j < (wideQ t q).length → Sm t.rows.length (fun i => ent (rowAt (wide t) i) j * y i) = ent (wideQ t q) j
/-- the question is answered without the lot -/
def Non (L : List Nat) : Prop := ∃ y : Nat → Rat, (∀ i ∈ L, y i = 0) ∧ FairF t q y
def tabL (L : List Nat) : List (List Rat) := turn (wideQ t q).length ((leftOf t.rows.length L).map (rowAt (wide t)))
end
section
variable {t : Tr} {q : List Rat} {L : List Nat}
theorem tabL_len : (tabL t q L).length = (wideQ t q).length := by simp [tabL, turn]
theorem tabL_get {j : Nat} (h : j < (wideQ t q).length) : (tabL t q L)[j]? = some ((leftOf t.rows.length L).map fun p => ent (rowAt (wide t) p) j) := by
  unfold tabL turn
  rw [List.getElem?_map, List.getElem?_range h]
  simp only [Option.map_some, List.map_map, Function.comp_def]
theorem tabL_row {r : List Rat} (h : r ∈ tabL t q L) : r.length = (leftOf t.rows.length L).length := by
  unfold tabL turn at h
  obtain ⟨j, _, rfl⟩ := List.mem_map.mp h
  rw [List.length_map, List.length_map]
theorem sol_tab {x : Nat → Rat} : Sol (leftOf t.rows.length L).length x (aug (tabL t q L) (wideQ t q)) ↔ ∀ j, j < (wideQ t q).length → Sm (leftOf t.rows.length L).length (fun k => ent (rowAt (wide t) ((leftOf t.rows.length L).getD k 0)) j * x k) = ent (wideQ t q) j := by
  have one : ∀ j, j < (wideQ t q).length → (SolR (leftOf t.rows.length L).length x (((leftOf t.rows.length L).map fun p => ent (rowAt (wide t) p) j) ++ [ent (wideQ t q) j]) ↔ Sm (leftOf t.rows.length L).length (fun k => ent (rowAt (wide t) ((leftOf t.rows.length L).getD k 0)) j * x k) = ent (wideQ t q) j) := fun j hj => by
    unfold SolR
    have e1 : ent (((leftOf t.rows.length L).map fun p => ent (rowAt (wide t) p) j) ++ [ent (wideQ t q) j]) (leftOf t.rows.length L).length = ent (wideQ t q) j := by
      have := ent_app_at ((leftOf t.rows.length L).map fun p => ent (rowAt (wide t) p) j) (ent (wideQ t q) j)
      rwa [List.length_map] at this
    rw [e1]
    have e2 : Sm (leftOf t.rows.length L).length (fun k => ent (((leftOf t.rows.length L).map fun p => ent (rowAt (wide t) p) j) ++ [ent (wideQ t q) j]) k * x k) = Sm (leftOf t.rows.length L).length (fun k => ent (rowAt (wide t) ((leftOf t.rows.length L).getD k 0)) j * x k) := Sm_congr fun k hk => by
      rw [ent_app_left (by rw [List.length_map]; exact hk), ent_mapF hk]
    rw [e2]
  have at_ : ∀ j, j < (wideQ t q).length → (aug (tabL t q L) (wideQ t q))[j]? = some (((leftOf t.rows.length L).map fun p => ent (rowAt (wide t) p) j) ++ [ent (wideQ t q) j]) := fun j hj => aug_get (tabL_get hj) (getD_get hj)
  constructor
  · intro h j hj
    exact (one j hj).mp (h _ (List.mem_of_getElem? (at_ j hj)))
  · intro h r hr
    obtain ⟨j, e⟩ := List.mem_iff_getElem?.mp hr
    have hj := get_lt e
    rw [aug_len (by rw [tabL_len])] at hj
    rw [tabL_len] at hj
    rw [at_ j hj] at e
    cases e
    exact (one j hj).mpr (h j hj)
/-- from weights of the plots that are left to weights of all -/
theorem fair_of {x y : Nat → Rat} (h : Sol (leftOf t.rows.length L).length x (aug (tabL t q L) (wideQ t q))) (hy : ∀ k, k < (leftOf t.rows.length L).length → y ((leftOf t.rows.length L).getD k 0) = x k) (h0 : ∀ i ∈ L, y i = 0) : FairF t q y := fun j hj => by
  rw [sum_left (L := L) fun i _ hm => by rw [h0 i hm, Rat.mul_zero], ← sol_tab.mp h j hj]
  exact Sm_congr fun k hk => by rw [hy k hk]
theorem sol_of {y : Nat → Rat} (h : FairF t q y) (h0 : ∀ i ∈ L, y i = 0) : Sol (leftOf t.rows.length L).length (fun k => y ((leftOf t.rows.length L).getD k 0)) (aug (tabL t q L) (wideQ t q)) := sol_tab.mpr fun j hj => by
  refine Eq.trans ?_ (h j hj)
  exact (sum_left (n := t.rows.length) (L := L) (f := fun i => ent (rowAt (wide t) i) j * y i) fun i _ hm => by rw [h0 i hm, Rat.mul_zero]).symm
theorem no_left (h : leftOf t.rows.length L = []) {y : Nat → Rat} (hy : FairF t q y) (h0 : ∀ i ∈ L, y i = 0) : ∀ j, j < (wideQ t q).length → ent (wideQ t q) j = 0 := fun j hj => by
  rw [← hy j hj, sum_left (L := L) fun i _ hm => by rw [h0 i hm, Rat.mul_zero], h]
  rfl
theorem fair0 (h : ∀ x ∈ q, x = 0) : FairF t q fun _ => 0 := fun j hj => by
  rw [Sm_zero fun i _ => Rat.mul_zero _]
  have e : ent (wideQ t q) j = 0 := by
    have hm : ent (wideQ t q) j ∈ wideQ t q := getD_mem hj
    unfold wideQ at hm
    rcases List.mem_append.mp hm with hm | hm
    · exact h _ hm
    · exact List.eq_of_mem_replicate hm
  exact e.symm
theorem wideQ_zero (h : ∀ j, j < (wideQ t q).length → ent (wideQ t q) j = 0) : ∀ x ∈ q, x = 0 := fun x hx => by
  obtain ⟨j, e⟩ := List.mem_iff_getElem?.mp hx
  have hj := get_lt e
  have hl : j < (wideQ t q).length := by
    unfold wideQ
    rw [List.length_append]
    omega
  rw [← h j hl]
  unfold wideQ
  rw [ent_app_left hj]
  exact (ent_get e).symm
/-- a bigger lot spoils what a smaller one spoils -/
theorem Non.sub {L' : List Nat} (h : Non t q L) (hs : ∀ i ∈ L', i ∈ L) : Non t q L' := by
  obtain ⟨y, h1, h2⟩ := h
  exact ⟨y, fun i hi => h1 i (hs i hi), h2⟩
end
theorem FairF.congr {t : Tr} {q : List Rat} {y y' : Nat → Rat} (h : FairF t q y) (e : ∀ i, i < t.rows.length → y' i = y i) : FairF t q y' := fun j hj => by
  rw [← h j hj]
  exact Sm_congr fun i hi => by rw [e i hi]
theorem wideQ_len (t : Tr) (q : List Rat) : (wideQ t q).length = q.length + (lv t.blk).toNat := by
  unfold wideQ
  rw [List.length_append, List.length_replicate]
theorem wideQ_sz {s : Nat} {t : Tr} {q : List Rat} (h : AllS s q) (h1 : 1 ≤ s) : AllS s (wideQ t q) := fun x hx => by
  unfold wideQ at hx
  rcases List.mem_append.mp hx with hx | hx
  · exact h x hx
  · rw [List.eq_of_mem_replicate hx]
    exact Sz.zero h1
theorem rowAt_sz {s u : Nat} {t : Tr} (h : t.Ok s u) {i : Nat} (hi : i < t.rows.length) : AllS s (rowAt (wide t) i) ∧ (rowAt (wide t) i).length = u + (lv t.blk).toNat := by
  have := h.wideRow (rowAt_mem (rows := wide t) (a := i) (by rw [wide_len]; exact hi))
  exact ⟨this.2, this.1⟩
theorem tabL_sz {s u : Nat} {t : Tr} {q : List Rat} {L : List Nat} (h : t.Ok s u) : TabS s (tabL t q L) := fun r hr => by
  unfold tabL turn at hr
  obtain ⟨j, _, rfl⟩ := List.mem_map.mp hr
  intro x hx
  obtain ⟨r', hr', rfl⟩ := List.mem_map.mp hx
  obtain ⟨p, hp, rfl⟩ := List.mem_map.mp hr'
  exact ent_sz (rowAt_sz h (left_mem.mp hp).1).1 h.s1 j
theorem depth_fracs (xs : List Rat) : PyData.depthAll (xs.map frac) ≤ 1 := by
  induction xs with
  | nil => exact Nat.zero_le _
  | cons a r ih =>
    show max (PyData.depth (frac a)) (PyData.depthAll (r.map frac)) ≤ 1
    have : PyData.depth (frac a) = 1 := rfl
    omega
theorem lay_fracs (xs : List Rat) : PyData.canLayAll0 (xs.map frac) = true := by
  induction xs with
  | nil => rfl
  | cons a r ih =>
    show (PyData.canLay0 (frac a) && PyData.canLayAll0 (r.map frac)) = true
    rw [ih] <;> rfl
theorem shaped_fracs (xs : List Rat) : SeqAt.shaped (.tuple (xs.map frac)) = true := by
  have h := depth_fracs xs
  show (PyData.canLayAll0 (xs.map frac) && decide (PyData.depthAll (xs.map frac) + 1 ≤ 64)) = true
  rw [lay_fracs, decide_eq_true (by omega)]
  rfl
theorem shaped_FL (xs : List Rat) : SeqAt.shaped (FL xs) = true := by
  have h := depth_fracs xs
  show (PyData.canLayAll0 (xs.map frac) && decide (PyData.depthAll (xs.map frac) + 1 ≤ 64)) = true
  rw [lay_fracs, decide_eq_true (by omega)]
  rfl
theorem eqv_fracs : ∀ xs ys : List Rat, PyData.eqv (.list (xs.map frac)) (.list (ys.map frac)) = decide (xs = ys)
  | [], [] => rfl
  | [], y :: s => by
    rw [decide_eq_false (by intro e; cases e)]
    rfl
  | x :: r, [] => by
    rw [decide_eq_false (by intro e; cases e)]
    rfl
  | x :: r, y :: s => by
    have ih := eqv_fracs r s
    have e : PyData.eqv (.list ((x :: r).map frac)) (.list ((y :: s).map frac)) = (PyData.eqv (frac x) (frac y) && PyData.eqv (.list (r.map frac)) (.list (s.map frac))) := rfl
    rw [e, ih, frac_eqv]
    by_cases h1 : x = y
    · by_cases h2 : r = s
      · simp [h1, h2]
      · simp [h1, h2]
    · simp [h1]
/-- dot by places -/
theorem sumL_Sm : ∀ xs : List Rat, sumL xs = Sm xs.length (ent xs) := by
  intro xs
  have key : ∀ n, n ≤ xs.length → sumL (xs.take n) = Sm n (ent xs) := by
    intro n
    induction n with
    | zero => intro _; rfl
    | succ n ih =>
      intro h
      have e : xs[n]? = some (ent xs n) := getD_get (by omega)
      rw [List.take_add_one, e]
      show sumL (xs.take n ++ [ent xs n]) = Sm n (ent xs) + ent xs n
      rw [sumL_snoc, ih (by omega)]
  have := key xs.length (Nat.le_refl _)
  rwa [List.take_length] at this
theorem dotR_Sm {xs ys : List Rat} (h : xs.length = ys.length) : dotR xs ys = Sm xs.length (fun i => ent xs i * ent ys i) := by
  unfold dotR
  rw [sumL_Sm, List.length_zipWith, ← h, Nat.min_self]
  exact Sm_congr fun i _ => ent_zip (by grind) h i
/-! ### the lots of a size -/
def lots (size : Nat) : Nat → List (List Nat)
  | 0 => [[]]
  | i + 1 => lots size i ++ ((lots size i).filter fun L => decide (L.length < size)).map fun L => L ++ [i]
theorem lot_snoc {i : Nat} {L : List Nat} : Lot (i + 1) (L ++ [i]) ↔ Lot i L := by
  unfold Lot
  rw [List.pairwise_append]
  constructor
  · rintro ⟨⟨h1, _, h3⟩, h4⟩
    exact ⟨h1, fun p hp => h3 p hp i (List.mem_singleton.mpr rfl)⟩
  · rintro ⟨h1, h2⟩
    refine ⟨⟨h1, List.pairwise_singleton _ _, fun p hp q hq => ?_⟩, fun p hp => ?_⟩
    · rw [List.mem_singleton.mp hq]
      exact h2 p hp
    · rcases List.mem_append.mp hp with hp | hp
      · exact Nat.lt_succ_of_lt (h2 p hp)
      · rw [List.mem_singleton.mp hp]
        exact Nat.lt_succ_self i
theorem lots_mem {size : Nat} : ∀ (i : Nat) (L : List Nat), L ∈ lots size i ↔ Lot i L ∧ L.length ≤ size
  | 0, L => by
    show L ∈ [[]] ↔ _
    rw [List.mem_singleton]
    constructor
    · rintro rfl
      exact ⟨⟨List.Pairwise.nil, fun p hp => by cases hp⟩, Nat.zero_le _⟩
    · rintro ⟨⟨_, h⟩, _⟩
      cases L with
      | nil => rfl
      | cons a r => exact absurd (h a List.mem_cons_self) (Nat.not_lt_zero a)
  | i + 1, L => by
    show L ∈ lots size i ++ _ ↔ _
    rw [List.mem_append, lots_mem i L]
    constructor
    · rintro (⟨h, hl⟩ | h)
      · exact ⟨⟨h.1, fun p hp => Nat.lt_succ_of_lt (h.2 p hp)⟩, hl⟩
      · obtain ⟨L', h', rfl⟩ := List.mem_map.mp h
        obtain ⟨h1, h2⟩ := List.mem_filter.mp h'
        have h3 := of_decide_eq_true h2
        refine ⟨lot_snoc.mpr ((lots_mem i L').mp h1).1, ?_⟩
        rw [List.length_append]
        exact h3
    · rintro ⟨h, hl⟩
      by_cases hi : i ∈ L
      · right
        -- i is the last
        have hne : L ≠ [] := fun e => by rw [e] at hi; cases hi
        obtain ⟨L', p, rfl⟩ : ∃ L' p, L = L' ++ [p] := ⟨L.dropLast, L.getLast hne, (List.dropLast_concat_getLast hne).symm⟩
        have hp : p = i := by
          rcases List.mem_append.mp hi with hm | hm
          · have := (List.pairwise_append.mp h.1).2.2 i hm p (List.mem_singleton.mpr rfl)
            have := h.2 p (List.mem_append_right _ (List.mem_singleton.mpr rfl))
            omega
          · exact (List.mem_singleton.mp hm).symm
        subst hp
        rw [List.length_append] at hl
        exact List.mem_map.mpr ⟨L', List.mem_filter.mpr ⟨(lots_mem p L').mpr ⟨lot_snoc.mp h, by simp at hl; omega⟩, decide_eq_true (by simp at hl; omega)⟩, rfl⟩
      · left
        exact ⟨⟨h.1, fun p hp => by
          have := h.2 p hp
          have hpi : p ≠ i := fun e => hi (e ▸ hp)
          omega⟩, hl⟩
theorem lots_len (size : Nat) : ∀ i, (lots size i).length ≤ 2 ^ i
  | 0 => Nat.le_refl _
  | i + 1 => by
    show (lots size i ++ _).length ≤ _
    rw [List.length_append, List.length_map, Nat.pow_succ]
    have h1 := lots_len size i
    have h2 := List.length_filter_le (fun L : List Nat => decide (L.length < size)) (lots size i)
    omega
def lotsOf (n size : Nat) : List (List Nat) := (lots size n).filter fun L => decide (L.length = size)
theorem lotsOf_mem {n size : Nat} {L : List Nat} : L ∈ lotsOf n size ↔ Lot n L ∧ L.length = size := by
  unfold lotsOf
  rw [List.mem_filter, lots_mem, decide_eq_true_iff]
  constructor
  · rintro ⟨⟨h1, _⟩, h2⟩
    exact ⟨h1, h2⟩
  · rintro ⟨h1, h2⟩
    exact ⟨⟨h1, Nat.le_of_eq h2⟩, h2⟩
theorem lotsOf_len (n size : Nat) : (lotsOf n size).length ≤ 2 ^ n := Nat.le_trans (List.length_filter_le _ _) (lots_len size n)
end Pd

/-! text Rg -/
set_option Elab.async false
set_option linter.all false
set_option maxRecDepth 100000
set_option maxHeartbeats 4000000
/-! What the walks of the losses need. -/
namespace Pd
open PySem PySem.Spec PyProof.Rows L2 C8

theorem inC_PT (x : Int) (L : List Nat) : InC (.int x) (PT L) := ⟨x, L.map fun p : Nat => ((p : Nat) : Int), rfl, .inl (by unfold PT; rw [List.map_map] <;> rfl)⟩
theorem inD_PT (x : Nat) (L : List Nat) : inD (.int ((x : Nat) : Int)) (PT L) = decide (x ∈ L) := by
  show (L.map fun p : Nat => PyData.int ((p : Nat) : Int)).any (fun d => iOf d == ((x : Nat) : Int)) = decide (x ∈ L)
  rw [List.any_map]
  by_cases h : x ∈ L
  · rw [decide_eq_true h]
    exact List.any_eq_true.mpr ⟨x, h, by show (((x : Nat) : Int) == ((x : Nat) : Int)) = true; exact beq_self_eq_true _⟩
  · rw [decide_eq_false h, Bool.eq_false_iff]
    intro z
    obtain ⟨p, hp, e⟩ := List.any_eq_true.mp z
    have e' : ((p : Nat) : Int) = ((x : Nat) : Int) := eq_of_beq e
    exact h (by rw [show x = p by omega]; exact hp)
theorem left_map (n : Nat) (L : List Nat) : ((List.range n).filter fun i => decide (i ∉ L)).map (fun i : Nat => PyData.int (0 + ((i : Nat) : Int))) = (leftOf n L).map natI := by
  unfold leftOf
  refine List.map_congr_left fun i _ => ?_
  rw [Int.zero_add]
  rfl
theorem left_full {n : Nat} {L : List Nat} (h : leftOf n L = []) {i : Nat} (hi : i < n) : i ∈ L := Classical.byContradiction fun hn => by
  have := left_mem.mpr ⟨hi, hn⟩
  rw [h] at this
  cases this
theorem left_get {n : Nat} {L : List Nat} {k p : Nat} (h : (leftOf n L)[k]? = some p) : p < n ∧ p ∉ L ∧ (leftOf n L).getD k 0 = p := by
  obtain ⟨h1, h2⟩ := left_mem.mp (List.mem_of_getElem? h)
  refine ⟨h1, h2, ?_⟩
  rw [List.getD_eq_getElem?_getD, h]
  rfl
theorem nodup_get {α : Type} {l : List α} (h : l.Nodup) {i j : Nat} {x : α} (h1 : l[i]? = some x) (h2 : l[j]? = some x) : i = j := by
  have l1 := get_lt h1
  have l2 := get_lt h2
  have e1 := (List.getElem?_eq_some_iff.mp h1).2
  have e2 := (List.getElem?_eq_some_iff.mp h2).2
  exact (List.getElem_inj (h₀ := l1) (h₁ := l2) h).mp (by rw [e1, e2])
theorem ent_rep (n : Nat) (j : Nat) : ent (List.replicate n 0) j = 0 := by
  unfold ent
  rw [List.getD_eq_getElem?_getD, List.getElem?_replicate]
  split <;> rfl
theorem allS_rep {b n : Nat} (h : 1 ≤ b) : AllS b (List.replicate n 0) := fun z hz => by
  rw [List.eq_of_mem_replicate hz]
  exact Sz.zero h
noncomputable def spB (t : Tr) (q : List Rat) (L : List Nat) : Bool := @decide (¬ Non t q L) (Classical.propDecidable _)
theorem spB_true {t : Tr} {q : List Rat} {L : List Nat} : spB t q L = true ↔ ¬ Non t q L := by
  unfold spB
  exact @decide_eq_true_iff _ (Classical.propDecidable _)
theorem spB_false {t : Tr} {q : List Rat} {L : List Nat} (h : Non t q L) : spB t q L = false := by
  unfold spB
  exact @decide_eq_false _ (Classical.propDecidable _) fun n => n h
def suppOf (ys : List Rat) : List Nat := (List.range ys.length).filter fun i => decide (ent ys i ≠ 0)
theorem enum_range (ys : List Rat) : enumD (ys.map frac) = (List.range ys.length).map fun i : Nat => PyData.tuple [.int ((i : Nat) : Int), frac (ent ys i)] := by
  unfold enumD
  refine List.ext_getElem? fun i => ?_
  rw [List.getElem?_mapIdx, List.getElem?_map, List.getElem?_map]
  by_cases h : i < ys.length
  · rw [getD_get (d := 0) h, List.getElem?_range h]
    rfl
  · rw [List.getElem?_eq_none (by omega), List.getElem?_eq_none (by rw [List.length_range]; omega)]
    rfl
def misB (L : List Nat) (y : List Rat) : Bool := L.all fun p => decide (ent y p = 0)
theorem misB_iff {L : List Nat} {y : List Rat} : misB L y = true ↔ ∀ p ∈ L, ent y p = 0 := by
  unfold misB
  rw [List.all_eq_true]
  exact ⟨fun h p hp => of_decide_eq_true (h p hp), fun h p hp => decide_eq_true (h p hp)⟩
theorem misB_any (L : List Nat) (y : List Rat) : (!((suppOf y).map fun p => decide (p ∈ L)).any id) = misB L y := by
  rw [Bool.eq_iff_iff, misB_iff, Bool.not_eq_true', Bool.eq_false_iff]
  constructor
  · intro h p hp
    refine Classical.byContradiction fun hn => h (List.any_eq_true.mpr ⟨true, List.mem_map.mpr ⟨p, ?_, decide_eq_true hp⟩, rfl⟩)
    unfold suppOf
    refine List.mem_filter.mpr ⟨List.mem_range.mpr ?_, decide_eq_true hn⟩
    exact Classical.byContradiction fun hl => hn (ent_out (by omega))
  · intro h z
    obtain ⟨b, hb, hb2⟩ := List.any_eq_true.mp z
    obtain ⟨p, hp, rfl⟩ := List.mem_map.mp hb
    unfold suppOf at hp
    obtain ⟨_, h2⟩ := List.mem_filter.mp hp
    exact of_decide_eq_true h2 (h p (of_decide_eq_true hb2))
theorem inC_natI (x : Int) (L : List Nat) : InC (.int x) (.tuple (L.map natI)) := inC_PT x L
theorem shaped_telL (y : List Rat) : SeqAt.shaped (.list [FT y]) = true := by
  have h := depth_fracs y
  show ((PyData.canLayAll0 (y.map frac) && true) && decide (max (PyData.depthAll (y.map frac) + 1) 0 + 1 ≤ 64)) = true
  rw [lay_fracs, decide_eq_true (by omega)]
  rfl
theorem lots_pow {size n : Nat} (h : n ≤ 10) : (lots size n).length ≤ 1024 := Nat.le_trans (lots_len size n) (Nat.pow_le_pow_right (n := 2) (by decide) h)
theorem lotsOf_pow {size n : Nat} (h : n ≤ 10) : (lotsOf n size).length ≤ 1024 := Nat.le_trans (lotsOf_len n size) (Nat.pow_le_pow_right (n := 2) (by decide) h)
/-- the columns of a table as lines -/
theorem turn_get {w j : Nat} {tab : List (List Rat)} (h : j < w) : (turn w tab)[j]? = some (tab.map fun r => ent r j) := by
  unfold turn
  rw [List.getElem?_map, List.getElem?_range h]
  rfl
theorem turn_len (w : Nat) (tab : List (List Rat)) : (turn w tab).length = w := by simp [turn]
theorem left_nil (n : Nat) : leftOf n [] = List.range n := by
  unfold leftOf
  exact List.filter_eq_self.mpr fun i _ => by simp
theorem range_rowAt {rows : List (List Rat)} {n : Nat} (h : rows.length = n) : (List.range n).map (rowAt rows) = rows := by
  refine List.ext_getElem? fun i => ?_
  rw [List.getElem?_map]
  by_cases hi : i < n
  · rw [List.getElem?_range hi, rowAt_get (by omega)]
    rfl
  · rw [List.getElem?_eq_none (by rw [List.length_range]; omega), List.getElem?_eq_none (by omega)]
    rfl
theorem tabL_nil (t : Tr) (q : List Rat) : tabL t q [] = turn (wideQ t q).length (wide t) := by
  unfold tabL
  rw [left_nil, range_rowAt (wide_len t)]
end Pd

/-! text Rh -/
set_option Elab.async false
set_option linter.all false
set_option maxRecDepth 100000
set_option maxHeartbeats 4000000
/-! The law's own taking away: what is a sum of rows. -/
namespace Pd
open PySem PySem.Spec PyProof.Rows L2 C8

/-! ### spans -/
/-- v is a sum of multiples of the rows, at the first w places -/
inductive Sp (w : Nat) (S : List (List Rat)) : (Nat → Rat) → Prop where
  | zero {v : Nat → Rat} (h : ∀ j, j < w → v j = 0) : Sp w S v
  | add {r : List Rat} {c : Rat} {u v : Nat → Rat} (hr : r ∈ S) (hu : Sp w S u) (h : ∀ j, j < w → v j = u j + c * ent r j) : Sp w S v
section
variable {w : Nat} {S S' : List (List Rat)} {u v : Nat → Rat}
theorem Sp.congr (h : Sp w S v) (e : ∀ j, j < w → u j = v j) : Sp w S u := by
  cases h with
  | zero h => exact .zero fun j hj => by rw [e j hj, h j hj]
  | add hr hu h => exact .add hr hu fun j hj => by rw [e j hj, h j hj]
theorem Sp.of {r : List Rat} (hr : r ∈ S) : Sp w S (ent r) := .add (c := 1) hr (.zero (v := fun _ => 0) fun _ _ => rfl) fun j _ => by rw [Rat.zero_add, Rat.one_mul]
theorem Sp.plus (hv : Sp w S v) : Sp w S u → Sp w S (fun j => u j + v j) := by
  intro hu
  induction hv with
  | zero h => exact hu.congr fun j hj => by rw [h j hj, Rat.add_zero]
  | add hr _ h ih => exact .add hr ih fun j hj => by rw [h j hj, Rat.add_assoc]
theorem Sp.scale (c : Rat) (hv : Sp w S v) : Sp w S (fun j => c * v j) := by
  induction hv with
  | zero h => exact .zero fun j hj => by rw [h j hj, Rat.mul_zero]
  | @add r c' u v hr _ h ih => exact .add (c := c * c') hr ih fun j hj => by rw [h j hj, Rat.mul_add, Rat.mul_assoc]
theorem Sp.trans (hS : ∀ r ∈ S, Sp w S' (ent r)) (hv : Sp w S v) : Sp w S' v := by
  induction hv with
  | zero h => exact .zero h
  | @add r c u v hr _ h ih => exact (Sp.plus ((hS r hr).scale c) ih).congr h
theorem Sp.mono (hS : ∀ r ∈ S, r ∈ S') (hv : Sp w S v) : Sp w S' v := hv.trans fun r hr => .of (hS r hr)
/-- with coefficients by place -/
def Cb (w : Nat) (S : List (List Rat)) (v : Nat → Rat) : Prop := ∃ c : Nat → Rat, ∀ j, j < w → Sm S.length (fun k => ent (rowAt S k) j * c k) = v j
theorem Sm_upd {n i : Nat} {f : Nat → Rat} {d : Rat} (hi : i < n) : Sm n (fun k => f k + if k = i then d else 0) = Sm n f + d := by
  rw [Sm_add]
  congr 1
  rw [Sm_one hi fun j _ hn => if_neg hn, if_pos rfl]
theorem Sp.cb (h : Sp w S v) : Cb w S v := by
  induction h with
  | zero h => exact ⟨fun _ => 0, fun j hj => by rw [h j hj]; exact Sm_zero fun k _ => Rat.mul_zero _⟩
  | @add r c u v hr _ h ih =>
    obtain ⟨f, hf⟩ := ih
    obtain ⟨i, ei⟩ := List.mem_iff_getElem?.mp hr
    have hi := get_lt ei
    refine ⟨fun k => f k + if k = i then c else 0, fun j hj => ?_⟩
    rw [h j hj, ← hf j hj]
    have e : Sm S.length (fun k => ent (rowAt S k) j * (f k + if k = i then c else 0)) = Sm S.length (fun k => ent (rowAt S k) j * f k + if k = i then c * ent r j else 0) := Sm_congr fun k _ => by
      by_cases hk : k = i
      · subst hk
        rw [if_pos rfl, if_pos rfl, rowAt_of ei]
        grind
      · rw [if_neg hk, if_neg hk]
        grind
    rw [e, Sm_upd hi]
theorem Cb.sp (h : Cb w S v) : Sp w S v := by
  obtain ⟨c, hc⟩ := h
  have key : ∀ n, n ≤ S.length → Sp w S (fun j => Sm n (fun k => ent (rowAt S k) j * c k)) := by
    intro n
    induction n with
    | zero => exact fun _ => .zero fun j _ => rfl
    | succ n ih =>
      intro hn
      refine .add (r := rowAt S n) (c := c n) (rowAt_mem (by omega)) (ih (by omega)) fun j _ => ?_
      show Sm n _ + ent (rowAt S n) j * c n = _
      rw [Rat.mul_comm (ent (rowAt S n) j)]
  exact (key S.length (Nat.le_refl _)).congr fun j hj => (hc j hj).symm
end
/-! ### the lines -/
def lessF (lines : List (Nat × List Rat)) (r : List Rat) : List Rat := lines.foldl (fun r p => withoutCol r p.2 p.1) r
def firstOf (r : List Rat) : Option Nat := ((List.range r.length).filter fun j => decide (ent r j ≠ 0)).head?
def lineStep (lines : List (Nat × List Rat)) (r : List Rat) : List (Nat × List Rat) := match firstOf (lessF lines r) with
  | none => lines
  | some sp => lines ++ [(sp, leadOf (lessF lines r) sp)]
def linesOf (rows : List (List Rat)) : List (Nat × List Rat) := rows.foldl lineStep []
structure Tri (w : Nat) (lines : List (Nat × List Rat)) : Prop where
  wd : ∀ p ∈ lines, p.2.length = w
  sp : ∀ p ∈ lines, p.1 < w
  one : ∀ p ∈ lines, ent p.2 p.1 = 1
  tri : ∀ (a b : Nat) (pa pb : Nat × List Rat), a < b → lines[a]? = some pa → lines[b]? = some pb → ent pb.2 pa.1 = 0
theorem firstOf_some {r : List Rat} {sp : Nat} (h : firstOf r = some sp) : sp < r.length ∧ ent r sp ≠ 0 := by
  unfold firstOf at h
  have hm := List.mem_of_mem_head? h
  obtain ⟨h1, h2⟩ := List.mem_filter.mp hm
  exact ⟨List.mem_range.mp h1, of_decide_eq_true h2⟩
theorem firstOf_none {r : List Rat} (h : firstOf r = none) : ∀ j, ent r j = 0 := fun j => by
  refine Classical.byContradiction fun hn => ?_
  unfold firstOf at h
  have h' := List.head?_eq_none_iff.mp h
  have hj : j < r.length := Classical.byContradiction fun hl => hn (ent_out (by omega))
  have hm : j ∈ (List.range r.length).filter fun j => decide (ent r j ≠ 0) := List.mem_filter.mpr ⟨List.mem_range.mpr hj, decide_eq_true hn⟩
  rw [h'] at hm
  cases hm
theorem lessF_nil (r : List Rat) : lessF [] r = r := rfl
theorem lessF_snoc (lines : List (Nat × List Rat)) (p : Nat × List Rat) (r : List Rat) : lessF (lines ++ [p]) r = withoutCol (lessF lines r) p.2 p.1 := by
  unfold lessF
  rw [List.foldl_append]
  rfl
section
variable {w : Nat} {lines : List (Nat × List Rat)}
theorem Tri.pre {p : Nat × List Rat} (h : Tri w (lines ++ [p])) : Tri w lines := ⟨fun q hq => h.wd q (List.mem_append_left _ hq), fun q hq => h.sp q (List.mem_append_left _ hq), fun q hq => h.one q (List.mem_append_left _ hq), fun a b pa pb hab ha hb => h.tri a b pa pb hab (by rw [List.getElem?_append_left (get_lt ha)]; exact ha) (by rw [List.getElem?_append_left (get_lt hb)]; exact hb)⟩
theorem snoc_ind {α : Type} {P : List α → Prop} (h0 : P []) (h1 : ∀ l x, P l → P (l ++ [x])) : ∀ l, P l := fun l => by
  have : ∀ n (l : List α), l.length = n → P l := by
    intro n
    induction n with
    | zero =>
      intro l hl
      rw [List.eq_nil_of_length_eq_zero hl]
      exact h0
    | succ n ih =>
      intro l hl
      have hne : l ≠ [] := fun e => by
        rw [e] at hl
        cases hl
      rw [← List.dropLast_concat_getLast hne]
      exact h1 _ _ (ih _ (by rw [List.length_dropLast, hl] <;> rfl))
  exact this _ l rfl
theorem lessF_len : ∀ {lines : List (Nat × List Rat)}, Tri w lines → ∀ {r : List Rat}, r.length = w → (lessF lines r).length = w := by
  intro lines
  refine snoc_ind (P := fun lines => Tri w lines → ∀ {r : List Rat}, r.length = w → (lessF lines r).length = w) (fun _ r hr => hr) (fun l p ih h r hr => ?_) lines
  have hl := ih h.pre hr
  rw [lessF_snoc, withoutCol_len (by rw [hl, h.wd p (List.mem_append_right _ (List.mem_singleton.mpr rfl))]), hl]
/-- what is left is zero at the lines' spots -/
theorem lessF_spots : ∀ {lines : List (Nat × List Rat)}, Tri w lines → ∀ {r : List Rat}, r.length = w → ∀ p ∈ lines, ent (lessF lines r) p.1 = 0 := by
  intro lines
  refine snoc_ind (P := fun lines => Tri w lines → ∀ {r : List Rat}, r.length = w → ∀ p ∈ lines, ent (lessF lines r) p.1 = 0) (fun _ r _ p hp => by cases hp) (fun l p ih h r hr q hq => ?_) lines
  have hl := lessF_len h.pre hr
  have hwp := h.wd p (List.mem_append_right _ (List.mem_singleton.mpr rfl))
  rw [lessF_snoc, withoutCol_ent (by rw [hl, hwp])]
  rcases List.mem_append.mp hq with hq | hq
  · rw [ih h.pre hr q hq]
    obtain ⟨a, ea⟩ := List.mem_iff_getElem?.mp hq
    have hz := h.tri a l.length q p (get_lt ea) (by rw [List.getElem?_append_left (get_lt ea)]; exact ea) (by rw [List.getElem?_append_right (Nat.le_refl _), Nat.sub_self]; rfl)
    rw [hz, Rat.mul_zero]
    grind
  · rw [List.mem_singleton.mp hq, h.one p (List.mem_append_right _ (List.mem_singleton.mpr rfl)), Rat.mul_one]
    grind
/-- what is taken away is a sum of lines -/
theorem lessF_sp : ∀ {lines : List (Nat × List Rat)}, Tri w lines → ∀ {r : List Rat}, r.length = w → Sp w (lines.map (·.2)) (fun j => ent r j - ent (lessF lines r) j) := by
  intro lines
  refine snoc_ind (P := fun lines => Tri w lines → ∀ {r : List Rat}, r.length = w → Sp w (lines.map (·.2)) (fun j => ent r j - ent (lessF lines r) j)) (fun _ r _ => .zero fun j _ => by rw [lessF_nil]; grind) (fun l p ih h r hr => ?_) lines
  have hl := lessF_len h.pre hr
  have hwp := h.wd p (List.mem_append_right _ (List.mem_singleton.mpr rfl))
  have i1 := (ih h.pre hr).mono (S' := (l ++ [p]).map (·.2)) fun q hq => by
    rw [List.map_append]
    exact List.mem_append_left _ hq
  refine .add (r := p.2) (c := ent (lessF l r) p.1) (by rw [List.map_append]; exact List.mem_append_right _ (List.mem_singleton.mpr rfl)) i1 fun j _ => ?_
  rw [lessF_snoc, withoutCol_ent (by rw [hl, hwp])]
  grind
/-- a sum of the lines that is zero at their spots is nothing -/
theorem Tri.zero (h : Tri w lines) {v : Nat → Rat} (hv : Sp w (lines.map (·.2)) v) (h0 : ∀ p ∈ lines, v p.1 = 0) : ∀ j, j < w → v j = 0 := by
  obtain ⟨c, hc⟩ := hv.cb
  rw [List.length_map] at hc
  have row : ∀ k p, lines[k]? = some p → rowAt (lines.map (·.2)) k = p.2 := fun k p e => rowAt_of (by rw [List.getElem?_map, e] <;> rfl)
  have cz : ∀ k, k < lines.length → c k = 0 := by
    intro k
    induction k using Nat.strongRecOn with
    | _ k ih =>
      intro hk
      have ek : lines[k]? = some lines[k] := List.getElem?_eq_getElem hk
      have hm := List.mem_of_getElem? ek
      have hz := h0 _ hm
      rw [← hc _ (h.sp _ hm), Sm_one hk fun j hj hn => ?_] at hz
      · rw [row k _ ek, h.one _ hm, Rat.one_mul] at hz
        exact hz
      · rcases Nat.lt_or_ge j k with hlt | hge
        · rw [ih j hlt hj, Rat.mul_zero]
        · have ej : lines[j]? = some lines[j] := List.getElem?_eq_getElem hj
          rw [row j _ ej, h.tri k j _ _ (by omega) ek ej, Rat.zero_mul]
  intro j hj
  rw [← hc j hj]
  exact Sm_zero fun k hk => by rw [cz k hk, Rat.mul_zero]
theorem Tri.step (h : Tri w lines) {r : List Rat} (hr : r.length = w) : Tri w (lineStep lines r) := by
  unfold lineStep
  cases e : firstOf (lessF lines r) with
  | none => exact h
  | some sp =>
    obtain ⟨h1, h2⟩ := firstOf_some e
    have hl := lessF_len h hr
    have hw : (leadOf (lessF lines r) sp).length = w := by
      unfold leadOf
      rw [List.length_map, hl]
    refine ⟨fun p hp => ?_, fun p hp => ?_, fun p hp => ?_, fun a b pa pb hab ha hb => ?_⟩
    · rcases List.mem_append.mp hp with hp | hp
      · exact h.wd p hp
      · rw [List.mem_singleton.mp hp]
        exact hw
    · rcases List.mem_append.mp hp with hp | hp
      · exact h.sp p hp
      · rw [List.mem_singleton.mp hp]
        show sp < w
        omega
    · rcases List.mem_append.mp hp with hp | hp
      · exact h.one p hp
      · rw [List.mem_singleton.mp hp]
        show ent (leadOf (lessF lines r) sp) sp = 1
        rw [lead_ent, Rat.div_def, Rat.mul_inv_cancel _ h2]
    · have hb' := get_lt hb
      rw [List.length_append] at hb'
      simp at hb'
      have ha' : a < lines.length := by omega
      rw [List.getElem?_append_left ha'] at ha
      rcases Nat.lt_or_ge b lines.length with hlt | hge
      · rw [List.getElem?_append_left hlt] at hb
        exact h.tri a b pa pb hab ha hb
      · have eb : b = lines.length := by omega
        subst eb
        rw [List.getElem?_append_right (Nat.le_refl _), Nat.sub_self] at hb
        cases hb
        show ent (leadOf (lessF lines r) sp) pa.1 = 0
        rw [lead_ent, lessF_spots h hr pa (List.mem_of_getElem? ha), Rat.div_def, Rat.zero_mul]
theorem lineStep_old (lines : List (Nat × List Rat)) (r : List Rat) : ∀ p ∈ lines, p ∈ lineStep lines r := fun p hp => by
  unfold lineStep
  split
  · exact hp
  · exact List.mem_append_left _ hp
/-- the new row is a sum of the new lines -/
theorem step_row (h : Tri w lines) {r : List Rat} (hr : r.length = w) : Sp w ((lineStep lines r).map (·.2)) (ent r) := by
  have old := (lessF_sp h hr).mono (S' := (lineStep lines r).map (·.2)) fun q hq => by
    obtain ⟨p, hp, rfl⟩ := List.mem_map.mp hq
    exact List.mem_map.mpr ⟨p, lineStep_old lines r p hp, rfl⟩
  cases e : firstOf (lessF lines r) with
  | none =>
    refine old.congr fun j _ => ?_
    rw [firstOf_none e j]
    grind
  | some sp =>
    obtain ⟨h1, h2⟩ := firstOf_some e
    have hm : leadOf (lessF lines r) sp ∈ (lineStep lines r).map (·.2) := by
      unfold lineStep
      rw [e]
      exact List.mem_map.mpr ⟨_, List.mem_append_right _ (List.mem_singleton.mpr rfl), rfl⟩
    refine .add (c := ent (lessF lines r) sp) hm old fun j _ => ?_
    rw [lead_ent, Rat.div_def]
    have := Rat.mul_inv_cancel _ h2
    grind
/-- the new line is a sum of the rows -/
theorem step_line (h : Tri w lines) {r : List Rat} (hr : r.length = w) {S : List (List Rat)} (hS : ∀ p ∈ lines, Sp w S (ent p.2)) (hrS : Sp w S (ent r)) : ∀ p ∈ lineStep lines r, Sp w S (ent p.2) := fun p hp => by
  unfold lineStep at hp
  cases e : firstOf (lessF lines r) with
  | none =>
    rw [e] at hp
    exact hS p hp
  | some sp =>
    rw [e] at hp
    rcases List.mem_append.mp hp with hp | hp
    · exact hS p hp
    · rw [List.mem_singleton.mp hp]
      have h1 : Sp w S (fun j => ent r j - ent (lessF lines r) j) := (lessF_sp h hr).trans fun q hq => by
        obtain ⟨p', hp', rfl⟩ := List.mem_map.mp hq
        exact hS p' hp'
      have h2 := Sp.plus (h1.scale (-1)) hrS
      refine (h2.scale (ent (lessF lines r) sp)⁻¹).congr fun j _ => ?_
      show ent (leadOf (lessF lines r) sp) j = _
      rw [lead_ent, Rat.div_def]
      grind
end
theorem linesOf_snoc (rows : List (List Rat)) (r : List Rat) : linesOf (rows ++ [r]) = lineStep (linesOf rows) r := by
  unfold linesOf
  rw [List.foldl_append]
  rfl
theorem linesOf_ok {w : Nat} : ∀ rows : List (List Rat), (∀ r ∈ rows, r.length = w) → Tri w (linesOf rows) ∧ (∀ r ∈ rows, Sp w ((linesOf rows).map (·.2)) (ent r)) ∧ ∀ p ∈ linesOf rows, Sp w rows (ent p.2) := by
  intro rows
  refine snoc_ind (P := fun rows => (∀ r ∈ rows, r.length = w) → Tri w (linesOf rows) ∧ (∀ r ∈ rows, Sp w ((linesOf rows).map (·.2)) (ent r)) ∧ ∀ p ∈ linesOf rows, Sp w rows (ent p.2)) (fun _ => ⟨⟨fun p hp => (by cases hp), fun p hp => (by cases hp), fun p hp => (by cases hp), fun a b pa pb _ ha => (by cases ha)⟩, fun r hr => (by cases hr), fun p hp => (by cases hp)⟩) (fun l r ih h => ?_) rows
  obtain ⟨h1, h2, h3⟩ := ih fun r' hr' => h r' (List.mem_append_left _ hr')
  have hr := h r (List.mem_append_right _ (List.mem_singleton.mpr rfl))
  rw [linesOf_snoc]
  refine ⟨h1.step hr, fun r' hr' => ?_, step_line h1 hr (fun p hp => (h3 p hp).mono fun q hq => List.mem_append_left _ hq) (.of (List.mem_append_right _ (List.mem_singleton.mpr rfl)))⟩
  rcases List.mem_append.mp hr' with hr' | hr'
  · refine (h2 r' hr').mono fun q hq => ?_
    obtain ⟨p, hp, rfl⟩ := List.mem_map.mp hq
    exact List.mem_map.mpr ⟨p, lineStep_old _ r p hp, rfl⟩
  · rw [List.mem_singleton.mp hr']
    exact step_row h1 hr
/-- the law's own look is right -/
theorem isSum_iff {w : Nat} {rows : List (List Rat)} (h : ∀ r ∈ rows, r.length = w) {v : List Rat} (hv : v.length = w) : (∀ j, ent (lessF (linesOf rows) v) j = 0) ↔ Cb w rows (ent v) := by
  obtain ⟨h1, h2, h3⟩ := linesOf_ok rows h
  constructor
  · intro hz
    refine Sp.cb ?_
    have := (lessF_sp h1 hv).trans (S' := rows) fun q hq => by
      obtain ⟨p, hp, rfl⟩ := List.mem_map.mp hq
      exact h3 p hp
    exact this.congr fun j _ => by
      rw [hz j]
      grind
  · intro hc j
    have hl := lessF_len h1 hv
    by_cases hj : j < w
    · have s1 : Sp w ((linesOf rows).map (·.2)) (ent v) := hc.sp.trans h2
      have s2 := Sp.plus ((lessF_sp h1 hv).scale (-1)) s1
      have s3 : Sp w ((linesOf rows).map (·.2)) (ent (lessF (linesOf rows) v)) := s2.congr fun j _ => by grind
      exact h1.zero s3 (fun p hp => lessF_spots h1 hv p hp) j hj
    · exact ent_out (by omega)
end Pd

/-! text Ri -/
set_option Elab.async false
set_option linter.all false
set_option maxRecDepth 100000
set_option maxHeartbeats 4000000
/-! Defs that hand out a new list; small rules for the law's half. -/
namespace Pd
open PySem PySem.Spec PyProof.Rows L2 C8

/-- a block that ends with the return of a new list -/
def SSF (g : G) (QF : List PyData → Prop) : List Stmt → List SD → Prop
  | [.Return (some e) _], δ => EF g e δ QF
  | st :: rest, δ => S g st δ (fun δ' => SSF g QF rest δ') (fun _ => False)
  | [], _ => False
theorem ssf_cons {g : G} {QF : List PyData → Prop} {st st2 : Stmt} {rest : List Stmt} {δ : List SD} (h : S g st δ (fun δ' => SSF g QF (st2 :: rest) δ') (fun _ => False)) : SSF g QF (st :: st2 :: rest) δ := by
  unfold SSF
  split
  · rename_i h1
    cases h1
  · rename_i h1
    cases h1
    exact h
  · rename_i h1
    cases h1
theorem ssf_ret {g : G} {QF : List PyData → Prop} {e : Expr} {p : Pos} {δ : List SD} (h : EF g e δ QF) : SSF g QF [.Return (some e) p] δ := by
  unfold SSF
  exact h
theorem ssf_run {g : G} {QF : List PyData → Prop} : ∀ (sts : List Stmt) (δ : List SD), SSF g QF sts δ → ∀ X, XOk g X → ∀ (Γ : Dy) (σ : L2.St) (H : Hp) (D : Ends), Real g.T.K Γ H σ δ → (∀ a, ¬ Γ.CH a) →
    (∀ ds p xs H', QF ds → (∀ a o, Γ.H0 a = some o → H' a = some o) → Γ.H0 p = none → H' p = some (.lst xs) → DpAll g.T.K (hid (fun a => Γ.W0 a ∨ a = p) H') xs ds → D.rt (.ref p) H') → tWSs X sts D σ H
  | [], δ, h => by
    unfold SSF at h
    exact h.elim
  | [st], δ, h => by
    unfold SSF at h
    intro X xo Γ σ H D r hC k
    split at h
    · rename_i e p h1
      cases h1
      refine toWSs (pss_one (ps_ret (pW X e))) (h X xo Γ σ H D.rt r fun ds p xs H' hq ex h1 h2 h3 => ?_)
      have r' := r.ext ex
      refine k ds p xs H' hq (fun a o q => r'.fr a o q (hC a)) ?_ h2 (dpAll_mono (hid_grow fun a o q n => ⟨fun w => n (w.imp .inl id), q⟩) h3)
      cases z : Γ.H0 p with
      | none => rfl
      | some o =>
        rw [r.fr p o z (hC p)] at h1
        cases h1
    · rename_i h1
      cases h1
      refine toWSs (pss_one (pWS X st)) (h X xo Γ σ H D r (fun δ' σ' H' hd _ => ?_) fun d v H' hd => hd.elim)
      unfold SSF at hd
      exact hd.elim
    · rename_i h1
      cases h1
  | st :: st2 :: rest, δ, h => by
    unfold SSF at h
    intro X xo Γ σ H D r hC k
    split at h
    · rename_i h1
      cases h1
    · rename_i h1
      cases h1
      refine toWSs (pss_cons (pWS X st) (pWSs X (st2 :: rest))) ?_
      exact h X xo Γ σ H { D with nx := fun σ' H' => tWSs X (st2 :: rest) D σ' H' } r (fun δ' σ' H' hd r' => ssf_run (st2 :: rest) δ' hd X xo Γ σ' H' D r' hC k) fun d v H' hd => hd.elim
    · rename_i h1
      cases h1
/-- data in, a new list out -/
def FreshSp (K : PySem.W.Frag) (F : List PyData → (List PyData → Prop) → Prop) : L2.Sp := fun vs H Q _ => ∃ (W : Addr → Prop) (ds : List PyData) (Pp : List PyData → Prop), F ds Pp ∧ (∀ a, W a → ∃ o, H a = some o) ∧ DpAll K (hid W H) vs ds ∧
  ∀ es p xs H', Pp es → Grow H H' → H p = none → H' p = some (.lst xs) → DpAll K (hid (fun a => W a ∨ a = p) H') xs es → Q (.ref p) H'
theorem Ok.fresh {T : Th} {N ps : List Str} {k : Nat} {x qual : Str} {params : Arguments} {body : List Stmt} {scope : Scope} {f : Addr} {fd : FuncData} {F : List PyData → (List PyData → Prop) → Prop} (D : FunD T.K x qual params body scope [] [] f fd) (hm : T.mg x = some (.ref f)) (Sc : FnScope N ps scope) (hb : Binds T.K fd ps []) (hl : ∀ ds Pp, F ds Pp → ds.length = ps.length)
    (h : ∀ ds Pp, F ds Pp → SSF (gOf T N scope k) Pp body (startD N (ds.map .sh))) : Ok T x ps (k + 1) (FreshSp T.K F) := by
  have hpl : ps.length ≤ N.length := by
    have e := congrArg List.length Sc.pre
    rw [List.length_take] at e
    omega
  refine ⟨f, fd, hm, D.kp, hb, D.ok Sc (fun vs H Q E ⟨W, ds, Pp, h1, _, h3, _⟩ => by rw [dpAll_len h3, hl ds Pp h1]) fun cdv A outer s H vs Q E hr ⟨W, ds, Pp, h1, h2, h3, h4⟩ => ?_⟩
  refine ⟨_, (pWSs _ body).nox, ?_⟩
  have hlv : vs.length ≤ N.length := by
    rw [dpAll_len h3, hl ds Pp h1]
    exact hpl
  exact ssf_run body _ (h ds Pp h1) _ (xok_def Sc hr) _ _ H _ (pure_real h2 h3 hlv) (fun a => id) fun es p xs H' hP gr q1 q2 q3 => h4 es p xs H' hP gr q1 q2 q3
theorem ef_callF {g : G} {e : Expr} {es : List Expr} {δ : List SD} {p pos : Pos} {x : Str} {ps : List Str} {k : Nat} {F : List PyData → (List PyData → Prop) → Prop} {QF : List PyData → Prop} (C : Ok g.T x ps k (FreshSp g.T.K F)) (hk : k ≤ g.k) (h : EA g (e :: es) δ fun ds => F ds QF) (hg : Glob g x := by rfl) (hdb : (x == ("__debug__" : Str)) = false := by decide)
    (he : ∀ env, starEach (e :: es) env = (false, eval e env) :: starEach es env := by intro _; rfl) (hpl : ∀ env, (backTo pos (starEach es env)).any (·.1) = false := by intro _; rfl) : EF g (.Call (.Name x p) (e :: es) [] pos) δ QF := fun X xo Γ σ H R rl kk => by
  obtain ⟨f, fd, hm, hkp, hb, hF⟩ := C
  refine toW (pe_call (xo.fnok hF) (xo.room.mono hk) (xo.gl hg) (by rw [xo.mg]; exact hm) (by rw [xo.K]; exact hkp) (by rw [xo.K]; exact hb) .nil L2.pass0 (pWA X (e :: es)) hdb (he _) (hpl _)) ?_
  refine h X xo Γ σ H _ rl fun ds vs H1 h1 e1 p1 => ?_
  refine ⟨Hd Γ σ δ, ds, QF, h1, fun a w => (rl.ext e1).dom w, by rw [List.append_nil]; exact p1, fun es' q xs H' hQ gr q1 q2 q3 => ?_⟩
  exact kk es' q xs H' hQ (e1.trans (.grow gr)) (rl.back e1 q1) q2 q3
theorem okF {T : Th} (M : Md T) {k i : Nat} {x : Str} {s : Stmt} {N ps : List Str} {F : List PyData → (List PyData → Prop) → Prop} (hd : _root_.Hd.fn[i]? = some (_root_.Hd.mkD x s)) (hf : _root_.Hd.fa[i]? = some (.glo x)) (hS : scC N ps (defScope s) = true)
    (hb : ∀ (kV doc pm : Value) (an : Option Addr) (cdv ct : Value) (us : List Value), us.length = ps.length → bindArgs (PySem.W.fnOf x x (defArgs s) (defBody s) (defScope s) .none kV doc pm an cdv ct) ⟨us, []⟩ = pure (ps.zip us)) (hl : ∀ ds Pp, F ds Pp → ds.length = ps.length)
    (h : ∀ ds Pp, F ds Pp → SSF (gOf T N (defScope s) k) Pp (defBody s) (startD N (ds.map .sh))) : Ok T x ps (k + 1) (FreshSp T.K F) := by
  obtain ⟨fd, D⟩ := M.says.def_ i hd
  exact Ok.fresh (D : FunD T.K x x (defArgs s) (defBody s) (defScope s) [] [] (He.ga T.K x) fd) (He.glo_ok M.kin M.ns (M.says.fact i hf)) (fnScope_by hS) (FunD.bindsN D hb) hl h
/-- small numbers -/
theorem Sz.small {t l : Int} {n : Nat} (h1 : t.natAbs < 2 ^ n) (h2 : l.natAbs < 2 ^ n) (h0 : l ≠ 0) : Sz n (Rat.divInt t l) := Sz.divInt h1 h2 h0
/-- Euclid's steps -/
theorem gcd_step (a b : Nat) : Nat.gcd b (a % b) = Nat.gcd a b := by
  rw [Nat.gcd_comm a b, Nat.gcd_rec b a, Nat.gcd_comm (a % b) b]
end Pd

/-! text Rj -/
set_option Elab.async false
set_option linter.all false
set_option maxRecDepth 100000
set_option maxHeartbeats 4000000
/-! What the walks of the law's drawing need. -/
namespace Pd
open PySem PySem.Spec PyProof.Rows L2 C8

def half : Rat := ⟨1, 2, by decide, by decide⟩
theorem half_sz : Sz 2 half := ⟨(by decide : 1 < 2 ^ 2), (by decide : 2 < 2 ^ 2)⟩
theorem ss_join {g : G} {st : Stmt} {sts : List Stmt} {δ : List SD} {nx : List SD → Prop} {rt : PyData → Prop} (P : List SD → Prop) (h : S g st δ P rt) (k : ∀ δ', P δ' → SS g sts δ' nx rt) : SS g (st :: sts) δ nx rt := ss_cons (h.imp k fun _ q => q)
/-- items that are fractions make a list of fractions -/
theorem list_frac {P : Rat → Prop} : ∀ {ys : List PyData}, (∀ y ∈ ys, ∃ q : Rat, P q ∧ y = frac q) → ∃ r : List Rat, r.length = ys.length ∧ (∀ q ∈ r, P q) ∧ ys = r.map frac
  | [], _ => ⟨[], rfl, fun q hq => (by cases hq), rfl⟩
  | y :: ys, h => by
    obtain ⟨q, hq, rfl⟩ := h y List.mem_cons_self
    obtain ⟨r, h1, h2, rfl⟩ := list_frac (ys := ys) fun z hz => h z (List.mem_cons_of_mem _ hz)
    exact ⟨q :: r, by rw [List.length_cons, h1] <;> rfl, fun x hx => (List.mem_cons.mp hx).elim (fun e => e ▸ hq) (h2 x), rfl⟩
theorem list_int {P : Int → Prop} : ∀ {ys : List PyData}, (∀ y ∈ ys, ∃ q : Int, P q ∧ y = .int q) → ∃ r : List Int, r.length = ys.length ∧ (∀ q ∈ r, P q) ∧ ys = r.map .int
  | [], _ => ⟨[], rfl, fun q hq => (by cases hq), rfl⟩
  | y :: ys, h => by
    obtain ⟨q, hq, rfl⟩ := h y List.mem_cons_self
    obtain ⟨r, h1, h2, rfl⟩ := list_int (ys := ys) fun z hz => h z (List.mem_cons_of_mem _ hz)
    exact ⟨q :: r, by rw [List.length_cons, h1] <;> rfl, fun x hx => (List.mem_cons.mp hx).elim (fun e => e ▸ hq) (h2 x), rfl⟩
theorem ixN_int {n : Nat} {v : Int} (h0 : 0 ≤ v) (h : v < n) : ixN n v = some v.toNat := by
  unfold ixN
  rw [if_pos h0, if_pos h]
theorem noLs_FT : ∀ R : List (List Rat), noLs (R.map FT) = true
  | [] => rfl
  | r :: R => by
    show (noLs (r.map frac) && noLs (R.map FT)) = true
    rw [noLs_fracs, noLs_FT R]
    rfl
theorem av_FT {L : List PyData} (r : List Rat) : Av L (FT r) := avAll_noL (noLs_fracs r)
theorem av_TT {L : List PyData} (R : List (List Rat)) : Av L (.tuple (R.map FT)) := avAll_noL (noLs_FT R)
/-- how the sizes of the drawn rows grow -/
def rz : Nat → Nat
  | 0 => 20
  | i + 1 => 2 * rz i + 2
theorem rz_le : ∀ i, 20 ≤ rz i
  | 0 => Nat.le_refl _
  | i + 1 => by
    have := rz_le i
    show 20 ≤ 2 * rz i + 2
    omega
theorem num_pos {t l : Int} (ht : 0 < t) (hl : 0 < l) : 0 < (Rat.divInt t l).num := by
  rw [Rat.num_divInt, Int.sign_eq_one_of_pos hl, Int.one_mul]
  refine Int.ediv_pos_of_pos_of_dvd ht (Int.natCast_nonneg _) ?_
  exact Int.gcd_dvd_right _ _
theorem eqv_num0 (q : Rat) : (!PyData.eqv (.int q.num) (.int 0)) = decide (q ≠ 0) := by
  rw [eqv_int]
  by_cases h : q = 0
  · subst h
    rfl
  · have : q.num ≠ 0 := num0 h
    simp [h, this]
theorem eqv_num0' (q : Rat) : PyData.eqv (.int q.num) (.int 0) = decide (q = 0) := by
  rw [eqv_int]
  by_cases h : q = 0
  · subst h
    rfl
  · have : q.num ≠ 0 := num0 h
    simp [h, this]
theorem cutD_1 (ds : List PyData) (h : 1 ≤ ds.length) : cutD ds (some 1) none = ds.drop 1 := cutD_from ds 1 h
theorem cutD_init (ds : List PyData) (h : 1 ≤ ds.length) : cutD ds none (some (-1)) = ds.dropLast := by
  have e1 : HT.sIx ds.length 0 none = 0 := rfl
  have e2 : HT.sIx ds.length ds.length (some (-1)) = ds.length - 1 := by
    unfold HT.sIx
    simp only
    split <;> omega
  unfold cutD
  rw [e1, e2, List.drop_zero, Nat.sub_zero, List.dropLast_eq_take]
theorem at_last {xs : List PyData} {x : PyData} : atI (xs ++ [x]) (-1) = some x := by
  unfold atI ixN
  rw [if_neg (by decide), if_pos (by rw [List.length_append]; simp only [List.length_cons, List.length_nil]; omega)]
  have e : ((-1 : Int) + (((xs ++ [x]).length : Nat) : Int)).toNat = xs.length := by
    rw [List.length_append]
    simp only [List.length_cons, List.length_nil]
    omega
  rw [e]
  show (xs ++ [x])[xs.length]? = some x
  rw [List.getElem?_append_right (Nat.le_refl _), Nat.sub_self]
  rfl
theorem par3_none {g : G} {a b c : Expr} {x y z : Str} {px py pz pt pt2 : Pos} {kt k2} (h : (g.sc.names.lookup x == some .local) = false) : ∀ env : Env, env.scope = g.sc → swappedStores [.Tuple [.Name x px, .Name y py, .Name z pz] kt pt] (.Tuple [a, b, c] k2 pt2) env = pure none := fun env he => by
  have hx : (env.kindOf x == some .local) = false := by
    unfold Env.kindOf
    rw [he]
    exact h
  unfold swappedStores
  simp only [List.length_cons, List.length_nil]
  split
  · rfl
  · split
    · rfl
    · refine if_pos (Bool.or_eq_true_iff.mpr (.inl ?_))
      simp only [List.filterMap_cons, List.filterMap_nil, hx, Bool.false_and, Bool.false_eq_true, if_false]
      split <;> split <;> rfl
end Pd

/-! text Rk -/
set_option Elab.async false
set_option linter.all false
set_option maxRecDepth 100000
set_option maxHeartbeats 4000000
/-! Weights balanced within the blocks. -/
namespace Pd
open PySem PySem.Spec PyProof.Rows L2 C8

theorem sum_filter {f : Nat → Rat} {p : Nat → Bool} : ∀ n, Sm n (fun k => if p k = true then f k else 0) = sumL (((List.range n).filter p).map f)
  | 0 => rfl
  | n + 1 => by
    show Sm n (fun k => if p k = true then f k else 0) + (if p n = true then f n else 0) = _
    rw [sum_filter n, List.range_succ, List.filter_append, List.map_append]
    by_cases h : p n = true
    · rw [List.filter_cons_of_pos h, if_pos h]
      show _ = sumL (_ ++ [f n])
      rw [sumL_snoc]
    · rw [List.filter_cons_of_neg h, if_neg h, Rat.add_zero]
      show _ = sumL (_ ++ [])
      rw [List.append_nil]
section
variable (bs : List Int)
def bAt (k : Nat) : Int := bs.getD k 0
def same (n i : Nat) : List Nat := (List.range n).filter fun k => decide (bAt bs k = bAt bs i)
def IsLast (n j : Nat) : Prop := ∀ k, j < k → k < n → bAt bs k ≠ bAt bs j
def bsum (n : Nat) (y : List Rat) (b : Int) : Rat := Sm n fun k => if bAt bs k = b then ent y k else 0
end
section
variable {bs : List Int} {n i : Nat}
theorem same_mem {k : Nat} : k ∈ same bs n i ↔ k < n ∧ bAt bs k = bAt bs i := by
  unfold same
  rw [List.mem_filter, List.mem_range, decide_eq_true_iff]
theorem same_sorted : (same bs n i).Pairwise (· < ·) := by
  unfold same
  exact List.pairwise_lt_range.filter _
theorem same_split (hi : i < n) : ∃ l z, same bs n i = l ++ [z] := by
  have hm : i ∈ same bs n i := same_mem.mpr ⟨hi, rfl⟩
  have hne : same bs n i ≠ [] := fun e => by
    rw [e] at hm
    cases hm
  exact ⟨_, _, (List.dropLast_concat_getLast hne).symm⟩
theorem same_last {l : List Nat} {z : Nat} (h : same bs n i = l ++ [z]) : IsLast bs n z ∧ z < n ∧ bAt bs z = bAt bs i ∧ ∀ k ∈ l, k < z ∧ bAt bs k = bAt bs i := by
  have hz : z ∈ same bs n i := by
    rw [h]
    exact List.mem_append_right _ (List.mem_singleton.mpr rfl)
  obtain ⟨z1, z2⟩ := same_mem.mp hz
  have hs := same_sorted (bs := bs) (n := n) (i := i)
  rw [h] at hs
  have hp := (List.pairwise_append.mp hs).2.2
  refine ⟨fun k hk hkn e => ?_, z1, z2, fun k hk => ⟨hp k hk z (List.mem_singleton.mpr rfl), ?_⟩⟩
  · have hm : k ∈ same bs n i := same_mem.mpr ⟨hkn, e.trans z2⟩
    rw [h] at hm
    rcases List.mem_append.mp hm with hm | hm
    · have := hp k hm z (List.mem_singleton.mpr rfl)
      omega
    · have := List.mem_singleton.mp hm
      omega
  · have hm : k ∈ same bs n i := by
      rw [h]
      exact List.mem_append_left _ hk
    exact (same_mem.mp hm).2
theorem same_len : (same bs n i).length ≤ n := by
  unfold same
  have := List.length_filter_le (fun k => decide (bAt bs k = bAt bs i)) (List.range n)
  rwa [List.length_range] at this
theorem bsum_same (y : List Rat) : bsum bs n y (bAt bs i) = sumL ((same bs n i).map (ent y)) := by
  unfold bsum same
  rw [← sum_filter]
  refine Sm_congr fun k _ => ?_
  by_cases h : bAt bs k = bAt bs i
  · rw [if_pos h, decide_eq_true h, if_pos rfl]
  · rw [if_neg h, decide_eq_false h, if_neg Bool.false_ne_true]
/-- what holds of the weights when the places below i have been looked at -/
structure Bal (bs : List Int) (n i : Nat) (y : List Rat) : Prop where
  len : y.length = n
  sz : AllS 40 y
  two : ∀ j, j < n → ¬ (j < i ∧ IsLast bs n j) → Sz 2 (ent y j)
  sum : ∀ j, j < i → IsLast bs n j → bsum bs n y (bAt bs j) = 0
theorem Bal.start {y : List Rat} (h : y.length = n) (hs : AllS 2 y) : Bal bs n 0 y := ⟨h, hs.mono (by omega), fun j hj _ => ent_sz hs (by omega) j, fun j hj => absurd hj (Nat.not_lt_zero j)⟩
theorem Bal.skip {y : List Rat} (h : Bal bs n i y) (hn : ¬ IsLast bs n i) : Bal bs n (i + 1) y := by
  refine ⟨h.len, h.sz, fun j hj hl => h.two j hj fun z => hl ⟨by omega, z.2⟩, fun j hj hl => ?_⟩
  rcases Nat.lt_or_ge j i with h1 | h1
  · exact h.sum j h1 hl
  · have e : j = i := by omega
    subst e
    exact absurd hl hn
theorem Bal.sumSz {y : List Rat} (h : Bal bs n i y) (hn : n ≤ 10) {l : List Nat} (hs : same bs n i = l ++ [i]) : AllS 2 (l.map (ent y)) := fun x hx => by
  obtain ⟨k, hk, rfl⟩ := List.mem_map.mp hx
  obtain ⟨_, hin, _, hl⟩ := same_last hs
  obtain ⟨k1, k2⟩ := hl k hk
  exact h.two k (by omega) fun z => z.2 i k1 hin k2.symm
theorem Bal.put {y : List Rat} (h : Bal bs n i y) (hn : n ≤ 10) {l : List Nat} (hs : same bs n i = l ++ [i]) : Bal bs n (i + 1) (y.set i (0 - sumL (l.map (ent y)))) := by
  obtain ⟨hlast, hin, _, hl⟩ := same_last hs
  have hiy : i < y.length := by
    rw [h.len]
    exact hin
  have hll : l.length ≤ n := by
    have := same_len (bs := bs) (n := n) (i := i)
    rw [hs, List.length_append] at this
    omega
  have hsz : Sz 40 (0 - sumL (l.map (ent y))) := by
    have h1 := Sz.sumL (h.sumSz hn hs)
    rw [List.length_map] at h1
    refine ((Sz.zero (a := 1) (by omega)).sub h1).mono ?_
    omega
  refine ⟨by rw [List.length_set]; exact h.len, h.sz.set hsz, fun j hj hj2 => ?_, fun j hj hjl => ?_⟩
  · have hne : j ≠ i := fun e => hj2 ⟨by omega, by rw [e]; exact hlast⟩
    rw [ent_set hiy, if_neg hne]
    exact h.two j hj fun z => hj2 ⟨by omega, z.2⟩
  · rcases Nat.lt_or_ge j i with h1 | h1
    · rw [← h.sum j h1 hjl]
      unfold bsum
      refine Sm_congr fun k _ => ?_
      by_cases e : bAt bs k = bAt bs j
      · rw [if_pos e, if_pos e, ent_set hiy, if_neg fun z => hjl i h1 hin (by rw [← z]; exact e)]
      · rw [if_neg e, if_neg e]
    · have e : j = i := by omega
      subst e
      rw [bsum_same, hs, List.map_append]
      show sumL (_ ++ [ent _ j]) = 0
      rw [sumL_snoc, ent_set hiy, if_pos rfl]
      have e2 : l.map (ent (y.set j (0 - sumL (l.map (ent y))))) = l.map (ent y) := List.map_congr_left fun k hk => by
        have := (hl k hk).1
        rw [ent_set hiy, if_neg (by omega)]
      rw [e2]
      grind
theorem Bal.done {y : List Rat} (h : Bal bs n n y) : ∀ j, j < n → bsum bs n y (bAt bs j) = 0 := fun j hj => by
  obtain ⟨l, z, hs⟩ := same_split (bs := bs) hj
  obtain ⟨h1, h2, h3, _⟩ := same_last hs
  rw [← h3]
  exact h.sum z h2 h1
end
end Pd

/-! text Rl -/
set_option Elab.async false
set_option linter.all false
set_option maxRecDepth 100000
set_option maxHeartbeats 4000000
/-! What the walks of the law's looks need. -/
namespace Pd
open PySem PySem.Spec PyProof.Rows L2 C8

/-! ### lines -/
def LN (p : Nat × List Rat) : PyData := .tuple [natI p.1, FL p.2]
def LinesS (s : Nat) (lines : List (Nat × List Rat)) : Prop := ∀ (k : Nat) (p : Nat × List Rat), lines[k]? = some p → AllS (2 * gz s k) p.2
theorem take_snoc {α : Type} {l : List α} {i : Nat} {x : α} (h : l[i]? = some x) : l.take (i + 1) = l.take i ++ [x] := by
  rw [List.take_add_one, h]
  rfl
theorem take_mem {α : Type} {l : List α} {i : Nat} {x : α} (h : x ∈ l.take i) : x ∈ l := List.mem_of_mem_take h
theorem lessF_w {w : Nat} : ∀ {lines : List (Nat × List Rat)}, (∀ p ∈ lines, p.2.length = w) → ∀ {r : List Rat}, r.length = w → (lessF lines r).length = w := by
  intro lines
  refine snoc_ind (P := fun lines => (∀ p ∈ lines, p.2.length = w) → ∀ {r : List Rat}, r.length = w → (lessF lines r).length = w) (fun _ r hr => hr) (fun l p ih h r hr => ?_) lines
  have hl := ih (fun q hq => h q (List.mem_append_left _ hq)) hr
  rw [lessF_snoc, withoutCol_len (by rw [hl, h p (List.mem_append_right _ (List.mem_singleton.mpr rfl))]), hl]
theorem LinesS.pre {s : Nat} {l : List (Nat × List Rat)} {p : Nat × List Rat} (h : LinesS s (l ++ [p])) : LinesS s l := fun k q hk => h k q (by rw [List.getElem?_append_left (get_lt hk)]; exact hk)
theorem lessF_sz {s : Nat} (h1 : 1 ≤ s) : ∀ {lines : List (Nat × List Rat)}, LinesS s lines → ∀ {r : List Rat}, AllS s r → AllS (gz s lines.length) (lessF lines r) := by
  intro lines
  refine snoc_ind (P := fun lines => LinesS s lines → ∀ {r : List Rat}, AllS s r → AllS (gz s lines.length) (lessF lines r)) (fun _ r hr => hr) (fun l p ih h r hr => ?_) lines
  have i1 := ih h.pre hr
  have hp := h l.length p (by rw [List.getElem?_append_right (Nat.le_refl _), Nat.sub_self]; rfl)
  rw [lessF_snoc, List.length_append]
  exact withoutCol_sz i1 hp (Nat.le_trans h1 (gz_le _))
theorem lineStep_sz {s : Nat} (h1 : 1 ≤ s) {lines : List (Nat × List Rat)} (h : LinesS s lines) {r : List Rat} (hr : AllS s r) : LinesS s (lineStep lines r) := by
  unfold lineStep
  cases e : firstOf (lessF lines r) with
  | none => exact h
  | some sp =>
    intro k p hk
    rcases Nat.lt_or_ge k lines.length with hl | hl
    · rw [List.getElem?_append_left hl] at hk
      exact h k p hk
    · rw [List.getElem?_append_right hl] at hk
      have hk0 := get_lt hk
      simp only [List.length_cons, List.length_nil] at hk0
      have ek : k = lines.length := by omega
      subst ek
      rw [Nat.sub_self] at hk
      cases hk
      exact leadOf_sz (lessF_sz h1 h hr) (Nat.le_trans h1 (gz_le _)) (firstOf_some e).2
theorem linesOf_sz {s : Nat} (h1 : 1 ≤ s) : ∀ rows : List (List Rat), TabS s rows → LinesS s (linesOf rows) := by
  intro rows
  refine snoc_ind (P := fun rows => TabS s rows → LinesS s (linesOf rows)) (fun _ k p hk => by cases hk) (fun l r ih h => ?_) rows
  rw [linesOf_snoc]
  exact lineStep_sz h1 (ih fun r' hr' => h r' (List.mem_append_left _ hr')) (h r (List.mem_append_right _ (List.mem_singleton.mpr rfl)))
theorem lineStep_len (lines : List (Nat × List Rat)) (r : List Rat) : (lineStep lines r).length ≤ lines.length + 1 := by
  unfold lineStep
  split
  · exact Nat.le_succ _
  · rw [List.length_append]
    exact Nat.le_refl _
theorem linesOf_len : ∀ rows : List (List Rat), (linesOf rows).length ≤ rows.length := by
  intro rows
  refine snoc_ind (P := fun rows => (linesOf rows).length ≤ rows.length) (Nat.le_refl _) (fun l r ih => ?_) rows
  rw [linesOf_snoc, List.length_append]
  have := lineStep_len (linesOf l) r
  simp only [List.length_cons, List.length_nil]
  omega
/-- distinct places below w are at most w -/
theorem nodup_le : ∀ (w : Nat) (l : List Nat), l.Nodup → (∀ x ∈ l, x < w) → l.length ≤ w
  | 0, l, _, h => by
    cases l with
    | nil => exact Nat.le_refl _
    | cons a r => exact absurd (h a List.mem_cons_self) (Nat.not_lt_zero a)
  | w + 1, l, hn, h => by
    have h1 := nodup_le w (l.filter fun x => decide (x ≠ w)) (hn.filter _) fun x hx => by
      obtain ⟨a, b⟩ := List.mem_filter.mp hx
      have := h x a
      have := of_decide_eq_true b
      omega
    have h2 : l.length ≤ (l.filter fun x => decide (x ≠ w)).length + 1 := by
      clear h1 h
      induction l with
      | nil => exact Nat.zero_le _
      | cons a r ih =>
        obtain ⟨n1, n2⟩ := List.nodup_cons.mp hn
        by_cases e : a = w
        · subst e
          have ef : r.filter (fun x => decide (x ≠ a)) = r := List.filter_eq_self.mpr fun x hx => decide_eq_true (fun z : x = a => n1 (by rw [← z]; exact hx))
          rw [List.filter_cons_of_neg (by simp), ef]
          exact Nat.le_refl _
        · rw [List.filter_cons_of_pos (by simpa using e), List.length_cons, List.length_cons]
          have := ih n2
          omega
    omega
theorem Tri.len {w : Nat} {lines : List (Nat × List Rat)} (h : Tri w lines) : lines.length ≤ w := by
  have := nodup_le w (lines.map (·.1)) (List.pairwise_iff_getElem.mpr fun i j hi hj hij e => ?_) fun x hx => ?_
  · rwa [List.length_map] at this
  · rw [List.length_map] at hi hj
    have ei : lines[i]? = some lines[i] := List.getElem?_eq_getElem hi
    have ej : lines[j]? = some lines[j] := List.getElem?_eq_getElem hj
    have hz := h.tri i j _ _ hij ei ej
    have ho := h.one _ (List.mem_of_getElem? ej)
    rw [List.getElem_map, List.getElem_map] at e
    rw [e, ho] at hz
    exact absurd hz (by decide)
  · obtain ⟨p, hp, rfl⟩ := List.mem_map.mp hx
    exact h.sp p hp
theorem av_LN {lines : List (Nat × List Rat)} {r : List Rat} (h : 1 ≤ r.length) : Av (lines.map LN) (FL r) := by
  refine ⟨fun e => ?_, avAll_noL (noLs_fracs r)⟩
  cases r with
  | nil => cases h
  | cons x t =>
    cases lines with
    | nil => cases e
    | cons p l =>
      have e1 : frac x = LN p := by
        rw [List.map_cons, List.map_cons] at e
        exact (List.cons.inj e).1
      unfold frac LN FL at e1
      injection e1 with e2
      injection e2 with _ e3
      injection e3 with e4 _
      cases e4
theorem firstOf_cons {r : List Rat} {sp : Nat} {rest : List Nat} (h : ((List.range r.length).filter fun j => decide (ent r j ≠ 0)) = sp :: rest) : firstOf r = some sp := by
  unfold firstOf
  rw [h]
  rfl
theorem firstOf_nil {r : List Rat} (h : ((List.range r.length).filter fun j => decide (ent r j ≠ 0)) = []) : firstOf r = none := by
  unfold firstOf
  rw [h]
  rfl
noncomputable def sumB (w : Nat) (rows : List (List Rat)) (v : List Rat) : Bool := @decide (Cb w rows (ent v)) (Classical.propDecidable _)
theorem all0_sumB {w : Nat} {rows : List (List Rat)} (h : ∀ r ∈ rows, r.length = w) {v : List Rat} (hv : v.length = w) : ((lessF (linesOf rows) v).map fun x => decide (x = 0)).all id = sumB w rows v := by
  rw [Bool.eq_iff_iff]
  unfold sumB
  rw [@decide_eq_true_iff _ (Classical.propDecidable _), ← isSum_iff h hv, List.all_eq_true]
  constructor
  · intro hz j
    refine Classical.byContradiction fun hn => ?_
    have hj : j < (lessF (linesOf rows) v).length := Classical.byContradiction fun hl => hn (ent_out (by omega))
    have hm : ent (lessF (linesOf rows) v) j ∈ lessF (linesOf rows) v := getD_mem hj
    exact hn (of_decide_eq_true (hz _ (List.mem_map.mpr ⟨_, hm, rfl⟩)))
  · intro hz b hb
    obtain ⟨x, hx, rfl⟩ := List.mem_map.mp hb
    obtain ⟨j, ej⟩ := List.mem_iff_getElem?.mp hx
    have := hz j
    rw [ent_get ej] at this
    exact decide_eq_true this
/-- the two looks say one thing -/
theorem cb_non {t : Tr} {q : List Rat} {L : List Nat} : Cb (wideQ t q).length ((leftOf t.rows.length L).map (rowAt (wide t))) (ent (wideQ t q)) ↔ Non t q L := by
  have row : ∀ k, k < (leftOf t.rows.length L).length → rowAt ((leftOf t.rows.length L).map (rowAt (wide t))) k = rowAt (wide t) ((leftOf t.rows.length L).getD k 0) := fun k hk => by
    apply rowAt_of
    rw [List.getElem?_map, getD_get (d := 0) hk]
    rfl
  constructor
  · rintro ⟨c, hc⟩
    rw [List.length_map] at hc
    have hs : Sol (leftOf t.rows.length L).length c (aug (tabL t q L) (wideQ t q)) := sol_tab.mpr fun j hj => by
      rw [← hc j hj]
      exact Sm_congr fun k hk => by rw [row k hk]
    refine ⟨fun i => if i ∈ L then 0 else c ((leftOf t.rows.length L).idxOf i), fun i hi => if_pos hi, fair_of hs (fun k hk => ?_) fun i hi => if_pos hi⟩
    have hkp := getD_get (d := 0) hk
    obtain ⟨_, h2, _⟩ := left_get hkp
    rw [if_neg h2]
    congr 1
    have e := (List.getElem?_eq_some_iff.mp hkp).2
    rw [← e]
    exact left_nodup.idxOf_getElem k hk
  · rintro ⟨y, h0, hy⟩
    have hs := sol_tab.mp (sol_of hy h0)
    refine ⟨fun k => y ((leftOf t.rows.length L).getD k 0), fun j hj => ?_⟩
    rw [List.length_map, ← hs j hj]
    exact Sm_congr fun k hk => by rw [row k hk]
theorem sumB_spB {t : Tr} {q : List Rat} {L : List Nat} : (!sumB (wideQ t q).length ((leftOf t.rows.length L).map (rowAt (wide t))) (wideQ t q)) = spB t q L := by
  rw [Bool.eq_iff_iff, spB_true, Bool.not_eq_true', Bool.eq_false_iff]
  unfold sumB
  rw [ne_eq, @decide_eq_true_iff _ (Classical.propDecidable _), cb_non]
/-! ### lots by bits -/
def bitsOf (n b : Nat) : List Nat := (List.range n).filter fun a => b.testBit a
theorem bits_mem {n b a : Nat} : a ∈ bitsOf n b ↔ a < n ∧ b.testBit a = true := by
  unfold bitsOf
  rw [List.mem_filter, List.mem_range]
theorem bits_lot (n b : Nat) : Lot n (bitsOf n b) := ⟨by unfold bitsOf; exact List.pairwise_lt_range.filter _, fun p hp => (bits_mem.mp hp).1⟩
theorem lot_ext {n : Nat} {L L' : List Nat} (h : Lot n L) (h' : Lot n L') (e : ∀ a, a ∈ L ↔ a ∈ L') : L = L' := by
  induction L generalizing L' with
  | nil =>
    cases L' with
    | nil => rfl
    | cons b r' => exact absurd ((e b).mpr List.mem_cons_self) (by simp)
  | cons a r ih =>
    cases L' with
    | nil => exact absurd ((e a).mp List.mem_cons_self) (by simp)
    | cons b r' =>
      obtain ⟨p1, p2⟩ := List.pairwise_cons.mp h.1
      obtain ⟨p1', p2'⟩ := List.pairwise_cons.mp h'.1
      have eab : a = b := by
        rcases List.mem_cons.mp ((e a).mp List.mem_cons_self) with z | z
        · exact z
        · rcases List.mem_cons.mp ((e b).mpr List.mem_cons_self) with y | y
          · exact y.symm
          · have := p1 b y
            have := p1' a z
            omega
      subst eab
      congr 1
      refine ih ⟨p2, fun p hp => h.2 p (List.mem_cons_of_mem _ hp)⟩ ⟨p2', fun p hp => h'.2 p (List.mem_cons_of_mem _ hp)⟩ fun x => ?_
      constructor
      · intro hx
        rcases List.mem_cons.mp ((e x).mp (List.mem_cons_of_mem _ hx)) with z | z
        · have := p1 x hx
          omega
        · exact z
      · intro hx
        rcases List.mem_cons.mp ((e x).mpr (List.mem_cons_of_mem _ hx)) with z | z
        · have := p1' x hx
          omega
        · exact z
theorem bits_ex : ∀ (n : Nat) (P : Nat → Bool), ∃ b, b < 2 ^ n ∧ ∀ a, a < n → b.testBit a = P a
  | 0, P => ⟨0, Nat.one_pos, fun a h => absurd h (Nat.not_lt_zero a)⟩
  | n + 1, P => by
    obtain ⟨b, h1, h2⟩ := bits_ex n P
    cases hP : P n with
    | false =>
      refine ⟨b, Nat.lt_of_lt_of_le h1 (p2mono (Nat.le_succ n)), fun a ha => ?_⟩
      rcases Nat.lt_or_ge a n with h | h
      · exact h2 a h
      · have e : a = n := by omega
        subst e
        rw [hP]
        exact Nat.testBit_lt_two_pow h1
    | true =>
      refine ⟨2 ^ n + b, by rw [Nat.pow_succ]; omega, fun a ha => ?_⟩
      rcases Nat.lt_or_ge a n with h | h
      · rw [Nat.testBit_two_pow_add_gt h]
        exact h2 a h
      · have e : a = n := by omega
        subst e
        rw [hP, Nat.testBit_two_pow_add_eq, Nat.testBit_lt_two_pow h1]
        rfl
theorem lot_bits {n : Nat} {L : List Nat} (h : Lot n L) : ∃ b, b < 2 ^ n ∧ bitsOf n b = L := by
  obtain ⟨b, h1, h2⟩ := bits_ex n fun a => decide (a ∈ L)
  refine ⟨b, h1, lot_ext (bits_lot n b) h fun a => ?_⟩
  rw [bits_mem]
  constructor
  · rintro ⟨ha, hb⟩
    rw [h2 a ha] at hb
    exact of_decide_eq_true hb
  · intro ha
    exact ⟨h.2 a ha, by rw [h2 a (h.2 a ha)]; exact decide_eq_true ha⟩
theorem bits_zero (n : Nat) : bitsOf n 0 = [] := by
  unfold bitsOf
  rw [List.filter_eq_nil_iff]
  intro a _
  simp
theorem bits_ne {n b : Nat} (h : b < 2 ^ n) (h0 : b ≠ 0) : bitsOf n b ≠ [] := fun e => by
  refine h0 (Nat.eq_of_testBit_eq fun a => ?_)
  rw [Nat.zero_testBit]
  rcases Nat.lt_or_ge a n with ha | ha
  · rw [Bool.eq_false_iff]
    intro z
    have : a ∈ bitsOf n b := bits_mem.mpr ⟨ha, z⟩
    rw [e] at this
    cases this
  · exact Nat.testBit_lt_two_pow (Nat.lt_of_lt_of_le h (p2mono ha))
/-- all lots but the empty one -/
def allLots (n : Nat) : List (List Nat) := (List.range (2 ^ n - 1)).map fun k => bitsOf n (k + 1)
theorem allLots_mem {n : Nat} {L : List Nat} : L ∈ allLots n ↔ Lot n L ∧ L ≠ [] := by
  unfold allLots
  have hp : 1 ≤ 2 ^ n := Nat.one_le_two_pow
  rw [List.mem_map]
  constructor
  · rintro ⟨k, hk, rfl⟩
    have := List.mem_range.mp hk
    exact ⟨bits_lot n _, bits_ne (by omega) (Nat.succ_ne_zero k)⟩
  · rintro ⟨h, h0⟩
    obtain ⟨b, hb, rfl⟩ := lot_bits h
    have hb0 : b ≠ 0 := fun e => by
      subst e
      exact h0 (bits_zero n)
    exact ⟨b - 1, List.mem_range.mpr (by omega), by rw [show b - 1 + 1 = b by omega]⟩
theorem allLots_len (n : Nat) : (allLots n).length = 2 ^ n - 1 := by simp [allLots]
theorem testBit_int (b a : Nat) : PyData.eqv (.int (((b : Nat) : Int) / 2 ^ ((a : Nat) : Int).toNat % 2)) (.int 1) = b.testBit a := by
  rw [eqv_int, Int.toNat_natCast, Nat.testBit_eq_decide_div_mod_eq]
  have e : ((b : Nat) : Int) / 2 ^ a % 2 = ((b / 2 ^ a % 2 : Nat) : Int) := by
    rw [Int.natCast_emod, Int.natCast_ediv]
    norm_cast
  rw [e]
  by_cases h : b / 2 ^ a % 2 = 1
  · rw [decide_eq_true h, decide_eq_true (by omega)]
  · rw [decide_eq_false h, decide_eq_false (by omega)]
end Pd

/-! text Rm -/
set_option Elab.async false
set_option linter.all false
set_option maxRecDepth 100000
set_option maxHeartbeats 4000000
namespace Pd
open PySem PySem.Spec PyProof.Rows L2 C8
theorem LinesS.take {s : Nat} {l : List (Nat × List Rat)} (h : LinesS s l) (i : Nat) : LinesS s (l.take i) := fun k p hk => by
  rw [List.getElem?_take] at hk
  split at hk
  · exact h k p hk
  · cases hk
theorem lines_facts {s w K : Nat} {rows : List (List Rat)} (h : ∀ r ∈ rows, r.length = w) (hs : TabS s rows) (h1 : 1 ≤ s) (hK : rows.length ≤ K ∨ w ≤ K) : Tri w (linesOf rows) ∧ LinesS s (linesOf rows) ∧ (linesOf rows).length ≤ K ∧ gz s (linesOf rows).length ≤ gz s K ∧ (linesOf rows).length ≤ rows.length := by
  have ht := (linesOf_ok rows h).1
  have h2 := linesOf_len rows
  have h3 := ht.len
  have h4 : (linesOf rows).length ≤ K := by omega
  exact ⟨ht, linesOf_sz h1 rows hs, h4, gz_mono h4, h2⟩
def spotR (R : List Rat) : Nat := (firstOf R).getD 0
theorem spots_some {R : List Rat} (h : (!PyData.eqv (.list (((List.range R.length).filter fun j => decide (ent R j ≠ 0)).map natI)) (.list [])) = true) : firstOf R = some (spotR R) := by
  rw [eqv_nilL] at h
  unfold spotR
  cases e : ((List.range R.length).filter fun j => decide (ent R j ≠ 0)) with
  | nil =>
    rw [e] at h
    cases h
  | cons a b => rw [firstOf_cons e] <;> rfl
theorem spots_at {R : List Rat} (h : (!PyData.eqv (.list (((List.range R.length).filter fun j => decide (ent R j ≠ 0)).map natI)) (.list [])) = true) : atI (((List.range R.length).filter fun j => decide (ent R j ≠ 0)).map natI) 0 = some (natI (spotR R)) := by
  rw [eqv_nilL] at h
  unfold spotR
  cases e : ((List.range R.length).filter fun j => decide (ent R j ≠ 0)) with
  | nil =>
    rw [e] at h
    cases h
  | cons a b =>
    rw [firstOf_cons e]
    exact at0 _ _
theorem spots_none {R : List Rat} (h : (!PyData.eqv (.list (((List.range R.length).filter fun j => decide (ent R j ≠ 0)).map natI)) (.list [])) = false) : firstOf R = none := by
  rw [eqv_nilL] at h
  cases e : ((List.range R.length).filter fun j => decide (ent R j ≠ 0)) with
  | nil => exact firstOf_nil e
  | cons a b =>
    rw [e] at h
    cases h
theorem perm_map_ex {α β : Type} {f : α → β} {l' k : List β} (h : l'.Perm k) : ∀ {l : List α}, k = l.map f → ∃ m : List α, l' = m.map f ∧ m.Perm l := by
  induction h with
  | nil =>
    intro l e
    cases l with
    | nil => exact ⟨[], rfl, .nil⟩
    | cons a r => cases e
  | cons x _ ih =>
    intro l e
    cases l with
    | nil => cases e
    | cons a r =>
      injection e with e1 e2
      obtain ⟨m, hm, hp⟩ := ih e2
      exact ⟨a :: m, by rw [List.map_cons, ← e1, ← hm], hp.cons a⟩
  | swap x y l0 =>
    intro l e
    cases l with
    | nil => cases e
    | cons a r =>
      cases r with
      | nil =>
        injection e with e1 e2
        cases e2
      | cons b r =>
        injection e with e1 e2
        injection e2 with e2 e3
        exact ⟨b :: a :: r, by rw [List.map_cons, List.map_cons, ← e1, ← e2, ← e3], .swap a b r⟩
  | trans _ _ ih1 ih2 =>
    intro l e
    obtain ⟨m2, hm2, hp2⟩ := ih2 e
    obtain ⟨m1, hm1, hp1⟩ := ih1 hm2
    exact ⟨m1, hm1, hp1.trans hp2⟩
def castL (L : List Nat) : List Int := L.map fun p : Nat => ((p : Nat) : Int)
theorem PT_lotD (l : List (List Nat)) : l.map PT = (l.map castL).map lotD := by
  rw [List.map_map]
  refine List.map_congr_left fun L _ => ?_
  show PT L = lotD (castL L)
  unfold PT lotD castL
  rw [List.map_map]
  rfl
end Pd

/-! text Rn -/
set_option Elab.async false
set_option linter.all false
set_option maxRecDepth 100000
set_option maxHeartbeats 4000000
/-! Fairness, column by column. -/
namespace Pd
open PySem PySem.Spec PyProof.Rows L2 C8
theorem ent_app {l r : List Rat} {k : Nat} : ent (l ++ r) (l.length + k) = ent r k := by
  unfold ent
  rw [List.getD_eq_getElem?_getD, List.getD_eq_getElem?_getD, List.getElem?_append_right (Nat.le_add_right _ _), Nat.add_sub_cancel_left]
section
variable {t : Tr} {s u : Nat} {q : List Rat}
theorem wide_row {i : Nat} (hi : i < t.rows.length) : rowAt (wide t) i = rowAt t.rows i ++ lvRow t.blk i := rowAt_of (wide_get (rowAt_get hi))
theorem wide_lo (hk : t.Ok s u) {i j : Nat} (hi : i < t.rows.length) (hj : j < u) : ent (rowAt (wide t) i) j = ent (rowAt t.rows i) j := by
  rw [wide_row hi]
  exact ent_app_left (by rw [hk.wd _ (rowAt_mem hi)]; exact hj)
theorem wide_hi (hk : t.Ok s u) {i l : Nat} (hi : i < t.rows.length) (hl : l < (lv t.blk).toNat) : ent (rowAt (wide t) i) (u + l) = if t.blk[i]? = some ((l : Nat) : Int) then 1 else 0 := by
  have e := hk.wd _ (rowAt_mem hi)
  rw [wide_row hi, ← e, ent_app]
  unfold lvRow
  refine ent_get ?_
  rw [List.getElem?_map, List.getElem?_range hl]
  rfl
theorem wideQ_lo (hq : q.length = u) {j : Nat} (hj : j < u) : ent (wideQ t q) j = ent q j := by
  unfold wideQ
  exact ent_app_left (by omega)
theorem wideQ_hi (hq : q.length = u) {l : Nat} : ent (wideQ t q) (u + l) = 0 := by
  unfold wideQ
  rw [← hq, ent_app, ent_rep]
theorem blk_full (hk : t.Ok s u) {l : Nat} (hl : l < (lv t.blk).toNat) : t.blk.length = t.rows.length := hk.bl.elim (fun z => by
  rw [z] at hl
  exact absurd hl (by simp [lv])) fun z => z.1
theorem blk_if {bs : List Int} {n i : Nat} (hn : bs.length = n) (hi : i < n) (b : Int) : (bs[i]? = some b) = (bAt bs i = b) := by
  have e : bs[i]? = some (bAt bs i) := getD_get (by omega)
  rw [e]
  exact propext ⟨fun h => Option.some.inj h, fun h => by rw [h]⟩
theorem hi_sum (hk : t.Ok s u) {l : Nat} (hl : l < (lv t.blk).toNat) (y : List Rat) : Sm t.rows.length (fun i => ent (rowAt (wide t) i) (u + l) * ent y i) = bsum t.blk t.rows.length y ((l : Nat) : Int) := by
  unfold bsum
  have hb := blk_full hk hl
  refine Sm_congr fun i hi => ?_
  rw [wide_hi hk hi hl]
  by_cases h : bAt t.blk i = ((l : Nat) : Int)
  · rw [if_pos h, if_pos (by rw [blk_if hb hi]; exact h), Rat.one_mul]
  · rw [if_neg h, if_neg (by rw [blk_if hb hi]; exact h), Rat.zero_mul]
theorem lo_sum (hk : t.Ok s u) {j : Nat} (hj : j < u) (y : Nat → Rat) : Sm t.rows.length (fun i => ent (rowAt (wide t) i) j * y i) = Sm t.rows.length (fun i => ent (rowAt t.rows i) j * y i) := Sm_congr fun i hi => by rw [wide_lo hk hi hj]
theorem fair_lo (hk : t.Ok s u) (hq : q.length = u) {y : Nat → Rat} (h : FairF t q y) {j : Nat} (hj : j < u) : Sm t.rows.length (fun i => ent (rowAt t.rows i) j * y i) = ent q j := by
  rw [← lo_sum hk hj, h j (by rw [wideQ_len]; omega), wideQ_lo hq hj]
theorem fair_hi (hk : t.Ok s u) (hq : q.length = u) {y : List Rat} (h : FairF t q (ent y)) {b : Int} (hb : b ∈ t.blk) : bsum t.blk t.rows.length y b = 0 := by
  obtain ⟨v1, v2, v3⟩ := hk.lv
  have h1 := v3 b hb
  have h0 : 0 ≤ b := hk.bl.elim (fun z => by rw [z] at hb; cases hb) fun z => (z.2 b hb).1
  have hl : b.toNat < (lv t.blk).toNat := by omega
  have e : ((b.toNat : Nat) : Int) = b := by omega
  have := hi_sum hk hl y
  rw [e] at this
  rw [← this, h (u + b.toNat) (by rw [wideQ_len]; omega), wideQ_hi hq]
theorem fair_mk (hk : t.Ok s u) (hq : q.length = u) {y : List Rat} (h : ∀ j, j < u → Sm t.rows.length (fun i => ent (rowAt t.rows i) j * ent y i) = ent q j) (hb : ∀ j, j < t.blk.length → bsum t.blk t.rows.length y (bAt t.blk j) = 0) : FairF t q (ent y) := fun j hj => by
  rw [wideQ_len, hq] at hj
  rcases Nat.lt_or_ge j u with hlt | hge
  · rw [lo_sum hk hlt, h j hlt, wideQ_lo hq hlt]
  · obtain ⟨l, rfl⟩ : ∃ l, j = u + l := ⟨j - u, by omega⟩
    have hl : l < (lv t.blk).toNat := by omega
    rw [hi_sum hk hl, wideQ_hi hq]
    have hbn := blk_full hk hl
    by_cases he : ∃ k, k < t.rows.length ∧ bAt t.blk k = ((l : Nat) : Int)
    · obtain ⟨k, hk1, hk2⟩ := he
      rw [← hk2]
      exact hb k (by omega)
    · refine Sm_zero fun k hk1 => ?_
      rw [if_neg fun z => he ⟨k, hk1, z⟩]
theorem dot_col {y : List Rat} (hy : y.length = t.rows.length) (j : Nat) : dotR y (t.rows.map fun r => ent r j) = Sm t.rows.length (fun i => ent (rowAt t.rows i) j * ent y i) := by
  rw [dotR_Sm (by rw [List.length_map, hy]), hy]
  refine Sm_congr fun i hi => ?_
  have e3 : ent (t.rows.map fun r => ent r j) i = ent (rowAt t.rows i) j := by
    refine ent_get ?_
    rw [List.getElem?_map, rowAt_get hi]
    rfl
  rw [e3, Rat.mul_comm]
/-- a question mixed of balanced weights is answered -/
theorem non_of_fair {y : List Rat} (h : FairF t q (ent y)) : Non t q [] := ⟨ent y, fun i hi => absurd hi (by simp), h⟩
theorem blk_sum (y : List Rat) (b : Int) : sumL (((List.range t.rows.length).filter fun k => decide (bAt t.blk k = b)).map (ent y)) = bsum t.blk t.rows.length y b := by
  rw [← sum_filter]
  unfold bsum
  refine Sm_congr fun k _ => ?_
  by_cases h : bAt t.blk k = b
  · rw [if_pos h, if_pos (decide_eq_true h)]
  · rw [if_neg h, if_neg (by rw [decide_eq_true_iff]; exact h)]
end
theorem rep_none (n : Nat) : (List.replicate n false).any id = false := by
  rw [List.any_eq_false]
  intro b hb
  rw [List.eq_of_mem_replicate hb]
  decide
end Pd

/-! text Ro -/
set_option Elab.async false
set_option linter.all false
set_option maxRecDepth 100000
set_option maxHeartbeats 4000000
/-! What is drawn, the twin, and the plots out of a lot. -/
namespace Pd
open PySem PySem.Spec PyProof.Rows L2 C8
theorem Tr.Ok.mono {s s' u : Nat} {t : Tr} (h : t.Ok s u) (l : s ≤ s') : t.Ok s' u := ⟨h.n1, h.n10, h.u1, h.u5, Nat.le_trans h.s1 l, h.wd, fun r hr => (h.sz r hr).mono l, h.sl, h.sp, h.bl⟩
theorem cutD_one (ds : List PyData) (v : Nat) : cutD ds (some (v : Int)) (some ((v : Int) + 1)) = (ds.drop v).take 1 := by
  have e1 : HT.sIx ds.length 0 (some (v : Int)) = min v ds.length := HT.sIx_nat _ _ _
  have e2 : HT.sIx ds.length ds.length (some ((v : Int) + 1)) = min (v + 1) ds.length := HT.sIx_nat _ _ (v + 1)
  unfold cutD
  rw [e1, e2]
  rcases Nat.lt_or_ge v ds.length with h | h
  · rw [Nat.min_eq_left (by omega), Nat.min_eq_left (by omega), show v + 1 - v = 1 by omega]
  · rw [Nat.min_eq_right h, Nat.min_eq_right (by omega), Nat.sub_self, List.take_zero, List.drop_of_length_le h]
    rfl
/-- the plot at v once more -/
def twinT (t : Tr) (v : Nat) : Tr := ⟨t.rows ++ [rowAt t.rows v], t.spr ++ [t.spr.getD v 0], t.blk ++ (t.blk.drop v).take 1⟩
theorem drop_one {bs : List Int} {v : Nat} (h : v < bs.length) : (bs.drop v).take 1 = [bAt bs v] := by
  rw [List.drop_eq_getElem_cons h, List.take_succ_cons, List.take_zero]
  congr 1
  unfold bAt
  rw [List.getD_eq_getElem?_getD, List.getElem?_eq_getElem h]
  rfl
section
variable {t : Tr} {s u v b : Nat} {q y : List Rat}
theorem twin_ok (h : t.Ok s u) (hv : v < t.rows.length) (h4 : t.rows.length ≤ 4) : (twinT t v).Ok s u := by
  have hn := h.n1
  refine ⟨?_, ?_, h.u1, h.u5, h.s1, fun r hr => ?_, fun r hr => ?_, ?_, fun x hx => ?_, ?_⟩
  · show 1 ≤ (t.rows ++ [rowAt t.rows v]).length
    rw [List.length_append]
    omega
  · show (t.rows ++ [rowAt t.rows v]).length ≤ 10
    rw [List.length_append]
    simp only [List.length_cons, List.length_nil]
    omega
  · rcases List.mem_append.mp hr with hr | hr
    · exact h.wd r hr
    · rw [List.mem_singleton.mp hr]
      exact h.wd _ (rowAt_mem hv)
  · rcases List.mem_append.mp hr with hr | hr
    · exact h.sz r hr
    · rw [List.mem_singleton.mp hr]
      exact h.sz _ (rowAt_mem hv)
  · show (t.spr ++ _).length = (t.rows ++ _).length
    rw [List.length_append, List.length_append, h.sl]
    rfl
  · rcases List.mem_append.mp hx with hx | hx
    · exact h.sp x hx
    · rw [List.mem_singleton.mp hx]
      exact h.sp _ (getD_mem (by rw [h.sl]; exact hv))
  · show t.blk ++ (t.blk.drop v).take 1 = [] ∨ (t.blk ++ (t.blk.drop v).take 1).length = (t.rows ++ [rowAt t.rows v]).length ∧ ∀ x ∈ t.blk ++ (t.blk.drop v).take 1, 0 ≤ x ∧ x ≤ 4
    rcases h.bl with e | ⟨hb1, hb2⟩
    · left
      rw [e]
      simp
    · right
      rw [drop_one (by omega), List.length_append, List.length_append, hb1]
      refine ⟨rfl, fun x hx => ?_⟩
      rcases List.mem_append.mp hx with hx | hx
      · exact hb2 x hx
      · rw [List.mem_singleton.mp hx]
        exact hb2 _ (getD_mem (by omega))
theorem ent_snoc0 (y : List Rat) (k : Nat) : ent (y ++ [0]) k = ent y k := by
  rcases Nat.lt_or_ge k y.length with h | h
  · exact ent_app_left h
  · rw [ent_out h]
    rcases Nat.lt_or_ge y.length k with h2 | h2
    · exact ent_out (by rw [List.length_append]; exact h2)
    · have e : k = y.length := by omega
      subst e
      exact ent_app_at y 0
theorem twin_bal (h : t.Ok s u) (hv : v < t.rows.length) (hy : y.length = t.rows.length) (hb : ∀ j, j < t.blk.length → bsum t.blk t.rows.length y (bAt t.blk j) = 0) : ∀ j, j < (twinT t v).blk.length → bsum (twinT t v).blk (twinT t v).rows.length (y ++ [0]) (bAt (twinT t v).blk j) = 0 := by
  intro j hj
  have hr : (twinT t v).rows.length = t.rows.length + 1 := by
    show (t.rows ++ _).length = _
    rw [List.length_append]
    rfl
  rcases h.bl with e | ⟨hb1, hb2⟩
  · exfalso
    have e2 : (twinT t v).blk = [] := by
      show t.blk ++ (t.blk.drop v).take 1 = []
      rw [e]
      simp
    rw [e2] at hj
    exact absurd hj (Nat.not_lt_zero j)
  · have e2 : (twinT t v).blk = t.blk ++ [bAt t.blk v] := by
      show t.blk ++ (t.blk.drop v).take 1 = _
      rw [drop_one (by omega)]
    have old : ∀ k, k < t.rows.length → bAt (t.blk ++ [bAt t.blk v]) k = bAt t.blk k := fun k hk => by
      unfold bAt
      rw [List.getD_eq_getElem?_getD, List.getElem?_append_left (by omega), List.getD_eq_getElem?_getD]
    have new : bAt (t.blk ++ [bAt t.blk v]) t.rows.length = bAt t.blk v := by
      rw [← hb1]
      show (t.blk ++ [bAt t.blk v]).getD t.blk.length 0 = _
      rw [List.getD_eq_getElem?_getD, List.getElem?_append_right (Nat.le_refl _), Nat.sub_self]
      rfl
    have gen : ∀ b, bsum (t.blk ++ [bAt t.blk v]) (t.rows.length + 1) (y ++ [0]) b = bsum t.blk t.rows.length y b := fun b => by
      unfold bsum
      show Sm t.rows.length _ + (if bAt (t.blk ++ [bAt t.blk v]) t.rows.length = b then ent (y ++ [0]) t.rows.length else 0) = _
      have e3 : ent (y ++ [0]) t.rows.length = 0 := by
        rw [ent_snoc0]
        exact ent_out (by omega)
      rw [e3]
      have e4 : (if bAt (t.blk ++ [bAt t.blk v]) t.rows.length = b then (0 : Rat) else 0) = 0 := by split <;> rfl
      rw [e4, Rat.add_zero]
      refine Sm_congr fun k hk => ?_
      rw [old k hk, ent_snoc0]
    rw [e2] at hj ⊢
    rw [hr, gen]
    rw [List.length_append] at hj
    simp only [List.length_cons, List.length_nil] at hj
    rcases Nat.lt_or_ge j t.blk.length with hlt | hge
    · rw [old j (by omega)]
      exact hb j hlt
    · have ej : j = t.rows.length := by omega
      rw [ej, new]
      exact hb v (by omega)
end
end Pd

/-! text Rp -/
set_option Elab.async false
set_option linter.all false
set_option maxRecDepth 100000
set_option maxHeartbeats 4000000
/-! Drawn questions are answered. -/
namespace Pd
open PySem PySem.Spec PyProof.Rows L2 C8
def Drawn (t : Tr) (q : List Rat) : Prop := ∃ u, t.Ok 6000 u ∧ q.length = u ∧ AllS 6000 q ∧ Non t q [] ∧ (t.rows.length ≤ 5 ∨ (6 ≤ t.rows.length ∧ t.rows.length ≤ 8 ∧ u = 1 ∧ t.blk = [] ∧ ∃ x ∈ q, x ≠ 0))
section
variable {t : Tr} {s u : Nat} {q y : List Rat}
def mixR (u : Nat) (R : List (List Rat)) (y : List Rat) : List Rat := (List.range u).map fun j => dotR y (R.map fun r => ent r j)
theorem mix_len (u : Nat) (R : List (List Rat)) (y : List Rat) : (mixR u R y).length = u := by simp [mixR]
theorem mix_ent {u j : Nat} {R : List (List Rat)} {y : List Rat} (h : j < u) : ent (mixR u R y) j = dotR y (R.map fun r => ent r j) := by
  refine ent_get ?_
  unfold mixR
  rw [List.getElem?_map, List.getElem?_range h]
  rfl
theorem mix_fair (hk : t.Ok s u) (hy : y.length = t.rows.length) (hb : ∀ j, j < t.blk.length → bsum t.blk t.rows.length y (bAt t.blk j) = 0) : FairF t (mixR u t.rows y) (ent y) := fair_mk hk (mix_len _ _ _) (fun j hj => by rw [mix_ent hj, dot_col hy]) hb
theorem mix_sz {a : Nat} (hk : t.Ok s u) (hy : y.length = t.rows.length) (hs : AllS a y) : AllS (1 + t.rows.length * (a + s + 1)) (mixR u t.rows y) := fun x hx => by
  obtain ⟨j, _, rfl⟩ := List.mem_map.mp hx
  have h2 : AllS s (t.rows.map fun r => ent r j) := fun z hz => by
    obtain ⟨r, hr, rfl⟩ := List.mem_map.mp hz
    exact ent_sz (hk.sz r hr) hk.s1 j
  have := Sz.sumL (hs.zipMul h2)
  rw [List.length_zipWith, List.length_map, hy, Nat.min_self] at this
  exact this
theorem drawn_small (hk : t.Ok 350 u) (hn : t.rows.length ≤ 5) (hy : y.length = t.rows.length) (hs : AllS 40 y) (hb : ∀ j, j < t.blk.length → bsum t.blk t.rows.length y (bAt t.blk j) = 0) : Drawn t (mixR u t.rows y) := by
  refine ⟨u, hk.mono (by omega), mix_len _ _ _, (mix_sz hk hy hs).mono ?_, non_of_fair (mix_fair hk hy hb), .inl hn⟩
  omega
theorem drawn_zero (hk : t.Ok 350 u) (hn : t.rows.length ≤ 5) : Drawn t (List.replicate u 0) := by
  refine ⟨u, hk.mono (by omega), List.length_replicate, allS_rep (by omega), ⟨fun _ => 0, fun _ _ => rfl, fair0 fun x hx => List.eq_of_mem_replicate hx⟩, .inl hn⟩
theorem drawn_great (hk : t.Ok 5630 1) (h6 : 6 ≤ t.rows.length) (h8 : t.rows.length ≤ 8) (hb : t.blk = []) (hr : ∃ r ∈ t.rows, ∃ x ∈ r, x ≠ 0) {c : Int} (hc : 1 ≤ c) (hc3 : c ≤ 3) : Drawn t [(c : Rat)] := by
  have hcs : Sz 2 (c : Rat) := ⟨by
    rw [Rat.num_intCast]
    show c.natAbs < 4
    omega, by
    rw [Rat.den_intCast]
    decide⟩
  have hc0 : (c : Rat) ≠ 0 := fun e => by
    have e2 := congrArg Rat.num e
    rw [Rat.num_intCast] at e2
    have : c = 0 := e2
    omega
  refine ⟨1, hk.mono (by omega), rfl, fun x hx => ?_, ?_, .inr ⟨h6, h8, rfl, hb, _, List.mem_singleton.mpr rfl, hc0⟩⟩
  · rw [List.mem_singleton.mp hx]
    exact hcs.mono (by omega)
  · obtain ⟨r, hr1, x, hx1, hx2⟩ := hr
    obtain ⟨i, ei⟩ := List.mem_iff_getElem?.mp hr1
    have hi := get_lt ei
    obtain ⟨j, ej⟩ := List.mem_iff_getElem?.mp hx1
    have hj := get_lt ej
    rw [hk.wd r hr1] at hj
    have ej0 : j = 0 := by omega
    subst ej0
    have hx : ent (rowAt t.rows i) 0 = x := by
      rw [rowAt_of ei]
      exact ent_get ej
    refine non_of_fair (y := (List.range t.rows.length).map fun k => if k = i then (c : Rat) / x else 0) (fair_mk hk rfl (fun j hj => ?_) fun j hj => ?_)
    · have ej : j = 0 := by omega
      subst ej
      have en : ∀ k, k < t.rows.length → ent ((List.range t.rows.length).map fun k => if k = i then (c : Rat) / x else 0) k = if k = i then (c : Rat) / x else 0 := fun k hk1 => by
        refine ent_get ?_
        rw [List.getElem?_map, List.getElem?_range hk1]
        rfl
      rw [Sm_one hi fun k hk1 hne => by rw [en k hk1, if_neg hne, Rat.mul_zero], en i hi, if_pos rfl, hx]
      show x * ((c : Rat) / x) = c
      rw [Rat.div_def]
      have := Rat.mul_inv_cancel _ hx2
      grind
    · rw [hb] at hj
      exact absurd hj (Nat.not_lt_zero j)
end
/-! ### the plots out of a lot -/
section
variable {t : Tr} {s u : Nat} {q y : List Rat} {L : List Nat}
theorem left_lot : Lot t.rows.length (leftOf t.rows.length L) := ⟨by unfold leftOf; exact List.pairwise_lt_range.filter _, fun p hp => (left_mem.mp hp).1⟩
theorem sub_row {O : List Nat} {k : Nat} (hk : k < O.length) : rowAt (sub t O).rows k = rowAt t.rows (O.getD k 0) := by
  apply rowAt_of
  show (O.map fun p => t.rows.getD p [])[k]? = _
  rw [List.getElem?_map, getD_get (d := 0) hk]
  rfl
theorem sub_fair (hk : t.Ok s u) (hq : q.length = u) (hf : FairF t q (ent y)) (h0 : ∀ p ∈ L, ent y p = 0) (hL : leftOf t.rows.length L ≠ []) : FairF (sub t (leftOf t.rows.length L)) q (ent ((leftOf t.rows.length L).map (ent y))) := by
  have hs := hk.sub (left_lot (L := L)) hL
  have hlen : (sub t (leftOf t.rows.length L)).rows.length = (leftOf t.rows.length L).length := by
    show (List.map _ _).length = _
    rw [List.length_map]
  refine fair_mk hs hq (fun j hj => ?_) fun j hj => ?_
  · rw [← fair_lo hk hq hf hj, sum_left (n := t.rows.length) (L := L) (f := fun i => ent (rowAt t.rows i) j * ent y i) fun i hi hm => by rw [h0 i hm, Rat.mul_zero], hlen]
    exact Sm_congr fun k hk1 => by rw [sub_row hk1, ent_mapF hk1]
  · rcases hk.bl with e | ⟨hb1, hb2⟩
    · exfalso
      have e2 : (sub t (leftOf t.rows.length L)).blk = [] := by
        show (if t.blk = [] then [] else _) = []
        rw [if_pos e]
      rw [e2] at hj
      exact absurd hj (Nat.not_lt_zero j)
    · have hne : t.blk ≠ [] := fun e => by
        have := hk.n1
        rw [e] at hb1
        simp only [List.length_nil] at hb1
        omega
      have e2 : (sub t (leftOf t.rows.length L)).blk = (leftOf t.rows.length L).map fun p => t.blk.getD p 0 := by
        show (if t.blk = [] then [] else _) = _
        rw [if_neg hne]
      rw [e2] at hj ⊢
      rw [List.length_map] at hj
      have at_ : ∀ k, k < (leftOf t.rows.length L).length → bAt ((leftOf t.rows.length L).map fun p => t.blk.getD p 0) k = bAt t.blk ((leftOf t.rows.length L).getD k 0) := fun k hk1 => by
        unfold bAt
        rw [List.getD_eq_getElem?_getD, List.getElem?_map, getD_get (d := 0) hk1]
        rfl
      have hmem : bAt t.blk ((leftOf t.rows.length L).getD j 0) ∈ t.blk := getD_mem (by
        rw [hb1]
        exact (left_mem.mp (getD_mem hj)).1)
      rw [at_ j hj, hlen, ← fair_hi hk hq hf hmem]
      unfold bsum
      rw [sum_left (n := t.rows.length) (L := L) (f := fun k => if bAt t.blk k = bAt t.blk ((leftOf t.rows.length L).getD j 0) then ent y k else 0) fun i hi hm => by
        rw [h0 i hm]
        split <;> rfl]
      exact Sm_congr fun k hk1 => by rw [at_ k hk1, ent_mapF hk1]
end
theorem depth_TTs (R : List (List Rat)) : PyData.depthAll (R.map FT) ≤ 2 := by
  induction R with
  | nil => exact Nat.zero_le _
  | cons r R ih =>
    have h := depth_fracs r
    show max (PyData.depthAll (r.map frac) + 1) (PyData.depthAll (R.map FT)) ≤ 2
    omega
theorem lay_TTs (R : List (List Rat)) : PyData.canLayAll0 (R.map FT) = true := by
  induction R with
  | nil => rfl
  | cons r R ih =>
    show (PyData.canLayAll0 (r.map frac) && PyData.canLayAll0 (R.map FT)) = true
    rw [ih, lay_fracs]
    rfl
theorem shaped_TT (R : List (List Rat)) : SeqAt.shaped (.tuple (R.map FT)) = true := by
  have h := depth_TTs R
  show (PyData.canLayAll0 (R.map FT) && decide (PyData.depthAll (R.map FT) + 1 ≤ 64)) = true
  rw [lay_TTs, decide_eq_true (by omega)]
  rfl
theorem shaped_LT (R : List (List Rat)) : SeqAt.shaped (.list (R.map FT)) = true := by
  have h := depth_TTs R
  show (PyData.canLayAll0 (R.map FT) && decide (PyData.depthAll (R.map FT) + 1 ≤ 64)) = true
  rw [lay_TTs, decide_eq_true (by omega)]
  rfl
theorem isE_map {α β : Type} {f : α → β} {l : List α} (h : l ≠ []) : (l.map f).isEmpty = false := by
  cases l with
  | nil => exact absurd rfl h
  | cons a r => rfl
end Pd

/-! text Qa -/
set_option Elab.async false
set_option linter.all false
set_option maxRecDepth 100000
set_option maxHeartbeats 4000000
namespace Pd
open PySem PySem.Spec PyProof.Rows L2 C8
variable {T : Th}
/-! ### values -/
def F_is_whole (ds : List PyData) (Pp : PyData → Prop) : Prop := ∃ i : Int, ds = [.int i] ∧ Pp (.bool true)
theorem d_is_whole (M : Md T) : Ok T "is_whole" ["value"] 41 (PureSp T.K F_is_whole) := by
  refine okP M (k := 40) (i := 0) (s := _root_.Hd.s_is_whole) (N := ["value"]) rfl rfl (by decide +kernel) (fun _ _ _ _ _ _ us hl => match us, hl with | [_], _ => rfl) (fun ds Pp h => by obtain ⟨_, rfl, _⟩ := h; rfl) ?_
  rintro ds Pp ⟨i, rfl, q⟩
  refine ss_cons (s_ret ?_)
  refine e_and ?_
  refine e_isi_ii M.b_isinstance M.b_int ?_
  refine e_name (i := 0) rfl ?_
  refine ⟨⟨_, rfl⟩, ?_⟩
  refine ⟨_, rfl, ⟨fun _ => ?_, fun h => absurd h (by decide)⟩⟩
  refine e_not ?_
  refine e_isi_ib M.b_isinstance M.b_bool ?_
  refine e_name (i := 0) rfl ?_
  refine ⟨⟨_, rfl⟩, ?_⟩
  refine ⟨_, rfl, ?_⟩
  exact q
def F_is_between (ds : List PyData) (Pp : PyData → Prop) : Prop := ∃ i a b : Int, ds = [.int i, .int a, .int b] ∧ a ≤ i ∧ i ≤ b ∧ Pp (.bool true)
theorem d_is_between (M : Md T) : Ok T "is_between" ["value", "low", "high"] 42 (PureSp T.K F_is_between) := by
  refine okP M (k := 41) (i := 1) (s := _root_.Hd.s_is_between) (N := ["value", "low", "high"]) rfl rfl (by decide +kernel) (fun _ _ _ _ _ _ us hl => match us, hl with | [_, _, _], _ => rfl) (fun ds Pp h => by obtain ⟨_, _, _, rfl, _⟩ := h; rfl) ?_
  rintro ds Pp ⟨i, a, b, rfl, ha, hb, q⟩
  refine ss_cons (s_ret ?_)
  refine e_and ?_
  refine e_call (d_is_whole M) lk ?_
  refine ea_cons ?_
  refine e_name (i := 0) rfl ?_
  refine ea_nil ?_
  refine ⟨i, rfl, ?_⟩
  refine ⟨_, rfl, ⟨fun _ => ?_, fun h => absurd h (by decide)⟩⟩
  refine e_chain c_le c_le ?_
  refine e_name (i := 1) rfl ?_
  refine e_name (i := 0) rfl ?_
  refine ⟨⟨⟨_, rfl⟩, _, rfl⟩, ?_⟩
  refine ⟨fun _ => ?_, fun h => absurd h (by rw [decide_eq_false_iff_not]; exact fun n => n ha)⟩
  refine e_name (i := 2) rfl ?_
  refine ⟨⟨⟨_, rfl⟩, _, rfl⟩, ?_⟩
  have e : decide (i ≤ b) = true := decide_eq_true hb
  show Pp (.bool (decide (i ≤ b)))
  rw [e]
  exact q
def F_is_tuple_of (ds : List PyData) (Pp : PyData → Prop) : Prop := ∃ (es : List PyData) (n : Int), ds = [.tuple es, .int n] ∧ Pp (.bool (decide ((es.length : Int) = n)))
theorem d_is_tuple_of (M : Md T) : Ok T "is_tuple_of" ["value", "many"] 41 (PureSp T.K F_is_tuple_of) := by
  refine okP M (k := 40) (i := 2) (s := _root_.Hd.s_is_tuple_of) (N := ["value", "many"]) rfl rfl (by decide +kernel) (fun _ _ _ _ _ _ us hl => match us, hl with | [_, _], _ => rfl) (fun ds Pp h => by obtain ⟨_, _, rfl, _⟩ := h; rfl) ?_
  rintro ds Pp ⟨es, n, rfl, q⟩
  refine ss_cons (s_ret ?_)
  refine e_and ?_
  refine e_isi_tt M.b_isinstance M.b_tuple ?_
  refine e_name (i := 0) rfl ?_
  refine ⟨⟨_, rfl⟩, ?_⟩
  refine ⟨_, rfl, ⟨fun _ => ?_, fun h => absurd h (by decide)⟩⟩
  refine e_cmp c_eq ?_ rfl
  refine e_len M.b_len ?_
  refine e_name (i := 0) rfl ?_
  refine ⟨_, (by first | exact Or.inl rfl | exact Or.inr rfl), ?_⟩
  refine e_name (i := 1) rfl ?_
  refine ⟨?_, ?_⟩
  · exact ⟨rfl, rfl⟩
  exact q
def F_ratio (ds : List PyData) (Pp : PyData → Prop) : Prop := ∃ t l : Int, ds = [.int t, .int l] ∧ l ≠ 0 ∧ Pp (frac (Rat.divInt t l))
theorem d_ratio (M : Md T) : Ok T "ratio" ["top", "low"] 41 (PureSp T.K F_ratio) := by
  refine okP M (k := 40) (i := 4) (s := _root_.Hd.s_ratio) (N := ["top", "low", "part"]) rfl rfl (by decide +kernel) (fun _ _ _ _ _ _ us hl => match us, hl with | [_, _], _ => rfl) (fun ds Pp h => by obtain ⟨_, _, rfl, _⟩ := h; rfl) ?_
  rintro ds Pp ⟨t, l, rfl, hl, q⟩
  refine ss_cons (s_set (i := 2) (E.ev ?_))
  refine e_ifexp ?_
  refine b_cmp c_gt ?_ rfl
  refine e_name (i := 1) rfl ?_
  refine e_int ?_
  refine ⟨⟨⟨_, rfl⟩, _, rfl⟩, ?_⟩
  refine ⟨fun h => ?_, fun h => ?_⟩
  · refine e_gcd M.gcd ?_
    refine e_name (i := 0) rfl ?_
    refine e_name (i := 1) rfl ?_
    refine ⟨_, _, rfl, rfl, ?_⟩
    refine ss_cons (s_ret ?_)
    refine e_tup ?_
    refine ea_cons ?_
    refine e_fdivA M.seer lk ?_
    refine e_name (i := 0) rfl ?_
    refine e_name (i := 2) rfl ?_
    refine ⟨_, _, rfl, rfl, ?_, ?_⟩
    · exact Int.natCast_ne_zero.mpr (Nat.ne_of_gt (gcdP hl))
    refine ea_cons ?_
    refine e_fdivA M.seer lk ?_
    refine e_name (i := 1) rfl ?_
    refine e_name (i := 2) rfl ?_
    refine ⟨_, _, rfl, rfl, ?_, ?_⟩
    · exact Int.natCast_ne_zero.mpr (Nat.ne_of_gt (gcdP hl))
    refine ea_nil ?_
    refine ⟨lk, ?_⟩
    rw [← ratio_pos t l (of_decide_eq_true h)]
    exact q
  · refine e_neg ?_
    refine e_gcd M.gcd ?_
    refine e_name (i := 0) rfl ?_
    refine e_name (i := 1) rfl ?_
    refine ⟨_, _, rfl, rfl, ?_⟩
    refine ⟨_, rfl, ?_⟩
    refine ss_cons (s_ret ?_)
    refine e_tup ?_
    refine ea_cons ?_
    refine e_fdivA M.seer lk ?_
    refine e_name (i := 0) rfl ?_
    refine e_name (i := 2) rfl ?_
    refine ⟨_, _, rfl, rfl, ?_, ?_⟩
    · exact fun z => Nat.ne_of_gt (gcdP (t := t) hl) (by omega)
    refine ea_cons ?_
    refine e_fdivA M.seer lk ?_
    refine e_name (i := 1) rfl ?_
    refine e_name (i := 2) rfl ?_
    refine ⟨_, _, rfl, rfl, ?_, ?_⟩
    · exact fun z => Nat.ne_of_gt (gcdP (t := t) hl) (by omega)
    refine ea_nil ?_
    refine ⟨lk, ?_⟩
    have h' : ¬ 0 < l := of_decide_eq_false h
    rw [← ratio_neg t l (by omega)]
    exact q
def F_plus (ds : List PyData) (Pp : PyData → Prop) : Prop := ∃ (p q : Rat) (a b : Nat), ds = [frac p, frac q] ∧ Sz a p ∧ Sz b q ∧ a + b ≤ 134217728 ∧ Pp (frac (p + q))
theorem d_plus (M : Md T) : Ok T "plus" ["one", "two"] 42 (PureSp T.K F_plus) := by
  refine okP M (k := 41) (i := 5) (s := _root_.Hd.s_plus) (N := ["one", "two"]) rfl rfl (by decide +kernel) (fun _ _ _ _ _ _ us hl => match us, hl with | [_, _], _ => rfl) (fun ds Pp h => by obtain ⟨_, _, _, _, rfl, _⟩ := h; rfl) ?_
  rintro ds Pp ⟨p, q, a, b, rfl, s1, s2, hs, qq⟩
  refine ss_cons (s_ret ?_)
  refine e_call (d_ratio M) lk ?_
  refine ea_cons ?_
  refine e_add ?_
  refine e_mulX ?_
  refine e_ix ?_
  refine e_name (i := 0) rfl ?_
  refine e_int ?_
  refine ⟨_, _, _, (by first | exact Or.inl rfl | exact Or.inr rfl), rfl, rfl, ?_⟩
  refine e_ix ?_
  refine e_name (i := 1) rfl ?_
  refine e_int ?_
  refine ⟨_, _, _, (by first | exact Or.inl rfl | exact Or.inr rfl), rfl, rfl, ?_⟩
  refine ⟨_, _, rfl, rfl, ?_, ?_⟩
  · exact s1.nd s2 hs
  refine e_mulX ?_
  refine e_ix ?_
  refine e_name (i := 1) rfl ?_
  refine e_int ?_
  refine ⟨_, _, _, (by first | exact Or.inl rfl | exact Or.inr rfl), rfl, rfl, ?_⟩
  refine e_ix ?_
  refine e_name (i := 0) rfl ?_
  refine e_int ?_
  refine ⟨_, _, _, (by first | exact Or.inl rfl | exact Or.inr rfl), rfl, rfl, ?_⟩
  refine ⟨_, _, rfl, rfl, ?_, ?_⟩
  · exact s2.nd s1 (by omega)
  refine ⟨_, _, rfl, rfl, ?_⟩
  refine ea_cons ?_
  refine e_mulX ?_
  refine e_ix ?_
  refine e_name (i := 0) rfl ?_
  refine e_int ?_
  refine ⟨_, _, _, (by first | exact Or.inl rfl | exact Or.inr rfl), rfl, rfl, ?_⟩
  refine e_ix ?_
  refine e_name (i := 1) rfl ?_
  refine e_int ?_
  refine ⟨_, _, _, (by first | exact Or.inl rfl | exact Or.inr rfl), rfl, rfl, ?_⟩
  refine ⟨_, _, rfl, rfl, ?_, ?_⟩
  · exact s1.dd s2 hs
  refine ea_nil ?_
  refine ⟨_, _, rfl, den_mul0 p q, ?_⟩
  rw [plus_eq]
  exact qq
def F_minus (ds : List PyData) (Pp : PyData → Prop) : Prop := ∃ (p q : Rat) (a b : Nat), ds = [frac p, frac q] ∧ Sz a p ∧ Sz b q ∧ a + b ≤ 134217728 ∧ Pp (frac (p - q))
theorem d_minus (M : Md T) : Ok T "minus" ["one", "two"] 42 (PureSp T.K F_minus) := by
  refine okP M (k := 41) (i := 6) (s := _root_.Hd.s_minus) (N := ["one", "two"]) rfl rfl (by decide +kernel) (fun _ _ _ _ _ _ us hl => match us, hl with | [_, _], _ => rfl) (fun ds Pp h => by obtain ⟨_, _, _, _, rfl, _⟩ := h; rfl) ?_
  rintro ds Pp ⟨p, q, a, b, rfl, s1, s2, hs, qq⟩
  refine ss_cons (s_ret ?_)
  refine e_call (d_ratio M) lk ?_
  refine ea_cons ?_
  refine e_sub ?_
  refine e_mulX ?_
  refine e_ix ?_
  refine e_name (i := 0) rfl ?_
  refine e_int ?_
  refine ⟨_, _, _, (by first | exact Or.inl rfl | exact Or.inr rfl), rfl, rfl, ?_⟩
  refine e_ix ?_
  refine e_name (i := 1) rfl ?_
  refine e_int ?_
  refine ⟨_, _, _, (by first | exact Or.inl rfl | exact Or.inr rfl), rfl, rfl, ?_⟩
  refine ⟨_, _, rfl, rfl, ?_, ?_⟩
  · exact s1.nd s2 hs
  refine e_mulX ?_
  refine e_ix ?_
  refine e_name (i := 1) rfl ?_
  refine e_int ?_
  refine ⟨_, _, _, (by first | exact Or.inl rfl | exact Or.inr rfl), rfl, rfl, ?_⟩
  refine e_ix ?_
  refine e_name (i := 0) rfl ?_
  refine e_int ?_
  refine ⟨_, _, _, (by first | exact Or.inl rfl | exact Or.inr rfl), rfl, rfl, ?_⟩
  refine ⟨_, _, rfl, rfl, ?_, ?_⟩
  · exact s2.nd s1 (by omega)
  refine ⟨_, _, rfl, rfl, ?_⟩
  refine ea_cons ?_
  refine e_mulX ?_
  refine e_ix ?_
  refine e_name (i := 0) rfl ?_
  refine e_int ?_
  refine ⟨_, _, _, (by first | exact Or.inl rfl | exact Or.inr rfl), rfl, rfl, ?_⟩
  refine e_ix ?_
  refine e_name (i := 1) rfl ?_
  refine e_int ?_
  refine ⟨_, _, _, (by first | exact Or.inl rfl | exact Or.inr rfl), rfl, rfl, ?_⟩
  refine ⟨_, _, rfl, rfl, ?_, ?_⟩
  · exact s1.dd s2 hs
  refine ea_nil ?_
  refine ⟨_, _, rfl, den_mul0 p q, ?_⟩
  rw [minus_eq]
  exact qq
def F_times (ds : List PyData) (Pp : PyData → Prop) : Prop := ∃ (p q : Rat) (a b : Nat), ds = [frac p, frac q] ∧ Sz a p ∧ Sz b q ∧ a + b ≤ 134217728 ∧ Pp (frac (p * q))
theorem d_times (M : Md T) : Ok T "times" ["one", "two"] 42 (PureSp T.K F_times) := by
  refine okP M (k := 41) (i := 7) (s := _root_.Hd.s_times) (N := ["one", "two"]) rfl rfl (by decide +kernel) (fun _ _ _ _ _ _ us hl => match us, hl with | [_, _], _ => rfl) (fun ds Pp h => by obtain ⟨_, _, _, _, rfl, _⟩ := h; rfl) ?_
  rintro ds Pp ⟨p, q, a, b, rfl, s1, s2, hs, qq⟩
  refine ss_cons (s_ret ?_)
  refine e_call (d_ratio M) lk ?_
  refine ea_cons ?_
  refine e_mulX ?_
  refine e_ix ?_
  refine e_name (i := 0) rfl ?_
  refine e_int ?_
  refine ⟨_, _, _, (by first | exact Or.inl rfl | exact Or.inr rfl), rfl, rfl, ?_⟩
  refine e_ix ?_
  refine e_name (i := 1) rfl ?_
  refine e_int ?_
  refine ⟨_, _, _, (by first | exact Or.inl rfl | exact Or.inr rfl), rfl, rfl, ?_⟩
  refine ⟨_, _, rfl, rfl, ?_, ?_⟩
  · exact s1.nn s2 hs
  refine ea_cons ?_
  refine e_mulX ?_
  refine e_ix ?_
  refine e_name (i := 0) rfl ?_
  refine e_int ?_
  refine ⟨_, _, _, (by first | exact Or.inl rfl | exact Or.inr rfl), rfl, rfl, ?_⟩
  refine e_ix ?_
  refine e_name (i := 1) rfl ?_
  refine e_int ?_
  refine ⟨_, _, _, (by first | exact Or.inl rfl | exact Or.inr rfl), rfl, rfl, ?_⟩
  refine ⟨_, _, rfl, rfl, ?_, ?_⟩
  · exact s1.dd s2 hs
  refine ea_nil ?_
  refine ⟨_, _, rfl, den_mul0 p q, ?_⟩
  rw [times_eq]
  exact qq
def F_over (ds : List PyData) (Pp : PyData → Prop) : Prop := ∃ (p q : Rat) (a b : Nat), ds = [frac p, frac q] ∧ Sz a p ∧ Sz b q ∧ a + b ≤ 134217728 ∧ q ≠ 0 ∧ Pp (frac (p / q))
theorem d_over (M : Md T) : Ok T "over" ["one", "two"] 42 (PureSp T.K F_over) := by
  refine okP M (k := 41) (i := 8) (s := _root_.Hd.s_over) (N := ["one", "two"]) rfl rfl (by decide +kernel) (fun _ _ _ _ _ _ us hl => match us, hl with | [_, _], _ => rfl) (fun ds Pp h => by obtain ⟨_, _, _, _, rfl, _⟩ := h; rfl) ?_
  rintro ds Pp ⟨p, q, a, b, rfl, s1, s2, hs, h0, qq⟩
  refine ss_cons (s_ret ?_)
  refine e_call (d_ratio M) lk ?_
  refine ea_cons ?_
  refine e_mulX ?_
  refine e_ix ?_
  refine e_name (i := 0) rfl ?_
  refine e_int ?_
  refine ⟨_, _, _, (by first | exact Or.inl rfl | exact Or.inr rfl), rfl, rfl, ?_⟩
  refine e_ix ?_
  refine e_name (i := 1) rfl ?_
  refine e_int ?_
  refine ⟨_, _, _, (by first | exact Or.inl rfl | exact Or.inr rfl), rfl, rfl, ?_⟩
  refine ⟨_, _, rfl, rfl, ?_, ?_⟩
  · exact s1.nd s2 hs
  refine ea_cons ?_
  refine e_mulX ?_
  refine e_ix ?_
  refine e_name (i := 0) rfl ?_
  refine e_int ?_
  refine ⟨_, _, _, (by first | exact Or.inl rfl | exact Or.inr rfl), rfl, rfl, ?_⟩
  refine e_ix ?_
  refine e_name (i := 1) rfl ?_
  refine e_int ?_
  refine ⟨_, _, _, (by first | exact Or.inl rfl | exact Or.inr rfl), rfl, rfl, ?_⟩
  refine ⟨_, _, rfl, rfl, ?_, ?_⟩
  · exact s1.dn s2 hs
  refine ea_nil ?_
  refine ⟨_, _, rfl, over0 p h0, ?_⟩
  rw [over_eq]
  exact qq
def F_is_ratio (ds : List PyData) (Pp : PyData → Prop) : Prop := ∃ q : Rat, ds = [frac q] ∧ Pp (.bool true)
theorem d_is_ratio (M : Md T) : Ok T "is_ratio" ["value"] 42 (PureSp T.K F_is_ratio) := by
  refine okP M (k := 41) (i := 3) (s := _root_.Hd.s_is_ratio) (N := ["value"]) rfl rfl (by decide +kernel) (fun _ _ _ _ _ _ us hl => match us, hl with | [_], _ => rfl) (fun ds Pp h => by obtain ⟨_, rfl, _⟩ := h; rfl) ?_
  rintro ds Pp ⟨q, rfl, qq⟩
  refine ss_cons (s_if ?_)
  refine b_or3 ?_
  refine b_not ?_
  refine b_val ?_
  refine e_call (d_is_tuple_of M) lk ?_
  refine ea_cons ?_
  refine e_name (i := 0) rfl ?_
  refine ea_cons ?_
  refine e_int ?_
  refine ea_nil ?_
  refine ⟨_, _, rfl, ?_⟩
  refine ⟨_, rfl, ?_⟩
  refine ⟨fun _ => ?_, fun h => absurd h Bool.false_ne_true⟩
  refine b_not ?_
  refine b_val ?_
  refine e_call (d_is_whole M) lk ?_
  refine ea_cons ?_
  refine e_ix ?_
  refine e_name (i := 0) rfl ?_
  refine e_int ?_
  refine ⟨_, _, _, (by first | exact Or.inl rfl | exact Or.inr rfl), rfl, rfl, ?_⟩
  refine ea_nil ?_
  refine ⟨_, rfl, ?_⟩
  refine ⟨_, rfl, ?_⟩
  refine ⟨fun _ => ?_, fun h => absurd h Bool.false_ne_true⟩
  refine b_not ?_
  refine b_val ?_
  refine e_call (d_is_whole M) lk ?_
  refine ea_cons ?_
  refine e_ix ?_
  refine e_name (i := 0) rfl ?_
  refine e_int ?_
  refine ⟨_, _, _, (by first | exact Or.inl rfl | exact Or.inr rfl), rfl, rfl, ?_⟩
  refine ea_nil ?_
  refine ⟨_, rfl, ?_⟩
  refine ⟨_, rfl, ?_⟩
  refine ⟨fun h => absurd h Bool.false_ne_true, fun _ => ?_⟩
  refine ss_nil ?_
  refine ss_cons (s_ret ?_)
  refine e_and ?_
  refine e_cmp c_gt ?_ rfl
  refine e_ix ?_
  refine e_name (i := 0) rfl ?_
  refine e_int ?_
  refine ⟨_, _, _, (by first | exact Or.inl rfl | exact Or.inr rfl), rfl, rfl, ?_⟩
  refine e_int ?_
  refine ⟨⟨⟨_, rfl⟩, _, rfl⟩, ?_⟩
  refine ⟨_, rfl, ⟨fun _ => ?_, fun h => absurd h (fun z => of_decide_eq_false z (denP q))⟩⟩
  refine e_cmp c_eq ?_ rfl
  refine e_gcd M.gcd ?_
  refine e_ix ?_
  refine e_name (i := 0) rfl ?_
  refine e_int ?_
  refine ⟨_, _, _, (by first | exact Or.inl rfl | exact Or.inr rfl), rfl, rfl, ?_⟩
  refine e_ix ?_
  refine e_name (i := 0) rfl ?_
  refine e_int ?_
  refine ⟨_, _, _, (by first | exact Or.inl rfl | exact Or.inr rfl), rfl, rfl, ?_⟩
  refine ⟨_, _, rfl, rfl, ?_⟩
  refine e_int ?_
  refine ⟨?_, ?_⟩
  · exact ⟨rfl, rfl⟩
  have e : ((Nat.gcd q.num.natAbs (q.den : Int).natAbs : Nat) : Int) = 1 := by
    rw [Int.natAbs_natCast]
    exact congrArg _ q.reduced
  show Pp (.bool (decide (_ = (1 : Int))))
  rw [e]
  exact qq
def F_total (ds : List PyData) (Pp : PyData → Prop) : Prop := ∃ (xs : List Rat) (n : Nat), ds = [FL xs] ∧ AllS n xs ∧ xs.length * (n + 1) ≤ 134217727 ∧ Pp (frac (sumL xs))
theorem d_total (M : Md T) : Ok T "total" ["fractions"] 43 (PureSp T.K F_total) := by
  refine okP M (k := 42) (i := 9) (s := _root_.Hd.s_total) (N := ["fractions", "found", "each"]) rfl rfl (by decide +kernel) (fun _ _ _ _ _ _ us hl => match us, hl with | [_], _ => rfl) (fun ds Pp h => by obtain ⟨_, _, rfl, _⟩ := h; rfl) ?_
  rintro ds Pp ⟨xs, n, rfl, hs, hb, q⟩
  refine ss_cons (s_set (i := 1) (E.ev ?_))
  refine e_zero M ?_
  refine ss_cons (s_for [2] ?_ tg_name)
  refine it_seq ?_
  refine e_name (i := 0) rfl ?_
  refine ⟨_, (by first | exact Or.inl rfl | exact Or.inr rfl), ?_⟩
  refine ⟨fun i δ' => ∃ acc s, acc = sumL (xs.take i) ∧ Sz (1 + i * (n + 1)) acc ∧ SD.ow s = false ∧ δ' = [.sh (FL xs), .sh (frac acc), s], ⟨0, .any, rfl, Sz.zero (by omega), rfl, rfl⟩, fun i d δ' hd hI => ?_, fun δ' hI => ?_⟩
  · obtain ⟨acc, s, ea, sa, hw, rfl⟩ := hI
    obtain ⟨x, hx, rfl⟩ := map_get hd
    have hi := Nat.mul_le_mul_right (n + 1) (Nat.succ_le_of_lt (get_lt hx))
    rw [Nat.succ_mul] at hi
    refine ⟨_, rfl, by simp [nOw, hw], ?_⟩
    refine ss_cons (s_set (i := 1) (E.ev ?_))
    refine e_call (d_plus M) lk ?_
    refine ea_cons ?_
    refine e_name (i := 1) rfl ?_
    refine ea_cons ?_
    refine e_name (i := 2) rfl ?_
    refine ea_nil ?_
    refine ⟨acc, x, _, _, rfl, sa, hs.at hx, by omega, ?_⟩
    refine ss_nil ?_
    refine ⟨acc + x, .sh (frac x), ?_, (sa.add (hs.at hx)).mono (by rw [Nat.succ_mul]; omega), rfl, rfl⟩
    rw [List.take_add_one, hx, ea]
    exact (sumL_snoc _ _).symm
  · obtain ⟨acc, s, ea, sa, hw, rfl⟩ := hI
    refine ss_cons (s_ret ?_)
    refine e_name (i := 1) rfl ?_
    rw [ea, List.length_map, List.take_length]
    exact q
def F_dot (ds : List PyData) (Pp : PyData → Prop) : Prop := ∃ (xs ys : List Rat) (a b : Nat) (d1 d2 : PyData), ds = [d1, d2] ∧ (d1 = FT xs ∨ d1 = FL xs) ∧ (d2 = FT ys ∨ d2 = FL ys) ∧ AllS a xs ∧ AllS b ys ∧ xs.length ≤ 1000 ∧ (xs.length + 1) * (a + b + 1) ≤ 134217727 ∧ Pp (frac (dotR xs ys))
theorem d_dot (M : Md T) : Ok T "dot" ["one", "two"] 44 (PureSp T.K F_dot) := by
  refine okP M (k := 43) (i := 10) (s := _root_.Hd.s_dot) (N := ["one", "two", "here", "there"]) rfl rfl (by decide +kernel) (fun _ _ _ _ _ _ us hl => match us, hl with | [_, _], _ => rfl) (fun ds Pp h => by obtain ⟨_, _, _, _, _, _, rfl, _⟩ := h; rfl) ?_
  rintro ds Pp ⟨xs, ys, a, b, d1, d2, rfl, h1, h2, s1, s2, hl, hb, q⟩
  refine ss_cons (s_ret ?_)
  refine e_call (d_total M) lk ?_
  refine ea_cons ?_
  refine EF.toE ?_
  refine ef_lc [("here", 2), ("there", 3)] [2, 3] ?_ (tg_tup (tgs_cons tg_name (tgs_cons tg_name tgs_nil)))
  refine it_zip M.b_zip ?_
  refine e_name (i := 0) rfl ?_
  refine e_name (i := 1) rfl ?_
  refine ⟨_, _, h1, h2, ?_⟩
  have hm : (List.zipWith (· * ·) xs ys).length ≤ xs.length := by
    rw [List.length_zipWith]
    omega
  refine Lc0.to ((List.zipWith (· * ·) xs ys).map frac) (by rw [List.length_map, zipD_len, List.length_map, List.length_map, List.length_zipWith]) (by rw [zipD_len, List.length_map]; omega) (fun i d z hd hz => ?_) ?_
  · obtain ⟨x, y, hx, hy, rfl⟩ := zip_get hd
    have ez : z = frac (x * y) := by
      rw [List.getElem?_map, List.getElem?_zipWith, hx, hy] at hz
      exact (Option.some.inj hz).symm
    have hab : 1 * (a + b + 1) ≤ (xs.length + 1) * (a + b + 1) := Nat.mul_le_mul_right _ (by omega)
    refine ⟨_, rfl, ?_⟩
    refine e_call (d_times M) lk ?_
    refine ea_cons ?_
    refine e_name (i := 2) rfl ?_
    refine ea_cons ?_
    refine e_name (i := 3) rfl ?_
    refine ea_nil ?_
    refine ⟨x, y, _, _, rfl, s1.at hx, s2.at hy, by omega, ?_⟩
    exact ez.symm
  · refine ea_nil ?_
    have hk : _ ≤ (xs.length + 1) * (a + b + 1) := Nat.mul_le_mul_right (a + b + 1) (Nat.le_succ_of_le hm)
    refine ⟨_, a + b, rfl, s1.zipMul s2, by omega, ?_⟩
    exact q
def F_is_row (ds : List PyData) (Pp : PyData → Prop) : Prop := ∃ (xs : List Rat) (n : Int), ds = [FT xs, .int n] ∧ (xs.length : Int) = n ∧ xs.length ≤ 1000 ∧ Pp (.bool true)
theorem d_is_row (M : Md T) : Ok T "is_row" ["value", "many"] 43 (PureSp T.K F_is_row) := by
  refine okP M (k := 42) (i := 11) (s := _root_.Hd.s_is_row) (N := ["value", "many", "each"]) rfl rfl (by decide +kernel) (fun _ _ _ _ _ _ us hl => match us, hl with | [_, _], _ => rfl) (fun ds Pp h => by obtain ⟨_, _, rfl, _⟩ := h; rfl) ?_
  rintro ds Pp ⟨xs, n, rfl, hn, hl, q⟩
  refine ss_cons (s_ret ?_)
  refine e_and ?_
  refine e_call (d_is_tuple_of M) lk ?_
  refine ea_cons ?_
  refine e_name (i := 0) rfl ?_
  refine ea_cons ?_
  refine e_name (i := 1) rfl ?_
  refine ea_nil ?_
  refine ⟨_, _, rfl, ?_⟩
  refine ⟨_, rfl, ⟨fun _ => ?_, fun h => absurd h (fun z => of_decide_eq_false z (by rw [List.length_map]; exact hn))⟩⟩
  refine e_all M.b_all ?_
  refine EF.toE ?_
  refine ef_lc [("each", 2)] [2] ?_ tg_name
  refine it_seq ?_
  refine e_name (i := 0) rfl ?_
  refine ⟨_, (by first | exact Or.inl rfl | exact Or.inr rfl), ?_⟩
  refine Lc0.to (List.replicate xs.length (.bool true)) (by rw [List.length_replicate, List.length_map]) (by rw [List.length_map]; omega) (fun i d z hd hz => ?_) ?_
  · obtain ⟨x, hx, rfl⟩ := map_get hd
    refine ⟨_, rfl, ?_⟩
    refine e_call (d_is_ratio M) lk ?_
    refine ea_cons ?_
    refine e_name (i := 2) rfl ?_
    refine ea_nil ?_
    refine ⟨_, rfl, ?_⟩
    exact (List.eq_of_mem_replicate (List.mem_of_getElem? hz)).symm
  · refine ⟨List.replicate xs.length true, by rw [List.map_replicate], ?_⟩
    have e : (List.replicate xs.length true).all id = true := by
      rw [List.all_eq_true]
      intro b hb
      exact List.eq_of_mem_replicate hb
    rw [e]
    exact q
end Pd

/-! text Qb -/
set_option Elab.async false
set_option linter.all false
set_option maxRecDepth 100000
set_option maxHeartbeats 4000000
namespace Pd
open PySem PySem.Spec PyProof.Rows L2 C8
variable {T : Th}
/-! ### trials -/
def F_are_blocks (ds : List PyData) (Pp : PyData → Prop) : Prop := ∃ (bs : List Int) (n : Int), ds = [NT bs, .int n] ∧ (bs = [] ∨ ((bs.length : Int) = n ∧ ∀ b ∈ bs, 0 ≤ b ∧ b ≤ 4)) ∧ bs.length ≤ 1000 ∧ Pp (.bool true)
theorem d_are_blocks (M : Md T) : Ok T "are_blocks" ["value", "many"] 43 (PureSp T.K F_are_blocks) := by
  refine okP M (k := 42) (i := 12) (s := _root_.Hd.s_are_blocks) (N := ["value", "many", "each"]) rfl rfl (by decide +kernel) (fun _ _ _ _ _ _ us hl => match us, hl with | [_, _], _ => rfl) (fun ds Pp h => by obtain ⟨_, _, rfl, _⟩ := h; rfl) ?_
  rintro ds Pp ⟨bs, n, rfl, hb, hl, q⟩
  refine ss_cons (s_if ?_)
  refine b_not ?_
  refine b_val ?_
  refine e_isi_tt M.b_isinstance M.b_tuple ?_
  refine e_name (i := 0) rfl ?_
  refine ⟨⟨_, rfl⟩, ?_⟩
  refine ⟨_, rfl, ?_⟩
  refine ⟨fun h => absurd h Bool.false_ne_true, fun _ => ?_⟩
  refine ss_nil ?_
  refine ss_cons (s_ret ?_)
  refine e_or ?_
  refine e_cmp c_eq ?_ rfl
  refine e_name (i := 0) rfl ?_
  refine e_tup ?_
  refine ea_nil ?_
  refine ⟨lk, ?_⟩
  refine ⟨?_, ?_⟩
  · exact ⟨shaped_ints _, rfl⟩
  refine ⟨_, rfl, ⟨fun e0 => ?_, fun e0 => ?_⟩⟩
  · refine e_and ?_
    refine e_cmp c_eq ?_ rfl
    refine e_len M.b_len ?_
    refine e_name (i := 0) rfl ?_
    refine ⟨_, (by first | exact Or.inl rfl | exact Or.inr rfl), ?_⟩
    refine e_name (i := 1) rfl ?_
    refine ⟨?_, ?_⟩
    · exact ⟨rfl, rfl⟩
    refine ⟨_, rfl, ⟨fun _ => ?_, fun h => absurd h (nf (p := ((bs.map PyData.int).length : Int) = n) (hb.elim (fun z => by subst z; cases e0) fun z => by rw [List.length_map]; exact z.1))⟩⟩
    refine e_all M.b_all ?_
    refine EF.toE ?_
    refine ef_lc [("each", 2)] [2] ?_ tg_name
    refine it_seq ?_
    refine e_name (i := 0) rfl ?_
    refine ⟨_, (by first | exact Or.inl rfl | exact Or.inr rfl), ?_⟩
    refine Lc0.to (List.replicate bs.length (.bool true)) (by rw [List.length_replicate, List.length_map]) (by rw [List.length_map]; omega) (fun i d z hd hz => ?_) ?_
    · obtain ⟨b, hbm, rfl⟩ := map_get hd
      have hbb : 0 ≤ b ∧ b ≤ 4 := hb.elim (fun z => by subst z; cases e0) fun z => z.2 b (List.mem_of_getElem? hbm)
      refine ⟨_, rfl, ?_⟩
      refine e_call (d_is_between M) lk ?_
      refine ea_cons ?_
      refine e_name (i := 2) rfl ?_
      refine ea_cons ?_
      refine e_int ?_
      refine ea_cons ?_
      refine e_MOST_BLOCK M ?_
      refine ea_nil ?_
      refine ⟨b, 0, 4, rfl, hbb.1, hbb.2, ?_⟩
      exact rep_get hz
    · refine ⟨List.replicate bs.length true, by rw [List.map_replicate], ?_⟩
      rw [rep_all]
      exact q
  · exact q
def F_are_plots (ds : List PyData) (Pp : PyData → Prop) : Prop := ∃ (t : Tr) (s u : Nat), ds = [.tuple (t.rows.map FT)] ∧ t.Ok s u ∧ Pp (.bool true)
theorem d_are_plots (M : Md T) : Ok T "are_plots" ["value"] 44 (PureSp T.K F_are_plots) := by
  refine okP M (k := 43) (i := 13) (s := _root_.Hd.s_are_plots) (N := ["value", "row"]) rfl rfl (by decide +kernel) (fun _ _ _ _ _ _ us hl => match us, hl with | [_], _ => rfl) (fun ds Pp h => by obtain ⟨_, _, _, rfl, _⟩ := h; rfl) ?_
  rintro ds Pp ⟨t, s, u, rfl, hk, q⟩
  obtain ⟨r0, rs, er⟩ := hk.cons
  have hn1 := hk.n1
  have hn2 := hk.n10
  have hw := hk.wd
  have hu1 := hk.u1
  have hu5 := hk.u5
  rw [er] at hn1 hn2 hw ⊢
  have hr0 := hw r0 List.mem_cons_self
  refine ss_cons (s_if ?_)
  refine b_or3 ?_
  refine b_not ?_
  refine b_val ?_
  refine e_isi_tt M.b_isinstance M.b_tuple ?_
  refine e_name (i := 0) rfl ?_
  refine ⟨⟨_, rfl⟩, ?_⟩
  refine ⟨_, rfl, ?_⟩
  refine ⟨fun _ => ?_, fun h => absurd h Bool.false_ne_true⟩
  refine b_not ?_
  refine b_chain c_le c_le ?_
  refine e_int ?_
  refine e_len M.b_len ?_
  refine e_name (i := 0) rfl ?_
  refine ⟨_, (by first | exact Or.inl rfl | exact Or.inr rfl), ?_⟩
  refine ⟨⟨⟨_, rfl⟩, _, rfl⟩, ?_⟩
  refine ⟨fun _ => ?_, fun h => absurd h (nf (show (1 : Int) ≤ ((List.map FT (r0 :: rs)).length : Int) by rw [List.length_map]; omega))⟩
  refine e_MOST_PLOTS M ?_
  refine ⟨⟨⟨_, rfl⟩, _, rfl⟩, ?_⟩
  refine ⟨fun _ => ?_, fun h => absurd h (nn (show ((List.map FT (r0 :: rs)).length : Int) ≤ 10 by rw [List.length_map]; omega))⟩
  refine b_not ?_
  refine b_val ?_
  refine e_isi_tt M.b_isinstance M.b_tuple ?_
  refine e_ix ?_
  refine e_name (i := 0) rfl ?_
  refine e_int ?_
  refine ⟨_, _, _, (by first | exact Or.inl rfl | exact Or.inr rfl), rfl, at0 _ _, ?_⟩
  refine ⟨⟨_, rfl⟩, ?_⟩
  refine ⟨_, rfl, ?_⟩
  refine ⟨fun h => absurd h Bool.false_ne_true, fun _ => ?_⟩
  refine ss_nil ?_
  refine ss_cons (s_ret ?_)
  refine e_and ?_
  refine e_chain c_le c_le ?_
  refine e_int ?_
  refine e_len M.b_len ?_
  refine e_ix ?_
  refine e_name (i := 0) rfl ?_
  refine e_int ?_
  refine ⟨_, _, _, (by first | exact Or.inl rfl | exact Or.inr rfl), rfl, at0 _ _, ?_⟩
  refine ⟨_, (by first | exact Or.inl rfl | exact Or.inr rfl), ?_⟩
  refine ⟨⟨⟨_, rfl⟩, _, rfl⟩, ?_⟩
  refine ⟨fun _ => ?_, fun h => absurd h (nf (show (1 : Int) ≤ ((r0.map frac).length : Int) by rw [List.length_map]; omega))⟩
  refine e_MOST_UNKNOWNS M ?_
  refine ⟨⟨⟨_, rfl⟩, _, rfl⟩, ?_⟩
  refine ⟨_, rfl, ⟨fun _ => ?_, fun h => absurd h (nf (show ((r0.map frac).length : Int) ≤ 5 by rw [List.length_map]; omega))⟩⟩
  refine e_all M.b_all ?_
  refine EF.toE ?_
  refine ef_lc [("row", 1)] [1] ?_ tg_name
  refine it_seq ?_
  refine e_name (i := 0) rfl ?_
  refine ⟨_, (by first | exact Or.inl rfl | exact Or.inr rfl), ?_⟩
  refine Lc0.to (List.replicate (r0 :: rs).length (.bool true)) (by rw [List.length_replicate, List.length_map]) (by rw [List.length_map]; omega) (fun i d z hd hz => ?_) ?_
  · obtain ⟨r, hr, rfl⟩ := map_get hd
    have hr' := hw r (List.mem_of_getElem? hr)
    refine ⟨_, rfl, ?_⟩
    refine e_call (d_is_row M) lk ?_
    refine ea_cons ?_
    refine e_name (i := 1) rfl ?_
    refine ea_cons ?_
    refine e_len M.b_len ?_
    refine e_ix ?_
    refine e_name (i := 0) rfl ?_
    refine e_int ?_
    refine ⟨_, _, _, (by first | exact Or.inl rfl | exact Or.inr rfl), rfl, at0 _ _, ?_⟩
    refine ⟨_, (by first | exact Or.inl rfl | exact Or.inr rfl), ?_⟩
    refine ea_nil ?_
    refine ⟨r, _, rfl, by rw [List.length_map]; omega, by omega, ?_⟩
    exact rep_get hz
  · refine ⟨List.replicate (r0 :: rs).length true, by rw [List.map_replicate], ?_⟩
    rw [rep_all]
    exact q
def F_is_trial_by (ds : List PyData) (Pp : PyData → Prop) : Prop := ∃ (t : Tr) (s u : Nat), ds = [t.D] ∧ t.Ok s u ∧ Pp (.bool true)
theorem d_is_trial_by (M : Md T) : Ok T "is_trial_by" ["value"] 45 (PureSp T.K F_is_trial_by) := by
  refine okP M (k := 44) (i := 14) (s := _root_.Hd.s_is_trial_by) (N := ["value", "each"]) rfl rfl (by decide +kernel) (fun _ _ _ _ _ _ us hl => match us, hl with | [_], _ => rfl) (fun ds Pp h => by obtain ⟨_, _, _, rfl, _⟩ := h; rfl) ?_
  rintro ds Pp ⟨t, s, u, rfl, hk, q⟩
  have hn := hk.n10
  have hs := hk.sl
  refine ss_cons (s_if ?_)
  refine b_or3 ?_
  refine b_not ?_
  refine b_val ?_
  refine e_call (d_is_tuple_of M) lk ?_
  refine ea_cons ?_
  refine e_name (i := 0) rfl ?_
  refine ea_cons ?_
  refine e_int ?_
  refine ea_nil ?_
  refine ⟨_, _, rfl, ?_⟩
  refine ⟨_, rfl, ?_⟩
  refine ⟨fun _ => ?_, fun h => absurd h Bool.false_ne_true⟩
  refine b_not ?_
  refine b_val ?_
  refine e_call (d_are_plots M) lk ?_
  refine ea_cons ?_
  refine e_ix ?_
  refine e_name (i := 0) rfl ?_
  refine e_int ?_
  refine ⟨_, _, _, (by first | exact Or.inl rfl | exact Or.inr rfl), rfl, rfl, ?_⟩
  refine ea_nil ?_
  refine ⟨t, s, u, rfl, hk, ?_⟩
  refine ⟨_, rfl, ?_⟩
  refine ⟨fun _ => ?_, fun h => absurd h Bool.false_ne_true⟩
  refine b_not ?_
  refine b_val ?_
  refine e_call (d_is_row M) lk ?_
  refine ea_cons ?_
  refine e_ix ?_
  refine e_name (i := 0) rfl ?_
  refine e_int ?_
  refine ⟨_, _, _, (by first | exact Or.inl rfl | exact Or.inr rfl), rfl, rfl, ?_⟩
  refine ea_cons ?_
  refine e_len M.b_len ?_
  refine e_ix ?_
  refine e_name (i := 0) rfl ?_
  refine e_int ?_
  refine ⟨_, _, _, (by first | exact Or.inl rfl | exact Or.inr rfl), rfl, rfl, ?_⟩
  refine ⟨_, (by first | exact Or.inl rfl | exact Or.inr rfl), ?_⟩
  refine ea_nil ?_
  refine ⟨t.spr, _, rfl, by rw [List.length_map, hs], by omega, ?_⟩
  refine ⟨_, rfl, ?_⟩
  refine ⟨fun h => absurd h Bool.false_ne_true, fun _ => ?_⟩
  refine ss_nil ?_
  refine ss_cons (s_ret ?_)
  refine e_and ?_
  refine e_all M.b_all ?_
  refine EF.toE ?_
  refine ef_lc [("each", 1)] [1] ?_ tg_name
  refine it_seq ?_
  refine e_ix ?_
  refine e_name (i := 0) rfl ?_
  refine e_int ?_
  refine ⟨_, _, _, (by first | exact Or.inl rfl | exact Or.inr rfl), rfl, rfl, ?_⟩
  refine ⟨_, (by first | exact Or.inl rfl | exact Or.inr rfl), ?_⟩
  refine Lc0.to (List.replicate t.spr.length (.bool true)) (by rw [List.length_replicate, List.length_map]) (by rw [List.length_map]; omega) (fun i d z hd hz => ?_) ?_
  · obtain ⟨x, hx, rfl⟩ := map_get hd
    have hp := hk.sp x (List.mem_of_getElem? hx)
    refine ⟨_, rfl, ?_⟩
    refine e_cmp c_gt ?_ rfl
    refine e_ix ?_
    refine e_name (i := 1) rfl ?_
    refine e_int ?_
    refine ⟨_, _, _, (by first | exact Or.inl rfl | exact Or.inr rfl), rfl, rfl, ?_⟩
    refine e_int ?_
    refine ⟨⟨⟨_, rfl⟩, _, rfl⟩, ?_⟩
    have e : decide (0 < x.num) = true := decide_eq_true hp
    show PyData.bool (decide (0 < x.num)) = z
    rw [e]
    exact rep_get hz
  · refine ⟨List.replicate t.spr.length true, by rw [List.map_replicate], ?_⟩
    refine ⟨_, rfl, ⟨fun _ => ?_, fun h => absurd h (by rw [rep_all]; decide)⟩⟩
    refine e_call (d_are_blocks M) lk ?_
    refine ea_cons ?_
    refine e_ix ?_
    refine e_name (i := 0) rfl ?_
    refine e_int ?_
    refine ⟨_, _, _, (by first | exact Or.inl rfl | exact Or.inr rfl), rfl, rfl, ?_⟩
    refine ea_cons ?_
    refine e_len M.b_len ?_
    refine e_ix ?_
    refine e_name (i := 0) rfl ?_
    refine e_int ?_
    refine ⟨_, _, _, (by first | exact Or.inl rfl | exact Or.inr rfl), rfl, rfl, ?_⟩
    refine ⟨_, (by first | exact Or.inl rfl | exact Or.inr rfl), ?_⟩
    refine ea_nil ?_
    refine ⟨t.blk, _, rfl, hk.bl.imp id fun z => ⟨by rw [List.length_map, z.1], z.2⟩, ?_, ?_⟩
    · rcases hk.bl with z | z
      · rw [z]
        exact lk
      · omega
    exact q
def F_many_unknowns (ds : List PyData) (Pp : PyData → Prop) : Prop := ∃ (t : Tr) (s u : Nat), ds = [t.D] ∧ t.Ok s u ∧ Pp (.int u)
theorem d_many_unknowns (M : Md T) : Ok T "many_unknowns" ["trial"] 41 (PureSp T.K F_many_unknowns) := by
  refine okP M (k := 40) (i := 15) (s := _root_.Hd.s_many_unknowns) (N := ["trial"]) rfl rfl (by decide +kernel) (fun _ _ _ _ _ _ us hl => match us, hl with | [_], _ => rfl) (fun ds Pp h => by obtain ⟨_, _, _, rfl, _⟩ := h; rfl) ?_
  rintro ds Pp ⟨t, s, u, rfl, hk, q⟩
  obtain ⟨r0, rs, er⟩ := hk.cons
  have hw := hk.wd
  unfold Tr.D
  rw [er] at hw ⊢
  have hr0 := hw r0 List.mem_cons_self
  refine ss_cons (s_ret ?_)
  refine e_len M.b_len ?_
  refine e_ix ?_
  refine e_ix ?_
  refine e_name (i := 0) rfl ?_
  refine e_int ?_
  refine ⟨_, _, _, (by first | exact Or.inl rfl | exact Or.inr rfl), rfl, rfl, ?_⟩
  refine e_int ?_
  refine ⟨_, _, _, (by first | exact Or.inl rfl | exact Or.inr rfl), rfl, at0 _ _, ?_⟩
  refine ⟨_, (by first | exact Or.inl rfl | exact Or.inr rfl), ?_⟩
  rw [List.length_map, hr0]
  exact q
def F_many_plots (ds : List PyData) (Pp : PyData → Prop) : Prop := ∃ t : Tr, ds = [t.D] ∧ Pp (.int t.rows.length)
theorem d_many_plots (M : Md T) : Ok T "many_plots" ["trial"] 41 (PureSp T.K F_many_plots) := by
  refine okP M (k := 40) (i := 16) (s := _root_.Hd.s_many_plots) (N := ["trial"]) rfl rfl (by decide +kernel) (fun _ _ _ _ _ _ us hl => match us, hl with | [_], _ => rfl) (fun ds Pp h => by obtain ⟨_, rfl, _⟩ := h; rfl) ?_
  rintro ds Pp ⟨t, rfl, q⟩
  refine ss_cons (s_ret ?_)
  refine e_len M.b_len ?_
  refine e_ix ?_
  refine e_name (i := 0) rfl ?_
  refine e_int ?_
  refine ⟨_, _, _, (by first | exact Or.inl rfl | exact Or.inr rfl), rfl, rfl, ?_⟩
  refine ⟨_, (by first | exact Or.inl rfl | exact Or.inr rfl), ?_⟩
  rw [List.length_map]
  exact q
def F_many_levels (ds : List PyData) (Pp : PyData → Prop) : Prop := ∃ (t : Tr) (s u : Nat), ds = [t.D] ∧ t.Ok s u ∧ Pp (.int (lv t.blk))
theorem d_many_levels (M : Md T) : Ok T "many_levels" ["trial"] 41 (PureSp T.K F_many_levels) := by
  refine okP M (k := 40) (i := 17) (s := _root_.Hd.s_many_levels) (N := ["trial"]) rfl rfl (by decide +kernel) (fun _ _ _ _ _ _ us hl => match us, hl with | [_], _ => rfl) (fun ds Pp h => by obtain ⟨_, _, _, rfl, _⟩ := h; rfl) ?_
  rintro ds Pp ⟨t, s, u, rfl, hk, q⟩
  refine ss_cons (s_ret ?_)
  refine e_ifexp ?_
  refine b_cmp c_ne ?_ rfl
  refine e_ix ?_
  refine e_name (i := 0) rfl ?_
  refine e_int ?_
  refine ⟨_, _, _, (by first | exact Or.inl rfl | exact Or.inr rfl), rfl, rfl, ?_⟩
  refine e_tup ?_
  refine ea_nil ?_
  refine ⟨lk, ?_⟩
  refine ⟨?_, ?_⟩
  · exact ⟨shaped_ints _, rfl⟩
  refine ⟨fun h => ?_, fun h => ?_⟩
  · refine e_add ?_
    refine e_maxL M.b_max ?_
    refine e_ix ?_
    refine e_name (i := 0) rfl ?_
    refine e_int ?_
    refine ⟨_, _, _, (by first | exact Or.inl rfl | exact Or.inr rfl), rfl, rfl, ?_⟩
    have hb : ∃ n ns, t.blk = n :: ns := by
      cases e : t.blk with
      | nil =>
        rw [e] at h
        cases h
      | cons n ns => exact ⟨n, ns, rfl⟩
    obtain ⟨n, ns, eb⟩ := hb
    refine ⟨n, ns, .inl (by rw [eb]; rfl), ?_⟩
    refine e_int ?_
    refine ⟨_, _, rfl, rfl, ?_⟩
    rw [eb] at q
    exact q
  · refine e_int ?_
    have hb : t.blk = [] := by
      cases e : t.blk with
      | nil => rfl
      | cons n ns =>
        rw [e] at h
        cases h
    rw [hb] at q
    exact q
def F_is_question_by (ds : List PyData) (Pp : PyData → Prop) : Prop := ∃ (t : Tr) (s u : Nat) (xs : List Rat), ds = [t.D, FT xs] ∧ t.Ok s u ∧ xs.length = u ∧ Pp (.bool true)
theorem d_is_question_by (M : Md T) : Ok T "is_question_by" ["trial", "value"] 44 (PureSp T.K F_is_question_by) := by
  refine okP M (k := 43) (i := 18) (s := _root_.Hd.s_is_question_by) (N := ["trial", "value"]) rfl rfl (by decide +kernel) (fun _ _ _ _ _ _ us hl => match us, hl with | [_, _], _ => rfl) (fun ds Pp h => by obtain ⟨_, _, _, _, rfl, _⟩ := h; rfl) ?_
  rintro ds Pp ⟨t, s, u, xs, rfl, hk, hl, q⟩
  have hu := hk.u5
  refine ss_cons (s_ret ?_)
  refine e_call (d_is_row M) lk ?_
  refine ea_cons ?_
  refine e_name (i := 1) rfl ?_
  refine ea_cons ?_
  refine e_call (d_many_unknowns M) lk ?_
  refine ea_cons ?_
  refine e_name (i := 0) rfl ?_
  refine ea_nil ?_
  refine ⟨t, s, u, rfl, hk, ?_⟩
  refine ea_nil ?_
  refine ⟨xs, _, rfl, by rw [hl], by omega, ?_⟩
  exact q
def F_is_telling_by (ds : List PyData) (Pp : PyData → Prop) : Prop := ∃ (t : Tr) (s u : Nat) (xs : List Rat), ds = [t.D, FT xs] ∧ t.Ok s u ∧ xs.length = t.rows.length ∧ Pp (.bool true)
theorem d_is_telling_by (M : Md T) : Ok T "is_telling_by" ["trial", "value"] 44 (PureSp T.K F_is_telling_by) := by
  refine okP M (k := 43) (i := 19) (s := _root_.Hd.s_is_telling_by) (N := ["trial", "value"]) rfl rfl (by decide +kernel) (fun _ _ _ _ _ _ us hl => match us, hl with | [_, _], _ => rfl) (fun ds Pp h => by obtain ⟨_, _, _, _, rfl, _⟩ := h; rfl) ?_
  rintro ds Pp ⟨t, s, u, xs, rfl, hk, hl, q⟩
  have hu := hk.n10
  refine ss_cons (s_ret ?_)
  refine e_call (d_is_row M) lk ?_
  refine ea_cons ?_
  refine e_name (i := 1) rfl ?_
  refine ea_cons ?_
  refine e_call (d_many_plots M) lk ?_
  refine ea_cons ?_
  refine e_name (i := 0) rfl ?_
  refine ea_nil ?_
  refine ⟨t, rfl, ?_⟩
  refine ea_nil ?_
  refine ⟨xs, _, rfl, by rw [hl], by omega, ?_⟩
  exact q
end Pd

/-! text Qc -/
set_option Elab.async false
set_option linter.all false
set_option maxRecDepth 100000
set_option maxHeartbeats 4000000
namespace Pd
open PySem PySem.Spec PyProof.Rows L2 C8
variable {T : Th}
/-! ### lots, wide rows, checks -/
def F_wrong_in_lot (ds : List PyData) (Pp : PyData → Prop) : Prop := ∃ (L : List Nat) (n : Nat), ds = [.int n, PT L] ∧ Lot n L ∧ L ≠ [] ∧ n ≤ 1000 ∧ Pp (.list [])
theorem d_wrong_in_lot (M : Md T) : Ok T "wrong_in_lot" ["many", "value"] 43 (PureSp T.K F_wrong_in_lot) := by
  refine okP M (k := 42) (i := 20) (s := _root_.Hd.s_wrong_in_lot) (N := ["many", "value", "index", "each"]) rfl rfl (by decide +kernel) (fun _ _ _ _ _ _ us hl => match us, hl with | [_, _], _ => rfl) (fun ds Pp h => by obtain ⟨_, _, rfl, _⟩ := h; rfl) ?_
  rintro ds Pp ⟨L, n, rfl, hL, h0, hn, q⟩
  refine ss_cons (s_if ?_)
  refine b_or ?_
  refine b_not ?_
  refine b_val ?_
  refine e_isi_tt M.b_isinstance M.b_tuple ?_
  refine e_name (i := 1) rfl ?_
  refine ⟨⟨_, rfl⟩, ?_⟩
  refine ⟨_, rfl, ?_⟩
  refine ⟨fun _ => ?_, fun h => absurd h Bool.false_ne_true⟩
  refine b_cmp c_eq ?_ rfl
  refine e_name (i := 1) rfl ?_
  refine e_tup ?_
  refine ea_nil ?_
  refine ⟨lk, ?_⟩
  refine ⟨?_, ?_⟩
  · exact ⟨shaped_PT _, rfl⟩
  refine ⟨fun h => absurd h (by rw [eqv_PT h0]; decide), fun _ => ?_⟩
  refine ss_nil ?_
  refine ss_cons (s_for [2, 3] ?_ (tg_tup (tgs_cons tg_name (tgs_cons tg_name tgs_nil))))
  refine it_enum M.b_enumerate ?_
  refine e_name (i := 1) rfl ?_
  refine ⟨_, (by first | exact Or.inl rfl | exact Or.inr rfl), ?_⟩
  refine ⟨fun i δ' => ∃ s1 s2, SD.ow s1 = false ∧ SD.ow s2 = false ∧ δ' = [.sh (.int n), .sh (PT L), s1, s2], ⟨.any, .any, rfl, rfl, rfl⟩, fun i d δ' hd hI => ?_, fun δ' hI => ?_⟩
  · obtain ⟨s1, s2, w1, w2, rfl⟩ := hI
    obtain ⟨p, hp, rfl⟩ := enum_get hd
    have hpn := hL.2 p (List.mem_of_getElem? hp)
    refine ⟨_, rfl, by simp [nOw, w1, w2], ?_⟩
    refine ss_cons (s_if ?_)
    refine b_or ?_
    refine b_not ?_
    refine b_val ?_
    refine e_call (d_is_between M) lk ?_
    refine ea_cons ?_
    refine e_name (i := 3) rfl ?_
    refine ea_cons ?_
    refine e_int ?_
    refine ea_cons ?_
    refine e_sub ?_
    refine e_name (i := 0) rfl ?_
    refine e_int ?_
    refine ⟨_, _, rfl, rfl, ?_⟩
    refine ea_nil ?_
    refine ⟨_, _, _, rfl, by omega, by omega, ?_⟩
    refine ⟨_, rfl, ?_⟩
    refine ⟨fun _ => ?_, fun h => absurd h Bool.false_ne_true⟩
    refine b_and ?_
    refine b_cmp c_gt ?_ rfl
    refine e_name (i := 2) rfl ?_
    refine e_int ?_
    refine ⟨⟨⟨_, rfl⟩, _, rfl⟩, ?_⟩
    refine ⟨fun h1 => ?_, fun h1 => ?_⟩
    · refine b_cmp c_ge ?_ rfl
      refine e_ix ?_
      refine e_name (i := 1) rfl ?_
      refine e_sub ?_
      refine e_name (i := 2) rfl ?_
      refine e_int ?_
      refine ⟨_, _, rfl, rfl, ?_⟩
      obtain ⟨k, rfl⟩ : ∃ k, i = k + 1 := ⟨i - 1, by have : (0 : Int) < (i : Int) := of_decide_eq_true h1; omega⟩
      obtain ⟨p0, hk⟩ : ∃ p0, L[k]? = some p0 := ⟨_, List.getElem?_eq_getElem (by have := get_lt hp; omega)⟩
      have hlt := hL.lt hk hp
      refine ⟨_, _, .int ((p0 : Nat) : Int), .inl rfl, rfl, ?_, ?_⟩
      · have e : ((k + 1 : Nat) : Int) - 1 = (k : Int) := by omega
        rw [e]
        exact at_map hk
      refine e_name (i := 3) rfl ?_
      refine ⟨⟨⟨_, rfl⟩, _, rfl⟩, ?_⟩
      refine ⟨fun h => absurd h (nt (p := (p : Int) ≤ ((p0 : Nat) : Int)) (by omega)), fun _ => ?_⟩
      refine ss_nil ?_
      refine ss_nil ?_
      exact ⟨.sh (.int (k + 1 : Nat)), .sh (.int p), rfl, rfl, rfl⟩
    · refine ⟨fun h => absurd h Bool.false_ne_true, fun _ => ?_⟩
      refine ss_nil ?_
      refine ss_nil ?_
      exact ⟨.sh (.int i), .sh (.int p), rfl, rfl, rfl⟩
  · obtain ⟨s1, s2, w1, w2, rfl⟩ := hI
    refine ss_cons (s_ret ?_)
    refine EF.toE ?_
    refine ef_lst ?_
    refine ea_nil ?_
    refine ⟨lk, ?_⟩
    exact q
def F_plots_by (ds : List PyData) (Pp : PyData → Prop) : Prop := ∃ (t : Tr) (s u : Nat) (L : List Nat), ds = [t.D, PT L] ∧ t.Ok s u ∧ Lot t.rows.length L ∧ Pp (sub t L).D
theorem d_plots_by (M : Md T) : Ok T "plots_by" ["trial", "lot"] 41 (PureSp T.K F_plots_by) := by
  refine okP M (k := 40) (i := 21) (s := _root_.Hd.s_plots_by) (N := ["trial", "lot", "rows", "spreads", "blocks", "told", "plot"]) rfl rfl (by decide +kernel) (fun _ _ _ _ _ _ us hl => match us, hl with | [_, _], _ => rfl) (fun ds Pp h => by obtain ⟨_, _, _, _, rfl, _⟩ := h; rfl) ?_
  rintro ds Pp ⟨t, s, u, L, rfl, hk, hL, q⟩
  have hl := hL.len
  have hn := hk.n10
  refine ss_cons (s_unp (js := [2, 3, 4]) ?_ (tg_tup (tgs_cons tg_name (tgs_cons tg_name (tgs_cons tg_name tgs_nil)))))
  refine e_name (i := 0) rfl ?_
  refine ⟨_, rfl, ?_⟩
  refine ss_cons (s_set (i := 5) (E.ev ?_))
  refine e_ifexp ?_
  refine b_cmp c_ne ?_ rfl
  refine e_name (i := 4) rfl ?_
  refine e_tup ?_
  refine ea_nil ?_
  refine ⟨lk, ?_⟩
  refine ⟨?_, ?_⟩
  · exact ⟨shaped_ints _, rfl⟩
  refine ⟨fun hb => ?_, fun hb => ?_⟩
  · refine e_tuple M.b_tuple ?_
    refine EF.toE ?_
    refine ef_lc [("plot", 6)] [6] ?_ tg_name
    refine it_seq ?_
    refine e_name (i := 1) rfl ?_
    refine ⟨_, (by first | exact Or.inl rfl | exact Or.inr rfl), ?_⟩
    have hb' : t.blk ≠ [] := fun z => by
      rw [z] at hb
      cases hb
    have hbl : t.blk.length = t.rows.length := hk.bl.elim (fun z => absurd z hb') fun z => z.1
    refine Lc0.to ((L.map fun p => t.blk.getD p 0).map .int) (by rw [List.length_map, List.length_map, List.length_map]) (by rw [List.length_map]; omega) (fun i d z hd hz => ?_) ?_
    · obtain ⟨p, hp, rfl⟩ := map_get hd
      obtain ⟨b, hb, rfl⟩ := map_get hz
      obtain ⟨p', hp', rfl⟩ := map_get hb
      rw [hp] at hp'
      cases hp'
      have hpn := hL.2 p (List.mem_of_getElem? hp)
      refine ⟨_, rfl, ?_⟩
      refine e_ix ?_
      refine e_name (i := 4) rfl ?_
      refine e_name (i := 6) rfl ?_
      refine ⟨_, _, _, .inl rfl, rfl, at_map (getD_get (d := 0) (by rw [hbl]; exact hpn)), ?_⟩
      exact rfl
    · refine ⟨_, (by first | exact Or.inl rfl | exact Or.inr rfl), ?_⟩
      refine ss_cons (s_ret ?_)
      refine e_tup ?_
      refine ea_cons ?_
      refine e_tuple M.b_tuple ?_
      refine EF.toE ?_
      refine ef_lc [("plot", 6)] [6] ?_ tg_name
      refine it_seq ?_
      refine e_name (i := 1) rfl ?_
      refine ⟨_, (by first | exact Or.inl rfl | exact Or.inr rfl), ?_⟩
      refine Lc0.to ((L.map fun p => t.rows.getD p []).map FT) (by rw [List.length_map, List.length_map, List.length_map]) (by rw [List.length_map]; omega) (fun i d z hd hz => ?_) ?_
      · obtain ⟨p, hp, rfl⟩ := map_get hd
        obtain ⟨b, hb, rfl⟩ := map_get hz
        obtain ⟨p', hp', rfl⟩ := map_get hb
        rw [hp] at hp'
        cases hp'
        have hpn := hL.2 p (List.mem_of_getElem? hp)
        refine ⟨_, rfl, ?_⟩
        refine e_ix ?_
        refine e_name (i := 2) rfl ?_
        refine e_name (i := 6) rfl ?_
        refine ⟨_, _, _, .inl rfl, rfl, at_map (getD_get (d := []) (by exact hpn)), ?_⟩
        exact rfl
      · refine ⟨_, (by first | exact Or.inl rfl | exact Or.inr rfl), ?_⟩
        refine ea_cons ?_
        refine e_tuple M.b_tuple ?_
        refine EF.toE ?_
        refine ef_lc [("plot", 6)] [6] ?_ tg_name
        refine it_seq ?_
        refine e_name (i := 1) rfl ?_
        refine ⟨_, (by first | exact Or.inl rfl | exact Or.inr rfl), ?_⟩
        refine Lc0.to ((L.map fun p => t.spr.getD p 0).map frac) (by rw [List.length_map, List.length_map, List.length_map]) (by rw [List.length_map]; omega) (fun i d z hd hz => ?_) ?_
        · obtain ⟨p, hp, rfl⟩ := map_get hd
          obtain ⟨b, hb, rfl⟩ := map_get hz
          obtain ⟨p', hp', rfl⟩ := map_get hb
          rw [hp] at hp'
          cases hp'
          have hpn := hL.2 p (List.mem_of_getElem? hp)
          refine ⟨_, rfl, ?_⟩
          refine e_ix ?_
          refine e_name (i := 3) rfl ?_
          refine e_name (i := 6) rfl ?_
          refine ⟨_, _, _, .inl rfl, rfl, at_map (getD_get (d := 0) (by rw [hk.sl]; exact hpn)), ?_⟩
          exact rfl
        · refine ⟨_, (by first | exact Or.inl rfl | exact Or.inr rfl), ?_⟩
          refine ea_cons ?_
          refine e_name (i := 5) rfl ?_
          refine ea_nil ?_
          refine ⟨lk, ?_⟩
          have e : (sub t L).D = .tuple [.tuple ((L.map fun p => t.rows.getD p []).map FT), .tuple ((L.map fun p => t.spr.getD p 0).map frac), .tuple ((L.map fun p => t.blk.getD p 0).map .int)] := by
            unfold sub Tr.D
            rw [if_neg hb']
            rfl
          rw [← e]
          exact q
  · refine e_tup ?_
    refine ea_nil ?_
    refine ⟨lk, ?_⟩
    refine ss_cons (s_ret ?_)
    refine e_tup ?_
    refine ea_cons ?_
    refine e_tuple M.b_tuple ?_
    refine EF.toE ?_
    refine ef_lc [("plot", 6)] [6] ?_ tg_name
    refine it_seq ?_
    refine e_name (i := 1) rfl ?_
    refine ⟨_, (by first | exact Or.inl rfl | exact Or.inr rfl), ?_⟩
    refine Lc0.to ((L.map fun p => t.rows.getD p []).map FT) (by rw [List.length_map, List.length_map, List.length_map]) (by rw [List.length_map]; omega) (fun i d z hd hz => ?_) ?_
    · obtain ⟨p, hp, rfl⟩ := map_get hd
      obtain ⟨b, hb, rfl⟩ := map_get hz
      obtain ⟨p', hp', rfl⟩ := map_get hb
      rw [hp] at hp'
      cases hp'
      have hpn := hL.2 p (List.mem_of_getElem? hp)
      refine ⟨_, rfl, ?_⟩
      refine e_ix ?_
      refine e_name (i := 2) rfl ?_
      refine e_name (i := 6) rfl ?_
      refine ⟨_, _, _, .inl rfl, rfl, at_map (getD_get (d := []) (by exact hpn)), ?_⟩
      exact rfl
    · refine ⟨_, (by first | exact Or.inl rfl | exact Or.inr rfl), ?_⟩
      refine ea_cons ?_
      refine e_tuple M.b_tuple ?_
      refine EF.toE ?_
      refine ef_lc [("plot", 6)] [6] ?_ tg_name
      refine it_seq ?_
      refine e_name (i := 1) rfl ?_
      refine ⟨_, (by first | exact Or.inl rfl | exact Or.inr rfl), ?_⟩
      refine Lc0.to ((L.map fun p => t.spr.getD p 0).map frac) (by rw [List.length_map, List.length_map, List.length_map]) (by rw [List.length_map]; omega) (fun i d z hd hz => ?_) ?_
      · obtain ⟨p, hp, rfl⟩ := map_get hd
        obtain ⟨b, hb, rfl⟩ := map_get hz
        obtain ⟨p', hp', rfl⟩ := map_get hb
        rw [hp] at hp'
        cases hp'
        have hpn := hL.2 p (List.mem_of_getElem? hp)
        refine ⟨_, rfl, ?_⟩
        refine e_ix ?_
        refine e_name (i := 3) rfl ?_
        refine e_name (i := 6) rfl ?_
        refine ⟨_, _, _, .inl rfl, rfl, at_map (getD_get (d := 0) (by rw [hk.sl]; exact hpn)), ?_⟩
        exact rfl
      · refine ⟨_, (by first | exact Or.inl rfl | exact Or.inr rfl), ?_⟩
        refine ea_cons ?_
        refine e_name (i := 5) rfl ?_
        refine ea_nil ?_
        refine ⟨lk, ?_⟩
        have hb' : t.blk = [] := by
          cases e : t.blk with
          | nil => rfl
          | cons n ns =>
            rw [e] at hb
            cases hb
        have e : (sub t L).D = .tuple [.tuple ((L.map fun p => t.rows.getD p []).map FT), .tuple ((L.map fun p => t.spr.getD p 0).map frac), .tuple []] := by
          unfold sub Tr.D
          rw [if_pos hb']
          rfl
        rw [← e]
        exact q
def F_whole_rows (ds : List PyData) (Pp : PyData → Prop) : Prop := ∃ (t : Tr) (s u : Nat), ds = [t.D] ∧ t.Ok s u ∧ Pp (.list ((wide t).map FL))
theorem d_whole_rows (M : Md T) : Ok T "whole_rows" ["trial"] 42 (PureSp T.K F_whole_rows) := by
  refine okP M (k := 41) (i := 22) (s := _root_.Hd.s_whole_rows) (N := ["trial", "levels", "plot", "row", "level"]) rfl rfl (by decide +kernel) (fun _ _ _ _ _ _ us hl => match us, hl with | [_], _ => rfl) (fun ds Pp h => by obtain ⟨_, _, _, rfl, _⟩ := h; rfl) ?_
  rintro ds Pp ⟨t, s, u, rfl, hk, q⟩
  have hn := hk.n10
  obtain ⟨v1, v2, v3⟩ := hk.lv
  refine ss_cons (s_set (i := 1) (ev_range M.b_range ?_))
  refine e_call (d_many_levels M) lk ?_
  refine ea_cons ?_
  refine e_name (i := 0) rfl ?_
  refine ea_nil ?_
  refine ⟨t, s, u, rfl, hk, ?_⟩
  refine ⟨_, rfl, ?_⟩
  refine ss_cons (s_ret ?_)
  refine EF.toE ?_
  refine ef_lc [("plot", 2), ("row", 3)] [2, 3] ?_ (tg_tup (tgs_cons tg_name (tgs_cons tg_name tgs_nil)))
  refine it_enum M.b_enumerate ?_
  refine e_ix ?_
  refine e_name (i := 0) rfl ?_
  refine e_int ?_
  refine ⟨_, _, _, (by first | exact Or.inl rfl | exact Or.inr rfl), rfl, rfl, ?_⟩
  refine ⟨_, (by first | exact Or.inl rfl | exact Or.inr rfl), ?_⟩
  refine Lc0.to ((wide t).map FL) (by rw [List.length_map, wide_len, enumD_len, List.length_map]) (by rw [enumD_len, List.length_map]; omega) (fun i d z hd hz => ?_) ?_
  · obtain ⟨r, hr, rfl⟩ := enum_get hd
    have ez : z = FL (r ++ lvRow t.blk i) := by
      rw [List.getElem?_map, wide_get hr] at hz
      exact (Option.some.inj hz).symm
    have hi := get_lt hr
    have hru := hk.wd r (List.mem_of_getElem? hr)
    have hu5 := hk.u5
    refine ⟨_, rfl, ?_⟩
    refine EF.toE ?_
    refine ef_lst ?_
    refine ea_star ?_
    refine e_name (i := 3) rfl ?_
    refine ⟨_, (by first | exact Or.inl rfl | exact Or.inr rfl), ?_⟩
    refine ea_star ?_
    refine EF.toE ?_
    refine ef_lc [("level", 4)] [4] ?_ tg_name
    refine it_rng (i := 1) rfl ?_ ?_
    · exact ⟨by decide, by decide, by omega, by omega⟩
    refine Lc0.to ((lvRow t.blk i).map frac) (by rw [List.length_map, lvRow_len, rgL_len, Int.sub_zero]) (by rw [rgL_len]; omega) (fun l d z hd hz => ?_) ?_
    · obtain ⟨hl, rfl⟩ := rgL_get hd
      obtain ⟨y, hy, rfl⟩ := map_get hz
      obtain ⟨l', hl', rfl⟩ := map_get hy
      have el : l' = l := by
        have := get_lt hl'
        rw [List.length_range] at this
        rw [List.getElem?_range this] at hl'
        exact (Option.some.inj hl').symm
      subst el
      have hb : t.blk.length = t.rows.length := hk.bl.elim (fun z => by rw [z] at hl; exact absurd hl (by simp [lv])) fun z => z.1
      obtain ⟨b, eb⟩ : ∃ b, t.blk[i]? = some b := ⟨_, List.getElem?_eq_getElem (by omega)⟩
      refine ⟨_, rfl, ?_⟩
      refine e_ifexp ?_
      refine b_cmp c_eq ?_ rfl
      refine e_ix ?_
      refine e_ix ?_
      refine e_name (i := 0) rfl ?_
      refine e_int ?_
      refine ⟨_, _, _, (by first | exact Or.inl rfl | exact Or.inr rfl), rfl, rfl, ?_⟩
      refine e_name (i := 2) rfl ?_
      refine ⟨_, _, _, .inl rfl, rfl, at_map eb, ?_⟩
      refine e_name (i := 4) rfl ?_
      refine ⟨?_, ?_⟩
      · exact ⟨rfl, rfl⟩
      refine ⟨fun hbl => ?_, fun hbl => ?_⟩
      · refine e_one M ?_
        have e : b = 0 + ((l' : Nat) : Int) := of_decide_eq_true hbl
        rw [if_pos (by rw [eb, e, Int.zero_add])]
      · refine e_zero M ?_
        have e : ¬ b = 0 + ((l' : Nat) : Int) := of_decide_eq_false hbl
        rw [if_neg (by rw [eb]; intro z; exact e (by rw [Option.some.inj z, Int.zero_add]))]
    · refine ⟨_, (by first | exact Or.inl rfl | exact Or.inr rfl), ?_⟩
      refine ea_nil ?_
      refine ⟨?_, ?_⟩
      · rw [List.length_append, List.length_append, List.length_map, List.length_map, lvRow_len]
        simp only [List.length_nil]
        omega
      rw [ez]
      unfold FL
      rw [List.append_nil, List.map_append]
  · exact q
def F_whole_question (ds : List PyData) (Pp : PyData → Prop) : Prop := ∃ (t : Tr) (s u : Nat) (xs : List Rat), ds = [t.D, FT xs] ∧ t.Ok s u ∧ xs.length = u ∧ Pp (FL (wideQ t xs))
theorem d_whole_question (M : Md T) : Ok T "whole_question" ["trial", "question"] 42 (PureSp T.K F_whole_question) := by
  refine okP M (k := 41) (i := 23) (s := _root_.Hd.s_whole_question) (N := ["trial", "question"]) rfl rfl (by decide +kernel) (fun _ _ _ _ _ _ us hl => match us, hl with | [_, _], _ => rfl) (fun ds Pp h => by obtain ⟨_, _, _, _, rfl, _⟩ := h; rfl) ?_
  rintro ds Pp ⟨t, s, u, xs, rfl, hk, hl, q⟩
  have hu5 := hk.u5
  obtain ⟨v1, v2, v3⟩ := hk.lv
  refine ss_cons (s_ret ?_)
  refine EF.toE ?_
  refine ef_lst ?_
  refine ea_star ?_
  refine e_name (i := 1) rfl ?_
  refine ⟨_, (by first | exact Or.inl rfl | exact Or.inr rfl), ?_⟩
  refine ea_star ?_
  refine EF.toE ?_
  refine ef_rep ?_
  refine ef_lst ?_
  refine ea_cons ?_
  refine e_zero M ?_
  refine ea_nil ?_
  refine ⟨lk, ?_⟩
  refine e_call (d_many_levels M) lk ?_
  refine ea_cons ?_
  refine e_name (i := 0) rfl ?_
  refine ea_nil ?_
  refine ⟨t, s, u, rfl, hk, ?_⟩
  refine ⟨_, rfl, v1, by omega, lk, ?_⟩
  refine ⟨_, (by first | exact Or.inl rfl | exact Or.inr rfl), ?_⟩
  refine ea_nil ?_
  refine ⟨?_, ?_⟩
  · rw [rep1, List.length_append, List.length_append, List.length_map, List.length_replicate]
    simp only [List.length_nil]
    omega
  have e : FL (wideQ t xs) = .list (xs.map frac ++ ((List.replicate (lv t.blk).toNat [frac 0]).flatten ++ [])) := by
    unfold FL wideQ
    rw [rep1, List.append_nil, List.map_append, List.map_replicate]
  rw [← e]
  exact q
def F_check_trial (ds : List PyData) (Pp : PyData → Prop) : Prop := ∃ (t : Tr) (s u : Nat), ds = [t.D] ∧ t.Ok s u ∧ Pp .none
theorem d_check_trial (M : Md T) : Ok T "check_trial" ["value"] 46 (PureSp T.K F_check_trial) := by
  refine okP M (k := 45) (i := 24) (s := _root_.Hd.s_check_trial) (N := ["value"]) rfl rfl (by decide +kernel) (fun _ _ _ _ _ _ us hl => match us, hl with | [_], _ => rfl) (fun ds Pp h => by obtain ⟨_, _, _, rfl, _⟩ := h; rfl) ?_
  rintro ds Pp ⟨t, s, u, rfl, hk, q⟩
  refine ss_cons (s_if ?_)
  refine b_not ?_
  refine b_val ?_
  refine e_call (d_is_trial_by M) lk ?_
  refine ea_cons ?_
  refine e_name (i := 0) rfl ?_
  refine ea_nil ?_
  refine ⟨t, s, u, rfl, hk, ?_⟩
  refine ⟨_, rfl, ?_⟩
  refine ⟨fun h => absurd h Bool.false_ne_true, fun _ => ?_⟩
  refine ss_nil ?_
  refine ss_nil ?_
  exact q
def F_check_question (ds : List PyData) (Pp : PyData → Prop) : Prop := ∃ (t : Tr) (s u : Nat) (xs : List Rat), ds = [t.D, FT xs] ∧ t.Ok s u ∧ xs.length = u ∧ Pp .none
theorem d_check_question (M : Md T) : Ok T "check_question" ["trial", "value"] 45 (PureSp T.K F_check_question) := by
  refine okP M (k := 44) (i := 25) (s := _root_.Hd.s_check_question) (N := ["trial", "value"]) rfl rfl (by decide +kernel) (fun _ _ _ _ _ _ us hl => match us, hl with | [_, _], _ => rfl) (fun ds Pp h => by obtain ⟨_, _, _, _, rfl, _⟩ := h; rfl) ?_
  rintro ds Pp ⟨t, s, u, xs, rfl, hk, hl, q⟩
  refine ss_cons (s_if ?_)
  refine b_not ?_
  refine b_val ?_
  refine e_call (d_is_question_by M) lk ?_
  refine ea_cons ?_
  refine e_name (i := 0) rfl ?_
  refine ea_cons ?_
  refine e_name (i := 1) rfl ?_
  refine ea_nil ?_
  refine ⟨t, s, u, xs, rfl, hk, hl, ?_⟩
  refine ⟨_, rfl, ?_⟩
  refine ⟨fun h => absurd h Bool.false_ne_true, fun _ => ?_⟩
  refine ss_nil ?_
  refine ss_nil ?_
  exact q
def F_check_asked (ds : List PyData) (Pp : PyData → Prop) : Prop := ∃ (t : Tr) (s u : Nat) (xs : List Rat), ds = [t.D, FT xs] ∧ t.Ok s u ∧ xs.length = u ∧ Pp .none
theorem d_check_asked (M : Md T) : Ok T "check_asked" ["trial", "question"] 47 (PureSp T.K F_check_asked) := by
  refine okP M (k := 46) (i := 26) (s := _root_.Hd.s_check_asked) (N := ["trial", "question"]) rfl rfl (by decide +kernel) (fun _ _ _ _ _ _ us hl => match us, hl with | [_, _], _ => rfl) (fun ds Pp h => by obtain ⟨_, _, _, _, rfl, _⟩ := h; rfl) ?_
  rintro ds Pp ⟨t, s, u, xs, rfl, hk, hl, q⟩
  refine ss_cons (s_expr ?_)
  refine e_call (d_check_trial M) lk ?_
  refine ea_cons ?_
  refine e_name (i := 0) rfl ?_
  refine ea_nil ?_
  refine ⟨t, s, u, rfl, hk, ?_⟩
  refine ss_cons (s_expr ?_)
  refine e_call (d_check_question M) lk ?_
  refine ea_cons ?_
  refine e_name (i := 0) rfl ?_
  refine ea_cons ?_
  refine e_name (i := 1) rfl ?_
  refine ea_nil ?_
  refine ⟨t, s, u, xs, rfl, hk, hl, ?_⟩
  refine ss_nil ?_
  exact q
def F_check_telling (ds : List PyData) (Pp : PyData → Prop) : Prop := ∃ (t : Tr) (s u : Nat) (xs : List Rat), ds = [t.D, FT xs] ∧ t.Ok s u ∧ xs.length = t.rows.length ∧ Pp .none
theorem d_check_telling (M : Md T) : Ok T "check_telling" ["trial", "value"] 45 (PureSp T.K F_check_telling) := by
  refine okP M (k := 44) (i := 27) (s := _root_.Hd.s_check_telling) (N := ["trial", "value"]) rfl rfl (by decide +kernel) (fun _ _ _ _ _ _ us hl => match us, hl with | [_, _], _ => rfl) (fun ds Pp h => by obtain ⟨_, _, _, _, rfl, _⟩ := h; rfl) ?_
  rintro ds Pp ⟨t, s, u, xs, rfl, hk, hl, q⟩
  refine ss_cons (s_if ?_)
  refine b_not ?_
  refine b_val ?_
  refine e_call (d_is_telling_by M) lk ?_
  refine ea_cons ?_
  refine e_name (i := 0) rfl ?_
  refine ea_cons ?_
  refine e_name (i := 1) rfl ?_
  refine ea_nil ?_
  refine ⟨t, s, u, xs, rfl, hk, hl, ?_⟩
  refine ⟨_, rfl, ?_⟩
  refine ⟨fun h => absurd h Bool.false_ne_true, fun _ => ?_⟩
  refine ss_nil ?_
  refine ss_nil ?_
  exact q
def F_check_lot (ds : List PyData) (Pp : PyData → Prop) : Prop := ∃ (t : Tr) (s u : Nat) (L : List Nat), ds = [t.D, PT L] ∧ t.Ok s u ∧ Lot t.rows.length L ∧ L ≠ [] ∧ Pp .none
theorem d_check_lot (M : Md T) : Ok T "check_lot" ["trial", "value"] 44 (PureSp T.K F_check_lot) := by
  refine okP M (k := 43) (i := 28) (s := _root_.Hd.s_check_lot) (N := ["trial", "value", "index"]) rfl rfl (by decide +kernel) (fun _ _ _ _ _ _ us hl => match us, hl with | [_, _], _ => rfl) (fun ds Pp h => by obtain ⟨_, _, _, _, rfl, _⟩ := h; rfl) ?_
  rintro ds Pp ⟨t, s, u, L, rfl, hk, hL, h0, q⟩
  have hn := hk.n10
  refine ss_cons (s_for [2] ?_ tg_name)
  refine it_seq ?_
  refine e_call (d_wrong_in_lot M) lk ?_
  refine ea_cons ?_
  refine e_call (d_many_plots M) lk ?_
  refine ea_cons ?_
  refine e_name (i := 0) rfl ?_
  refine ea_nil ?_
  refine ⟨t, rfl, ?_⟩
  refine ea_cons ?_
  refine e_name (i := 1) rfl ?_
  refine ea_nil ?_
  refine ⟨L, _, rfl, hL, h0, by omega, ?_⟩
  refine ⟨_, (by first | exact Or.inl rfl | exact Or.inr rfl), ?_⟩
  refine ⟨fun i δ' => δ' = [.sh t.D, .sh (PT L), .any], rfl, fun i d δ' hd _ => ?_, fun δ' hI => ?_⟩
  · exact absurd hd (by simp)
    -- not reached
  · refine ss_nil ?_
    exact q
def F_check_many (ds : List PyData) (Pp : PyData → Prop) : Prop := ∃ i a b : Int, ds = [.int i, .int a, .int b] ∧ a ≤ i ∧ i ≤ b ∧ Pp .none
theorem d_check_many (M : Md T) : Ok T "check_many" ["value", "low", "high"] 43 (PureSp T.K F_check_many) := by
  refine okP M (k := 42) (i := 29) (s := _root_.Hd.s_check_many) (N := ["value", "low", "high"]) rfl rfl (by decide +kernel) (fun _ _ _ _ _ _ us hl => match us, hl with | [_, _, _], _ => rfl) (fun ds Pp h => by obtain ⟨_, _, _, rfl, _⟩ := h; rfl) ?_
  rintro ds Pp ⟨i, a, b, rfl, ha, hb, q⟩
  refine ss_cons (s_if ?_)
  refine b_not ?_
  refine b_val ?_
  refine e_call (d_is_between M) lk ?_
  refine ea_cons ?_
  refine e_name (i := 0) rfl ?_
  refine ea_cons ?_
  refine e_name (i := 1) rfl ?_
  refine ea_cons ?_
  refine e_name (i := 2) rfl ?_
  refine ea_nil ?_
  refine ⟨_, _, _, rfl, ha, hb, ?_⟩
  refine ⟨_, rfl, ?_⟩
  refine ⟨fun h => absurd h Bool.false_ne_true, fun _ => ?_⟩
  refine ss_nil ?_
  refine ss_nil ?_
  exact q
end Pd

/-! text Qd -/
set_option Elab.async false
set_option linter.all false
set_option maxRecDepth 100000
set_option maxHeartbeats 4000000
namespace Pd
open PySem PySem.Spec PyProof.Rows L2 C8
variable {T : Th}
/-! ### elimination -/
def F_without_column (ds : List PyData) (Pp : PyData → Prop) : Prop := ∃ (r l : List Rat) (c s : Nat), ds = [FL r, FL l, natI c] ∧ r.length = l.length ∧ c < r.length ∧ r.length ≤ 1000 ∧ AllS s r ∧ AllS (2 * s) l ∧ 1 ≤ s ∧ s ≤ 33554432 ∧ Pp (FL (withoutCol r l c))
theorem d_without_column (M : Md T) : Ok T "without_column" ["row", "lead", "column"] 43 (PureSp T.K F_without_column) := by
  refine okP M (k := 42) (i := 30) (s := _root_.Hd.s_without_column) (N := ["row", "lead", "column", "by", "here", "there"]) rfl rfl (by decide +kernel) (fun _ _ _ _ _ _ us hl => match us, hl with | [_, _, _], _ => rfl) (fun ds Pp h => by obtain ⟨_, _, _, _, rfl, _⟩ := h; rfl) ?_
  rintro ds Pp ⟨r, l, c, s, rfl, hl, hc, hn, s1, s2, h1, hs, q⟩
  refine ss_cons (s_set (i := 3) (E.ev ?_))
  refine e_ix ?_
  refine e_name (i := 0) rfl ?_
  refine e_name (i := 2) rfl ?_
  refine ⟨_, _, _, .inr rfl, rfl, at_map (getD_get (d := 0) hc), ?_⟩
  refine ss_cons (s_ret ?_)
  refine e_ifexp ?_
  refine b_cmp c_eq ?_ rfl
  refine e_name (i := 3) rfl ?_
  refine e_zero M ?_
  refine ⟨?_, ?_⟩
  · exact ⟨frac_shaped _, frac_shaped _⟩
  refine ⟨fun e0 => ?_, fun e0 => ?_⟩
  · refine e_name (i := 0) rfl ?_
    rw [frac_eqv] at e0
    have e := of_decide_eq_true e0
    unfold withoutCol at q
    rw [if_pos e] at q
    exact q
  · refine EF.toE ?_
    refine ef_lc [("here", 4), ("there", 5)] [4, 5] ?_ (tg_tup (tgs_cons tg_name (tgs_cons tg_name tgs_nil)))
    refine it_zip M.b_zip ?_
    refine e_name (i := 0) rfl ?_
    refine e_name (i := 1) rfl ?_
    refine ⟨_, _, (by first | exact Or.inl rfl | exact Or.inr rfl), (by first | exact Or.inl rfl | exact Or.inr rfl), ?_⟩
    rw [frac_eqv] at e0
    have e := of_decide_eq_false e0
    unfold withoutCol at q
    rw [if_neg e] at q
    refine Lc0.to ((List.zipWith (fun x y => x - ent r c * y) r l).map frac) (by rw [List.length_map, zipD_len, List.length_map, List.length_map, List.length_zipWith]) (by rw [zipD_len, List.length_map]; omega) (fun i d z hd hz => ?_) ?_
    · obtain ⟨x, y, hx, hy, rfl⟩ := zip_get hd
      have ez : z = frac (x - ent r c * y) := by
        rw [List.getElem?_map, List.getElem?_zipWith, hx, hy] at hz
        exact (Option.some.inj hz).symm
      refine ⟨_, rfl, ?_⟩
      refine e_call (d_minus M) lk ?_
      refine ea_cons ?_
      refine e_name (i := 4) rfl ?_
      refine ea_cons ?_
      refine e_call (d_times M) lk ?_
      refine ea_cons ?_
      refine e_name (i := 3) rfl ?_
      refine ea_cons ?_
      refine e_name (i := 5) rfl ?_
      refine ea_nil ?_
      refine ⟨_, y, s, 2 * s, rfl, ent_sz s1 h1 c, s2.at hy, by omega, ?_⟩
      refine ea_nil ?_
      refine ⟨x, _, s, s + 2 * s, rfl, s1.at hx, (ent_sz s1 h1 c).mul (s2.at hy), by omega, ?_⟩
      exact ez.symm
    · exact q
def F_brought (ds : List PyData) (Pp : PyData → Prop) : Prop := ∃ (tab : List (List Rat)) (m w s K : Nat), ds = [.list (tab.map FL), natI m] ∧ (∀ r ∈ tab, r.length = w) ∧ m < w ∧ w ≤ 100 ∧ tab.length ≤ 100 ∧ 1 ≤ tab.length ∧ TabS s tab ∧ 1 ≤ s ∧ min m tab.length ≤ K ∧ gz s K ≤ 33554432 ∧ Pp (.tuple [.list ((bst tab m).1.map FL), .list ((bst tab m).2.map natI)])
theorem d_brought (M : Md T) : Ok T "brought" ["table", "many"] 44 (PureSp T.K F_brought) := by
  refine okP M (k := 43) (i := 31) (s := _root_.Hd.s_brought) (N := ["table", "many", "rows", "leads", "column", "done", "spots", "lead", "row", "at", "each"]) rfl rfl (by decide +kernel) (fun _ _ _ _ _ _ us hl => match us, hl with | [_, _], _ => rfl) (fun ds Pp h => by obtain ⟨_, _, _, _, _, rfl, _⟩ := h; rfl) ?_
  rintro ds Pp ⟨tab, m, w, s, K, rfl, hw, hm, hw1, ht, ht1, hs, h1, hK, hb, q⟩
  refine ss_cons (s_parC (i := 2) (j := 3) (EF.ev ?_) (hw := par_none rfl))
  refine ef_lc [("row", 8)] [8] ?_ tg_name
  refine it_seq ?_
  refine e_name (i := 0) rfl ?_
  refine ⟨_, (by first | exact Or.inl rfl | exact Or.inr rfl), ?_⟩
  refine Lc0.to (tab.map FL) rfl (by rw [List.length_map]; omega) (fun i d z hd hz => ?_) ?_
  · obtain ⟨r, hr, rfl⟩ := map_get hd
    obtain ⟨r', hr', rfl⟩ := map_get hz
    rw [hr] at hr'
    cases hr'
    refine ⟨_, rfl, ?_⟩
    refine EF.toE ?_
    refine ef_list M.b_list ?_
    refine e_name (i := 8) rfl ?_
    refine ⟨_, (by first | exact Or.inl rfl | exact Or.inr rfl), ?_⟩
    exact rfl
  · refine EF.ev ?_
    refine ef_lst ?_
    refine ea_nil ?_
    refine ⟨lk, ?_⟩
    refine ss_cons (s_for [4] ?_ tg_name)
    refine it_range1 M.b_range ?_
    refine e_name (i := 1) rfl ?_
    refine ⟨_, rfl, by omega, by omega, ?_⟩
    rw [Int.toNat_natCast]
    refine ⟨fun i δ' => ∃ R Ls, bst tab i = (R, Ls) ∧ δ' = [.sh (.list (tab.map FL)), .sh (natI m), .own (R.map FL), .own (Ls.map natI), .any, .any, .any, .any, .any, .any, .any], ⟨tab, [], rfl, rfl⟩, fun i d δ' hd hI => ?_, fun δ' hI => ?_⟩
    · obtain ⟨R, Ls, est, rfl⟩ := hI
      obtain ⟨hi, rfl⟩ := rgL_get hd
      rw [Int.zero_add]
      have inv := bst_inv hw i
      have hsz := bst_sz hw h1 hs i
      obtain ⟨hlen, hlen2⟩ := bst_len tab i
      rw [est] at inv hsz hlen hlen2
      simp only at inv hsz hlen hlen2
      have hR0 : R ≠ [] := fun e => by
        rw [e] at hlen
        simp only [List.length_nil] at hlen
        omega
      have hle := inv.le
      have hLK : gz s Ls.length ≤ gz s K := gz_mono (by omega)
      have hb1 : 1 ≤ gz s Ls.length := Nat.le_trans h1 (gz_le _)
      refine ⟨_, rfl, rfl, ?_⟩
      refine ss_cons (s_set (i := 5) (E.ev ?_))
      refine e_view (i := 3) (ds := _) rfl ?_
      refine e_len M.b_len ?_
      refine e_name (i := 3) rfl ?_
      refine ⟨_, (by first | exact Or.inl rfl | exact Or.inr rfl), ?_⟩
      refine ⟨?_, ?_⟩
      · exact trivial
      refine ss_cons (s_lcIf (i := 6) [("at", 9)] [9] ?_ tg_name)
      refine it_range2 M.b_range ?_
      refine e_name (i := 5) rfl ?_
      refine e_view (i := 2) (ds := _) rfl ?_
      refine e_len M.b_len ?_
      refine e_name (i := 2) rfl ?_
      refine ⟨_, (by first | exact Or.inl rfl | exact Or.inr rfl), ?_⟩
      refine ⟨?_, ?_⟩
      · exact trivial
      refine ⟨_, _, rfl, rfl, ⟨by omega, ?_, by omega, ?_⟩, ?_⟩
      · show (((Ls.map natI).length : Nat) : Int) < _
        rw [List.length_map]
        omega
      · show (((R.map FL).length : Nat) : Int) < _
        rw [List.length_map]
        omega
      rw [List.length_map, List.length_map]
      refine Lc1.on (fun j => decide (ent (rowAt R (Ls.length + j)) i ≠ 0)) (fun j : Nat => PyData.int ((Ls.length : Int) + ((j : Nat) : Int))) (by rw [List.length_range]; omega) (fun j hj => ?_) ?_
      · have hj' := List.mem_range.mp hj
        have hjr : Ls.length + j < R.length := by omega
        have hwr := inv.wd _ (rowAt_mem hjr)
        refine ⟨_, rfl, ?_, fun hp => ?_⟩
        · refine b_cmp c_ne ?_ rfl
          refine e_view (i := 2) (ds := _) rfl ?_
          refine e_ix ?_
          refine e_ix ?_
          refine e_name (i := 2) rfl ?_
          refine e_name (i := 9) rfl ?_
          refine ⟨_, _, FL (rowAt R (Ls.length + j)), .inr rfl, rfl, ?_, ?_⟩
          · rw [show ((Ls.length : Int) + ((j : Nat) : Int)) = ((Ls.length + j : Nat) : Int) by omega]
            exact at_map (rowAt_get hjr)
          refine e_name (i := 4) rfl ?_
          refine ⟨_, _, _, .inr rfl, rfl, at_map (getD_get (d := 0) (by omega)), ?_⟩
          refine ⟨?_, ?_⟩
          · exact av_frac _
          refine e_zero M ?_
          refine ⟨?_, ?_⟩
          · exact ⟨frac_shaped _, frac_shaped _⟩
          rw [frac_eqv]
          by_cases e : ent (rowAt R (Ls.length + j)) i = 0
          · simp [e]
          · simp [e]
        · refine e_name (i := 9) rfl ?_
          exact rfl
      · have esp : ((List.range (((R.length : Nat) : Int) - ((Ls.length : Nat) : Int)).toNat).filter fun j => decide (ent (rowAt R (Ls.length + j)) i ≠ 0)).map (fun j : Nat => PyData.int ((Ls.length : Int) + ((j : Nat) : Int))) = (spotsOf R Ls.length i).map natI := by
          rw [spots_eq]
          congr 3
          omega
        rw [esp]
        refine ss_freeze (i := 6) rfl ?_
        refine ss_cons (s_if ?_)
        refine b_cmp c_ne ?_ rfl
        refine e_name (i := 6) rfl ?_
        refine EF.toE ?_
        refine ef_lst ?_
        refine ea_nil ?_
        refine ⟨lk, ?_⟩
        refine ⟨?_, ?_⟩
        · exact ⟨shaped_natI _, rfl⟩
        refine ⟨fun e0 => ?_, fun e0 => ?_⟩
        · have esp2 : ∃ sp rest, spotsOf R Ls.length i = sp :: rest := by
            cases e : spotsOf R Ls.length i with
            | nil =>
              rw [e] at e0
              cases e0
            | cons a b => exact ⟨a, b, rfl⟩
          obtain ⟨sp, rest, es⟩ := esp2
          rw [es]
          obtain ⟨q1, q2, q3⟩ := spots_mem (rows := R) (done := Ls.length) (c := i) (sp := sp) (by rw [es]; exact List.mem_cons_self)
          have hdn : Ls.length < R.length := by omega
          refine ss_cons (s_sub2 (i := 2) rfl ?_ (hw := fun env _ => sub_none env))
          refine e_tup ?_
          refine ea_cons ?_
          refine e_view (i := 2) (ds := _) rfl ?_
          refine e_ix ?_
          refine e_name (i := 2) rfl ?_
          refine e_ix ?_
          refine e_name (i := 6) rfl ?_
          refine e_int ?_
          refine ⟨_, _, _, (by first | exact Or.inl rfl | exact Or.inr rfl), rfl, at0 _ _, ?_⟩
          refine ⟨_, _, _, .inr rfl, rfl, at_map (rowAt_get q2), ?_⟩
          refine ⟨?_, ?_⟩
          · exact av_FL _ hR0
          refine ea_cons ?_
          refine e_view (i := 2) (ds := _) rfl ?_
          refine e_ix ?_
          refine e_name (i := 2) rfl ?_
          refine e_name (i := 5) rfl ?_
          rw [List.length_map]
          refine ⟨_, _, _, .inr rfl, rfl, at_map (rowAt_get hdn), ?_⟩
          refine ⟨?_, ?_⟩
          · exact av_FL _ hR0
          refine ea_nil ?_
          refine ⟨lk, ?_⟩
          refine ⟨_, _, rfl, ?_⟩
          refine e_name (i := 5) rfl ?_
          refine ⟨_, _, rfl, ixN_nat (by first | exact hdn | (rw [List.length_map]; exact hdn)), ?_⟩
          refine e_ix ?_
          refine e_name (i := 6) rfl ?_
          refine e_int ?_
          refine ⟨_, _, _, (by first | exact Or.inl rfl | exact Or.inr rfl), rfl, at0 _ _, ?_⟩
          refine ⟨_, _, rfl, ixN_nat (by first | exact q2 | (rw [List.length_map]; exact q2)), ?_⟩
          rw [swap_map]
          have eP : rowAt (swapR R Ls.length sp) Ls.length = rowAt R sp := by
            rw [swap_at hdn q2 hdn]
            by_cases y : Ls.length = sp
            · rw [if_pos y, y]
            · rw [if_neg y, if_pos rfl]
          have hS0 : swapR R Ls.length sp ≠ [] := fun e => by
            have := swap_len R Ls.length sp
            rw [e] at this
            simp only [List.length_nil] at this
            omega
          have hSl := swap_len R Ls.length sp
          have hdS : Ls.length < (swapR R Ls.length sp).length := by omega
          have hwP : (rowAt R sp).length = w := inv.wd _ (rowAt_mem q2)
          have hzP : AllS (gz s Ls.length) (rowAt R sp) := hsz _ (rowAt_mem q2)
          refine ss_cons (s_set (i := 7) (hs := sw_cell rfl) (E.ev <| EF.toE ?_))
          refine ef_lc [("each", 10)] [10] ?_ tg_name
          refine it_seq ?_
          refine e_view (i := 2) (ds := _) rfl ?_
          refine e_ix ?_
          refine e_name (i := 2) rfl ?_
          refine e_name (i := 5) rfl ?_
          refine ⟨_, _, _, .inr rfl, rfl, at_map (rowAt_get hdS), ?_⟩
          rw [eP]
          refine ⟨?_, ?_⟩
          · exact av_FL _ hS0
          refine ⟨_, (by first | exact Or.inl rfl | exact Or.inr rfl), ?_⟩
          refine Lc0.to ((leadOf (rowAt R sp) i).map frac) (by unfold leadOf; rw [List.length_map, List.length_map, List.length_map]) (by rw [List.length_map]; omega) (fun j d z hd hz => ?_) ?_
          · obtain ⟨x, hx, rfl⟩ := map_get hd
            obtain ⟨y, hy, rfl⟩ := map_get hz
            have ey : y = x / ent (rowAt R sp) i := by
              unfold leadOf at hy
              rw [List.getElem?_map, hx] at hy
              exact (Option.some.inj hy).symm
            refine ⟨_, rfl, ?_⟩
            refine e_call (d_over M) lk ?_
            refine ea_cons ?_
            refine e_name (i := 10) rfl ?_
            refine ea_cons ?_
            refine e_view (i := 2) (ds := _) rfl ?_
            refine e_ix ?_
            refine e_ix ?_
            refine e_name (i := 2) rfl ?_
            refine e_name (i := 5) rfl ?_
            refine ⟨_, _, _, .inr rfl, rfl, at_map (rowAt_get hdS), ?_⟩
            rw [eP]
            refine e_name (i := 4) rfl ?_
            refine ⟨_, _, _, .inr rfl, rfl, at_map (getD_get (d := 0) (by omega)), ?_⟩
            refine ⟨?_, ?_⟩
            · exact av_frac _
            refine ea_nil ?_
            refine ⟨x, ent (rowAt R sp) i, gz s Ls.length, gz s Ls.length, rfl, hzP.at hx, ent_sz hzP hb1 i, by omega, q3, ?_⟩
            rw [ey]
          · refine ss_freeze (i := 2) rfl ?_
            refine ss_cons (s_set (i := 2) (hs := sw_cell rfl) (EF.ev ?_))
            refine ef_lc [("at", 9), ("row", 8)] [9, 8] ?_ (tg_tup (tgs_cons tg_name (tgs_cons tg_name tgs_nil)))
            refine it_enum M.b_enumerate ?_
            refine e_name (i := 2) rfl ?_
            refine ⟨_, (by first | exact Or.inl rfl | exact Or.inr rfl), ?_⟩
            refine Lc0.to ((stepWith R Ls.length sp i).map FL) (by rw [List.length_map, stepWith_len, enumD_len, List.length_map, swap_len]) (by rw [enumD_len, List.length_map]; omega) (fun a d z hd hz => ?_) ?_
            · obtain ⟨r, hr, rfl⟩ := enum_get hd
              obtain ⟨y, hy, rfl⟩ := map_get hz
              have haS := get_lt hr
              have haR : a < R.length := by omega
              have ey : y = if a = Ls.length then leadOf (rowAt R sp) i else withoutCol r (leadOf (rowAt R sp) i) i := by
                rw [← rowAt_of hy, stepWith_at haR, eP, rowAt_of hr]
              have hrm : r ∈ R := by
                rw [← rowAt_of hr, swap_at hdn q2 haR]
                apply rowAt_mem
                by_cases z1 : a = sp
                · rw [if_pos z1]
                  exact hdn
                · rw [if_neg z1]
                  by_cases z2 : a = Ls.length
                  · rw [if_pos z2]
                    exact q2
                  · rw [if_neg z2]
                    exact haR
              have hrw := inv.wd r hrm
              refine ⟨_, rfl, ?_⟩
              refine e_ifexp ?_
              refine b_cmp c_eq ?_ rfl
              refine e_name (i := 9) rfl ?_
              refine e_name (i := 5) rfl ?_
              refine ⟨?_, ?_⟩
              · exact ⟨rfl, rfl⟩
              refine ⟨fun e1 => ?_, fun e1 => ?_⟩
              · refine e_name (i := 7) rfl ?_
                have e2 : ((a : Nat) : Int) = ((Ls.length : Nat) : Int) := of_decide_eq_true e1
                rw [ey, if_pos (by omega)]
                rfl
              · refine e_call (d_without_column M) lk ?_
                refine ea_cons ?_
                refine e_name (i := 8) rfl ?_
                refine ea_cons ?_
                refine e_name (i := 7) rfl ?_
                refine ea_cons ?_
                refine e_name (i := 4) rfl ?_
                refine ea_nil ?_
                have e2 : ¬ ((a : Nat) : Int) = ((Ls.length : Nat) : Int) := of_decide_eq_false e1
                rw [if_neg (by omega)] at ey
                have hll : (leadOf (rowAt R sp) i).length = w := by
                  unfold leadOf
                  rw [List.length_map, hwP]
                refine ⟨r, leadOf (rowAt R sp) i, i, gz s Ls.length, rfl, by rw [hrw, hll], by omega, by omega, hsz r hrm, leadOf_sz hzP hb1 q3, hb1, by omega, ?_⟩
                rw [ey]
            · refine ss_cons (s_append (i := 3) rfl ?_)
              refine e_name (i := 4) rfl ?_
              refine ⟨?_, ?_⟩
              · rw [List.length_map]
                omega
              refine ss_nil ?_
              refine ss_drop (i := 4) rfl ?_
              refine ss_drop (i := 5) rfl ?_
              refine ss_drop (i := 6) rfl ?_
              refine ss_drop (i := 7) rfl ?_
              refine ss_nil ?_
              refine ⟨stepWith R Ls.length sp i, Ls ++ [i], ?_, ?_⟩
              · rw [bst_succ, est, stepB_cons (st := (R, Ls)) es]
              · rw [List.map_append]
                rfl
        · refine ss_nil ?_
          refine ss_drop (i := 4) rfl ?_
          refine ss_drop (i := 5) rfl ?_
          refine ss_drop (i := 6) rfl ?_
          refine ss_drop (i := 7) rfl ?_
          refine ss_nil ?_
          have es : spotsOf R Ls.length i = [] := by
            cases e : spotsOf R Ls.length i with
            | nil => rfl
            | cons a b =>
              rw [e] at e0
              cases e0
          refine ⟨R, Ls, ?_, rfl⟩
          rw [bst_succ, est, stepB_nil (st := (R, Ls)) es]
    · obtain ⟨R, Ls, est, rfl⟩ := hI
      rw [rgL_len] at est
      rw [est] at q
      refine ss_freeze (i := 2) rfl ?_
      refine ss_freeze (i := 3) rfl ?_
      refine ss_cons (s_ret ?_)
      refine e_tup ?_
      refine ea_cons ?_
      refine e_name (i := 2) rfl ?_
      refine ea_cons ?_
      refine e_name (i := 3) rfl ?_
      refine ea_nil ?_
      refine ⟨lk, ?_⟩
      exact q
def F_some_answer (ds : List PyData) (Pp : PyData → Prop) : Prop := ∃ (tab : List (List Rat)) (b : List Rat) (m s K : Nat), ds = [.list (tab.map FL), FL b] ∧ (∀ r ∈ tab, r.length = m) ∧ 1 ≤ m ∧ m ≤ 90 ∧ b.length = tab.length ∧ tab.length ≤ 100 ∧ 1 ≤ tab.length ∧ TabS s tab ∧ AllS s b ∧ 1 ≤ s ∧ min m tab.length ≤ K ∧ gz s K ≤ 33554432 ∧
  ((∀ x : Nat → Rat, ¬ Sol m x (aug tab b)) → Pp (.list [])) ∧ ∀ x : List Rat, x.length = m → Sol m (ent x) (aug tab b) → AllS (gz s K) x → Pp (.list [FL x])
theorem d_some_answer (M : Md T) : Ok T "some_answer" ["table", "rights"] 45 (PureSp T.K F_some_answer) := by
  refine okP M (k := 44) (i := 32) (s := _root_.Hd.s_some_answer) (N := ["table", "rights", "many", "rows", "leads", "found", "row", "column", "right"]) rfl rfl (by decide +kernel) (fun _ _ _ _ _ _ us hl => match us, hl with | [_, _], _ => rfl) (fun ds Pp h => by obtain ⟨_, _, _, _, _, rfl, _⟩ := h; rfl) ?_
  rintro ds Pp ⟨tab, b, m, s, K, rfl, hw, hm, hm90, hbl, ht, ht1, hs, hsb, h1, hK, hb, qn, qs⟩
  have hw0 := hw _ (rowAt_mem ht1)
  have hwa : ∀ r ∈ aug tab b, r.length = m + 1 := fun r hr => by
      obtain ⟨r', hr', v, _, rfl⟩ := aug_mem hr
      rw [List.length_append, hw r' hr'] <;> rfl
  have hsa : TabS s (aug tab b) := fun r hr => by
      obtain ⟨r', hr', v, hv, rfl⟩ := aug_mem hr
      intro x hx
      rcases List.mem_append.mp hx with hx | hx
      · exact hs r' hr' x hx
      · rw [List.mem_singleton.mp hx]
        exact hsb v hv
  have hal := aug_len hbl
  have inv := bst_inv hwa m
  have hsz := bst_sz hwa h1 hsa m
  obtain ⟨hlen, hlen2⟩ := bst_len (aug tab b) m
  have hsol : ∀ {x : Nat → Rat}, Sol m x (bst (aug tab b) m).1 ↔ Sol m x (aug tab b) := bst_sol hwa m
  obtain ⟨R, Ls, est⟩ : ∃ R Ls, bst (aug tab b) m = (R, Ls) := ⟨_, _, rfl⟩
  rw [est] at inv hsz hlen hlen2 hsol
  simp only at inv hsz hlen hlen2 hsol
  have hle := inv.le
  have hLK : gz s Ls.length ≤ gz s K := gz_mono (by omega)
  have hb1 : 1 ≤ gz s Ls.length := Nat.le_trans h1 (gz_le _)
  refine ss_cons (s_set (i := 2) (E.ev ?_))
  refine e_len M.b_len ?_
  refine e_ix ?_
  refine e_name (i := 0) rfl ?_
  refine e_int ?_
  refine ⟨_, _, _, (by first | exact Or.inl rfl | exact Or.inr rfl), rfl, at_zm (rowAt_get ht1), ?_⟩
  refine ⟨_, (by first | exact Or.inl rfl | exact Or.inr rfl), ?_⟩
  rw [List.length_map, hw0]
  refine ss_cons (s_unp (js := [3, 4]) ?_ (tg_tup (tgs_cons tg_name (tgs_cons tg_name tgs_nil))))
  refine e_call (d_brought M) lk ?_
  refine ea_cons ?_
  refine EF.toE ?_
  refine ef_lc [("row", 6), ("right", 8)] [6, 8] ?_ (tg_tup (tgs_cons tg_name (tgs_cons tg_name tgs_nil)))
  refine it_zip M.b_zip ?_
  refine e_name (i := 0) rfl ?_
  refine e_name (i := 1) rfl ?_
  refine ⟨_, _, (by first | exact Or.inl rfl | exact Or.inr rfl), (by first | exact Or.inl rfl | exact Or.inr rfl), ?_⟩
  refine Lc0.to ((aug tab b).map FL) (by rw [List.length_map, zipD_len, List.length_map, List.length_map, hal, hbl, Nat.min_self]) (by rw [zipD_len, List.length_map]; omega) (fun i d z hd hz => ?_) ?_
  · obtain ⟨r, v, hr, hv, rfl⟩ := zip_get hd
    have ez : z = FL (r ++ [v]) := by
      rw [List.getElem?_map, aug_get hr hv] at hz
      exact (Option.some.inj hz).symm
    have hrl := hw r (List.mem_of_getElem? hr)
    refine ⟨_, rfl, ?_⟩
    refine EF.toE ?_
    refine ef_lst ?_
    refine ea_star ?_
    refine e_name (i := 6) rfl ?_
    refine ⟨_, (by first | exact Or.inl rfl | exact Or.inr rfl), ?_⟩
    refine ea_cons ?_
    refine e_name (i := 8) rfl ?_
    refine ea_nil ?_
    refine ⟨?_, ?_⟩
    · rw [List.length_append, List.length_map]
      simp only [List.length_cons, List.length_nil]
      omega
    rw [ez]
    unfold FL
    rw [List.map_append]
    rfl
  · refine ea_cons ?_
    refine e_name (i := 2) rfl ?_
    refine ea_nil ?_
    refine ⟨aug tab b, m, m + 1, s, K, rfl, hwa, by omega, by omega, by omega, by omega, hsa, h1, by omega, hb, ?_⟩
    rw [est]
    refine ⟨_, rfl, ?_⟩
    refine ss_cons (s_if ?_)
    refine b_val ?_
    refine e_any M.b_any ?_
    refine EF.toE ?_
    refine ef_lc [("row", 6)] [6] ?_ tg_name
    refine it_seq ?_
    refine EF.toE ?_
    refine ef_slice ?_
    refine e_name (i := 3) rfl ?_
    refine eo_some ?_
    refine e_len M.b_len ?_
    refine e_name (i := 4) rfl ?_
    refine ⟨_, (by first | exact Or.inl rfl | exact Or.inr rfl), ?_⟩
    refine ⟨_, rfl, ?_⟩
    refine eo_none ?_
    refine ⟨_, rfl, ?_⟩
    refine ⟨_, (by first | exact Or.inl rfl | exact Or.inr rfl), ?_⟩
    rw [List.length_map, cutD_from _ _ (by rw [List.length_map]; exact hle), ← List.map_drop]
    refine Lc0.to ((R.drop Ls.length).map fun r => PyData.bool (decide (ent r m ≠ 0))) (by rw [List.length_map, List.length_map]) (by rw [List.length_map, List.length_drop]; show R.length - Ls.length ≤ 100000; omega) (fun i d z hd hz => ?_) ?_
    · obtain ⟨r, hr, rfl⟩ := map_get hd
      obtain ⟨r', hr', rfl⟩ := map_get hz
      rw [hr] at hr'
      cases hr'
      have hrl := inv.wd r (List.mem_of_mem_drop (List.mem_of_getElem? hr))
      refine ⟨_, rfl, ?_⟩
      refine e_cmp c_ne ?_ rfl
      refine e_ix ?_
      refine e_name (i := 6) rfl ?_
      refine e_name (i := 2) rfl ?_
      refine ⟨_, _, _, .inr rfl, rfl, at_map (getD_get (d := 0) (by omega)), ?_⟩
      refine e_zero M ?_
      refine ⟨?_, ?_⟩
      · exact ⟨frac_shaped _, frac_shaped _⟩
      rw [frac_eqv]
      by_cases e : ent r m = 0
      · simp [e]
      · simp [e]
    · refine ⟨(R.drop Ls.length).map fun r => decide (ent r m ≠ 0), by rw [List.map_map] <;> rfl, ?_⟩
      refine ⟨_, rfl, ?_⟩
      refine ⟨fun e0 => ?_, fun e0 => ?_⟩
      · refine ss_cons (s_ret ?_)
        refine EF.toE ?_
        refine ef_lst ?_
        refine ea_nil ?_
        refine ⟨lk, ?_⟩
        refine qn fun x hx => ?_
        obtain ⟨v, hv, hv2⟩ := List.any_eq_true.mp e0
        obtain ⟨r, hr, rfl⟩ := List.mem_map.mp hv
        obtain ⟨j, ej⟩ := List.mem_iff_getElem?.mp hr
        rw [List.getElem?_drop] at ej
        have hj := get_lt ej
        exact no_sol inv (Nat.le_add_right _ j) hj (by rw [rowAt_of ej]; exact of_decide_eq_true hv2) x (hsol.mpr hx)
      · refine ss_nil ?_
        refine ss_cons (s_set (i := 5) (EF.ev ?_))
        refine ef_rep ?_
        refine ef_lst ?_
        refine ea_cons ?_
        refine e_zero M ?_
        refine ea_nil ?_
        refine ⟨lk, ?_⟩
        refine e_name (i := 2) rfl ?_
        refine ⟨_, rfl, by omega, by omega, lk, ?_⟩
        rw [Int.toNat_natCast, rep1]
        refine ss_cons (s_for [6, 7] ?_ (tg_tup (tgs_cons tg_name (tgs_cons tg_name tgs_nil))))
        refine it_zip M.b_zip ?_
        refine e_name (i := 3) rfl ?_
        refine e_name (i := 4) rfl ?_
        refine ⟨_, _, (by first | exact Or.inl rfl | exact Or.inr rfl), (by first | exact Or.inl rfl | exact Or.inr rfl), ?_⟩
        refine ⟨fun i δ' => ∃ x : List Rat, x.length = m ∧ (∀ k c, k < i → Ls[k]? = some c → ent x c = ent (rowAt R k) m) ∧ (∀ j, j ∉ Ls.take i → ent x j = 0) ∧ AllS (gz s K) x ∧ δ' = [.sh (.list (tab.map FL)), .sh (FL b), .sh (natI m), .sh (.list (R.map FL)), .sh (.list (Ls.map natI)), .own (x.map frac), .any, .any, .any], ⟨List.replicate m 0, List.length_replicate, fun k c hk => absurd hk (Nat.not_lt_zero k), fun j _ => ?_, fun z hz => ?_, ?_⟩, fun i d δ' hd hI => ?_, fun δ' hI => ?_⟩
        · unfold ent
          rw [List.getD_eq_getElem?_getD, List.getElem?_replicate]
          split <;> rfl
        · rw [List.eq_of_mem_replicate hz]
          exact Sz.zero (by omega)
        · rw [List.map_replicate]
          rfl
        · obtain ⟨x, hx1, hx2, hx3, hx4, rfl⟩ := hI
          obtain ⟨r, c, hr, hc, rfl⟩ := zip_get hd
          have hcm := inv.lt c (List.mem_of_getElem? hc)
          have hrm := List.mem_of_getElem? hr
          have hrl := inv.wd r hrm
          refine ⟨_, rfl, rfl, ?_⟩
          refine ss_cons (s_sub (i := 5) rfl ?_)
          refine e_ix ?_
          refine e_name (i := 6) rfl ?_
          refine e_name (i := 2) rfl ?_
          refine ⟨_, _, _, .inr rfl, rfl, at_map (getD_get (d := 0) (by omega)), ?_⟩
          refine e_name (i := 7) rfl ?_
          refine ⟨_, _, rfl, ixN_nat (by rw [List.length_map]; omega), ?_⟩
          refine ss_drop (i := 6) rfl ?_
          refine ss_drop (i := 7) rfl ?_
          refine ss_nil ?_
          have hcx : c < x.length := by omega
          have hcn : ∀ k c', Ls[k]? = some c' → k < i → c' ≠ c := fun k c' hk hki e => by
            subst e
            have l1 := get_lt hk
            have l2 := get_lt hc
            have := (List.getElem?_eq_some_iff.mp hk).2
            have e2 := (List.getElem?_eq_some_iff.mp hc).2
            have := List.getElem_inj (h₀ := l1) (h₁ := l2) inv.nd |>.mp (by rw [this, e2])
            omega
          refine ⟨x.set c (ent r m), by rw [List.length_set]; exact hx1, fun k c' hk hkc => ?_, fun j hj => ?_, hx4.set ((ent_sz (hsz r hrm) hb1 m).mono hLK), ?_⟩
          · rw [ent_set hcx]
            rcases Nat.lt_or_ge k i with hki | hki
            · rw [if_neg (hcn k c' hkc hki)]
              exact hx2 k c' hki hkc
            · have e : k = i := by omega
              subst e
              rw [hc] at hkc
              cases hkc
              rw [if_pos rfl, rowAt_of hr]
          · rw [List.take_add_one, hc] at hj
            have hj' := fun h => hj (List.mem_append_left _ h)
            have hjc : j ≠ c := fun e => hj (List.mem_append_right _ (by rw [e]; exact List.mem_singleton.mpr rfl))
            rw [ent_set hcx, if_neg hjc]
            exact hx3 j hj'
          · rw [List.map_set]
            rfl
        · obtain ⟨x, hx1, hx2, hx3, hx4, rfl⟩ := hI
          rw [zipD_len, List.length_map, List.length_map, Nat.min_eq_right hle] at hx2 hx3
          rw [List.take_length] at hx3
          refine ss_freeze (i := 5) rfl ?_
          refine ss_cons (s_ret ?_)
          refine EF.toE ?_
          refine ef_lst ?_
          refine ea_cons ?_
          refine e_name (i := 5) rfl ?_
          refine ea_nil ?_
          refine ⟨lk, ?_⟩
          refine qs x hx1 (hsol.mp (read_sol inv (fun a h2 h3 => ?_) (fun k c hk => hx2 k c (get_lt hk) hk) fun j _ hj => hx3 j hj)) hx4
          refine Classical.byContradiction fun hne => ?_
          rw [Bool.eq_false_iff] at e0
          refine e0 (List.any_eq_true.mpr ⟨true, List.mem_map.mpr ⟨rowAt R a, List.mem_of_getElem? (i := a - Ls.length) ?_, decide_eq_true hne⟩, rfl⟩)
          rw [List.getElem?_drop, show Ls.length + (a - Ls.length) = a by omega]
          exact rowAt_get h3
def F_turned (ds : List PyData) (Pp : PyData → Prop) : Prop := ∃ (tab : List (List Rat)) (w : Nat), ds = [.list (tab.map FL)] ∧ 1 ≤ tab.length ∧ tab.length ≤ 100 ∧ (∀ r ∈ tab, r.length = w) ∧ w ≤ 100 ∧ Pp (.list ((turn w tab).map FL))
theorem d_turned (M : Md T) : Ok T "turned" ["table"] 41 (PureSp T.K F_turned) := by
  refine okP M (k := 40) (i := 33) (s := _root_.Hd.s_turned) (N := ["table", "at", "row"]) rfl rfl (by decide +kernel) (fun _ _ _ _ _ _ us hl => match us, hl with | [_], _ => rfl) (fun ds Pp h => by obtain ⟨_, _, rfl, _⟩ := h; rfl) ?_
  rintro ds Pp ⟨tab, w, rfl, ht1, ht, hw, hw1, q⟩
  have hw0 := hw _ (rowAt_mem ht1)
  refine ss_cons (s_ret ?_)
  refine EF.toE ?_
  refine ef_lc [("at", 1)] [1] ?_ tg_name
  refine it_range1 M.b_range ?_
  refine e_len M.b_len ?_
  refine e_ix ?_
  refine e_name (i := 0) rfl ?_
  refine e_int ?_
  refine ⟨_, _, _, (by first | exact Or.inl rfl | exact Or.inr rfl), rfl, at_zm (rowAt_get ht1), ?_⟩
  refine ⟨_, (by first | exact Or.inl rfl | exact Or.inr rfl), ?_⟩
  rw [List.length_map, hw0]
  refine ⟨_, rfl, by omega, by omega, ?_⟩
  rw [Int.toNat_natCast]
  refine Lc0.to ((turn w tab).map FL) (by rw [List.length_map, rgL_len]; unfold turn; rw [List.length_map, List.length_range]) (by rw [rgL_len]; omega) (fun j d z hd hz => ?_) ?_
  · obtain ⟨hj, rfl⟩ := rgL_get hd
    rw [Int.zero_add]
    have ez : z = FL (tab.map fun r => ent r j) := by
      unfold turn at hz
      rw [List.map_map, List.getElem?_map, List.getElem?_range hj] at hz
      exact (Option.some.inj hz).symm
    refine ⟨_, rfl, ?_⟩
    refine EF.toE ?_
    refine ef_lc [("row", 2)] [2] ?_ tg_name
    refine it_seq ?_
    refine e_name (i := 0) rfl ?_
    refine ⟨_, (by first | exact Or.inl rfl | exact Or.inr rfl), ?_⟩
    refine Lc0.to ((tab.map fun r => ent r j).map frac) (by rw [List.length_map, List.length_map, List.length_map]) (by rw [List.length_map]; omega) (fun i d z hd hz => ?_) ?_
    · obtain ⟨r, hr, rfl⟩ := map_get hd
      obtain ⟨v, hv, rfl⟩ := map_get hz
      obtain ⟨r', hr', rfl⟩ := map_get hv
      rw [hr] at hr'
      cases hr'
      have hrl := hw r (List.mem_of_getElem? hr)
      refine ⟨_, rfl, ?_⟩
      refine e_ix ?_
      refine e_name (i := 2) rfl ?_
      refine e_name (i := 1) rfl ?_
      refine ⟨_, _, _, .inr rfl, rfl, at_map (getD_get (d := 0) (by omega)), ?_⟩
      exact rfl
    · exact ez.symm
  · exact q
end Pd

/-! text Qe -/
set_option Elab.async false
set_option linter.all false
set_option maxRecDepth 100000
set_option maxHeartbeats 4000000
namespace Pd
open PySem PySem.Spec PyProof.Rows L2 C8
variable {T : Th}
/-! ### losses -/
def F_others_of (ds : List PyData) (Pp : PyData → Prop) : Prop := ∃ (t : Tr) (L : List Nat), ds = [t.D, PT L] ∧ t.rows.length ≤ 100 ∧ Pp (.list ((leftOf t.rows.length L).map natI))
theorem d_others_of (M : Md T) : Ok T "others_of" ["trial", "lot"] 42 (PureSp T.K F_others_of) := by
  refine okP M (k := 41) (i := 34) (s := _root_.Hd.s_others_of) (N := ["trial", "lot", "plot"]) rfl rfl (by decide +kernel) (fun _ _ _ _ _ _ us hl => match us, hl with | [_, _], _ => rfl) (fun ds Pp h => by obtain ⟨_, _, rfl, _⟩ := h; rfl) ?_
  rintro ds Pp ⟨t, L, rfl, hn, q⟩
  refine ss_cons (s_ret ?_)
  refine EF.toE ?_
  refine ef_lcIf [("plot", 2)] [2] ?_ tg_name
  refine it_range1 M.b_range ?_
  refine e_call (d_many_plots M) lk ?_
  refine ea_cons ?_
  refine e_name (i := 0) rfl ?_
  refine ea_nil ?_
  refine ⟨t, rfl, ?_⟩
  refine ⟨_, rfl, by omega, by omega, ?_⟩
  rw [Int.toNat_natCast]
  refine Lc1.on (fun i => decide (i ∉ L)) (fun i : Nat => PyData.int (0 + ((i : Nat) : Int))) (by rw [List.length_range]; omega) (fun i hi => ?_) ?_
  · refine ⟨_, rfl, ?_, fun hp => ?_⟩
    · refine b_cmp c_notIn ?_ rfl
      refine e_name (i := 2) rfl ?_
      refine e_name (i := 1) rfl ?_
      refine ⟨?_, ?_⟩
      · exact inC_PT _ L
      rw [Int.zero_add, inD_PT]
      by_cases h : i ∈ L
      · simp [h]
      · simp [h]
    · refine e_name (i := 2) rfl ?_
      exact rfl
  · rw [left_map]
    exact q
def F_is_idle (ds : List PyData) (Pp : PyData → Prop) : Prop := ∃ xs : List Rat, ds = [FT xs] ∧ xs.length ≤ 1000 ∧ Pp (.bool (xs.all fun x => decide (x = 0)))
theorem d_is_idle (M : Md T) : Ok T "is_idle" ["question"] 41 (PureSp T.K F_is_idle) := by
  refine okP M (k := 40) (i := 35) (s := _root_.Hd.s_is_idle) (N := ["question", "each"]) rfl rfl (by decide +kernel) (fun _ _ _ _ _ _ us hl => match us, hl with | [_], _ => rfl) (fun ds Pp h => by obtain ⟨_, rfl, _⟩ := h; rfl) ?_
  rintro ds Pp ⟨xs, rfl, hn, q⟩
  refine ss_cons (s_ret ?_)
  refine e_all M.b_all ?_
  refine EF.toE ?_
  refine ef_lc [("each", 1)] [1] ?_ tg_name
  refine it_seq ?_
  refine e_name (i := 0) rfl ?_
  refine ⟨_, (by first | exact Or.inl rfl | exact Or.inr rfl), ?_⟩
  refine Lc0.to (xs.map fun x => PyData.bool (decide (x = 0))) (by rw [List.length_map, List.length_map]) (by rw [List.length_map]; omega) (fun i d z hd hz => ?_) ?_
  · obtain ⟨x, hx, rfl⟩ := map_get hd
    obtain ⟨x', hx', rfl⟩ := map_get hz
    rw [hx] at hx'
    cases hx'
    refine ⟨_, rfl, ?_⟩
    refine e_cmp c_eq ?_ rfl
    refine e_name (i := 1) rfl ?_
    refine e_zero M ?_
    refine ⟨?_, ?_⟩
    · exact ⟨frac_shaped _, frac_shaped _⟩
    rw [frac_eqv]
  · refine ⟨xs.map fun x => decide (x = 0), by rw [List.map_map] <;> rfl, ?_⟩
    rw [List.all_map]
    exact q
def F_telling_without (ds : List PyData) (Pp : PyData → Prop) : Prop := ∃ (t : Tr) (s u K : Nat) (q : List Rat) (L : List Nat), ds = [t.D, FT q, PT L] ∧ t.Ok s u ∧ q.length = u ∧ AllS s q ∧ (t.rows.length ≤ K ∨ (wideQ t q).length ≤ K) ∧ gz s K ≤ 33554432 ∧
  (¬ Non t q L → Pp (.list [])) ∧ ∀ y : List Rat, y.length = t.rows.length → (∀ p ∈ L, ent y p = 0) → FairF t q (ent y) → AllS (gz s K) y → Pp (.list [FT y])
theorem d_telling_without (M : Md T) : Ok T "telling_without" ["trial", "question", "lot"] 46 (PureSp T.K F_telling_without) := by
  refine okP M (k := 45) (i := 36) (s := _root_.Hd.s_telling_without) (N := ["trial", "question", "lot", "left", "weights", "rows", "found", "plot", "weight"]) rfl rfl (by decide +kernel) (fun _ _ _ _ _ _ us hl => match us, hl with | [_, _, _], _ => rfl) (fun ds Pp h => by obtain ⟨_, _, _, _, _, _, rfl, _⟩ := h; rfl) ?_
  rintro ds Pp ⟨t, s, u, K, q, L, rfl, hk, hql, hqs, hKK, hb, qn, qs⟩
  have hn := hk.n10
  have hn1 := hk.n1
  have hu5 := hk.u5
  have hu1 := hk.u1
  have h1 := hk.s1
  obtain ⟨v1, v2, v3⟩ := hk.lv
  have hU := wideQ_len t q
  have hll : (leftOf t.rows.length L).length ≤ t.rows.length := left_len
  have hgK : 1 ≤ gz s K := Nat.le_trans h1 (gz_le _)
  refine ss_cons (s_par (i := 3) (j := 4) (E.ev ?_))
  refine e_call (d_others_of M) lk ?_
  refine ea_cons ?_
  refine e_name (i := 0) rfl ?_
  refine ea_cons ?_
  refine e_name (i := 2) rfl ?_
  refine ea_nil ?_
  refine ⟨t, L, rfl, by omega, ?_⟩
  refine EF.ev ?_
  refine ef_rep ?_
  refine ef_lst ?_
  refine ea_cons ?_
  refine e_zero M ?_
  refine ea_nil ?_
  refine ⟨lk, ?_⟩
  refine e_call (d_many_plots M) lk ?_
  refine ea_cons ?_
  refine e_name (i := 0) rfl ?_
  refine ea_nil ?_
  refine ⟨t, rfl, ?_⟩
  refine ⟨_, rfl, by omega, by omega, lk, ?_⟩
  rw [Int.toNat_natCast, rep1]
  refine ss_cons (s_if ?_)
  refine b_cmp c_eq ?_ rfl
  refine e_name (i := 3) rfl ?_
  refine EF.toE ?_
  refine ef_lst ?_
  refine ea_nil ?_
  refine ⟨lk, ?_⟩
  refine ⟨?_, ?_⟩
  · exact ⟨shaped_natI _, rfl⟩
  refine ⟨fun e0 => ?_, fun e0 => ?_⟩
  · refine ss_freeze (i := 4) rfl ?_
    refine ss_cons (s_ret ?_)
    refine e_ifexp ?_
    refine b_val ?_
    refine e_call (d_is_idle M) lk ?_
    refine ea_cons ?_
    refine e_name (i := 1) rfl ?_
    refine ea_nil ?_
    have el : leftOf t.rows.length L = [] := by
      cases e : leftOf t.rows.length L with
      | nil => rfl
      | cons a b =>
        rw [e] at e0
        cases e0
    refine ⟨q, rfl, by omega, ?_⟩
    refine ⟨_, rfl, ?_⟩
    refine ⟨fun e1 => ?_, fun e1 => ?_⟩
    · refine EF.toE ?_
      refine ef_lst ?_
      refine ea_cons ?_
      refine e_tuple M.b_tuple ?_
      refine e_name (i := 4) rfl ?_
      refine ⟨_, (by first | exact Or.inl rfl | exact Or.inr rfl), ?_⟩
      refine ea_nil ?_
      refine ⟨lk, ?_⟩
      have hz : ∀ x ∈ q, x = 0 := fun x hx => of_decide_eq_true (List.all_eq_true.mp e1 x hx)
      have er : PyData.list [PyData.tuple (List.replicate t.rows.length (frac 0))] = .list [FT (List.replicate t.rows.length 0)] := by
        unfold FT
        rw [List.map_replicate]
      rw [er]
      exact qs _ List.length_replicate (fun p _ => ent_rep _ p) ((fair0 hz).congr fun i _ => ent_rep _ i) (allS_rep hgK)
    · refine EF.toE ?_
      refine ef_lst ?_
      refine ea_nil ?_
      refine ⟨lk, ?_⟩
      refine qn fun ⟨y, hy0, hy⟩ => ?_
      rw [Bool.eq_false_iff] at e1
      exact e1 (List.all_eq_true.mpr fun x hx => decide_eq_true (wideQ_zero (no_left el hy hy0) x hx))
  · refine ss_nil ?_
    refine ss_cons (s_set (i := 5) (E.ev ?_))
    refine e_call (d_whole_rows M) lk ?_
    refine ea_cons ?_
    refine e_name (i := 0) rfl ?_
    refine ea_nil ?_
    refine ⟨t, s, u, rfl, hk, ?_⟩
    refine ss_cons (s_for [6] ?_ tg_name)
    refine it_seq ?_
    refine e_call (d_some_answer M) lk ?_
    refine ea_cons ?_
    refine e_call (d_turned M) lk ?_
    refine ea_cons ?_
    refine EF.toE ?_
    refine ef_lc [("plot", 7)] [7] ?_ tg_name
    refine it_seq ?_
    refine e_name (i := 3) rfl ?_
    refine ⟨_, (by first | exact Or.inl rfl | exact Or.inr rfl), ?_⟩
    have hl1 : 1 ≤ (leftOf t.rows.length L).length := by
      cases e : leftOf t.rows.length L with
      | nil =>
        rw [e] at e0
        cases e0
      | cons a b => exact Nat.succ_le_succ (Nat.zero_le _)
    refine Lc0.to (((leftOf t.rows.length L).map (rowAt (wide t))).map FL) (by rw [List.length_map, List.length_map, List.length_map]) (by rw [List.length_map]; omega) (fun i d z hd hz => ?_) ?_
    · obtain ⟨p, hp, rfl⟩ := map_get hd
      obtain ⟨r, hr, rfl⟩ := map_get hz
      obtain ⟨p', hp', rfl⟩ := map_get hr
      rw [hp] at hp'
      cases hp'
      obtain ⟨hpn, _, _⟩ := left_get hp
      refine ⟨_, rfl, ?_⟩
      refine e_ix ?_
      refine e_name (i := 5) rfl ?_
      refine e_name (i := 7) rfl ?_
      refine ⟨_, _, _, .inr rfl, rfl, at_map (rowAt_get (rows := wide t) (by rw [wide_len]; exact hpn)), ?_⟩
      exact rfl
    · refine ea_nil ?_
      refine ⟨(leftOf t.rows.length L).map (rowAt (wide t)), (wideQ t q).length, rfl, by rw [List.length_map]; exact hl1, by rw [List.length_map]; omega, fun r hr => ?_, by omega, ?_⟩
      · obtain ⟨p, hp, rfl⟩ := List.mem_map.mp hr
        rw [(rowAt_sz hk (left_mem.mp hp).1).2, hU, hql]
      refine ea_cons ?_
      refine e_call (d_whole_question M) lk ?_
      refine ea_cons ?_
      refine e_name (i := 0) rfl ?_
      refine ea_cons ?_
      refine e_name (i := 1) rfl ?_
      refine ea_nil ?_
      refine ⟨t, s, u, q, rfl, hk, hql, ?_⟩
      refine ea_nil ?_
      have hmin : min (leftOf t.rows.length L).length (tabL t q L).length ≤ K := by
        rw [tabL_len]
        omega
      refine ⟨tabL t q L, wideQ t q, (leftOf t.rows.length L).length, s, K, rfl, fun r hr => tabL_row hr, hl1, by omega, by rw [tabL_len], by rw [tabL_len]; omega, by rw [tabL_len]; omega, tabL_sz hk, wideQ_sz hqs h1, h1, hmin, hb, fun hno => ?_, fun x hx hsol hsz => ?_⟩
      · refine ⟨_, (by first | exact Or.inl rfl | exact Or.inr rfl), ?_⟩
        refine ⟨fun i δ' => δ' = [.sh t.D, .sh (FT q), .sh (PT L), .sh (.list ((leftOf t.rows.length L).map natI)), .own (List.replicate t.rows.length (frac 0)), .sh (.list ((wide t).map FL)), .any, .any, .any], rfl, fun i d δ' hd hI => ?_, fun δ' hI => ?_⟩
        · exact absurd hd (by simp)
        · subst hI
          refine ss_cons (s_ret ?_)
          refine EF.toE ?_
          refine ef_lst ?_
          refine ea_nil ?_
          refine ⟨lk, ?_⟩
          exact qn fun ⟨y, hy0, hy⟩ => hno _ (sol_of hy hy0)
      · refine ⟨_, (by first | exact Or.inl rfl | exact Or.inr rfl), ?_⟩
        refine ⟨fun i δ' => i = 0 ∧ δ' = [.sh t.D, .sh (FT q), .sh (PT L), .sh (.list ((leftOf t.rows.length L).map natI)), .own (List.replicate t.rows.length (frac 0)), .sh (.list ((wide t).map FL)), .any, .any, .any], ⟨rfl, rfl⟩, fun i d δ' hd hI => ?_, fun δ' hI => ?_⟩
        · obtain ⟨rfl, rfl⟩ := hI
          obtain rfl : FL x = d := Option.some.inj hd
          refine ⟨_, rfl, rfl, ?_⟩
          refine ss_cons (s_for [7, 8] ?_ (tg_tup (tgs_cons tg_name (tgs_cons tg_name tgs_nil))))
          refine it_zip M.b_zip ?_
          refine e_name (i := 3) rfl ?_
          refine e_name (i := 6) rfl ?_
          refine ⟨_, _, (by first | exact Or.inl rfl | exact Or.inr rfl), (by first | exact Or.inl rfl | exact Or.inr rfl), ?_⟩
          refine ⟨fun i δ' => ∃ y : List Rat, y.length = t.rows.length ∧ (∀ k p, k < i → (leftOf t.rows.length L)[k]? = some p → ent y p = ent x k) ∧ (∀ p, p ∉ (leftOf t.rows.length L).take i → ent y p = 0) ∧ AllS (gz s K) y ∧ δ' = [.sh t.D, .sh (FT q), .sh (PT L), .sh (.list ((leftOf t.rows.length L).map natI)), .own (y.map frac), .sh (.list ((wide t).map FL)), .sh (FL x), .any, .any], ⟨List.replicate t.rows.length 0, List.length_replicate, fun k p hk _ => absurd hk (Nat.not_lt_zero k), fun p _ => ent_rep _ p, allS_rep hgK, ?_⟩, fun i d δ' hd hI => ?_, fun δ' hI => ?_⟩
          · rw [List.map_replicate]
            rfl
          · obtain ⟨y, hy1, hy2, hy3, hy4, rfl⟩ := hI
            obtain ⟨p, v, hp, hv, rfl⟩ := zip_get hd
            obtain ⟨hpn, _, _⟩ := left_get hp
            refine ⟨_, rfl, rfl, ?_⟩
            refine ss_cons (s_sub (i := 4) rfl ?_)
            refine e_name (i := 8) rfl ?_
            refine e_name (i := 7) rfl ?_
            refine ⟨_, _, rfl, ixN_nat (by rw [List.length_map]; omega), ?_⟩
            refine ss_drop (i := 7) rfl ?_
            refine ss_drop (i := 8) rfl ?_
            refine ss_nil ?_
            have hpy : p < y.length := by omega
            refine ⟨y.set p v, by rw [List.length_set]; exact hy1, fun k p' hk hkp => ?_, fun p' hp' => ?_, hy4.set (hsz.at hv), ?_⟩
            · rw [ent_set hpy]
              rcases Nat.lt_or_ge k i with hki | hki
              · have hne : p' ≠ p := fun e => by
                  subst e
                  have := nodup_get left_nodup hkp hp
                  omega
                rw [if_neg hne]
                exact hy2 k p' hki hkp
              · have e : k = i := by omega
                subst e
                rw [hp] at hkp
                cases hkp
                rw [if_pos rfl, ent_get hv]
            · rw [List.take_add_one, hp] at hp'
              have h1' := fun h => hp' (List.mem_append_left _ h)
              have h2' : p' ≠ p := fun e => hp' (List.mem_append_right _ (by rw [e]; exact List.mem_singleton.mpr rfl))
              rw [ent_set hpy, if_neg h2']
              exact hy3 p' h1'
            · rw [List.map_set]
              rfl
          · obtain ⟨y, hy1, hy2, hy3, hy4, rfl⟩ := hI
            rw [zipD_len, List.length_map, List.length_map, hx, Nat.min_self] at hy2 hy3
            rw [List.take_length] at hy3
            refine ss_freeze (i := 4) rfl ?_
            refine ss_cons (s_ret ?_)
            refine EF.toE ?_
            refine ef_lst ?_
            refine ea_cons ?_
            refine e_tuple M.b_tuple ?_
            refine e_name (i := 4) rfl ?_
            refine ⟨_, (by first | exact Or.inl rfl | exact Or.inr rfl), ?_⟩
            refine ea_nil ?_
            refine ⟨lk, ?_⟩
            have h0L : ∀ p ∈ L, ent y p = 0 := fun p hp => hy3 p fun hm => (left_mem.mp hm).2 hp
            refine qs y hy1 h0L (fair_of hsol (fun k hk => ?_) h0L) hy4
            have hkp := getD_get (d := 0) hk
            rw [hy2 k _ hk hkp]
        · exact absurd hI.1 (by simp)
def F_does_spoil_by (ds : List PyData) (Pp : PyData → Prop) : Prop := ∃ (t : Tr) (s u K : Nat) (q : List Rat) (L : List Nat), ds = [t.D, FT q, PT L] ∧ t.Ok s u ∧ q.length = u ∧ AllS s q ∧ (t.rows.length ≤ K ∨ (wideQ t q).length ≤ K) ∧ gz s K ≤ 33554432 ∧ Pp (.bool (spB t q L))
theorem d_does_spoil_by (M : Md T) : Ok T "does_spoil_by" ["trial", "question", "lot"] 47 (PureSp T.K F_does_spoil_by) := by
  refine okP M (k := 46) (i := 37) (s := _root_.Hd.s_does_spoil_by) (N := ["trial", "question", "lot"]) rfl rfl (by decide +kernel) (fun _ _ _ _ _ _ us hl => match us, hl with | [_, _, _], _ => rfl) (fun ds Pp h => by obtain ⟨_, _, _, _, _, _, rfl, _⟩ := h; rfl) ?_
  rintro ds Pp ⟨t, s, u, K, q, L, rfl, hk, hql, hqs, hKK, hb, qq⟩
  refine ss_cons (s_ret ?_)
  refine e_cmp c_eq ?_ rfl
  refine e_call (d_telling_without M) lk ?_
  refine ea_cons ?_
  refine e_name (i := 0) rfl ?_
  refine ea_cons ?_
  refine e_name (i := 1) rfl ?_
  refine ea_cons ?_
  refine e_name (i := 2) rfl ?_
  refine ea_nil ?_
  refine ⟨t, s, u, K, q, L, rfl, hk, hql, hqs, hKK, hb, fun hno => ?_, fun y hy1 hy2 hy3 hy4 => ?_⟩
  · refine EF.toE ?_
    refine ef_lst ?_
    refine ea_nil ?_
    refine ⟨lk, ?_⟩
    refine ⟨?_, ?_⟩
    · exact ⟨rfl, rfl⟩
    rw [spB_true.mpr hno] at qq
    exact qq
  · refine EF.toE ?_
    refine ef_lst ?_
    refine ea_nil ?_
    refine ⟨lk, ?_⟩
    refine ⟨?_, ?_⟩
    · exact ⟨shaped_telL y, rfl⟩
    rw [spB_false ⟨_, hy2, hy3⟩] at qq
    exact qq
def F_plot_lots (ds : List PyData) (Pp : PyData → Prop) : Prop := ∃ n size : Nat, ds = [natI n, natI size] ∧ n ≤ 10 ∧ Pp (.list ((lotsOf n size).map PT))
theorem d_plot_lots (M : Md T) : Ok T "plot_lots" ["many", "size"] 41 (PureSp T.K F_plot_lots) := by
  refine okP M (k := 40) (i := 38) (s := _root_.Hd.s_plot_lots) (N := ["many", "size", "found", "plot", "lot"]) rfl rfl (by decide +kernel) (fun _ _ _ _ _ _ us hl => match us, hl with | [_, _], _ => rfl) (fun ds Pp h => by obtain ⟨_, _, rfl, _⟩ := h; rfl) ?_
  rintro ds Pp ⟨n, size, rfl, hn, q⟩
  refine ss_cons (s_set (i := 2) (E.ev <| EF.toE ?_))
  refine ef_lst ?_
  refine ea_cons ?_
  refine e_tup ?_
  refine ea_nil ?_
  refine ⟨lk, ?_⟩
  refine ea_nil ?_
  refine ⟨lk, ?_⟩
  refine ss_cons (s_for [3] ?_ tg_name)
  refine it_range1 M.b_range ?_
  refine e_name (i := 0) rfl ?_
  refine ⟨_, rfl, by omega, by omega, ?_⟩
  rw [Int.toNat_natCast]
  refine ⟨fun i δ' => δ' = [.sh (natI n), .sh (natI size), .sh (.list ((lots size i).map PT)), .any, .any], rfl, fun i d δ' hd hI => ?_, fun δ' hI => ?_⟩
  · subst hI
    obtain ⟨hi, rfl⟩ := rgL_get hd
    rw [Int.zero_add]
    have hl := lots_pow (size := size) (n := i) (by omega)
    refine ⟨_, rfl, rfl, ?_⟩
    refine ss_cons (s_set (i := 2) (E.ev <| EF.toE ?_))
    refine ef_cat ?_
    refine e_name (i := 2) rfl ?_
    refine EF.toE ?_
    refine ef_lcIf [("lot", 4)] [4] ?_ tg_name
    refine it_seq ?_
    refine e_name (i := 2) rfl ?_
    refine ⟨_, (by first | exact Or.inl rfl | exact Or.inr rfl), ?_⟩
    refine Lc1.on (fun L : List Nat => decide (L.length < size)) (fun L => PT (L ++ [i])) (by omega) (fun L hL => ?_) ?_
    · have hLl := ((lots_mem i L).mp hL).1.len
      refine ⟨_, rfl, ?_, fun hp => ?_⟩
      · refine b_cmp c_lt ?_ rfl
        refine e_len M.b_len ?_
        refine e_name (i := 4) rfl ?_
        refine ⟨_, (by first | exact Or.inl rfl | exact Or.inr rfl), ?_⟩
        refine e_name (i := 1) rfl ?_
        refine ⟨⟨⟨_, rfl⟩, _, rfl⟩, ?_⟩
        show decide (((L.map fun p : Nat => PyData.int ((p : Nat) : Int)).length : Int) < ((size : Nat) : Int)) = decide (L.length < size)
        rw [List.length_map]
        by_cases h : L.length < size
        · rw [decide_eq_true h, decide_eq_true (by omega)]
        · rw [decide_eq_false h, decide_eq_false (by omega)]
      · refine e_tup ?_
        refine ea_star ?_
        refine e_name (i := 4) rfl ?_
        refine ⟨_, (by first | exact Or.inl rfl | exact Or.inr rfl), ?_⟩
        refine ea_cons ?_
        refine e_name (i := 3) rfl ?_
        refine ea_nil ?_
        refine ⟨?_, ?_⟩
        · rw [List.length_append, List.length_map]
          simp only [List.length_cons, List.length_nil]
          omega
        unfold PT
        rw [List.map_append]
        rfl
    · refine ⟨_, _, rfl, rfl, ?_, ?_⟩
      · rw [List.length_map, List.length_map]
        have := List.length_filter_le (fun L : List Nat => decide (L.length < size)) (lots size i)
        omega
      refine ss_drop (i := 3) rfl ?_
      refine ss_nil ?_
      show [_, _, SD.sh (PyData.list ((lots size i).map PT ++ ((lots size i).filter fun L => decide (L.length < size)).map fun L => PT (L ++ [i]))), _, _] = _
      have e : (lots size (i + 1)).map PT = (lots size i).map PT ++ ((lots size i).filter fun L => decide (L.length < size)).map fun L => PT (L ++ [i]) := by
        show (lots size i ++ ((lots size i).filter fun L => decide (L.length < size)).map fun L => L ++ [i]).map PT = _
        rw [List.map_append, List.map_map]
        rfl
      rw [e]
  · subst hI
    rw [rgL_len]
    have hl := lots_pow (size := size) (n := n) hn
    refine ss_cons (s_ret ?_)
    refine EF.toE ?_
    refine ef_lcIf [("lot", 4)] [4] ?_ tg_name
    refine it_seq ?_
    refine e_name (i := 2) rfl ?_
    refine ⟨_, (by first | exact Or.inl rfl | exact Or.inr rfl), ?_⟩
    refine Lc1.on (fun L : List Nat => decide (L.length = size)) PT (by omega) (fun L hL => ?_) ?_
    · refine ⟨_, rfl, ?_, fun hp => ?_⟩
      · refine b_cmp c_eq ?_ rfl
        refine e_len M.b_len ?_
        refine e_name (i := 4) rfl ?_
        refine ⟨_, (by first | exact Or.inl rfl | exact Or.inr rfl), ?_⟩
        refine e_name (i := 1) rfl ?_
        refine ⟨?_, ?_⟩
        · exact ⟨rfl, rfl⟩
        show decide (((L.map fun p : Nat => PyData.int ((p : Nat) : Int)).length : Int) = ((size : Nat) : Int)) = decide (L.length = size)
        rw [List.length_map]
        by_cases h : L.length = size
        · rw [decide_eq_true h, decide_eq_true (by omega)]
        · rw [decide_eq_false h, decide_eq_false (by omega)]
      · refine e_name (i := 4) rfl ?_
        exact rfl
    · exact q
end Pd

/-! text Qf -/
set_option Elab.async false
set_option linter.all false
set_option maxRecDepth 100000
set_option maxHeartbeats 4000000
namespace Pd
open PySem PySem.Spec PyProof.Rows L2 C8
variable {T : Th}
/-- a lot of m plots spoils -/
def SpoilM (t : Tr) (q : List Rat) (m : Nat) : Prop := ∃ L ∈ lotsOf t.rows.length m, ¬ Non t q L
def F_strength_by (ds : List PyData) (Pp : PyData → Prop) : Prop := ∃ (t : Tr) (s u K : Nat) (q : List Rat), ds = [t.D, FT q] ∧ t.Ok s u ∧ q.length = u ∧ AllS s q ∧ (t.rows.length ≤ K ∨ (wideQ t q).length ≤ K) ∧ gz s K ≤ 33554432 ∧
  ∀ k : Nat, k ≤ t.rows.length → (∀ m, 1 ≤ m → m ≤ k → ¬ SpoilM t q m) → (k < t.rows.length → SpoilM t q (k + 1)) → Pp (natI k)
theorem d_strength_by (M : Md T) : Ok T "strength_by" ["trial", "question"] 48 (PureSp T.K F_strength_by) := by
  refine okP M (k := 47) (i := 39) (s := _root_.Hd.s_strength_by) (N := ["trial", "question", "size", "lot"]) rfl rfl (by decide +kernel) (fun _ _ _ _ _ _ us hl => match us, hl with | [_, _], _ => rfl) (fun ds Pp h => by obtain ⟨_, _, _, _, _, rfl, _⟩ := h; rfl) ?_
  rintro ds Pp ⟨t, s, u, K, q, rfl, hk, hql, hqs, hKK, hb, qq⟩
  have hn := hk.n10
  refine ss_cons (s_for [2] ?_ tg_name)
  refine it_range2 M.b_range ?_
  refine e_int ?_
  refine e_add ?_
  refine e_call (d_many_plots M) lk ?_
  refine ea_cons ?_
  refine e_name (i := 0) rfl ?_
  refine ea_nil ?_
  refine ⟨t, rfl, ?_⟩
  refine e_int ?_
  refine ⟨_, _, rfl, rfl, ?_⟩
  refine ⟨_, _, rfl, rfl, ⟨by omega, by omega, by omega, by omega⟩, ?_⟩
  refine ⟨fun i δ' => (∀ m, 1 ≤ m → m ≤ i → ¬ SpoilM t q m) ∧ δ' = [.sh t.D, .sh (FT q), .any, .any], ⟨fun m h1 h2 => absurd h1 (by omega), rfl⟩, fun i d δ' hd hI => ?_, fun δ' hI => ?_⟩
  · obtain ⟨hm, rfl⟩ := hI
    obtain ⟨hi, rfl⟩ := rgL_get hd
    rw [show ((1 : Int) + ((i : Nat) : Int)) = ((i + 1 : Nat) : Int) by omega]
    have hlp := lotsOf_pow (size := i + 1) hn
    refine ⟨_, rfl, rfl, ?_⟩
    refine ss_cons (s_if ?_)
    refine b_val ?_
    refine e_any M.b_any ?_
    refine EF.toE ?_
    refine ef_lc [("lot", 3)] [3] ?_ tg_name
    refine it_seq ?_
    refine e_call (d_plot_lots M) lk ?_
    refine ea_cons ?_
    refine e_call (d_many_plots M) lk ?_
    refine ea_cons ?_
    refine e_name (i := 0) rfl ?_
    refine ea_nil ?_
    refine ⟨t, rfl, ?_⟩
    refine ea_cons ?_
    refine e_name (i := 2) rfl ?_
    refine ea_nil ?_
    refine ⟨t.rows.length, i + 1, rfl, hn, ?_⟩
    refine ⟨_, (by first | exact Or.inl rfl | exact Or.inr rfl), ?_⟩
    refine Lc0.to ((lotsOf t.rows.length (i + 1)).map fun L => PyData.bool (spB t q L)) (by rw [List.length_map, List.length_map]) (by rw [List.length_map]; omega) (fun j d z hd hz => ?_) ?_
    · obtain ⟨L, hL, rfl⟩ := map_get hd
      obtain ⟨L', hL', rfl⟩ := map_get hz
      rw [hL] at hL'
      cases hL'
      refine ⟨_, rfl, ?_⟩
      refine e_call (d_does_spoil_by M) lk ?_
      refine ea_cons ?_
      refine e_name (i := 0) rfl ?_
      refine ea_cons ?_
      refine e_name (i := 1) rfl ?_
      refine ea_cons ?_
      refine e_name (i := 3) rfl ?_
      refine ea_nil ?_
      refine ⟨t, s, u, K, q, L, rfl, hk, hql, hqs, hKK, hb, ?_⟩
      exact rfl
    · refine ⟨(lotsOf t.rows.length (i + 1)).map fun L => spB t q L, by rw [List.map_map] <;> rfl, ?_⟩
      refine ⟨_, rfl, ?_⟩
      refine ⟨fun e0 => ?_, fun e0 => ?_⟩
      · refine ss_cons (s_ret ?_)
        refine e_sub ?_
        refine e_name (i := 2) rfl ?_
        refine e_int ?_
        refine ⟨_, _, rfl, rfl, ?_⟩
        have e : ((i + 1 : Nat) : Int) - 1 = ((i : Nat) : Int) := by omega
        rw [e]
        obtain ⟨b, hb1, hb2⟩ := List.any_eq_true.mp e0
        obtain ⟨L, hL, rfl⟩ := List.mem_map.mp hb1
        exact qq i (by omega) hm fun _ => ⟨L, hL, spB_true.mp hb2⟩
      · refine ss_nil ?_
        refine ss_drop (i := 2) rfl ?_
        refine ss_nil ?_
        refine ⟨fun m h1 h2 => ?_, rfl⟩
        rcases Nat.lt_or_ge i m with hlt | hge
        · have em : m = i + 1 := by omega
          subst em
          rintro ⟨L, hL, hs⟩
          rw [Bool.eq_false_iff] at e0
          exact e0 (List.any_eq_true.mpr ⟨true, List.mem_map.mpr ⟨L, hL, spB_true.mpr hs⟩, rfl⟩)
        · exact hm m h1 hge
  · obtain ⟨hm, rfl⟩ := hI
    rw [rgL_len] at hm
    refine ss_cons (s_ret ?_)
    refine e_call (d_many_plots M) lk ?_
    refine ea_cons ?_
    refine e_name (i := 0) rfl ?_
    refine ea_nil ?_
    refine ⟨t, rfl, ?_⟩
    refine qq t.rows.length (Nat.le_refl _) (fun m h1 h2 => hm m h1 (by omega)) fun h => absurd h (Nat.lt_irrefl _)
def F_plots_in (ds : List PyData) (Pp : PyData → Prop) : Prop := ∃ ys : List Rat, ds = [FT ys] ∧ ys.length ≤ 1000 ∧ Pp (.list ((suppOf ys).map natI))
theorem d_plots_in (M : Md T) : Ok T "plots_in" ["telling"] 41 (PureSp T.K F_plots_in) := by
  refine okP M (k := 40) (i := 40) (s := _root_.Hd.s_plots_in) (N := ["telling", "plot", "weight"]) rfl rfl (by decide +kernel) (fun _ _ _ _ _ _ us hl => match us, hl with | [_], _ => rfl) (fun ds Pp h => by obtain ⟨_, rfl, _⟩ := h; rfl) ?_
  rintro ds Pp ⟨ys, rfl, hn, q⟩
  refine ss_cons (s_ret ?_)
  refine EF.toE ?_
  refine ef_lcIf [("plot", 1), ("weight", 2)] [1, 2] ?_ (tg_tup (tgs_cons tg_name (tgs_cons tg_name tgs_nil)))
  refine it_enum M.b_enumerate ?_
  refine e_name (i := 0) rfl ?_
  refine ⟨_, (by first | exact Or.inl rfl | exact Or.inr rfl), ?_⟩
  rw [enum_range]
  refine Lc1.on (fun i => decide (ent ys i ≠ 0)) natI (by rw [List.length_range]; omega) (fun i hi => ?_) ?_
  · refine ⟨_, rfl, ?_, fun hp => ?_⟩
    · refine b_cmp c_ne ?_ rfl
      refine e_name (i := 2) rfl ?_
      refine e_zero M ?_
      refine ⟨?_, ?_⟩
      · exact ⟨frac_shaped _, frac_shaped _⟩
      rw [frac_eqv]
      by_cases e : ent ys i = 0
      · simp [e]
      · simp [e]
    · refine e_name (i := 1) rfl ?_
      exact rfl
  · exact q
def F_is_missed (ds : List PyData) (Pp : PyData → Prop) : Prop := ∃ (L : List Nat) (ys : List Rat), ds = [PT L, FT ys] ∧ ys.length ≤ 1000 ∧ Pp (.bool (misB L ys))
theorem d_is_missed (M : Md T) : Ok T "is_missed" ["lot", "telling"] 42 (PureSp T.K F_is_missed) := by
  refine okP M (k := 41) (i := 41) (s := _root_.Hd.s_is_missed) (N := ["lot", "telling", "plot"]) rfl rfl (by decide +kernel) (fun _ _ _ _ _ _ us hl => match us, hl with | [_, _], _ => rfl) (fun ds Pp h => by obtain ⟨_, _, rfl, _⟩ := h; rfl) ?_
  rintro ds Pp ⟨L, ys, rfl, hn, q⟩
  have hsl : (suppOf ys).length ≤ ys.length := by
      have := List.length_filter_le (fun i => decide (ent ys i ≠ 0)) (List.range ys.length)
      rwa [List.length_range] at this
  refine ss_cons (s_ret ?_)
  refine e_not ?_
  refine e_any M.b_any ?_
  refine EF.toE ?_
  refine ef_lc [("plot", 2)] [2] ?_ tg_name
  refine it_seq ?_
  refine e_call (d_plots_in M) lk ?_
  refine ea_cons ?_
  refine e_name (i := 1) rfl ?_
  refine ea_nil ?_
  refine ⟨ys, rfl, hn, ?_⟩
  refine ⟨_, (by first | exact Or.inl rfl | exact Or.inr rfl), ?_⟩
  refine Lc0.to ((suppOf ys).map fun p => PyData.bool (decide (p ∈ L))) (by rw [List.length_map, List.length_map]) (by rw [List.length_map]; omega) (fun i d z hd hz => ?_) ?_
  · obtain ⟨p, hp, rfl⟩ := map_get hd
    obtain ⟨p', hp', rfl⟩ := map_get hz
    rw [hp] at hp'
    cases hp'
    refine ⟨_, rfl, ?_⟩
    refine e_cmp c_in ?_ rfl
    refine e_name (i := 2) rfl ?_
    refine e_name (i := 0) rfl ?_
    refine ⟨?_, ?_⟩
    · exact inC_PT _ L
    exact congrArg PyData.bool (inD_PT p L)
  · refine ⟨(suppOf ys).map fun p => decide (p ∈ L), by rw [List.map_map] <;> rfl, ?_⟩
    refine ⟨_, rfl, ?_⟩
    rw [misB_any]
    exact q
def GoodY (t : Tr) (q : List Rat) (b : Nat) (y : List Rat) : Prop := y.length = t.rows.length ∧ FairF t q (ent y) ∧ AllS b y
def F_outlasting_by (ds : List PyData) (Pp : PyData → Prop) : Prop := ∃ (t : Tr) (s u K : Nat) (q : List Rat) (m : Nat), ds = [t.D, FT q, natI m] ∧ t.Ok s u ∧ q.length = u ∧ AllS s q ∧ (t.rows.length ≤ K ∨ (wideQ t q).length ≤ K) ∧ gz s K ≤ 33554432 ∧
  (SpoilM t q m → Pp .none) ∧ ∀ ys : List (List Rat), (∀ y ∈ ys, GoodY t q (gz s K) y) → (∀ L ∈ lotsOf t.rows.length m, ∃ y ∈ ys, ∀ p ∈ L, ent y p = 0) → ys.length ≤ 2000 → Pp (.tuple (ys.map FT))
theorem d_outlasting_by (M : Md T) : Ok T "outlasting_by" ["trial", "question", "many"] 47 (PureSp T.K F_outlasting_by) := by
  refine okP M (k := 46) (i := 42) (s := _root_.Hd.s_outlasting_by) (N := ["trial", "question", "many", "found", "lot", "fresh", "telling"]) rfl rfl (by decide +kernel) (fun _ _ _ _ _ _ us hl => match us, hl with | [_, _, _], _ => rfl) (fun ds Pp h => by obtain ⟨_, _, _, _, _, _, rfl, _⟩ := h; rfl) ?_
  rintro ds Pp ⟨t, s, u, K, q, m, rfl, hk, hql, hqs, hKK, hb, qn, qs⟩
  have hn := hk.n10
  have hlp := lotsOf_pow (size := m) hn
  refine ss_cons (s_set (i := 3) (E.ev <| EF.toE ?_))
  refine ef_lst ?_
  refine ea_nil ?_
  refine ⟨lk, ?_⟩
  refine ss_cons (s_for [4] ?_ tg_name)
  refine it_seq ?_
  refine e_call (d_plot_lots M) lk ?_
  refine ea_cons ?_
  refine e_call (d_many_plots M) lk ?_
  refine ea_cons ?_
  refine e_name (i := 0) rfl ?_
  refine ea_nil ?_
  refine ⟨t, rfl, ?_⟩
  refine ea_cons ?_
  refine e_name (i := 2) rfl ?_
  refine ea_nil ?_
  refine ⟨t.rows.length, m, rfl, hn, ?_⟩
  refine ⟨_, (by first | exact Or.inl rfl | exact Or.inr rfl), ?_⟩
  refine ⟨fun i δ' => ∃ ys : List (List Rat), (∀ y ∈ ys, GoodY t q (gz s K) y) ∧ (∀ j L, j < i → (lotsOf t.rows.length m)[j]? = some L → ∃ y ∈ ys, ∀ p ∈ L, ent y p = 0) ∧ ys.length ≤ i ∧ δ' = [.sh t.D, .sh (FT q), .sh (natI m), .sh (.list (ys.map FT)), .any, .any, .any], ⟨[], fun y hy => absurd hy (by simp), fun j L hj => absurd hj (Nat.not_lt_zero j), Nat.le_refl _, rfl⟩, fun i d δ' hd hI => ?_, fun δ' hI => ?_⟩
  · obtain ⟨ys, hy1, hy2, hy3, rfl⟩ := hI
    obtain ⟨L, hL, rfl⟩ := map_get hd
    have hi := get_lt hL
    refine ⟨_, rfl, rfl, ?_⟩
    refine ss_cons (s_if ?_)
    refine b_not ?_
    refine b_val ?_
    refine e_any M.b_any ?_
    refine EF.toE ?_
    refine ef_lc [("telling", 6)] [6] ?_ tg_name
    refine it_seq ?_
    refine e_name (i := 3) rfl ?_
    refine ⟨_, (by first | exact Or.inl rfl | exact Or.inr rfl), ?_⟩
    refine Lc0.to (ys.map fun y => PyData.bool (misB L y)) (by rw [List.length_map, List.length_map]) (by rw [List.length_map]; omega) (fun j d z hd hz => ?_) ?_
    · obtain ⟨y, hy, rfl⟩ := map_get hd
      obtain ⟨y', hy', rfl⟩ := map_get hz
      rw [hy] at hy'
      cases hy'
      have hyl := (hy1 y (List.mem_of_getElem? hy)).1
      refine ⟨_, rfl, ?_⟩
      refine e_call (d_is_missed M) lk ?_
      refine ea_cons ?_
      refine e_name (i := 4) rfl ?_
      refine ea_cons ?_
      refine e_name (i := 6) rfl ?_
      refine ea_nil ?_
      refine ⟨L, y, rfl, by omega, ?_⟩
      exact rfl
    · refine ⟨ys.map fun y => misB L y, by rw [List.map_map] <;> rfl, ?_⟩
      refine ⟨_, rfl, ?_⟩
      refine ⟨fun e0 => ?_, fun e0 => ?_⟩
      · refine ss_cons (s_set (i := 5) (E.ev ?_))
        refine e_call (d_telling_without M) lk ?_
        refine ea_cons ?_
        refine e_name (i := 0) rfl ?_
        refine ea_cons ?_
        refine e_name (i := 1) rfl ?_
        refine ea_cons ?_
        refine e_name (i := 4) rfl ?_
        refine ea_nil ?_
        refine ⟨t, s, u, K, q, L, rfl, hk, hql, hqs, hKK, hb, fun hno => ?_, fun y z1 z2 z3 z4 => ?_⟩
        · refine ss_cons (s_if ?_)
          refine b_cmp c_eq ?_ rfl
          refine e_name (i := 5) rfl ?_
          refine EF.toE ?_
          refine ef_lst ?_
          refine ea_nil ?_
          refine ⟨lk, ?_⟩
          refine ⟨?_, ?_⟩
          · exact ⟨rfl, rfl⟩
          refine ⟨fun _ => ?_, fun h => absurd h (by decide)⟩
          refine ss_cons (s_ret ?_)
          refine e_none ?_
          exact qn ⟨L, List.mem_of_getElem? hL, hno⟩
        · refine ss_cons (s_if ?_)
          refine b_cmp c_eq ?_ rfl
          refine e_name (i := 5) rfl ?_
          refine EF.toE ?_
          refine ef_lst ?_
          refine ea_nil ?_
          refine ⟨lk, ?_⟩
          refine ⟨?_, ?_⟩
          · exact ⟨shaped_telL y, rfl⟩
          refine ⟨fun h => absurd h (by rw [eqv_nilL]; exact Bool.false_ne_true), fun _ => ?_⟩
          refine ss_nil ?_
          refine ss_cons (s_set (i := 3) (E.ev <| EF.toE ?_))
          refine ef_cat ?_
          refine e_name (i := 3) rfl ?_
          refine e_name (i := 5) rfl ?_
          refine ⟨_, _, rfl, rfl, ?_, ?_⟩
          · rw [List.length_map]
            simp only [List.length_cons, List.length_nil]
            omega
          refine ss_nil ?_
          refine ss_drop (i := 4) rfl ?_
          refine ss_drop (i := 5) rfl ?_
          refine ss_nil ?_
          refine ⟨ys ++ [y], fun y' hy' => ?_, fun j L' hj hL' => ?_, ?_, ?_⟩
          · rcases List.mem_append.mp hy' with hy' | hy'
            · exact hy1 y' hy'
            · rw [List.mem_singleton.mp hy']
              exact ⟨z1, z3, z4⟩
          · rcases Nat.lt_or_ge j i with hlt | hge
            · obtain ⟨y', a1, a2⟩ := hy2 j L' hlt hL'
              exact ⟨y', List.mem_append_left _ a1, a2⟩
            · have ej : j = i := by omega
              subst ej
              rw [hL] at hL'
              cases hL'
              exact ⟨y, List.mem_append_right _ (List.mem_singleton.mpr rfl), z2⟩
          · rw [List.length_append]
            exact Nat.succ_le_succ hy3
          · rw [List.map_append]
            rfl
      · refine ss_nil ?_
        refine ss_drop (i := 4) rfl ?_
        refine ss_drop (i := 5) rfl ?_
        refine ss_nil ?_
        have e1 : (ys.map fun y => misB L y).any id = true := by
          cases z : (ys.map fun y => misB L y).any id with
          | true => rfl
          | false =>
            rw [z] at e0
            cases e0
        obtain ⟨b, hb1, hb2⟩ := List.any_eq_true.mp e1
        obtain ⟨y, hy, rfl⟩ := List.mem_map.mp hb1
        refine ⟨ys, hy1, fun j L' hj hL' => ?_, Nat.le_succ_of_le hy3, rfl⟩
        rcases Nat.lt_or_ge j i with hlt | hge
        · exact hy2 j L' hlt hL'
        · have ej : j = i := by omega
          subst ej
          rw [hL] at hL'
          cases hL'
          exact ⟨y, hy, misB_iff.mp hb2⟩
  · obtain ⟨ys, hy1, hy2, hy3, rfl⟩ := hI
    rw [List.length_map] at hy2 hy3
    refine ss_cons (s_ret ?_)
    refine e_tuple M.b_tuple ?_
    refine e_name (i := 3) rfl ?_
    refine ⟨_, (by first | exact Or.inl rfl | exact Or.inr rfl), ?_⟩
    refine qs ys hy1 (fun L hL => ?_) (by omega)
    obtain ⟨j, ej⟩ := List.mem_iff_getElem?.mp hL
    exact hy2 j L (get_lt ej) ej
def F_is_fair_by (ds : List PyData) (Pp : PyData → Prop) : Prop := ∃ (t : Tr) (s u b : Nat) (q y : List Rat), ds = [t.D, FT q, FT y] ∧ t.Ok s u ∧ q.length = u ∧ y.length = t.rows.length ∧ AllS b y ∧ (t.rows.length + 1) * (s + b + 1) ≤ 134217727 ∧ FairF t q (ent y) ∧ Pp (.bool true)
theorem d_is_fair_by (M : Md T) : Ok T "is_fair_by" ["trial", "question", "telling"] 45 (PureSp T.K F_is_fair_by) := by
  refine okP M (k := 44) (i := 43) (s := _root_.Hd.s_is_fair_by) (N := ["trial", "question", "telling", "sums", "column"]) rfl rfl (by decide +kernel) (fun _ _ _ _ _ _ us hl => match us, hl with | [_, _, _], _ => rfl) (fun ds Pp h => by obtain ⟨_, _, _, _, _, _, rfl, _⟩ := h; rfl) ?_
  rintro ds Pp ⟨t, s, u, b, q, y, rfl, hk, hql, hyl, hys, hb, hf, qq⟩
  have hn := hk.n10
  have hn1 := hk.n1
  have hu5 := hk.u5
  have hu1 := hk.u1
  obtain ⟨v1, v2, v3⟩ := hk.lv
  have hU := wideQ_len t q
  refine ss_cons (s_lc (i := 3) [("column", 4)] [4] ?_ tg_name)
  refine it_seq ?_
  refine e_call (d_turned M) lk ?_
  refine ea_cons ?_
  refine e_call (d_whole_rows M) lk ?_
  refine ea_cons ?_
  refine e_name (i := 0) rfl ?_
  refine ea_nil ?_
  refine ⟨t, s, u, rfl, hk, ?_⟩
  refine ea_nil ?_
  refine ⟨wide t, (wideQ t q).length, rfl, by rw [wide_len]; exact hn1, by rw [wide_len]; omega, fun r hr => ?_, by omega, ?_⟩
  · rw [(hk.wideRow hr).1, hU, hql]
  refine ⟨_, (by first | exact Or.inl rfl | exact Or.inr rfl), ?_⟩
  refine Lc0.to ((wideQ t q).map frac) (by rw [List.length_map, List.length_map, turn_len]) (by rw [List.length_map, turn_len]; omega) (fun j d z hd hz => ?_) ?_
  · obtain ⟨c, hc, rfl⟩ := map_get hd
    obtain ⟨v, hv, rfl⟩ := map_get hz
    have hj := get_lt hv
    have ec : c = (wide t).map fun r => ent r j := by
      rw [turn_get hj] at hc
      exact (Option.some.inj hc).symm
    refine ⟨_, rfl, ?_⟩
    refine e_call (d_dot M) lk ?_
    refine ea_cons ?_
    refine e_name (i := 4) rfl ?_
    refine ea_cons ?_
    refine e_name (i := 2) rfl ?_
    refine ea_nil ?_
    refine ⟨c, y, s, b, _, _, rfl, .inr rfl, .inl rfl, ?_, hys, ?_, ?_, ?_⟩
    · rw [ec]
      intro x hx
      obtain ⟨r, hr, rfl⟩ := List.mem_map.mp hx
      exact ent_sz (hk.wideRow hr).2 hk.s1 j
    · rw [ec, List.length_map, wide_len]
      omega
    · rw [ec, List.length_map, wide_len]
      exact hb
    have e2 : dotR c y = v := by
      rw [ec, dotR_Sm (by rw [List.length_map, wide_len, hyl]), List.length_map, wide_len, ← ent_get hv, ← hf j hj]
      refine Sm_congr fun i hi => ?_
      have e3 : ent ((wide t).map fun r => ent r j) i = ent (rowAt (wide t) i) j := by
        refine ent_get ?_
        rw [List.getElem?_map, rowAt_get (rows := wide t) (by rw [wide_len]; exact hi)]
        rfl
      rw [e3]
    rw [e2]
  · refine ss_freeze (i := 3) rfl ?_
    refine ss_cons (s_ret ?_)
    refine e_cmp c_eq ?_ rfl
    refine e_name (i := 3) rfl ?_
    refine e_call (d_whole_question M) lk ?_
    refine ea_cons ?_
    refine e_name (i := 0) rfl ?_
    refine ea_cons ?_
    refine e_name (i := 1) rfl ?_
    refine ea_nil ?_
    refine ⟨t, s, u, q, rfl, hk, hql, ?_⟩
    refine ⟨?_, ?_⟩
    · exact ⟨shaped_FL _, shaped_FL _⟩
    have e : PyData.eqv (.list ((wideQ t q).map frac)) (FL (wideQ t q)) = true := by
      unfold FL
      rw [eqv_fracs, decide_eq_true rfl]
    rw [e]
    exact qq
def F_fair_by (ds : List PyData) (Pp : PyData → Prop) : Prop := ∃ (t : Tr) (s u K : Nat) (q : List Rat), ds = [t.D, FT q] ∧ t.Ok s u ∧ q.length = u ∧ AllS s q ∧ (t.rows.length ≤ K ∨ (wideQ t q).length ≤ K) ∧ gz s K ≤ 33554432 ∧ Non t q [] ∧ ∀ y : List Rat, Pp (.list [FT y])
theorem d_fair_by (M : Md T) : Ok T "fair_by" ["trial", "question"] 46 (PureSp T.K F_fair_by) := by
  refine okP M (k := 45) (i := 44) (s := _root_.Hd.s_fair_by) (N := ["trial", "question", "found", "each"]) rfl rfl (by decide +kernel) (fun _ _ _ _ _ _ us hl => match us, hl with | [_, _], _ => rfl) (fun ds Pp h => by obtain ⟨_, _, _, _, _, rfl, _⟩ := h; rfl) ?_
  rintro ds Pp ⟨t, s, u, K, q, rfl, hk, hql, hqs, hKK, hb, hno, qq⟩
  have hn := hk.n10
  have hn1 := hk.n1
  have hu5 := hk.u5
  have hu1 := hk.u1
  have h1 := hk.s1
  obtain ⟨v1, v2, v3⟩ := hk.lv
  have hU := wideQ_len t q
  refine ss_cons (s_set (i := 2) (E.ev ?_))
  refine e_call (d_some_answer M) lk ?_
  refine ea_cons ?_
  refine e_call (d_turned M) lk ?_
  refine ea_cons ?_
  refine e_call (d_whole_rows M) lk ?_
  refine ea_cons ?_
  refine e_name (i := 0) rfl ?_
  refine ea_nil ?_
  refine ⟨t, s, u, rfl, hk, ?_⟩
  refine ea_nil ?_
  refine ⟨wide t, (wideQ t q).length, rfl, by rw [wide_len]; exact hn1, by rw [wide_len]; omega, fun r hr => ?_, by omega, ?_⟩
  · rw [(hk.wideRow hr).1, hU, hql]
  rw [← tabL_nil]
  refine ea_cons ?_
  refine e_call (d_whole_question M) lk ?_
  refine ea_cons ?_
  refine e_name (i := 0) rfl ?_
  refine ea_cons ?_
  refine e_name (i := 1) rfl ?_
  refine ea_nil ?_
  refine ⟨t, s, u, q, rfl, hk, hql, ?_⟩
  refine ea_nil ?_
  have hll : (leftOf t.rows.length []).length = t.rows.length := by rw [left_nil, List.length_range]
  obtain ⟨y0, hy0, hy⟩ := hno
  have hmin : min (leftOf t.rows.length []).length (tabL t q []).length ≤ K := by
    rw [tabL_len]
    omega
  refine ⟨tabL t q [], wideQ t q, (leftOf t.rows.length []).length, s, K, rfl, fun r hr => tabL_row hr, by omega, by omega, by rw [tabL_len], by rw [tabL_len]; omega, by rw [tabL_len]; omega, tabL_sz hk, wideQ_sz hqs h1, h1, hmin, hb, fun hno => absurd (sol_of hy hy0) (hno _), fun x hx hsol hsz => ?_⟩
  refine ss_cons (s_ret ?_)
  refine EF.toE ?_
  refine ef_lc [("each", 3)] [3] ?_ tg_name
  refine it_seq ?_
  refine e_name (i := 2) rfl ?_
  refine ⟨_, (by first | exact Or.inl rfl | exact Or.inr rfl), ?_⟩
  refine Lc0.to [FT x] rfl lk (fun i d z hd hz => ?_) ?_
  · obtain rfl : FL x = d := by
      cases i with
      | zero => exact Option.some.inj hd
      | succ i => cases hd
    obtain rfl : FT x = z := by
      cases i with
      | zero => exact Option.some.inj hz
      | succ i => cases hz
    refine ⟨_, rfl, ?_⟩
    refine e_tuple M.b_tuple ?_
    refine e_name (i := 3) rfl ?_
    refine ⟨_, (by first | exact Or.inl rfl | exact Or.inr rfl), ?_⟩
    exact rfl
  · exact qq x
def F_check_told (ds : List PyData) (Pp : PyData → Prop) : Prop := ∃ (t : Tr) (s u K : Nat) (q : List Rat), ds = [t.D, FT q] ∧ t.Ok s u ∧ q.length = u ∧ AllS s q ∧ (t.rows.length ≤ K ∨ (wideQ t q).length ≤ K) ∧ gz s K ≤ 33554432 ∧ Non t q [] ∧ Pp .none
theorem d_check_told (M : Md T) : Ok T "check_told" ["trial", "question"] 47 (PureSp T.K F_check_told) := by
  refine okP M (k := 46) (i := 45) (s := _root_.Hd.s_check_told) (N := ["trial", "question"]) rfl rfl (by decide +kernel) (fun _ _ _ _ _ _ us hl => match us, hl with | [_, _], _ => rfl) (fun ds Pp h => by obtain ⟨_, _, _, _, _, rfl, _⟩ := h; rfl) ?_
  rintro ds Pp ⟨t, s, u, K, q, rfl, hk, hql, hqs, hKK, hb, hno, qq⟩
  refine ss_cons (s_if ?_)
  refine b_cmp c_eq ?_ rfl
  refine e_call (d_fair_by M) lk ?_
  refine ea_cons ?_
  refine e_name (i := 0) rfl ?_
  refine ea_cons ?_
  refine e_name (i := 1) rfl ?_
  refine ea_nil ?_
  refine ⟨t, s, u, K, q, rfl, hk, hql, hqs, hKK, hb, hno, fun y => ?_⟩
  refine EF.toE ?_
  refine ef_lst ?_
  refine ea_nil ?_
  refine ⟨lk, ?_⟩
  refine ⟨?_, ?_⟩
  · exact ⟨shaped_telL y, rfl⟩
  refine ⟨fun h => absurd h (by rw [eqv_nilL]; exact Bool.false_ne_true), fun _ => ?_⟩
  refine ss_nil ?_
  refine ss_nil ?_
  exact qq
def F_strength (ds : List PyData) (Pp : PyData → Prop) : Prop := ∃ (t : Tr) (s u K : Nat) (q : List Rat), ds = [t.D, FT q] ∧ t.Ok s u ∧ q.length = u ∧ AllS s q ∧ (t.rows.length ≤ K ∨ (wideQ t q).length ≤ K) ∧ gz s K ≤ 33554432 ∧ Non t q [] ∧
  ∀ k : Nat, k ≤ t.rows.length → (∀ m, 1 ≤ m → m ≤ k → ¬ SpoilM t q m) → (k < t.rows.length → SpoilM t q (k + 1)) → Pp (natI k)
theorem d_strength (M : Md T) : Ok T "strength" ["trial", "question"] 49 (PureSp T.K F_strength) := by
  refine okP M (k := 48) (i := 46) (s := _root_.Hd.s_strength) (N := ["trial", "question"]) rfl rfl (by decide +kernel) (fun _ _ _ _ _ _ us hl => match us, hl with | [_, _], _ => rfl) (fun ds Pp h => by obtain ⟨_, _, _, _, _, rfl, _⟩ := h; rfl) ?_
  rintro ds Pp ⟨t, s, u, K, q, rfl, hk, hql, hqs, hKK, hb, hno, qq⟩
  refine ss_cons (s_expr ?_)
  refine e_call (d_check_asked M) lk ?_
  refine ea_cons ?_
  refine e_name (i := 0) rfl ?_
  refine ea_cons ?_
  refine e_name (i := 1) rfl ?_
  refine ea_nil ?_
  refine ⟨t, s, u, q, rfl, hk, hql, ?_⟩
  refine ss_cons (s_expr ?_)
  refine e_call (d_check_told M) lk ?_
  refine ea_cons ?_
  refine e_name (i := 0) rfl ?_
  refine ea_cons ?_
  refine e_name (i := 1) rfl ?_
  refine ea_nil ?_
  refine ⟨t, s, u, K, q, rfl, hk, hql, hqs, hKK, hb, hno, ?_⟩
  refine ss_cons (s_ret ?_)
  refine e_call (d_strength_by M) lk ?_
  refine ea_cons ?_
  refine e_name (i := 0) rfl ?_
  refine ea_cons ?_
  refine e_name (i := 1) rfl ?_
  refine ea_nil ?_
  refine ⟨t, s, u, K, q, rfl, hk, hql, hqs, hKK, hb, fun k z1 z2 z3 => ?_⟩
  exact qq k z1 z2 z3
def F_outlasting (ds : List PyData) (Pp : PyData → Prop) : Prop := ∃ (t : Tr) (s u K : Nat) (q : List Rat) (m : Nat), ds = [t.D, FT q, natI m] ∧ t.Ok s u ∧ q.length = u ∧ AllS s q ∧ (t.rows.length ≤ K ∨ (wideQ t q).length ≤ K) ∧ gz s K ≤ 33554432 ∧ m ≤ t.rows.length ∧ Non t q [] ∧
  (SpoilM t q m → Pp .none) ∧ ∀ ys : List (List Rat), (∀ y ∈ ys, GoodY t q (gz s K) y) → (∀ L ∈ lotsOf t.rows.length m, ∃ y ∈ ys, ∀ p ∈ L, ent y p = 0) → ys.length ≤ 2000 → Pp (.tuple (ys.map FT))
theorem d_outlasting (M : Md T) : Ok T "outlasting" ["trial", "question", "many"] 48 (PureSp T.K F_outlasting) := by
  refine okP M (k := 47) (i := 47) (s := _root_.Hd.s_outlasting) (N := ["trial", "question", "many"]) rfl rfl (by decide +kernel) (fun _ _ _ _ _ _ us hl => match us, hl with | [_, _, _], _ => rfl) (fun ds Pp h => by obtain ⟨_, _, _, _, _, _, rfl, _⟩ := h; rfl) ?_
  rintro ds Pp ⟨t, s, u, K, q, m, rfl, hk, hql, hqs, hKK, hb, hm, hno, qn, qs⟩
  refine ss_cons (s_expr ?_)
  refine e_call (d_check_asked M) lk ?_
  refine ea_cons ?_
  refine e_name (i := 0) rfl ?_
  refine ea_cons ?_
  refine e_name (i := 1) rfl ?_
  refine ea_nil ?_
  refine ⟨t, s, u, q, rfl, hk, hql, ?_⟩
  refine ss_cons (s_expr ?_)
  refine e_call (d_check_many M) lk ?_
  refine ea_cons ?_
  refine e_name (i := 2) rfl ?_
  refine ea_cons ?_
  refine e_int ?_
  refine ea_cons ?_
  refine e_call (d_many_plots M) lk ?_
  refine ea_cons ?_
  refine e_name (i := 0) rfl ?_
  refine ea_nil ?_
  refine ⟨t, rfl, ?_⟩
  refine ea_nil ?_
  refine ⟨_, _, _, rfl, by omega, by omega, ?_⟩
  refine ss_cons (s_expr ?_)
  refine e_call (d_check_told M) lk ?_
  refine ea_cons ?_
  refine e_name (i := 0) rfl ?_
  refine ea_cons ?_
  refine e_name (i := 1) rfl ?_
  refine ea_nil ?_
  refine ⟨t, s, u, K, q, rfl, hk, hql, hqs, hKK, hb, hno, ?_⟩
  refine ss_cons (s_ret ?_)
  refine e_call (d_outlasting_by M) lk ?_
  refine ea_cons ?_
  refine e_name (i := 0) rfl ?_
  refine ea_cons ?_
  refine e_name (i := 1) rfl ?_
  refine ea_cons ?_
  refine e_name (i := 2) rfl ?_
  refine ea_nil ?_
  refine ⟨t, s, u, K, q, m, rfl, hk, hql, hqs, hKK, hb, fun hs => ?_, fun ys z1 z2 z3 => ?_⟩
  · exact qn hs
  · exact qs ys z1 z2 z3
def F_is_fair (ds : List PyData) (Pp : PyData → Prop) : Prop := ∃ (t : Tr) (s u b : Nat) (q y : List Rat), ds = [t.D, FT q, FT y] ∧ t.Ok s u ∧ q.length = u ∧ y.length = t.rows.length ∧ AllS b y ∧ (t.rows.length + 1) * (s + b + 1) ≤ 134217727 ∧ FairF t q (ent y) ∧ Pp (.bool true)
theorem d_is_fair (M : Md T) : Ok T "is_fair" ["trial", "question", "telling"] 48 (PureSp T.K F_is_fair) := by
  refine okP M (k := 47) (i := 48) (s := _root_.Hd.s_is_fair) (N := ["trial", "question", "telling"]) rfl rfl (by decide +kernel) (fun _ _ _ _ _ _ us hl => match us, hl with | [_, _, _], _ => rfl) (fun ds Pp h => by obtain ⟨_, _, _, _, _, _, rfl, _⟩ := h; rfl) ?_
  rintro ds Pp ⟨t, s, u, b, q, y, rfl, hk, hql, hyl, hys, hb, hf, qq⟩
  refine ss_cons (s_expr ?_)
  refine e_call (d_check_asked M) lk ?_
  refine ea_cons ?_
  refine e_name (i := 0) rfl ?_
  refine ea_cons ?_
  refine e_name (i := 1) rfl ?_
  refine ea_nil ?_
  refine ⟨t, s, u, q, rfl, hk, hql, ?_⟩
  refine ss_cons (s_expr ?_)
  refine e_call (d_check_telling M) lk ?_
  refine ea_cons ?_
  refine e_name (i := 0) rfl ?_
  refine ea_cons ?_
  refine e_name (i := 2) rfl ?_
  refine ea_nil ?_
  refine ⟨t, s, u, y, rfl, hk, hyl, ?_⟩
  refine ss_cons (s_ret ?_)
  refine e_call (d_is_fair_by M) lk ?_
  refine ea_cons ?_
  refine e_name (i := 0) rfl ?_
  refine ea_cons ?_
  refine e_name (i := 1) rfl ?_
  refine ea_cons ?_
  refine e_name (i := 2) rfl ?_
  refine ea_nil ?_
  refine ⟨t, s, u, b, q, y, rfl, hk, hql, hyl, hys, hb, hf, ?_⟩
  exact qq
def F_plots_of (ds : List PyData) (Pp : PyData → Prop) : Prop := ∃ (t : Tr) (s u : Nat) (L : List Nat), ds = [t.D, PT L] ∧ t.Ok s u ∧ Lot t.rows.length L ∧ L ≠ [] ∧ Pp (sub t L).D
theorem d_plots_of (M : Md T) : Ok T "plots_of" ["trial", "lot"] 47 (PureSp T.K F_plots_of) := by
  refine okP M (k := 46) (i := 49) (s := _root_.Hd.s_plots_of) (N := ["trial", "lot"]) rfl rfl (by decide +kernel) (fun _ _ _ _ _ _ us hl => match us, hl with | [_, _], _ => rfl) (fun ds Pp h => by obtain ⟨_, _, _, _, rfl, _⟩ := h; rfl) ?_
  rintro ds Pp ⟨t, s, u, L, rfl, hk, hL, h0, q⟩
  refine ss_cons (s_expr ?_)
  refine e_call (d_check_trial M) lk ?_
  refine ea_cons ?_
  refine e_name (i := 0) rfl ?_
  refine ea_nil ?_
  refine ⟨t, s, u, rfl, hk, ?_⟩
  refine ss_cons (s_expr ?_)
  refine e_call (d_check_lot M) lk ?_
  refine ea_cons ?_
  refine e_name (i := 0) rfl ?_
  refine ea_cons ?_
  refine e_name (i := 1) rfl ?_
  refine ea_nil ?_
  refine ⟨t, s, u, L, rfl, hk, hL, h0, ?_⟩
  refine ss_cons (s_ret ?_)
  refine e_call (d_plots_by M) lk ?_
  refine ea_cons ?_
  refine e_name (i := 0) rfl ?_
  refine ea_cons ?_
  refine e_name (i := 1) rfl ?_
  refine ea_nil ?_
  refine ⟨t, s, u, L, rfl, hk, hL, ?_⟩
  exact q
end Pd

/-! text Rq -/
set_option Elab.async false
set_option linter.all false
set_option maxRecDepth 100000
set_option maxHeartbeats 4000000
/-! How many lasting. -/
namespace Pd
open PySem PySem.Spec PyProof.Rows L2 C8
theorem Drawn.facts {t : Tr} {q : List Rat} (h : Drawn t q) : ∃ u, t.Ok 6000 u ∧ q.length = u ∧ AllS 6000 q ∧ (t.rows.length ≤ 5 ∨ (wideQ t q).length ≤ 5) ∧ gz 6000 5 ≤ 33554432 ∧ Non t q [] ∧ (t.rows.length + 1) * (6000 + gz 6000 5 + 1) ≤ 134217727 ∧ t.rows.length ≤ 8 := by
  obtain ⟨u, hk, hq, hs, hn, hc⟩ := h
  have hg : gz 6000 5 = 6144341 := rfl
  refine ⟨u, hk, hq, hs, ?_, by rw [hg]; omega, hn, ?_, by omega⟩
  · rcases hc with h5 | ⟨_, _, h1, hb, _⟩
    · exact .inl h5
    · right
      rw [wideQ_len, hq, hb, h1]
      decide
  · have h8 : t.rows.length ≤ 8 := by omega
    rw [hg]
    omega
noncomputable def lastB (t : Tr) (q : List Rat) (m : Nat) : Bool := @decide (¬ SpoilM t q m) (Classical.propDecidable _)
section
variable {t : Tr} {s u : Nat} {q : List Rat}
theorem lastB_true {m : Nat} : lastB t q m = true ↔ ¬ SpoilM t q m := by
  unfold lastB
  rw [@decide_eq_true_iff _ (Classical.propDecidable _)]
theorem lastB_false {m : Nat} : lastB t q m = false ↔ SpoilM t q m := by
  rw [Bool.eq_false_iff, ne_eq, lastB_true, Classical.not_not]
theorem spoil0 (h : Non t q []) : ¬ SpoilM t q 0 := by
  rintro ⟨L, hL, hs⟩
  have : L = [] := List.eq_nil_of_length_eq_zero (lotsOf_mem.mp hL).2
  rw [this] at hs
  exact hs h
theorem any_last (h : Non t q []) {m : Nat} {LL : List (List Nat)} (hLL : ∀ L, L ∈ LL ↔ Lot t.rows.length L ∧ L ≠ [] ∧ L.length = m) : (!(LL.map fun L => spB t q L).any id) = lastB t q m := by
  rw [Bool.eq_iff_iff, lastB_true, Bool.not_eq_true', Bool.eq_false_iff, ne_eq, List.any_eq_true]
  refine not_congr ⟨?_, ?_⟩
  · rintro ⟨b, hb, hb2⟩
    obtain ⟨L, hL, rfl⟩ := List.mem_map.mp hb
    obtain ⟨h1, h2, h3⟩ := (hLL L).mp hL
    exact ⟨L, lotsOf_mem.mpr ⟨h1, h3⟩, spB_true.mp hb2⟩
  · rintro ⟨L, hL, hs⟩
    obtain ⟨h1, h3⟩ := lotsOf_mem.mp hL
    have h2 : L ≠ [] := fun e => by
      rw [e] at hs
      exact hs h
    exact ⟨true, List.mem_map.mpr ⟨L, (hLL L).mpr ⟨h1, h2, h3⟩, spB_true.mpr hs⟩, rfl⟩
theorem range_lot {m n : Nat} (h : m ≤ n) : Lot n (List.range m) := ⟨List.pairwise_lt_range, fun p hp => Nat.lt_of_lt_of_le (List.mem_range.mp hp) h⟩
theorem lots_ex {m n : Nat} (h : m ≤ n) : List.range m ∈ lotsOf n m := lotsOf_mem.mpr ⟨range_lot h, List.length_range⟩
theorem lot_filter {n : Nat} {L : List Nat} (h : Lot n L) : L = (List.range n).filter fun i => decide (i ∈ L) := lot_ext h ⟨List.pairwise_lt_range.filter _, fun p hp => List.mem_range.mp (List.mem_filter.mp hp).1⟩ fun a => by
  rw [List.mem_filter, List.mem_range]
  constructor
  · exact fun ha => ⟨h.2 a ha, decide_eq_true ha⟩
  · exact fun ha => of_decide_eq_true ha.2
theorem filter_more {l : List Nat} {L : List Nat} {x : Nat} (hn : l.Nodup) (hx : x ∈ l) (hL : x ∉ L) : (l.filter fun i => decide (i ∈ L ∨ i = x)).length = (l.filter fun i => decide (i ∈ L)).length + 1 := by
  induction l with
  | nil => cases hx
  | cons a r ih =>
    obtain ⟨n1, n2⟩ := List.nodup_cons.mp hn
    by_cases e : a = x
    · subst e
      rw [List.filter_cons_of_pos (by simp), List.filter_cons_of_neg (by simpa using hL), List.length_cons]
      congr 2
      refine List.filter_congr fun i hi => ?_
      have hne : i ≠ a := fun z => n1 (by rw [← z]; exact hi)
      simp [hne]
    · have hx' : x ∈ r := by
        rcases List.mem_cons.mp hx with z | z
        · exact absurd z.symm e
        · exact z
      by_cases ha : a ∈ L
      · rw [List.filter_cons_of_pos (by simp [ha]), List.filter_cons_of_pos (by simp [ha]), List.length_cons, List.length_cons, ih n2 hx']
      · rw [List.filter_cons_of_neg (by simp [ha, e]), List.filter_cons_of_neg (by simp [ha]), ih n2 hx']
theorem lot_more {n : Nat} {L : List Nat} (h : Lot n L) (hl : L.length < n) : ∃ L', Lot n L' ∧ (∀ i ∈ L, i ∈ L') ∧ L'.length = L.length + 1 := by
  obtain ⟨x, hx, hxL⟩ : ∃ x, x < n ∧ x ∉ L := by
    refine Classical.byContradiction fun hno => ?_
    have hall : ∀ i, i < n → i ∈ L := fun i hi => Classical.byContradiction fun z => hno ⟨i, hi, z⟩
    have e := congrArg List.length (lot_filter h)
    have e2 : (List.range n).filter (fun i => decide (i ∈ L)) = List.range n := List.filter_eq_self.mpr fun i hi => decide_eq_true (hall i (List.mem_range.mp hi))
    rw [e2, List.length_range] at e
    omega
  refine ⟨(List.range n).filter fun i => decide (i ∈ L ∨ i = x), ⟨List.pairwise_lt_range.filter _, fun p hp => List.mem_range.mp (List.mem_filter.mp hp).1⟩, fun i hi => List.mem_filter.mpr ⟨List.mem_range.mpr (h.2 i hi), decide_eq_true (.inl hi)⟩, ?_⟩
  rw [filter_more List.nodup_range (List.mem_range.mpr hx) hxL, ← lot_filter h]
theorem spoil_mono {m m' : Nat} (h : SpoilM t q m) (hm : m ≤ m') (hn : m' ≤ t.rows.length) : SpoilM t q m' := by
  induction m' with
  | zero =>
    have : m = 0 := by omega
    rw [this] at h
    exact h
  | succ k ih =>
    by_cases e : m = k + 1
    · rw [e] at h
      exact h
    · obtain ⟨L, hL, hs⟩ := ih (by omega) (by omega)
      obtain ⟨h1, h2⟩ := lotsOf_mem.mp hL
      obtain ⟨L', a, b, c⟩ := lot_more h1 (by omega)
      exact ⟨L', lotsOf_mem.mpr ⟨a, by omega⟩, fun hn' => hs (hn'.sub b)⟩
/-- the lasting ones are those up to the strength -/
theorem last_iff (h0 : Non t q []) {k m : Nat} (h1 : ∀ m, 1 ≤ m → m ≤ k → ¬ SpoilM t q m) (h2 : k < t.rows.length → SpoilM t q (k + 1)) (hm : m ≤ t.rows.length) : lastB t q m = decide (m ≤ k) := by
  rw [Bool.eq_iff_iff, lastB_true, decide_eq_true_iff]
  constructor
  · intro hs
    refine Classical.byContradiction fun hk => hs ?_
    exact spoil_mono (h2 (by omega)) (by omega) hm
  · intro hk
    rcases Nat.eq_zero_or_pos m with e | e
    · rw [e]
      exact spoil0 h0
    · exact h1 m e hk
theorem filter_le {n k : Nat} (h : k ≤ n) : (List.range (n + 1)).filter (fun m => decide (m ≤ k)) = List.range (k + 1) := by
  induction n with
  | zero =>
    have : k = 0 := by omega
    subst this
    rfl
  | succ n ih =>
    rw [List.range_succ, List.filter_append]
    by_cases e : k = n + 1
    · subst e
      rw [List.filter_eq_self.mpr fun i hi => decide_eq_true (by have := List.mem_range.mp hi; omega), List.filter_cons_of_pos (by simp), List.range_succ (n := n + 1)]
      rfl
    · rw [ih (by omega), List.filter_cons_of_neg (by simp; omega)]
      simp
end
end Pd

/-! text Rr -/
set_option Elab.async false
set_option linter.all false
set_option maxRecDepth 100000
set_option maxHeartbeats 4000000
/-! The great trials: one unknown, no blocks. -/
namespace Pd
open PySem PySem.Spec PyProof.Rows L2 C8
def liveN (R : List (List Rat)) : Nat := (R.filter fun r => decide (ent r 0 ≠ 0)).length
def liveL (t : Tr) : List Nat := (List.range t.rows.length).filter fun i => decide (ent (rowAt t.rows i) 0 ≠ 0)
theorem live_len (t : Tr) : (liveL t).length = liveN t.rows := by
  have e : t.rows.filter (fun r => decide (ent r 0 ≠ 0)) = ((List.range t.rows.length).map (rowAt t.rows)).filter (fun r => decide (ent r 0 ≠ 0)) := by rw [range_rowAt rfl]
  unfold liveN liveL
  rw [e, List.filter_map, List.length_map]
  rfl
theorem live_lot (t : Tr) : Lot t.rows.length (liveL t) := ⟨List.pairwise_lt_range.filter _, fun p hp => List.mem_range.mp (List.mem_filter.mp hp).1⟩
theorem live_mem {t : Tr} {i : Nat} : i ∈ liveL t ↔ i < t.rows.length ∧ ent (rowAt t.rows i) 0 ≠ 0 := by
  unfold liveL
  rw [List.mem_filter, List.mem_range, decide_eq_true_iff]
theorem lot_sub {n : Nat} {L L' : List Nat} (h : Lot n L) (h' : Lot n L') (hs : ∀ i ∈ L, i ∈ L') : L.length ≤ L'.length := by
  rw [lot_filter h, lot_filter h', ← List.countP_eq_length_filter, ← List.countP_eq_length_filter]
  exact List.countP_mono_left fun i _ hi => decide_eq_true (hs i (of_decide_eq_true hi))
section
variable {t : Tr} {s : Nat} {q : List Rat} {L : List Nat}
theorem great_non (hk : t.Ok s 1) (hq : q.length = 1) (hb : t.blk = []) (h0 : ∃ x ∈ q, x ≠ 0) : Non t q L ↔ ∃ i, i < t.rows.length ∧ i ∉ L ∧ ent (rowAt t.rows i) 0 ≠ 0 := by
  have hq0 : ent q 0 ≠ 0 := by
    obtain ⟨x, hx, hx0⟩ := h0
    obtain ⟨j, ej⟩ := List.mem_iff_getElem?.mp hx
    have hj := get_lt ej
    have e : j = 0 := by omega
    subst e
    rw [ent_get ej]
    exact hx0
  constructor
  · rintro ⟨y, hy0, hf⟩
    refine Classical.byContradiction fun hno => hq0 ?_
    rw [← fair_lo hk hq hf (j := 0) (by omega)]
    refine Sm_zero fun i hi => ?_
    by_cases hiL : i ∈ L
    · rw [hy0 i hiL, Rat.mul_zero]
    · have : ent (rowAt t.rows i) 0 = 0 := Classical.byContradiction fun z => hno ⟨i, hi, hiL, z⟩
      rw [this, Rat.zero_mul]
  · rintro ⟨i, hi, hiL, hx⟩
    have en : ∀ k, k < t.rows.length → ent ((List.range t.rows.length).map fun k => if k = i then ent q 0 / ent (rowAt t.rows i) 0 else 0) k = if k = i then ent q 0 / ent (rowAt t.rows i) 0 else 0 := fun k hk1 => by
      refine ent_get ?_
      rw [List.getElem?_map, List.getElem?_range hk1]
      rfl
    refine ⟨ent ((List.range t.rows.length).map fun k => if k = i then ent q 0 / ent (rowAt t.rows i) 0 else 0), fun k hkL => ?_, fair_mk hk hq (fun j hj => ?_) fun j hj => ?_⟩
    · rcases Nat.lt_or_ge k t.rows.length with h | h
      · rw [en k h, if_neg fun z => hiL (by rw [← z]; exact hkL)]
      · exact ent_out (by rw [List.length_map, List.length_range]; exact h)
    · have ej : j = 0 := by omega
      subst ej
      rw [Sm_one hi fun k hk1 hne => by rw [en k hk1, if_neg hne, Rat.mul_zero], en i hi, if_pos rfl, Rat.div_def]
      have := Rat.mul_inv_cancel _ hx
      grind
    · rw [hb] at hj
      exact absurd hj (Nat.not_lt_zero j)
theorem great_k (hk : t.Ok s 1) (hq : q.length = 1) (hb : t.blk = []) (h0 : ∃ x ∈ q, x ≠ 0) (hno : Non t q []) {k : Nat} (h1 : ∀ m, 1 ≤ m → m ≤ k → ¬ SpoilM t q m) (h2 : k < t.rows.length → SpoilM t q (k + 1)) : liveN t.rows = k + 1 := by
  have hl := live_len t
  have hln := (live_lot t).len
  have hpos : 1 ≤ (liveL t).length := by
    obtain ⟨i, hi, _, hx⟩ := (great_non hk hq hb h0).mp hno
    exact List.length_pos_of_mem (live_mem.mpr ⟨hi, hx⟩)
  have hlt : ¬ (liveL t).length ≤ k := fun hle => by
    refine h1 _ hpos hle ⟨liveL t, lotsOf_mem.mpr ⟨live_lot t, rfl⟩, fun hn => ?_⟩
    obtain ⟨i, hi, hiL, hx⟩ := (great_non hk hq hb h0).mp hn
    exact hiL (live_mem.mpr ⟨hi, hx⟩)
  obtain ⟨L, hL, hs⟩ := h2 (by omega)
  obtain ⟨a1, a2⟩ := lotsOf_mem.mp hL
  have hsub : ∀ i ∈ liveL t, i ∈ L := fun i hi => Classical.byContradiction fun hiL => hs ((great_non hk hq hb h0).mpr ⟨i, (live_mem.mp hi).1, hiL, (live_mem.mp hi).2⟩)
  have := lot_sub (live_lot t) a1 hsub
  omega
end
end Pd
namespace Pd
open PySem PySem.Spec PyProof.Rows L2 C8
theorem log_small {k : Nat} (h : k ≤ 10) : ((k : Nat) : Int).natAbs.log2 < 1920 := by
  have hm : ∀ k, k ≤ 10 → ((k : Nat) : Int).natAbs.log2 < 1920 := by decide
  exact hm k h
theorem last_max (k : Nat) : ((List.range k).map fun i : Nat => ((i + 1 : Nat) : Int)).foldl max 0 = ((k : Nat) : Int) := by
  induction k with
  | zero => rfl
  | succ k ih =>
    rw [List.range_succ, List.map_append, List.foldl_append, ih]
    show max ((k : Nat) : Int) ((k + 1 : Nat) : Int) = _
    omega
theorem last_list {t : Tr} {q : List Rat} (h0 : Non t q []) {k : Nat} (hk : k ≤ t.rows.length) (h1 : ∀ m, 1 ≤ m → m ≤ k → ¬ SpoilM t q m) (h2 : k < t.rows.length → SpoilM t q (k + 1)) : PyData.list (((List.range (t.rows.length + 1)).filter (lastB t q)).map natI) = .list (((0 : Int) :: (List.range k).map fun i : Nat => ((i + 1 : Nat) : Int)).map .int) := by
  have e : (List.range (t.rows.length + 1)).filter (lastB t q) = List.range (k + 1) := by
    rw [← filter_le hk]
    refine List.filter_congr fun m hm => ?_
    exact last_iff h0 h1 h2 (by have := List.mem_range.mp hm; omega)
  rw [e, List.range_succ_eq_map, List.map_cons, List.map_map, List.map_cons, List.map_map]
  rfl
theorem rgD_nat (n : Nat) : rgD n = (List.range n).map natI := rfl
end Pd
namespace Pd
open PySem PySem.Spec PyProof.Rows L2 C8
theorem str_shaped {k : Nat} (h : k ≤ 10) : SeqAt.shaped (.str (toString ((k : Nat) : Int))) = true := by
  have hm : ∀ k, k ≤ 10 → SeqAt.shaped (.str (toString ((k : Nat) : Int))) = true := by decide +kernel
  exact hm k h
theorem eqv_strs (x : Str) : PyData.eqv (.str x) (.str x) = true := by
  show (x == x) = true
  simp
end Pd

/-! text Qg -/
set_option Elab.async false
set_option linter.all false
set_option maxRecDepth 100000
set_option maxHeartbeats 4000000
namespace Pd
open PySem PySem.Spec PyProof.Rows L2 C8
variable {T : Th}
/-! ### the law's first helpers -/
theorem cutD_mem {ds : List PyData} {lo hi : Option Int} {d : PyData} (h : d ∈ cutD ds lo hi) : d ∈ ds := List.mem_of_mem_drop (List.mem_of_mem_take h)
def F_law_well (ds : List PyData) (Pp : List PyData → Prop) : Prop := ∃ (ns : List Int) (lap : Nat), ds = [NL ns, natI lap] ∧ ∀ i j k : Int, Pp [.int i, .int j, .int k]
theorem d_law_well (M : Md T) : Ok T "_law_well" ["_law_script", "_law_lap"] 41 (FreshSp T.K F_law_well) := by
  refine okF M (k := 40) (i := 50) (s := _root_.Hd.s_law_well) (N := ["_law_script", "_law_lap", "_law_mixed_here", "_law_cell", "_law_own"]) rfl rfl (by decide +kernel) (fun _ _ _ _ _ _ us hl => match us, hl with | [_, _], _ => rfl) (fun ds Pp h => by obtain ⟨_, _, rfl, _⟩ := h; rfl) ?_
  rintro ds Pp ⟨ns, lap, rfl, q⟩
  refine ssf_cons (s_set (i := 2) (E.ev ?_))
  refine e_add ?_
  refine e_int ?_
  refine e_mul ?_
  refine e_int ?_
  refine e_name (i := 1) rfl ?_
  refine ⟨_, _, rfl, rfl, ?_, ?_⟩
  · exact Or.inl ⟨by decide, by decide⟩
  refine ⟨_, _, rfl, rfl, ?_⟩
  refine ssf_cons (s_for [3] ?_ tg_name)
  refine it_seq ?_
  refine EF.toE ?_
  refine ef_slice ?_
  refine e_name (i := 0) rfl ?_
  refine eo_none ?_
  refine eo_some ?_
  refine e_int ?_
  refine ⟨_, rfl, ?_⟩
  refine ⟨_, rfl, ?_⟩
  refine ⟨_, (by first | exact Or.inl rfl | exact Or.inr rfl), ?_⟩
  refine ⟨fun i δ' => ∃ m : Int, δ' = [.sh (NL ns), .sh (natI lap), .sh (.int m), .any, .any], ⟨_, rfl⟩, fun i d δ' hd hI => ?_, fun δ' hI => ?_⟩
  · obtain ⟨m, rfl⟩ := hI
    obtain ⟨v, _, rfl⟩ := List.mem_map.mp (cutD_mem (List.mem_of_getElem? hd))
    refine ⟨_, rfl, rfl, ?_⟩
    refine ss_cons (s_set (i := 2) (E.ev ?_))
    refine e_mod ?_
    refine e_intc M.b_int ?_
    refine e_add ?_
    refine e_add ?_
    refine e_mul ?_
    refine e_name (i := 2) rfl ?_
    refine e_int ?_
    refine ⟨_, _, rfl, rfl, ?_, ?_⟩
    · exact Or.inr ⟨by decide, by decide⟩
    refine e_mul ?_
    refine e_mod ?_
    refine e_intc M.b_int ?_
    refine e_name (i := 3) rfl ?_
    refine ⟨_, rfl, ?_⟩
    refine e_int ?_
    refine ⟨_, _, rfl, rfl, ?_, ?_⟩
    · decide
    refine e_int ?_
    refine ⟨_, _, rfl, rfl, ?_, ?_⟩
    · exact Or.inr ⟨by decide, by decide⟩
    refine ⟨_, _, rfl, rfl, ?_⟩
    refine e_int ?_
    refine ⟨_, _, rfl, rfl, ?_⟩
    refine ⟨_, rfl, ?_⟩
    refine e_int ?_
    refine ⟨_, _, rfl, rfl, ?_, ?_⟩
    · decide
    refine ss_drop (i := 3) rfl ?_
    refine ss_nil ?_
    exact ⟨_, rfl⟩
  · obtain ⟨m, rfl⟩ := hI
    refine ssf_cons (s_set (i := 4) (E.ev ?_))
    refine e_ifexp ?_
    refine b_cmp c_lt ?_ rfl
    refine e_name (i := 1) rfl ?_
    refine e_len M.b_len ?_
    refine e_name (i := 0) rfl ?_
    refine ⟨_, (by first | exact Or.inl rfl | exact Or.inr rfl), ?_⟩
    refine ⟨⟨⟨_, rfl⟩, _, rfl⟩, ?_⟩
    refine ⟨fun e0 => ?_, fun e0 => ?_⟩
    · refine e_intc M.b_int ?_
      refine e_ix ?_
      refine e_name (i := 0) rfl ?_
      refine e_name (i := 1) rfl ?_
      have hl : ((lap : Nat) : Int) < ((ns.map PyData.int).length : Int) := of_decide_eq_true e0
      rw [List.length_map] at hl
      obtain ⟨v, ev⟩ : ∃ v, ns[lap]? = some v := ⟨_, List.getElem?_eq_getElem (by omega)⟩
      refine ⟨_, _, _, .inr rfl, rfl, at_map ev, ?_⟩
      refine ⟨_, rfl, ?_⟩
      refine ssf_cons (s_set (i := 2) (E.ev ?_))
      refine e_mod ?_
      refine e_intc M.b_int ?_
      refine e_add ?_
      refine e_add ?_
      refine e_mul ?_
      refine e_name (i := 2) rfl ?_
      refine e_int ?_
      refine ⟨_, _, rfl, rfl, ?_, ?_⟩
      · exact Or.inr ⟨by decide, by decide⟩
      refine e_mul ?_
      refine e_mod ?_
      refine e_intc M.b_int ?_
      refine e_name (i := 4) rfl ?_
      refine ⟨_, rfl, ?_⟩
      refine e_int ?_
      refine ⟨_, _, rfl, rfl, ?_, ?_⟩
      · decide
      refine e_int ?_
      refine ⟨_, _, rfl, rfl, ?_, ?_⟩
      · exact Or.inr ⟨by decide, by decide⟩
      refine ⟨_, _, rfl, rfl, ?_⟩
      refine e_int ?_
      refine ⟨_, _, rfl, rfl, ?_⟩
      refine ⟨_, rfl, ?_⟩
      refine e_int ?_
      refine ⟨_, _, rfl, rfl, ?_, ?_⟩
      · decide
      refine ssf_ret ?_
      refine ef_lst ?_
      refine ea_cons ?_
      refine e_ifexp ?_
      refine b_or ?_
      refine b_cmp c_lt ?_ rfl
      refine e_name (i := 4) rfl ?_
      refine e_int ?_
      refine ⟨⟨⟨_, rfl⟩, _, rfl⟩, ?_⟩
      refine ⟨fun e1 => ?_, fun e1 => ?_⟩
      · refine b_cmp c_ge ?_ rfl
        refine e_name (i := 4) rfl ?_
        refine e_pow ?_
        refine e_int ?_
        refine e_int ?_
        refine ⟨_, _, rfl, rfl, ?_, ?_⟩
        · exact ⟨by decide, by decide, by decide⟩
        refine ⟨⟨⟨_, rfl⟩, _, rfl⟩, ?_⟩
        refine ⟨fun e2 => ?_, fun e2 => ?_⟩
        · refine e_abs M.b_abs ?_
          refine e_name (i := 4) rfl ?_
          refine ⟨_, rfl, ?_⟩
          refine ea_cons ?_
          refine e_name (i := 2) rfl ?_
          refine ea_cons ?_
          refine e_int ?_
          refine ea_nil ?_
          refine ⟨lk, ?_⟩
          exact q _ _ _
        · refine e_int ?_
          refine ea_cons ?_
          refine e_name (i := 2) rfl ?_
          refine ea_cons ?_
          refine e_int ?_
          refine ea_nil ?_
          refine ⟨lk, ?_⟩
          exact q _ _ _
      · refine ⟨fun _ => ?_, fun h => absurd h (by decide)⟩
        refine e_abs M.b_abs ?_
        refine e_name (i := 4) rfl ?_
        refine ⟨_, rfl, ?_⟩
        refine ea_cons ?_
        refine e_name (i := 2) rfl ?_
        refine ea_cons ?_
        refine e_int ?_
        refine ea_nil ?_
        refine ⟨lk, ?_⟩
        exact q _ _ _
    · refine e_int ?_
      refine ssf_cons (s_set (i := 2) (E.ev ?_))
      refine e_mod ?_
      refine e_intc M.b_int ?_
      refine e_add ?_
      refine e_add ?_
      refine e_mul ?_
      refine e_name (i := 2) rfl ?_
      refine e_int ?_
      refine ⟨_, _, rfl, rfl, ?_, ?_⟩
      · exact Or.inr ⟨by decide, by decide⟩
      refine e_mul ?_
      refine e_mod ?_
      refine e_intc M.b_int ?_
      refine e_name (i := 4) rfl ?_
      refine ⟨_, rfl, ?_⟩
      refine e_int ?_
      refine ⟨_, _, rfl, rfl, ?_, ?_⟩
      · decide
      refine e_int ?_
      refine ⟨_, _, rfl, rfl, ?_, ?_⟩
      · exact Or.inr ⟨by decide, by decide⟩
      refine ⟨_, _, rfl, rfl, ?_⟩
      refine e_int ?_
      refine ⟨_, _, rfl, rfl, ?_⟩
      refine ⟨_, rfl, ?_⟩
      refine e_int ?_
      refine ⟨_, _, rfl, rfl, ?_, ?_⟩
      · decide
      refine ssf_ret ?_
      refine ef_lst ?_
      refine ea_cons ?_
      refine e_ifexp ?_
      refine b_or ?_
      refine b_cmp c_lt ?_ rfl
      refine e_name (i := 4) rfl ?_
      refine e_int ?_
      refine ⟨⟨⟨_, rfl⟩, _, rfl⟩, ?_⟩
      refine ⟨fun e1 => ?_, fun e1 => ?_⟩
      · refine b_cmp c_ge ?_ rfl
        refine e_name (i := 4) rfl ?_
        refine e_pow ?_
        refine e_int ?_
        refine e_int ?_
        refine ⟨_, _, rfl, rfl, ?_, ?_⟩
        · exact ⟨by decide, by decide, by decide⟩
        refine ⟨⟨⟨_, rfl⟩, _, rfl⟩, ?_⟩
        refine ⟨fun e2 => ?_, fun e2 => ?_⟩
        · refine e_abs M.b_abs ?_
          refine e_name (i := 4) rfl ?_
          refine ⟨_, rfl, ?_⟩
          refine ea_cons ?_
          refine e_name (i := 2) rfl ?_
          refine ea_cons ?_
          refine e_int ?_
          refine ea_nil ?_
          refine ⟨lk, ?_⟩
          exact q _ _ _
        · refine e_int ?_
          refine ea_cons ?_
          refine e_name (i := 2) rfl ?_
          refine ea_cons ?_
          refine e_int ?_
          refine ea_nil ?_
          refine ⟨lk, ?_⟩
          exact q _ _ _
      · refine ⟨fun _ => ?_, fun h => absurd h (by decide)⟩
        refine e_abs M.b_abs ?_
        refine e_name (i := 4) rfl ?_
        refine ⟨_, rfl, ?_⟩
        refine ea_cons ?_
        refine e_name (i := 2) rfl ?_
        refine ea_cons ?_
        refine e_int ?_
        refine ea_nil ?_
        refine ⟨lk, ?_⟩
        exact q _ _ _
def F_law_draw (ds : List PyData) (Pp : PyData → Prop) : Prop := ∃ few : Int, ds = [.int few] ∧ 0 < few ∧ few < 1073741824 ∧ ∀ v : Int, 0 ≤ v → v < few → Pp (.int v)
theorem d_law_draw (M : Md T) : Ok T "_law_draw" ["_law_well_here", "_law_few"] 41 (WellSp T.K F_law_draw) := by
  refine okW M (k := 40) (i := 51) (s := _root_.Hd.s_law_draw) (N := ["_law_well_here", "_law_few", "_law_figure", "_law_mixed_here"]) rfl rfl (by decide +kernel) (fun _ _ _ _ _ _ us hl => match us, hl with | [_, _], _ => rfl) (fun ds Pp h => by obtain ⟨_, rfl, _⟩ := h; rfl) ?_
  rintro ds Pp ⟨few, rfl, h1, h2, q⟩
  refine ss_open (n := 0) rfl fun i j k => ?_
  refine ss_cons (s_if ?_)
  refine b_cmp c_gt ?_ rfl
  refine e_pw (n := 0) rfl ?_
  refine e_int ?_
  refine ⟨_, _, rfl, rfl, ?_⟩
  refine e_int ?_
  refine ⟨⟨⟨_, rfl⟩, _, rfl⟩, ?_⟩
  refine ⟨fun e0 => ?_, fun e0 => ?_⟩
  · refine ss_cons (s_pw2 (n := 0) (l := 2) rfl ?_)
    refine e_divmod M.b_divmod ?_
    refine e_pw (n := 0) rfl ?_
    refine e_int ?_
    refine ⟨_, _, rfl, rfl, ?_⟩
    refine e_name (i := 1) rfl ?_
    refine ⟨_, _, rfl, rfl, ?_, ?_⟩
    · exact ⟨h1, h2⟩
    refine ⟨_, _, _, rfl, rfl, ?_⟩
    refine ss_cons (s_ret ?_)
    refine e_name (i := 2) rfl ?_
    exact q _ (Int.emod_nonneg _ (by omega)) (Int.emod_lt_of_pos _ h1)
  · refine ss_nil ?_
    refine ss_cons (s_pw (n := 0) rfl ?_)
    refine e_add ?_
    refine e_pw (n := 0) rfl ?_
    refine e_int ?_
    refine ⟨_, _, rfl, rfl, ?_⟩
    refine e_int ?_
    refine ⟨_, _, rfl, rfl, ?_⟩
    refine ⟨_, _, rfl, rfl, ?_⟩
    refine ss_cons (s_set (i := 3) (E.ev ?_))
    refine e_mod ?_
    refine e_intc M.b_int ?_
    refine e_add ?_
    refine e_mul ?_
    refine e_pw (n := 0) rfl ?_
    refine e_int ?_
    refine ⟨_, _, rfl, rfl, ?_⟩
    refine e_int ?_
    refine ⟨_, _, rfl, rfl, ?_, ?_⟩
    · exact Or.inr ⟨by decide, by decide⟩
    refine e_mul ?_
    refine e_int ?_
    refine e_pw (n := 0) rfl ?_
    refine e_int ?_
    refine ⟨_, _, rfl, rfl, ?_⟩
    refine ⟨_, _, rfl, rfl, ?_, ?_⟩
    · exact Or.inl ⟨by decide, by decide⟩
    refine ⟨_, _, rfl, rfl, ?_⟩
    refine ⟨_, rfl, ?_⟩
    refine e_int ?_
    refine ⟨_, _, rfl, rfl, ?_, ?_⟩
    · decide
    refine ss_cons (s_pw (n := 0) rfl ?_)
    refine e_mod ?_
    refine e_intc M.b_int ?_
    refine e_add ?_
    refine e_mul ?_
    refine e_name (i := 3) rfl ?_
    refine e_add ?_
    refine e_mod ?_
    refine e_intc M.b_int ?_
    refine e_name (i := 3) rfl ?_
    refine ⟨_, rfl, ?_⟩
    refine e_int ?_
    refine ⟨_, _, rfl, rfl, ?_, ?_⟩
    · decide
    refine e_int ?_
    refine ⟨_, _, rfl, rfl, ?_⟩
    refine ⟨_, _, rfl, rfl, ?_, ?_⟩
    · refine Or.inl ⟨?_, ?_⟩
      · have := Int.emod_nonneg (j * 48271 + 15017 * (k + 1)) (b := 2147483489) (by decide)
        show _ < (j * 48271 + 15017 * (k + 1)) % 2147483489
        omega
      · have := Int.emod_lt_of_pos (j * 48271 + 15017 * (k + 1)) (b := 2147483489) (by decide)
        show (j * 48271 + 15017 * (k + 1)) % 2147483489 < _
        omega
    refine e_pw (n := 0) rfl ?_
    refine e_int ?_
    refine ⟨_, _, rfl, rfl, ?_⟩
    refine ⟨_, _, rfl, rfl, ?_⟩
    refine ⟨_, rfl, ?_⟩
    refine e_int ?_
    refine ⟨_, _, rfl, rfl, ?_, ?_⟩
    · decide
    refine ⟨_, _, rfl, rfl, ?_⟩
    refine ss_cons (s_ret ?_)
    refine e_mod ?_
    refine e_intc M.b_int ?_
    refine e_fdiv ?_
    refine e_pw (n := 0) rfl ?_
    refine e_int ?_
    refine ⟨_, _, rfl, rfl, ?_⟩
    refine e_int ?_
    refine ⟨_, _, rfl, rfl, ?_, ?_⟩
    · exact ⟨by decide, by decide⟩
    refine ⟨_, rfl, ?_⟩
    refine e_name (i := 1) rfl ?_
    refine ⟨_, _, rfl, rfl, ?_, ?_⟩
    · exact h1
    exact q _ (Int.emod_nonneg _ (by omega)) (Int.emod_lt_of_pos _ h1)
def F_law_one (ds : List PyData) (Pp : PyData → Prop) : Prop := ∃ (es : List PyData) (d : PyData), ds = [d] ∧ (d = .tuple es ∨ d = .list es) ∧ es ≠ [] ∧ es.length ≤ 100000 ∧ ∀ x ∈ es, Pp x
theorem d_law_one (M : Md T) : Ok T "_law_one" ["_law_well_here", "_law_some"] 42 (WellSp T.K F_law_one) := by
  refine okW M (k := 41) (i := 52) (s := _root_.Hd.s_law_one) (N := ["_law_well_here", "_law_some"]) rfl rfl (by decide +kernel) (fun _ _ _ _ _ _ us hl => match us, hl with | [_, _], _ => rfl) (fun ds Pp h => by obtain ⟨_, _, rfl, _⟩ := h; rfl) ?_
  rintro ds Pp ⟨es, d, rfl, hd, h0, hl, q⟩
  refine ss_cons (s_ret ?_)
  refine e_ix ?_
  refine e_name (i := 1) rfl ?_
  refine e_callW (i := 0) (d_law_draw M) lk rfl ?_
  refine ea_cons ?_
  refine e_len M.b_len ?_
  refine e_name (i := 1) rfl ?_
  refine ⟨_, hd, ?_⟩
  refine ea_nil ?_
  have hp : 0 < es.length := List.length_pos_iff.mpr h0
  refine ⟨_, rfl, by omega, by omega, fun v v1 v2 => ?_⟩
  obtain ⟨x, ex⟩ : ∃ x, es[v.toNat]? = some x := ⟨_, List.getElem?_eq_getElem (by omega)⟩
  refine ⟨_, _, _, hd, rfl, at_int v1 ex, ?_⟩
  exact q x (List.mem_of_getElem? ex)
def F_law_lean (ds : List PyData) (Pp : PyData → Prop) : Prop := ∃ t l : Int, ds = [.int t, .int l] ∧ l ≠ 0 ∧ Pp (frac (Rat.divInt t l))
theorem abs_nat (i : Int) : (if i < 0 then -i else i) = ((i.natAbs : Nat) : Int) := by
  split <;> omega
theorem d_law_lean (M : Md T) : Ok T "_law_lean" ["_law_top", "_law_base"] 41 (PureSp T.K F_law_lean) := by
  refine okP M (k := 40) (i := 53) (s := _root_.Hd.s_law_lean) (N := ["_law_top", "_law_base", "_law_far", "_law_rest"]) rfl rfl (by decide +kernel) (fun _ _ _ _ _ _ us hl => match us, hl with | [_, _], _ => rfl) (fun ds Pp h => by obtain ⟨_, _, rfl, _⟩ := h; rfl) ?_
  rintro ds Pp ⟨t, l, rfl, hl, q⟩
  refine ss_cons (s_par (i := 2) (j := 3) (E.ev ?_))
  refine e_abs M.b_abs ?_
  refine e_name (i := 0) rfl ?_
  refine ⟨_, rfl, ?_⟩
  refine E.ev ?_
  refine e_abs M.b_abs ?_
  refine e_name (i := 1) rfl ?_
  refine ⟨_, rfl, ?_⟩
  rw [abs_nat, abs_nat]
  refine ss_cons (s_while (fun m δ' => ∃ a b : Nat, m = b ∧ Nat.gcd a b = Nat.gcd t.natAbs l.natAbs ∧ δ' = [.sh (.int t), .sh (.int l), .sh (natI a), .sh (natI b)]) l.natAbs ⟨t.natAbs, l.natAbs, rfl, rfl, rfl⟩ fun m δ' hI => ?_)
  obtain ⟨a, b, rfl, hg, rfl⟩ := hI
  refine b_cmp c_gt ?_ rfl
  refine e_name (i := 3) rfl ?_
  refine e_int ?_
  refine ⟨⟨⟨_, rfl⟩, _, rfl⟩, ?_⟩
  refine ⟨fun h => ?_, fun h => ?_⟩
  · refine ss_cons (s_par (i := 2) (j := 3) (E.ev ?_))
    refine e_name (i := 3) rfl ?_
    refine E.ev ?_
    refine e_mod ?_
    refine e_intc M.b_int ?_
    refine e_name (i := 2) rfl ?_
    refine ⟨_, rfl, ?_⟩
    refine e_name (i := 3) rfl ?_
    refine ⟨_, _, rfl, rfl, ?_, ?_⟩
    · have hb : (0 : Int) < ((m : Nat) : Int) := of_decide_eq_true h
      exact hb
    refine ss_nil ?_
    have hb : (0 : Int) < ((m : Nat) : Int) := of_decide_eq_true h
    refine ⟨a % m, Nat.mod_lt _ (by omega), m, a % m, rfl, (gcd_step a m).trans hg, ?_⟩
    rw [← Int.natCast_emod]
    rfl
  · have hb : ¬ (0 : Int) < ((m : Nat) : Int) := of_decide_eq_false h
    have hb0 : m = 0 := by omega
    subst hb0
    rw [Nat.gcd_zero_right] at hg
    subst hg
    refine ss_cons (s_set (i := 2) (E.ev ?_))
    refine e_ifexp ?_
    refine b_cmp c_gt ?_ rfl
    refine e_name (i := 1) rfl ?_
    refine e_int ?_
    refine ⟨⟨⟨_, rfl⟩, _, rfl⟩, ?_⟩
    refine ⟨fun e0 => ?_, fun e0 => ?_⟩
    · refine e_name (i := 2) rfl ?_
      refine ss_cons (s_ret ?_)
      refine e_tup ?_
      refine ea_cons ?_
      refine e_fdivA M.seer lk ?_
      refine e_name (i := 0) rfl ?_
      refine e_name (i := 2) rfl ?_
      refine ⟨_, _, rfl, rfl, ?_, ?_⟩
      · exact Int.natCast_ne_zero.mpr (Nat.ne_of_gt (gcdP hl))
      refine ea_cons ?_
      refine e_fdivA M.seer lk ?_
      refine e_name (i := 1) rfl ?_
      refine e_name (i := 2) rfl ?_
      refine ⟨_, _, rfl, rfl, ?_, ?_⟩
      · exact Int.natCast_ne_zero.mpr (Nat.ne_of_gt (gcdP hl))
      refine ea_nil ?_
      refine ⟨lk, ?_⟩
      rw [← ratio_pos t l (of_decide_eq_true e0)]
      exact q
    · refine e_sub ?_
      refine e_int ?_
      refine e_name (i := 2) rfl ?_
      refine ⟨_, _, rfl, rfl, ?_⟩
      refine ss_cons (s_ret ?_)
      refine e_tup ?_
      refine ea_cons ?_
      refine e_fdivA M.seer lk ?_
      refine e_name (i := 0) rfl ?_
      refine e_name (i := 2) rfl ?_
      refine ⟨_, _, rfl, rfl, ?_, ?_⟩
      · exact fun z => Nat.ne_of_gt (gcdP (t := t) hl) (by omega)
      refine ea_cons ?_
      refine e_fdivA M.seer lk ?_
      refine e_name (i := 1) rfl ?_
      refine e_name (i := 2) rfl ?_
      refine ⟨_, _, rfl, rfl, ?_, ?_⟩
      · exact fun z => Nat.ne_of_gt (gcdP (t := t) hl) (by omega)
      refine ea_nil ?_
      refine ⟨lk, ?_⟩
      have h' : ¬ 0 < l := of_decide_eq_false e0
      rw [Int.zero_sub, ← ratio_neg t l (by omega)]
      exact q
def F_law_plus (ds : List PyData) (Pp : PyData → Prop) : Prop := ∃ (p q : Rat) (a b : Nat), ds = [frac p, frac q] ∧ Sz a p ∧ Sz b q ∧ a + b ≤ 134217728 ∧ Pp (frac (p + q))
theorem d_law_plus (M : Md T) : Ok T "_law_plus" ["_law_x", "_law_y"] 42 (PureSp T.K F_law_plus) := by
  refine okP M (k := 41) (i := 54) (s := _root_.Hd.s_law_plus) (N := ["_law_x", "_law_y"]) rfl rfl (by decide +kernel) (fun _ _ _ _ _ _ us hl => match us, hl with | [_, _], _ => rfl) (fun ds Pp h => by obtain ⟨_, _, _, _, rfl, _⟩ := h; rfl) ?_
  rintro ds Pp ⟨p, q, a, b, rfl, s1, s2, hs, qq⟩
  refine ss_cons (s_ret ?_)
  refine e_call (d_law_lean M) lk ?_
  refine ea_cons ?_
  refine e_add ?_
  refine e_mulX ?_
  refine e_ix ?_
  refine e_name (i := 0) rfl ?_
  refine e_int ?_
  refine ⟨_, _, _, (by first | exact Or.inl rfl | exact Or.inr rfl), rfl, rfl, ?_⟩
  refine e_ix ?_
  refine e_name (i := 1) rfl ?_
  refine e_int ?_
  refine ⟨_, _, _, (by first | exact Or.inl rfl | exact Or.inr rfl), rfl, rfl, ?_⟩
  refine ⟨_, _, rfl, rfl, ?_, ?_⟩
  · exact s1.nd s2 hs
  refine e_mulX ?_
  refine e_ix ?_
  refine e_name (i := 1) rfl ?_
  refine e_int ?_
  refine ⟨_, _, _, (by first | exact Or.inl rfl | exact Or.inr rfl), rfl, rfl, ?_⟩
  refine e_ix ?_
  refine e_name (i := 0) rfl ?_
  refine e_int ?_
  refine ⟨_, _, _, (by first | exact Or.inl rfl | exact Or.inr rfl), rfl, rfl, ?_⟩
  refine ⟨_, _, rfl, rfl, ?_, ?_⟩
  · exact s2.nd s1 (by omega)
  refine ⟨_, _, rfl, rfl, ?_⟩
  refine ea_cons ?_
  refine e_mulX ?_
  refine e_ix ?_
  refine e_name (i := 0) rfl ?_
  refine e_int ?_
  refine ⟨_, _, _, (by first | exact Or.inl rfl | exact Or.inr rfl), rfl, rfl, ?_⟩
  refine e_ix ?_
  refine e_name (i := 1) rfl ?_
  refine e_int ?_
  refine ⟨_, _, _, (by first | exact Or.inl rfl | exact Or.inr rfl), rfl, rfl, ?_⟩
  refine ⟨_, _, rfl, rfl, ?_, ?_⟩
  · exact s1.dd s2 hs
  refine ea_nil ?_
  refine ⟨_, _, rfl, den_mul0 p q, ?_⟩
  rw [plus_eq]
  exact qq
def F_law_minus (ds : List PyData) (Pp : PyData → Prop) : Prop := ∃ (p q : Rat) (a b : Nat), ds = [frac p, frac q] ∧ Sz a p ∧ Sz b q ∧ a + b ≤ 134217728 ∧ Pp (frac (p - q))
theorem d_law_minus (M : Md T) : Ok T "_law_minus" ["_law_x", "_law_y"] 42 (PureSp T.K F_law_minus) := by
  refine okP M (k := 41) (i := 55) (s := _root_.Hd.s_law_minus) (N := ["_law_x", "_law_y"]) rfl rfl (by decide +kernel) (fun _ _ _ _ _ _ us hl => match us, hl with | [_, _], _ => rfl) (fun ds Pp h => by obtain ⟨_, _, _, _, rfl, _⟩ := h; rfl) ?_
  rintro ds Pp ⟨p, q, a, b, rfl, s1, s2, hs, qq⟩
  refine ss_cons (s_ret ?_)
  refine e_call (d_law_lean M) lk ?_
  refine ea_cons ?_
  refine e_sub ?_
  refine e_mulX ?_
  refine e_ix ?_
  refine e_name (i := 0) rfl ?_
  refine e_int ?_
  refine ⟨_, _, _, (by first | exact Or.inl rfl | exact Or.inr rfl), rfl, rfl, ?_⟩
  refine e_ix ?_
  refine e_name (i := 1) rfl ?_
  refine e_int ?_
  refine ⟨_, _, _, (by first | exact Or.inl rfl | exact Or.inr rfl), rfl, rfl, ?_⟩
  refine ⟨_, _, rfl, rfl, ?_, ?_⟩
  · exact s1.nd s2 hs
  refine e_mulX ?_
  refine e_ix ?_
  refine e_name (i := 1) rfl ?_
  refine e_int ?_
  refine ⟨_, _, _, (by first | exact Or.inl rfl | exact Or.inr rfl), rfl, rfl, ?_⟩
  refine e_ix ?_
  refine e_name (i := 0) rfl ?_
  refine e_int ?_
  refine ⟨_, _, _, (by first | exact Or.inl rfl | exact Or.inr rfl), rfl, rfl, ?_⟩
  refine ⟨_, _, rfl, rfl, ?_, ?_⟩
  · exact s2.nd s1 (by omega)
  refine ⟨_, _, rfl, rfl, ?_⟩
  refine ea_cons ?_
  refine e_mulX ?_
  refine e_ix ?_
  refine e_name (i := 0) rfl ?_
  refine e_int ?_
  refine ⟨_, _, _, (by first | exact Or.inl rfl | exact Or.inr rfl), rfl, rfl, ?_⟩
  refine e_ix ?_
  refine e_name (i := 1) rfl ?_
  refine e_int ?_
  refine ⟨_, _, _, (by first | exact Or.inl rfl | exact Or.inr rfl), rfl, rfl, ?_⟩
  refine ⟨_, _, rfl, rfl, ?_, ?_⟩
  · exact s1.dd s2 hs
  refine ea_nil ?_
  refine ⟨_, _, rfl, den_mul0 p q, ?_⟩
  rw [minus_eq]
  exact qq
def F_law_times (ds : List PyData) (Pp : PyData → Prop) : Prop := ∃ (p q : Rat) (a b : Nat), ds = [frac p, frac q] ∧ Sz a p ∧ Sz b q ∧ a + b ≤ 134217728 ∧ Pp (frac (p * q))
theorem d_law_times (M : Md T) : Ok T "_law_times" ["_law_x", "_law_y"] 42 (PureSp T.K F_law_times) := by
  refine okP M (k := 41) (i := 56) (s := _root_.Hd.s_law_times) (N := ["_law_x", "_law_y"]) rfl rfl (by decide +kernel) (fun _ _ _ _ _ _ us hl => match us, hl with | [_, _], _ => rfl) (fun ds Pp h => by obtain ⟨_, _, _, _, rfl, _⟩ := h; rfl) ?_
  rintro ds Pp ⟨p, q, a, b, rfl, s1, s2, hs, qq⟩
  refine ss_cons (s_ret ?_)
  refine e_call (d_law_lean M) lk ?_
  refine ea_cons ?_
  refine e_mulX ?_
  refine e_ix ?_
  refine e_name (i := 0) rfl ?_
  refine e_int ?_
  refine ⟨_, _, _, (by first | exact Or.inl rfl | exact Or.inr rfl), rfl, rfl, ?_⟩
  refine e_ix ?_
  refine e_name (i := 1) rfl ?_
  refine e_int ?_
  refine ⟨_, _, _, (by first | exact Or.inl rfl | exact Or.inr rfl), rfl, rfl, ?_⟩
  refine ⟨_, _, rfl, rfl, ?_, ?_⟩
  · exact s1.nn s2 hs
  refine ea_cons ?_
  refine e_mulX ?_
  refine e_ix ?_
  refine e_name (i := 0) rfl ?_
  refine e_int ?_
  refine ⟨_, _, _, (by first | exact Or.inl rfl | exact Or.inr rfl), rfl, rfl, ?_⟩
  refine e_ix ?_
  refine e_name (i := 1) rfl ?_
  refine e_int ?_
  refine ⟨_, _, _, (by first | exact Or.inl rfl | exact Or.inr rfl), rfl, rfl, ?_⟩
  refine ⟨_, _, rfl, rfl, ?_, ?_⟩
  · exact s1.dd s2 hs
  refine ea_nil ?_
  refine ⟨_, _, rfl, den_mul0 p q, ?_⟩
  rw [times_eq]
  exact qq
def F_law_over (ds : List PyData) (Pp : PyData → Prop) : Prop := ∃ (p q : Rat) (a b : Nat), ds = [frac p, frac q] ∧ Sz a p ∧ Sz b q ∧ a + b ≤ 134217728 ∧ q ≠ 0 ∧ Pp (frac (p / q))
theorem d_law_over (M : Md T) : Ok T "_law_over" ["_law_x", "_law_y"] 42 (PureSp T.K F_law_over) := by
  refine okP M (k := 41) (i := 57) (s := _root_.Hd.s_law_over) (N := ["_law_x", "_law_y"]) rfl rfl (by decide +kernel) (fun _ _ _ _ _ _ us hl => match us, hl with | [_, _], _ => rfl) (fun ds Pp h => by obtain ⟨_, _, _, _, rfl, _⟩ := h; rfl) ?_
  rintro ds Pp ⟨p, q, a, b, rfl, s1, s2, hs, h0, qq⟩
  refine ss_cons (s_ret ?_)
  refine e_call (d_law_lean M) lk ?_
  refine ea_cons ?_
  refine e_mulX ?_
  refine e_ix ?_
  refine e_name (i := 0) rfl ?_
  refine e_int ?_
  refine ⟨_, _, _, (by first | exact Or.inl rfl | exact Or.inr rfl), rfl, rfl, ?_⟩
  refine e_ix ?_
  refine e_name (i := 1) rfl ?_
  refine e_int ?_
  refine ⟨_, _, _, (by first | exact Or.inl rfl | exact Or.inr rfl), rfl, rfl, ?_⟩
  refine ⟨_, _, rfl, rfl, ?_, ?_⟩
  · exact s1.nd s2 hs
  refine ea_cons ?_
  refine e_mulX ?_
  refine e_ix ?_
  refine e_name (i := 0) rfl ?_
  refine e_int ?_
  refine ⟨_, _, _, (by first | exact Or.inl rfl | exact Or.inr rfl), rfl, rfl, ?_⟩
  refine e_ix ?_
  refine e_name (i := 1) rfl ?_
  refine e_int ?_
  refine ⟨_, _, _, (by first | exact Or.inl rfl | exact Or.inr rfl), rfl, rfl, ?_⟩
  refine ⟨_, _, rfl, rfl, ?_, ?_⟩
  · exact s1.dn s2 hs
  refine ea_nil ?_
  refine ⟨_, _, rfl, over0 p h0, ?_⟩
  rw [over_eq]
  exact qq
def F_law_sum (ds : List PyData) (Pp : PyData → Prop) : Prop := ∃ (xs : List Rat) (n : Nat), ds = [FL xs] ∧ AllS n xs ∧ xs.length * (n + 1) ≤ 134217727 ∧ Pp (frac (sumL xs))
theorem d_law_sum (M : Md T) : Ok T "_law_sum" ["_law_some"] 43 (PureSp T.K F_law_sum) := by
  refine okP M (k := 42) (i := 58) (s := _root_.Hd.s_law_sum) (N := ["_law_some", "_law_found", "_law_x"]) rfl rfl (by decide +kernel) (fun _ _ _ _ _ _ us hl => match us, hl with | [_], _ => rfl) (fun ds Pp h => by obtain ⟨_, _, rfl, _⟩ := h; rfl) ?_
  rintro ds Pp ⟨xs, n, rfl, hs, hb, q⟩
  refine ss_cons (s_set (i := 1) (E.ev ?_))
  refine e_tup ?_
  refine ea_cons ?_
  refine e_int ?_
  refine ea_cons ?_
  refine e_int ?_
  refine ea_nil ?_
  refine ⟨lk, ?_⟩
  refine ss_cons (s_for [2] ?_ tg_name)
  refine it_seq ?_
  refine e_name (i := 0) rfl ?_
  refine ⟨_, (by first | exact Or.inl rfl | exact Or.inr rfl), ?_⟩
  refine ⟨fun i δ' => ∃ acc, acc = sumL (xs.take i) ∧ Sz (1 + i * (n + 1)) acc ∧ δ' = [.sh (FL xs), .sh (frac acc), .any], ⟨0, rfl, Sz.zero (by omega), rfl⟩, fun i d δ' hd hI => ?_, fun δ' hI => ?_⟩
  · obtain ⟨acc, ea, sa, rfl⟩ := hI
    obtain ⟨x, hx, rfl⟩ := map_get hd
    have hi := Nat.mul_le_mul_right (n + 1) (Nat.succ_le_of_lt (get_lt hx))
    rw [Nat.succ_mul] at hi
    refine ⟨_, rfl, rfl, ?_⟩
    refine ss_cons (s_set (i := 1) (E.ev ?_))
    refine e_call (d_law_plus M) lk ?_
    refine ea_cons ?_
    refine e_name (i := 1) rfl ?_
    refine ea_cons ?_
    refine e_name (i := 2) rfl ?_
    refine ea_nil ?_
    refine ⟨acc, x, _, _, rfl, sa, hs.at hx, by omega, ?_⟩
    refine ss_drop (i := 2) rfl ?_
    refine ss_nil ?_
    refine ⟨acc + x, ?_, (sa.add (hs.at hx)).mono (by rw [Nat.succ_mul]; omega), rfl⟩
    rw [List.take_add_one, hx, ea]
    exact (sumL_snoc _ _).symm
  · obtain ⟨acc, ea, sa, rfl⟩ := hI
    refine ss_cons (s_ret ?_)
    refine e_name (i := 1) rfl ?_
    rw [ea, List.length_map, List.take_length]
    exact q
def F_law_dot (ds : List PyData) (Pp : PyData → Prop) : Prop := ∃ (xs ys : List Rat) (a b : Nat) (d1 d2 : PyData), ds = [d1, d2] ∧ (d1 = FT xs ∨ d1 = FL xs) ∧ (d2 = FT ys ∨ d2 = FL ys) ∧ AllS a xs ∧ AllS b ys ∧ xs.length ≤ 1000 ∧ (xs.length + 1) * (a + b + 1) ≤ 134217727 ∧ Pp (frac (dotR xs ys))
theorem d_law_dot (M : Md T) : Ok T "_law_dot" ["_law_one_here", "_law_two"] 44 (PureSp T.K F_law_dot) := by
  refine okP M (k := 43) (i := 59) (s := _root_.Hd.s_law_dot) (N := ["_law_one_here", "_law_two", "_law_x", "_law_y"]) rfl rfl (by decide +kernel) (fun _ _ _ _ _ _ us hl => match us, hl with | [_, _], _ => rfl) (fun ds Pp h => by obtain ⟨_, _, _, _, _, _, rfl, _⟩ := h; rfl) ?_
  rintro ds Pp ⟨xs, ys, a, b, d1, d2, rfl, h1, h2, s1, s2, hl, hb, q⟩
  refine ss_cons (s_ret ?_)
  refine e_call (d_law_sum M) lk ?_
  refine ea_cons ?_
  refine EF.toE ?_
  refine ef_lc [("_law_x", 2), ("_law_y", 3)] [2, 3] ?_ (tg_tup (tgs_cons tg_name (tgs_cons tg_name tgs_nil)))
  refine it_zip M.b_zip ?_
  refine e_name (i := 0) rfl ?_
  refine e_name (i := 1) rfl ?_
  refine ⟨_, _, h1, h2, ?_⟩
  have hm : (List.zipWith (· * ·) xs ys).length ≤ xs.length := by
    rw [List.length_zipWith]
    omega
  refine Lc0.to ((List.zipWith (· * ·) xs ys).map frac) (by rw [List.length_map, zipD_len, List.length_map, List.length_map, List.length_zipWith]) (by rw [zipD_len, List.length_map]; omega) (fun i d z hd hz => ?_) ?_
  · obtain ⟨x, y, hx, hy, rfl⟩ := zip_get hd
    have ez : z = frac (x * y) := by
      rw [List.getElem?_map, List.getElem?_zipWith, hx, hy] at hz
      exact (Option.some.inj hz).symm
    have hab : 1 * (a + b + 1) ≤ (xs.length + 1) * (a + b + 1) := Nat.mul_le_mul_right _ (by omega)
    refine ⟨_, rfl, ?_⟩
    refine e_call (d_law_times M) lk ?_
    refine ea_cons ?_
    refine e_name (i := 2) rfl ?_
    refine ea_cons ?_
    refine e_name (i := 3) rfl ?_
    refine ea_nil ?_
    refine ⟨x, y, _, _, rfl, s1.at hx, s2.at hy, by omega, ?_⟩
    exact ez.symm
  · refine ea_nil ?_
    have hk : _ ≤ (xs.length + 1) * (a + b + 1) := Nat.mul_le_mul_right (a + b + 1) (Nat.le_succ_of_le hm)
    refine ⟨_, a + b, rfl, s1.zipMul s2, by omega, ?_⟩
    exact q
def F_law_number (ds : List PyData) (Pp : PyData → Prop) : Prop := ds = [] ∧ ∀ q : Rat, Sz 3 q → Pp (frac q)
theorem d_law_number (M : Md T) : Ok T "_law_number" ["_law_well_here"] 43 (WellSp T.K F_law_number) := by
  refine okW M (k := 42) (i := 60) (s := _root_.Hd.s_law_number) (N := ["_law_well_here"]) rfl rfl (by decide +kernel) (fun _ _ _ _ _ _ us hl => match us, hl with | [_], _ => rfl) (fun ds Pp h => by obtain ⟨rfl, _⟩ := h; rfl) ?_
  rintro ds Pp ⟨rfl, q⟩
  refine ss_cons (s_ret ?_)
  refine e_call (d_law_lean M) lk ?_
  refine ea_cons ?_
  refine e_callW (i := 0) (d_law_one M) lk rfl ?_
  refine ea_cons ?_
  refine e_tup ?_
  refine ea_cons ?_
  refine e_int ?_
  refine ea_cons ?_
  refine e_int ?_
  refine ea_cons ?_
  refine e_int ?_
  refine ea_cons ?_
  refine e_int ?_
  refine ea_cons ?_
  refine e_int ?_
  refine ea_cons ?_
  refine e_neg ?_
  refine e_int ?_
  refine ⟨_, rfl, ?_⟩
  refine ea_cons ?_
  refine e_int ?_
  refine ea_cons ?_
  refine e_neg ?_
  refine e_int ?_
  refine ⟨_, rfl, ?_⟩
  refine ea_cons ?_
  refine e_int ?_
  refine ea_cons ?_
  refine e_neg ?_
  refine e_int ?_
  refine ⟨_, rfl, ?_⟩
  refine ea_cons ?_
  refine e_int ?_
  refine ea_cons ?_
  refine e_int ?_
  refine ea_nil ?_
  refine ⟨lk, ?_⟩
  refine ea_nil ?_
  refine ⟨_, _, rfl, .inl rfl, by simp, lk, fun x hx => ?_⟩
  obtain ⟨a, rfl, ha⟩ : ∃ a : Int, x = .int a ∧ a.natAbs < 2 ^ 3 := by
    simp only [List.mem_cons, List.mem_nil_iff, or_false] at hx
    rcases hx with rfl | rfl | rfl | rfl | rfl | rfl | rfl | rfl | rfl | rfl | rfl | rfl <;> exact ⟨_, rfl, by decide⟩
  refine ea_cons ?_
  refine e_callW (i := 0) (d_law_one M) lk rfl ?_
  refine ea_cons ?_
  refine e_tup ?_
  refine ea_cons ?_
  refine e_int ?_
  refine ea_cons ?_
  refine e_int ?_
  refine ea_cons ?_
  refine e_int ?_
  refine ea_cons ?_
  refine e_int ?_
  refine ea_cons ?_
  refine e_int ?_
  refine ea_cons ?_
  refine e_int ?_
  refine ea_nil ?_
  refine ⟨lk, ?_⟩
  refine ea_nil ?_
  refine ⟨_, _, rfl, .inl rfl, by simp, lk, fun x hx => ?_⟩
  obtain ⟨b, rfl, hb, hb0⟩ : ∃ b : Int, x = .int b ∧ b.natAbs < 2 ^ 3 ∧ b ≠ 0 := by
    simp only [List.mem_cons, List.mem_nil_iff, or_false] at hx
    rcases hx with rfl | rfl | rfl | rfl | rfl | rfl <;> exact ⟨_, rfl, by decide, by decide⟩
  refine ea_nil ?_
  refine ⟨a, b, rfl, hb0, ?_⟩
  exact q _ (Sz.divInt ha hb hb0)
end Pd

/-! text Qh -/
set_option Elab.async false
set_option linter.all false
set_option maxRecDepth 100000
set_option maxHeartbeats 4000000
namespace Pd
open PySem PySem.Spec PyProof.Rows L2 C8
variable {T : Th}
/-! ### the law draws -/
def F_law_rows (ds : List PyData) (Pp : PyData → Prop) : Prop := ∃ n w : Nat, ds = [natI n, natI w] ∧ 1 ≤ n ∧ n ≤ 8 ∧ 1 ≤ w ∧ w ≤ 5 ∧ ∀ R : List (List Rat), R.length = n → (∀ r ∈ R, r.length = w) → TabS (rz n) R → Pp (.tuple (R.map FT))
theorem d_law_rows (M : Md T) : Ok T "_law_rows" ["_law_well_here", "_law_many", "_law_few"] 44 (WellSp T.K F_law_rows) := by
  refine okW M (k := 43) (i := 61) (s := _root_.Hd.s_law_rows) (N := ["_law_well_here", "_law_many", "_law_few", "_law_rows_here", "_law_great", "_law_at", "_law_row", "_law_way", "_law_part", "_law_to", "_law_x", "_law_y"]) rfl rfl (by decide +kernel) (fun _ _ _ _ _ _ us hl => match us, hl with | [_, _, _], _ => rfl) (fun ds Pp h => by obtain ⟨_, _, rfl, _⟩ := h; rfl) ?_
  rintro ds Pp ⟨n, w, rfl, hn1, hn8, hw1, hw5, q⟩
  refine ss_cons (s_par (i := 3) (j := 4) (EF.ev ?_))
  refine ef_lst ?_
  refine ea_nil ?_
  refine ⟨lk, ?_⟩
  refine E.ev ?_
  refine e_callW (i := 0) (d_law_draw M) lk rfl ?_
  refine ea_cons ?_
  refine e_mul ?_
  refine e_int ?_
  refine e_name (i := 1) rfl ?_
  refine ⟨_, _, rfl, rfl, ?_, ?_⟩
  · exact Or.inl ⟨by decide, by decide⟩
  refine ea_nil ?_
  refine ⟨_, rfl, by omega, by omega, fun gr g1 g2 => ?_⟩
  refine ss_cons (s_for [5] ?_ tg_name)
  refine it_range1 M.b_range ?_
  refine e_name (i := 1) rfl ?_
  refine ⟨_, rfl, by omega, by omega, ?_⟩
  rw [Int.toNat_natCast]
  refine ⟨fun i δ' => ∃ R : List (List Rat), R.length = i ∧ (∀ r ∈ R, r.length = w) ∧ TabS (rz i) R ∧ δ' = [.well, .sh (natI n), .sh (natI w), .own (R.map FT), .sh (.int gr), .any, .any, .any, .any, .any, .any, .any], ⟨[], rfl, fun r hr => absurd hr (by simp), fun r hr => absurd hr (by simp), rfl⟩, fun i d δ' hd hI => ?_, fun δ' hI => ?_⟩
  · obtain ⟨R, hR1, hR2, hR3, rfl⟩ := hI
    obtain ⟨hi, rfl⟩ := rgL_get hd
    rw [Int.zero_add]
    have hrz := rz_le i
    have hrz1 : rz (i + 1) = 2 * rz i + 2 := rfl
    refine ⟨_, rfl, rfl, ?_⟩
    refine ss_cons (s_par (i := 6) (j := 7) (EF.ev ?_))
    refine ef_lc [("_law_to", 9)] [9] ?_ tg_name
    refine it_range1 M.b_range ?_
    refine e_name (i := 2) rfl ?_
    refine ⟨_, rfl, by omega, by omega, ?_⟩
    rw [Int.toNat_natCast]
    refine Lc0.all (fun y => ∃ q : Rat, Sz 3 q ∧ y = frac q) (by rw [rgL_len]; omega) (fun j d hd => ?_) fun ys hyl hys => ?_
    · obtain ⟨hj, rfl⟩ := rgL_get hd
      refine ⟨_, rfl, ?_⟩
      refine e_callW (i := 0) (d_law_number M) lk rfl ?_
      refine ea_nil ?_
      refine ⟨rfl, fun q hq => ?_⟩
      exact ⟨q, hq, rfl⟩
    · obtain ⟨r, hr1, hr2, rfl⟩ := list_frac hys
      rw [hyl, rgL_len] at hr1
      replace hr2 : AllS (rz (i + 1)) r := fun x hx => (hr2 x hx).mono (by omega)
      refine E.ev ?_
      refine e_callW (i := 0) (d_law_draw M) lk rfl ?_
      refine ea_cons ?_
      refine e_int ?_
      refine ea_nil ?_
      refine ⟨_, rfl, by decide, by decide, fun wy wy1 wy2 => ?_⟩
      refine ss_join (fun δ' => ∃ r : List Rat, r.length = w ∧ AllS (rz (i + 1)) r ∧ δ' = [.well, .sh (natI n), .sh (natI w), .own (R.map FT), .sh (.int gr), .sh (natI i), .own (r.map frac), .sh (.int wy), .any, .any, .any, .any]) ?_ fun δ' hJ => ?_
      · refine s_if ?_
        refine b_and ?_
        refine b_cmp c_gt ?_ rfl
        refine e_name (i := 5) rfl ?_
        refine e_int ?_
        refine ⟨⟨⟨_, rfl⟩, _, rfl⟩, ?_⟩
        refine ⟨fun h1 => ?_, fun h1 => ?_⟩
        · refine b_cmp c_eq ?_ rfl
          refine e_name (i := 7) rfl ?_
          refine e_int ?_
          refine ⟨?_, ?_⟩
          · exact ⟨rfl, rfl⟩
          refine ⟨fun h2 => ?_, fun h2 => ?_⟩
          · refine ss_cons (s_set (i := 8) (E.ev ?_))
            refine e_callW (i := 0) (d_law_one M) lk rfl ?_
            refine ea_cons ?_
            refine e_tup ?_
            refine ea_cons ?_
            refine e_tup ?_
            refine ea_cons ?_
            refine e_int ?_
            refine ea_cons ?_
            refine e_int ?_
            refine ea_nil ?_
            refine ⟨lk, ?_⟩
            refine ea_cons ?_
            refine e_tup ?_
            refine ea_cons ?_
            refine e_neg ?_
            refine e_int ?_
            refine ⟨_, rfl, ?_⟩
            refine ea_cons ?_
            refine e_int ?_
            refine ea_nil ?_
            refine ⟨lk, ?_⟩
            refine ea_cons ?_
            refine e_tup ?_
            refine ea_cons ?_
            refine e_int ?_
            refine ea_cons ?_
            refine e_int ?_
            refine ea_nil ?_
            refine ⟨lk, ?_⟩
            refine ea_cons ?_
            refine e_tup ?_
            refine ea_cons ?_
            refine e_int ?_
            refine ea_cons ?_
            refine e_int ?_
            refine ea_nil ?_
            refine ⟨lk, ?_⟩
            refine ea_nil ?_
            refine ⟨lk, ?_⟩
            refine ea_nil ?_
            have hi0 : (0 : Int) < ((i : Nat) : Int) := of_decide_eq_true h1
            refine ⟨_, _, rfl, .inl rfl, by simp, lk, fun x hx => ?_⟩
            obtain ⟨p, rfl, hp⟩ : ∃ p : Rat, x = frac p ∧ Sz 2 p := by
              simp only [List.mem_cons, List.mem_nil_iff, or_false] at hx
              rcases hx with rfl | rfl | rfl | rfl
              · exact ⟨1, rfl, by decide, by decide⟩
              · exact ⟨-1, rfl, by decide, by decide⟩
              · exact ⟨2, rfl, by decide, by decide⟩
              · exact ⟨half, rfl, half_sz⟩
            refine ss_freeze (i := 6) rfl ?_
            refine ss_cons (s_lc (i := 6) [("_law_x", 10)] [10] ?_ tg_name)
            refine it_seq ?_
            refine e_view (i := 3) (ds := _) rfl ?_
            refine e_callW (i := 0) (d_law_one M) lk rfl ?_
            refine ea_cons ?_
            refine e_name (i := 3) rfl ?_
            refine ea_nil ?_
            have hR0 : R.map FT ≠ [] := by
              cases R with
              | nil =>
                simp only [List.length_nil] at hR1
                omega
              | cons a b => exact List.cons_ne_nil _ _
            refine ⟨_, _, rfl, .inr rfl, hR0, by rw [List.length_map]; omega, fun x hx => ?_⟩
            obtain ⟨x1, hx1, rfl⟩ := List.mem_map.mp hx
            refine ⟨?_, ?_⟩
            · exact av_FT _
            refine ⟨_, (by first | exact Or.inl rfl | exact Or.inr rfl), ?_⟩
            refine Lc0.to ((x1.map (p * ·)).map frac) (by rw [List.length_map, List.length_map, List.length_map]) (by rw [List.length_map, hR2 x1 hx1]; omega) (fun j d z hd hz => ?_) ?_
            · obtain ⟨y, hy, rfl⟩ := map_get hd
              obtain ⟨y', hy', rfl⟩ := map_get hz
              have ey : y' = p * y := by
                rw [List.getElem?_map, hy] at hy'
                exact (Option.some.inj hy').symm
              have hys := (hR3 x1 hx1).at hy
              refine ⟨_, rfl, ?_⟩
              refine e_call (d_law_times M) lk ?_
              refine ea_cons ?_
              refine e_name (i := 8) rfl ?_
              refine ea_cons ?_
              refine e_name (i := 10) rfl ?_
              refine ea_nil ?_
              refine ⟨p, y, 2, rz i, rfl, hp, hys, ?_, ?_⟩
              · have : rz i ≤ rz 8 := by
                  have hm : ∀ k, k ≤ 8 → rz k ≤ rz 8 := by decide
                  exact hm i (by omega)
                have : rz 8 = 5630 := rfl
                omega
              rw [ey]
            · refine ss_drop (i := 8) rfl ?_
              refine ss_nil ?_
              refine ⟨x1.map (p * ·), by rw [List.length_map, hR2 x1 hx1], fun y hy => ?_, rfl⟩
              obtain ⟨y', hy', rfl⟩ := List.mem_map.mp hy
              exact (hp.mul (hR3 x1 hx1 y' hy')).mono (by omega)
          · refine ss_drop (i := 8) rfl ?_
            refine ss_nil ?_
            exact ⟨r, hr1, hr2, rfl⟩
        · refine ⟨fun h => absurd h (by decide), fun _ => ?_⟩
          refine ss_drop (i := 8) rfl ?_
          refine ss_nil ?_
          exact ⟨r, hr1, hr2, rfl⟩
      · obtain ⟨r, hr1, hr2, rfl⟩ := hJ
        refine ss_join (fun δ' => ∃ r : List Rat, r.length = w ∧ AllS (rz (i + 1)) r ∧ δ' = [.well, .sh (natI n), .sh (natI w), .own (R.map FT), .sh (.int gr), .sh (natI i), .own (r.map frac), .sh (.int wy), .any, .any, .any, .any]) ?_ fun δ' hJ => ?_
        · refine s_if ?_
          refine b_and ?_
          refine b_cmp c_gt ?_ rfl
          refine e_name (i := 5) rfl ?_
          refine e_int ?_
          refine ⟨⟨⟨_, rfl⟩, _, rfl⟩, ?_⟩
          refine ⟨fun h1 => ?_, fun h1 => ?_⟩
          · refine b_cmp c_eq ?_ rfl
            refine e_name (i := 7) rfl ?_
            refine e_int ?_
            refine ⟨?_, ?_⟩
            · exact ⟨rfl, rfl⟩
            refine ⟨fun h2 => ?_, fun h2 => ?_⟩
            · refine ss_freeze (i := 6) rfl ?_
              refine ss_cons (s_lc (i := 6) [("_law_x", 10), ("_law_y", 11)] [10, 11] ?_ (tg_tup (tgs_cons tg_name (tgs_cons tg_name tgs_nil))))
              refine it_zip M.b_zip ?_
              refine e_view (i := 3) (ds := _) rfl ?_
              refine e_callW (i := 0) (d_law_one M) lk rfl ?_
              refine ea_cons ?_
              refine e_name (i := 3) rfl ?_
              refine ea_nil ?_
              have hi0 : (1 : Int) < ((i : Nat) : Int) := of_decide_eq_true h1
              have hR0 : R.map FT ≠ [] := by
                cases R with
                | nil =>
                  simp only [List.length_nil] at hR1
                  omega
                | cons a b => exact List.cons_ne_nil _ _
              refine ⟨_, _, rfl, .inr rfl, hR0, by rw [List.length_map]; omega, fun x hx => ?_⟩
              obtain ⟨x1, hx1, rfl⟩ := List.mem_map.mp hx
              refine ⟨?_, ?_⟩
              · exact av_FT _
              refine e_view (i := 3) (ds := _) rfl ?_
              refine e_callW (i := 0) (d_law_one M) lk rfl ?_
              refine ea_cons ?_
              refine e_name (i := 3) rfl ?_
              refine ea_nil ?_
              refine ⟨_, _, rfl, .inr rfl, hR0, by rw [List.length_map]; omega, fun y hy => ?_⟩
              obtain ⟨y1, hy1, rfl⟩ := List.mem_map.mp hy
              refine ⟨?_, ?_⟩
              · exact av_FT _
              refine ⟨_, _, (by first | exact Or.inl rfl | exact Or.inr rfl), (by first | exact Or.inl rfl | exact Or.inr rfl), ?_⟩
              refine Lc0.to ((List.zipWith (· + ·) x1 y1).map frac) (by rw [List.length_map, zipD_len, List.length_map, List.length_map, List.length_zipWith]) (by rw [zipD_len, List.length_map, hR2 x1 hx1]; omega) (fun j d z hd hz => ?_) ?_
              · obtain ⟨a, b, ha, hb, rfl⟩ := zip_get hd
                have ez : z = frac (a + b) := by
                  rw [List.getElem?_map, List.getElem?_zipWith, ha, hb] at hz
                  exact (Option.some.inj hz).symm
                have has := (hR3 x1 hx1).at ha
                have hbs := (hR3 y1 hy1).at hb
                refine ⟨_, rfl, ?_⟩
                refine e_call (d_law_plus M) lk ?_
                refine ea_cons ?_
                refine e_name (i := 10) rfl ?_
                refine ea_cons ?_
                refine e_name (i := 11) rfl ?_
                refine ea_nil ?_
                refine ⟨a, b, rz i, rz i, rfl, has, hbs, ?_, ?_⟩
                · have : rz i ≤ rz 8 := by
                    have hm : ∀ k, k ≤ 8 → rz k ≤ rz 8 := by decide
                    exact hm i (by omega)
                  have : rz 8 = 5630 := rfl
                  omega
                rw [ez]
              · refine ss_nil ?_
                refine ⟨List.zipWith (· + ·) x1 y1, by rw [List.length_zipWith, hR2 x1 hx1, hR2 y1 hy1, Nat.min_self], fun z hz => ?_, rfl⟩
                obtain ⟨j, e⟩ := List.mem_iff_getElem?.mp hz
                rw [List.getElem?_zipWith] at e
                cases e1 : x1[j]? with
                | none =>
                  rw [e1] at e
                  cases e
                | some a =>
                  cases e2 : y1[j]? with
                  | none =>
                    rw [e1, e2] at e
                    cases e
                  | some b =>
                    rw [e1, e2] at e
                    cases e
                    exact (((hR3 x1 hx1).at e1).add ((hR3 y1 hy1).at e2)).mono (by omega)
            · refine ss_nil ?_
              exact ⟨r, hr1, hr2, rfl⟩
          · refine ⟨fun h => absurd h (by decide), fun _ => ?_⟩
            refine ss_nil ?_
            exact ⟨r, hr1, hr2, rfl⟩
        · obtain ⟨r, hr1, hr2, rfl⟩ := hJ
          refine ss_join (fun δ' => ∃ r : List Rat, r.length = w ∧ AllS (rz (i + 1)) r ∧ δ' = [.well, .sh (natI n), .sh (natI w), .own (R.map FT), .sh (.int gr), .sh (natI i), .own (r.map frac), .sh (.int wy), .any, .any, .any, .any]) ?_ fun δ' hJ => ?_
          · refine s_if ?_
            refine b_cmp c_eq ?_ rfl
            refine e_name (i := 5) rfl ?_
            refine e_name (i := 4) rfl ?_
            refine ⟨?_, ?_⟩
            · exact ⟨rfl, rfl⟩
            refine ⟨fun h1 => ?_, fun h1 => ?_⟩
            · refine ss_cons (s_sub (i := 6) rfl ?_)
              refine e_call (d_law_lean M) lk ?_
              refine ea_cons ?_
              refine e_add ?_
              refine e_int ?_
              refine e_callW (i := 0) (d_law_draw M) lk rfl ?_
              refine ea_cons ?_
              refine e_int ?_
              refine ea_nil ?_
              refine ⟨_, rfl, by decide, by decide, fun a a1 a2 => ?_⟩
              refine ⟨_, _, rfl, rfl, ?_⟩
              refine ea_cons ?_
              refine e_add ?_
              refine e_int ?_
              refine e_callW (i := 0) (d_law_draw M) lk rfl ?_
              refine ea_cons ?_
              refine e_int ?_
              refine ea_nil ?_
              refine ⟨_, rfl, by decide, by decide, fun b b1 b2 => ?_⟩
              refine ⟨_, _, rfl, rfl, ?_⟩
              refine ea_nil ?_
              refine ⟨_, _, rfl, by omega, ?_⟩
              refine e_callW (i := 0) (d_law_draw M) lk rfl ?_
              refine ea_cons ?_
              refine e_name (i := 2) rfl ?_
              refine ea_nil ?_
              refine ⟨_, rfl, by omega, by omega, fun v v1 v2 => ?_⟩
              refine ⟨_, _, rfl, ixN_int v1 (by rw [List.length_map]; omega), ?_⟩
              refine ss_nil ?_
              refine ⟨r.set v.toNat (Rat.divInt (1 + a) (1 + b)), by rw [List.length_set]; exact hr1, hr2.set ((Sz.divInt (n := 20) (by show (1 + a).natAbs < 1048576; omega) (by show (1 + b).natAbs < 1048576; omega) (by omega)).mono (by omega)), ?_⟩
              rw [List.map_set]
              rfl
            · refine ss_nil ?_
              exact ⟨r, hr1, hr2, rfl⟩
          · obtain ⟨r, hr1, hr2, rfl⟩ := hJ
            refine ss_cons (s_append (i := 3) rfl ?_)
            refine e_view (i := 6) (ds := _) rfl ?_
            refine e_tuple M.b_tuple ?_
            refine e_name (i := 6) rfl ?_
            refine ⟨_, (by first | exact Or.inl rfl | exact Or.inr rfl), ?_⟩
            refine ⟨?_, ?_⟩
            · exact av_FT _
            refine ⟨?_, ?_⟩
            · rw [List.length_map]
              omega
            refine ss_drop (i := 5) rfl ?_
            refine ss_freeze (i := 6) rfl ?_
            refine ss_drop (i := 6) rfl ?_
            refine ss_drop (i := 7) rfl ?_
            refine ss_drop (i := 8) rfl ?_
            refine ss_nil ?_
            refine ⟨R ++ [r], by rw [List.length_append, hR1] <;> rfl, fun r' hr' => ?_, fun r' hr' => ?_, ?_⟩
            · rcases List.mem_append.mp hr' with h | h
              · exact hR2 r' h
              · rw [List.mem_singleton.mp h]
                exact hr1
            · rcases List.mem_append.mp hr' with h | h
              · exact (hR3 r' h).mono (by omega)
              · rw [List.mem_singleton.mp h]
                exact hr2
            · rw [List.map_append]
              rfl
  · obtain ⟨R, hR1, hR2, hR3, rfl⟩ := hI
    rw [rgL_len] at hR1 hR3
    refine ss_cons (s_ret ?_)
    refine e_view (i := 3) (ds := _) rfl ?_
    refine e_tuple M.b_tuple ?_
    refine e_name (i := 3) rfl ?_
    refine ⟨_, (by first | exact Or.inl rfl | exact Or.inr rfl), ?_⟩
    refine ⟨?_, ?_⟩
    · exact av_TT _
    exact q R hR1 hR2 hR3
end Pd

/-! text Qi -/
set_option Elab.async false
set_option linter.all false
set_option maxRecDepth 100000
set_option maxHeartbeats 4000000
namespace Pd
open PySem PySem.Spec PyProof.Rows L2 C8
variable {T : Th}
def F_law_spreads (ds : List PyData) (Pp : PyData → Prop) : Prop := ∃ n : Nat, ds = [natI n] ∧ n ≤ 8 ∧ ∀ spr : List Rat, spr.length = n → (∀ q ∈ spr, 0 < q.num) → Pp (FT spr)
theorem d_law_spreads (M : Md T) : Ok T "_law_spreads" ["_law_well_here", "_law_many"] 43 (WellSp T.K F_law_spreads) := by
  refine okW M (k := 42) (i := 62) (s := _root_.Hd.s_law_spreads) (N := ["_law_well_here", "_law_many", "_law_at"]) rfl rfl (by decide +kernel) (fun _ _ _ _ _ _ us hl => match us, hl with | [_, _], _ => rfl) (fun ds Pp h => by obtain ⟨_, rfl, _⟩ := h; rfl) ?_
  rintro ds Pp ⟨n, rfl, hn, q⟩
  refine ss_cons (s_if ?_)
  refine b_cmp c_eq ?_ rfl
  refine e_callW (i := 0) (d_law_draw M) lk rfl ?_
  refine ea_cons ?_
  refine e_int ?_
  refine ea_nil ?_
  refine ⟨_, rfl, by decide, by decide, fun v v1 v2 => ?_⟩
  refine e_int ?_
  refine ⟨?_, ?_⟩
  · exact ⟨rfl, rfl⟩
  refine ⟨fun h1 => ?_, fun h1 => ?_⟩
  · refine ss_cons (s_ret ?_)
    refine e_repT ?_
    refine e_tup ?_
    refine ea_cons ?_
    refine e_tup ?_
    refine ea_cons ?_
    refine e_int ?_
    refine ea_cons ?_
    refine e_int ?_
    refine ea_nil ?_
    refine ⟨lk, ?_⟩
    refine ea_nil ?_
    refine ⟨lk, ?_⟩
    refine e_name (i := 1) rfl ?_
    refine ⟨_, _, rfl, rfl, by simp, by omega, by omega, lk, ?_⟩
    rw [Int.toNat_natCast, rep1]
    have e : PyData.tuple (List.replicate n (PyData.tuple [.int 1, .int 1])) = FT (List.replicate n 1) := by
      unfold FT
      rw [List.map_replicate]
      rfl
    rw [e]
    exact q _ List.length_replicate fun x hx => by
      rw [List.eq_of_mem_replicate hx]
      decide
  · refine ss_nil ?_
    refine ss_cons (s_ret ?_)
    refine e_tuple M.b_tuple ?_
    refine EF.toE ?_
    refine ef_lc [("_law_at", 2)] [2] ?_ tg_name
    refine it_range1 M.b_range ?_
    refine e_name (i := 1) rfl ?_
    refine ⟨_, rfl, by omega, by omega, ?_⟩
    rw [Int.toNat_natCast]
    refine Lc0.all (fun y => ∃ q : Rat, 0 < q.num ∧ y = frac q) (by rw [rgL_len]; omega) (fun j d hd => ?_) fun ys hyl hys => ?_
    · obtain ⟨hj, rfl⟩ := rgL_get hd
      refine ⟨_, rfl, ?_⟩
      refine e_call (d_law_lean M) lk ?_
      refine ea_cons ?_
      refine e_add ?_
      refine e_int ?_
      refine e_callW (i := 0) (d_law_draw M) lk rfl ?_
      refine ea_cons ?_
      refine e_int ?_
      refine ea_nil ?_
      refine ⟨_, rfl, by decide, by decide, fun a a1 a2 => ?_⟩
      refine ⟨_, _, rfl, rfl, ?_⟩
      refine ea_cons ?_
      refine e_callW (i := 0) (d_law_one M) lk rfl ?_
      refine ea_cons ?_
      refine e_tup ?_
      refine ea_cons ?_
      refine e_int ?_
      refine ea_cons ?_
      refine e_int ?_
      refine ea_cons ?_
      refine e_int ?_
      refine ea_cons ?_
      refine e_int ?_
      refine ea_nil ?_
      refine ⟨lk, ?_⟩
      refine ea_nil ?_
      refine ⟨_, _, rfl, .inl rfl, by simp, lk, fun x hx => ?_⟩
      obtain ⟨b, rfl, hb⟩ : ∃ b : Int, x = .int b ∧ 0 < b := by
        simp only [List.mem_cons, List.mem_nil_iff, or_false] at hx
        rcases hx with rfl | rfl | rfl | rfl <;> exact ⟨_, rfl, by decide⟩
      refine ea_nil ?_
      refine ⟨_, _, rfl, by omega, ?_⟩
      exact ⟨_, num_pos (by omega) hb, rfl⟩
    · refine ⟨_, (by first | exact Or.inl rfl | exact Or.inr rfl), ?_⟩
      obtain ⟨r, hr1, hr2, rfl⟩ := list_frac hys
      exact q r (by rw [hr1, hyl, rgL_len]) hr2
def F_law_blocks (ds : List PyData) (Pp : PyData → Prop) : Prop := ∃ n : Nat, ds = [natI n] ∧ n ≤ 8 ∧ ∀ bs : List Int, (bs = [] ∨ (bs.length = n ∧ ∀ b ∈ bs, 0 ≤ b ∧ b ≤ 4)) → Pp (NT bs)
theorem d_law_blocks (M : Md T) : Ok T "_law_blocks" ["_law_well_here", "_law_many"] 42 (WellSp T.K F_law_blocks) := by
  refine okW M (k := 41) (i := 63) (s := _root_.Hd.s_law_blocks) (N := ["_law_well_here", "_law_many", "_law_most", "_law_at"]) rfl rfl (by decide +kernel) (fun _ _ _ _ _ _ us hl => match us, hl with | [_, _], _ => rfl) (fun ds Pp h => by obtain ⟨_, rfl, _⟩ := h; rfl) ?_
  rintro ds Pp ⟨n, rfl, hn, q⟩
  refine ss_cons (s_if ?_)
  refine b_cmp c_eq ?_ rfl
  refine e_callW (i := 0) (d_law_draw M) lk rfl ?_
  refine ea_cons ?_
  refine e_int ?_
  refine ea_nil ?_
  refine ⟨_, rfl, by decide, by decide, fun v v1 v2 => ?_⟩
  refine e_int ?_
  refine ⟨?_, ?_⟩
  · exact ⟨rfl, rfl⟩
  refine ⟨fun h1 => ?_, fun h1 => ?_⟩
  · refine ss_cons (s_ret ?_)
    refine e_tup ?_
    refine ea_nil ?_
    refine ⟨lk, ?_⟩
    exact q [] (.inl rfl)
  · refine ss_nil ?_
    refine ss_cons (s_set (i := 2) (E.ev ?_))
    refine e_add ?_
    refine e_int ?_
    refine e_callW (i := 0) (d_law_draw M) lk rfl ?_
    refine ea_cons ?_
    refine e_int ?_
    refine ea_nil ?_
    refine ⟨_, rfl, by decide, by decide, fun m m1 m2 => ?_⟩
    refine ⟨_, _, rfl, rfl, ?_⟩
    refine ss_cons (s_ret ?_)
    refine e_tuple M.b_tuple ?_
    refine EF.toE ?_
    refine ef_lc [("_law_at", 3)] [3] ?_ tg_name
    refine it_range1 M.b_range ?_
    refine e_name (i := 1) rfl ?_
    refine ⟨_, rfl, by omega, by omega, ?_⟩
    rw [Int.toNat_natCast]
    refine Lc0.all (fun y => ∃ b : Int, (0 ≤ b ∧ b ≤ 4) ∧ y = .int b) (by rw [rgL_len]; omega) (fun j d hd => ?_) fun ys hyl hys => ?_
    · obtain ⟨hj, rfl⟩ := rgL_get hd
      refine ⟨_, rfl, ?_⟩
      refine e_callW (i := 0) (d_law_draw M) lk rfl ?_
      refine ea_cons ?_
      refine e_name (i := 2) rfl ?_
      refine ea_nil ?_
      refine ⟨_, rfl, by omega, by omega, fun b b1 b2 => ?_⟩
      exact ⟨b, ⟨b1, by omega⟩, rfl⟩
    · refine ⟨_, (by first | exact Or.inl rfl | exact Or.inr rfl), ?_⟩
      obtain ⟨r, hr1, hr2, rfl⟩ := list_int hys
      exact q r (.inr ⟨by rw [hr1, hyl, rgL_len], hr2⟩)
def F_law_is_whole (ds : List PyData) (Pp : PyData → Prop) : Prop := ∃ i : Int, ds = [.int i] ∧ Pp (.bool true)
theorem d_law_is_whole (M : Md T) : Ok T "_law_is_whole" ["_law_thing"] 41 (PureSp T.K F_law_is_whole) := by
  refine okP M (k := 40) (i := 64) (s := _root_.Hd.s_law_is_whole) (N := ["_law_thing"]) rfl rfl (by decide +kernel) (fun _ _ _ _ _ _ us hl => match us, hl with | [_], _ => rfl) (fun ds Pp h => by obtain ⟨_, rfl, _⟩ := h; rfl) ?_
  rintro ds Pp ⟨i, rfl, q⟩
  refine ss_cons (s_ret ?_)
  refine e_and ?_
  refine e_isi_ii M.b_isinstance M.b_int ?_
  refine e_name (i := 0) rfl ?_
  refine ⟨⟨_, rfl⟩, ?_⟩
  refine ⟨_, rfl, ⟨fun _ => ?_, fun h => absurd h (by decide)⟩⟩
  refine e_not ?_
  refine e_isi_ib M.b_isinstance M.b_bool ?_
  refine e_name (i := 0) rfl ?_
  refine ⟨⟨_, rfl⟩, ?_⟩
  refine ⟨_, rfl, ?_⟩
  exact q
def F_law_is_tuple (ds : List PyData) (Pp : PyData → Prop) : Prop := ∃ (es : List PyData) (n : Int), ds = [.tuple es, .int n] ∧ Pp (.bool (decide ((es.length : Int) = n)))
theorem d_law_is_tuple (M : Md T) : Ok T "_law_is_tuple" ["_law_thing", "_law_few"] 41 (PureSp T.K F_law_is_tuple) := by
  refine okP M (k := 40) (i := 65) (s := _root_.Hd.s_law_is_tuple) (N := ["_law_thing", "_law_few"]) rfl rfl (by decide +kernel) (fun _ _ _ _ _ _ us hl => match us, hl with | [_, _], _ => rfl) (fun ds Pp h => by obtain ⟨_, _, rfl, _⟩ := h; rfl) ?_
  rintro ds Pp ⟨es, n, rfl, q⟩
  refine ss_cons (s_ret ?_)
  refine e_and ?_
  refine e_isi_tt M.b_isinstance M.b_tuple ?_
  refine e_name (i := 0) rfl ?_
  refine ⟨⟨_, rfl⟩, ?_⟩
  refine ⟨_, rfl, ⟨fun _ => ?_, fun h => absurd h (by decide)⟩⟩
  refine e_cmp c_eq ?_ rfl
  refine e_len M.b_len ?_
  refine e_name (i := 0) rfl ?_
  refine ⟨_, (by first | exact Or.inl rfl | exact Or.inr rfl), ?_⟩
  refine e_name (i := 1) rfl ?_
  refine ⟨?_, ?_⟩
  · exact ⟨rfl, rfl⟩
  exact q
def F_law_is_part (ds : List PyData) (Pp : PyData → Prop) : Prop := ∃ q : Rat, ds = [frac q] ∧ Pp (.bool true)
theorem d_law_is_part (M : Md T) : Ok T "_law_is_part" ["_law_thing"] 42 (PureSp T.K F_law_is_part) := by
  refine okP M (k := 41) (i := 66) (s := _root_.Hd.s_law_is_part) (N := ["_law_thing"]) rfl rfl (by decide +kernel) (fun _ _ _ _ _ _ us hl => match us, hl with | [_], _ => rfl) (fun ds Pp h => by obtain ⟨_, rfl, _⟩ := h; rfl) ?_
  rintro ds Pp ⟨q, rfl, qq⟩
  refine ss_cons (s_if ?_)
  refine b_or3 ?_
  refine b_not ?_
  refine b_val ?_
  refine e_call (d_law_is_tuple M) lk ?_
  refine ea_cons ?_
  refine e_name (i := 0) rfl ?_
  refine ea_cons ?_
  refine e_int ?_
  refine ea_nil ?_
  refine ⟨_, _, rfl, ?_⟩
  refine ⟨_, rfl, ?_⟩
  refine ⟨fun _ => ?_, fun h => absurd h Bool.false_ne_true⟩
  refine b_not ?_
  refine b_val ?_
  refine e_call (d_law_is_whole M) lk ?_
  refine ea_cons ?_
  refine e_ix ?_
  refine e_name (i := 0) rfl ?_
  refine e_int ?_
  refine ⟨_, _, _, (by first | exact Or.inl rfl | exact Or.inr rfl), rfl, rfl, ?_⟩
  refine ea_nil ?_
  refine ⟨_, rfl, ?_⟩
  refine ⟨_, rfl, ?_⟩
  refine ⟨fun _ => ?_, fun h => absurd h Bool.false_ne_true⟩
  refine b_not ?_
  refine b_val ?_
  refine e_call (d_law_is_whole M) lk ?_
  refine ea_cons ?_
  refine e_ix ?_
  refine e_name (i := 0) rfl ?_
  refine e_int ?_
  refine ⟨_, _, _, (by first | exact Or.inl rfl | exact Or.inr rfl), rfl, rfl, ?_⟩
  refine ea_nil ?_
  refine ⟨_, rfl, ?_⟩
  refine ⟨_, rfl, ?_⟩
  refine ⟨fun h => absurd h Bool.false_ne_true, fun _ => ?_⟩
  refine ss_nil ?_
  refine ss_cons (s_ret ?_)
  refine e_and ?_
  refine e_cmp c_gt ?_ rfl
  refine e_ix ?_
  refine e_name (i := 0) rfl ?_
  refine e_int ?_
  refine ⟨_, _, _, (by first | exact Or.inl rfl | exact Or.inr rfl), rfl, rfl, ?_⟩
  refine e_int ?_
  refine ⟨⟨⟨_, rfl⟩, _, rfl⟩, ?_⟩
  refine ⟨_, rfl, ⟨fun _ => ?_, fun h => absurd h (fun z => of_decide_eq_false z (denP q))⟩⟩
  refine e_cmp c_eq ?_ rfl
  refine e_call (d_law_lean M) lk ?_
  refine ea_cons ?_
  refine e_ix ?_
  refine e_name (i := 0) rfl ?_
  refine e_int ?_
  refine ⟨_, _, _, (by first | exact Or.inl rfl | exact Or.inr rfl), rfl, rfl, ?_⟩
  refine ea_cons ?_
  refine e_ix ?_
  refine e_name (i := 0) rfl ?_
  refine e_int ?_
  refine ⟨_, _, _, (by first | exact Or.inl rfl | exact Or.inr rfl), rfl, rfl, ?_⟩
  refine ea_nil ?_
  refine ⟨_, _, rfl, den0 q, ?_⟩
  rw [rat_eq]
  refine e_name (i := 0) rfl ?_
  refine ⟨?_, ?_⟩
  · exact ⟨frac_shaped _, frac_shaped _⟩
  rw [frac_eqv, decide_eq_true rfl]
  exact qq
def F_law_is_row (ds : List PyData) (Pp : PyData → Prop) : Prop := ∃ (xs : List Rat) (n : Int), ds = [FT xs, .int n] ∧ (xs.length : Int) = n ∧ xs.length ≤ 1000 ∧ Pp (.bool true)
theorem d_law_is_row (M : Md T) : Ok T "_law_is_row" ["_law_thing", "_law_few"] 43 (PureSp T.K F_law_is_row) := by
  refine okP M (k := 42) (i := 67) (s := _root_.Hd.s_law_is_row) (N := ["_law_thing", "_law_few", "_law_x"]) rfl rfl (by decide +kernel) (fun _ _ _ _ _ _ us hl => match us, hl with | [_, _], _ => rfl) (fun ds Pp h => by obtain ⟨_, _, rfl, _⟩ := h; rfl) ?_
  rintro ds Pp ⟨xs, n, rfl, hn, hl, q⟩
  refine ss_cons (s_ret ?_)
  refine e_and ?_
  refine e_call (d_law_is_tuple M) lk ?_
  refine ea_cons ?_
  refine e_name (i := 0) rfl ?_
  refine ea_cons ?_
  refine e_name (i := 1) rfl ?_
  refine ea_nil ?_
  refine ⟨_, _, rfl, ?_⟩
  refine ⟨_, rfl, ⟨fun _ => ?_, fun h => absurd h (fun z => of_decide_eq_false z (by rw [List.length_map]; exact hn))⟩⟩
  refine e_all M.b_all ?_
  refine EF.toE ?_
  refine ef_lc [("_law_x", 2)] [2] ?_ tg_name
  refine it_seq ?_
  refine e_name (i := 0) rfl ?_
  refine ⟨_, (by first | exact Or.inl rfl | exact Or.inr rfl), ?_⟩
  refine Lc0.to (List.replicate xs.length (.bool true)) (by rw [List.length_replicate, List.length_map]) (by rw [List.length_map]; omega) (fun i d z hd hz => ?_) ?_
  · obtain ⟨x, hx, rfl⟩ := map_get hd
    refine ⟨_, rfl, ?_⟩
    refine e_call (d_law_is_part M) lk ?_
    refine ea_cons ?_
    refine e_name (i := 2) rfl ?_
    refine ea_nil ?_
    refine ⟨_, rfl, ?_⟩
    exact rep_get hz
  · refine ⟨List.replicate xs.length true, by rw [List.map_replicate], ?_⟩
    rw [rep_all]
    exact q
def F_law_lively (ds : List PyData) (Pp : PyData → Prop) : Prop := ∃ (R : List (List Rat)) (w s : Nat), ds = [.tuple (R.map FT)] ∧ 1 ≤ R.length ∧ R.length ≤ 10 ∧ (∀ r ∈ R, r.length = w) ∧ 1 ≤ w ∧ w ≤ 5 ∧ TabS s R ∧ 1 ≤ s ∧
  ∀ R' : List (List Rat), R'.length = R.length → (∀ r ∈ R', r.length = w) → TabS s R' → (∃ r ∈ R', ∃ x ∈ r, x ≠ 0) → Pp (.tuple (R'.map FT))
theorem d_law_lively (M : Md T) : Ok T "_law_lively" ["_law_rows_here"] 41 (PureSp T.K F_law_lively) := by
  refine okP M (k := 40) (i := 68) (s := _root_.Hd.s_law_lively) (N := ["_law_rows_here", "_law_row", "_law_x"]) rfl rfl (by decide +kernel) (fun _ _ _ _ _ _ us hl => match us, hl with | [_], _ => rfl) (fun ds Pp h => by obtain ⟨_, _, _, rfl, _⟩ := h; rfl) ?_
  rintro ds Pp ⟨R, w, s, rfl, hR1, hR10, hw, hw1, hw5, hs, h1, q⟩
  refine ss_cons (s_if ?_)
  refine b_val ?_
  refine e_any M.b_any ?_
  refine EF.toE ?_
  refine ef_lc [("_law_row", 1)] [1] ?_ tg_name
  refine it_seq ?_
  refine e_name (i := 0) rfl ?_
  refine ⟨_, (by first | exact Or.inl rfl | exact Or.inr rfl), ?_⟩
  refine Lc0.to (R.map fun r => PyData.bool (r.any fun x => decide (x ≠ 0))) (by rw [List.length_map, List.length_map]) (by rw [List.length_map]; omega) (fun i d z hd hz => ?_) ?_
  · obtain ⟨r, hr, rfl⟩ := map_get hd
    obtain ⟨r', hr', rfl⟩ := map_get hz
    rw [hr] at hr'
    cases hr'
    have hrw := hw r (List.mem_of_getElem? hr)
    refine ⟨_, rfl, ?_⟩
    refine e_any M.b_any ?_
    refine EF.toE ?_
    refine ef_lc [("_law_x", 2)] [2] ?_ tg_name
    refine it_seq ?_
    refine e_name (i := 1) rfl ?_
    refine ⟨_, (by first | exact Or.inl rfl | exact Or.inr rfl), ?_⟩
    refine Lc0.to (r.map fun x => PyData.bool (decide (x ≠ 0))) (by rw [List.length_map, List.length_map]) (by rw [List.length_map]; omega) (fun i d z hd hz => ?_) ?_
    · obtain ⟨x, hx, rfl⟩ := map_get hd
      obtain ⟨x', hx', rfl⟩ := map_get hz
      rw [hx] at hx'
      cases hx'
      refine ⟨_, rfl, ?_⟩
      refine e_cmp c_ne ?_ rfl
      refine e_ix ?_
      refine e_name (i := 2) rfl ?_
      refine e_int ?_
      refine ⟨_, _, _, (by first | exact Or.inl rfl | exact Or.inr rfl), rfl, rfl, ?_⟩
      refine e_int ?_
      refine ⟨?_, ?_⟩
      · exact ⟨rfl, rfl⟩
      exact congrArg PyData.bool (eqv_num0 x)
    · refine ⟨r.map fun x => decide (x ≠ 0), by rw [List.map_map] <;> rfl, ?_⟩
      rw [List.any_map]
      rfl
  · refine ⟨R.map fun r => r.any fun x => decide (x ≠ 0), by rw [List.map_map] <;> rfl, ?_⟩
    refine ⟨_, rfl, ?_⟩
    refine ⟨fun e0 => ?_, fun e0 => ?_⟩
    · refine ss_cons (s_ret ?_)
      refine e_name (i := 0) rfl ?_
      obtain ⟨b, hb1, hb2⟩ := List.any_eq_true.mp e0
      obtain ⟨r, hr, rfl⟩ := List.mem_map.mp hb1
      obtain ⟨x, hx, hx2⟩ := List.any_eq_true.mp hb2
      exact q R rfl hw hs ⟨r, hr, x, hx, of_decide_eq_true hx2⟩
    · refine ss_nil ?_
      refine ss_cons (s_ret ?_)
      refine e_catT ?_
      refine e_tup ?_
      refine ea_cons ?_
      refine e_repT ?_
      refine e_tup ?_
      refine ea_cons ?_
      refine e_tup ?_
      refine ea_cons ?_
      refine e_int ?_
      refine ea_cons ?_
      refine e_int ?_
      refine ea_nil ?_
      refine ⟨lk, ?_⟩
      refine ea_nil ?_
      refine ⟨lk, ?_⟩
      refine e_len M.b_len ?_
      refine e_ix ?_
      refine e_name (i := 0) rfl ?_
      refine e_int ?_
      refine ⟨_, _, _, (by first | exact Or.inl rfl | exact Or.inr rfl), rfl, at_zm (rowAt_get hR1), ?_⟩
      refine ⟨_, (by first | exact Or.inl rfl | exact Or.inr rfl), ?_⟩
      have hr0 := hw _ (rowAt_mem hR1)
      rw [List.length_map, hr0]
      refine ⟨_, _, rfl, rfl, by simp, by omega, by omega, lk, ?_⟩
      rw [Int.toNat_natCast, rep1]
      refine ea_nil ?_
      refine ⟨lk, ?_⟩
      refine e_sliceT ?_
      refine e_name (i := 0) rfl ?_
      refine eo_some ?_
      refine e_int ?_
      refine ⟨_, rfl, ?_⟩
      refine eo_none ?_
      refine ⟨_, rfl, ?_⟩
      refine ⟨_, _, rfl, rfl, ?_, ?_⟩
      · rw [cutD_1 _ (by rw [List.length_map]; exact hR1), List.length_drop, List.length_map]
        simp only [List.length_cons, List.length_nil]
        omega
      have e : PyData.tuple ([PyData.tuple (List.replicate w (PyData.tuple [.int 1, .int 1]))] ++ cutD (R.map FT) (some 1) none) = .tuple ((List.replicate w 1 :: R.drop 1).map FT) := by
        rw [cutD_1 _ (by rw [List.length_map]; exact hR1), List.map_cons, List.map_drop]
        have e2 : FT (List.replicate w 1) = PyData.tuple (List.replicate w (PyData.tuple [.int 1, .int 1])) := by
          unfold FT
          rw [List.map_replicate]
          rfl
        rw [e2]
        rfl
      rw [e]
      refine q _ (by rw [List.length_cons, List.length_drop]; omega) (fun r hr => ?_) (fun r hr => ?_) ⟨_, List.mem_cons_self, 1, ?_, by decide⟩
      · rcases List.mem_cons.mp hr with rfl | hr
        · exact List.length_replicate
        · exact hw r (List.mem_of_mem_drop hr)
      · rcases List.mem_cons.mp hr with rfl | hr
        · intro x hx
          rw [List.eq_of_mem_replicate hx]
          exact Sz.one h1
        · exact hs r (List.mem_of_mem_drop hr)
      · rw [List.mem_replicate]
        exact ⟨by omega, rfl⟩
def F_law_mixed (ds : List PyData) (Pp : PyData → Prop) : Prop := ∃ (R : List (List Rat)) (y : List Rat) (w a b : Nat), ds = [.tuple (R.map FT), FT y] ∧ 1 ≤ R.length ∧ R.length ≤ 10 ∧ y.length = R.length ∧ (∀ r ∈ R, r.length = w) ∧ w ≤ 5 ∧ TabS a R ∧ 1 ≤ a ∧ AllS b y ∧ (R.length + 1) * (b + a + 1) ≤ 134217727 ∧
  Pp (FT ((List.range w).map fun j => dotR y (R.map fun r => ent r j)))
theorem d_law_mixed (M : Md T) : Ok T "_law_mixed" ["_law_rows_here", "_law_telling"] 45 (PureSp T.K F_law_mixed) := by
  refine okP M (k := 44) (i := 69) (s := _root_.Hd.s_law_mixed) (N := ["_law_rows_here", "_law_telling", "_law_at", "_law_row"]) rfl rfl (by decide +kernel) (fun _ _ _ _ _ _ us hl => match us, hl with | [_, _], _ => rfl) (fun ds Pp h => by obtain ⟨_, _, _, _, _, rfl, _⟩ := h; rfl) ?_
  rintro ds Pp ⟨R, y, w, a, b, rfl, hR1, hR10, hyl, hw, hw5, hs, h1, hy, hb, q⟩
  refine ss_cons (s_ret ?_)
  refine e_tuple M.b_tuple ?_
  refine EF.toE ?_
  refine ef_lc [("_law_at", 2)] [2] ?_ tg_name
  refine it_range1 M.b_range ?_
  refine e_len M.b_len ?_
  refine e_ix ?_
  refine e_name (i := 0) rfl ?_
  refine e_int ?_
  refine ⟨_, _, _, (by first | exact Or.inl rfl | exact Or.inr rfl), rfl, at_zm (rowAt_get hR1), ?_⟩
  refine ⟨_, (by first | exact Or.inl rfl | exact Or.inr rfl), ?_⟩
  have hr0 := hw _ (rowAt_mem hR1)
  rw [List.length_map, hr0]
  refine ⟨_, rfl, by omega, by omega, ?_⟩
  rw [Int.toNat_natCast]
  refine Lc0.to (((List.range w).map fun j => dotR y (R.map fun r => ent r j)).map frac) (by rw [List.length_map, List.length_map, List.length_range, rgL_len]) (by rw [rgL_len]; omega) (fun j d z hd hz => ?_) ?_
  · obtain ⟨hj, rfl⟩ := rgL_get hd
    rw [Int.zero_add]
    have ez : z = frac (dotR y (R.map fun r => ent r j)) := by
      rw [List.getElem?_map, List.getElem?_map, List.getElem?_range hj] at hz
      exact (Option.some.inj hz).symm
    refine ⟨_, rfl, ?_⟩
    refine e_call (d_law_dot M) lk ?_
    refine ea_cons ?_
    refine e_name (i := 1) rfl ?_
    refine ea_cons ?_
    refine EF.toE ?_
    refine ef_lc [("_law_row", 3)] [3] ?_ tg_name
    refine it_seq ?_
    refine e_name (i := 0) rfl ?_
    refine ⟨_, (by first | exact Or.inl rfl | exact Or.inr rfl), ?_⟩
    refine Lc0.to ((R.map fun r => ent r j).map frac) (by rw [List.length_map, List.length_map, List.length_map]) (by rw [List.length_map]; omega) (fun i d z hd hz => ?_) ?_
    · obtain ⟨r, hr, rfl⟩ := map_get hd
      obtain ⟨v, hv, rfl⟩ := map_get hz
      obtain ⟨r', hr', rfl⟩ := map_get hv
      rw [hr] at hr'
      cases hr'
      have hrw := hw r (List.mem_of_getElem? hr)
      refine ⟨_, rfl, ?_⟩
      refine e_ix ?_
      refine e_name (i := 3) rfl ?_
      refine e_name (i := 2) rfl ?_
      refine ⟨_, _, _, .inl rfl, rfl, at_map (getD_get (d := 0) (by omega)), ?_⟩
      exact rfl
    · refine ea_nil ?_
      refine ⟨y, R.map fun r => ent r j, b, a, _, _, rfl, .inl rfl, .inr rfl, hy, fun x hx => ?_, by omega, by rw [hyl]; exact hb, ?_⟩
      · obtain ⟨r, hr, rfl⟩ := List.mem_map.mp hx
        exact ent_sz (hs r hr) h1 j
      exact ez.symm
  · refine ⟨_, (by first | exact Or.inl rfl | exact Or.inr rfl), ?_⟩
    exact q
def F_law_levels (ds : List PyData) (Pp : PyData → Prop) : Prop := ∃ (t : Tr) (s u : Nat), ds = [t.D] ∧ t.Ok s u ∧ Pp (.int (lv t.blk))
theorem d_law_levels (M : Md T) : Ok T "_law_levels" ["_law_trial"] 41 (PureSp T.K F_law_levels) := by
  refine okP M (k := 40) (i := 71) (s := _root_.Hd.s_law_levels) (N := ["_law_trial"]) rfl rfl (by decide +kernel) (fun _ _ _ _ _ _ us hl => match us, hl with | [_], _ => rfl) (fun ds Pp h => by obtain ⟨_, _, _, rfl, _⟩ := h; rfl) ?_
  rintro ds Pp ⟨t, s, u, rfl, hk, q⟩
  refine ss_cons (s_ret ?_)
  refine e_ifexp ?_
  refine b_cmp c_ne ?_ rfl
  refine e_ix ?_
  refine e_name (i := 0) rfl ?_
  refine e_int ?_
  refine ⟨_, _, _, (by first | exact Or.inl rfl | exact Or.inr rfl), rfl, rfl, ?_⟩
  refine e_tup ?_
  refine ea_nil ?_
  refine ⟨lk, ?_⟩
  refine ⟨?_, ?_⟩
  · exact ⟨shaped_ints _, rfl⟩
  refine ⟨fun h => ?_, fun h => ?_⟩
  · refine e_add ?_
    refine e_maxL M.b_max ?_
    refine e_ix ?_
    refine e_name (i := 0) rfl ?_
    refine e_int ?_
    refine ⟨_, _, _, (by first | exact Or.inl rfl | exact Or.inr rfl), rfl, rfl, ?_⟩
    have hb : ∃ n ns, t.blk = n :: ns := by
      cases e : t.blk with
      | nil =>
        rw [e] at h
        cases h
      | cons n ns => exact ⟨n, ns, rfl⟩
    obtain ⟨n, ns, eb⟩ := hb
    refine ⟨n, ns, .inl (by rw [eb]; rfl), ?_⟩
    refine e_int ?_
    refine ⟨_, _, rfl, rfl, ?_⟩
    rw [eb] at q
    exact q
  · refine e_int ?_
    have hb : t.blk = [] := by
      cases e : t.blk with
      | nil => rfl
      | cons n ns =>
        rw [e] at h
        cases h
    rw [hb] at q
    exact q
def F_law_wide (ds : List PyData) (Pp : PyData → Prop) : Prop := ∃ (t : Tr) (s u : Nat), ds = [t.D] ∧ t.Ok s u ∧ Pp (.list ((wide t).map FT))
theorem d_law_wide (M : Md T) : Ok T "_law_wide" ["_law_trial"] 42 (PureSp T.K F_law_wide) := by
  refine okP M (k := 41) (i := 72) (s := _root_.Hd.s_law_wide) (N := ["_law_trial", "_law_rows_here", "_law_blocks_here", "_law_levels_here", "_law_at", "_law_level"]) rfl rfl (by decide +kernel) (fun _ _ _ _ _ _ us hl => match us, hl with | [_], _ => rfl) (fun ds Pp h => by obtain ⟨_, _, _, rfl, _⟩ := h; rfl) ?_
  rintro ds Pp ⟨t, s, u, rfl, hk, q⟩
  have hn := hk.n10
  have hu5 := hk.u5
  obtain ⟨v1, v2, v3⟩ := hk.lv
  refine ss_cons (s_unp (js := [1, 2, 3]) ?_ (tg_tup (tgs_cons tg_name (tgs_cons tg_name (tgs_cons tg_name tgs_nil)))) (hw := par3_none rfl))
  refine e_tup ?_
  refine ea_cons ?_
  refine e_ix ?_
  refine e_name (i := 0) rfl ?_
  refine e_int ?_
  refine ⟨_, _, _, (by first | exact Or.inl rfl | exact Or.inr rfl), rfl, rfl, ?_⟩
  refine ea_cons ?_
  refine e_ix ?_
  refine e_name (i := 0) rfl ?_
  refine e_int ?_
  refine ⟨_, _, _, (by first | exact Or.inl rfl | exact Or.inr rfl), rfl, rfl, ?_⟩
  refine ea_cons ?_
  refine e_call (d_law_levels M) lk ?_
  refine ea_cons ?_
  refine e_name (i := 0) rfl ?_
  refine ea_nil ?_
  refine ⟨t, s, u, rfl, hk, ?_⟩
  refine ea_nil ?_
  refine ⟨lk, ?_⟩
  refine ⟨_, rfl, ?_⟩
  refine ss_cons (s_ret ?_)
  refine EF.toE ?_
  refine ef_lc [("_law_at", 4)] [4] ?_ tg_name
  refine it_range1 M.b_range ?_
  refine e_len M.b_len ?_
  refine e_name (i := 1) rfl ?_
  refine ⟨_, (by first | exact Or.inl rfl | exact Or.inr rfl), ?_⟩
  rw [List.length_map]
  refine ⟨_, rfl, by omega, by omega, ?_⟩
  rw [Int.toNat_natCast]
  refine Lc0.to ((wide t).map FT) (by rw [List.length_map, wide_len, rgL_len]) (by rw [rgL_len]; omega) (fun i d z hd hz => ?_) ?_
  · obtain ⟨hi, rfl⟩ := rgL_get hd
    rw [Int.zero_add]
    have hr := rowAt_get hi
    have hru := hk.wd _ (rowAt_mem hi)
    have ez : z = FT (rowAt t.rows i ++ lvRow t.blk i) := by
      rw [List.getElem?_map, wide_get hr] at hz
      exact (Option.some.inj hz).symm
    refine ⟨_, rfl, ?_⟩
    refine e_catT ?_
    refine e_tuple M.b_tuple ?_
    refine e_ix ?_
    refine e_name (i := 1) rfl ?_
    refine e_name (i := 4) rfl ?_
    refine ⟨_, _, _, .inl rfl, rfl, at_map hr, ?_⟩
    refine ⟨_, (by first | exact Or.inl rfl | exact Or.inr rfl), ?_⟩
    refine e_tuple M.b_tuple ?_
    refine EF.toE ?_
    refine ef_lc [("_law_level", 5)] [5] ?_ tg_name
    refine it_range1 M.b_range ?_
    refine e_name (i := 3) rfl ?_
    refine ⟨_, rfl, by omega, by omega, ?_⟩
    refine Lc0.to ((lvRow t.blk i).map frac) (by rw [List.length_map, lvRow_len, rgL_len]) (by rw [rgL_len]; omega) (fun l d z hd hz => ?_) ?_
    · obtain ⟨hl, rfl⟩ := rgL_get hd
      obtain ⟨y, hy, rfl⟩ := map_get hz
      obtain ⟨l', hl', rfl⟩ := map_get hy
      have el : l' = l := by
        have := get_lt hl'
        rw [List.length_range] at this
        rw [List.getElem?_range this] at hl'
        exact (Option.some.inj hl').symm
      subst el
      have hb : t.blk.length = t.rows.length := hk.bl.elim (fun z => by rw [z] at hl; exact absurd hl (by simp [lv])) fun z => z.1
      obtain ⟨b, eb⟩ : ∃ b, t.blk[i]? = some b := ⟨_, List.getElem?_eq_getElem (by omega)⟩
      refine ⟨_, rfl, ?_⟩
      refine e_ifexp ?_
      refine b_cmp c_eq ?_ rfl
      refine e_ix ?_
      refine e_name (i := 2) rfl ?_
      refine e_name (i := 4) rfl ?_
      refine ⟨_, _, _, .inl rfl, rfl, at_map eb, ?_⟩
      refine e_name (i := 5) rfl ?_
      refine ⟨?_, ?_⟩
      · exact ⟨rfl, rfl⟩
      refine ⟨fun hbl => ?_, fun hbl => ?_⟩
      · refine e_tup ?_
        refine ea_cons ?_
        refine e_int ?_
        refine ea_cons ?_
        refine e_int ?_
        refine ea_nil ?_
        refine ⟨lk, ?_⟩
        have e : b = 0 + ((l' : Nat) : Int) := of_decide_eq_true hbl
        rw [if_pos (by rw [eb, e, Int.zero_add])]
        rfl
      · refine e_tup ?_
        refine ea_cons ?_
        refine e_int ?_
        refine ea_cons ?_
        refine e_int ?_
        refine ea_nil ?_
        refine ⟨lk, ?_⟩
        have e : ¬ b = 0 + ((l' : Nat) : Int) := of_decide_eq_false hbl
        rw [if_neg (by rw [eb]; intro z; exact e (by rw [Option.some.inj z, Int.zero_add]))]
        rfl
    · refine ⟨_, (by first | exact Or.inl rfl | exact Or.inr rfl), ?_⟩
      refine ⟨_, _, rfl, rfl, ?_, ?_⟩
      · rw [List.length_map, List.length_map, lvRow_len]
        omega
      rw [ez]
      unfold FT
      rw [List.map_append]
  · exact q
end Pd

/-! text Qj -/
set_option Elab.async false
set_option linter.all false
set_option maxRecDepth 100000
set_option maxHeartbeats 4000000
namespace Pd
open PySem PySem.Spec PyProof.Rows L2 C8
variable {T : Th}
def F_law_balanced (ds : List PyData) (Pp : PyData → Prop) : Prop := ∃ (t : Tr) (s u : Nat), ds = [t.D] ∧ t.Ok s u ∧ ∀ y : List Rat, y.length = t.rows.length → AllS 40 y → (∀ j, j < t.blk.length → bsum t.blk t.rows.length y (bAt t.blk j) = 0) → Pp (FT y)
theorem d_law_balanced (M : Md T) : Ok T "_law_balanced" ["_law_well_here", "_law_trial"] 44 (WellSp T.K F_law_balanced) := by
  refine okW M (k := 43) (i := 70) (s := _root_.Hd.s_law_balanced) (N := ["_law_well_here", "_law_trial", "_law_many", "_law_blocks_here", "_law_told", "_law_at", "_law_same", "_law_to"]) rfl rfl (by decide +kernel) (fun _ _ _ _ _ _ us hl => match us, hl with | [_, _], _ => rfl) (fun ds Pp h => by obtain ⟨_, _, _, rfl, _⟩ := h; rfl) ?_
  rintro ds Pp ⟨t, s, u, rfl, hk, q⟩
  have hn := hk.n10
  have hbl := hk.bl
  refine ss_cons (s_parC (i := 2) (j := 3) (E.ev ?_) (hw := par_none rfl))
  refine e_len M.b_len ?_
  refine e_ix ?_
  refine e_name (i := 1) rfl ?_
  refine e_int ?_
  refine ⟨_, _, _, (by first | exact Or.inl rfl | exact Or.inr rfl), rfl, rfl, ?_⟩
  refine ⟨_, (by first | exact Or.inl rfl | exact Or.inr rfl), ?_⟩
  refine E.ev ?_
  refine e_ix ?_
  refine e_name (i := 1) rfl ?_
  refine e_int ?_
  refine ⟨_, _, _, (by first | exact Or.inl rfl | exact Or.inr rfl), rfl, rfl, ?_⟩
  rw [List.length_map]
  refine ss_cons (s_set (i := 4) (hs := sw_cell rfl) (EF.ev ?_))
  refine ef_lc [("_law_at", 5)] [5] ?_ tg_name
  refine it_range1 M.b_range ?_
  refine e_name (i := 2) rfl ?_
  refine ⟨_, rfl, by omega, by omega, ?_⟩
  rw [Int.toNat_natCast]
  refine Lc0.all (fun y => ∃ q : Rat, Sz 2 q ∧ y = frac q) (by rw [rgL_len]; omega) (fun j d hd => ?_) fun ys hyl hys => ?_
  · obtain ⟨hj, rfl⟩ := rgL_get hd
    refine ⟨_, rfl, ?_⟩
    refine e_callW (i := 0) (d_law_one M) lk rfl ?_
    refine ea_cons ?_
    refine e_tup ?_
    refine ea_cons ?_
    refine e_tup ?_
    refine ea_cons ?_
    refine e_int ?_
    refine ea_cons ?_
    refine e_int ?_
    refine ea_nil ?_
    refine ⟨lk, ?_⟩
    refine ea_cons ?_
    refine e_tup ?_
    refine ea_cons ?_
    refine e_int ?_
    refine ea_cons ?_
    refine e_int ?_
    refine ea_nil ?_
    refine ⟨lk, ?_⟩
    refine ea_cons ?_
    refine e_tup ?_
    refine ea_cons ?_
    refine e_neg ?_
    refine e_int ?_
    refine ⟨_, rfl, ?_⟩
    refine ea_cons ?_
    refine e_int ?_
    refine ea_nil ?_
    refine ⟨lk, ?_⟩
    refine ea_cons ?_
    refine e_tup ?_
    refine ea_cons ?_
    refine e_int ?_
    refine ea_cons ?_
    refine e_int ?_
    refine ea_nil ?_
    refine ⟨lk, ?_⟩
    refine ea_cons ?_
    refine e_tup ?_
    refine ea_cons ?_
    refine e_int ?_
    refine ea_cons ?_
    refine e_int ?_
    refine ea_nil ?_
    refine ⟨lk, ?_⟩
    refine ea_cons ?_
    refine e_tup ?_
    refine ea_cons ?_
    refine e_int ?_
    refine ea_cons ?_
    refine e_int ?_
    refine ea_nil ?_
    refine ⟨lk, ?_⟩
    refine ea_cons ?_
    refine e_tup ?_
    refine ea_cons ?_
    refine e_int ?_
    refine ea_cons ?_
    refine e_int ?_
    refine ea_nil ?_
    refine ⟨lk, ?_⟩
    refine ea_nil ?_
    refine ⟨lk, ?_⟩
    refine ea_nil ?_
    refine ⟨_, _, rfl, .inl rfl, by simp, lk, fun x hx => ?_⟩
    obtain ⟨p, rfl, hp⟩ : ∃ p : Rat, x = frac p ∧ Sz 2 p := by
      simp only [List.mem_cons, List.mem_nil_iff, or_false] at hx
      rcases hx with rfl | rfl | rfl | rfl | rfl | rfl | rfl
      · exact ⟨0, rfl, by decide, by decide⟩
      · exact ⟨1, rfl, by decide, by decide⟩
      · exact ⟨-1, rfl, by decide, by decide⟩
      · exact ⟨1, rfl, by decide, by decide⟩
      · exact ⟨half, rfl, half_sz⟩
      · exact ⟨2, rfl, by decide, by decide⟩
      · exact ⟨0, rfl, by decide, by decide⟩
    exact ⟨p, hp, rfl⟩
  · obtain ⟨y0, hy1, hy2, rfl⟩ := list_frac hys
    rw [hyl, rgL_len] at hy1
    refine ss_cons (s_for [5] ?_ tg_name)
    refine it_range1 M.b_range ?_
    refine e_len M.b_len ?_
    refine e_name (i := 3) rfl ?_
    refine ⟨_, (by first | exact Or.inl rfl | exact Or.inr rfl), ?_⟩
    rw [List.length_map]
    refine ⟨_, rfl, ?_, by omega, ?_⟩
    · rcases hbl with z | z
      · rw [z]
        decide
      · omega
    rw [Int.toNat_natCast]
    refine ⟨fun i δ' => ∃ y : List Rat, Bal t.blk t.rows.length i y ∧ δ' = [.well, .sh t.D, .sh (natI t.rows.length), .sh (NT t.blk), .own (y.map frac), .any, .any, .any], ⟨y0, .start hy1 hy2, rfl⟩, fun i d δ' hd hI => ?_, fun δ' hI => ?_⟩
    · obtain ⟨y, hy, rfl⟩ := hI
      obtain ⟨hi, rfl⟩ := rgL_get hd
      rw [Int.zero_add]
      have hbn : t.blk.length = t.rows.length := hbl.elim (fun z => by rw [z] at hi; exact absurd hi (Nat.not_lt_zero i)) fun z => z.1
      have hin : i < t.rows.length := by omega
      obtain ⟨l, z, hs⟩ := same_split (bs := t.blk) hin
      obtain ⟨z1, z2, z3, z4⟩ := same_last hs
      have hsl := same_len (bs := t.blk) (n := t.rows.length) (i := i)
      refine ⟨_, rfl, rfl, ?_⟩
      refine ss_cons (s_lcIf (i := 6) [("_law_to", 7)] [7] ?_ tg_name)
      refine it_range1 M.b_range ?_
      refine e_name (i := 2) rfl ?_
      refine ⟨_, rfl, by omega, by omega, ?_⟩
      rw [Int.toNat_natCast]
      refine Lc1.on (fun k => decide (bAt t.blk k = bAt t.blk i)) (fun k : Nat => PyData.int (0 + ((k : Nat) : Int))) (by rw [List.length_range]; omega) (fun k hk' => ?_) ?_
      · have hkn := List.mem_range.mp hk'
        refine ⟨_, rfl, ?_, fun hp => ?_⟩
        · refine b_cmp c_eq ?_ rfl
          refine e_ix ?_
          refine e_name (i := 3) rfl ?_
          refine e_name (i := 7) rfl ?_
          rw [Int.zero_add]
          refine ⟨_, _, _, .inl rfl, rfl, at_map (getD_get (d := 0) (by omega)), ?_⟩
          refine e_ix ?_
          refine e_name (i := 3) rfl ?_
          refine e_name (i := 5) rfl ?_
          refine ⟨_, _, _, .inl rfl, rfl, at_map (getD_get (d := 0) (by omega)), ?_⟩
          refine ⟨?_, ?_⟩
          · exact ⟨rfl, rfl⟩
          exact eqv_int _ _
        · refine e_name (i := 7) rfl ?_
          exact rfl
      · have esm : ((List.range t.rows.length).filter fun k => decide (bAt t.blk k = bAt t.blk i)).map (fun k : Nat => PyData.int (0 + ((k : Nat) : Int))) = l.map natI ++ [natI z] := by
          have e : (same t.blk t.rows.length i).map natI = l.map natI ++ [natI z] := by
            rw [hs, List.map_append]
            rfl
          rw [← e]
          refine List.map_congr_left fun k _ => ?_
          rw [Int.zero_add]
          rfl
        rw [esm]
        refine ss_freeze (i := 6) rfl ?_
        refine ss_cons (s_if ?_)
        refine b_cmp c_eq ?_ rfl
        refine e_name (i := 5) rfl ?_
        refine e_ix ?_
        refine e_name (i := 6) rfl ?_
        refine e_neg ?_
        refine e_int ?_
        refine ⟨_, rfl, ?_⟩
        refine ⟨_, _, _, .inr rfl, rfl, at_last, ?_⟩
        refine ⟨?_, ?_⟩
        · exact ⟨rfl, rfl⟩
        refine ⟨fun h1 => ?_, fun h1 => ?_⟩
        · refine ss_cons (s_sub (i := 4) rfl ?_)
          refine e_call (d_law_minus M) lk ?_
          refine ea_cons ?_
          refine e_tup ?_
          refine ea_cons ?_
          refine e_int ?_
          refine ea_cons ?_
          refine e_int ?_
          refine ea_nil ?_
          refine ⟨lk, ?_⟩
          refine ea_cons ?_
          refine e_call (d_law_sum M) lk ?_
          refine ea_cons ?_
          refine EF.toE ?_
          refine ef_lc [("_law_to", 7)] [7] ?_ tg_name
          refine it_seq ?_
          refine EF.toE ?_
          refine ef_slice ?_
          refine e_name (i := 6) rfl ?_
          refine eo_none ?_
          refine eo_some ?_
          refine e_neg ?_
          refine e_int ?_
          refine ⟨_, rfl, ?_⟩
          refine ⟨_, rfl, ?_⟩
          refine ⟨_, rfl, ?_⟩
          refine ⟨_, (by first | exact Or.inl rfl | exact Or.inr rfl), ?_⟩
          have e : ((i : Nat) : Int) = ((z : Nat) : Int) := of_decide_eq_true h1
          obtain rfl : i = z := by omega
          have hll : l.length ≤ t.rows.length := by
            rw [hs, List.length_append] at hsl
            omega
          rw [cutD_init _ (by rw [List.length_append]; exact Nat.le_add_left 1 _), List.dropLast_concat]
          refine Lc0.to ((l.map (ent y)).map frac) (by rw [List.length_map, List.length_map, List.length_map]) (by rw [List.length_map]; omega) (fun j d z hd hz => ?_) ?_
          · obtain ⟨k, hkk, rfl⟩ := map_get hd
            obtain ⟨v, hv, rfl⟩ := map_get hz
            obtain ⟨k', hk', rfl⟩ := map_get hv
            rw [hkk] at hk'
            cases hk'
            have hki := (z4 k (List.mem_of_getElem? hkk)).1
            have hyl := hy.len
            refine ⟨_, rfl, ?_⟩
            refine e_view (i := 4) (ds := _) rfl ?_
            refine e_ix ?_
            refine e_name (i := 4) rfl ?_
            refine e_name (i := 7) rfl ?_
            refine ⟨_, _, _, .inr rfl, rfl, at_map (getD_get (d := 0) (by omega)), ?_⟩
            refine ⟨?_, ?_⟩
            · exact av_frac _
            exact rfl
          · refine ea_nil ?_
            have hs2 := hy.sumSz hn hs
            refine ⟨l.map (ent y), 2, rfl, hs2, by rw [List.length_map]; omega, ?_⟩
            refine ea_nil ?_
            refine ⟨0, _, 1, _, rfl, Sz.zero (by omega), Sz.sumL hs2, by rw [List.length_map]; omega, ?_⟩
            refine e_name (i := 5) rfl ?_
            refine ⟨_, _, rfl, ixN_nat (by rw [List.length_map, hy.len]; omega), ?_⟩
            refine ss_nil ?_
            refine ss_drop (i := 5) rfl ?_
            refine ss_drop (i := 6) rfl ?_
            refine ss_nil ?_
            refine ⟨_, hy.put hn hs, ?_⟩
            rw [List.map_set]
            rfl
        · refine ss_nil ?_
          refine ss_drop (i := 5) rfl ?_
          refine ss_drop (i := 6) rfl ?_
          refine ss_nil ?_
          have e : ¬ ((i : Nat) : Int) = ((z : Nat) : Int) := of_decide_eq_false h1
          refine ⟨y, hy.skip fun hl => ?_, rfl⟩
          rcases Nat.lt_trichotomy i z with h | h | h
          · exact hl z h z2 z3
          · omega
          · exact z1 i h hin z3.symm
    · obtain ⟨y, hy, rfl⟩ := hI
      rw [rgL_len] at hy
      refine ss_cons (s_ret ?_)
      refine e_view (i := 4) (ds := _) rfl ?_
      refine e_tuple M.b_tuple ?_
      refine e_name (i := 4) rfl ?_
      refine ⟨_, (by first | exact Or.inl rfl | exact Or.inr rfl), ?_⟩
      refine ⟨?_, ?_⟩
      · exact av_FT _
      refine q y hy.len hy.sz fun j hj => ?_
      have hbn : t.blk.length = t.rows.length := hbl.elim (fun z => by rw [z] at hj; exact absurd hj (Nat.not_lt_zero j)) fun z => z.1
      rw [hbn] at hy hj
      exact hy.done j hj
end Pd

/-! text Qk -/
set_option Elab.async false
set_option linter.all false
set_option maxRecDepth 100000
set_option maxHeartbeats 4000000
namespace Pd
open PySem PySem.Spec PyProof.Rows L2 C8
variable {T : Th}
def F_law_lessened (ds : List PyData) (Pp : PyData → Prop) : Prop := ∃ (lines : List (Nat × List Rat)) (row : List Rat) (w s : Nat), ds = [.list (lines.map LN), FT row] ∧ (∀ p ∈ lines, p.2.length = w ∧ p.1 < w) ∧ row.length = w ∧ w ≤ 100 ∧ lines.length ≤ 100 ∧ LinesS s lines ∧ AllS s row ∧ 1 ≤ s ∧ gz s lines.length ≤ 33554432 ∧ Pp (FL (lessF lines row))
theorem d_law_lessened (M : Md T) : Ok T "_law_lessened" ["_law_lines", "_law_row"] 43 (PureSp T.K F_law_lessened) := by
  refine okP M (k := 42) (i := 73) (s := _root_.Hd.s_law_lessened) (N := ["_law_lines", "_law_row", "_law_rest", "_law_spot", "_law_line", "_law_part", "_law_x", "_law_y"]) rfl rfl (by decide +kernel) (fun _ _ _ _ _ _ us hl => match us, hl with | [_, _], _ => rfl) (fun ds Pp h => by obtain ⟨_, _, _, _, rfl, _⟩ := h; rfl) ?_
  rintro ds Pp ⟨lines, row, w, s, rfl, hw, hr, hw1, hl1, hls, hrs, h1, hb, q⟩
  refine ss_cons (s_set (i := 2) (E.ev <| EF.toE ?_))
  refine ef_list M.b_list ?_
  refine e_name (i := 1) rfl ?_
  refine ⟨_, (by first | exact Or.inl rfl | exact Or.inr rfl), ?_⟩
  refine ss_cons (s_for [3, 4] ?_ (tg_tup (tgs_cons tg_name (tgs_cons tg_name tgs_nil))))
  refine it_seq ?_
  refine e_name (i := 0) rfl ?_
  refine ⟨_, (by first | exact Or.inl rfl | exact Or.inr rfl), ?_⟩
  refine ⟨fun i δ' => δ' = [.sh (.list (lines.map LN)), .sh (FT row), .sh (FL (lessF (lines.take i) row)), .any, .any, .any, .any, .any], rfl, fun i d δ' hd hI => ?_, fun δ' hI => ?_⟩
  · subst hI
    obtain ⟨p, hp, rfl⟩ := map_get hd
    have hi := get_lt hp
    obtain ⟨hpw, hpc⟩ := hw p (List.mem_of_getElem? hp)
    have hrl : (lessF (lines.take i) row).length = w := lessF_w (fun q hq => (hw q (take_mem hq)).1) hr
    have hsz := lessF_sz h1 (hls.take i) hrs
    rw [List.length_take, Nat.min_eq_left (Nat.le_of_lt hi)] at hsz
    have hgz : gz s i ≤ gz s lines.length := gz_mono (Nat.le_of_lt hi)
    have hgz' : gz s (i + 1) ≤ gz s lines.length := gz_mono hi
    have hgs : gz s (i + 1) = 4 * gz s i + 1 := rfl
    have hps := hls i p hp
    refine ⟨_, rfl, rfl, ?_⟩
    refine ss_cons (s_set (i := 5) (E.ev ?_))
    refine e_ix ?_
    refine e_name (i := 2) rfl ?_
    refine e_name (i := 3) rfl ?_
    refine ⟨_, _, _, .inr rfl, rfl, at_map (getD_get (d := 0) (p := p.1) (by omega)), ?_⟩
    refine ss_cons (s_if ?_)
    refine b_cmp c_ne ?_ rfl
    refine e_ix ?_
    refine e_name (i := 5) rfl ?_
    refine e_int ?_
    refine ⟨_, _, _, (by first | exact Or.inl rfl | exact Or.inr rfl), rfl, rfl, ?_⟩
    refine e_int ?_
    refine ⟨?_, ?_⟩
    · exact ⟨rfl, rfl⟩
    refine ⟨fun e0 => ?_, fun e0 => ?_⟩
    · refine ss_cons (s_lc (i := 2) [("_law_x", 6), ("_law_y", 7)] [6, 7] ?_ (tg_tup (tgs_cons tg_name (tgs_cons tg_name tgs_nil))))
      refine it_zip M.b_zip ?_
      refine e_name (i := 2) rfl ?_
      refine e_name (i := 4) rfl ?_
      refine ⟨_, _, (by first | exact Or.inl rfl | exact Or.inr rfl), (by first | exact Or.inl rfl | exact Or.inr rfl), ?_⟩
      rw [eqv_num0] at e0
      have e := of_decide_eq_true e0
      refine Lc0.to ((lessF (lines.take (i + 1)) row).map frac) (by rw [zipD_len, List.length_map, List.length_map, List.length_map, hrl, hpw, lessF_w (w := w) (fun q hq => (hw q (take_mem hq)).1) hr, Nat.min_self]) (by rw [zipD_len, List.length_map, hrl]; omega) (fun j d z hd hz => ?_) ?_
      · obtain ⟨x, y, hx, hy, rfl⟩ := zip_get hd
        have ez : z = frac (x - ent (lessF (lines.take i) row) p.1 * y) := by
          rw [take_snoc hp, lessF_snoc, List.getElem?_map] at hz
          unfold withoutCol at hz
          rw [if_neg e, List.getElem?_zipWith, hx, hy] at hz
          exact (Option.some.inj hz).symm
        have hg1 : 1 ≤ gz s i := Nat.le_trans h1 (gz_le i)
        refine ⟨_, rfl, ?_⟩
        refine e_call (d_law_minus M) lk ?_
        refine ea_cons ?_
        refine e_name (i := 6) rfl ?_
        refine ea_cons ?_
        refine e_call (d_law_times M) lk ?_
        refine ea_cons ?_
        refine e_name (i := 5) rfl ?_
        refine ea_cons ?_
        refine e_name (i := 7) rfl ?_
        refine ea_nil ?_
        refine ⟨_, y, gz s i, 2 * gz s i, rfl, ent_sz hsz hg1 _, hps.at hy, by omega, ?_⟩
        refine ea_nil ?_
        refine ⟨x, _, gz s i, gz s i + 2 * gz s i, rfl, hsz.at hx, (ent_sz hsz hg1 _).mul (hps.at hy), by omega, ?_⟩
        exact ez.symm
      · refine ss_freeze (i := 2) rfl ?_
        refine ss_nil ?_
        refine ss_drop (i := 3) rfl ?_
        refine ss_drop (i := 4) rfl ?_
        refine ss_drop (i := 5) rfl ?_
        refine ss_nil ?_
        rfl
    · refine ss_nil ?_
      refine ss_drop (i := 3) rfl ?_
      refine ss_drop (i := 4) rfl ?_
      refine ss_drop (i := 5) rfl ?_
      refine ss_nil ?_
      rw [eqv_num0] at e0
      have e : ent (lessF (lines.take i) row) p.1 = 0 := Classical.byContradiction (of_decide_eq_false e0)
      have e2 : lessF (lines.take (i + 1)) row = lessF (lines.take i) row := by
        rw [take_snoc hp, lessF_snoc]
        unfold withoutCol
        rw [if_pos e]
      show (_ : List SD) = [.sh (.list (lines.map LN)), .sh (FT row), .sh (FL (lessF (lines.take (i + 1)) row)), .any, .any, .any, .any, .any]
      exact Eq.trans (b := [.sh (.list (lines.map LN)), .sh (FT row), .sh (FL (lessF (lines.take i) row)), .any, .any, .any, .any, .any]) rfl (by rw [e2])
  · subst hI
    refine ss_cons (s_ret ?_)
    refine e_name (i := 2) rfl ?_
    rw [List.length_map, List.take_length]
    exact q
def F_law_is_sum (ds : List PyData) (Pp : PyData → Prop) : Prop := ∃ (rows : List (List Rat)) (row : List Rat) (w s K : Nat), ds = [.list (rows.map FT), FT row] ∧ (∀ r ∈ rows, r.length = w) ∧ row.length = w ∧ 1 ≤ w ∧ w ≤ 100 ∧ rows.length ≤ 100 ∧ TabS s rows ∧ AllS s row ∧ 1 ≤ s ∧ (rows.length ≤ K ∨ w ≤ K) ∧ gz s K ≤ 33554432 ∧ Pp (.bool (sumB w rows row))
theorem d_law_is_sum (M : Md T) : Ok T "_law_is_sum" ["_law_rows_here", "_law_row"] 44 (PureSp T.K F_law_is_sum) := by
  refine okP M (k := 43) (i := 74) (s := _root_.Hd.s_law_is_sum) (N := ["_law_rows_here", "_law_row", "_law_lines", "_law_one_here", "_law_rest", "_law_spots", "_law_at", "_law_x"]) rfl rfl (by decide +kernel) (fun _ _ _ _ _ _ us hl => match us, hl with | [_, _], _ => rfl) (fun ds Pp h => by obtain ⟨_, _, _, _, _, rfl, _⟩ := h; rfl) ?_
  rintro ds Pp ⟨rows, row, w, s, K, rfl, hw, hr, hw1, hw100, hl, hs, hrs, h1, hK, hb, q⟩
  refine ss_cons (s_set (i := 2) (EF.ev ?_))
  refine ef_lst ?_
  refine ea_nil ?_
  refine ⟨lk, ?_⟩
  refine ss_cons (s_for [3] ?_ tg_name)
  refine it_seq ?_
  refine e_name (i := 0) rfl ?_
  refine ⟨_, (by first | exact Or.inl rfl | exact Or.inr rfl), ?_⟩
  refine ⟨fun i δ' => δ' = [.sh (.list (rows.map FT)), .sh (FT row), .own ((linesOf (rows.take i)).map LN), .any, .any, .any, .any, .any], rfl, fun i d δ' hd hI => ?_, fun δ' hI => ?_⟩
  · subst hI
    obtain ⟨r, hrg, rfl⟩ := map_get hd
    have hi := get_lt hrg
    have hrm := List.mem_of_getElem? hrg
    have hrw := hw r hrm
    obtain ⟨ht, hls, hlK, hlg, hll⟩ := lines_facts (fun r hr => hw r (take_mem hr)) (fun r hr => hs r (take_mem (i := i) hr)) h1 (K := K) (by rw [List.length_take]; omega)
    have e1 : linesOf (rows.take (i + 1)) = lineStep (linesOf (rows.take i)) r := by rw [take_snoc hrg, linesOf_snoc]
    rw [List.length_take] at hll
    have hfl := lessF_len ht hrw
    have hfs := lessF_sz h1 hls (hs r hrm)
    have hg1 := Nat.le_trans h1 (gz_le (s := s) (linesOf (rows.take i)).length)
    refine ⟨_, rfl, rfl, ?_⟩
    refine ss_cons (s_set (i := 4) (E.ev ?_))
    refine e_view (i := 2) (ds := _) rfl ?_
    refine e_call (d_law_lessened M) lk ?_
    refine ea_cons ?_
    refine e_name (i := 2) rfl ?_
    refine ea_cons ?_
    refine e_name (i := 3) rfl ?_
    refine ea_nil ?_
    refine ⟨_, r, w, s, rfl, fun p hp => ⟨ht.wd p hp, ht.sp p hp⟩, hrw, hw100, by omega, hls, hs r hrm, h1, by omega, ?_⟩
    refine ⟨?_, ?_⟩
    · exact av_LN (by omega)
    refine ss_cons (s_set (i := 5) (hs := sw_cell rfl) (E.ev <| EF.toE ?_))
    refine ef_lcIf [("_law_at", 6)] [6] ?_ tg_name
    refine it_range1 M.b_range ?_
    refine e_len M.b_len ?_
    refine e_name (i := 4) rfl ?_
    refine ⟨_, (by first | exact Or.inl rfl | exact Or.inr rfl), ?_⟩
    obtain ⟨R, hR⟩ : ∃ R, lessF (linesOf (rows.take i)) r = R := ⟨_, rfl⟩
    rw [hR] at hfl hfs ⊢
    rw [List.length_map, hfl]
    refine ⟨_, rfl, by omega, by omega, ?_⟩
    rw [Int.toNat_natCast]
    refine Lc1.on (fun j => decide (ent R j ≠ 0)) (fun j : Nat => PyData.int (0 + ((j : Nat) : Int))) (by rw [List.length_range]; omega) (fun j hj => ?_) ?_
    · have hj' := List.mem_range.mp hj
      refine ⟨_, rfl, ?_, fun hp => ?_⟩
      · refine b_cmp c_ne ?_ rfl
        refine e_ix ?_
        refine e_ix ?_
        refine e_name (i := 4) rfl ?_
        refine e_name (i := 6) rfl ?_
        rw [Int.zero_add]
        refine ⟨_, _, _, .inr rfl, rfl, at_map (getD_get (d := 0) (by omega)), ?_⟩
        refine e_int ?_
        refine ⟨_, _, _, (by first | exact Or.inl rfl | exact Or.inr rfl), rfl, rfl, ?_⟩
        refine e_int ?_
        refine ⟨?_, ?_⟩
        · exact ⟨rfl, rfl⟩
        exact eqv_num0 _
      · refine e_name (i := 6) rfl ?_
        exact rfl
    · have esp : ((List.range w).filter fun j => decide (ent R j ≠ 0)).map (fun j : Nat => PyData.int (0 + ((j : Nat) : Int))) = (((List.range R.length).filter fun j => decide (ent R j ≠ 0))).map natI := by
        rw [hfl]
        refine List.map_congr_left fun k _ => ?_
        rw [Int.zero_add]
        rfl
      rw [esp]
      refine ss_cons (s_if ?_)
      refine b_cmp c_ne ?_ rfl
      refine e_name (i := 5) rfl ?_
      refine EF.toE ?_
      refine ef_lst ?_
      refine ea_nil ?_
      refine ⟨lk, ?_⟩
      refine ⟨?_, ?_⟩
      · exact ⟨shaped_natI _, rfl⟩
      refine ⟨fun e0 => ?_, fun e0 => ?_⟩
      · refine ss_cons (s_append (i := 2) rfl ?_)
        refine e_tup ?_
        refine ea_cons ?_
        refine e_ix ?_
        refine e_name (i := 5) rfl ?_
        refine e_int ?_
        refine ⟨_, _, _, (by first | exact Or.inl rfl | exact Or.inr rfl), rfl, spots_at e0, ?_⟩
        refine ea_cons ?_
        refine EF.toE ?_
        refine ef_lc [("_law_x", 7)] [7] ?_ tg_name
        refine it_seq ?_
        refine e_name (i := 4) rfl ?_
        refine ⟨_, (by first | exact Or.inl rfl | exact Or.inr rfl), ?_⟩
        have ef := spots_some e0
        obtain ⟨q1, q2⟩ := firstOf_some ef
        have est : lineStep (linesOf (rows.take i)) r = linesOf (rows.take i) ++ [(spotR R, leadOf R (spotR R))] := by
          unfold lineStep
          rw [hR, ef]
        refine Lc0.to ((leadOf R (spotR R)).map frac) (by unfold leadOf; rw [List.length_map, List.length_map, List.length_map]) (by rw [List.length_map]; omega) (fun j d z hd hz => ?_) ?_
        · obtain ⟨x, hx, rfl⟩ := map_get hd
          obtain ⟨y, hy, rfl⟩ := map_get hz
          have ey : y = x / ent R (spotR R) := by
            unfold leadOf at hy
            rw [List.getElem?_map, hx] at hy
            exact (Option.some.inj hy).symm
          refine ⟨_, rfl, ?_⟩
          refine e_call (d_law_over M) lk ?_
          refine ea_cons ?_
          refine e_name (i := 7) rfl ?_
          refine ea_cons ?_
          refine e_ix ?_
          refine e_name (i := 4) rfl ?_
          refine e_ix ?_
          refine e_name (i := 5) rfl ?_
          refine e_int ?_
          refine ⟨_, _, _, (by first | exact Or.inl rfl | exact Or.inr rfl), rfl, spots_at e0, ?_⟩
          refine ⟨_, _, _, .inr rfl, rfl, at_map (getD_get (d := 0) q1), ?_⟩
          refine ea_nil ?_
          refine ⟨x, ent R (spotR R), gz s (linesOf (rows.take i)).length, gz s (linesOf (rows.take i)).length, rfl, hfs.at hx, ent_sz hfs hg1 _, by omega, q2, ?_⟩
          rw [ey]
        · refine ea_nil ?_
          refine ⟨lk, ?_⟩
          refine ⟨?_, ?_⟩
          · rw [List.length_map]
            omega
          refine ss_nil ?_
          refine ss_drop (i := 3) rfl ?_
          refine ss_drop (i := 4) rfl ?_
          refine ss_drop (i := 5) rfl ?_
          refine ss_nil ?_
          show (_ : List SD) = [.sh (.list (rows.map FT)), .sh (FT row), .own ((linesOf (rows.take (i + 1))).map LN), .any, .any, .any, .any, .any]
          exact Eq.trans (b := [.sh (.list (rows.map FT)), .sh (FT row), .own ((linesOf (rows.take i) ++ [(spotR R, leadOf R (spotR R))]).map LN), .any, .any, .any, .any, .any]) (by rw [List.map_append]; rfl) (by rw [e1, est])
      · refine ss_nil ?_
        refine ss_drop (i := 3) rfl ?_
        refine ss_drop (i := 4) rfl ?_
        refine ss_drop (i := 5) rfl ?_
        refine ss_nil ?_
        have est : lineStep (linesOf (rows.take i)) r = linesOf (rows.take i) := by
          unfold lineStep
          rw [hR, spots_none e0]
        show (_ : List SD) = [.sh (.list (rows.map FT)), .sh (FT row), .own ((linesOf (rows.take (i + 1))).map LN), .any, .any, .any, .any, .any]
        exact Eq.trans (b := [.sh (.list (rows.map FT)), .sh (FT row), .own ((linesOf (rows.take i)).map LN), .any, .any, .any, .any, .any]) rfl (by rw [e1, est])
  · subst hI
    rw [List.length_map, List.take_length]
    obtain ⟨ht, hls, hlK, hlg, hll⟩ := lines_facts hw hs h1 hK
    have hfl := lessF_len ht hr
    refine ss_freeze (i := 2) rfl ?_
    refine ss_cons (s_ret ?_)
    refine e_all M.b_all ?_
    refine EF.toE ?_
    refine ef_lc [("_law_x", 7)] [7] ?_ tg_name
    refine it_seq ?_
    refine e_call (d_law_lessened M) lk ?_
    refine ea_cons ?_
    refine e_name (i := 2) rfl ?_
    refine ea_cons ?_
    refine e_name (i := 1) rfl ?_
    refine ea_nil ?_
    refine ⟨_, row, w, s, rfl, fun p hp => ⟨ht.wd p hp, ht.sp p hp⟩, hr, hw100, by omega, hls, hrs, h1, by omega, ?_⟩
    refine ⟨_, (by first | exact Or.inl rfl | exact Or.inr rfl), ?_⟩
    refine Lc0.to ((lessF (linesOf rows) row).map fun x => PyData.bool (decide (x = 0))) (by rw [List.length_map, List.length_map]) (by rw [List.length_map, hfl]; omega) (fun i d z hd hz => ?_) ?_
    · obtain ⟨x, hx, rfl⟩ := map_get hd
      obtain ⟨x', hx', rfl⟩ := map_get hz
      rw [hx] at hx'
      cases hx'
      refine ⟨_, rfl, ?_⟩
      refine e_cmp c_eq ?_ rfl
      refine e_ix ?_
      refine e_name (i := 7) rfl ?_
      refine e_int ?_
      refine ⟨_, _, _, (by first | exact Or.inl rfl | exact Or.inr rfl), rfl, rfl, ?_⟩
      refine e_int ?_
      refine ⟨?_, ?_⟩
      · exact ⟨rfl, rfl⟩
      exact congrArg PyData.bool (eqv_num0' x)
    · refine ⟨(lessF (linesOf rows) row).map fun x => decide (x = 0), by rw [List.map_map] <;> rfl, ?_⟩
      rw [all0_sumB hw hr]
      exact q
end Pd

/-! text Ql -/
set_option Elab.async false
set_option linter.all false
set_option maxRecDepth 100000
set_option maxHeartbeats 4000000
namespace Pd
open PySem PySem.Spec PyProof.Rows L2 C8
variable {T : Th}
def F_law_spoils (ds : List PyData) (Pp : PyData → Prop) : Prop := ∃ (t : Tr) (s u K : Nat) (q : List Rat) (L : List Nat), ds = [t.D, FT q, PT L] ∧ t.Ok s u ∧ q.length = u ∧ AllS s q ∧ (t.rows.length ≤ K ∨ (wideQ t q).length ≤ K) ∧ gz s K ≤ 33554432 ∧ Pp (.bool (spB t q L))
theorem d_law_spoils (M : Md T) : Ok T "_law_spoils" ["_law_trial", "_law_question", "_law_lot"] 45 (PureSp T.K F_law_spoils) := by
  refine okP M (k := 44) (i := 75) (s := _root_.Hd.s_law_spoils) (N := ["_law_trial", "_law_question", "_law_lot", "_law_wide_here", "_law_some", "_law_at"]) rfl rfl (by decide +kernel) (fun _ _ _ _ _ _ us hl => match us, hl with | [_, _, _], _ => rfl) (fun ds Pp h => by obtain ⟨_, _, _, _, _, _, rfl, _⟩ := h; rfl) ?_
  rintro ds Pp ⟨t, s, u, K, q, L, rfl, hk, hql, hqs, hKK, hb, qq⟩
  have hn := hk.n10
  have hu5 := hk.u5
  have hu1 := hk.u1
  have h1 := hk.s1
  obtain ⟨v1, v2, v3⟩ := hk.lv
  have hU := wideQ_len t q
  refine ss_cons (s_set (i := 3) (E.ev ?_))
  refine e_call (d_law_wide M) lk ?_
  refine ea_cons ?_
  refine e_name (i := 0) rfl ?_
  refine ea_nil ?_
  refine ⟨t, s, u, rfl, hk, ?_⟩
  refine ss_cons (s_lcIf (i := 4) [("_law_at", 5)] [5] ?_ tg_name)
  refine it_range1 M.b_range ?_
  refine e_len M.b_len ?_
  refine e_name (i := 3) rfl ?_
  refine ⟨_, (by first | exact Or.inl rfl | exact Or.inr rfl), ?_⟩
  rw [List.length_map, wide_len]
  refine ⟨_, rfl, by omega, by omega, ?_⟩
  rw [Int.toNat_natCast]
  refine Lc1.on (fun i => decide (i ∉ L)) (fun i : Nat => FT (rowAt (wide t) i)) (by rw [List.length_range]; omega) (fun i hi => ?_) ?_
  · have hi' := List.mem_range.mp hi
    refine ⟨_, rfl, ?_, fun hp => ?_⟩
    · refine b_cmp c_notIn ?_ rfl
      refine e_name (i := 5) rfl ?_
      refine e_name (i := 2) rfl ?_
      refine ⟨?_, ?_⟩
      · exact inC_PT _ L
      rw [Int.zero_add, inD_PT]
      by_cases h : i ∈ L
      · simp [h]
      · simp [h]
    · refine e_ix ?_
      refine e_name (i := 3) rfl ?_
      refine e_name (i := 5) rfl ?_
      rw [Int.zero_add]
      refine ⟨_, _, _, .inr rfl, rfl, at_map (rowAt_get (rows := wide t) (by rw [wide_len]; exact hi')), ?_⟩
      exact rfl
  · have esm : ((List.range t.rows.length).filter fun i => decide (i ∉ L)).map (fun i : Nat => FT (rowAt (wide t) i)) = ((leftOf t.rows.length L).map (rowAt (wide t))).map FT := by
      rw [List.map_map]
      rfl
    rw [esm]
    refine ss_freeze (i := 4) rfl ?_
    refine ss_cons (s_ret ?_)
    refine e_not ?_
    refine e_call (d_law_is_sum M) lk ?_
    refine ea_cons ?_
    refine e_name (i := 4) rfl ?_
    refine ea_cons ?_
    refine e_catT ?_
    refine e_tuple M.b_tuple ?_
    refine e_name (i := 1) rfl ?_
    refine ⟨_, (by first | exact Or.inl rfl | exact Or.inr rfl), ?_⟩
    refine e_repT ?_
    refine e_tup ?_
    refine ea_cons ?_
    refine e_tup ?_
    refine ea_cons ?_
    refine e_int ?_
    refine ea_cons ?_
    refine e_int ?_
    refine ea_nil ?_
    refine ⟨lk, ?_⟩
    refine ea_nil ?_
    refine ⟨lk, ?_⟩
    refine e_call (d_law_levels M) lk ?_
    refine ea_cons ?_
    refine e_name (i := 0) rfl ?_
    refine ea_nil ?_
    refine ⟨t, s, u, rfl, hk, ?_⟩
    refine ⟨_, _, rfl, rfl, by simp, by omega, by omega, lk, ?_⟩
    rw [rep1]
    refine ⟨_, _, rfl, rfl, ?_, ?_⟩
    · rw [List.length_map, List.length_replicate]
      omega
    refine ea_nil ?_
    have erow : PyData.tuple (q.map frac ++ List.replicate (lv t.blk).toNat (PyData.tuple [.int 0, .int 1])) = FT (wideQ t q) := by
      unfold FT wideQ
      rw [List.map_append, List.map_replicate]
      rfl
    rw [erow]
    have hll := left_len (n := t.rows.length) (L := L)
    refine ⟨(leftOf t.rows.length L).map (rowAt (wide t)), wideQ t q, (wideQ t q).length, s, K, rfl, fun r hr => ?_, rfl, by omega, by omega, by rw [List.length_map]; omega, fun r hr => ?_, wideQ_sz hqs h1, h1, by rw [List.length_map]; omega, hb, ?_⟩
    · obtain ⟨i, hi, rfl⟩ := List.mem_map.mp hr
      rw [(rowAt_sz hk (left_mem.mp hi).1).2, hU, hql]
    · obtain ⟨i, hi, rfl⟩ := List.mem_map.mp hr
      exact (rowAt_sz hk (left_mem.mp hi).1).1
    rw [← sumB_spB] at qq
    refine ⟨_, rfl, ?_⟩
    exact qq
def F_law_lots (ds : List PyData) (Pp : PyData → Prop) : Prop := ∃ n : Nat, ds = [natI n] ∧ n ≤ 8 ∧ ∀ ls : List (List Nat), (∀ L, L ∈ ls ↔ Lot n L ∧ L ≠ []) → ls.length ≤ 256 → Pp (.list (ls.map PT))
theorem d_law_lots (M : Md T) : Ok T "_law_lots" ["_law_many"] 41 (PureSp T.K F_law_lots) := by
  refine okP M (k := 40) (i := 76) (s := _root_.Hd.s_law_lots) (N := ["_law_many", "_law_found", "_law_bits", "_law_at"]) rfl rfl (by decide +kernel) (fun _ _ _ _ _ _ us hl => match us, hl with | [_], _ => rfl) (fun ds Pp h => by obtain ⟨_, rfl, _⟩ := h; rfl) ?_
  rintro ds Pp ⟨n, rfl, hn, q⟩
  refine ss_cons (s_set (i := 1) (EF.ev ?_))
  refine ef_lst ?_
  refine ea_nil ?_
  refine ⟨lk, ?_⟩
  refine ss_cons (s_for [2] ?_ tg_name)
  refine it_range2 M.b_range ?_
  refine e_int ?_
  refine e_shl ?_
  refine e_int ?_
  refine e_name (i := 0) rfl ?_
  refine ⟨_, _, rfl, rfl, ?_, ?_⟩
  · exact ⟨by omega, by omega, by decide⟩
  have hp : 2 ^ n ≤ 256 := Nat.pow_le_pow_right (n := 2) (by decide) hn
  have hp1 : 1 ≤ 2 ^ n := Nat.one_le_two_pow
  have ep : (1 : Int) * 2 ^ (((n : Nat) : Int)).toNat = ((2 ^ n : Nat) : Int) := by
    rw [Int.one_mul, Int.toNat_natCast]
    norm_cast
  rw [ep]
  refine ⟨_, _, rfl, rfl, by omega, ?_⟩
  have ep2 : (((2 ^ n : Nat) : Int) - 1).toNat = 2 ^ n - 1 := by omega
  rw [ep2]
  refine ⟨fun i δ' => δ' = [.sh (natI n), .own (((List.range i).map fun k => bitsOf n (k + 1)).map PT), .any, .any], rfl, fun i d δ' hd hI => ?_, fun δ' hI => ?_⟩
  · subst hI
    obtain ⟨hi, rfl⟩ := rgL_get hd
    have ei : ((1 : Int) + ((i : Nat) : Int)) = ((i + 1 : Nat) : Int) := by omega
    rw [ei]
    refine ⟨_, rfl, rfl, ?_⟩
    refine ss_cons (s_append (i := 1) rfl ?_)
    refine e_tuple M.b_tuple ?_
    refine EF.toE ?_
    refine ef_lcIf [("_law_at", 3)] [3] ?_ tg_name
    refine it_range1 M.b_range ?_
    refine e_name (i := 0) rfl ?_
    refine ⟨_, rfl, by omega, by omega, ?_⟩
    rw [Int.toNat_natCast]
    refine Lc1.on (fun a => (i + 1).testBit a) (fun a : Nat => PyData.int (0 + ((a : Nat) : Int))) (by rw [List.length_range]; omega) (fun a ha => ?_) ?_
    · have ha' := List.mem_range.mp ha
      refine ⟨_, rfl, ?_, fun hp => ?_⟩
      · refine b_cmp c_eq ?_ rfl
        refine e_mod ?_
        refine e_intc M.b_int ?_
        refine e_shr ?_
        refine e_name (i := 2) rfl ?_
        refine e_name (i := 3) rfl ?_
        refine ⟨_, _, rfl, rfl, ?_, ?_⟩
        · omega
        refine ⟨_, rfl, ?_⟩
        refine e_int ?_
        refine ⟨_, _, rfl, rfl, ?_, ?_⟩
        · decide
        refine e_int ?_
        refine ⟨?_, ?_⟩
        · exact ⟨rfl, rfl⟩
        rw [Int.zero_add]
        exact testBit_int _ _
      · refine e_name (i := 3) rfl ?_
        exact rfl
    · have eb : ((List.range n).filter fun a => (i + 1).testBit a).map (fun a : Nat => PyData.int (0 + ((a : Nat) : Int))) = (bitsOf n (i + 1)).map natI := by
        refine List.map_congr_left fun k _ => ?_
        rw [Int.zero_add]
        rfl
      rw [eb]
      refine ⟨_, (by first | exact Or.inl rfl | exact Or.inr rfl), ?_⟩
      refine ⟨?_, ?_⟩
      · rw [List.length_map, List.length_map, List.length_range]
        omega
      refine ss_drop (i := 2) rfl ?_
      refine ss_nil ?_
      show (_ : List SD) = [.sh (natI n), .own (((List.range (i + 1)).map fun k => bitsOf n (k + 1)).map PT), .any, .any]
      rw [List.range_succ, List.map_append, List.map_append]
      rfl
  · subst hI
    rw [rgL_len]
    refine ss_freeze (i := 1) rfl ?_
    refine ss_cons (s_ret ?_)
    refine EF.toE ?_
    refine ef_sorted M.b_sorted ?_
    refine e_name (i := 1) rfl ?_
    have hal := allLots_len n
    refine ⟨(allLots n).map castL, congrArg PyData.list (PT_lotD _), fun l hl z => ?_, by rw [List.length_map]; omega, fun ls' hp => ?_⟩
    · obtain ⟨L, hL, rfl⟩ := List.mem_map.mp hl
      exact (allLots_mem.mp hL).2 (List.map_eq_nil_iff.mp z)
    obtain ⟨m, rfl, hm⟩ := perm_map_ex hp rfl
    rw [← PT_lotD]
    exact q m (fun L => hm.mem_iff.trans allLots_mem) (by rw [hm.length_eq]; omega)
def F_law_is_fair (ds : List PyData) (Pp : PyData → Prop) : Prop := ∃ (t : Tr) (s u b : Nat) (q y : List Rat), ds = [t.D, FT q, FT y] ∧ t.Ok s u ∧ q.length = u ∧ y.length = t.rows.length ∧ AllS b y ∧ (t.rows.length + 1) * (s + b + 1) ≤ 134217727 ∧ FairF t q (ent y) ∧ Pp (.bool true)
theorem d_law_is_fair (M : Md T) : Ok T "_law_is_fair" ["_law_trial", "_law_question", "_law_telling"] 45 (PureSp T.K F_law_is_fair) := by
  refine okP M (k := 44) (i := 77) (s := _root_.Hd.s_law_is_fair) (N := ["_law_trial", "_law_question", "_law_telling", "_law_block", "_law_at", "_law_row"]) rfl rfl (by decide +kernel) (fun _ _ _ _ _ _ us hl => match us, hl with | [_, _, _], _ => rfl) (fun ds Pp h => by obtain ⟨_, _, _, _, _, _, rfl, _⟩ := h; rfl) ?_
  rintro ds Pp ⟨t, s, u, b, q, y, rfl, hk, hql, hyl, hys, hb, hf, qq⟩
  have hn := hk.n10
  have hu5 := hk.u5
  have hu1 := hk.u1
  have hbl := hk.bl
  refine ss_cons (s_if ?_)
  refine b_val ?_
  refine e_any M.b_any ?_
  refine EF.toE ?_
  refine ef_lc [("_law_at", 4)] [4] ?_ tg_name
  refine it_range1 M.b_range ?_
  refine e_len M.b_len ?_
  refine e_name (i := 1) rfl ?_
  refine ⟨_, (by first | exact Or.inl rfl | exact Or.inr rfl), ?_⟩
  rw [List.length_map]
  refine ⟨_, rfl, by omega, by omega, ?_⟩
  rw [Int.toNat_natCast]
  refine Lc0.to (List.replicate q.length (.bool false)) (by rw [List.length_replicate, rgL_len]) (by rw [rgL_len]; omega) (fun j d z hd hz => ?_) ?_
  · obtain ⟨hj, rfl⟩ := rgL_get hd
    rw [Int.zero_add]
    refine ⟨_, rfl, ?_⟩
    refine e_cmp c_ne ?_ rfl
    refine e_call (d_law_dot M) lk ?_
    refine ea_cons ?_
    refine e_name (i := 2) rfl ?_
    refine ea_cons ?_
    refine EF.toE ?_
    refine ef_lc [("_law_row", 5)] [5] ?_ tg_name
    refine it_seq ?_
    refine e_ix ?_
    refine e_name (i := 0) rfl ?_
    refine e_int ?_
    refine ⟨_, _, _, (by first | exact Or.inl rfl | exact Or.inr rfl), rfl, rfl, ?_⟩
    refine ⟨_, (by first | exact Or.inl rfl | exact Or.inr rfl), ?_⟩
    refine Lc0.to ((t.rows.map fun r => ent r j).map frac) (by rw [List.length_map, List.length_map, List.length_map]) (by rw [List.length_map]; omega) (fun i d z hd hz => ?_) ?_
    · obtain ⟨r, hr, rfl⟩ := map_get hd
      obtain ⟨v, hv, rfl⟩ := map_get hz
      obtain ⟨r', hr', rfl⟩ := map_get hv
      rw [hr] at hr'
      cases hr'
      have hrw := hk.wd r (List.mem_of_getElem? hr)
      refine ⟨_, rfl, ?_⟩
      refine e_ix ?_
      refine e_name (i := 5) rfl ?_
      refine e_name (i := 4) rfl ?_
      refine ⟨_, _, _, .inl rfl, rfl, at_map (getD_get (d := 0) (by omega)), ?_⟩
      exact rfl
    · refine ea_nil ?_
      refine ⟨y, t.rows.map fun r => ent r j, b, s, _, _, rfl, .inl rfl, .inr rfl, hys, fun x hx => ?_, by omega, by rw [hyl, show b + s + 1 = s + b + 1 by omega]; exact hb, ?_⟩
      · obtain ⟨r, hr, rfl⟩ := List.mem_map.mp hx
        exact ent_sz (hk.sz r hr) hk.s1 j
      rw [dot_col hyl, fair_lo hk hql hf (by omega)]
      refine e_ix ?_
      refine e_name (i := 1) rfl ?_
      refine e_name (i := 4) rfl ?_
      refine ⟨_, _, _, .inl rfl, rfl, at_map (getD_get (d := 0) (by omega)), ?_⟩
      refine ⟨?_, ?_⟩
      · exact ⟨frac_shaped _, frac_shaped _⟩
      rw [frac_eqv, decide_eq_true rfl]
      exact rep_get hz
  · refine ⟨List.replicate q.length false, by rw [List.map_replicate], ?_⟩
    refine ⟨_, rfl, ?_⟩
    refine ⟨fun h => absurd h (by rw [rep_none]; exact Bool.false_ne_true), fun _ => ?_⟩
    refine ss_nil ?_
    refine ss_cons (s_for [3] ?_ tg_name)
    refine it_seq ?_
    refine e_ix ?_
    refine e_name (i := 0) rfl ?_
    refine e_int ?_
    refine ⟨_, _, _, (by first | exact Or.inl rfl | exact Or.inr rfl), rfl, rfl, ?_⟩
    refine ⟨_, (by first | exact Or.inl rfl | exact Or.inr rfl), ?_⟩
    refine ⟨fun i δ' => δ' = [.sh t.D, .sh (FT q), .sh (FT y), .any, .any, .any], rfl, fun i d δ' hd hI => ?_, fun δ' hI => ?_⟩
    · subst hI
      obtain ⟨bk, hbk, rfl⟩ := map_get hd
      have hbm := List.mem_of_getElem? hbk
      have hbn : t.blk.length = t.rows.length := hbl.elim (fun z => by rw [z] at hbm; cases hbm) fun z => z.1
      refine ⟨_, rfl, rfl, ?_⟩
      refine ss_cons (s_if ?_)
      refine b_cmp c_ne ?_ rfl
      refine e_call (d_law_sum M) lk ?_
      refine ea_cons ?_
      refine EF.toE ?_
      refine ef_lcIf [("_law_at", 4)] [4] ?_ tg_name
      refine it_range1 M.b_range ?_
      refine e_len M.b_len ?_
      refine e_name (i := 2) rfl ?_
      refine ⟨_, (by first | exact Or.inl rfl | exact Or.inr rfl), ?_⟩
      rw [List.length_map, hyl]
      refine ⟨_, rfl, by omega, by omega, ?_⟩
      rw [Int.toNat_natCast]
      refine Lc1.on (fun k => decide (bAt t.blk k = bk)) (fun k : Nat => frac (ent y k)) (by rw [List.length_range]; omega) (fun k hk' => ?_) ?_
      · have hkn := List.mem_range.mp hk'
        refine ⟨_, rfl, ?_, fun hp => ?_⟩
        · refine b_cmp c_eq ?_ rfl
          refine e_ix ?_
          refine e_ix ?_
          refine e_name (i := 0) rfl ?_
          refine e_int ?_
          refine ⟨_, _, _, (by first | exact Or.inl rfl | exact Or.inr rfl), rfl, rfl, ?_⟩
          refine e_name (i := 4) rfl ?_
          rw [Int.zero_add]
          refine ⟨_, _, _, .inl rfl, rfl, at_map (getD_get (d := 0) (by omega)), ?_⟩
          refine e_name (i := 3) rfl ?_
          refine ⟨?_, ?_⟩
          · exact ⟨rfl, rfl⟩
          exact eqv_int _ _
        · refine e_ix ?_
          refine e_name (i := 2) rfl ?_
          refine e_name (i := 4) rfl ?_
          rw [Int.zero_add]
          refine ⟨_, _, _, .inl rfl, rfl, at_map (getD_get (d := 0) (by omega)), ?_⟩
          exact rfl
      · have esm : ((List.range t.rows.length).filter fun k => decide (bAt t.blk k = bk)).map (fun k : Nat => frac (ent y k)) = (((List.range t.rows.length).filter fun k => decide (bAt t.blk k = bk)).map (ent y)).map frac := by
          rw [List.map_map]
          rfl
        rw [esm]
        refine ea_nil ?_
        have hml : (((List.range t.rows.length).filter fun k => decide (bAt t.blk k = bk)).map (ent y)).length ≤ t.rows.length := by
          rw [List.length_map]
          have := List.length_filter_le (fun k => decide (bAt t.blk k = bk)) (List.range t.rows.length)
          rwa [List.length_range] at this
        have hbb : (t.rows.length + 1) * (b + 1) ≤ (t.rows.length + 1) * (s + b + 1) := Nat.mul_le_mul_left _ (by omega)
        have hbc : (((List.range t.rows.length).filter fun k => decide (bAt t.blk k = bk)).map (ent y)).length * (b + 1) ≤ (t.rows.length + 1) * (b + 1) := Nat.mul_le_mul_right _ (by omega)
        refine ⟨_, b, rfl, fun x hx => ?_, by omega, ?_⟩
        · obtain ⟨k, hk', rfl⟩ := List.mem_map.mp hx
          have hkn := List.mem_range.mp (List.mem_filter.mp hk').1
          exact hys.at (getD_get (by omega))
        rw [blk_sum, fair_hi hk hql hf hbm]
        refine e_tup ?_
        refine ea_cons ?_
        refine e_int ?_
        refine ea_cons ?_
        refine e_int ?_
        refine ea_nil ?_
        refine ⟨lk, ?_⟩
        refine ⟨?_, ?_⟩
        · exact ⟨frac_shaped _, rfl⟩
        refine ⟨fun h => absurd h (by decide), fun _ => ?_⟩
        refine ss_nil ?_
        refine ss_drop (i := 3) rfl ?_
        refine ss_nil ?_
        rfl
    · subst hI
      refine ss_cons (s_ret ?_)
      refine e_bool ?_
      exact qq
end Pd

/-! text Qm -/
set_option Elab.async false
set_option linter.all false
set_option maxRecDepth 100000
set_option maxHeartbeats 4000000
namespace Pd
open PySem PySem.Spec PyProof.Rows L2 C8
variable {T : Th}
def F_law_twin (ds : List PyData) (Pp : PyData → Prop) : Prop := ∃ (t : Tr) (y : List Rat) (s u b : Nat), ds = [t.D, FT y] ∧ t.Ok s u ∧ t.rows.length ≤ 4 ∧ y.length = t.rows.length ∧ AllS b y ∧ 1 ≤ b ∧ (∀ j, j < t.blk.length → bsum t.blk t.rows.length y (bAt t.blk j) = 0) ∧
  ∀ (t' : Tr) (y' : List Rat), t'.Ok s u → t'.rows.length ≤ 5 → y'.length = t'.rows.length → AllS b y' → (∀ j, j < t'.blk.length → bsum t'.blk t'.rows.length y' (bAt t'.blk j) = 0) → Pp (.tuple [t'.D, FT y'])
theorem d_law_twin (M : Md T) : Ok T "_law_twin" ["_law_well_here", "_law_trial", "_law_telling"] 42 (WellSp T.K F_law_twin) := by
  refine okW M (k := 41) (i := 78) (s := _root_.Hd.s_law_twin) (N := ["_law_well_here", "_law_trial", "_law_telling", "_law_many", "_law_at", "_law_blocks_here"]) rfl rfl (by decide +kernel) (fun _ _ _ _ _ _ us hl => match us, hl with | [_, _, _], _ => rfl) (fun ds Pp h => by obtain ⟨_, _, _, _, _, rfl, _⟩ := h; rfl) ?_
  rintro ds Pp ⟨t, y, s, u, b, rfl, hk, hn, hyl, hys, hb1, hbal, q⟩
  have hn1 := hk.n1
  have hbl : t.blk.length ≤ 10 := by
      rcases hk.bl with e | e
      · rw [e]
        decide
      · omega
  refine ss_cons (s_set (i := 3) (E.ev ?_))
  refine e_len M.b_len ?_
  refine e_ix ?_
  refine e_name (i := 1) rfl ?_
  refine e_int ?_
  refine ⟨_, _, _, (by first | exact Or.inl rfl | exact Or.inr rfl), rfl, rfl, ?_⟩
  refine ⟨_, (by first | exact Or.inl rfl | exact Or.inr rfl), ?_⟩
  rw [List.length_map]
  refine ss_cons (s_if ?_)
  refine b_or ?_
  refine b_cmp c_gt ?_ rfl
  refine e_name (i := 3) rfl ?_
  refine e_int ?_
  refine ⟨⟨⟨_, rfl⟩, _, rfl⟩, ?_⟩
  refine ⟨fun _ => ?_, fun h => absurd h (nt (show ¬ ((t.rows.length : Nat) : Int) > 4 by omega))⟩
  refine b_cmp c_eq ?_ rfl
  refine e_callW (i := 0) (d_law_draw M) lk rfl ?_
  refine ea_cons ?_
  refine e_int ?_
  refine ea_nil ?_
  refine ⟨_, rfl, by decide, by decide, fun v v1 v2 => ?_⟩
  refine e_int ?_
  refine ⟨?_, ?_⟩
  · exact ⟨rfl, rfl⟩
  refine ⟨fun h1 => ?_, fun h1 => ?_⟩
  · refine ss_cons (s_ret ?_)
    refine e_tup ?_
    refine ea_cons ?_
    refine e_name (i := 1) rfl ?_
    refine ea_cons ?_
    refine e_name (i := 2) rfl ?_
    refine ea_nil ?_
    refine ⟨lk, ?_⟩
    exact q t y hk (by omega) hyl hys hbal
  · refine ss_nil ?_
    refine ss_cons (s_set (i := 4) (E.ev ?_))
    refine e_callW (i := 0) (d_law_draw M) lk rfl ?_
    refine ea_cons ?_
    refine e_name (i := 3) rfl ?_
    refine ea_nil ?_
    refine ⟨_, rfl, by omega, by omega, fun a a1 a2 => ?_⟩
    obtain ⟨v, rfl⟩ : ∃ v : Nat, a = ((v : Nat) : Int) := ⟨a.toNat, by omega⟩
    have hv : v < t.rows.length := by omega
    refine ss_cons (s_set (i := 5) (E.ev ?_))
    refine e_catT ?_
    refine e_ix ?_
    refine e_name (i := 1) rfl ?_
    refine e_int ?_
    refine ⟨_, _, _, (by first | exact Or.inl rfl | exact Or.inr rfl), rfl, rfl, ?_⟩
    refine e_sliceT ?_
    refine e_ix ?_
    refine e_name (i := 1) rfl ?_
    refine e_int ?_
    refine ⟨_, _, _, (by first | exact Or.inl rfl | exact Or.inr rfl), rfl, rfl, ?_⟩
    refine eo_some ?_
    refine e_name (i := 4) rfl ?_
    refine ⟨_, rfl, ?_⟩
    refine eo_some ?_
    refine e_add ?_
    refine e_name (i := 4) rfl ?_
    refine e_int ?_
    refine ⟨_, _, rfl, rfl, ?_⟩
    refine ⟨_, rfl, ?_⟩
    refine ⟨_, rfl, ?_⟩
    refine ⟨_, _, rfl, rfl, ?_, ?_⟩
    · rw [cutD_one, List.length_take, List.length_map]
      omega
    refine ss_cons (s_ret ?_)
    refine e_tup ?_
    refine ea_cons ?_
    refine e_tup ?_
    refine ea_cons ?_
    refine e_catT ?_
    refine e_ix ?_
    refine e_name (i := 1) rfl ?_
    refine e_int ?_
    refine ⟨_, _, _, (by first | exact Or.inl rfl | exact Or.inr rfl), rfl, rfl, ?_⟩
    refine e_tup ?_
    refine ea_cons ?_
    refine e_ix ?_
    refine e_ix ?_
    refine e_name (i := 1) rfl ?_
    refine e_int ?_
    refine ⟨_, _, _, (by first | exact Or.inl rfl | exact Or.inr rfl), rfl, rfl, ?_⟩
    refine e_name (i := 4) rfl ?_
    refine ⟨_, _, _, .inl rfl, rfl, at_map (rowAt_get hv), ?_⟩
    refine ea_nil ?_
    refine ⟨lk, ?_⟩
    refine ⟨_, _, rfl, rfl, ?_, ?_⟩
    · rw [List.length_map]
      simp only [List.length_cons, List.length_nil]
      omega
    refine ea_cons ?_
    refine e_catT ?_
    refine e_ix ?_
    refine e_name (i := 1) rfl ?_
    refine e_int ?_
    refine ⟨_, _, _, (by first | exact Or.inl rfl | exact Or.inr rfl), rfl, rfl, ?_⟩
    refine e_tup ?_
    refine ea_cons ?_
    refine e_ix ?_
    refine e_ix ?_
    refine e_name (i := 1) rfl ?_
    refine e_int ?_
    refine ⟨_, _, _, (by first | exact Or.inl rfl | exact Or.inr rfl), rfl, rfl, ?_⟩
    refine e_name (i := 4) rfl ?_
    refine ⟨_, _, _, .inl rfl, rfl, at_map (getD_get (d := 0) (by rw [hk.sl]; exact hv)), ?_⟩
    refine ea_nil ?_
    refine ⟨lk, ?_⟩
    refine ⟨_, _, rfl, rfl, ?_, ?_⟩
    · rw [List.length_map, hk.sl]
      simp only [List.length_cons, List.length_nil]
      omega
    refine ea_cons ?_
    refine e_name (i := 5) rfl ?_
    refine ea_nil ?_
    refine ⟨lk, ?_⟩
    refine ea_cons ?_
    refine e_catT ?_
    refine e_name (i := 2) rfl ?_
    refine e_tup ?_
    refine ea_cons ?_
    refine e_tup ?_
    refine ea_cons ?_
    refine e_int ?_
    refine ea_cons ?_
    refine e_int ?_
    refine ea_nil ?_
    refine ⟨lk, ?_⟩
    refine ea_nil ?_
    refine ⟨lk, ?_⟩
    refine ⟨_, _, rfl, rfl, ?_, ?_⟩
    · rw [List.length_map]
      simp only [List.length_cons, List.length_nil]
      omega
    refine ea_nil ?_
    refine ⟨lk, ?_⟩
    have e1 : (t.rows ++ [rowAt t.rows v]).map FT = t.rows.map FT ++ [FT (rowAt t.rows v)] := List.map_append
    have e2 : (t.spr ++ [t.spr.getD v 0]).map frac = t.spr.map frac ++ [frac (t.spr.getD v 0)] := List.map_append
    have e3 : (t.blk ++ (t.blk.drop v).take 1).map PyData.int = t.blk.map PyData.int ++ cutD (t.blk.map PyData.int) (some ((v : Nat) : Int)) (some (((v : Nat) : Int) + 1)) := by rw [cutD_one, List.map_append, List.map_take, List.map_drop]
    have e4 : (y ++ [0]).map frac = y.map frac ++ [frac 0] := List.map_append
    have hrl : (twinT t v).rows.length = t.rows.length + 1 := by
      show (t.rows ++ _).length = _
      rw [List.length_append]
      rfl
    have hz : Pp (.tuple [.tuple [.tuple ((t.rows ++ [rowAt t.rows v]).map FT), .tuple ((t.spr ++ [t.spr.getD v 0]).map frac), .tuple ((t.blk ++ (t.blk.drop v).take 1).map PyData.int)], .tuple ((y ++ [0]).map frac)]) := q (twinT t v) (y ++ [0]) (twin_ok hk hv hn) (by rw [hrl]; omega) (by rw [hrl, List.length_append, hyl]; rfl) (fun x hx => by
      rcases List.mem_append.mp hx with hx | hx
      · exact hys x hx
      · rw [List.mem_singleton.mp hx]
        exact Sz.zero hb1) (twin_bal hk hv hyl hbal)
    rw [e1, e2, e3, e4] at hz
    exact hz
def F_law_drawn (ds : List PyData) (Pp : PyData → Prop) : Prop := ds = [] ∧ ∀ (t : Tr) (q : List Rat), Drawn t q → Pp (.tuple [t.D, FT q])
theorem d_law_drawn (M : Md T) : Ok T "_law_drawn" ["_law_well_here"] 46 (WellSp T.K F_law_drawn) := by
  refine okW M (k := 45) (i := 79) (s := _root_.Hd.s_law_drawn) (N := ["_law_well_here", "_law_many", "_law_rows_here", "_law_few", "_law_trial", "_law_telling", "_law_question"]) rfl rfl (by decide +kernel) (fun _ _ _ _ _ _ us hl => match us, hl with | [_], _ => rfl) (fun ds Pp h => by obtain ⟨rfl, _⟩ := h; rfl) ?_
  rintro ds Pp ⟨rfl, q⟩
  refine ss_cons (s_if ?_)
  refine b_cmp c_eq ?_ rfl
  refine e_callW (i := 0) (d_law_draw M) lk rfl ?_
  refine ea_cons ?_
  refine e_int ?_
  refine ea_nil ?_
  refine ⟨_, rfl, by decide, by decide, fun v v1 v2 => ?_⟩
  refine e_int ?_
  refine ⟨?_, ?_⟩
  · exact ⟨rfl, rfl⟩
  refine ⟨fun h1 => ?_, fun h1 => ?_⟩
  · refine ss_cons (s_set (i := 1) (E.ev ?_))
    refine e_add ?_
    refine e_int ?_
    refine e_callW (i := 0) (d_law_draw M) lk rfl ?_
    refine ea_cons ?_
    refine e_int ?_
    refine ea_nil ?_
    refine ⟨_, rfl, by decide, by decide, fun v' w1 w2 => ?_⟩
    refine ⟨_, _, rfl, rfl, ?_⟩
    obtain ⟨n, en⟩ : ∃ n : Nat, 6 + v' = ((n : Nat) : Int) := ⟨(6 + v').toNat, by omega⟩
    rw [en]
    refine ss_cons (s_set (i := 2) (E.ev ?_))
    refine e_call (d_law_lively M) lk ?_
    refine ea_cons ?_
    refine e_callW (i := 0) (d_law_rows M) lk rfl ?_
    refine ea_cons ?_
    refine e_name (i := 1) rfl ?_
    refine ea_cons ?_
    refine e_int ?_
    refine ea_nil ?_
    have hrz : rz n ≤ 5630 := by
      have hm : ∀ k, k ≤ 8 → rz k ≤ rz 8 := by decide
      exact hm n (by omega)
    have hr20 := rz_le n
    refine ⟨n, 1, rfl, by omega, by omega, by omega, by omega, fun R hR1 hR2 hR3 => ?_⟩
    refine ea_nil ?_
    refine ⟨R, 1, rz n, rfl, by omega, by omega, hR2, by omega, by omega, hR3, by omega, fun R' r1 r2 r3 r4 => ?_⟩
    refine ss_cons (s_ret ?_)
    refine e_tup ?_
    refine ea_cons ?_
    refine e_tup ?_
    refine ea_cons ?_
    refine e_name (i := 2) rfl ?_
    refine ea_cons ?_
    refine e_callW (i := 0) (d_law_spreads M) lk rfl ?_
    refine ea_cons ?_
    refine e_name (i := 1) rfl ?_
    refine ea_nil ?_
    refine ⟨n, rfl, by omega, fun spr sp1 sp2 => ?_⟩
    refine ea_cons ?_
    refine e_tup ?_
    refine ea_nil ?_
    refine ⟨lk, ?_⟩
    refine ea_nil ?_
    refine ⟨lk, ?_⟩
    refine ea_cons ?_
    refine e_tup ?_
    refine ea_cons ?_
    refine e_tup ?_
    refine ea_cons ?_
    refine e_add ?_
    refine e_int ?_
    refine e_callW (i := 0) (d_law_draw M) lk rfl ?_
    refine ea_cons ?_
    refine e_int ?_
    refine ea_nil ?_
    refine ⟨_, rfl, by decide, by decide, fun c c1 c2 => ?_⟩
    refine ⟨_, _, rfl, rfl, ?_⟩
    refine ea_cons ?_
    refine e_int ?_
    refine ea_nil ?_
    refine ⟨lk, ?_⟩
    refine ea_nil ?_
    refine ⟨lk, ?_⟩
    refine ea_nil ?_
    refine ⟨lk, ?_⟩
    exact q ⟨R', spr, []⟩ [((1 + c : Int) : Rat)] (drawn_great ⟨by show 1 ≤ R'.length; omega, by show R'.length ≤ 10; omega, by omega, by omega, by omega, r2, fun r hr => (r3 r hr).mono hrz, by show spr.length = R'.length; omega, sp2, .inl rfl⟩ (by show 6 ≤ R'.length; omega) (by show R'.length ≤ 8; omega) rfl r4 (by omega) (by omega))
  · refine ss_nil ?_
    refine ss_cons (s_par (i := 3) (j := 1) (E.ev ?_))
    refine e_callW (i := 0) (d_law_one M) lk rfl ?_
    refine ea_cons ?_
    refine e_tup ?_
    refine ea_cons ?_
    refine e_int ?_
    refine ea_cons ?_
    refine e_int ?_
    refine ea_cons ?_
    refine e_int ?_
    refine ea_cons ?_
    refine e_int ?_
    refine ea_nil ?_
    refine ⟨lk, ?_⟩
    refine ea_nil ?_
    refine ⟨_, _, rfl, .inl rfl, by simp, lk, fun x hx => ?_⟩
    obtain ⟨w, rfl, hw1, hw3⟩ : ∃ w : Nat, x = natI w ∧ 1 ≤ w ∧ w ≤ 3 := by
      simp only [List.mem_cons, List.mem_nil_iff, or_false] at hx
      rcases hx with rfl | rfl | rfl | rfl
      · exact ⟨2, rfl, by decide, by decide⟩
      · exact ⟨1, rfl, by decide, by decide⟩
      · exact ⟨2, rfl, by decide, by decide⟩
      · exact ⟨3, rfl, by decide, by decide⟩
    refine E.ev ?_
    refine e_callW (i := 0) (d_law_one M) lk rfl ?_
    refine ea_cons ?_
    refine e_tup ?_
    refine ea_cons ?_
    refine e_int ?_
    refine ea_cons ?_
    refine e_int ?_
    refine ea_cons ?_
    refine e_int ?_
    refine ea_cons ?_
    refine e_int ?_
    refine ea_cons ?_
    refine e_int ?_
    refine ea_cons ?_
    refine e_int ?_
    refine ea_cons ?_
    refine e_int ?_
    refine ea_nil ?_
    refine ⟨lk, ?_⟩
    refine ea_nil ?_
    refine ⟨_, _, rfl, .inl rfl, by simp, lk, fun x hx => ?_⟩
    obtain ⟨n, rfl, hn1, hn4⟩ : ∃ w : Nat, x = natI w ∧ 1 ≤ w ∧ w ≤ 4 := by
      simp only [List.mem_cons, List.mem_nil_iff, or_false] at hx
      rcases hx with rfl | rfl | rfl | rfl | rfl | rfl | rfl
      · exact ⟨3, rfl, by decide, by decide⟩
      · exact ⟨2, rfl, by decide, by decide⟩
      · exact ⟨3, rfl, by decide, by decide⟩
      · exact ⟨1, rfl, by decide, by decide⟩
      · exact ⟨4, rfl, by decide, by decide⟩
      · exact ⟨3, rfl, by decide, by decide⟩
      · exact ⟨4, rfl, by decide, by decide⟩
    refine ss_cons (s_set (i := 4) (E.ev ?_))
    refine e_tup ?_
    refine ea_cons ?_
    refine e_callW (i := 0) (d_law_rows M) lk rfl ?_
    refine ea_cons ?_
    refine e_name (i := 1) rfl ?_
    refine ea_cons ?_
    refine e_name (i := 3) rfl ?_
    refine ea_nil ?_
    have hrz : rz n ≤ 350 := by
      have hm : ∀ k, k ≤ 4 → rz k ≤ 350 := by decide
      exact hm n (by omega)
    refine ⟨n, w, rfl, by omega, by omega, by omega, by omega, fun R hR1 hR2 hR3 => ?_⟩
    refine ea_cons ?_
    refine e_callW (i := 0) (d_law_spreads M) lk rfl ?_
    refine ea_cons ?_
    refine e_name (i := 1) rfl ?_
    refine ea_nil ?_
    refine ⟨n, rfl, by omega, fun spr sp1 sp2 => ?_⟩
    refine ea_cons ?_
    refine e_callW (i := 0) (d_law_blocks M) lk rfl ?_
    refine ea_cons ?_
    refine e_name (i := 1) rfl ?_
    refine ea_nil ?_
    refine ⟨n, rfl, by omega, fun bs hbs => ?_⟩
    have hk : (⟨R, spr, bs⟩ : Tr).Ok 350 w := ⟨by show 1 ≤ R.length; omega, by show R.length ≤ 10; omega, by omega, by omega, by omega, hR2, fun r hr => (hR3 r hr).mono hrz, by show spr.length = R.length; omega, sp2, by rw [← hR1] at hbs; exact hbs⟩
    refine ea_nil ?_
    refine ⟨lk, ?_⟩
    refine ss_cons (s_unp (js := [4, 5]) ?_ (tg_tup (tgs_cons tg_name (tgs_cons tg_name tgs_nil))))
    refine e_callW (i := 0) (d_law_twin M) lk rfl ?_
    refine ea_cons ?_
    refine e_name (i := 4) rfl ?_
    refine ea_cons ?_
    refine e_callW (i := 0) (d_law_balanced M) lk rfl ?_
    refine ea_cons ?_
    refine e_name (i := 4) rfl ?_
    refine ea_nil ?_
    refine ⟨⟨R, spr, bs⟩, 350, w, rfl, hk, fun y hy1 hy2 hy3 => ?_⟩
    refine ea_nil ?_
    refine ⟨⟨R, spr, bs⟩, y, 350, w, 40, rfl, hk, by show R.length ≤ 4; omega, hy1, hy2, by omega, hy3, fun t' y' k1 k2 k3 k4 k5 => ?_⟩
    refine ⟨_, rfl, ?_⟩
    refine ss_cons (s_set (i := 6) (E.ev ?_))
    refine e_call (d_law_mixed M) lk ?_
    refine ea_cons ?_
    refine e_ix ?_
    refine e_name (i := 4) rfl ?_
    refine e_int ?_
    refine ⟨_, _, _, (by first | exact Or.inl rfl | exact Or.inr rfl), rfl, rfl, ?_⟩
    refine ea_cons ?_
    refine e_name (i := 5) rfl ?_
    refine ea_nil ?_
    have kn := k1.n10
    refine ⟨t'.rows, y', w, 350, 40, rfl, k1.n1, k1.n10, k3, k1.wd, k1.u5, k1.sz, k1.s1, k4, by omega, ?_⟩
    refine ss_cons (s_ret ?_)
    refine e_tup ?_
    refine ea_cons ?_
    refine e_name (i := 4) rfl ?_
    refine ea_cons ?_
    refine e_ifexp ?_
    refine b_cmp c_eq ?_ rfl
    refine e_callW (i := 0) (d_law_draw M) lk rfl ?_
    refine ea_cons ?_
    refine e_int ?_
    refine ea_nil ?_
    refine ⟨_, rfl, by decide, by decide, fun z z1 z2 => ?_⟩
    refine e_int ?_
    refine ⟨?_, ?_⟩
    · exact ⟨rfl, rfl⟩
    refine ⟨fun h2 => ?_, fun h2 => ?_⟩
    · refine e_repT ?_
      refine e_tup ?_
      refine ea_cons ?_
      refine e_tup ?_
      refine ea_cons ?_
      refine e_int ?_
      refine ea_cons ?_
      refine e_int ?_
      refine ea_nil ?_
      refine ⟨lk, ?_⟩
      refine ea_nil ?_
      refine ⟨lk, ?_⟩
      refine e_name (i := 3) rfl ?_
      refine ⟨_, _, rfl, rfl, by simp, by omega, by omega, lk, ?_⟩
      rw [Int.toNat_natCast, rep1]
      refine ea_nil ?_
      refine ⟨lk, ?_⟩
      have e : PyData.tuple (List.replicate w (PyData.tuple [.int 0, .int 1])) = FT (List.replicate w 0) := by
        unfold FT
        rw [List.map_replicate]
        rfl
      rw [e]
      exact q t' _ (drawn_zero k1 k2)
    · refine e_name (i := 6) rfl ?_
      refine ea_nil ?_
      refine ⟨lk, ?_⟩
      exact q t' _ (drawn_small k1 k2 k3 k4 k5)
end Pd

/-! text Qn -/
set_option Elab.async false
set_option linter.all false
set_option maxRecDepth 100000
set_option maxHeartbeats 4000000
namespace Pd
open PySem PySem.Spec PyProof.Rows L2 C8
variable {T : Th}
theorem dk_strength (M : Md T) : OkK T "strength" ["question", "trial"] ["trial", "question"] perm2 49 (PureSp T.K F_strength) := by
  refine okK M (π := perm2) (k := 48) (i := 46) (s := _root_.Hd.s_strength) (N := ["trial", "question"]) rfl rfl (by decide +kernel) (fun _ _ _ _ _ _ ws hl => match ws, hl with | [_, _], _ => rfl) (fun ds Pp h => by obtain ⟨_, _, _, _, _, rfl, _⟩ := h; rfl) ?_
  rintro ds Pp ⟨t, s, u, K, q, rfl, hk, hql, hqs, hKK, hb, hno, qq⟩
  refine ss_cons (s_expr ?_)
  refine e_call (d_check_asked M) lk ?_
  refine ea_cons ?_
  refine e_name (i := 0) rfl ?_
  refine ea_cons ?_
  refine e_name (i := 1) rfl ?_
  refine ea_nil ?_
  refine ⟨t, s, u, q, rfl, hk, hql, ?_⟩
  refine ss_cons (s_expr ?_)
  refine e_call (d_check_told M) lk ?_
  refine ea_cons ?_
  refine e_name (i := 0) rfl ?_
  refine ea_cons ?_
  refine e_name (i := 1) rfl ?_
  refine ea_nil ?_
  refine ⟨t, s, u, K, q, rfl, hk, hql, hqs, hKK, hb, hno, ?_⟩
  refine ss_cons (s_ret ?_)
  refine e_call (d_strength_by M) lk ?_
  refine ea_cons ?_
  refine e_name (i := 0) rfl ?_
  refine ea_cons ?_
  refine e_name (i := 1) rfl ?_
  refine ea_nil ?_
  refine ⟨t, s, u, K, q, rfl, hk, hql, hqs, hKK, hb, fun k z1 z2 z3 => ?_⟩
  exact qq k z1 z2 z3
theorem dk_outlasting (M : Md T) : OkK T "outlasting" ["many", "question", "trial"] ["trial", "question", "many"] perm3 48 (PureSp T.K F_outlasting) := by
  refine okK M (π := perm3) (k := 47) (i := 47) (s := _root_.Hd.s_outlasting) (N := ["trial", "question", "many"]) rfl rfl (by decide +kernel) (fun _ _ _ _ _ _ ws hl => match ws, hl with | [_, _, _], _ => rfl) (fun ds Pp h => by obtain ⟨_, _, _, _, _, _, rfl, _⟩ := h; rfl) ?_
  rintro ds Pp ⟨t, s, u, K, q, m, rfl, hk, hql, hqs, hKK, hb, hm, hno, qn, qs⟩
  refine ss_cons (s_expr ?_)
  refine e_call (d_check_asked M) lk ?_
  refine ea_cons ?_
  refine e_name (i := 0) rfl ?_
  refine ea_cons ?_
  refine e_name (i := 1) rfl ?_
  refine ea_nil ?_
  refine ⟨t, s, u, q, rfl, hk, hql, ?_⟩
  refine ss_cons (s_expr ?_)
  refine e_call (d_check_many M) lk ?_
  refine ea_cons ?_
  refine e_name (i := 2) rfl ?_
  refine ea_cons ?_
  refine e_int ?_
  refine ea_cons ?_
  refine e_call (d_many_plots M) lk ?_
  refine ea_cons ?_
  refine e_name (i := 0) rfl ?_
  refine ea_nil ?_
  refine ⟨t, rfl, ?_⟩
  refine ea_nil ?_
  refine ⟨_, _, _, rfl, by omega, by omega, ?_⟩
  refine ss_cons (s_expr ?_)
  refine e_call (d_check_told M) lk ?_
  refine ea_cons ?_
  refine e_name (i := 0) rfl ?_
  refine ea_cons ?_
  refine e_name (i := 1) rfl ?_
  refine ea_nil ?_
  refine ⟨t, s, u, K, q, rfl, hk, hql, hqs, hKK, hb, hno, ?_⟩
  refine ss_cons (s_ret ?_)
  refine e_call (d_outlasting_by M) lk ?_
  refine ea_cons ?_
  refine e_name (i := 0) rfl ?_
  refine ea_cons ?_
  refine e_name (i := 1) rfl ?_
  refine ea_cons ?_
  refine e_name (i := 2) rfl ?_
  refine ea_nil ?_
  refine ⟨t, s, u, K, q, m, rfl, hk, hql, hqs, hKK, hb, fun hs => ?_, fun ys z1 z2 z3 => ?_⟩
  · exact qn hs
  · exact qs ys z1 z2 z3
def F_law_are_enough (ds : List PyData) (Pp : PyData → Prop) : Prop := ∃ (t : Tr) (s u b : Nat) (q : List Rat) (ys : List (List Rat)) (LL : List (List Nat)), ds = [t.D, FT q, .tuple (ys.map FT), .list (LL.map PT)] ∧ t.Ok s u ∧ q.length = u ∧ (t.rows.length + 1) * (s + b + 1) ≤ 134217727 ∧ ys ≠ [] ∧ ys.length ≤ 2000 ∧ (∀ y ∈ ys, GoodY t q b y) ∧ (∀ L ∈ LL, Lot t.rows.length L ∧ ∃ y ∈ ys, ∀ p ∈ L, ent y p = 0) ∧ LL.length ≤ 256 ∧ Pp (.bool true)
theorem d_law_are_enough (M : Md T) : Ok T "_law_are_enough" ["_law_trial", "_law_question", "_law_told", "_law_lots_here"] 46 (PureSp T.K F_law_are_enough) := by
  refine okP M (k := 45) (i := 80) (s := _root_.Hd.s_law_are_enough) (N := ["_law_trial", "_law_question", "_law_told", "_law_lots_here", "_law_telling", "_law_lot", "_law_at"]) rfl rfl (by decide +kernel) (fun _ _ _ _ _ _ us hl => match us, hl with | [_, _, _, _], _ => rfl) (fun ds Pp h => by obtain ⟨_, _, _, _, _, _, _, rfl, _⟩ := h; rfl) ?_
  rintro ds Pp ⟨t, s, u, b, q, ys, LL, rfl, hk, hql, hb, hy0, hyl, hys, hLL, hl, qq⟩
  have hn := hk.n10
  refine ss_cons (s_if ?_)
  refine b_or ?_
  refine b_not ?_
  refine b_val ?_
  refine e_isi_tt M.b_isinstance M.b_tuple ?_
  refine e_name (i := 2) rfl ?_
  refine ⟨⟨_, rfl⟩, ?_⟩
  refine ⟨_, rfl, ?_⟩
  refine ⟨fun _ => ?_, fun h => absurd h Bool.false_ne_true⟩
  refine b_cmp c_eq ?_ rfl
  refine e_name (i := 2) rfl ?_
  refine e_tup ?_
  refine ea_nil ?_
  refine ⟨lk, ?_⟩
  refine ⟨?_, ?_⟩
  · exact ⟨shaped_TT ys, rfl⟩
  refine ⟨fun h => absurd h (by rw [eqv_nil, isE_map hy0]; exact Bool.false_ne_true), fun _ => ?_⟩
  refine ss_nil ?_
  refine ss_cons (s_for [4] ?_ tg_name)
  refine it_seq ?_
  refine e_name (i := 2) rfl ?_
  refine ⟨_, (by first | exact Or.inl rfl | exact Or.inr rfl), ?_⟩
  refine ⟨fun i δ' => δ' = [.sh t.D, .sh (FT q), .sh (.tuple (ys.map FT)), .sh (.list (LL.map PT)), .any, .any, .any], rfl, fun i d δ' hd hI => ?_, fun δ' hI => ?_⟩
  · subst hI
    obtain ⟨y, hy, rfl⟩ := map_get hd
    obtain ⟨g1, g2, g3⟩ := hys y (List.mem_of_getElem? hy)
    refine ⟨_, rfl, rfl, ?_⟩
    refine ss_cons (s_if ?_)
    refine b_or ?_
    refine b_not ?_
    refine b_val ?_
    refine e_call (d_law_is_row M) lk ?_
    refine ea_cons ?_
    refine e_name (i := 4) rfl ?_
    refine ea_cons ?_
    refine e_len M.b_len ?_
    refine e_ix ?_
    refine e_name (i := 0) rfl ?_
    refine e_int ?_
    refine ⟨_, _, _, (by first | exact Or.inl rfl | exact Or.inr rfl), rfl, rfl, ?_⟩
    refine ⟨_, (by first | exact Or.inl rfl | exact Or.inr rfl), ?_⟩
    refine ea_nil ?_
    rw [List.length_map]
    refine ⟨y, _, rfl, by omega, by omega, ?_⟩
    refine ⟨_, rfl, ?_⟩
    refine ⟨fun _ => ?_, fun h => absurd h Bool.false_ne_true⟩
    refine b_not ?_
    refine b_val ?_
    refine e_call (d_law_is_fair M) lk ?_
    refine ea_cons ?_
    refine e_name (i := 0) rfl ?_
    refine ea_cons ?_
    refine e_name (i := 1) rfl ?_
    refine ea_cons ?_
    refine e_name (i := 4) rfl ?_
    refine ea_nil ?_
    refine ⟨t, s, u, b, q, y, rfl, hk, hql, g1, g3, hb, g2, ?_⟩
    refine ⟨_, rfl, ?_⟩
    refine ⟨fun h => absurd h Bool.false_ne_true, fun _ => ?_⟩
    refine ss_nil ?_
    refine ss_drop (i := 4) rfl ?_
    refine ss_nil ?_
    rfl
  · subst hI
    refine ss_cons (s_for [5] ?_ tg_name)
    refine it_seq ?_
    refine e_name (i := 3) rfl ?_
    refine ⟨_, (by first | exact Or.inl rfl | exact Or.inr rfl), ?_⟩
    refine ⟨fun i δ' => δ' = [.sh t.D, .sh (FT q), .sh (.tuple (ys.map FT)), .sh (.list (LL.map PT)), .any, .any, .any], rfl, fun i d δ' hd hI => ?_, fun δ' hI => ?_⟩
    · subst hI
      obtain ⟨L, hLg, rfl⟩ := map_get hd
      obtain ⟨hL, y0, hy1, hy2⟩ := hLL L (List.mem_of_getElem? hLg)
      have hLn := hL.len
      refine ⟨_, rfl, rfl, ?_⟩
      refine ss_cons (s_if ?_)
      refine b_not ?_
      refine b_val ?_
      refine e_any M.b_any ?_
      refine EF.toE ?_
      refine ef_lc [("_law_telling", 4)] [4] ?_ tg_name
      refine it_seq ?_
      refine e_name (i := 2) rfl ?_
      refine ⟨_, (by first | exact Or.inl rfl | exact Or.inr rfl), ?_⟩
      refine Lc0.to (ys.map fun y => PyData.bool (misB L y)) (by rw [List.length_map, List.length_map]) (by rw [List.length_map]; omega) (fun j d z hd hz => ?_) ?_
      · obtain ⟨y, hy, rfl⟩ := map_get hd
        obtain ⟨y', hy', rfl⟩ := map_get hz
        rw [hy] at hy'
        cases hy'
        obtain ⟨g1, g2, g3⟩ := hys y (List.mem_of_getElem? hy)
        refine ⟨_, rfl, ?_⟩
        refine e_all M.b_all ?_
        refine EF.toE ?_
        refine ef_lc [("_law_at", 6)] [6] ?_ tg_name
        refine it_seq ?_
        refine e_name (i := 5) rfl ?_
        refine ⟨_, (by first | exact Or.inl rfl | exact Or.inr rfl), ?_⟩
        refine Lc0.to (L.map fun p => PyData.bool (decide (ent y p = 0))) (by rw [List.length_map, List.length_map]) (by rw [List.length_map]; omega) (fun k d z hd hz => ?_) ?_
        · obtain ⟨p, hp, rfl⟩ := map_get hd
          obtain ⟨p', hp', rfl⟩ := map_get hz
          rw [hp] at hp'
          cases hp'
          have hpn := hL.2 p (List.mem_of_getElem? hp)
          refine ⟨_, rfl, ?_⟩
          refine e_cmp c_eq ?_ rfl
          refine e_ix ?_
          refine e_ix ?_
          refine e_name (i := 4) rfl ?_
          refine e_name (i := 6) rfl ?_
          refine ⟨_, _, _, .inl rfl, rfl, at_map (getD_get (d := 0) (by omega)), ?_⟩
          refine e_int ?_
          refine ⟨_, _, _, (by first | exact Or.inl rfl | exact Or.inr rfl), rfl, rfl, ?_⟩
          refine e_int ?_
          refine ⟨?_, ?_⟩
          · exact ⟨rfl, rfl⟩
          exact congrArg PyData.bool (eqv_num0' _)
        · refine ⟨L.map fun p => decide (ent y p = 0), by rw [List.map_map] <;> rfl, ?_⟩
          rw [List.all_map]
          rfl
      · have hany : (ys.map fun y => misB L y).any id = true := List.any_eq_true.mpr ⟨true, List.mem_map.mpr ⟨y0, hy1, misB_iff.mpr hy2⟩, rfl⟩
        refine ⟨ys.map fun y => misB L y, by rw [List.map_map] <;> rfl, ?_⟩
        refine ⟨_, rfl, ?_⟩
        refine ⟨fun h => absurd h (by rw [hany]; exact Bool.false_ne_true), fun _ => ?_⟩
        refine ss_nil ?_
        refine ss_drop (i := 5) rfl ?_
        refine ss_nil ?_
        rfl
    · subst hI
      refine ss_cons (s_ret ?_)
      refine e_bool ?_
      exact qq
def F_law_goes_on (ds : List PyData) (Pp : PyData → Prop) : Prop := ∃ (t : Tr) (s u b : Nat) (q : List Rat) (ys : List (List Rat)) (L : List Nat), ds = [t.D, FT q, .tuple (ys.map FT), PT L] ∧ t.Ok s u ∧ q.length = u ∧ (t.rows.length + 1) * (s + b + 1) ≤ 134217727 ∧ ys.length ≤ 2000 ∧ (∀ y ∈ ys, GoodY t q b y) ∧ Lot t.rows.length L ∧ (∃ y ∈ ys, ∀ p ∈ L, ent y p = 0) ∧ Pp (.bool true)
theorem d_law_goes_on (M : Md T) : Ok T "_law_goes_on" ["_law_trial", "_law_question", "_law_told", "_law_lot"] 49 (PureSp T.K F_law_goes_on) := by
  refine okP M (k := 48) (i := 81) (s := _root_.Hd.s_law_goes_on) (N := ["_law_trial", "_law_question", "_law_told", "_law_lot", "_law_others", "_law_free", "_law_at", "_law_telling"]) rfl rfl (by decide +kernel) (fun _ _ _ _ _ _ us hl => match us, hl with | [_, _, _, _], _ => rfl) (fun ds Pp h => by obtain ⟨_, _, _, _, _, _, _, rfl, _⟩ := h; rfl) ?_
  rintro ds Pp ⟨t, s, u, b, q, ys, L, rfl, hk, hql, hb, hyl, hys, hL, hex, qq⟩
  have hn := hk.n10
  have hLn := hL.len
  have hll := left_len (n := t.rows.length) (L := L)
  refine ss_cons (s_set (i := 4) (E.ev ?_))
  refine e_tuple M.b_tuple ?_
  refine EF.toE ?_
  refine ef_lcIf [("_law_at", 6)] [6] ?_ tg_name
  refine it_range1 M.b_range ?_
  refine e_len M.b_len ?_
  refine e_ix ?_
  refine e_name (i := 0) rfl ?_
  refine e_int ?_
  refine ⟨_, _, _, (by first | exact Or.inl rfl | exact Or.inr rfl), rfl, rfl, ?_⟩
  refine ⟨_, (by first | exact Or.inl rfl | exact Or.inr rfl), ?_⟩
  rw [List.length_map]
  refine ⟨_, rfl, by omega, by omega, ?_⟩
  rw [Int.toNat_natCast]
  refine Lc1.on (fun i => decide (i ∉ L)) (fun i : Nat => PyData.int (0 + ((i : Nat) : Int))) (by rw [List.length_range]; omega) (fun i hi => ?_) ?_
  · refine ⟨_, rfl, ?_, fun hp => ?_⟩
    · refine b_cmp c_notIn ?_ rfl
      refine e_name (i := 6) rfl ?_
      refine e_name (i := 3) rfl ?_
      refine ⟨?_, ?_⟩
      · exact inC_PT _ L
      rw [Int.zero_add, inD_PT]
      by_cases h : i ∈ L
      · simp [h]
      · simp [h]
    · refine e_name (i := 6) rfl ?_
      exact rfl
  · rw [left_map]
    refine ⟨_, (by first | exact Or.inl rfl | exact Or.inr rfl), ?_⟩
    refine ss_cons (s_set (i := 5) (hs := sw_cell rfl) (E.ev <| EF.toE ?_))
    refine ef_lcIf [("_law_telling", 7)] [7] ?_ tg_name
    refine it_seq ?_
    refine e_name (i := 2) rfl ?_
    refine ⟨_, (by first | exact Or.inl rfl | exact Or.inr rfl), ?_⟩
    refine Lc1.on (fun y => misB L y) FT (by omega) (fun y hy => ?_) ?_
    · obtain ⟨g1, g2, g3⟩ := hys y hy
      refine ⟨_, rfl, ?_, fun hp => ?_⟩
      · refine b_val ?_
        refine e_all M.b_all ?_
        refine EF.toE ?_
        refine ef_lc [("_law_at", 6)] [6] ?_ tg_name
        refine it_seq ?_
        refine e_name (i := 3) rfl ?_
        refine ⟨_, (by first | exact Or.inl rfl | exact Or.inr rfl), ?_⟩
        refine Lc0.to (L.map fun p => PyData.bool (decide (ent y p = 0))) (by rw [List.length_map, List.length_map]) (by rw [List.length_map]; omega) (fun k d z hd hz => ?_) ?_
        · obtain ⟨p, hp, rfl⟩ := map_get hd
          obtain ⟨p', hp', rfl⟩ := map_get hz
          rw [hp] at hp'
          cases hp'
          have hpn := hL.2 p (List.mem_of_getElem? hp)
          refine ⟨_, rfl, ?_⟩
          refine e_cmp c_eq ?_ rfl
          refine e_ix ?_
          refine e_ix ?_
          refine e_name (i := 7) rfl ?_
          refine e_name (i := 6) rfl ?_
          refine ⟨_, _, _, .inl rfl, rfl, at_map (getD_get (d := 0) (by omega)), ?_⟩
          refine e_int ?_
          refine ⟨_, _, _, (by first | exact Or.inl rfl | exact Or.inr rfl), rfl, rfl, ?_⟩
          refine e_int ?_
          refine ⟨?_, ?_⟩
          · exact ⟨rfl, rfl⟩
          exact congrArg PyData.bool (eqv_num0' _)
        · refine ⟨L.map fun p => decide (ent y p = 0), by rw [List.map_map] <;> rfl, ?_⟩
          refine ⟨_, rfl, ?_⟩
          rw [List.all_map]
          rfl
      · refine e_name (i := 7) rfl ?_
        exact rfl
    · obtain ⟨y1, r1, ey⟩ : ∃ y1 r1, ys.filter (misB L) = y1 :: r1 := by
        obtain ⟨y0, hy1, hy2⟩ := hex
        have hm : y0 ∈ ys.filter (misB L) := List.mem_filter.mpr ⟨hy1, misB_iff.mpr hy2⟩
        cases e : ys.filter (misB L) with
        | nil =>
          rw [e] at hm
          cases hm
        | cons a r => exact ⟨a, r, rfl⟩
      obtain ⟨hm1, hm2⟩ := List.mem_filter.mp (show y1 ∈ ys.filter (misB L) by rw [ey]; exact List.mem_cons_self)
      obtain ⟨g1, g2, g3⟩ := hys y1 hm1
      have h0 := misB_iff.mp hm2
      have efil : ys.filter (fun y => misB L y) = y1 :: r1 := ey
      rw [efil]
      refine ss_cons (s_if ?_)
      refine b_cmp c_eq ?_ rfl
      refine e_name (i := 4) rfl ?_
      refine e_tup ?_
      refine ea_nil ?_
      refine ⟨lk, ?_⟩
      refine ⟨?_, ?_⟩
      · exact ⟨shaped_PT _, rfl⟩
      refine ⟨fun h1 => ?_, fun h1 => ?_⟩
      · refine ss_cons (s_ret ?_)
        refine e_cmp c_ne ?_ rfl
        refine e_name (i := 5) rfl ?_
        refine EF.toE ?_
        refine ef_lst ?_
        refine ea_nil ?_
        refine ⟨lk, ?_⟩
        refine ⟨?_, ?_⟩
        · exact ⟨shaped_LT (y1 :: r1), rfl⟩
        rw [eqv_nilL]
        exact qq
      · refine ss_nil ?_
        refine ss_cons (s_ret ?_)
        refine e_and ?_
        refine e_cmp c_ne ?_ rfl
        refine e_name (i := 5) rfl ?_
        refine EF.toE ?_
        refine ef_lst ?_
        refine ea_nil ?_
        refine ⟨lk, ?_⟩
        refine ⟨?_, ?_⟩
        · exact ⟨shaped_LT (y1 :: r1), rfl⟩
        refine ⟨_, rfl, ⟨fun _ => ?_, fun h => absurd h (by rw [eqv_nilL]; exact fun z => Bool.noConfusion z)⟩⟩
        refine e_cmp c_isB ?_ rfl
        refine e_call (d_is_fair M) lk ?_
        refine ea_cons ?_
        refine e_call (d_plots_of M) lk ?_
        refine ea_cons ?_
        refine e_name (i := 0) rfl ?_
        refine ea_cons ?_
        refine e_name (i := 4) rfl ?_
        refine ea_nil ?_
        have hL0 : leftOf t.rows.length L ≠ [] := fun e => by
          rw [e] at h1
          cases h1
        refine ⟨t, s, u, leftOf t.rows.length L, rfl, hk, left_lot, hL0, ?_⟩
        refine ea_cons ?_
        refine e_name (i := 1) rfl ?_
        refine ea_cons ?_
        refine e_tuple M.b_tuple ?_
        refine EF.toE ?_
        refine ef_lc [("_law_at", 6)] [6] ?_ tg_name
        refine it_seq ?_
        refine e_name (i := 4) rfl ?_
        refine ⟨_, (by first | exact Or.inl rfl | exact Or.inr rfl), ?_⟩
        refine Lc0.to (((leftOf t.rows.length L).map (ent y1)).map frac) (by rw [List.length_map, List.length_map, List.length_map]) (by rw [List.length_map]; omega) (fun k d z hd hz => ?_) ?_
        · obtain ⟨p, hp, rfl⟩ := map_get hd
          obtain ⟨v, hv, rfl⟩ := map_get hz
          obtain ⟨p', hp', rfl⟩ := map_get hv
          rw [hp] at hp'
          cases hp'
          have hpn := (left_mem.mp (List.mem_of_getElem? hp)).1
          refine ⟨_, rfl, ?_⟩
          refine e_ix ?_
          refine e_ix ?_
          refine e_name (i := 5) rfl ?_
          refine e_int ?_
          refine ⟨_, _, _, (by first | exact Or.inl rfl | exact Or.inr rfl), rfl, at0 _ _, ?_⟩
          refine e_name (i := 6) rfl ?_
          refine ⟨_, _, _, .inl rfl, rfl, at_map (getD_get (d := 0) (by omega)), ?_⟩
          exact rfl
        · refine ⟨_, (by first | exact Or.inl rfl | exact Or.inr rfl), ?_⟩
          refine ea_nil ?_
          refine ⟨sub t (leftOf t.rows.length L), s, u, b, q, (leftOf t.rows.length L).map (ent y1), rfl, hk.sub left_lot hL0, hql, by show _ = (List.map _ _).length; rw [List.length_map, List.length_map], fun x hx => ?_, ?_, sub_fair hk hql g2 h0 hL0, ?_⟩
          · obtain ⟨p, hp, rfl⟩ := List.mem_map.mp hx
            exact g3.at (getD_get (by rw [g1]; exact (left_mem.mp hp).1))
          · have hsl : (sub t (leftOf t.rows.length L)).rows.length = (leftOf t.rows.length L).length := by
              show (List.map _ _).length = _
              rw [List.length_map]
            rw [hsl]
            exact Nat.le_trans (Nat.mul_le_mul_right (s + b + 1) (Nat.succ_le_succ hll)) hb
          refine e_bool ?_
          refine ⟨⟨⟨_, rfl⟩, _, rfl⟩, ?_⟩
          exact qq
end Pd

/-! text Qo -/
set_option Elab.async false
set_option linter.all false
set_option maxRecDepth 100000
set_option maxHeartbeats 4000000
namespace Pd
open PySem PySem.Spec PyProof.Rows L2 C8
variable {T : Th}
def ToldD (t : Tr) (q : List Rat) (m : Nat) (d : PyData) : Prop := (SpoilM t q m ∧ d = .none) ∨ ∃ ys : List (List Rat), (∀ y ∈ ys, GoodY t q (gz 6000 5) y) ∧ (∀ L ∈ lotsOf t.rows.length m, ∃ y ∈ ys, ∀ p ∈ L, ent y p = 0) ∧ ys.length ≤ 2000 ∧ d = .tuple (ys.map FT)
theorem told_none {t : Tr} {q : List Rat} {m : Nat} {d : PyData} (hd : ToldD t q m d) (h : (!lastB t q m) = true) : ¬ (isN d = false) := by
  rw [Bool.not_eq_true', lastB_false] at h
  rcases hd with ⟨_, rfl⟩ | ⟨ys, _, z2, _, _⟩
  · exact fun z => Bool.noConfusion z
  · obtain ⟨L, hL, hs⟩ := h
    obtain ⟨y, hy, h0⟩ := z2 L hL
    rename_i z1 _ _
    exact absurd ⟨ent y, h0, (z1 y hy).2.1⟩ hs
theorem told_some {t : Tr} {q : List Rat} {m : Nat} {d : PyData} (hd : ToldD t q m d) (h : (!lastB t q m) = false) : ∃ ys : List (List Rat), (∀ y ∈ ys, GoodY t q (gz 6000 5) y) ∧ (∀ L ∈ lotsOf t.rows.length m, ∃ y ∈ ys, ∀ p ∈ L, ent y p = 0) ∧ ys.length ≤ 2000 ∧ d = .tuple (ys.map FT) := by
  rw [Bool.not_eq_false', lastB_true] at h
  rcases hd with ⟨hs, rfl⟩ | hy
  · exact absurd hs h
  · exact hy
theorem lay_ints (L : List Nat) : PyData.canLayAll0 (L.map natI) = true ∧ PyData.depthAll (L.map natI) = 0 := by
  induction L with
  | nil => exact ⟨rfl, rfl⟩
  | cons a r ih =>
    refine ⟨?_, ?_⟩
    · show (true && PyData.canLayAll0 (r.map natI)) = true
      rw [ih.1]
      rfl
    · show max 0 (PyData.depthAll (r.map natI)) = 0
      rw [ih.2]
      rfl
theorem lay_lots (LL : List (List Nat)) : PyData.canLayAll0 (LL.map PT) = true ∧ PyData.depthAll (LL.map PT) ≤ 1 := by
  induction LL with
  | nil => exact ⟨rfl, Nat.zero_le _⟩
  | cons a r ih =>
    obtain ⟨h1, h2⟩ := lay_ints a
    refine ⟨?_, ?_⟩
    · show (PyData.canLayAll0 (a.map natI) && PyData.canLayAll0 (r.map PT)) = true
      rw [ih.1, h1]
      rfl
    · show max (PyData.depthAll (a.map natI) + 1) (PyData.depthAll (r.map PT)) ≤ 1
      have := ih.2
      rw [h2]
      omega
theorem shaped_LP (LL : List (List Nat)) : SeqAt.shaped (.list (LL.map PT)) = true := by
  obtain ⟨h1, h2⟩ := lay_lots LL
  show (PyData.canLayAll0 (LL.map PT) && decide (PyData.depthAll (LL.map PT) + 1 ≤ 64)) = true
  rw [h1, decide_eq_true (by omega)]
  rfl
def F_law_told_right (ds : List PyData) (Pp : PyData → Prop) : Prop := ∃ (t : Tr) (q : List Rat) (m : Nat) (LL : List (List Nat)), ds = [t.D, FT q, natI m, .list (LL.map PT)] ∧ Drawn t q ∧ m ≤ t.rows.length ∧ (∀ L, L ∈ LL ↔ Lot t.rows.length L ∧ L ≠ [] ∧ L.length = m) ∧ LL.length ≤ 256 ∧ Pp (.list [.bool (lastB t q m)])
theorem d_law_told_right (M : Md T) : Ok T "_law_told_right" ["_law_well_here", "_law_trial", "_law_question", "_law_many", "_law_lots_here"] 50 (WellSp T.K F_law_told_right) := by
  refine okW M (k := 49) (i := 82) (s := _root_.Hd.s_law_told_right) (N := ["_law_well_here", "_law_trial", "_law_question", "_law_many", "_law_lots_here", "_law_lasts", "_law_told", "_law_lot"]) rfl rfl (by decide +kernel) (fun _ _ _ _ _ _ us hl => match us, hl with | [_, _, _, _, _], _ => rfl) (fun ds Pp h => by obtain ⟨_, _, _, _, rfl, _⟩ := h; rfl) ?_
  rintro ds Pp ⟨t, q, m, LL, rfl, hdr, hm, hLL, hl, qq⟩
  obtain ⟨u, hk, hql, hqs, hKK, hgz, hno, hb, hn8⟩ := hdr.facts
  have hn1 := hk.n1
  refine ss_cons (s_set (i := 5) (E.ev ?_))
  refine e_not ?_
  refine e_any M.b_any ?_
  refine EF.toE ?_
  refine ef_lc [("_law_lot", 7)] [7] ?_ tg_name
  refine it_seq ?_
  refine e_name (i := 4) rfl ?_
  refine ⟨_, (by first | exact Or.inl rfl | exact Or.inr rfl), ?_⟩
  refine Lc0.to (LL.map fun L => PyData.bool (spB t q L)) (by rw [List.length_map, List.length_map]) (by rw [List.length_map]; omega) (fun j d z hd hz => ?_) ?_
  · obtain ⟨L, hL, rfl⟩ := map_get hd
    obtain ⟨L', hL', rfl⟩ := map_get hz
    rw [hL] at hL'
    cases hL'
    refine ⟨_, rfl, ?_⟩
    refine e_call (d_law_spoils M) lk ?_
    refine ea_cons ?_
    refine e_name (i := 1) rfl ?_
    refine ea_cons ?_
    refine e_name (i := 2) rfl ?_
    refine ea_cons ?_
    refine e_name (i := 7) rfl ?_
    refine ea_nil ?_
    refine ⟨t, 6000, u, 5, q, L, rfl, hk, hql, hqs, hKK, hgz, ?_⟩
    exact rfl
  · refine ⟨LL.map fun L => spB t q L, by rw [List.map_map] <;> rfl, ?_⟩
    refine ⟨_, rfl, ?_⟩
    rw [any_last hno hLL]
    refine ss_join (fun δ' => ∃ d : PyData, ToldD t q m d ∧ δ' = [.well, .sh t.D, .sh (FT q), .sh (natI m), .sh (.list (LL.map PT)), .sh (.bool (lastB t q m)), .sh d, .any]) ?_ fun δ' hJ => ?_
    · refine s_if ?_
      refine b_cmp c_eq ?_ rfl
      refine e_callW (i := 0) (d_law_draw M) lk rfl ?_
      refine ea_cons ?_
      refine e_int ?_
      refine ea_nil ?_
      refine ⟨_, rfl, by decide, by decide, fun v v1 v2 => ?_⟩
      refine e_int ?_
      refine ⟨?_, ?_⟩
      · exact ⟨rfl, rfl⟩
      refine ⟨fun h0 => ?_, fun h0 => ?_⟩
      · refine ss_cons (s_set (i := 6) (E.ev ?_))
        refine e_call (d_outlasting M) lk ?_
        refine ea_cons ?_
        refine e_name (i := 1) rfl ?_
        refine ea_cons ?_
        refine e_name (i := 2) rfl ?_
        refine ea_cons ?_
        refine e_name (i := 3) rfl ?_
        refine ea_nil ?_
        refine ⟨t, 6000, u, 5, q, m, rfl, hk, hql, hqs, hKK, hgz, hm, hno, fun hs => ?_, fun ys z1 z2 z3 => ?_⟩
        · refine ss_nil ?_
          exact ⟨_, .inl ⟨hs, rfl⟩, rfl⟩
        · refine ss_nil ?_
          exact ⟨_, .inr ⟨ys, z1, z2, z3, rfl⟩, rfl⟩
      · refine ss_cons (s_set (i := 6) (E.ev ?_))
        refine e_call3 (dk_outlasting M) lk ?_
        refine e_name (i := 3) rfl ?_
        refine e_name (i := 2) rfl ?_
        refine e_name (i := 1) rfl ?_
        refine ⟨t, 6000, u, 5, q, m, rfl, hk, hql, hqs, hKK, hgz, hm, hno, fun hs => ?_, fun ys z1 z2 z3 => ?_⟩
        · refine ss_nil ?_
          exact ⟨_, .inl ⟨hs, rfl⟩, rfl⟩
        · refine ss_nil ?_
          exact ⟨_, .inr ⟨ys, z1, z2, z3, rfl⟩, rfl⟩
    · obtain ⟨d, hd, rfl⟩ := hJ
      refine ss_cons (s_if ?_)
      refine b_not ?_
      refine b_val ?_
      refine e_name (i := 5) rfl ?_
      refine ⟨_, rfl, ?_⟩
      refine ⟨fun h1 => ?_, fun h1 => ?_⟩
      · refine ss_cons (s_ret ?_)
        refine e_ifexp ?_
        refine b_cmp c_isN ?_ rfl
        refine e_name (i := 6) rfl ?_
        refine e_none ?_
        refine ⟨rfl, ?_⟩
        refine ⟨fun _ => ?_, fun h => absurd h (told_none hd h1)⟩
        refine EF.toE ?_
        refine ef_lst ?_
        refine ea_cons ?_
        refine e_name (i := 5) rfl ?_
        refine ea_nil ?_
        refine ⟨lk, ?_⟩
        exact qq
      · refine ss_nil ?_
        refine ss_cons (s_if ?_)
        refine b_not ?_
        refine b_val ?_
        refine e_call (d_law_are_enough M) lk ?_
        refine ea_cons ?_
        refine e_name (i := 1) rfl ?_
        refine ea_cons ?_
        refine e_name (i := 2) rfl ?_
        refine ea_cons ?_
        refine e_name (i := 6) rfl ?_
        refine ea_cons ?_
        refine e_name (i := 4) rfl ?_
        refine ea_nil ?_
        obtain ⟨ys, z1, z2, z3, rfl⟩ := told_some hd h1
        have hy0 : ys ≠ [] := fun e => by
          obtain ⟨y, hy, _⟩ := z2 _ (lots_ex hm)
          rw [e] at hy
          cases hy
        have hcov : ∀ L ∈ LL, Lot t.rows.length L ∧ ∃ y ∈ ys, ∀ p ∈ L, ent y p = 0 := fun L hL => by
          obtain ⟨a1, a2, a3⟩ := (hLL L).mp hL
          exact ⟨a1, z2 L (lotsOf_mem.mpr ⟨a1, a3⟩)⟩
        refine ⟨t, 6000, u, gz 6000 5, q, ys, LL, rfl, hk, hql, hb, hy0, z3, z1, hcov, hl, ?_⟩
        refine ⟨_, rfl, ?_⟩
        refine ⟨fun h => absurd h Bool.false_ne_true, fun _ => ?_⟩
        refine ss_nil ?_
        refine ss_cons (s_if ?_)
        refine b_and ?_
        refine b_cmp c_ne ?_ rfl
        refine e_name (i := 4) rfl ?_
        refine EF.toE ?_
        refine ef_lst ?_
        refine ea_nil ?_
        refine ⟨lk, ?_⟩
        refine ⟨?_, ?_⟩
        · exact ⟨shaped_LP LL, rfl⟩
        refine ⟨fun e0 => ?_, fun e0 => ?_⟩
        · refine b_not ?_
          refine b_val ?_
          refine e_call (d_law_goes_on M) lk ?_
          refine ea_cons ?_
          refine e_name (i := 1) rfl ?_
          refine ea_cons ?_
          refine e_name (i := 2) rfl ?_
          refine ea_cons ?_
          refine e_name (i := 6) rfl ?_
          refine ea_cons ?_
          refine e_callW (i := 0) (d_law_one M) lk rfl ?_
          refine ea_cons ?_
          refine e_name (i := 4) rfl ?_
          refine ea_nil ?_
          refine ⟨LL.map PT, _, rfl, .inr rfl, fun e => ?_, by rw [List.length_map]; omega, fun x hx => ?_⟩
          · rw [e] at e0
            cases e0
          obtain ⟨L, hL, rfl⟩ := List.mem_map.mp hx
          obtain ⟨c1, c2⟩ := hcov L hL
          refine ea_nil ?_
          refine ⟨t, 6000, u, gz 6000 5, q, ys, L, rfl, hk, hql, hb, z3, z1, c1, c2, ?_⟩
          refine ⟨_, rfl, ?_⟩
          refine ⟨fun h => absurd h Bool.false_ne_true, fun _ => ?_⟩
          refine ss_nil ?_
          refine ss_cons (s_ret ?_)
          refine EF.toE ?_
          refine ef_lst ?_
          refine ea_cons ?_
          refine e_name (i := 5) rfl ?_
          refine ea_nil ?_
          refine ⟨lk, ?_⟩
          exact qq
        · refine ⟨fun h => absurd h Bool.false_ne_true, fun _ => ?_⟩
          refine ss_nil ?_
          refine ss_cons (s_ret ?_)
          refine EF.toE ?_
          refine ef_lst ?_
          refine ea_cons ?_
          refine e_name (i := 5) rfl ?_
          refine ea_nil ?_
          refine ⟨lk, ?_⟩
          exact qq
end Pd

/-! text Qp -/
set_option Elab.async false
set_option linter.all false
set_option maxRecDepth 100000
set_option maxHeartbeats 4000000
namespace Pd
open PySem PySem.Spec PyProof.Rows L2 C8
variable {T : Th}
def F_law_right (ds : List PyData) (Pp : PyData → Prop) : Prop := ds = [] ∧ Pp (.bool true)
theorem d_law_right (M : Md T) : Ok T "_law_right" ["_law_well_here"] 51 (WellSp T.K F_law_right) := by
  refine okW M (k := 50) (i := 83) (s := _root_.Hd.s_law_right) (N := ["_law_well_here", "_law_trial", "_law_question", "_law_size", "_law_all_lots", "_law_lasting", "_law_some", "_law_many", "_law_word", "_law_told", "_law_lot", "_law_row"]) rfl rfl (by decide +kernel) (fun _ _ _ _ _ _ us hl => match us, hl with | [_], _ => rfl) (fun ds Pp h => by obtain ⟨rfl, _⟩ := h; rfl) ?_
  rintro ds Pp ⟨rfl, qq⟩
  refine ss_cons (s_unp (js := [1, 2]) ?_ (tg_tup (tgs_cons tg_name (tgs_cons tg_name tgs_nil))))
  refine e_callW (i := 0) (d_law_drawn M) lk rfl ?_
  refine ea_nil ?_
  refine ⟨rfl, fun t q hdr => ?_⟩
  obtain ⟨u, hk, hql, hqs, hKK, hgz, hno, hb, hn8⟩ := hdr.facts
  have hn1 := hk.n1
  have hu1 := hk.u1
  refine ⟨_, rfl, ?_⟩
  refine ss_cons (s_set (i := 3) (E.ev ?_))
  refine e_len M.b_len ?_
  refine e_ix ?_
  refine e_name (i := 1) rfl ?_
  refine e_int ?_
  refine ⟨_, _, _, (by first | exact Or.inl rfl | exact Or.inr rfl), rfl, rfl, ?_⟩
  refine ⟨_, (by first | exact Or.inl rfl | exact Or.inr rfl), ?_⟩
  rw [List.length_map]
  refine ss_cons (s_par (i := 4) (j := 5) (E.ev ?_))
  refine e_call (d_law_lots M) lk ?_
  refine ea_cons ?_
  refine e_name (i := 3) rfl ?_
  refine ea_nil ?_
  refine ⟨t.rows.length, rfl, by omega, fun ls hls hll => ?_⟩
  refine EF.ev ?_
  refine ef_lst ?_
  refine ea_nil ?_
  refine ⟨lk, ?_⟩
  refine ss_cons (s_set (i := 6) (E.ev ?_))
  refine e_ifexp ?_
  refine b_cmp c_lt ?_ rfl
  refine e_name (i := 3) rfl ?_
  refine e_int ?_
  refine ⟨⟨⟨_, rfl⟩, _, rfl⟩, ?_⟩
  refine ⟨fun h6 => ?_, fun h6 => ?_⟩
  · refine EF.toE ?_
    refine ef_listRg M.b_list M.b_range ?_
    refine e_add ?_
    refine e_name (i := 3) rfl ?_
    refine e_int ?_
    refine ⟨_, _, rfl, rfl, ?_⟩
    refine ⟨_, rfl, by omega, by omega, ?_⟩
    rw [show (((t.rows.length : Nat) : Int) + 1).toNat = t.rows.length + 1 by omega, rgD_nat]
    refine ss_cons (s_for [7] ?_ tg_name)
    refine it_seq ?_
    refine e_name (i := 6) rfl ?_
    refine ⟨_, (by first | exact Or.inl rfl | exact Or.inr rfl), ?_⟩
    refine ⟨fun i δ' => δ' = [.well, .sh t.D, .sh (FT q), .sh (natI t.rows.length), .sh (.list (ls.map PT)), .own ((((List.range (t.rows.length + 1)).take i).filter (lastB t q)).map natI), .sh (.list ((List.range (t.rows.length + 1)).map natI)), .any, .any, .any, .any, .any], rfl, fun i d δ' hd hI => ?_, fun δ' hI => ?_⟩
    · subst hI
      obtain ⟨m, hm, rfl⟩ := map_get (f := natI) (xs := (List.range (t.rows.length + 1))) hd
      have hi := get_lt hm
      rw [List.length_range] at hi
      have hmn : m ≤ t.rows.length := by
        have := List.mem_range.mp (List.mem_of_getElem? hm)
        omega
      have hfl := List.length_filter_le (lastB t q) ((List.range (t.rows.length + 1)).take i)
      rw [List.length_take] at hfl
      refine ⟨_, rfl, rfl, ?_⟩
      refine ss_cons (s_set (i := 8) (E.ev ?_))
      refine e_callW (i := 0) (d_law_told_right M) lk rfl ?_
      refine ea_cons ?_
      refine e_name (i := 1) rfl ?_
      refine ea_cons ?_
      refine e_name (i := 2) rfl ?_
      refine ea_cons ?_
      refine e_name (i := 7) rfl ?_
      refine ea_cons ?_
      refine EF.toE ?_
      refine ef_lcIf [("_law_lot", 10)] [10] ?_ tg_name
      refine it_seq ?_
      refine e_name (i := 4) rfl ?_
      refine ⟨_, (by first | exact Or.inl rfl | exact Or.inr rfl), ?_⟩
      refine Lc1.on (fun L => decide (L.length = m)) PT (by omega) (fun L hL => ?_) ?_
      · refine ⟨_, rfl, ?_, fun hp => ?_⟩
        · refine b_cmp c_eq ?_ rfl
          refine e_len M.b_len ?_
          refine e_name (i := 10) rfl ?_
          refine ⟨_, (by first | exact Or.inl rfl | exact Or.inr rfl), ?_⟩
          refine e_name (i := 7) rfl ?_
          refine ⟨?_, ?_⟩
          · exact ⟨rfl, rfl⟩
          rw [List.length_map]
          show PyData.eqv (.int ((L.length : Nat) : Int)) (.int ((m : Nat) : Int)) = _
          rw [eqv_int]
          exact decide_eq_decide.mpr (by omega)
        · refine e_name (i := 10) rfl ?_
          exact rfl
      · refine ea_nil ?_
        refine ⟨t, q, m, ls.filter fun L => decide (L.length = m), rfl, hdr, hmn, fun L => ?_, Nat.le_trans (List.length_filter_le _ _) hll, ?_⟩
        · rw [List.mem_filter, hls, decide_eq_true_iff]
          exact ⟨fun h => ⟨h.1.1, h.1.2, h.2⟩, fun h => ⟨⟨h.1, h.2.1⟩, h.2.2⟩⟩
        refine ss_cons (s_if ?_)
        refine b_cmp c_eq ?_ rfl
        refine e_name (i := 8) rfl ?_
        refine EF.toE ?_
        refine ef_lst ?_
        refine ea_nil ?_
        refine ⟨lk, ?_⟩
        refine ⟨?_, ?_⟩
        · exact ⟨rfl, rfl⟩
        refine ⟨fun h => absurd h (by rw [eqv_nilL]; exact Bool.false_ne_true), fun _ => ?_⟩
        refine ss_nil ?_
        refine ss_cons (s_if ?_)
        refine b_val ?_
        refine e_ix ?_
        refine e_name (i := 8) rfl ?_
        refine e_int ?_
        refine ⟨_, _, _, (by first | exact Or.inl rfl | exact Or.inr rfl), rfl, rfl, ?_⟩
        refine ⟨_, rfl, ?_⟩
        refine ⟨fun e1 => ?_, fun e1 => ?_⟩
        · refine ss_cons (s_append (i := 5) rfl ?_)
          refine e_name (i := 7) rfl ?_
          refine ⟨?_, ?_⟩
          · rw [List.length_map]
            omega
          refine ss_nil ?_
          refine ss_drop (i := 7) rfl ?_
          refine ss_drop (i := 8) rfl ?_
          refine ss_nil ?_
          show (_ : List SD) = [.well, .sh t.D, .sh (FT q), .sh (natI t.rows.length), .sh (.list (ls.map PT)), .own ((((List.range (t.rows.length + 1)).take (i + 1)).filter (lastB t q)).map natI), .sh (.list ((List.range (t.rows.length + 1)).map natI)), .any, .any, .any, .any, .any]
          rw [take_snoc hm, List.filter_append, List.filter_cons_of_pos e1, List.map_append]
          rfl
        · refine ss_nil ?_
          refine ss_drop (i := 7) rfl ?_
          refine ss_drop (i := 8) rfl ?_
          refine ss_nil ?_
          show (_ : List SD) = [.well, .sh t.D, .sh (FT q), .sh (natI t.rows.length), .sh (.list (ls.map PT)), .own ((((List.range (t.rows.length + 1)).take (i + 1)).filter (lastB t q)).map natI), .sh (.list ((List.range (t.rows.length + 1)).map natI)), .any, .any, .any, .any, .any]
          rw [take_snoc hm, List.filter_append, List.filter_cons_of_neg (by rw [e1]; exact Bool.false_ne_true), List.filter_nil, List.append_nil]
          rfl
    · subst hI
      rw [List.length_map, List.take_length]
      refine ss_cons (s_set (i := 9) (E.ev ?_))
      refine e_ifexp ?_
      refine b_cmp c_eq ?_ rfl
      refine e_callW (i := 0) (d_law_draw M) lk rfl ?_
      refine ea_cons ?_
      refine e_int ?_
      refine ea_nil ?_
      refine ⟨_, rfl, by decide, by decide, fun v v1 v2 => ?_⟩
      refine e_int ?_
      refine ⟨?_, ?_⟩
      · exact ⟨rfl, rfl⟩
      refine ⟨fun h2 => ?_, fun h2 => ?_⟩
      · refine e_call (d_strength M) lk ?_
        refine ea_cons ?_
        refine e_name (i := 1) rfl ?_
        refine ea_cons ?_
        refine e_name (i := 2) rfl ?_
        refine ea_nil ?_
        refine ⟨t, 6000, u, 5, q, rfl, hk, hql, hqs, hKK, hgz, hno, fun k k1 k2 k3 => ?_⟩
        refine ss_cons (s_if ?_)
        refine b_cmp c_lt ?_ rfl
        refine e_name (i := 3) rfl ?_
        refine e_int ?_
        refine ⟨⟨⟨_, rfl⟩, _, rfl⟩, ?_⟩
        refine ⟨fun _ => ?_, fun h => absurd h (fun z => Bool.noConfusion (z.symm.trans h6))⟩
        refine ss_freeze (i := 5) rfl ?_
        refine ss_cons (s_ret ?_)
        refine e_cmp c_eq ?_ rfl
        refine e_repr M.b_repr ?_
        refine e_name (i := 9) rfl ?_
        refine ⟨_, rfl, ?_, ?_⟩
        · exact log_small (by omega)
        refine e_repr M.b_repr ?_
        refine e_maxL M.b_max ?_
        refine e_name (i := 5) rfl ?_
        refine ⟨0, (List.range k).map fun i : Nat => ((i + 1 : Nat) : Int), .inr (last_list hno k1 k2 k3), ?_⟩
        rw [last_max]
        refine ⟨_, rfl, ?_, ?_⟩
        · exact log_small (by omega)
        refine ⟨?_, ?_⟩
        · exact ⟨str_shaped (by omega), str_shaped (by omega)⟩
        rw [eqv_strs]
        exact qq
      · refine e_call2 (dk_strength M) lk ?_
        refine e_name (i := 2) rfl ?_
        refine e_name (i := 1) rfl ?_
        refine ⟨t, 6000, u, 5, q, rfl, hk, hql, hqs, hKK, hgz, hno, fun k k1 k2 k3 => ?_⟩
        refine ss_cons (s_if ?_)
        refine b_cmp c_lt ?_ rfl
        refine e_name (i := 3) rfl ?_
        refine e_int ?_
        refine ⟨⟨⟨_, rfl⟩, _, rfl⟩, ?_⟩
        refine ⟨fun _ => ?_, fun h => absurd h (fun z => Bool.noConfusion (z.symm.trans h6))⟩
        refine ss_freeze (i := 5) rfl ?_
        refine ss_cons (s_ret ?_)
        refine e_cmp c_eq ?_ rfl
        refine e_repr M.b_repr ?_
        refine e_name (i := 9) rfl ?_
        refine ⟨_, rfl, ?_, ?_⟩
        · exact log_small (by omega)
        refine e_repr M.b_repr ?_
        refine e_maxL M.b_max ?_
        refine e_name (i := 5) rfl ?_
        refine ⟨0, (List.range k).map fun i : Nat => ((i + 1 : Nat) : Int), .inr (last_list hno k1 k2 k3), ?_⟩
        rw [last_max]
        refine ⟨_, rfl, ?_, ?_⟩
        · exact log_small (by omega)
        refine ⟨?_, ?_⟩
        · exact ⟨str_shaped (by omega), str_shaped (by omega)⟩
        rw [eqv_strs]
        exact qq
  · refine EF.toE ?_
    refine ef_lst ?_
    refine ea_cons ?_
    refine e_callW (i := 0) (d_law_one M) lk rfl ?_
    refine ea_cons ?_
    refine e_tup ?_
    refine ea_cons ?_
    refine e_int ?_
    refine ea_cons ?_
    refine e_int ?_
    refine ea_cons ?_
    refine e_int ?_
    refine ea_cons ?_
    refine e_sub ?_
    refine e_name (i := 3) rfl ?_
    refine e_int ?_
    refine ⟨_, _, rfl, rfl, ?_⟩
    refine ea_cons ?_
    refine e_name (i := 3) rfl ?_
    refine ea_nil ?_
    refine ⟨lk, ?_⟩
    refine ea_nil ?_
    refine ⟨_, _, rfl, .inl rfl, by simp, lk, fun x hx => ?_⟩
    have hn6 : 6 ≤ t.rows.length := by
      have : ¬ ((t.rows.length : Nat) : Int) < 6 := of_decide_eq_false h6
      omega
    obtain ⟨m0, rfl, hm0⟩ : ∃ m : Nat, x = natI m ∧ m ≤ t.rows.length := by
      simp only [List.mem_cons, List.mem_nil_iff, or_false] at hx
      rcases hx with rfl | rfl | rfl | rfl | rfl
      · exact ⟨0, rfl, by omega⟩
      · exact ⟨1, rfl, by omega⟩
      · exact ⟨2, rfl, by omega⟩
      · exact ⟨t.rows.length - 1, congrArg PyData.int (by omega), by omega⟩
      · exact ⟨t.rows.length, rfl, by omega⟩
    refine ea_nil ?_
    refine ⟨lk, ?_⟩
    refine ss_cons (s_for [7] ?_ tg_name)
    refine it_seq ?_
    refine e_name (i := 6) rfl ?_
    refine ⟨_, (by first | exact Or.inl rfl | exact Or.inr rfl), ?_⟩
    refine ⟨fun i δ' => δ' = [.well, .sh t.D, .sh (FT q), .sh (natI t.rows.length), .sh (.list (ls.map PT)), .own ((([m0].take i).filter (lastB t q)).map natI), .sh (.list ([m0].map natI)), .any, .any, .any, .any, .any], rfl, fun i d δ' hd hI => ?_, fun δ' hI => ?_⟩
    · subst hI
      obtain ⟨m, hm, rfl⟩ := map_get (f := natI) (xs := [m0]) hd
      have hi := get_lt hm
      have hmn : m ≤ t.rows.length := by
        rw [List.mem_singleton.mp (List.mem_of_getElem? hm)]
        exact hm0
      have hi1 : i < 1 := hi
      have hfl := List.length_filter_le (lastB t q) ([m0].take i)
      rw [List.length_take] at hfl
      refine ⟨_, rfl, rfl, ?_⟩
      refine ss_cons (s_set (i := 8) (E.ev ?_))
      refine e_callW (i := 0) (d_law_told_right M) lk rfl ?_
      refine ea_cons ?_
      refine e_name (i := 1) rfl ?_
      refine ea_cons ?_
      refine e_name (i := 2) rfl ?_
      refine ea_cons ?_
      refine e_name (i := 7) rfl ?_
      refine ea_cons ?_
      refine EF.toE ?_
      refine ef_lcIf [("_law_lot", 10)] [10] ?_ tg_name
      refine it_seq ?_
      refine e_name (i := 4) rfl ?_
      refine ⟨_, (by first | exact Or.inl rfl | exact Or.inr rfl), ?_⟩
      refine Lc1.on (fun L => decide (L.length = m)) PT (by omega) (fun L hL => ?_) ?_
      · refine ⟨_, rfl, ?_, fun hp => ?_⟩
        · refine b_cmp c_eq ?_ rfl
          refine e_len M.b_len ?_
          refine e_name (i := 10) rfl ?_
          refine ⟨_, (by first | exact Or.inl rfl | exact Or.inr rfl), ?_⟩
          refine e_name (i := 7) rfl ?_
          refine ⟨?_, ?_⟩
          · exact ⟨rfl, rfl⟩
          rw [List.length_map]
          show PyData.eqv (.int ((L.length : Nat) : Int)) (.int ((m : Nat) : Int)) = _
          rw [eqv_int]
          exact decide_eq_decide.mpr (by omega)
        · refine e_name (i := 10) rfl ?_
          exact rfl
      · refine ea_nil ?_
        refine ⟨t, q, m, ls.filter fun L => decide (L.length = m), rfl, hdr, hmn, fun L => ?_, Nat.le_trans (List.length_filter_le _ _) hll, ?_⟩
        · rw [List.mem_filter, hls, decide_eq_true_iff]
          exact ⟨fun h => ⟨h.1.1, h.1.2, h.2⟩, fun h => ⟨⟨h.1, h.2.1⟩, h.2.2⟩⟩
        refine ss_cons (s_if ?_)
        refine b_cmp c_eq ?_ rfl
        refine e_name (i := 8) rfl ?_
        refine EF.toE ?_
        refine ef_lst ?_
        refine ea_nil ?_
        refine ⟨lk, ?_⟩
        refine ⟨?_, ?_⟩
        · exact ⟨rfl, rfl⟩
        refine ⟨fun h => absurd h (by rw [eqv_nilL]; exact Bool.false_ne_true), fun _ => ?_⟩
        refine ss_nil ?_
        refine ss_cons (s_if ?_)
        refine b_val ?_
        refine e_ix ?_
        refine e_name (i := 8) rfl ?_
        refine e_int ?_
        refine ⟨_, _, _, (by first | exact Or.inl rfl | exact Or.inr rfl), rfl, rfl, ?_⟩
        refine ⟨_, rfl, ?_⟩
        refine ⟨fun e1 => ?_, fun e1 => ?_⟩
        · refine ss_cons (s_append (i := 5) rfl ?_)
          refine e_name (i := 7) rfl ?_
          refine ⟨?_, ?_⟩
          · rw [List.length_map]
            omega
          refine ss_nil ?_
          refine ss_drop (i := 7) rfl ?_
          refine ss_drop (i := 8) rfl ?_
          refine ss_nil ?_
          show (_ : List SD) = [.well, .sh t.D, .sh (FT q), .sh (natI t.rows.length), .sh (.list (ls.map PT)), .own ((([m0].take (i + 1)).filter (lastB t q)).map natI), .sh (.list ([m0].map natI)), .any, .any, .any, .any, .any]
          rw [take_snoc hm, List.filter_append, List.filter_cons_of_pos e1, List.map_append]
          rfl
        · refine ss_nil ?_
          refine ss_drop (i := 7) rfl ?_
          refine ss_drop (i := 8) rfl ?_
          refine ss_nil ?_
          show (_ : List SD) = [.well, .sh t.D, .sh (FT q), .sh (natI t.rows.length), .sh (.list (ls.map PT)), .own ((([m0].take (i + 1)).filter (lastB t q)).map natI), .sh (.list ([m0].map natI)), .any, .any, .any, .any, .any]
          rw [take_snoc hm, List.filter_append, List.filter_cons_of_neg (by rw [e1]; exact Bool.false_ne_true), List.filter_nil, List.append_nil]
          rfl
    · subst hI
      refine ss_cons (s_set (i := 9) (E.ev ?_))
      refine e_ifexp ?_
      refine b_cmp c_eq ?_ rfl
      refine e_callW (i := 0) (d_law_draw M) lk rfl ?_
      refine ea_cons ?_
      refine e_int ?_
      refine ea_nil ?_
      refine ⟨_, rfl, by decide, by decide, fun v v1 v2 => ?_⟩
      refine e_int ?_
      refine ⟨?_, ?_⟩
      · exact ⟨rfl, rfl⟩
      refine ⟨fun h2 => ?_, fun h2 => ?_⟩
      · refine e_call (d_strength M) lk ?_
        refine ea_cons ?_
        refine e_name (i := 1) rfl ?_
        refine ea_cons ?_
        refine e_name (i := 2) rfl ?_
        refine ea_nil ?_
        refine ⟨t, 6000, u, 5, q, rfl, hk, hql, hqs, hKK, hgz, hno, fun k k1 k2 k3 => ?_⟩
        refine ss_cons (s_if ?_)
        refine b_cmp c_lt ?_ rfl
        refine e_name (i := 3) rfl ?_
        refine e_int ?_
        refine ⟨⟨⟨_, rfl⟩, _, rfl⟩, ?_⟩
        refine ⟨fun h => absurd h (fun z => Bool.noConfusion (z.symm.trans h6)), fun _ => ?_⟩
        refine ss_nil ?_
        refine ss_cons (s_ret ?_)
        refine e_cmp c_eq ?_ rfl
        refine e_repr M.b_repr ?_
        refine e_name (i := 9) rfl ?_
        refine ⟨_, rfl, ?_, ?_⟩
        · exact log_small (by omega)
        refine e_repr M.b_repr ?_
        refine e_sub ?_
        refine e_len M.b_len ?_
        refine EF.toE ?_
        refine ef_lcIf [("_law_row", 11)] [11] ?_ tg_name
        refine it_seq ?_
        refine e_ix ?_
        refine e_name (i := 1) rfl ?_
        refine e_int ?_
        refine ⟨_, _, _, (by first | exact Or.inl rfl | exact Or.inr rfl), rfl, rfl, ?_⟩
        refine ⟨_, (by first | exact Or.inl rfl | exact Or.inr rfl), ?_⟩
        refine Lc1.on (fun r => decide (ent r 0 ≠ 0)) FT (by omega) (fun r hr => ?_) ?_
        · have hrw := hk.wd r hr
          refine ⟨_, rfl, ?_, fun hp => ?_⟩
          · refine b_cmp c_ne ?_ rfl
            refine e_ix ?_
            refine e_ix ?_
            refine e_name (i := 11) rfl ?_
            refine e_int ?_
            refine ⟨_, _, _, (by first | exact Or.inl rfl | exact Or.inr rfl), rfl, at_zm (f := frac) (getD_get (xs := r) (p := 0) (d := 0) (by omega)), ?_⟩
            refine e_int ?_
            refine ⟨_, _, _, (by first | exact Or.inl rfl | exact Or.inr rfl), rfl, rfl, ?_⟩
            refine e_int ?_
            refine ⟨?_, ?_⟩
            · exact ⟨rfl, rfl⟩
            exact eqv_num0 _
          · refine e_name (i := 11) rfl ?_
            exact rfl
        · obtain ⟨u', gk, gq, _, _, g⟩ := hdr
          rcases g with g | ⟨_, _, g1, g2, g3⟩
          · exact absurd g (by omega)
          subst g1
          have hlive := great_k gk gq g2 g3 hno k2 k3
          have el : ((((t.rows.filter fun r => decide (ent r 0 ≠ 0)).map FT).length : Nat) : Int) - 1 = ((k : Nat) : Int) := by
            rw [List.length_map]
            show ((liveN t.rows : Nat) : Int) - 1 = _
            omega
          refine ⟨_, (by first | exact Or.inl rfl | exact Or.inr rfl), ?_⟩
          refine e_int ?_
          refine ⟨_, _, rfl, rfl, ?_⟩
          refine ⟨_, rfl, ?_, ?_⟩
          · rw [el]
            exact log_small (by omega)
          refine ⟨?_, ?_⟩
          · rw [el]
            exact ⟨str_shaped (by omega), str_shaped (by omega)⟩
          rw [el, eqv_strs]
          exact qq
      · refine e_call2 (dk_strength M) lk ?_
        refine e_name (i := 2) rfl ?_
        refine e_name (i := 1) rfl ?_
        refine ⟨t, 6000, u, 5, q, rfl, hk, hql, hqs, hKK, hgz, hno, fun k k1 k2 k3 => ?_⟩
        refine ss_cons (s_if ?_)
        refine b_cmp c_lt ?_ rfl
        refine e_name (i := 3) rfl ?_
        refine e_int ?_
        refine ⟨⟨⟨_, rfl⟩, _, rfl⟩, ?_⟩
        refine ⟨fun h => absurd h (fun z => Bool.noConfusion (z.symm.trans h6)), fun _ => ?_⟩
        refine ss_nil ?_
        refine ss_cons (s_ret ?_)
        refine e_cmp c_eq ?_ rfl
        refine e_repr M.b_repr ?_
        refine e_name (i := 9) rfl ?_
        refine ⟨_, rfl, ?_, ?_⟩
        · exact log_small (by omega)
        refine e_repr M.b_repr ?_
        refine e_sub ?_
        refine e_len M.b_len ?_
        refine EF.toE ?_
        refine ef_lcIf [("_law_row", 11)] [11] ?_ tg_name
        refine it_seq ?_
        refine e_ix ?_
        refine e_name (i := 1) rfl ?_
        refine e_int ?_
        refine ⟨_, _, _, (by first | exact Or.inl rfl | exact Or.inr rfl), rfl, rfl, ?_⟩
        refine ⟨_, (by first | exact Or.inl rfl | exact Or.inr rfl), ?_⟩
        refine Lc1.on (fun r => decide (ent r 0 ≠ 0)) FT (by omega) (fun r hr => ?_) ?_
        · have hrw := hk.wd r hr
          refine ⟨_, rfl, ?_, fun hp => ?_⟩
          · refine b_cmp c_ne ?_ rfl
            refine e_ix ?_
            refine e_ix ?_
            refine e_name (i := 11) rfl ?_
            refine e_int ?_
            refine ⟨_, _, _, (by first | exact Or.inl rfl | exact Or.inr rfl), rfl, at_zm (f := frac) (getD_get (xs := r) (p := 0) (d := 0) (by omega)), ?_⟩
            refine e_int ?_
            refine ⟨_, _, _, (by first | exact Or.inl rfl | exact Or.inr rfl), rfl, rfl, ?_⟩
            refine e_int ?_
            refine ⟨?_, ?_⟩
            · exact ⟨rfl, rfl⟩
            exact eqv_num0 _
          · refine e_name (i := 11) rfl ?_
            exact rfl
        · obtain ⟨u', gk, gq, _, _, g⟩ := hdr
          rcases g with g | ⟨_, _, g1, g2, g3⟩
          · exact absurd g (by omega)
          subst g1
          have hlive := great_k gk gq g2 g3 hno k2 k3
          have el : ((((t.rows.filter fun r => decide (ent r 0 ≠ 0)).map FT).length : Nat) : Int) - 1 = ((k : Nat) : Int) := by
            rw [List.length_map]
            show ((liveN t.rows : Nat) : Int) - 1 = _
            omega
          refine ⟨_, (by first | exact Or.inl rfl | exact Or.inr rfl), ?_⟩
          refine e_int ?_
          refine ⟨_, _, rfl, rfl, ?_⟩
          refine ⟨_, rfl, ?_, ?_⟩
          · rw [el]
            exact log_small (by omega)
          refine ⟨?_, ?_⟩
          · rw [el]
            exact ⟨str_shaped (by omega), str_shaped (by omega)⟩
          rw [el, eqv_strs]
          exact qq
end Pd

/-! text Qq -/
set_option Elab.async false
set_option linter.all false
set_option maxRecDepth 100000
set_option maxHeartbeats 4000000
namespace Pd
open PySem PySem.Spec PyProof.Rows L2 C8
variable {T : Th}
def F_law (ds : List PyData) (Pp : PyData → Prop) : Prop := ∃ ns : List Int, ds = [NL ns] ∧ ns.length ≤ 63 ∧ Pp (.bool true)
theorem s_law (M : Md T) : ∀ (ds : List PyData) (Pp : PyData → Prop), F_law ds Pp → SS (gOf T ["_law_script", "_law_lap"] (defScope _root_.Hd.s_law) 51) (defBody _root_.Hd.s_law) (startD ["_law_script", "_law_lap"] (ds.map .sh)) (fun _ => Pp .none) Pp := by
  rintro ds Pp ⟨ns, rfl, hl, qq⟩
  refine ss_cons (s_ret ?_)
  refine e_all M.b_all ?_
  refine EF.toE ?_
  refine ef_lc [("_law_lap", 1)] [1] ?_ tg_name
  refine it_range1 M.b_range ?_
  refine e_max2 M.b_max ?_
  refine e_int ?_
  refine e_min2 M.b_min ?_
  refine e_len M.b_len ?_
  refine e_name (i := 0) rfl ?_
  refine ⟨_, (by first | exact Or.inl rfl | exact Or.inr rfl), ?_⟩
  refine e_int ?_
  refine ⟨_, _, rfl, rfl, ?_⟩
  refine ⟨_, _, rfl, rfl, ?_⟩
  have hlm : (ns.map PyData.int).length ≤ 63 := by
    rw [List.length_map]
    exact hl
  obtain ⟨j, hj3, ej⟩ : ∃ j : Nat, j ≤ 63 ∧ (if (if (3 : Int) < (((ns.map PyData.int).length : Nat) : Int) then (3 : Int) else (((ns.map PyData.int).length : Nat) : Int)) > 2 then (if (3 : Int) < (((ns.map PyData.int).length : Nat) : Int) then (3 : Int) else (((ns.map PyData.int).length : Nat) : Int)) else 2) = ((j : Nat) : Int) := by
    by_cases h : (3 : Int) < (((ns.map PyData.int).length : Nat) : Int)
    · rw [if_pos h]
      exact ⟨3, by omega, rfl⟩
    · rw [if_neg h]
      by_cases h2 : (((ns.map PyData.int).length : Nat) : Int) > 2
      · rw [if_pos h2]
        exact ⟨_, hlm, rfl⟩
      · rw [if_neg h2]
        exact ⟨2, by omega, rfl⟩
  rw [ej]
  refine ⟨_, rfl, by omega, by omega, ?_⟩
  rw [Int.toNat_natCast]
  refine Lc0.to (List.replicate j (.bool true)) (by rw [List.length_replicate, rgL_len]) (by rw [rgL_len]; omega) (fun i d z hd hz => ?_) ?_
  · obtain ⟨hi, rfl⟩ := rgL_get hd
    rw [Int.zero_add]
    refine ⟨_, rfl, ?_⟩
    refine e_callNW (d_law_right M) lk ?_
    refine ef_callF (d_law_well M) lk ?_
    refine ea_cons ?_
    refine e_name (i := 0) rfl ?_
    refine ea_cons ?_
    refine e_name (i := 1) rfl ?_
    refine ea_nil ?_
    refine ⟨ns, i, rfl, fun a b c => ⟨⟨a, b, c, rfl⟩, rfl, ?_⟩⟩
    exact rep_get hz
  · refine ⟨List.replicate j true, by rw [List.map_replicate], ?_⟩
    rw [rep_all]
    exact qq
end Pd

/-! text Fin -/
set_option Elab.async false
set_option linter.all false
set_option maxRecDepth 100000
set_option maxHeartbeats 4000000
namespace Pd
open PySem PySem.Spec PyProof.Rows L2 C8
theorem ints_dp {K : PySem.W.Frag} {H : Hp} : ∀ ns : List Int, DpAll K H (ns.map V.int) (ns.map PyData.int)
  | [] => .nil
  | n :: r => .cons (.int n) (ints_dp r)
theorem law_sp {K : PySem.W.Frag} {vs : List V} {H : Hp} {Q : VK} {E : XK} (h : _root_.Hd.spLaw K vs H Q E) : PureSp K F_law vs H Q E := by
  obtain ⟨a, ns, rfl, hS, hl, q⟩ := h
  refine ⟨fun _ => False, [NL ns], fun d => d = .bool true, ⟨ns, rfl, hl, rfl⟩, fun _ z => absurd z (fun z => z), ?_, fun d v H' hd _ p => ?_⟩
  · have e : hid (fun _ => False) H = H := funext fun b => hid_out (fun z => z)
    rw [e]
    exact .cons (.lst hS (ints_dp ns)) .nil
  · subst hd
    cases p
    exact q H'
end Pd
theorem PySem.Challenge.cw_trialground_k24_whole_outlasting_by_othe_holds : PySem.Challenge.rw_trialground_k24_whole_outlasting_by_othe.Holds := by
  refine Hd.finish (k := 52) (by constructor <;> decide) fun w K mg base fd kin ns says ex D => ?_
  have M : Pd.Md ⟨PySem.Challenge.pw_trialground_k24_whole_outlasting_by_othe, w, K, mg, base⟩ := ⟨rfl, kin, ns, says, ex⟩
  exact (Pd.pure_fn (T := ⟨PySem.Challenge.pw_trialground_k24_whole_outlasting_by_othe, w, K, mg, base⟩) (N := ["_law_script", "_law_lap"]) D (C8.fnScope_by (by decide +kernel)) (fun ds Pp h => by obtain ⟨_, rfl, _⟩ := h; rfl) (Pd.s_law M)).imp fun vs H Q E h => Pd.law_sp h
