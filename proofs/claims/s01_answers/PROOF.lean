import PyProof.Rows.All
import Wide.All
import OpenK.AllK
import Wide.FinOn
import Open.SpecLaws
import KE.OsGo
import HandS.ForSpec
import HandS.ForMost
import HandS.Conv
import HandS.SetFor
import HandS.Evl
import PyFlatLaws
import PySem.Challenge.RW_bakehours_s01_answers
set_option Elab.async false
set_option linter.all false
set_option maxRecDepth 100000
set_option maxHeartbeats 2000000
/-! ## Two rules that the layer lacks: a constant by what it is worth; xs.count(y) of flat items -/
namespace Bk
open PySem PySem.Spec PyProof.Rows L2 Evl
section
variable {X : Cx}
theorem pe_globE {x : Str} {v : V} {pos : Pos} (hg : Gl X x) (hm : ∃ u, X.mg x = some u ∧ RelV v u) (hd : (x == ("__debug__" : Str)) = false := by decide) : PE X (.Name x pos) (tC v) := by
  obtain ⟨u, h1, h2⟩ := hm
  exact pe_glob hg h1 h2 hd
def rCntF (K : PySem.W.Frag) : V → List V → Hp → VK → Prop := fun x xs H Q => ∃ (p : Addr) (ys : List V) (y : V), x = .ref p ∧ xs = [y] ∧ SqL K H p ys ∧ flatV y = true ∧ ys.all flatV = true ∧ Q (.int (ys.countP (fun z => eqV z y) : Nat)) H
theorem count_eqU {x : V} : ∀ {xs : List V} {us : List Value}, Vals xs us → xs.all flatV = true → us.countP (eqU x) = xs.countP fun y => eqV y x
  | _, _, .nil, _ => rfl
  | y :: xs, u :: us, .cons r t, f => by
    rw [List.all_cons, Bool.and_eq_true] at f
    rw [List.countP_cons, List.countP_cons, eqU_of r f.1, count_eqU t f.2]
theorem mt_countF : MtR X "list.count" (rCntF X.K) := by
  intro pins s σ H x xs v us Q I rx rxs h
  obtain ⟨p, ys, y, rfl, rfl, hs, fy, fa, q⟩ := h
  cases rx
  obtain ⟨u, rfl, ru⟩ := rxs.one
  obtain ⟨its, rv, ⟨⟨cls, dd, data, sl⟩, n, ho, hc, hdn, hd⟩, hlen⟩ := I.list hs
  simp only at hc hd
  subst hc hd
  refine call_meets PySem.F.slot_list_count ⟨_, ho, rfl⟩ PySem.F.entry_list_count (PySem.F.args_list_count_2 _ _)
    (SeqAt.list_countAt p its.toArray n dd sl u (eqU y)) ⟨ho, fun z hz => mem_eqAt ru fy rv fa z (by simpa using hz), ?_⟩
  have ec : its.toArray.toList.countP (eqU y) = ys.countP (fun z => eqV z y) := count_eqU rv fa
  refine ⟨.int (ys.countP (fun z => eqV z y) : Nat), H, I.tok _, ⟨s.toks, ?_⟩, q⟩
  show Value.int ((its.toArray.toList.countP (eqU y) : Nat) : Int) s.toks = Value.int ((ys.countP (fun z => eqV z y) : Nat) : Int) s.toks
  rw [ec]
end
end Bk
/-! ## The text by places, the slots, the readings, and that each body has its reading (printed by gen.py) -/
namespace Bk
open PySem PySem.Spec PyProof.Rows L2 Evl
def top (i : Nat) : Stmt := PySem.Challenge.pw_bakehours_s01_answers.main.body.getD i (.Pass ⟨0, 0, 0, 0⟩)
abbrev s_is_between : Stmt := top 14
abbrev s_is_temperature : Stmt := top 15
abbrev s_is_baking : Stmt := top 16
abbrev s_Dough_init : Stmt := inClass (top 18) 0
abbrev s_copied_dough : Stmt := top 19
abbrev s_rise_in : Stmt := top 20
abbrev s_risen_by : Stmt := top 21
abbrev s_is_ready : Stmt := top 22
abbrev s_window_of : Stmt := top 23
abbrev s_cool_hours : Stmt := top 24
abbrev s_is_cooled : Stmt := top 25
abbrev s_cooled_count : Stmt := top 26
abbrev s_House_init : Stmt := inClass (top 28) 0
abbrev s_new_house : Stmt := top 29
abbrev s_copied_house : Stmt := top 30
abbrev s_hours_of : Stmt := top 31
abbrev s_has_dough : Stmt := top 32
abbrev s_windows_of : Stmt := top 33
abbrev s_set_temperature : Stmt := top 35
abbrev s_set_temperatures : Stmt := top 36
abbrev s_is_new_dough : Stmt := top 37
abbrev s_add_dough : Stmt := top 38
abbrev s_remove_dough : Stmt := top 39
abbrev s_cooling_refusal : Stmt := top 40
abbrev s_cool : Stmt := top 41
abbrev s_stop_cooling : Stmt := top 42
abbrev s_set_baking_time : Stmt := top 43
abbrev s_next_begun : Stmt := top 45
abbrev s_time_of_next : Stmt := top 46
abbrev s_deadline_order : Stmt := top 47
abbrev s_start_of : Stmt := top 49
abbrev s_starts_of : Stmt := top 50
abbrev s_finished_at : Stmt := top 51
abbrev s_longer_orders : Stmt := top 52
abbrev s_all_orders : Stmt := top 53
abbrev s_plan_for : Stmt := top 54
abbrev s_is_order : Stmt := top 55
abbrev s_sets_of : Stmt := top 57
abbrev s_doughs_in : Stmt := top 58
abbrev s_most_doughs_of : Stmt := top 59
abbrev s_window : Stmt := top 61
abbrev s_risen : Stmt := top 62
abbrev s_start_times : Stmt := top 63
abbrev s_plan : Stmt := top 64
abbrev s_most_doughs : Stmt := top 65
abbrev s_earliest_deadline : Stmt := top 66
abbrev s_can_bake : Stmt := top 67
abbrev s_plan_if_cooled : Stmt := top 68
abbrev s_describe : Stmt := top 69
abbrev s_Desk_init : Stmt := inClass (top 74) 0
abbrev s_create : Stmt := top 75
abbrev s_changed : Stmt := top 76
abbrev s_asked : Stmt := top 77
abbrev s_answered : Stmt := top 78
abbrev s_order_at : Stmt := top 79
abbrev s_behind : Stmt := top 80
abbrev s_answers : Stmt := top 81
/-- addresses and function objects of what the top has written -/
structure G where
  f : Nat → Addr
  d : Nat → FuncData
  c : Nat → Addr
/-- what the top has written -/
structure Txt (K : PySem.W.Frag) (mg : Str → Option Value) (g : G) : Prop where
  clDough : Cls K (g.c 0)
  mDough : Mk K (g.c 0) (g.f 3)
  gDough : mg "Dough" = some (.ref (g.c 0))
  nDough_mixed_at : NoAttr K (g.c 0) "mixed_at"
  nDough_minimum : NoAttr K (g.c 0) "minimum"
  nDough_maximum : NoAttr K (g.c 0) "maximum"
  nDough_cooled : NoAttr K (g.c 0) "cooled"
  clHouse : Cls K (g.c 1)
  mHouse : Mk K (g.c 1) (g.f 12)
  gHouse : mg "House" = some (.ref (g.c 1))
  nHouse_temperatures : NoAttr K (g.c 1) "temperatures"
  nHouse_baking : NoAttr K (g.c 1) "baking"
  nHouse_doughs : NoAttr K (g.c 1) "doughs"
  clDesk : Cls K (g.c 2)
  mDesk : Mk K (g.c 2) (g.f 49)
  gDesk : mg "Desk" = some (.ref (g.c 2))
  nDesk_house : NoAttr K (g.c 2) "house"
  c_NO_INSTANCE : ∃ u, mg "NO_INSTANCE" = some u ∧ RelV (.int (-11)) u
  c_MISSING : ∃ u, mg "MISSING" = some u ∧ RelV (.int (-2)) u
  c_OUT_OF_RANGE : ∃ u, mg "OUT_OF_RANGE" = some u ∧ RelV (.int (-22)) u
  c_FULL : ∃ u, mg "FULL" = some u ∧ RelV (.int (-28)) u
  c_NOT_COOLED : ∃ u, mg "NOT_COOLED" = some u ∧ RelV (.int (-6)) u
  c_NOT_POSSIBLE : ∃ u, mg "NOT_POSSIBLE" = some u ∧ RelV (.int (-33)) u
  c_MOST_HOURS : ∃ u, mg "MOST_HOURS" = some u ∧ RelV (.int (36)) u
  c_MOST_BAKING : ∃ u, mg "MOST_BAKING" = some u ∧ RelV (.int (9)) u
  c_MOST_TEMPERATURE : ∃ u, mg "MOST_TEMPERATURE" = some u ∧ RelV (.int (40)) u
  c_MOST_RISEN : ∃ u, mg "MOST_RISEN" = some u ∧ RelV (.int (999)) u
  c_MOST_DOUGHS : ∃ u, mg "MOST_DOUGHS" = some u ∧ RelV (.int (6)) u
  c_FIRST_TEMPERATURE : ∃ u, mg "FIRST_TEMPERATURE" = some u ∧ RelV (.int (24)) u
  c_RESTING : ∃ u, mg "RESTING" = some u ∧ RelV (.int (4)) u
  c_NUMBERS : mg "NUMBERS" = some (.ref (g.c 3))
  t_NUMBERS : ∀ H : Hp, SqT K H (g.c 3) [.int 2, .int 2, .int 3, .int 3, .int 1, .int 3, .int 1, .int 1, .int 1, .int 2, .int 0, .int 0, .int 0, .int 0, .int 1, .int 3, .int 0]
  c_CREATE : ∃ u, mg "CREATE" = some u ∧ RelV (.int (0)) u
  c_START_TIMES : ∃ u, mg "START_TIMES" = some u ∧ RelV (.int (10)) u
  n_enumerate : mg "enumerate" = none
  n_len : mg "len" = none
  n_list : mg "list" = none
  n_max : mg "max" = none
  n_min : mg "min" = none
  n_range : mg "range" = none
  F_is_between : Fun K "is_between" "is_between" s_is_between (g.f 0) (g.d 0)
  b_is_between : Binds K (g.d 0) ["value", "least", "most"] []
  g_is_between : mg "is_between" = some (.ref (g.f 0))
  F_is_temperature : Fun K "is_temperature" "is_temperature" s_is_temperature (g.f 1) (g.d 1)
  b_is_temperature : Binds K (g.d 1) ["value"] []
  g_is_temperature : mg "is_temperature" = some (.ref (g.f 1))
  F_is_baking : Fun K "is_baking" "is_baking" s_is_baking (g.f 2) (g.d 2)
  b_is_baking : Binds K (g.d 2) ["value"] []
  g_is_baking : mg "is_baking" = some (.ref (g.f 2))
  F_Dough_init : Fun K "__init__" "Dough.__init__" s_Dough_init (g.f 3) (g.d 3)
  b_Dough_init : Binds K (g.d 3) ["self", "mixed_at", "minimum", "maximum", "cooled"] []
  F_copied_dough : Fun K "copied_dough" "copied_dough" s_copied_dough (g.f 4) (g.d 4)
  b_copied_dough : Binds K (g.d 4) ["dough"] []
  g_copied_dough : mg "copied_dough" = some (.ref (g.f 4))
  F_rise_in : Fun K "rise_in" "rise_in" s_rise_in (g.f 5) (g.d 5)
  b_rise_in : Binds K (g.d 5) ["temperature"] []
  g_rise_in : mg "rise_in" = some (.ref (g.f 5))
  F_risen_by : Fun K "risen_by" "risen_by" s_risen_by (g.f 6) (g.d 6)
  b_risen_by : Binds K (g.d 6) ["dough", "temperatures", "time"] []
  g_risen_by : mg "risen_by" = some (.ref (g.f 6))
  F_is_ready : Fun K "is_ready" "is_ready" s_is_ready (g.f 7) (g.d 7)
  b_is_ready : Binds K (g.d 7) ["dough", "temperatures", "time"] []
  g_is_ready : mg "is_ready" = some (.ref (g.f 7))
  F_window_of : Fun K "window_of" "window_of" s_window_of (g.f 8) (g.d 8)
  b_window_of : Binds K (g.d 8) ["dough", "temperatures"] []
  g_window_of : mg "window_of" = some (.ref (g.f 8))
  F_cool_hours : Fun K "cool_hours" "cool_hours" s_cool_hours (g.f 9) (g.d 9)
  b_cool_hours : Binds K (g.d 9) ["dough", "start", "to"] []
  g_cool_hours : mg "cool_hours" = some (.ref (g.f 9))
  F_is_cooled : Fun K "is_cooled" "is_cooled" s_is_cooled (g.f 10) (g.d 10)
  b_is_cooled : Binds K (g.d 10) ["dough"] []
  g_is_cooled : mg "is_cooled" = some (.ref (g.f 10))
  F_cooled_count : Fun K "cooled_count" "cooled_count" s_cooled_count (g.f 11) (g.d 11)
  b_cooled_count : Binds K (g.d 11) ["dough"] []
  g_cooled_count : mg "cooled_count" = some (.ref (g.f 11))
  F_House_init : Fun K "__init__" "House.__init__" s_House_init (g.f 12) (g.d 12)
  b_House_init : Binds K (g.d 12) ["self", "temperatures", "baking", "doughs"] []
  F_new_house : Fun K "new_house" "new_house" s_new_house (g.f 13) (g.d 13)
  b_new_house : Binds K (g.d 13) ["hours", "baking"] []
  g_new_house : mg "new_house" = some (.ref (g.f 13))
  F_copied_house : Fun K "copied_house" "copied_house" s_copied_house (g.f 14) (g.d 14)
  b_copied_house : Binds K (g.d 14) ["house"] []
  g_copied_house : mg "copied_house" = some (.ref (g.f 14))
  F_hours_of : Fun K "hours_of" "hours_of" s_hours_of (g.f 15) (g.d 15)
  b_hours_of : Binds K (g.d 15) ["house"] []
  g_hours_of : mg "hours_of" = some (.ref (g.f 15))
  F_has_dough : Fun K "has_dough" "has_dough" s_has_dough (g.f 16) (g.d 16)
  b_has_dough : Binds K (g.d 16) ["house", "number"] []
  g_has_dough : mg "has_dough" = some (.ref (g.f 16))
  F_windows_of : Fun K "windows_of" "windows_of" s_windows_of (g.f 17) (g.d 17)
  b_windows_of : Binds K (g.d 17) ["house"] []
  g_windows_of : mg "windows_of" = some (.ref (g.f 17))
  F_set_temperature : Fun K "set_temperature" "set_temperature" s_set_temperature (g.f 18) (g.d 18)
  b_set_temperature : Binds K (g.d 18) ["house", "hour", "temperature"] []
  g_set_temperature : mg "set_temperature" = some (.ref (g.f 18))
  F_set_temperatures : Fun K "set_temperatures" "set_temperatures" s_set_temperatures (g.f 19) (g.d 19)
  b_set_temperatures : Binds K (g.d 19) ["house", "start", "to", "temperature"] []
  g_set_temperatures : mg "set_temperatures" = some (.ref (g.f 19))
  F_is_new_dough : Fun K "is_new_dough" "is_new_dough" s_is_new_dough (g.f 20) (g.d 20)
  b_is_new_dough : Binds K (g.d 20) ["house", "mixed_at", "minimum", "maximum"] []
  g_is_new_dough : mg "is_new_dough" = some (.ref (g.f 20))
  F_add_dough : Fun K "add_dough" "add_dough" s_add_dough (g.f 21) (g.d 21)
  b_add_dough : Binds K (g.d 21) ["house", "mixed_at", "minimum", "maximum"] []
  g_add_dough : mg "add_dough" = some (.ref (g.f 21))
  F_remove_dough : Fun K "remove_dough" "remove_dough" s_remove_dough (g.f 22) (g.d 22)
  b_remove_dough : Binds K (g.d 22) ["house", "number"] []
  g_remove_dough : mg "remove_dough" = some (.ref (g.f 22))
  F_cooling_refusal : Fun K "cooling_refusal" "cooling_refusal" s_cooling_refusal (g.f 23) (g.d 23)
  b_cooling_refusal : Binds K (g.d 23) ["house", "number", "start", "to"] []
  g_cooling_refusal : mg "cooling_refusal" = some (.ref (g.f 23))
  F_cool : Fun K "cool" "cool" s_cool (g.f 24) (g.d 24)
  b_cool : Binds K (g.d 24) ["house", "number", "start", "to"] []
  g_cool : mg "cool" = some (.ref (g.f 24))
  F_stop_cooling : Fun K "stop_cooling" "stop_cooling" s_stop_cooling (g.f 25) (g.d 25)
  b_stop_cooling : Binds K (g.d 25) ["house", "number"] []
  g_stop_cooling : mg "stop_cooling" = some (.ref (g.f 25))
  F_set_baking_time : Fun K "set_baking_time" "set_baking_time" s_set_baking_time (g.f 26) (g.d 26)
  b_set_baking_time : Binds K (g.d 26) ["house", "baking"] []
  g_set_baking_time : mg "set_baking_time" = some (.ref (g.f 26))
  F_next_begun : Fun K "next_begun" "next_begun" s_next_begun (g.f 27) (g.d 27)
  b_next_begun : Binds K (g.d 27) ["left", "windows", "time"] []
  g_next_begun : mg "next_begun" = some (.ref (g.f 27))
  F_time_of_next : Fun K "time_of_next" "time_of_next" s_time_of_next (g.f 28) (g.d 28)
  b_time_of_next : Binds K (g.d 28) ["left", "windows", "time"] []
  g_time_of_next : mg "time_of_next" = some (.ref (g.f 28))
  F_deadline_order : Fun K "deadline_order" "deadline_order" s_deadline_order (g.f 29) (g.d 29)
  b_deadline_order : Binds K (g.d 29) ["windows", "baking"] []
  g_deadline_order : mg "deadline_order" = some (.ref (g.f 29))
  F_start_of : Fun K "start_of" "start_of" s_start_of (g.f 30) (g.d 30)
  b_start_of : Binds K (g.d 30) ["window", "free", "baking", "hours"] []
  g_start_of : mg "start_of" = some (.ref (g.f 30))
  F_starts_of : Fun K "starts_of" "starts_of" s_starts_of (g.f 31) (g.d 31)
  b_starts_of : Binds K (g.d 31) ["order", "windows", "baking", "hours"] []
  g_starts_of : mg "starts_of" = some (.ref (g.f 31))
  F_finished_at : Fun K "finished_at" "finished_at" s_finished_at (g.f 32) (g.d 32)
  b_finished_at : Binds K (g.d 32) ["starts", "baking"] []
  g_finished_at : mg "finished_at" = some (.ref (g.f 32))
  F_longer_orders : Fun K "longer_orders" "longer_orders" s_longer_orders (g.f 33) (g.d 33)
  b_longer_orders : Binds K (g.d 33) ["order", "numbers"] []
  g_longer_orders : mg "longer_orders" = some (.ref (g.f 33))
  F_all_orders : Fun K "all_orders" "all_orders" s_all_orders (g.f 34) (g.d 34)
  b_all_orders : Binds K (g.d 34) ["numbers"] []
  g_all_orders : mg "all_orders" = some (.ref (g.f 34))
  F_plan_for : Fun K "plan_for" "plan_for" s_plan_for (g.f 35) (g.d 35)
  b_plan_for : Binds K (g.d 35) ["numbers", "windows", "baking", "hours"] []
  g_plan_for : mg "plan_for" = some (.ref (g.f 35))
  F_is_order : Fun K "is_order" "is_order" s_is_order (g.f 36) (g.d 36)
  b_is_order : Binds K (g.d 36) ["order", "count"] []
  g_is_order : mg "is_order" = some (.ref (g.f 36))
  F_sets_of : Fun K "sets_of" "sets_of" s_sets_of (g.f 37) (g.d 37)
  b_sets_of : Binds K (g.d 37) ["count"] []
  g_sets_of : mg "sets_of" = some (.ref (g.f 37))
  F_doughs_in : Fun K "doughs_in" "doughs_in" s_doughs_in (g.f 38) (g.d 38)
  b_doughs_in : Binds K (g.d 38) ["set_number", "count"] []
  g_doughs_in : mg "doughs_in" = some (.ref (g.f 38))
  F_most_doughs_of : Fun K "most_doughs_of" "most_doughs_of" s_most_doughs_of (g.f 39) (g.d 39)
  b_most_doughs_of : Binds K (g.d 39) ["windows", "baking", "hours"] []
  g_most_doughs_of : mg "most_doughs_of" = some (.ref (g.f 39))
  F_window : Fun K "window" "window" s_window (g.f 40) (g.d 40)
  b_window : Binds K (g.d 40) ["house", "number"] []
  g_window : mg "window" = some (.ref (g.f 40))
  F_risen : Fun K "risen" "risen" s_risen (g.f 41) (g.d 41)
  b_risen : Binds K (g.d 41) ["house", "number", "time"] []
  g_risen : mg "risen" = some (.ref (g.f 41))
  F_start_times : Fun K "start_times" "start_times" s_start_times (g.f 42) (g.d 42)
  b_start_times : Binds K (g.d 42) ["house", "order"] []
  g_start_times : mg "start_times" = some (.ref (g.f 42))
  F_plan : Fun K "plan" "plan" s_plan (g.f 43) (g.d 43)
  b_plan : Binds K (g.d 43) ["house"] []
  g_plan : mg "plan" = some (.ref (g.f 43))
  F_most_doughs : Fun K "most_doughs" "most_doughs" s_most_doughs (g.f 44) (g.d 44)
  b_most_doughs : Binds K (g.d 44) ["house"] []
  g_most_doughs : mg "most_doughs" = some (.ref (g.f 44))
  F_earliest_deadline : Fun K "earliest_deadline" "earliest_deadline" s_earliest_deadline (g.f 45) (g.d 45)
  b_earliest_deadline : Binds K (g.d 45) ["house"] []
  g_earliest_deadline : mg "earliest_deadline" = some (.ref (g.f 45))
  F_can_bake : Fun K "can_bake" "can_bake" s_can_bake (g.f 46) (g.d 46)
  b_can_bake : Binds K (g.d 46) ["house", "set_number"] []
  g_can_bake : mg "can_bake" = some (.ref (g.f 46))
  F_plan_if_cooled : Fun K "plan_if_cooled" "plan_if_cooled" s_plan_if_cooled (g.f 47) (g.d 47)
  b_plan_if_cooled : Binds K (g.d 47) ["house", "number", "start", "to"] []
  g_plan_if_cooled : mg "plan_if_cooled" = some (.ref (g.f 47))
  F_describe : Fun K "describe" "describe" s_describe (g.f 48) (g.d 48)
  b_describe : Binds K (g.d 48) ["house"] []
  g_describe : mg "describe" = some (.ref (g.f 48))
  F_Desk_init : Fun K "__init__" "Desk.__init__" s_Desk_init (g.f 49) (g.d 49)
  b_Desk_init : Binds K (g.d 49) ["self"] []
  F_create : Fun K "create" "create" s_create (g.f 50) (g.d 50)
  b_create : Binds K (g.d 50) ["desk", "hours", "baking"] []
  g_create : mg "create" = some (.ref (g.f 50))
  F_changed : Fun K "changed" "changed" s_changed (g.f 51) (g.d 51)
  b_changed : Binds K (g.d 51) ["house", "place", "numbers"] []
  g_changed : mg "changed" = some (.ref (g.f 51))
  F_asked : Fun K "asked" "asked" s_asked (g.f 52) (g.d 52)
  b_asked : Binds K (g.d 52) ["house", "place", "numbers", "order"] []
  g_asked : mg "asked" = some (.ref (g.f 52))
  F_answered : Fun K "answered" "answered" s_answered (g.f 53) (g.d 53)
  b_answered : Binds K (g.d 53) ["desk", "place", "numbers", "order"] []
  g_answered : mg "answered" = some (.ref (g.f 53))
  F_order_at : Fun K "order_at" "order_at" s_order_at (g.f 54) (g.d 54)
  b_order_at : Binds K (g.d 54) ["calls", "at", "place"] []
  g_order_at : mg "order_at" = some (.ref (g.f 54))
  F_behind : Fun K "behind" "behind" s_behind (g.f 55) (g.d 55)
  b_behind : Binds K (g.d 55) ["at", "place", "order"] []
  g_behind : mg "behind" = some (.ref (g.f 55))
  F_answers : Fun K "answers" "answers" s_answers (g.f 56) (g.d 56)
  b_answers : Binds K (g.d 56) ["calls"] []
  g_answers : mg "answers" = some (.ref (g.f 56))
section
variable {P : Program} {w : World} {K : PySem.W.Frag} {mg : Str → Option Value} {base : Heap} {g : G}
/-! ### is_between -/
theorem sc_is_between : FnScope ["value", "least", "most"] ["value", "least", "most"] (defScope s_is_between) := ⟨rfl, rfl, rfl, by decide +kernel, rfl, by decide +kernel, by decide +kernel⟩
abbrev OK_is_between (P : Program) (w : World) (K : PySem.W.Frag) (mg : Str → Option Value) (base : Heap) (g : G) (sp : Sp) : Prop := FnOk P w K mg base CX0 1 (g.f 0) (g.d 0) ["value", "least", "most"] sp
def t_is_between (K : PySem.W.Frag) (g : G) : TS :=
  (tRet (tAndV (tLe (tVar 1) (tVar 0)) (tLe (tVar 0) (tVar 2))))
theorem W_is_between (T : Txt K mg g) {sp : Sp} (len : ∀ vs H Q E, sp vs H Q E → vs.length = 3)
    (h : ∀ vs H Q E, sp vs H Q E → t_is_between K g { nx := fun _ H' => Q .non H', rt := Q } (start ["value", "least", "most"] vs) H) : OK_is_between P w K mg base g sp :=
  T.F_is_between.ok sc_is_between len fun cdv A outer s H vs Q E hr hs => ⟨t_is_between K g, by unfold t_is_between; exact
    (pss_one (ps_ret (pe_and (pe_cmp (pc_le (pv 1) (pv 0)) rfl) (pe_one (pe_cmp (pc_le (pv 0) (pv 2)) rfl))))), h vs H Q E hs⟩
/-! ### is_temperature -/
theorem sc_is_temperature : FnScope ["value"] ["value"] (defScope s_is_temperature) := ⟨rfl, rfl, rfl, by decide +kernel, rfl, by decide +kernel, by decide +kernel⟩
abbrev OK_is_temperature (P : Program) (w : World) (K : PySem.W.Frag) (mg : Str → Option Value) (base : Heap) (g : G) (sp : Sp) : Prop := FnOk P w K mg base CX0 2 (g.f 1) (g.d 1) ["value"] sp
def t_is_temperature (K : PySem.W.Frag) (g : G) (sp_is_between : Sp) : TS :=
  (tRet (tCall sp_is_between [] E0 (tCons (tVar 0) (tCons (tC (.int 0)) (tCons (tC (.int (40))) tNil)))))
theorem W_is_temperature (T : Txt K mg g) {sp_is_between : Sp} (G_is_between : OK_is_between P w K mg base g sp_is_between) {sp : Sp} (len : ∀ vs H Q E, sp vs H Q E → vs.length = 1)
    (h : ∀ vs H Q E, sp vs H Q E → t_is_temperature K g sp_is_between { nx := fun _ H' => Q .non H', rt := Q } (start ["value"] vs) H) : OK_is_temperature P w K mg base g sp :=
  T.F_is_temperature.ok sc_is_temperature len fun cdv A outer s H vs Q E hr hs => ⟨t_is_temperature K g sp_is_between, by unfold t_is_temperature; exact
    (pss_one (ps_ret (pe_call G_is_between hr (by rfl) T.g_is_between T.F_is_between.kp T.b_is_between .nil pass0 (pa_cons (pv 0) (pa_cons pe_int (pa_cons (pe_globE (by rfl) T.c_MOST_TEMPERATURE) pa_nil)))))), h vs H Q E hs⟩
/-! ### is_baking -/
theorem sc_is_baking : FnScope ["value"] ["value"] (defScope s_is_baking) := ⟨rfl, rfl, rfl, by decide +kernel, rfl, by decide +kernel, by decide +kernel⟩
abbrev OK_is_baking (P : Program) (w : World) (K : PySem.W.Frag) (mg : Str → Option Value) (base : Heap) (g : G) (sp : Sp) : Prop := FnOk P w K mg base CX0 2 (g.f 2) (g.d 2) ["value"] sp
def t_is_baking (K : PySem.W.Frag) (g : G) (sp_is_between : Sp) : TS :=
  (tRet (tCall sp_is_between [] E0 (tCons (tVar 0) (tCons (tC (.int 1)) (tCons (tC (.int (9))) tNil)))))
theorem W_is_baking (T : Txt K mg g) {sp_is_between : Sp} (G_is_between : OK_is_between P w K mg base g sp_is_between) {sp : Sp} (len : ∀ vs H Q E, sp vs H Q E → vs.length = 1)
    (h : ∀ vs H Q E, sp vs H Q E → t_is_baking K g sp_is_between { nx := fun _ H' => Q .non H', rt := Q } (start ["value"] vs) H) : OK_is_baking P w K mg base g sp :=
  T.F_is_baking.ok sc_is_baking len fun cdv A outer s H vs Q E hr hs => ⟨t_is_baking K g sp_is_between, by unfold t_is_baking; exact
    (pss_one (ps_ret (pe_call G_is_between hr (by rfl) T.g_is_between T.F_is_between.kp T.b_is_between .nil pass0 (pa_cons (pv 0) (pa_cons pe_int (pa_cons (pe_globE (by rfl) T.c_MOST_BAKING) pa_nil)))))), h vs H Q E hs⟩
/-! ### Dough_init -/
theorem sc_Dough_init : FnScope ["self", "mixed_at", "minimum", "maximum", "cooled"] ["self", "mixed_at", "minimum", "maximum", "cooled"] (defScope s_Dough_init) := ⟨rfl, rfl, rfl, by decide +kernel, rfl, by decide +kernel, by decide +kernel⟩
abbrev OK_Dough_init (P : Program) (w : World) (K : PySem.W.Frag) (mg : Str → Option Value) (base : Heap) (g : G) (sp : Sp) : Prop := FnOk P w K mg base CX0 1 (g.f 3) (g.d 3) ["self", "mixed_at", "minimum", "maximum", "cooled"] sp
def t_Dough_init (K : PySem.W.Frag) (g : G) : TS :=
  (tSeq (sFld K (tVar 0) (tVar 1) "mixed_at")
    (tSeq (sFld K (tVar 0) (tVar 2) "minimum")
    (tSeq (sFld K (tVar 0) (tVar 3) "maximum")
    (sFld K (tVar 0) (tCB (rListS K) (tCons (tVar 4) tNil)) "cooled"))))
theorem W_Dough_init (T : Txt K mg g) {sp : Sp} (len : ∀ vs H Q E, sp vs H Q E → vs.length = 5)
    (h : ∀ vs H Q E, sp vs H Q E → t_Dough_init K g { nx := fun _ H' => Q .non H', rt := Q } (start ["self", "mixed_at", "minimum", "maximum", "cooled"] vs) H) : OK_Dough_init P w K mg base g sp :=
  T.F_Dough_init.ok sc_Dough_init len fun cdv A outer s H vs Q E hr hs => ⟨t_Dough_init K g, by unfold t_Dough_init; exact
    (pss_cons (ps_fld (pv 0) (pv 1) rfl)
      (pss_cons (ps_fld (pv 0) (pv 2) rfl)
      (pss_cons (ps_fld (pv 0) (pv 3) rfl)
      (pss_one (ps_fld (pv 0) (pe_callTy call_list_of (by rfl) T.n_list (by decide +kernel) (pa_cons (pv 4) pa_nil)) rfl))))), h vs H Q E hs⟩
/-! ### copied_dough -/
theorem sc_copied_dough : FnScope ["dough"] ["dough"] (defScope s_copied_dough) := ⟨rfl, rfl, rfl, by decide +kernel, rfl, by decide +kernel, by decide +kernel⟩
abbrev OK_copied_dough (P : Program) (w : World) (K : PySem.W.Frag) (mg : Str → Option Value) (base : Heap) (g : G) (sp : Sp) : Prop := FnOk P w K mg base CX0 3 (g.f 4) (g.d 4) ["dough"] sp
def t_copied_dough (K : PySem.W.Frag) (g : G) (sp_Dough_init : Sp) : TS :=
  (tRet (tMake (g.c 0) sp_Dough_init [] E0 (tCons (tFld K (tVar 0) "mixed_at") (tCons (tFld K (tVar 0) "minimum") (tCons (tFld K (tVar 0) "maximum") (tCons (tFld K (tVar 0) "cooled") tNil))))))
theorem W_copied_dough (T : Txt K mg g) {sp_Dough_init : Sp} (G_Dough_init : OK_Dough_init P w K mg base g sp_Dough_init) {sp : Sp} (len : ∀ vs H Q E, sp vs H Q E → vs.length = 1)
    (h : ∀ vs H Q E, sp vs H Q E → t_copied_dough K g sp_Dough_init { nx := fun _ H' => Q .non H', rt := Q } (start ["dough"] vs) H) : OK_copied_dough P w K mg base g sp :=
  T.F_copied_dough.ok sc_copied_dough len fun cdv A outer s H vs Q E hr hs => ⟨t_copied_dough K g sp_Dough_init, by unfold t_copied_dough; exact
    (pss_one (ps_ret (pe_make T.mDough G_Dough_init hr (by rfl) T.gDough T.b_Dough_init .nil pass0 (pa_cons (pe_fld (pv 0) rfl) (pa_cons (pe_fld (pv 0) rfl) (pa_cons (pe_fld (pv 0) rfl) (pa_cons (pe_fld (pv 0) rfl) pa_nil))))))), h vs H Q E hs⟩
/-! ### rise_in -/
theorem sc_rise_in : FnScope ["temperature"] ["temperature"] (defScope s_rise_in) := ⟨rfl, rfl, rfl, by decide +kernel, rfl, by decide +kernel, by decide +kernel⟩
abbrev OK_rise_in (P : Program) (w : World) (K : PySem.W.Frag) (mg : Str → Option Value) (base : Heap) (g : G) (sp : Sp) : Prop := FnOk P w K mg base CX0 1 (g.f 5) (g.d 5) ["temperature"] sp
def t_rise_in (K : PySem.W.Frag) (g : G) : TS :=
  (tRet (tCB rMax2 (tCons (tC (.int 0)) (tCons (tOp (rI0 fun i j => .int (i - j)) (tVar 0) (tC (.int (4)))) tNil))))
theorem W_rise_in (T : Txt K mg g) {sp : Sp} (len : ∀ vs H Q E, sp vs H Q E → vs.length = 1)
    (h : ∀ vs H Q E, sp vs H Q E → t_rise_in K g { nx := fun _ H' => Q .non H', rt := Q } (start ["temperature"] vs) H) : OK_rise_in P w K mg base g sp :=
  T.F_rise_in.ok sc_rise_in len fun cdv A outer s H vs Q E hr hs => ⟨t_rise_in K g, by unfold t_rise_in; exact
    (pss_one (ps_ret (pe_callB (call_max2 rfl) (by rfl) T.n_max (by decide +kernel) (pa_cons pe_int (pa_cons (pe_op op_sub (pv 0) (pe_globE (by rfl) T.c_RESTING)) pa_nil))))), h vs H Q E hs⟩
/-! ### risen_by -/
theorem sc_risen_by : FnScope ["dough", "temperatures", "time", "amount", "hour"] ["dough", "temperatures", "time"] (defScope s_risen_by) := ⟨rfl, rfl, rfl, by decide +kernel, rfl, by decide +kernel, by decide +kernel⟩
abbrev OK_risen_by (P : Program) (w : World) (K : PySem.W.Frag) (mg : Str → Option Value) (base : Heap) (g : G) (sp : Sp) : Prop := FnOk P w K mg base CX0 2 (g.f 6) (g.d 6) ["dough", "temperatures", "time"] sp
def t_risen_by (K : PySem.W.Frag) (g : G) (sp_rise_in : Sp) : TS :=
  (tSeq (tAsg (tC (.int 0)) (gName 3))
    (tSeq (tFor (iRng2 (tCons (tFld K (tVar 0) "mixed_at") (tCons (tVar 2) tNil))) (gName 4) (tIfS (tNot (tB (tOp (rIxL K) (tFld K (tVar 0) "cooled") (tVar 4)))) (tAug 3 (tCall sp_rise_in [] E0 (tCons (tOp (rIxL K) (tVar 1) (tVar 4)) tNil)) (ipI fun i j => i + j)) tNext))
    (tRet (tVar 3))))
theorem W_risen_by (T : Txt K mg g) {sp_rise_in : Sp} (G_rise_in : OK_rise_in P w K mg base g sp_rise_in) {sp : Sp} (len : ∀ vs H Q E, sp vs H Q E → vs.length = 3)
    (h : ∀ vs H Q E, sp vs H Q E → t_risen_by K g sp_rise_in { nx := fun _ H' => Q .non H', rt := Q } (start ["dough", "temperatures", "time", "amount", "hour"] vs) H) : OK_risen_by P w K mg base g sp :=
  T.F_risen_by.ok sc_risen_by len fun cdv A outer s H vs Q E hr hs => ⟨t_risen_by K g sp_rise_in, by unfold t_risen_by; exact
    (pss_cons (ps_set (i := 3) sc_risen_by.nd rfl (Or.inl rfl) pe_int)
      (pss_cons (ps_for PassesOwn.never rfl (pi_range2 (by rfl) T.n_range (pa_cons (pe_fld (pv 0) rfl) (pa_cons (pv 2) pa_nil))) (pg_name (i := 4) sc_risen_by.nd rfl (Or.inl rfl)) (pss_one (ps_if (pt_not (pt_val (pe_ix ix_list (pe_fld (pv 0) rfl) (pv 4) (fun _ _ => rfl)))) (pss_one (ps_aug (i := 3) sc_risen_by.nd rfl (Or.inl rfl) (pe_call G_rise_in hr (by rfl) T.g_rise_in T.F_rise_in.kp T.b_rise_in .nil pass0 (pa_cons (pe_ix ix_list (pv 1) (pv 4) (fun _ _ => rfl)) pa_nil)) ip_add)) pss_nil)))
      (pss_one (ps_ret (pv 3))))), h vs H Q E hs⟩
/-! ### is_ready -/
theorem sc_is_ready : FnScope ["dough", "temperatures", "time", "amount"] ["dough", "temperatures", "time"] (defScope s_is_ready) := ⟨rfl, rfl, rfl, by decide +kernel, rfl, by decide +kernel, by decide +kernel⟩
abbrev OK_is_ready (P : Program) (w : World) (K : PySem.W.Frag) (mg : Str → Option Value) (base : Heap) (g : G) (sp : Sp) : Prop := FnOk P w K mg base CX0 3 (g.f 7) (g.d 7) ["dough", "temperatures", "time"] sp
def t_is_ready (K : PySem.W.Frag) (g : G) (sp_risen_by : Sp) : TS :=
  (tSeq (tAsg (tCall sp_risen_by [] E0 (tCons (tVar 0) (tCons (tVar 1) (tCons (tVar 2) tNil)))) (gName 3))
    (tRet (tAndV (tLe (tFld K (tVar 0) "minimum") (tVar 3)) (tLe (tVar 3) (tFld K (tVar 0) "maximum")))))
theorem W_is_ready (T : Txt K mg g) {sp_risen_by : Sp} (G_risen_by : OK_risen_by P w K mg base g sp_risen_by) {sp : Sp} (len : ∀ vs H Q E, sp vs H Q E → vs.length = 3)
    (h : ∀ vs H Q E, sp vs H Q E → t_is_ready K g sp_risen_by { nx := fun _ H' => Q .non H', rt := Q } (start ["dough", "temperatures", "time", "amount"] vs) H) : OK_is_ready P w K mg base g sp :=
  T.F_is_ready.ok sc_is_ready len fun cdv A outer s H vs Q E hr hs => ⟨t_is_ready K g sp_risen_by, by unfold t_is_ready; exact
    (pss_cons (ps_set (i := 3) sc_is_ready.nd rfl (Or.inl rfl) (pe_call G_risen_by hr (by rfl) T.g_risen_by T.F_risen_by.kp T.b_risen_by .nil pass0 (pa_cons (pv 0) (pa_cons (pv 1) (pa_cons (pv 2) pa_nil)))))
      (pss_one (ps_ret (pe_and (pe_cmp (pc_le (pe_fld (pv 0) rfl) (pv 3)) rfl) (pe_one (pe_cmp (pc_le (pv 3) (pe_fld (pv 0) rfl)) rfl)))))), h vs H Q E hs⟩
/-! ### window_of -/
theorem sc_window_of : FnScope ["dough", "temperatures", "last", "times", "time"] ["dough", "temperatures"] (defScope s_window_of) := ⟨rfl, rfl, rfl, by decide +kernel, rfl, by decide +kernel, by decide +kernel⟩
abbrev OK_window_of (P : Program) (w : World) (K : PySem.W.Frag) (mg : Str → Option Value) (base : Heap) (g : G) (sp : Sp) : Prop := FnOk P w K mg base CX0 4 (g.f 8) (g.d 8) ["dough", "temperatures"] sp
def t_window_of (K : PySem.W.Frag) (g : G) (sp_is_ready : Sp) : TS :=
  (tSeq (tAsg (tCB (rLenS K) (tCons (tVar 1) tNil)) (gName 2))
    (tSeq (tAsg (tLc (iRng2 (tCons (tFld K (tVar 0) "mixed_at") (tCons (tOp (rI0 fun i j => .int (i + j)) (tVar 2) (tC (.int 1))) tNil))) (gName 4) (tB (tCall sp_is_ready [] E0 (tCons (tVar 0) (tCons (tVar 1) (tCons (tVar 4) tNil))))) (tVar 4) [4]) (gName 3))
    (tSeq (tIfS (tTest (tOp (rEqD K) (tVar 3) (tLst tNil))) (tRet (tC .non)) tNext)
    (tRet (tTup (tCons (tOp (rIxL K) (tVar 3) (tC (.int 0))) (tCons (tOp (rIxL K) (tVar 3) (tUn (rU fun i => .int (-i)) (tC (.int 1)))) tNil)))))))
theorem W_window_of (T : Txt K mg g) {sp_is_ready : Sp} (G_is_ready : OK_is_ready P w K mg base g sp_is_ready) {sp : Sp} (len : ∀ vs H Q E, sp vs H Q E → vs.length = 2)
    (h : ∀ vs H Q E, sp vs H Q E → t_window_of K g sp_is_ready { nx := fun _ H' => Q .non H', rt := Q } (start ["dough", "temperatures", "last", "times", "time"] vs) H) : OK_window_of P w K mg base g sp :=
  T.F_window_of.ok sc_window_of len fun cdv A outer s H vs Q E hr hs => ⟨t_window_of K g sp_is_ready, by unfold t_window_of; exact
    (pss_cons (ps_set (i := 2) sc_window_of.nd rfl (Or.inl rfl) (pe_callB call_len_seq (by rfl) T.n_len PySem.boot_len (pa_cons (pv 1) pa_nil)))
      (pss_cons (ps_setLc (i := 3) (own := [("time", 4)]) (g := gName 4) (by rfl) sc_window_of.nd rfl rfl (sw_true rfl rfl rfl (by decide +kernel)) (pi_range2 (by rfl) T.n_range (pa_cons (pe_fld (pv 0) rfl) (pa_cons (pe_op op_add (pv 2) pe_int) pa_nil))) (blkOk_by (own := [("time", 4)]) (N := ["dough", "temperatures", "last", "times", "time"]) (sc := defScope s_window_of) (by decide +kernel)) (fun _ _ _ _ _ => pg_name (i := 4) sc_window_of.nd rfl (Or.inl rfl)) (fun _ _ _ _ _ => (pts_one (pt_val (pe_call G_is_ready hr (by rfl) T.g_is_ready T.F_is_ready.kp T.b_is_ready .nil pass0 (pa_cons (pv 0) (pa_cons (pv 1) (pa_cons (pv 4) pa_nil))))))) (fun _ _ _ _ _ => (pv 4)))
      (pss_cons (ps_if (pt_cmpR (op_eqD hr.units) (pv 3) (pe_lst pa_nil) (nomark _)) (pss_one (ps_ret pe_non)) pss_nil)
      (pss_one (ps_ret (pe_tup (pa_cons (pe_ix ix_list (pv 3) pe_int (fun _ _ => rfl)) (pa_cons (pe_ix ix_list (pv 3) (pe_un un_neg pe_int) (fun _ _ => rfl)) pa_nil)))))))), h vs H Q E hs⟩
/-! ### cool_hours -/
theorem sc_cool_hours : FnScope ["dough", "start", "to", "hour"] ["dough", "start", "to"] (defScope s_cool_hours) := ⟨rfl, rfl, rfl, by decide +kernel, rfl, by decide +kernel, by decide +kernel⟩
abbrev OK_cool_hours (P : Program) (w : World) (K : PySem.W.Frag) (mg : Str → Option Value) (base : Heap) (g : G) (sp : Sp) : Prop := FnOk P w K mg base CX0 1 (g.f 9) (g.d 9) ["dough", "start", "to"] sp
def t_cool_hours (K : PySem.W.Frag) (g : G) : TS :=
  (tFor (iRng2 (tCons (tVar 1) (tCons (tVar 2) tNil))) (gName 3) (tAsg (tC (.bl true)) (gSub (tFld K (tVar 0) "cooled") (tVar 3) rSetL)))
theorem W_cool_hours (T : Txt K mg g) {sp : Sp} (len : ∀ vs H Q E, sp vs H Q E → vs.length = 3)
    (h : ∀ vs H Q E, sp vs H Q E → t_cool_hours K g { nx := fun _ H' => Q .non H', rt := Q } (start ["dough", "start", "to", "hour"] vs) H) : OK_cool_hours P w K mg base g sp :=
  T.F_cool_hours.ok sc_cool_hours len fun cdv A outer s H vs Q E hr hs => ⟨t_cool_hours K g, by unfold t_cool_hours; exact
    (pss_one (ps_for PassesOwn.never rfl (pi_range2 (by rfl) T.n_range (pa_cons (pv 1) (pa_cons (pv 2) pa_nil))) (pg_name (i := 3) sc_cool_hours.nd rfl (Or.inl rfl)) (pss_one (ps_asg pe_bl (pg_sub (pe_fld (pv 0) rfl) (pv 3) set_list))))), h vs H Q E hs⟩
/-! ### is_cooled -/
theorem sc_is_cooled : FnScope ["dough"] ["dough"] (defScope s_is_cooled) := ⟨rfl, rfl, rfl, by decide +kernel, rfl, by decide +kernel, by decide +kernel⟩
abbrev OK_is_cooled (P : Program) (w : World) (K : PySem.W.Frag) (mg : Str → Option Value) (base : Heap) (g : G) (sp : Sp) : Prop := FnOk P w K mg base CX0 1 (g.f 10) (g.d 10) ["dough"] sp
def t_is_cooled (K : PySem.W.Frag) (g : G) : TS :=
  (tRet (tOp (rIn K false) (tC (.bl true)) (tFld K (tVar 0) "cooled")))
theorem W_is_cooled (T : Txt K mg g) {sp : Sp} (len : ∀ vs H Q E, sp vs H Q E → vs.length = 1)
    (h : ∀ vs H Q E, sp vs H Q E → t_is_cooled K g { nx := fun _ H' => Q .non H', rt := Q } (start ["dough"] vs) H) : OK_is_cooled P w K mg base g sp :=
  T.F_is_cooled.ok sc_is_cooled len fun cdv A outer s H vs Q E hr hs => ⟨t_is_cooled K g, by unfold t_is_cooled; exact
    (pss_one (ps_ret (pe_cmpR op_in_seq pe_bl (pe_fld (pv 0) rfl) (by rfl)))), h vs H Q E hs⟩
/-! ### cooled_count -/
theorem sc_cooled_count : FnScope ["dough"] ["dough"] (defScope s_cooled_count) := ⟨rfl, rfl, rfl, by decide +kernel, rfl, by decide +kernel, by decide +kernel⟩
abbrev OK_cooled_count (P : Program) (w : World) (K : PySem.W.Frag) (mg : Str → Option Value) (base : Heap) (g : G) (sp : Sp) : Prop := FnOk P w K mg base CX0 1 (g.f 11) (g.d 11) ["dough"] sp
def t_cooled_count (K : PySem.W.Frag) (g : G) : TS :=
  (tRet (tBM K "list" (rCntF K) (tFld K (tVar 0) "cooled") (tCons (tC (.bl true)) tNil)))
theorem W_cooled_count (T : Txt K mg g) {sp : Sp} (len : ∀ vs H Q E, sp vs H Q E → vs.length = 1)
    (h : ∀ vs H Q E, sp vs H Q E → t_cooled_count K g { nx := fun _ H' => Q .non H', rt := Q } (start ["dough"] vs) H) : OK_cooled_count P w K mg base g sp :=
  T.F_cooled_count.ok sc_cooled_count len fun cdv A outer s H vs Q E hr hs => ⟨t_cooled_count K g, by unfold t_cooled_count; exact
    (pss_one (ps_ret (pe_bm PySem.F.plainAttrs_list PySem.F.slot_list_count PySem.F.type_list_count mt_countF (pe_fld (pv 0) rfl) (pa_cons pe_bl pa_nil)))), h vs H Q E hs⟩
/-! ### House_init -/
theorem sc_House_init : FnScope ["self", "temperatures", "baking", "doughs"] ["self", "temperatures", "baking", "doughs"] (defScope s_House_init) := ⟨rfl, rfl, rfl, by decide +kernel, rfl, by decide +kernel, by decide +kernel⟩
abbrev OK_House_init (P : Program) (w : World) (K : PySem.W.Frag) (mg : Str → Option Value) (base : Heap) (g : G) (sp : Sp) : Prop := FnOk P w K mg base CX0 1 (g.f 12) (g.d 12) ["self", "temperatures", "baking", "doughs"] sp
def t_House_init (K : PySem.W.Frag) (g : G) : TS :=
  (tSeq (sFld K (tVar 0) (tCB (rListS K) (tCons (tVar 1) tNil)) "temperatures")
    (tSeq (sFld K (tVar 0) (tVar 2) "baking")
    (sFld K (tVar 0) (tCB (rListS K) (tCons (tVar 3) tNil)) "doughs")))
theorem W_House_init (T : Txt K mg g) {sp : Sp} (len : ∀ vs H Q E, sp vs H Q E → vs.length = 4)
    (h : ∀ vs H Q E, sp vs H Q E → t_House_init K g { nx := fun _ H' => Q .non H', rt := Q } (start ["self", "temperatures", "baking", "doughs"] vs) H) : OK_House_init P w K mg base g sp :=
  T.F_House_init.ok sc_House_init len fun cdv A outer s H vs Q E hr hs => ⟨t_House_init K g, by unfold t_House_init; exact
    (pss_cons (ps_fld (pv 0) (pe_callTy call_list_of (by rfl) T.n_list (by decide +kernel) (pa_cons (pv 1) pa_nil)) rfl)
      (pss_cons (ps_fld (pv 0) (pv 2) rfl)
      (pss_one (ps_fld (pv 0) (pe_callTy call_list_of (by rfl) T.n_list (by decide +kernel) (pa_cons (pv 3) pa_nil)) rfl)))), h vs H Q E hs⟩
/-! ### new_house -/
theorem sc_new_house : FnScope ["hours", "baking"] ["hours", "baking"] (defScope s_new_house) := ⟨rfl, rfl, rfl, by decide +kernel, rfl, by decide +kernel, by decide +kernel⟩
abbrev OK_new_house (P : Program) (w : World) (K : PySem.W.Frag) (mg : Str → Option Value) (base : Heap) (g : G) (sp : Sp) : Prop := FnOk P w K mg base CX0 3 (g.f 13) (g.d 13) ["hours", "baking"] sp
def t_new_house (K : PySem.W.Frag) (g : G) (sp_House_init : Sp) : TS :=
  (tRet (tMake (g.c 1) sp_House_init [] E0 (tCons (tOp rRep (tLst (tCons (tC (.int (24))) tNil)) (tVar 0)) (tCons (tVar 1) (tCons (tLst tNil) tNil)))))
theorem W_new_house (T : Txt K mg g) {sp_House_init : Sp} (G_House_init : OK_House_init P w K mg base g sp_House_init) {sp : Sp} (len : ∀ vs H Q E, sp vs H Q E → vs.length = 2)
    (h : ∀ vs H Q E, sp vs H Q E → t_new_house K g sp_House_init { nx := fun _ H' => Q .non H', rt := Q } (start ["hours", "baking"] vs) H) : OK_new_house P w K mg base g sp :=
  T.F_new_house.ok sc_new_house len fun cdv A outer s H vs Q E hr hs => ⟨t_new_house K g sp_House_init, by unfold t_new_house; exact
    (pss_one (ps_ret (pe_make T.mHouse G_House_init hr (by rfl) T.gHouse T.b_House_init .nil pass0 (pa_cons (pe_op op_rep (pe_lst (pa_cons (pe_globE (by rfl) T.c_FIRST_TEMPERATURE) pa_nil)) (pv 0)) (pa_cons (pv 1) (pa_cons (pe_lst pa_nil) pa_nil)))))), h vs H Q E hs⟩
/-! ### copied_house -/
theorem sc_copied_house : FnScope ["house", "dough"] ["house"] (defScope s_copied_house) := ⟨rfl, rfl, rfl, by decide +kernel, rfl, by decide +kernel, by decide +kernel⟩
abbrev OK_copied_house (P : Program) (w : World) (K : PySem.W.Frag) (mg : Str → Option Value) (base : Heap) (g : G) (sp : Sp) : Prop := FnOk P w K mg base CX0 4 (g.f 14) (g.d 14) ["house"] sp
def t_copied_house (K : PySem.W.Frag) (g : G) (sp_House_init : Sp) (sp_copied_dough : Sp) : TS :=
  (tRet (tMake (g.c 1) sp_House_init [] E0 (tCons (tFld K (tVar 0) "temperatures") (tCons (tFld K (tVar 0) "baking") (tCons (tLc (iList K (tFld K (tVar 0) "doughs")) (gName 1) tYes (tCall sp_copied_dough [] E0 (tCons (tVar 1) tNil)) [1]) tNil)))))
theorem W_copied_house (T : Txt K mg g) {sp_House_init : Sp} (G_House_init : OK_House_init P w K mg base g sp_House_init) {sp_copied_dough : Sp} (G_copied_dough : OK_copied_dough P w K mg base g sp_copied_dough) {sp : Sp} (len : ∀ vs H Q E, sp vs H Q E → vs.length = 1)
    (h : ∀ vs H Q E, sp vs H Q E → t_copied_house K g sp_House_init sp_copied_dough { nx := fun _ H' => Q .non H', rt := Q } (start ["house", "dough"] vs) H) : OK_copied_house P w K mg base g sp :=
  T.F_copied_house.ok sc_copied_house len fun cdv A outer s H vs Q E hr hs => ⟨t_copied_house K g sp_House_init sp_copied_dough, by unfold t_copied_house; exact
    (pss_one (ps_ret (pe_make T.mHouse G_House_init (hr.mono (by decide)) (by rfl) T.gHouse T.b_House_init .nil pass0 (pa_cons (pe_fld (pv 0) rfl) (pa_cons (pe_fld (pv 0) rfl) (pa_cons (pe_lc (own := [("dough", 1)]) (g := gName 1) (by rfl) sc_copied_house.nd (pi_list (pe_fld (pv 0) rfl)) (blkOk_by (own := [("dough", 1)]) (N := ["house", "dough"]) (sc := defScope s_copied_house) (by decide +kernel)) (fun _ _ _ _ _ => pg_name (i := 1) sc_copied_house.nd rfl (Or.inl rfl)) (fun _ _ _ _ _ => pts_nil) (fun _ _ _ _ _ => (pe_call G_copied_dough hr (by rfl) T.g_copied_dough T.F_copied_dough.kp T.b_copied_dough .nil pass0 (pa_cons (pv 1) pa_nil)))) pa_nil)))))), h vs H Q E hs⟩
/-! ### hours_of -/
theorem sc_hours_of : FnScope ["house"] ["house"] (defScope s_hours_of) := ⟨rfl, rfl, rfl, by decide +kernel, rfl, by decide +kernel, by decide +kernel⟩
abbrev OK_hours_of (P : Program) (w : World) (K : PySem.W.Frag) (mg : Str → Option Value) (base : Heap) (g : G) (sp : Sp) : Prop := FnOk P w K mg base CX0 1 (g.f 15) (g.d 15) ["house"] sp
def t_hours_of (K : PySem.W.Frag) (g : G) : TS :=
  (tRet (tCB (rLenS K) (tCons (tFld K (tVar 0) "temperatures") tNil)))
theorem W_hours_of (T : Txt K mg g) {sp : Sp} (len : ∀ vs H Q E, sp vs H Q E → vs.length = 1)
    (h : ∀ vs H Q E, sp vs H Q E → t_hours_of K g { nx := fun _ H' => Q .non H', rt := Q } (start ["house"] vs) H) : OK_hours_of P w K mg base g sp :=
  T.F_hours_of.ok sc_hours_of len fun cdv A outer s H vs Q E hr hs => ⟨t_hours_of K g, by unfold t_hours_of; exact
    (pss_one (ps_ret (pe_callB call_len_seq (by rfl) T.n_len PySem.boot_len (pa_cons (pe_fld (pv 0) rfl) pa_nil)))), h vs H Q E hs⟩
/-! ### has_dough -/
theorem sc_has_dough : FnScope ["house", "number"] ["house", "number"] (defScope s_has_dough) := ⟨rfl, rfl, rfl, by decide +kernel, rfl, by decide +kernel, by decide +kernel⟩
abbrev OK_has_dough (P : Program) (w : World) (K : PySem.W.Frag) (mg : Str → Option Value) (base : Heap) (g : G) (sp : Sp) : Prop := FnOk P w K mg base CX0 1 (g.f 16) (g.d 16) ["house", "number"] sp
def t_has_dough (K : PySem.W.Frag) (g : G) : TS :=
  (tRet (tAndV (tLe (tC (.int 0)) (tVar 1)) (tLt (tVar 1) (tCB (rLenS K) (tCons (tFld K (tVar 0) "doughs") tNil)))))
theorem W_has_dough (T : Txt K mg g) {sp : Sp} (len : ∀ vs H Q E, sp vs H Q E → vs.length = 2)
    (h : ∀ vs H Q E, sp vs H Q E → t_has_dough K g { nx := fun _ H' => Q .non H', rt := Q } (start ["house", "number"] vs) H) : OK_has_dough P w K mg base g sp :=
  T.F_has_dough.ok sc_has_dough len fun cdv A outer s H vs Q E hr hs => ⟨t_has_dough K g, by unfold t_has_dough; exact
    (pss_one (ps_ret (pe_and (pe_cmp (pc_le pe_int (pv 1)) rfl) (pe_one (pe_cmp (pc_lt (pv 1) (pe_callB call_len_seq (by rfl) T.n_len PySem.boot_len (pa_cons (pe_fld (pv 0) rfl) pa_nil))) rfl))))), h vs H Q E hs⟩
/-! ### windows_of -/
theorem sc_windows_of : FnScope ["house", "dough"] ["house"] (defScope s_windows_of) := ⟨rfl, rfl, rfl, by decide +kernel, rfl, by decide +kernel, by decide +kernel⟩
abbrev OK_windows_of (P : Program) (w : World) (K : PySem.W.Frag) (mg : Str → Option Value) (base : Heap) (g : G) (sp : Sp) : Prop := FnOk P w K mg base CX0 5 (g.f 17) (g.d 17) ["house"] sp
def t_windows_of (K : PySem.W.Frag) (g : G) (sp_window_of : Sp) : TS :=
  (tRet (tLc (iList K (tFld K (tVar 0) "doughs")) (gName 1) tYes (tCall sp_window_of [] E0 (tCons (tVar 1) (tCons (tFld K (tVar 0) "temperatures") tNil))) [1]))
theorem W_windows_of (T : Txt K mg g) {sp_window_of : Sp} (G_window_of : OK_window_of P w K mg base g sp_window_of) {sp : Sp} (len : ∀ vs H Q E, sp vs H Q E → vs.length = 1)
    (h : ∀ vs H Q E, sp vs H Q E → t_windows_of K g sp_window_of { nx := fun _ H' => Q .non H', rt := Q } (start ["house", "dough"] vs) H) : OK_windows_of P w K mg base g sp :=
  T.F_windows_of.ok sc_windows_of len fun cdv A outer s H vs Q E hr hs => ⟨t_windows_of K g sp_window_of, by unfold t_windows_of; exact
    (pss_one (ps_ret (pe_lc (own := [("dough", 1)]) (g := gName 1) (by rfl) sc_windows_of.nd (pi_list (pe_fld (pv 0) rfl)) (blkOk_by (own := [("dough", 1)]) (N := ["house", "dough"]) (sc := defScope s_windows_of) (by decide +kernel)) (fun _ _ _ _ _ => pg_name (i := 1) sc_windows_of.nd rfl (Or.inl rfl)) (fun _ _ _ _ _ => pts_nil) (fun _ _ _ _ _ => (pe_call G_window_of hr (by rfl) T.g_window_of T.F_window_of.kp T.b_window_of .nil pass0 (pa_cons (pv 1) (pa_cons (pe_fld (pv 0) rfl) pa_nil))))))), h vs H Q E hs⟩
/-! ### set_temperature -/
theorem sc_set_temperature : FnScope ["house", "hour", "temperature", "former"] ["house", "hour", "temperature"] (defScope s_set_temperature) := ⟨rfl, rfl, rfl, by decide +kernel, rfl, by decide +kernel, by decide +kernel⟩
abbrev OK_set_temperature (P : Program) (w : World) (K : PySem.W.Frag) (mg : Str → Option Value) (base : Heap) (g : G) (sp : Sp) : Prop := FnOk P w K mg base CX0 3 (g.f 18) (g.d 18) ["house", "hour", "temperature"] sp
def t_set_temperature (K : PySem.W.Frag) (g : G) (sp_is_between : Sp) (sp_is_temperature : Sp) (sp_hours_of : Sp) : TS :=
  (tSeq (tIfS (tNot (tB (tCall sp_is_between [] E0 (tCons (tVar 1) (tCons (tC (.int 0)) (tCons (tOp (rI0 fun i j => .int (i - j)) (tCall sp_hours_of [] E0 (tCons (tVar 0) tNil)) (tC (.int 1))) tNil)))))) (tRet (tLst (tCons (tC (.int (-2))) tNil))) tNext)
    (tSeq (tIfS (tNot (tB (tCall sp_is_temperature [] E0 (tCons (tVar 2) tNil)))) (tRet (tLst (tCons (tC (.int (-22))) tNil))) tNext)
    (tSeq (tAsg (tOp (rIxL K) (tFld K (tVar 0) "temperatures") (tVar 1)) (gName 3))
    (tSeq (tAsg (tVar 2) (gSub (tFld K (tVar 0) "temperatures") (tVar 1) rSetL))
    (tRet (tLst (tCons (tVar 3) tNil)))))))
theorem W_set_temperature (T : Txt K mg g) {sp_is_between : Sp} (G_is_between : OK_is_between P w K mg base g sp_is_between) {sp_is_temperature : Sp} (G_is_temperature : OK_is_temperature P w K mg base g sp_is_temperature) {sp_hours_of : Sp} (G_hours_of : OK_hours_of P w K mg base g sp_hours_of) {sp : Sp} (len : ∀ vs H Q E, sp vs H Q E → vs.length = 3)
    (h : ∀ vs H Q E, sp vs H Q E → t_set_temperature K g sp_is_between sp_is_temperature sp_hours_of { nx := fun _ H' => Q .non H', rt := Q } (start ["house", "hour", "temperature", "former"] vs) H) : OK_set_temperature P w K mg base g sp :=
  T.F_set_temperature.ok sc_set_temperature len fun cdv A outer s H vs Q E hr hs => ⟨t_set_temperature K g sp_is_between sp_is_temperature sp_hours_of, by unfold t_set_temperature; exact
    (pss_cons (ps_if (pt_not (pt_val (pe_call G_is_between (hr.mono (by decide)) (by rfl) T.g_is_between T.F_is_between.kp T.b_is_between .nil pass0 (pa_cons (pv 1) (pa_cons pe_int (pa_cons (pe_op op_sub (pe_call G_hours_of (hr.mono (by decide)) (by rfl) T.g_hours_of T.F_hours_of.kp T.b_hours_of .nil pass0 (pa_cons (pv 0) pa_nil)) pe_int) pa_nil)))))) (pss_one (ps_ret (pe_lst (pa_cons (pe_globE (by rfl) T.c_MISSING) pa_nil)))) pss_nil)
      (pss_cons (ps_if (pt_not (pt_val (pe_call G_is_temperature hr (by rfl) T.g_is_temperature T.F_is_temperature.kp T.b_is_temperature .nil pass0 (pa_cons (pv 2) pa_nil)))) (pss_one (ps_ret (pe_lst (pa_cons (pe_globE (by rfl) T.c_OUT_OF_RANGE) pa_nil)))) pss_nil)
      (pss_cons (ps_set (i := 3) sc_set_temperature.nd rfl (Or.inl rfl) (pe_ix ix_list (pe_fld (pv 0) rfl) (pv 1) (fun _ _ => rfl)))
      (pss_cons (ps_asg (pv 2) (pg_sub (pe_fld (pv 0) rfl) (pv 1) set_list))
      (pss_one (ps_ret (pe_lst (pa_cons (pv 3) pa_nil)))))))), h vs H Q E hs⟩
/-! ### set_temperatures -/
theorem sc_set_temperatures : FnScope ["house", "start", "to", "temperature", "hour"] ["house", "start", "to", "temperature"] (defScope s_set_temperatures) := ⟨rfl, rfl, rfl, by decide +kernel, rfl, by decide +kernel, by decide +kernel⟩
abbrev OK_set_temperatures (P : Program) (w : World) (K : PySem.W.Frag) (mg : Str → Option Value) (base : Heap) (g : G) (sp : Sp) : Prop := FnOk P w K mg base CX0 3 (g.f 19) (g.d 19) ["house", "start", "to", "temperature"] sp
def t_set_temperatures (K : PySem.W.Frag) (g : G) (sp_hours_of : Sp) (sp_is_temperature : Sp) : TS :=
  (tSeq (tIfS (tOr (tB (tLt (tVar 1) (tC (.int 0)))) (tOr (tB (tGt (tVar 1) (tVar 2))) (tOr (tB (tGt (tVar 2) (tCall sp_hours_of [] E0 (tCons (tVar 0) tNil)))) (tNot (tB (tCall sp_is_temperature [] E0 (tCons (tVar 3) tNil))))))) (tRet (tLst (tCons (tC (.int (-22))) tNil))) tNext)
    (tSeq (tFor (iRng2 (tCons (tVar 1) (tCons (tVar 2) tNil))) (gName 4) (tAsg (tVar 3) (gSub (tFld K (tVar 0) "temperatures") (tVar 4) rSetL)))
    (tRet (tLst (tCons (tOp (rI0 fun i j => .int (i - j)) (tVar 2) (tVar 1)) tNil)))))
theorem W_set_temperatures (T : Txt K mg g) {sp_hours_of : Sp} (G_hours_of : OK_hours_of P w K mg base g sp_hours_of) {sp_is_temperature : Sp} (G_is_temperature : OK_is_temperature P w K mg base g sp_is_temperature) {sp : Sp} (len : ∀ vs H Q E, sp vs H Q E → vs.length = 4)
    (h : ∀ vs H Q E, sp vs H Q E → t_set_temperatures K g sp_hours_of sp_is_temperature { nx := fun _ H' => Q .non H', rt := Q } (start ["house", "start", "to", "temperature", "hour"] vs) H) : OK_set_temperatures P w K mg base g sp :=
  T.F_set_temperatures.ok sc_set_temperatures len fun cdv A outer s H vs Q E hr hs => ⟨t_set_temperatures K g sp_hours_of sp_is_temperature, by unfold t_set_temperatures; exact
    (pss_cons (ps_if (PW.pt (pw_or (pt_cmp (pc_lt (pv 1) pe_int) rfl) (pw_or (pt_cmp (pc_gt (pv 1) (pv 2)) rfl) (pw_or (pt_cmp (pc_gt (pv 2) (pe_call G_hours_of (hr.mono (by decide)) (by rfl) T.g_hours_of T.F_hours_of.kp T.b_hours_of .nil pass0 (pa_cons (pv 0) pa_nil))) rfl) (pw_or1 (pt_not (pt_val (pe_call G_is_temperature hr (by rfl) T.g_is_temperature T.F_is_temperature.kp T.b_is_temperature .nil pass0 (pa_cons (pv 3) pa_nil))))))))) (pss_one (ps_ret (pe_lst (pa_cons (pe_globE (by rfl) T.c_OUT_OF_RANGE) pa_nil)))) pss_nil)
      (pss_cons (ps_for PassesOwn.never rfl (pi_range2 (by rfl) T.n_range (pa_cons (pv 1) (pa_cons (pv 2) pa_nil))) (pg_name (i := 4) sc_set_temperatures.nd rfl (Or.inl rfl)) (pss_one (ps_asg (pv 3) (pg_sub (pe_fld (pv 0) rfl) (pv 4) set_list))))
      (pss_one (ps_ret (pe_lst (pa_cons (pe_op op_sub (pv 2) (pv 1)) pa_nil)))))), h vs H Q E hs⟩
/-! ### is_new_dough -/
theorem sc_is_new_dough : FnScope ["house", "mixed_at", "minimum", "maximum"] ["house", "mixed_at", "minimum", "maximum"] (defScope s_is_new_dough) := ⟨rfl, rfl, rfl, by decide +kernel, rfl, by decide +kernel, by decide +kernel⟩
abbrev OK_is_new_dough (P : Program) (w : World) (K : PySem.W.Frag) (mg : Str → Option Value) (base : Heap) (g : G) (sp : Sp) : Prop := FnOk P w K mg base CX0 2 (g.f 20) (g.d 20) ["house", "mixed_at", "minimum", "maximum"] sp
def t_is_new_dough (K : PySem.W.Frag) (g : G) (sp_is_between : Sp) (sp_hours_of : Sp) : TS :=
  (tSeq (tIfS (tNot (tB (tCall sp_is_between [] E0 (tCons (tVar 1) (tCons (tC (.int 0)) (tCons (tOp (rI0 fun i j => .int (i - j)) (tCall sp_hours_of [] E0 (tCons (tVar 0) tNil)) (tC (.int 1))) tNil)))))) (tRet (tC (.bl false))) tNext)
    (tRet (tAndV (tLe (tC (.int 1)) (tVar 2)) (tAndV (tLe (tVar 2) (tVar 3)) (tLe (tVar 3) (tC (.int (999))))))))
theorem W_is_new_dough (T : Txt K mg g) {sp_is_between : Sp} (G_is_between : OK_is_between P w K mg base g sp_is_between) {sp_hours_of : Sp} (G_hours_of : OK_hours_of P w K mg base g sp_hours_of) {sp : Sp} (len : ∀ vs H Q E, sp vs H Q E → vs.length = 4)
    (h : ∀ vs H Q E, sp vs H Q E → t_is_new_dough K g sp_is_between sp_hours_of { nx := fun _ H' => Q .non H', rt := Q } (start ["house", "mixed_at", "minimum", "maximum"] vs) H) : OK_is_new_dough P w K mg base g sp :=
  T.F_is_new_dough.ok sc_is_new_dough len fun cdv A outer s H vs Q E hr hs => ⟨t_is_new_dough K g sp_is_between sp_hours_of, by unfold t_is_new_dough; exact
    (pss_cons (ps_if (pt_not (pt_val (pe_call G_is_between hr (by rfl) T.g_is_between T.F_is_between.kp T.b_is_between .nil pass0 (pa_cons (pv 1) (pa_cons pe_int (pa_cons (pe_op op_sub (pe_call G_hours_of hr (by rfl) T.g_hours_of T.F_hours_of.kp T.b_hours_of .nil pass0 (pa_cons (pv 0) pa_nil)) pe_int) pa_nil)))))) (pss_one (ps_ret pe_bl)) pss_nil)
      (pss_one (ps_ret (pe_and (pe_cmp (pc_le pe_int (pv 2)) rfl) (pe_and (pe_cmp (pc_le (pv 2) (pv 3)) rfl) (pe_one (pe_cmp (pc_le (pv 3) (pe_globE (by rfl) T.c_MOST_RISEN)) rfl))))))), h vs H Q E hs⟩
/-! ### add_dough -/
theorem sc_add_dough : FnScope ["house", "mixed_at", "minimum", "maximum"] ["house", "mixed_at", "minimum", "maximum"] (defScope s_add_dough) := ⟨rfl, rfl, rfl, by decide +kernel, rfl, by decide +kernel, by decide +kernel⟩
abbrev OK_add_dough (P : Program) (w : World) (K : PySem.W.Frag) (mg : Str → Option Value) (base : Heap) (g : G) (sp : Sp) : Prop := FnOk P w K mg base CX0 3 (g.f 21) (g.d 21) ["house", "mixed_at", "minimum", "maximum"] sp
def t_add_dough (K : PySem.W.Frag) (g : G) (sp_is_new_dough : Sp) (sp_Dough_init : Sp) (sp_hours_of : Sp) : TS :=
  (tSeq (tIfS (tNot (tB (tCall sp_is_new_dough [] E0 (tCons (tVar 0) (tCons (tVar 1) (tCons (tVar 2) (tCons (tVar 3) tNil))))))) (tRet (tLst (tCons (tC (.int (-22))) tNil))) tNext)
    (tSeq (tIfS (tB (tEqI (tCB (rLenS K) (tCons (tFld K (tVar 0) "doughs") tNil)) (tC (.int (6))))) (tRet (tLst (tCons (tC (.int (-28))) tNil))) tNext)
    (tSeq (tDrop (tBM K "list" rAppend (tFld K (tVar 0) "doughs") (tCons (tMake (g.c 0) sp_Dough_init [] E0 (tCons (tVar 1) (tCons (tVar 2) (tCons (tVar 3) (tCons (tOp rRep (tLst (tCons (tC (.bl false)) tNil)) (tCall sp_hours_of [] E0 (tCons (tVar 0) tNil))) tNil))))) tNil)))
    (tRet (tLst (tCons (tOp (rI0 fun i j => .int (i - j)) (tCB (rLenS K) (tCons (tFld K (tVar 0) "doughs") tNil)) (tC (.int 1))) tNil))))))
theorem W_add_dough (T : Txt K mg g) {sp_is_new_dough : Sp} (G_is_new_dough : OK_is_new_dough P w K mg base g sp_is_new_dough) {sp_Dough_init : Sp} (G_Dough_init : OK_Dough_init P w K mg base g sp_Dough_init) {sp_hours_of : Sp} (G_hours_of : OK_hours_of P w K mg base g sp_hours_of) {sp : Sp} (len : ∀ vs H Q E, sp vs H Q E → vs.length = 4)
    (h : ∀ vs H Q E, sp vs H Q E → t_add_dough K g sp_is_new_dough sp_Dough_init sp_hours_of { nx := fun _ H' => Q .non H', rt := Q } (start ["house", "mixed_at", "minimum", "maximum"] vs) H) : OK_add_dough P w K mg base g sp :=
  T.F_add_dough.ok sc_add_dough len fun cdv A outer s H vs Q E hr hs => ⟨t_add_dough K g sp_is_new_dough sp_Dough_init sp_hours_of, by unfold t_add_dough; exact
    (pss_cons (ps_if (pt_not (pt_val (pe_call G_is_new_dough hr (by rfl) T.g_is_new_dough T.F_is_new_dough.kp T.b_is_new_dough .nil pass0 (pa_cons (pv 0) (pa_cons (pv 1) (pa_cons (pv 2) (pa_cons (pv 3) pa_nil))))))) (pss_one (ps_ret (pe_lst (pa_cons (pe_globE (by rfl) T.c_OUT_OF_RANGE) pa_nil)))) pss_nil)
      (pss_cons (ps_if (pt_cmp (pc_eqI (pe_callB call_len_seq (by rfl) T.n_len PySem.boot_len (pa_cons (pe_fld (pv 0) rfl) pa_nil)) (pe_globE (by rfl) T.c_MOST_DOUGHS)) rfl) (pss_one (ps_ret (pe_lst (pa_cons (pe_globE (by rfl) T.c_FULL) pa_nil)))) pss_nil)
      (pss_cons (ps_expr (pe_bm PySem.F.plainAttrs_list PySem.F.slot_list_append PySem.F.type_list_append mt_append (pe_fld (pv 0) rfl) (pa_cons (pe_make T.mDough G_Dough_init hr (by rfl) T.gDough T.b_Dough_init .nil pass0 (pa_cons (pv 1) (pa_cons (pv 2) (pa_cons (pv 3) (pa_cons (pe_op op_rep (pe_lst (pa_cons pe_bl pa_nil)) (pe_call G_hours_of (hr.mono (by decide)) (by rfl) T.g_hours_of T.F_hours_of.kp T.b_hours_of .nil pass0 (pa_cons (pv 0) pa_nil))) pa_nil))))) pa_nil)))
      (pss_one (ps_ret (pe_lst (pa_cons (pe_op op_sub (pe_callB call_len_seq (by rfl) T.n_len PySem.boot_len (pa_cons (pe_fld (pv 0) rfl) pa_nil)) pe_int) pa_nil))))))), h vs H Q E hs⟩
/-! ### remove_dough -/
theorem sc_remove_dough : FnScope ["house", "number"] ["house", "number"] (defScope s_remove_dough) := ⟨rfl, rfl, rfl, by decide +kernel, rfl, by decide +kernel, by decide +kernel⟩
abbrev OK_remove_dough (P : Program) (w : World) (K : PySem.W.Frag) (mg : Str → Option Value) (base : Heap) (g : G) (sp : Sp) : Prop := FnOk P w K mg base CX0 2 (g.f 22) (g.d 22) ["house", "number"] sp
def t_remove_dough (K : PySem.W.Frag) (g : G) (sp_has_dough : Sp) : TS :=
  (tSeq (tIfS (tNot (tB (tCall sp_has_dough [] E0 (tCons (tVar 0) (tCons (tVar 1) tNil))))) (tRet (tLst (tCons (tC (.int (-2))) tNil))) tNext)
    (tSeq (tDrop (tBM K "list" rPopAt (tFld K (tVar 0) "doughs") (tCons (tVar 1) tNil)))
    (tRet (tLst (tCons (tCB (rLenS K) (tCons (tFld K (tVar 0) "doughs") tNil)) tNil)))))
theorem W_remove_dough (T : Txt K mg g) {sp_has_dough : Sp} (G_has_dough : OK_has_dough P w K mg base g sp_has_dough) {sp : Sp} (len : ∀ vs H Q E, sp vs H Q E → vs.length = 2)
    (h : ∀ vs H Q E, sp vs H Q E → t_remove_dough K g sp_has_dough { nx := fun _ H' => Q .non H', rt := Q } (start ["house", "number"] vs) H) : OK_remove_dough P w K mg base g sp :=
  T.F_remove_dough.ok sc_remove_dough len fun cdv A outer s H vs Q E hr hs => ⟨t_remove_dough K g sp_has_dough, by unfold t_remove_dough; exact
    (pss_cons (ps_if (pt_not (pt_val (pe_call G_has_dough hr (by rfl) T.g_has_dough T.F_has_dough.kp T.b_has_dough .nil pass0 (pa_cons (pv 0) (pa_cons (pv 1) pa_nil))))) (pss_one (ps_ret (pe_lst (pa_cons (pe_globE (by rfl) T.c_MISSING) pa_nil)))) pss_nil)
      (pss_cons (ps_expr (pe_bm PySem.F.plainAttrs_list PySem.F.slot_list_pop PySem.F.type_list_pop mt_popAt (pe_fld (pv 0) rfl) (pa_cons (pv 1) pa_nil)))
      (pss_one (ps_ret (pe_lst (pa_cons (pe_callB call_len_seq (by rfl) T.n_len PySem.boot_len (pa_cons (pe_fld (pv 0) rfl) pa_nil)) pa_nil)))))), h vs H Q E hs⟩
/-! ### cooling_refusal -/
theorem sc_cooling_refusal : FnScope ["house", "number", "start", "to"] ["house", "number", "start", "to"] (defScope s_cooling_refusal) := ⟨rfl, rfl, rfl, by decide +kernel, rfl, by decide +kernel, by decide +kernel⟩
abbrev OK_cooling_refusal (P : Program) (w : World) (K : PySem.W.Frag) (mg : Str → Option Value) (base : Heap) (g : G) (sp : Sp) : Prop := FnOk P w K mg base CX0 2 (g.f 23) (g.d 23) ["house", "number", "start", "to"] sp
def t_cooling_refusal (K : PySem.W.Frag) (g : G) (sp_has_dough : Sp) (sp_hours_of : Sp) : TS :=
  (tSeq (tIfS (tNot (tB (tCall sp_has_dough [] E0 (tCons (tVar 0) (tCons (tVar 1) tNil))))) (tRet (tC (.int (-2)))) tNext)
    (tSeq (tIfS (tOr (tB (tLt (tVar 2) (tC (.int 0)))) (tOr (tB (tGe (tVar 2) (tVar 3))) (tB (tGt (tVar 3) (tCall sp_hours_of [] E0 (tCons (tVar 0) tNil)))))) (tRet (tC (.int (-22)))) tNext)
    (tRet (tC .non))))
theorem W_cooling_refusal (T : Txt K mg g) {sp_has_dough : Sp} (G_has_dough : OK_has_dough P w K mg base g sp_has_dough) {sp_hours_of : Sp} (G_hours_of : OK_hours_of P w K mg base g sp_hours_of) {sp : Sp} (len : ∀ vs H Q E, sp vs H Q E → vs.length = 4)
    (h : ∀ vs H Q E, sp vs H Q E → t_cooling_refusal K g sp_has_dough sp_hours_of { nx := fun _ H' => Q .non H', rt := Q } (start ["house", "number", "start", "to"] vs) H) : OK_cooling_refusal P w K mg base g sp :=
  T.F_cooling_refusal.ok sc_cooling_refusal len fun cdv A outer s H vs Q E hr hs => ⟨t_cooling_refusal K g sp_has_dough sp_hours_of, by unfold t_cooling_refusal; exact
    (pss_cons (ps_if (pt_not (pt_val (pe_call G_has_dough hr (by rfl) T.g_has_dough T.F_has_dough.kp T.b_has_dough .nil pass0 (pa_cons (pv 0) (pa_cons (pv 1) pa_nil))))) (pss_one (ps_ret (pe_globE (by rfl) T.c_MISSING))) pss_nil)
      (pss_cons (ps_if (PW.pt (pw_or (pt_cmp (pc_lt (pv 2) pe_int) rfl) (pw_or (pt_cmp (pc_ge (pv 2) (pv 3)) rfl) (pw_or1 (pt_cmp (pc_gt (pv 3) (pe_call G_hours_of hr (by rfl) T.g_hours_of T.F_hours_of.kp T.b_hours_of .nil pass0 (pa_cons (pv 0) pa_nil))) rfl))))) (pss_one (ps_ret (pe_globE (by rfl) T.c_OUT_OF_RANGE))) pss_nil)
      (pss_one (ps_ret pe_non)))), h vs H Q E hs⟩
/-! ### cool -/
theorem sc_cool : FnScope ["house", "number", "start", "to", "refusal", "dough", "window"] ["house", "number", "start", "to"] (defScope s_cool) := ⟨rfl, rfl, rfl, by decide +kernel, rfl, by decide +kernel, by decide +kernel⟩
abbrev OK_cool (P : Program) (w : World) (K : PySem.W.Frag) (mg : Str → Option Value) (base : Heap) (g : G) (sp : Sp) : Prop := FnOk P w K mg base CX0 5 (g.f 24) (g.d 24) ["house", "number", "start", "to"] sp
def t_cool (K : PySem.W.Frag) (g : G) (sp_cooling_refusal : Sp) (sp_cool_hours : Sp) (sp_window_of : Sp) : TS :=
  (tSeq (tAsg (tCall sp_cooling_refusal [] E0 (tCons (tVar 0) (tCons (tVar 1) (tCons (tVar 2) (tCons (tVar 3) tNil))))) (gName 4))
    (tSeq (tIfS (tB (tNotN (tVar 4))) (tRet (tLst (tCons (tVar 4) tNil))) tNext)
    (tSeq (tAsg (tOp (rIxL K) (tFld K (tVar 0) "doughs") (tVar 1)) (gName 5))
    (tSeq (tDrop (tCall sp_cool_hours [] E0 (tCons (tVar 5) (tCons (tVar 2) (tCons (tVar 3) tNil)))))
    (tSeq (tAsg (tCall sp_window_of [] E0 (tCons (tVar 5) (tCons (tFld K (tVar 0) "temperatures") tNil))) (gName 6))
    (tSeq (tIfS (tB (tIsN (tVar 6))) (tRet (tLst (tCons (tC (.int 0)) tNil))) tNext)
    (tRet (tLst (tCons (tC (.int 1)) (tCons (tOp (rIxT K) (tVar 6) (tC (.int 0))) (tCons (tOp (rIxT K) (tVar 6) (tC (.int 1))) tNil)))))))))))
theorem W_cool (T : Txt K mg g) {sp_cooling_refusal : Sp} (G_cooling_refusal : OK_cooling_refusal P w K mg base g sp_cooling_refusal) {sp_cool_hours : Sp} (G_cool_hours : OK_cool_hours P w K mg base g sp_cool_hours) {sp_window_of : Sp} (G_window_of : OK_window_of P w K mg base g sp_window_of) {sp : Sp} (len : ∀ vs H Q E, sp vs H Q E → vs.length = 4)
    (h : ∀ vs H Q E, sp vs H Q E → t_cool K g sp_cooling_refusal sp_cool_hours sp_window_of { nx := fun _ H' => Q .non H', rt := Q } (start ["house", "number", "start", "to", "refusal", "dough", "window"] vs) H) : OK_cool P w K mg base g sp :=
  T.F_cool.ok sc_cool len fun cdv A outer s H vs Q E hr hs => ⟨t_cool K g sp_cooling_refusal sp_cool_hours sp_window_of, by unfold t_cool; exact
    (pss_cons (ps_set (i := 4) sc_cool.nd rfl (Or.inl rfl) (pe_call G_cooling_refusal (hr.mono (by decide)) (by rfl) T.g_cooling_refusal T.F_cooling_refusal.kp T.b_cooling_refusal .nil pass0 (pa_cons (pv 0) (pa_cons (pv 1) (pa_cons (pv 2) (pa_cons (pv 3) pa_nil))))))
      (pss_cons (ps_if (pt_cmp (pc_notN (pv 4)) rfl) (pss_one (ps_ret (pe_lst (pa_cons (pv 4) pa_nil)))) pss_nil)
      (pss_cons (ps_set (i := 5) sc_cool.nd rfl (Or.inl rfl) (pe_ix ix_list (pe_fld (pv 0) rfl) (pv 1) (fun _ _ => rfl)))
      (pss_cons (ps_expr (pe_call G_cool_hours (hr.mono (by decide)) (by rfl) T.g_cool_hours T.F_cool_hours.kp T.b_cool_hours .nil pass0 (pa_cons (pv 5) (pa_cons (pv 2) (pa_cons (pv 3) pa_nil)))))
      (pss_cons (ps_set (i := 6) sc_cool.nd rfl (Or.inl rfl) (pe_call G_window_of hr (by rfl) T.g_window_of T.F_window_of.kp T.b_window_of .nil pass0 (pa_cons (pv 5) (pa_cons (pe_fld (pv 0) rfl) pa_nil))))
      (pss_cons (ps_if (pt_cmp (pc_isN (pv 6)) rfl) (pss_one (ps_ret (pe_lst (pa_cons pe_int pa_nil)))) pss_nil)
      (pss_one (ps_ret (pe_lst (pa_cons pe_int (pa_cons (pe_ix ix_tup (pv 6) pe_int (fun _ _ => rfl)) (pa_cons (pe_ix ix_tup (pv 6) pe_int (fun _ _ => rfl)) pa_nil)))))))))))), h vs H Q E hs⟩
/-! ### stop_cooling -/
theorem sc_stop_cooling : FnScope ["house", "number", "dough"] ["house", "number"] (defScope s_stop_cooling) := ⟨rfl, rfl, rfl, by decide +kernel, rfl, by decide +kernel, by decide +kernel⟩
abbrev OK_stop_cooling (P : Program) (w : World) (K : PySem.W.Frag) (mg : Str → Option Value) (base : Heap) (g : G) (sp : Sp) : Prop := FnOk P w K mg base CX0 2 (g.f 25) (g.d 25) ["house", "number"] sp
def t_stop_cooling (K : PySem.W.Frag) (g : G) (sp_has_dough : Sp) (sp_is_cooled : Sp) (sp_hours_of : Sp) : TS :=
  (tSeq (tIfS (tNot (tB (tCall sp_has_dough [] E0 (tCons (tVar 0) (tCons (tVar 1) tNil))))) (tRet (tLst (tCons (tC (.int (-2))) tNil))) tNext)
    (tSeq (tAsg (tOp (rIxL K) (tFld K (tVar 0) "doughs") (tVar 1)) (gName 2))
    (tSeq (tIfS (tNot (tB (tCall sp_is_cooled [] E0 (tCons (tVar 2) tNil)))) (tRet (tLst (tCons (tC (.int (-6))) tNil))) tNext)
    (tSeq (sFld K (tVar 2) (tOp rRep (tLst (tCons (tC (.bl false)) tNil)) (tCall sp_hours_of [] E0 (tCons (tVar 0) tNil))) "cooled")
    (tRet (tLst (tCons (tC (.int 0)) tNil)))))))
theorem W_stop_cooling (T : Txt K mg g) {sp_has_dough : Sp} (G_has_dough : OK_has_dough P w K mg base g sp_has_dough) {sp_is_cooled : Sp} (G_is_cooled : OK_is_cooled P w K mg base g sp_is_cooled) {sp_hours_of : Sp} (G_hours_of : OK_hours_of P w K mg base g sp_hours_of) {sp : Sp} (len : ∀ vs H Q E, sp vs H Q E → vs.length = 2)
    (h : ∀ vs H Q E, sp vs H Q E → t_stop_cooling K g sp_has_dough sp_is_cooled sp_hours_of { nx := fun _ H' => Q .non H', rt := Q } (start ["house", "number", "dough"] vs) H) : OK_stop_cooling P w K mg base g sp :=
  T.F_stop_cooling.ok sc_stop_cooling len fun cdv A outer s H vs Q E hr hs => ⟨t_stop_cooling K g sp_has_dough sp_is_cooled sp_hours_of, by unfold t_stop_cooling; exact
    (pss_cons (ps_if (pt_not (pt_val (pe_call G_has_dough hr (by rfl) T.g_has_dough T.F_has_dough.kp T.b_has_dough .nil pass0 (pa_cons (pv 0) (pa_cons (pv 1) pa_nil))))) (pss_one (ps_ret (pe_lst (pa_cons (pe_globE (by rfl) T.c_MISSING) pa_nil)))) pss_nil)
      (pss_cons (ps_set (i := 2) sc_stop_cooling.nd rfl (Or.inl rfl) (pe_ix ix_list (pe_fld (pv 0) rfl) (pv 1) (fun _ _ => rfl)))
      (pss_cons (ps_if (pt_not (pt_val (pe_call G_is_cooled hr (by rfl) T.g_is_cooled T.F_is_cooled.kp T.b_is_cooled .nil pass0 (pa_cons (pv 2) pa_nil)))) (pss_one (ps_ret (pe_lst (pa_cons (pe_globE (by rfl) T.c_NOT_COOLED) pa_nil)))) pss_nil)
      (pss_cons (ps_fld (pv 2) (pe_op op_rep (pe_lst (pa_cons pe_bl pa_nil)) (pe_call G_hours_of hr (by rfl) T.g_hours_of T.F_hours_of.kp T.b_hours_of .nil pass0 (pa_cons (pv 0) pa_nil))) rfl)
      (pss_one (ps_ret (pe_lst (pa_cons pe_int pa_nil)))))))), h vs H Q E hs⟩
/-! ### set_baking_time -/
theorem sc_set_baking_time : FnScope ["house", "baking", "former"] ["house", "baking"] (defScope s_set_baking_time) := ⟨rfl, rfl, rfl, by decide +kernel, rfl, by decide +kernel, by decide +kernel⟩
abbrev OK_set_baking_time (P : Program) (w : World) (K : PySem.W.Frag) (mg : Str → Option Value) (base : Heap) (g : G) (sp : Sp) : Prop := FnOk P w K mg base CX0 3 (g.f 26) (g.d 26) ["house", "baking"] sp
def t_set_baking_time (K : PySem.W.Frag) (g : G) (sp_is_baking : Sp) : TS :=
  (tSeq (tIfS (tNot (tB (tCall sp_is_baking [] E0 (tCons (tVar 1) tNil)))) (tRet (tLst (tCons (tC (.int (-22))) tNil))) tNext)
    (tSeq (tAsg (tFld K (tVar 0) "baking") (gName 2))
    (tSeq (sFld K (tVar 0) (tVar 1) "baking")
    (tRet (tLst (tCons (tVar 2) tNil))))))
theorem W_set_baking_time (T : Txt K mg g) {sp_is_baking : Sp} (G_is_baking : OK_is_baking P w K mg base g sp_is_baking) {sp : Sp} (len : ∀ vs H Q E, sp vs H Q E → vs.length = 2)
    (h : ∀ vs H Q E, sp vs H Q E → t_set_baking_time K g sp_is_baking { nx := fun _ H' => Q .non H', rt := Q } (start ["house", "baking", "former"] vs) H) : OK_set_baking_time P w K mg base g sp :=
  T.F_set_baking_time.ok sc_set_baking_time len fun cdv A outer s H vs Q E hr hs => ⟨t_set_baking_time K g sp_is_baking, by unfold t_set_baking_time; exact
    (pss_cons (ps_if (pt_not (pt_val (pe_call G_is_baking hr (by rfl) T.g_is_baking T.F_is_baking.kp T.b_is_baking .nil pass0 (pa_cons (pv 1) pa_nil)))) (pss_one (ps_ret (pe_lst (pa_cons (pe_globE (by rfl) T.c_OUT_OF_RANGE) pa_nil)))) pss_nil)
      (pss_cons (ps_set (i := 2) sc_set_baking_time.nd rfl (Or.inl rfl) (pe_fld (pv 0) rfl))
      (pss_cons (ps_fld (pv 0) (pv 1) rfl)
      (pss_one (ps_ret (pe_lst (pa_cons (pv 2) pa_nil))))))), h vs H Q E hs⟩
/-! ### next_begun -/
theorem sc_next_begun : FnScope ["left", "windows", "time", "best", "number", "window"] ["left", "windows", "time"] (defScope s_next_begun) := ⟨rfl, rfl, rfl, by decide +kernel, rfl, by decide +kernel, by decide +kernel⟩
abbrev OK_next_begun (P : Program) (w : World) (K : PySem.W.Frag) (mg : Str → Option Value) (base : Heap) (g : G) (sp : Sp) : Prop := FnOk P w K mg base CX0 1 (g.f 27) (g.d 27) ["left", "windows", "time"] sp
def t_next_begun (K : PySem.W.Frag) (g : G) : TS :=
  (tSeq (tAsg (tC .non) (gName 3))
    (tSeq (tFor (iList K (tVar 0)) (gName 4) (tSeq (tAsg (tOp (rIxL K) (tVar 1) (tVar 4)) (gName 5))
    (tIfS (tAnd (tB (tNotN (tVar 5))) (tB (tLe (tOp (rIxT K) (tVar 5) (tC (.int 0))) (tVar 2)))) (tIfS (tOr (tB (tIsN (tVar 3))) (tB (tLt (tOp (rIxT K) (tVar 5) (tC (.int 1))) (tOp (rIxT K) (tOp (rIxL K) (tVar 1) (tVar 3)) (tC (.int 1)))))) (tAsg (tVar 4) (gName 3)) tNext) tNext)))
    (tRet (tVar 3))))
theorem W_next_begun (T : Txt K mg g) {sp : Sp} (len : ∀ vs H Q E, sp vs H Q E → vs.length = 3)
    (h : ∀ vs H Q E, sp vs H Q E → t_next_begun K g { nx := fun _ H' => Q .non H', rt := Q } (start ["left", "windows", "time", "best", "number", "window"] vs) H) : OK_next_begun P w K mg base g sp :=
  T.F_next_begun.ok sc_next_begun len fun cdv A outer s H vs Q E hr hs => ⟨t_next_begun K g, by unfold t_next_begun; exact
    (pss_cons (ps_set (i := 3) sc_next_begun.nd rfl (Or.inl rfl) pe_non)
      (pss_cons (ps_for PassesOwn.never rfl (pi_list (pv 0)) (pg_name (i := 4) sc_next_begun.nd rfl (Or.inl rfl)) (pss_cons (ps_set (i := 5) sc_next_begun.nd rfl (Or.inl rfl) (pe_ix ix_list (pv 1) (pv 4) (fun _ _ => rfl)))
      (pss_one (ps_if (PW.pt (pw_and (pt_cmp (pc_notN (pv 5)) rfl) (pw_and1 (pt_cmp (pc_le (pe_ix ix_tup (pv 5) pe_int (fun _ _ => rfl)) (pv 2)) rfl)))) (pss_one (ps_if (PW.pt (pw_or (pt_cmp (pc_isN (pv 3)) rfl) (pw_or1 (pt_cmp (pc_lt (pe_ix ix_tup (pv 5) pe_int (fun _ _ => rfl)) (pe_ix ix_tup (pe_ix ix_list (pv 1) (pv 3) (fun _ _ => rfl)) pe_int (fun _ _ => rfl))) rfl)))) (pss_one (ps_set (i := 3) sc_next_begun.nd rfl (Or.inl rfl) (pv 4))) pss_nil)) pss_nil))))
      (pss_one (ps_ret (pv 3))))), h vs H Q E hs⟩
/-! ### time_of_next -/
theorem sc_time_of_next : FnScope ["left", "windows", "time", "begins", "number"] ["left", "windows", "time"] (defScope s_time_of_next) := ⟨rfl, rfl, rfl, by decide +kernel, rfl, by decide +kernel, by decide +kernel⟩
abbrev OK_time_of_next (P : Program) (w : World) (K : PySem.W.Frag) (mg : Str → Option Value) (base : Heap) (g : G) (sp : Sp) : Prop := FnOk P w K mg base CX0 2 (g.f 28) (g.d 28) ["left", "windows", "time"] sp
def t_time_of_next (K : PySem.W.Frag) (g : G) (sp_next_begun : Sp) : TS :=
  (tSeq (tIfS (tB (tNotN (tCall sp_next_begun [] E0 (tCons (tVar 0) (tCons (tVar 1) (tCons (tVar 2) tNil)))))) (tRet (tVar 2)) tNext)
    (tSeq (tAsg (tLc (iList K (tVar 0)) (gName 4) (tB (tNotN (tOp (rIxL K) (tVar 1) (tVar 4)))) (tOp (rIxT K) (tOp (rIxL K) (tVar 1) (tVar 4)) (tC (.int 0))) [4]) (gName 3))
    (tSeq (tIfS (tTest (tOp (rEqD K) (tVar 3) (tLst tNil))) (tRet (tC .non)) tNext)
    (tRet (tCB (rMin K) (tCons (tVar 3) tNil))))))
theorem W_time_of_next (T : Txt K mg g) {sp_next_begun : Sp} (G_next_begun : OK_next_begun P w K mg base g sp_next_begun) {sp : Sp} (len : ∀ vs H Q E, sp vs H Q E → vs.length = 3)
    (h : ∀ vs H Q E, sp vs H Q E → t_time_of_next K g sp_next_begun { nx := fun _ H' => Q .non H', rt := Q } (start ["left", "windows", "time", "begins", "number"] vs) H) : OK_time_of_next P w K mg base g sp :=
  T.F_time_of_next.ok sc_time_of_next len fun cdv A outer s H vs Q E hr hs => ⟨t_time_of_next K g sp_next_begun, by unfold t_time_of_next; exact
    (pss_cons (ps_if (pt_cmp (pc_notN (pe_call G_next_begun hr (by rfl) T.g_next_begun T.F_next_begun.kp T.b_next_begun .nil pass0 (pa_cons (pv 0) (pa_cons (pv 1) (pa_cons (pv 2) pa_nil))))) rfl) (pss_one (ps_ret (pv 2))) pss_nil)
      (pss_cons (ps_setLc (i := 3) (own := [("number", 4)]) (g := gName 4) (by rfl) sc_time_of_next.nd rfl rfl (sw_true rfl rfl rfl (by decide +kernel)) (pi_list (pv 0)) (blkOk_by (own := [("number", 4)]) (N := ["left", "windows", "time", "begins", "number"]) (sc := defScope s_time_of_next) (by decide +kernel)) (fun _ _ _ _ _ => pg_name (i := 4) sc_time_of_next.nd rfl (Or.inl rfl)) (fun _ _ _ _ _ => (pts_one (pt_cmp (pc_notN (pe_ix ix_list (pv 1) (pv 4) (fun _ _ => rfl))) rfl))) (fun _ _ _ _ _ => (pe_ix ix_tup (pe_ix ix_list (pv 1) (pv 4) (fun _ _ => rfl)) pe_int (fun _ _ => rfl))))
      (pss_cons (ps_if (pt_cmpR (op_eqD hr.units) (pv 3) (pe_lst pa_nil) (nomark _)) (pss_one (ps_ret pe_non)) pss_nil)
      (pss_one (ps_ret (pe_callB (cr_min rfl) (by rfl) T.n_min (by decide +kernel) (pa_cons (pv 3) pa_nil))))))), h vs H Q E hs⟩
/-! ### deadline_order -/
theorem sc_deadline_order : FnScope ["windows", "baking", "left", "order", "time", "turn", "moment", "number", "other"] ["windows", "baking"] (defScope s_deadline_order) := ⟨rfl, rfl, rfl, by decide +kernel, rfl, by decide +kernel, by decide +kernel⟩
abbrev OK_deadline_order (P : Program) (w : World) (K : PySem.W.Frag) (mg : Str → Option Value) (base : Heap) (g : G) (sp : Sp) : Prop := FnOk P w K mg base CX0 3 (g.f 29) (g.d 29) ["windows", "baking"] sp
def t_deadline_order (K : PySem.W.Frag) (g : G) (sp_time_of_next : Sp) (sp_next_begun : Sp) : TS :=
  (tSeq (tAsg (tLstRg (tRg1 (tCB (rLenS K) (tCons (tVar 0) tNil)))) (gName 2))
    (tSeq (tAsg (tLst tNil) (gName 3))
    (tSeq (tAsg (tC (.int 0)) (gName 4))
    (tSeq (tFor (iRng1 (tCons (tCB (rLenS K) (tCons (tVar 0) tNil)) tNil)) (gName 5) (tSeq (tAsg (tCall sp_time_of_next [] E0 (tCons (tVar 2) (tCons (tVar 0) (tCons (tVar 4) tNil)))) (gName 6))
    (tSeq (tIfS (tB (tIsN (tVar 6))) (tRet (tOp rCat (tVar 3) (tVar 2))) tNext)
    (tSeq (tAsg (tCall sp_next_begun [] E0 (tCons (tVar 2) (tCons (tVar 0) (tCons (tVar 6) tNil)))) (gName 7))
    (tSeq (tDrop (tBM K "list" rAppend (tVar 3) (tCons (tVar 7) tNil)))
    (tSeq (tAsg (tLc (iList K (tVar 2)) (gName 8) (tB (tNeI (tVar 8) (tVar 7))) (tVar 8) [8]) (gName 2))
    (tAsg (tOp (rI0 fun i j => .int (i + j)) (tVar 6) (tVar 1)) (gName 4))))))))
    (tRet (tVar 3))))))
theorem W_deadline_order (T : Txt K mg g) {sp_time_of_next : Sp} (G_time_of_next : OK_time_of_next P w K mg base g sp_time_of_next) {sp_next_begun : Sp} (G_next_begun : OK_next_begun P w K mg base g sp_next_begun) {sp : Sp} (len : ∀ vs H Q E, sp vs H Q E → vs.length = 2)
    (h : ∀ vs H Q E, sp vs H Q E → t_deadline_order K g sp_time_of_next sp_next_begun { nx := fun _ H' => Q .non H', rt := Q } (start ["windows", "baking", "left", "order", "time", "turn", "moment", "number", "other"] vs) H) : OK_deadline_order P w K mg base g sp :=
  T.F_deadline_order.ok sc_deadline_order len fun cdv A outer s H vs Q E hr hs => ⟨t_deadline_order K g sp_time_of_next sp_next_begun, by unfold t_deadline_order; exact
    (pss_cons (ps_set (i := 2) sc_deadline_order.nd rfl (Or.inl rfl) (pe_listRg rfl (by rfl) T.n_list (prg_1 (by rfl) T.n_range (pe_callB call_len_seq (by rfl) T.n_len PySem.boot_len (pa_cons (pv 0) pa_nil)))))
      (pss_cons (ps_set (i := 3) sc_deadline_order.nd rfl (Or.inl rfl) (pe_lst pa_nil))
      (pss_cons (ps_set (i := 4) sc_deadline_order.nd rfl (Or.inl rfl) pe_int)
      (pss_cons (ps_for PassesOwn.never rfl (pi_range1 (by rfl) T.n_range (pa_cons (pe_callB call_len_seq (by rfl) T.n_len PySem.boot_len (pa_cons (pv 0) pa_nil)) pa_nil)) (pg_name (i := 5) sc_deadline_order.nd rfl (Or.inl rfl)) (pss_cons (ps_set (i := 6) sc_deadline_order.nd rfl (Or.inl rfl) (pe_call G_time_of_next hr (by rfl) T.g_time_of_next T.F_time_of_next.kp T.b_time_of_next .nil pass0 (pa_cons (pv 2) (pa_cons (pv 0) (pa_cons (pv 4) pa_nil)))))
      (pss_cons (ps_if (pt_cmp (pc_isN (pv 6)) rfl) (pss_one (ps_ret (pe_op op_cat (pv 3) (pv 2)))) pss_nil)
      (pss_cons (ps_set (i := 7) sc_deadline_order.nd rfl (Or.inr rfl) (pe_call G_next_begun (hr.mono (by decide)) (by rfl) T.g_next_begun T.F_next_begun.kp T.b_next_begun .nil pass0 (pa_cons (pv 2) (pa_cons (pv 0) (pa_cons (pv 6) pa_nil)))))
      (pss_cons (ps_expr (pe_bm PySem.F.plainAttrs_list PySem.F.slot_list_append PySem.F.type_list_append mt_append (pv 3) (pa_cons (pv 7) pa_nil)))
      (pss_cons (ps_setLc (i := 2) (own := [("other", 8)]) (g := gName 8) (by rfl) sc_deadline_order.nd rfl rfl (sw_true rfl rfl rfl (by decide +kernel)) (pi_list (pv 2)) (blkOk_by (own := [("other", 8)]) (N := ["windows", "baking", "left", "order", "time", "turn", "moment", "number", "other"]) (sc := defScope s_deadline_order) (by decide +kernel)) (fun _ _ _ _ _ => pg_name (i := 8) sc_deadline_order.nd rfl (Or.inl rfl)) (fun _ _ _ _ _ => (pts_one (pt_cmp (pc_neI (pv 8) (pv 7)) rfl))) (fun _ _ _ _ _ => (pv 8)))
      (pss_one (ps_set (i := 4) sc_deadline_order.nd rfl (Or.inl rfl) (pe_op op_add (pv 6) (pv 1))))))))))
      (pss_one (ps_ret (pv 3))))))), h vs H Q E hs⟩
/-! ### start_of -/
theorem sc_start_of : FnScope ["window", "free", "baking", "hours", "start"] ["window", "free", "baking", "hours"] (defScope s_start_of) := ⟨rfl, rfl, rfl, by decide +kernel, rfl, by decide +kernel, by decide +kernel⟩
abbrev OK_start_of (P : Program) (w : World) (K : PySem.W.Frag) (mg : Str → Option Value) (base : Heap) (g : G) (sp : Sp) : Prop := FnOk P w K mg base CX0 1 (g.f 30) (g.d 30) ["window", "free", "baking", "hours"] sp
def t_start_of (K : PySem.W.Frag) (g : G) : TS :=
  (tSeq (tIfS (tB (tIsN (tVar 0))) (tRet (tC .non)) tNext)
    (tSeq (tAsg (tCB rMax2 (tCons (tOp (rIxT K) (tVar 0) (tC (.int 0))) (tCons (tVar 1) tNil))) (gName 4))
    (tSeq (tIfS (tOr (tB (tGt (tVar 4) (tOp (rIxT K) (tVar 0) (tC (.int 1))))) (tB (tGt (tOp (rI0 fun i j => .int (i + j)) (tVar 4) (tVar 2)) (tVar 3)))) (tRet (tC .non)) tNext)
    (tRet (tVar 4)))))
theorem W_start_of (T : Txt K mg g) {sp : Sp} (len : ∀ vs H Q E, sp vs H Q E → vs.length = 4)
    (h : ∀ vs H Q E, sp vs H Q E → t_start_of K g { nx := fun _ H' => Q .non H', rt := Q } (start ["window", "free", "baking", "hours", "start"] vs) H) : OK_start_of P w K mg base g sp :=
  T.F_start_of.ok sc_start_of len fun cdv A outer s H vs Q E hr hs => ⟨t_start_of K g, by unfold t_start_of; exact
    (pss_cons (ps_if (pt_cmp (pc_isN (pv 0)) rfl) (pss_one (ps_ret pe_non)) pss_nil)
      (pss_cons (ps_set (i := 4) sc_start_of.nd rfl (Or.inl rfl) (pe_callB (call_max2 rfl) (by rfl) T.n_max (by decide +kernel) (pa_cons (pe_ix ix_tup (pv 0) pe_int (fun _ _ => rfl)) (pa_cons (pv 1) pa_nil))))
      (pss_cons (ps_if (PW.pt (pw_or (pt_cmp (pc_gt (pv 4) (pe_ix ix_tup (pv 0) pe_int (fun _ _ => rfl))) rfl) (pw_or1 (pt_cmp (pc_gt (pe_op op_add (pv 4) (pv 2)) (pv 3)) rfl)))) (pss_one (ps_ret pe_non)) pss_nil)
      (pss_one (ps_ret (pv 4)))))), h vs H Q E hs⟩
/-! ### starts_of -/
theorem sc_starts_of : FnScope ["order", "windows", "baking", "hours", "found", "free", "number", "start"] ["order", "windows", "baking", "hours"] (defScope s_starts_of) := ⟨rfl, rfl, rfl, by decide +kernel, rfl, by decide +kernel, by decide +kernel⟩
abbrev OK_starts_of (P : Program) (w : World) (K : PySem.W.Frag) (mg : Str → Option Value) (base : Heap) (g : G) (sp : Sp) : Prop := FnOk P w K mg base CX0 2 (g.f 31) (g.d 31) ["order", "windows", "baking", "hours"] sp
def t_starts_of (K : PySem.W.Frag) (g : G) (sp_start_of : Sp) : TS :=
  (tSeq (tAsg (tLst tNil) (gName 4))
    (tSeq (tAsg (tC (.int 0)) (gName 5))
    (tSeq (tFor (iList K (tVar 0)) (gName 6) (tSeq (tAsg (tCall sp_start_of [] E0 (tCons (tOp (rIxL K) (tVar 1) (tVar 6)) (tCons (tVar 5) (tCons (tVar 2) (tCons (tVar 3) tNil))))) (gName 7))
    (tSeq (tIfS (tB (tIsN (tVar 7))) (tRet (tC .non)) tNext)
    (tSeq (tDrop (tBM K "list" rAppend (tVar 4) (tCons (tVar 7) tNil)))
    (tAsg (tOp (rI0 fun i j => .int (i + j)) (tVar 7) (tVar 2)) (gName 5))))))
    (tRet (tVar 4)))))
theorem W_starts_of (T : Txt K mg g) {sp_start_of : Sp} (G_start_of : OK_start_of P w K mg base g sp_start_of) {sp : Sp} (len : ∀ vs H Q E, sp vs H Q E → vs.length = 4)
    (h : ∀ vs H Q E, sp vs H Q E → t_starts_of K g sp_start_of { nx := fun _ H' => Q .non H', rt := Q } (start ["order", "windows", "baking", "hours", "found", "free", "number", "start"] vs) H) : OK_starts_of P w K mg base g sp :=
  T.F_starts_of.ok sc_starts_of len fun cdv A outer s H vs Q E hr hs => ⟨t_starts_of K g sp_start_of, by unfold t_starts_of; exact
    (pss_cons (ps_set (i := 4) sc_starts_of.nd rfl (Or.inl rfl) (pe_lst pa_nil))
      (pss_cons (ps_set (i := 5) sc_starts_of.nd rfl (Or.inl rfl) pe_int)
      (pss_cons (ps_for PassesOwn.never rfl (pi_list (pv 0)) (pg_name (i := 6) sc_starts_of.nd rfl (Or.inl rfl)) (pss_cons (ps_set (i := 7) sc_starts_of.nd rfl (Or.inl rfl) (pe_call G_start_of hr (by rfl) T.g_start_of T.F_start_of.kp T.b_start_of .nil pass0 (pa_cons (pe_ix ix_list (pv 1) (pv 6) (fun _ _ => rfl)) (pa_cons (pv 5) (pa_cons (pv 2) (pa_cons (pv 3) pa_nil))))))
      (pss_cons (ps_if (pt_cmp (pc_isN (pv 7)) rfl) (pss_one (ps_ret pe_non)) pss_nil)
      (pss_cons (ps_expr (pe_bm PySem.F.plainAttrs_list PySem.F.slot_list_append PySem.F.type_list_append mt_append (pv 4) (pa_cons (pv 7) pa_nil)))
      (pss_one (ps_set (i := 5) sc_starts_of.nd rfl (Or.inl rfl) (pe_op op_add (pv 7) (pv 2))))))))
      (pss_one (ps_ret (pv 4)))))), h vs H Q E hs⟩
/-! ### finished_at -/
theorem sc_finished_at : FnScope ["starts", "baking"] ["starts", "baking"] (defScope s_finished_at) := ⟨rfl, rfl, rfl, by decide +kernel, rfl, by decide +kernel, by decide +kernel⟩
abbrev OK_finished_at (P : Program) (w : World) (K : PySem.W.Frag) (mg : Str → Option Value) (base : Heap) (g : G) (sp : Sp) : Prop := FnOk P w K mg base CX0 1 (g.f 32) (g.d 32) ["starts", "baking"] sp
def t_finished_at (K : PySem.W.Frag) (g : G) : TS :=
  (tSeq (tIfS (tTest (tOp (rEqD K) (tVar 0) (tLst tNil))) (tRet (tC (.int 0))) tNext)
    (tRet (tOp (rI0 fun i j => .int (i + j)) (tOp (rIxL K) (tVar 0) (tUn (rU fun i => .int (-i)) (tC (.int 1)))) (tVar 1))))
theorem W_finished_at (T : Txt K mg g) {sp : Sp} (len : ∀ vs H Q E, sp vs H Q E → vs.length = 2)
    (h : ∀ vs H Q E, sp vs H Q E → t_finished_at K g { nx := fun _ H' => Q .non H', rt := Q } (start ["starts", "baking"] vs) H) : OK_finished_at P w K mg base g sp :=
  T.F_finished_at.ok sc_finished_at len fun cdv A outer s H vs Q E hr hs => ⟨t_finished_at K g, by unfold t_finished_at; exact
    (pss_cons (ps_if (pt_cmpR (op_eqD hr.units) (pv 0) (pe_lst pa_nil) (nomark _)) (pss_one (ps_ret pe_int)) pss_nil)
      (pss_one (ps_ret (pe_op op_add (pe_ix ix_list (pv 0) (pe_un un_neg pe_int) (fun _ _ => rfl)) (pv 1))))), h vs H Q E hs⟩
/-! ### longer_orders -/
theorem sc_longer_orders : FnScope ["order", "numbers", "number"] ["order", "numbers"] (defScope s_longer_orders) := ⟨rfl, rfl, rfl, by decide +kernel, rfl, by decide +kernel, by decide +kernel⟩
abbrev OK_longer_orders (P : Program) (w : World) (K : PySem.W.Frag) (mg : Str → Option Value) (base : Heap) (g : G) (sp : Sp) : Prop := FnOk P w K mg base CX0 1 (g.f 33) (g.d 33) ["order", "numbers"] sp
def t_longer_orders (K : PySem.W.Frag) (g : G) : TS :=
  (tRet (tLc (iList K (tVar 1)) (gName 2) (tTest (tOp (rIn K true) (tVar 2) (tVar 0))) (tOp rCat (tVar 0) (tLst (tCons (tVar 2) tNil))) [2]))
theorem W_longer_orders (T : Txt K mg g) {sp : Sp} (len : ∀ vs H Q E, sp vs H Q E → vs.length = 2)
    (h : ∀ vs H Q E, sp vs H Q E → t_longer_orders K g { nx := fun _ H' => Q .non H', rt := Q } (start ["order", "numbers", "number"] vs) H) : OK_longer_orders P w K mg base g sp :=
  T.F_longer_orders.ok sc_longer_orders len fun cdv A outer s H vs Q E hr hs => ⟨t_longer_orders K g, by unfold t_longer_orders; exact
    (pss_one (ps_ret (pe_lc (own := [("number", 2)]) (g := gName 2) (by rfl) sc_longer_orders.nd (pi_list (pv 1)) (blkOk_by (own := [("number", 2)]) (N := ["order", "numbers", "number"]) (sc := defScope s_longer_orders) (by decide +kernel)) (fun _ _ _ _ _ => pg_name (i := 2) sc_longer_orders.nd rfl (Or.inl rfl)) (fun _ _ _ _ _ => (pts_one (pt_cmpR op_notIn_seq (pv 2) (pv 0) (by rfl)))) (fun _ _ _ _ _ => (pe_op op_cat (pv 0) (pe_lst (pa_cons (pv 2) pa_nil))))))), h vs H Q E hs⟩
/-! ### all_orders -/
theorem sc_all_orders : FnScope ["numbers", "found", "turn", "longer", "order"] ["numbers"] (defScope s_all_orders) := ⟨rfl, rfl, rfl, by decide +kernel, rfl, by decide +kernel, by decide +kernel⟩
abbrev OK_all_orders (P : Program) (w : World) (K : PySem.W.Frag) (mg : Str → Option Value) (base : Heap) (g : G) (sp : Sp) : Prop := FnOk P w K mg base CX0 2 (g.f 34) (g.d 34) ["numbers"] sp
def t_all_orders (K : PySem.W.Frag) (g : G) (sp_longer_orders : Sp) : TS :=
  (tSeq (tAsg (tLst (tCons (tLst tNil) tNil)) (gName 1))
    (tSeq (tFor (iRng1 (tCons (tCB (rLenS K) (tCons (tVar 0) tNil)) tNil)) (gName 2) (tSeq (tAsg (tLst tNil) (gName 3))
    (tSeq (tFor (iList K (tVar 1)) (gName 4) (tDrop (tBM K "list" rExtend (tVar 3) (tCons (tCall sp_longer_orders [] E0 (tCons (tVar 4) (tCons (tVar 0) tNil))) tNil))))
    (tAsg (tVar 3) (gName 1)))))
    (tRet (tVar 1))))
theorem W_all_orders (T : Txt K mg g) {sp_longer_orders : Sp} (G_longer_orders : OK_longer_orders P w K mg base g sp_longer_orders) {sp : Sp} (len : ∀ vs H Q E, sp vs H Q E → vs.length = 1)
    (h : ∀ vs H Q E, sp vs H Q E → t_all_orders K g sp_longer_orders { nx := fun _ H' => Q .non H', rt := Q } (start ["numbers", "found", "turn", "longer", "order"] vs) H) : OK_all_orders P w K mg base g sp :=
  T.F_all_orders.ok sc_all_orders len fun cdv A outer s H vs Q E hr hs => ⟨t_all_orders K g sp_longer_orders, by unfold t_all_orders; exact
    (pss_cons (ps_set (i := 1) sc_all_orders.nd rfl (Or.inl rfl) (pe_lst (pa_cons (pe_lst pa_nil) pa_nil)))
      (pss_cons (ps_for PassesOwn.never rfl (pi_range1 (by rfl) T.n_range (pa_cons (pe_callB call_len_seq (by rfl) T.n_len PySem.boot_len (pa_cons (pv 0) pa_nil)) pa_nil)) (pg_name (i := 2) sc_all_orders.nd rfl (Or.inl rfl)) (pss_cons (ps_set (i := 3) sc_all_orders.nd rfl (Or.inl rfl) (pe_lst pa_nil))
      (pss_cons (ps_for PassesOwn.never rfl (pi_list (pv 1)) (pg_name (i := 4) sc_all_orders.nd rfl (Or.inl rfl)) (pss_one (ps_expr (pe_bm PySem.F.plainAttrs_list PySem.F.slot_list_extend PySem.F.type_list_extend mt_extend (pv 3) (pa_cons (pe_call G_longer_orders hr (by rfl) T.g_longer_orders T.F_longer_orders.kp T.b_longer_orders .nil pass0 (pa_cons (pv 4) (pa_cons (pv 0) pa_nil))) pa_nil)))))
      (pss_one (ps_set (i := 1) sc_all_orders.nd rfl (Or.inl rfl) (pv 3))))))
      (pss_one (ps_ret (pv 1))))), h vs H Q E hs⟩
/-! ### plan_for -/
theorem sc_plan_for : FnScope ["numbers", "windows", "baking", "hours", "best", "order", "starts", "finished"] ["numbers", "windows", "baking", "hours"] (defScope s_plan_for) := ⟨rfl, rfl, rfl, by decide +kernel, rfl, by decide +kernel, by decide +kernel⟩
abbrev OK_plan_for (P : Program) (w : World) (K : PySem.W.Frag) (mg : Str → Option Value) (base : Heap) (g : G) (sp : Sp) : Prop := FnOk P w K mg base CX0 3 (g.f 35) (g.d 35) ["numbers", "windows", "baking", "hours"] sp
def t_plan_for (K : PySem.W.Frag) (g : G) (sp_all_orders : Sp) (sp_starts_of : Sp) (sp_finished_at : Sp) : TS :=
  (tSeq (tAsg (tC .non) (gName 4))
    (tSeq (tFor (iList K (tCall sp_all_orders [] E0 (tCons (tVar 0) tNil))) (gName 5) (tSeq (tAsg (tCall sp_starts_of [] E0 (tCons (tVar 5) (tCons (tVar 1) (tCons (tVar 2) (tCons (tVar 3) tNil))))) (gName 6))
    (tIfS (tB (tNotN (tVar 6))) (tSeq (tAsg (tCall sp_finished_at [] E0 (tCons (tVar 6) (tCons (tVar 2) tNil))) (gName 7))
    (tIfS (tOr (tB (tIsN (tVar 4))) (tB (tLt (tVar 7) (tOp (rIxT K) (tVar 4) (tC (.int 0)))))) (tAsg (tTup (tCons (tVar 7) (tCons (tVar 5) (tCons (tVar 6) tNil)))) (gName 4)) tNext)) tNext)))
    (tRet (tVar 4))))
theorem W_plan_for (T : Txt K mg g) {sp_all_orders : Sp} (G_all_orders : OK_all_orders P w K mg base g sp_all_orders) {sp_starts_of : Sp} (G_starts_of : OK_starts_of P w K mg base g sp_starts_of) {sp_finished_at : Sp} (G_finished_at : OK_finished_at P w K mg base g sp_finished_at) {sp : Sp} (len : ∀ vs H Q E, sp vs H Q E → vs.length = 4)
    (h : ∀ vs H Q E, sp vs H Q E → t_plan_for K g sp_all_orders sp_starts_of sp_finished_at { nx := fun _ H' => Q .non H', rt := Q } (start ["numbers", "windows", "baking", "hours", "best", "order", "starts", "finished"] vs) H) : OK_plan_for P w K mg base g sp :=
  T.F_plan_for.ok sc_plan_for len fun cdv A outer s H vs Q E hr hs => ⟨t_plan_for K g sp_all_orders sp_starts_of sp_finished_at, by unfold t_plan_for; exact
    (pss_cons (ps_set (i := 4) sc_plan_for.nd rfl (Or.inl rfl) pe_non)
      (pss_cons (ps_for PassesOwn.never rfl (pi_list (pe_call G_all_orders hr (by rfl) T.g_all_orders T.F_all_orders.kp T.b_all_orders .nil pass0 (pa_cons (pv 0) pa_nil))) (pg_name (i := 5) sc_plan_for.nd rfl (Or.inl rfl)) (pss_cons (ps_set (i := 6) sc_plan_for.nd rfl (Or.inl rfl) (pe_call G_starts_of hr (by rfl) T.g_starts_of T.F_starts_of.kp T.b_starts_of .nil pass0 (pa_cons (pv 5) (pa_cons (pv 1) (pa_cons (pv 2) (pa_cons (pv 3) pa_nil))))))
      (pss_one (ps_if (pt_cmp (pc_notN (pv 6)) rfl) (pss_cons (ps_set (i := 7) sc_plan_for.nd rfl (Or.inl rfl) (pe_call G_finished_at (hr.mono (by decide)) (by rfl) T.g_finished_at T.F_finished_at.kp T.b_finished_at .nil pass0 (pa_cons (pv 6) (pa_cons (pv 2) pa_nil))))
      (pss_one (ps_if (PW.pt (pw_or (pt_cmp (pc_isN (pv 4)) rfl) (pw_or1 (pt_cmp (pc_lt (pv 7) (pe_ix ix_tup (pv 4) pe_int (fun _ _ => rfl))) rfl)))) (pss_one (ps_set (i := 4) sc_plan_for.nd rfl (Or.inl rfl) (pe_tup (pa_cons (pv 7) (pa_cons (pv 5) (pa_cons (pv 6) pa_nil)))))) pss_nil))) pss_nil))))
      (pss_one (ps_ret (pv 4))))), h vs H Q E hs⟩
/-! ### is_order -/
theorem sc_is_order : FnScope ["order", "count", "place", "number"] ["order", "count"] (defScope s_is_order) := ⟨rfl, rfl, rfl, by decide +kernel, rfl, by decide +kernel, by decide +kernel⟩
abbrev OK_is_order (P : Program) (w : World) (K : PySem.W.Frag) (mg : Str → Option Value) (base : Heap) (g : G) (sp : Sp) : Prop := FnOk P w K mg base CX0 1 (g.f 36) (g.d 36) ["order", "count"] sp
def t_is_order (K : PySem.W.Frag) (g : G) : TS :=
  (tSeq (tFor (iEnum K (tCons (tVar 0) tNil)) (gTup K 2 (gCons (gName 2) (gCons (gName 3) gNil))) (tIfS (tOr (tB (tLt (tVar 3) (tC (.int 0)))) (tOr (tB (tGe (tVar 3) (tVar 1))) (tTest (tOp (rIn K false) (tVar 3) (tSl (rSlL K) (tVar 0) tNoPart (tPart (tVar 2))))))) (tRet (tC (.bl false))) tNext))
    (tRet (tC (.bl true))))
theorem W_is_order (T : Txt K mg g) {sp : Sp} (len : ∀ vs H Q E, sp vs H Q E → vs.length = 2)
    (h : ∀ vs H Q E, sp vs H Q E → t_is_order K g { nx := fun _ H' => Q .non H', rt := Q } (start ["order", "count", "place", "number"] vs) H) : OK_is_order P w K mg base g sp :=
  T.F_is_order.ok sc_is_order len fun cdv A outer s H vs Q E hr hs => ⟨t_is_order K g, by unfold t_is_order; exact
    (pss_cons (ps_for PassesOwn.never rfl (pi_enum (by rfl) T.n_enumerate (pa_cons (pv 0) pa_nil)) (pg_tup (by rfl) (pgs_cons (pg_name (i := 2) sc_is_order.nd rfl (Or.inl rfl)) (pgs_cons (pg_name (i := 3) sc_is_order.nd rfl (Or.inl rfl)) pgs_nil))) (pss_one (ps_if (PW.pt (pw_or (pt_cmp (pc_lt (pv 3) pe_int) rfl) (pw_or (pt_cmp (pc_ge (pv 3) (pv 1)) rfl) (pw_or1 (pt_cmpR op_in_seq (pv 3) (pe_slice sl_list (pv 0) po_none (po_some (pv 2))) (by rfl)))))) (pss_one (ps_ret pe_bl)) pss_nil)))
      (pss_one (ps_ret pe_bl))), h vs H Q E hs⟩
/-! ### sets_of -/
theorem sc_sets_of : FnScope ["count"] ["count"] (defScope s_sets_of) := ⟨rfl, rfl, rfl, by decide +kernel, rfl, by decide +kernel, by decide +kernel⟩
abbrev OK_sets_of (P : Program) (w : World) (K : PySem.W.Frag) (mg : Str → Option Value) (base : Heap) (g : G) (sp : Sp) : Prop := FnOk P w K mg base CX0 1 (g.f 37) (g.d 37) ["count"] sp
def t_sets_of (K : PySem.W.Frag) (g : G) : TS :=
  (tRet (tOp (rI CPow fun i j => .int (i * 2 ^ j.toNat)) (tC (.int 1)) (tVar 0)))
theorem W_sets_of (T : Txt K mg g) {sp : Sp} (len : ∀ vs H Q E, sp vs H Q E → vs.length = 1)
    (h : ∀ vs H Q E, sp vs H Q E → t_sets_of K g { nx := fun _ H' => Q .non H', rt := Q } (start ["count"] vs) H) : OK_sets_of P w K mg base g sp :=
  T.F_sets_of.ok sc_sets_of len fun cdv A outer s H vs Q E hr hs => ⟨t_sets_of K g, by unfold t_sets_of; exact
    (pss_one (ps_ret (pe_op op_shl pe_int (pv 0)))), h vs H Q E hs⟩
/-! ### doughs_in -/
theorem sc_doughs_in : FnScope ["set_number", "count", "number"] ["set_number", "count"] (defScope s_doughs_in) := ⟨rfl, rfl, rfl, by decide +kernel, rfl, by decide +kernel, by decide +kernel⟩
abbrev OK_doughs_in (P : Program) (w : World) (K : PySem.W.Frag) (mg : Str → Option Value) (base : Heap) (g : G) (sp : Sp) : Prop := FnOk P w K mg base CX0 1 (g.f 38) (g.d 38) ["set_number", "count"] sp
def t_doughs_in (K : PySem.W.Frag) (g : G) : TS :=
  (tRet (tLc (iRng1 (tCons (tVar 1) tNil)) (gName 2) (tB (tEqI (tOp (rI0 fun i j => .int (Builtin.bitAnd i j)) (tOp (rI (fun _ j => 0 ≤ j) fun i j => .int (i / 2 ^ j.toNat)) (tVar 0) (tVar 2)) (tC (.int 1))) (tC (.int 1)))) (tVar 2) [2]))
theorem W_doughs_in (T : Txt K mg g) {sp : Sp} (len : ∀ vs H Q E, sp vs H Q E → vs.length = 2)
    (h : ∀ vs H Q E, sp vs H Q E → t_doughs_in K g { nx := fun _ H' => Q .non H', rt := Q } (start ["set_number", "count", "number"] vs) H) : OK_doughs_in P w K mg base g sp :=
  T.F_doughs_in.ok sc_doughs_in len fun cdv A outer s H vs Q E hr hs => ⟨t_doughs_in K g, by unfold t_doughs_in; exact
    (pss_one (ps_ret (pe_lc (own := [("number", 2)]) (g := gName 2) (by rfl) sc_doughs_in.nd (pi_range1 (by rfl) T.n_range (pa_cons (pv 1) pa_nil)) (blkOk_by (own := [("number", 2)]) (N := ["set_number", "count", "number"]) (sc := defScope s_doughs_in) (by decide +kernel)) (fun _ _ _ _ _ => pg_name (i := 2) sc_doughs_in.nd rfl (Or.inl rfl)) (fun _ _ _ _ _ => (pts_one (pt_cmp (pc_eqI (pe_op op_and (pe_op op_shr (pv 0) (pv 2)) pe_int) pe_int) rfl))) (fun _ _ _ _ _ => (pv 2))))), h vs H Q E hs⟩
/-! ### most_doughs_of -/
theorem sc_most_doughs_of : FnScope ["windows", "baking", "hours", "best", "set_number", "numbers", "plan"] ["windows", "baking", "hours"] (defScope s_most_doughs_of) := ⟨rfl, rfl, rfl, by decide +kernel, rfl, by decide +kernel, by decide +kernel⟩
abbrev OK_most_doughs_of (P : Program) (w : World) (K : PySem.W.Frag) (mg : Str → Option Value) (base : Heap) (g : G) (sp : Sp) : Prop := FnOk P w K mg base CX0 4 (g.f 39) (g.d 39) ["windows", "baking", "hours"] sp
def t_most_doughs_of (K : PySem.W.Frag) (g : G) (sp_sets_of : Sp) (sp_doughs_in : Sp) (sp_plan_for : Sp) : TS :=
  (tSeq (tAsg (tTup (tCons (tLst tNil) (tCons (tTup (tCons (tC (.int 0)) (tCons (tLst tNil) (tCons (tLst tNil) tNil)))) tNil))) (gName 3))
    (tSeq (tFor (iRng1 (tCons (tCall sp_sets_of [] E0 (tCons (tCB (rLenS K) (tCons (tVar 0) tNil)) tNil)) tNil)) (gName 4) (tSeq (tAsg (tCall sp_doughs_in [] E0 (tCons (tVar 4) (tCons (tCB (rLenS K) (tCons (tVar 0) tNil)) tNil))) (gName 5))
    (tIfS (tB (tGt (tCB (rLenS K) (tCons (tVar 5) tNil)) (tCB (rLenS K) (tCons (tOp (rIxT K) (tVar 3) (tC (.int 0))) tNil)))) (tSeq (tAsg (tCall sp_plan_for [] E0 (tCons (tVar 5) (tCons (tVar 0) (tCons (tVar 1) (tCons (tVar 2) tNil))))) (gName 6))
    (tIfS (tB (tNotN (tVar 6))) (tAsg (tTup (tCons (tVar 5) (tCons (tVar 6) tNil))) (gName 3)) tNext)) tNext)))
    (tRet (tVar 3))))
theorem W_most_doughs_of (T : Txt K mg g) {sp_sets_of : Sp} (G_sets_of : OK_sets_of P w K mg base g sp_sets_of) {sp_doughs_in : Sp} (G_doughs_in : OK_doughs_in P w K mg base g sp_doughs_in) {sp_plan_for : Sp} (G_plan_for : OK_plan_for P w K mg base g sp_plan_for) {sp : Sp} (len : ∀ vs H Q E, sp vs H Q E → vs.length = 3)
    (h : ∀ vs H Q E, sp vs H Q E → t_most_doughs_of K g sp_sets_of sp_doughs_in sp_plan_for { nx := fun _ H' => Q .non H', rt := Q } (start ["windows", "baking", "hours", "best", "set_number", "numbers", "plan"] vs) H) : OK_most_doughs_of P w K mg base g sp :=
  T.F_most_doughs_of.ok sc_most_doughs_of len fun cdv A outer s H vs Q E hr hs => ⟨t_most_doughs_of K g sp_sets_of sp_doughs_in sp_plan_for, by unfold t_most_doughs_of; exact
    (pss_cons (ps_set (i := 3) sc_most_doughs_of.nd rfl (Or.inl rfl) (pe_tup (pa_cons (pe_lst pa_nil) (pa_cons (pe_tup (pa_cons pe_int (pa_cons (pe_lst pa_nil) (pa_cons (pe_lst pa_nil) pa_nil)))) pa_nil))))
      (pss_cons (ps_for PassesOwn.never rfl (pi_range1 (by rfl) T.n_range (pa_cons (pe_call G_sets_of (hr.mono (by decide)) (by rfl) T.g_sets_of T.F_sets_of.kp T.b_sets_of .nil pass0 (pa_cons (pe_callB call_len_seq (by rfl) T.n_len PySem.boot_len (pa_cons (pv 0) pa_nil)) pa_nil)) pa_nil)) (pg_name (i := 4) sc_most_doughs_of.nd rfl (Or.inl rfl)) (pss_cons (ps_set (i := 5) sc_most_doughs_of.nd rfl (Or.inl rfl) (pe_call G_doughs_in (hr.mono (by decide)) (by rfl) T.g_doughs_in T.F_doughs_in.kp T.b_doughs_in .nil pass0 (pa_cons (pv 4) (pa_cons (pe_callB call_len_seq (by rfl) T.n_len PySem.boot_len (pa_cons (pv 0) pa_nil)) pa_nil))))
      (pss_one (ps_if (pt_cmp (pc_gt (pe_callB call_len_seq (by rfl) T.n_len PySem.boot_len (pa_cons (pv 5) pa_nil)) (pe_callB call_len_seq (by rfl) T.n_len PySem.boot_len (pa_cons (pe_ix ix_tup (pv 3) pe_int (fun _ _ => rfl)) pa_nil))) rfl) (pss_cons (ps_set (i := 6) sc_most_doughs_of.nd rfl (Or.inl rfl) (pe_call G_plan_for hr (by rfl) T.g_plan_for T.F_plan_for.kp T.b_plan_for .nil pass0 (pa_cons (pv 5) (pa_cons (pv 0) (pa_cons (pv 1) (pa_cons (pv 2) pa_nil))))))
      (pss_one (ps_if (pt_cmp (pc_notN (pv 6)) rfl) (pss_one (ps_set (i := 3) sc_most_doughs_of.nd rfl (Or.inl rfl) (pe_tup (pa_cons (pv 5) (pa_cons (pv 6) pa_nil))))) pss_nil))) pss_nil))))
      (pss_one (ps_ret (pv 3))))), h vs H Q E hs⟩
/-! ### window -/
theorem sc_window : FnScope ["house", "number", "found"] ["house", "number"] (defScope s_window) := ⟨rfl, rfl, rfl, by decide +kernel, rfl, by decide +kernel, by decide +kernel⟩
abbrev OK_window (P : Program) (w : World) (K : PySem.W.Frag) (mg : Str → Option Value) (base : Heap) (g : G) (sp : Sp) : Prop := FnOk P w K mg base CX0 5 (g.f 40) (g.d 40) ["house", "number"] sp
def t_window (K : PySem.W.Frag) (g : G) (sp_window_of : Sp) (sp_has_dough : Sp) : TS :=
  (tSeq (tIfS (tNot (tB (tCall sp_has_dough [] E0 (tCons (tVar 0) (tCons (tVar 1) tNil))))) (tRet (tLst (tCons (tC (.int (-2))) tNil))) tNext)
    (tSeq (tAsg (tCall sp_window_of [] E0 (tCons (tOp (rIxL K) (tFld K (tVar 0) "doughs") (tVar 1)) (tCons (tFld K (tVar 0) "temperatures") tNil))) (gName 2))
    (tSeq (tIfS (tB (tIsN (tVar 2))) (tRet (tLst (tCons (tC (.int (-33))) tNil))) tNext)
    (tRet (tLst (tCons (tOp (rIxT K) (tVar 2) (tC (.int 0))) (tCons (tOp (rIxT K) (tVar 2) (tC (.int 1))) tNil)))))))
theorem W_window (T : Txt K mg g) {sp_window_of : Sp} (G_window_of : OK_window_of P w K mg base g sp_window_of) {sp_has_dough : Sp} (G_has_dough : OK_has_dough P w K mg base g sp_has_dough) {sp : Sp} (len : ∀ vs H Q E, sp vs H Q E → vs.length = 2)
    (h : ∀ vs H Q E, sp vs H Q E → t_window K g sp_window_of sp_has_dough { nx := fun _ H' => Q .non H', rt := Q } (start ["house", "number", "found"] vs) H) : OK_window P w K mg base g sp :=
  T.F_window.ok sc_window len fun cdv A outer s H vs Q E hr hs => ⟨t_window K g sp_window_of sp_has_dough, by unfold t_window; exact
    (pss_cons (ps_if (pt_not (pt_val (pe_call G_has_dough (hr.mono (by decide)) (by rfl) T.g_has_dough T.F_has_dough.kp T.b_has_dough .nil pass0 (pa_cons (pv 0) (pa_cons (pv 1) pa_nil))))) (pss_one (ps_ret (pe_lst (pa_cons (pe_globE (by rfl) T.c_MISSING) pa_nil)))) pss_nil)
      (pss_cons (ps_set (i := 2) sc_window.nd rfl (Or.inl rfl) (pe_call G_window_of hr (by rfl) T.g_window_of T.F_window_of.kp T.b_window_of .nil pass0 (pa_cons (pe_ix ix_list (pe_fld (pv 0) rfl) (pv 1) (fun _ _ => rfl)) (pa_cons (pe_fld (pv 0) rfl) pa_nil))))
      (pss_cons (ps_if (pt_cmp (pc_isN (pv 2)) rfl) (pss_one (ps_ret (pe_lst (pa_cons (pe_globE (by rfl) T.c_NOT_POSSIBLE) pa_nil)))) pss_nil)
      (pss_one (ps_ret (pe_lst (pa_cons (pe_ix ix_tup (pv 2) pe_int (fun _ _ => rfl)) (pa_cons (pe_ix ix_tup (pv 2) pe_int (fun _ _ => rfl)) pa_nil)))))))), h vs H Q E hs⟩
/-! ### risen -/
theorem sc_risen : FnScope ["house", "number", "time"] ["house", "number", "time"] (defScope s_risen) := ⟨rfl, rfl, rfl, by decide +kernel, rfl, by decide +kernel, by decide +kernel⟩
abbrev OK_risen (P : Program) (w : World) (K : PySem.W.Frag) (mg : Str → Option Value) (base : Heap) (g : G) (sp : Sp) : Prop := FnOk P w K mg base CX0 3 (g.f 41) (g.d 41) ["house", "number", "time"] sp
def t_risen (K : PySem.W.Frag) (g : G) (sp_has_dough : Sp) (sp_is_between : Sp) (sp_risen_by : Sp) (sp_hours_of : Sp) : TS :=
  (tSeq (tIfS (tNot (tB (tCall sp_has_dough [] E0 (tCons (tVar 0) (tCons (tVar 1) tNil))))) (tRet (tLst (tCons (tC (.int (-2))) tNil))) tNext)
    (tSeq (tIfS (tNot (tB (tCall sp_is_between [] E0 (tCons (tVar 2) (tCons (tC (.int 0)) (tCons (tCall sp_hours_of [] E0 (tCons (tVar 0) tNil)) tNil)))))) (tRet (tLst (tCons (tC (.int (-22))) tNil))) tNext)
    (tRet (tLst (tCons (tCall sp_risen_by [] E0 (tCons (tOp (rIxL K) (tFld K (tVar 0) "doughs") (tVar 1)) (tCons (tFld K (tVar 0) "temperatures") (tCons (tVar 2) tNil)))) tNil)))))
theorem W_risen (T : Txt K mg g) {sp_has_dough : Sp} (G_has_dough : OK_has_dough P w K mg base g sp_has_dough) {sp_is_between : Sp} (G_is_between : OK_is_between P w K mg base g sp_is_between) {sp_risen_by : Sp} (G_risen_by : OK_risen_by P w K mg base g sp_risen_by) {sp_hours_of : Sp} (G_hours_of : OK_hours_of P w K mg base g sp_hours_of) {sp : Sp} (len : ∀ vs H Q E, sp vs H Q E → vs.length = 3)
    (h : ∀ vs H Q E, sp vs H Q E → t_risen K g sp_has_dough sp_is_between sp_risen_by sp_hours_of { nx := fun _ H' => Q .non H', rt := Q } (start ["house", "number", "time"] vs) H) : OK_risen P w K mg base g sp :=
  T.F_risen.ok sc_risen len fun cdv A outer s H vs Q E hr hs => ⟨t_risen K g sp_has_dough sp_is_between sp_risen_by sp_hours_of, by unfold t_risen; exact
    (pss_cons (ps_if (pt_not (pt_val (pe_call G_has_dough (hr.mono (by decide)) (by rfl) T.g_has_dough T.F_has_dough.kp T.b_has_dough .nil pass0 (pa_cons (pv 0) (pa_cons (pv 1) pa_nil))))) (pss_one (ps_ret (pe_lst (pa_cons (pe_globE (by rfl) T.c_MISSING) pa_nil)))) pss_nil)
      (pss_cons (ps_if (pt_not (pt_val (pe_call G_is_between (hr.mono (by decide)) (by rfl) T.g_is_between T.F_is_between.kp T.b_is_between .nil pass0 (pa_cons (pv 2) (pa_cons pe_int (pa_cons (pe_call G_hours_of (hr.mono (by decide)) (by rfl) T.g_hours_of T.F_hours_of.kp T.b_hours_of .nil pass0 (pa_cons (pv 0) pa_nil)) pa_nil)))))) (pss_one (ps_ret (pe_lst (pa_cons (pe_globE (by rfl) T.c_OUT_OF_RANGE) pa_nil)))) pss_nil)
      (pss_one (ps_ret (pe_lst (pa_cons (pe_call G_risen_by hr (by rfl) T.g_risen_by T.F_risen_by.kp T.b_risen_by .nil pass0 (pa_cons (pe_ix ix_list (pe_fld (pv 0) rfl) (pv 1) (fun _ _ => rfl)) (pa_cons (pe_fld (pv 0) rfl) (pa_cons (pv 2) pa_nil)))) pa_nil)))))), h vs H Q E hs⟩
/-! ### start_times -/
theorem sc_start_times : FnScope ["house", "order", "starts"] ["house", "order"] (defScope s_start_times) := ⟨rfl, rfl, rfl, by decide +kernel, rfl, by decide +kernel, by decide +kernel⟩
abbrev OK_start_times (P : Program) (w : World) (K : PySem.W.Frag) (mg : Str → Option Value) (base : Heap) (g : G) (sp : Sp) : Prop := FnOk P w K mg base CX0 6 (g.f 42) (g.d 42) ["house", "order"] sp
def t_start_times (K : PySem.W.Frag) (g : G) (sp_starts_of : Sp) (sp_is_order : Sp) (sp_windows_of : Sp) (sp_hours_of : Sp) : TS :=
  (tSeq (tIfS (tNot (tB (tCall sp_is_order [] E0 (tCons (tVar 1) (tCons (tCB (rLenS K) (tCons (tFld K (tVar 0) "doughs") tNil)) tNil))))) (tRet (tLst (tCons (tC (.int (-22))) tNil))) tNext)
    (tSeq (tAsg (tCall sp_starts_of [] E0 (tCons (tVar 1) (tCons (tCall sp_windows_of [] E0 (tCons (tVar 0) tNil)) (tCons (tFld K (tVar 0) "baking") (tCons (tCall sp_hours_of [] E0 (tCons (tVar 0) tNil)) tNil))))) (gName 2))
    (tSeq (tIfS (tB (tIsN (tVar 2))) (tRet (tLst (tCons (tC (.int (-33))) tNil))) tNext)
    (tRet (tOp rCat (tLst (tCons (tCB (rLenS K) (tCons (tVar 2) tNil)) tNil)) (tVar 2))))))
theorem W_start_times (T : Txt K mg g) {sp_starts_of : Sp} (G_starts_of : OK_starts_of P w K mg base g sp_starts_of) {sp_is_order : Sp} (G_is_order : OK_is_order P w K mg base g sp_is_order) {sp_windows_of : Sp} (G_windows_of : OK_windows_of P w K mg base g sp_windows_of) {sp_hours_of : Sp} (G_hours_of : OK_hours_of P w K mg base g sp_hours_of) {sp : Sp} (len : ∀ vs H Q E, sp vs H Q E → vs.length = 2)
    (h : ∀ vs H Q E, sp vs H Q E → t_start_times K g sp_starts_of sp_is_order sp_windows_of sp_hours_of { nx := fun _ H' => Q .non H', rt := Q } (start ["house", "order", "starts"] vs) H) : OK_start_times P w K mg base g sp :=
  T.F_start_times.ok sc_start_times len fun cdv A outer s H vs Q E hr hs => ⟨t_start_times K g sp_starts_of sp_is_order sp_windows_of sp_hours_of, by unfold t_start_times; exact
    (pss_cons (ps_if (pt_not (pt_val (pe_call G_is_order (hr.mono (by decide)) (by rfl) T.g_is_order T.F_is_order.kp T.b_is_order .nil pass0 (pa_cons (pv 1) (pa_cons (pe_callB call_len_seq (by rfl) T.n_len PySem.boot_len (pa_cons (pe_fld (pv 0) rfl) pa_nil)) pa_nil))))) (pss_one (ps_ret (pe_lst (pa_cons (pe_globE (by rfl) T.c_OUT_OF_RANGE) pa_nil)))) pss_nil)
      (pss_cons (ps_set (i := 2) sc_start_times.nd rfl (Or.inl rfl) (pe_call G_starts_of (hr.mono (by decide)) (by rfl) T.g_starts_of T.F_starts_of.kp T.b_starts_of .nil pass0 (pa_cons (pv 1) (pa_cons (pe_call G_windows_of hr (by rfl) T.g_windows_of T.F_windows_of.kp T.b_windows_of .nil pass0 (pa_cons (pv 0) pa_nil)) (pa_cons (pe_fld (pv 0) rfl) (pa_cons (pe_call G_hours_of (hr.mono (by decide)) (by rfl) T.g_hours_of T.F_hours_of.kp T.b_hours_of .nil pass0 (pa_cons (pv 0) pa_nil)) pa_nil))))))
      (pss_cons (ps_if (pt_cmp (pc_isN (pv 2)) rfl) (pss_one (ps_ret (pe_lst (pa_cons (pe_globE (by rfl) T.c_NOT_POSSIBLE) pa_nil)))) pss_nil)
      (pss_one (ps_ret (pe_op op_cat (pe_lst (pa_cons (pe_callB call_len_seq (by rfl) T.n_len PySem.boot_len (pa_cons (pv 2) pa_nil)) pa_nil)) (pv 2))))))), h vs H Q E hs⟩
/-! ### plan -/
theorem sc_plan : FnScope ["house", "numbers", "found"] ["house"] (defScope s_plan) := ⟨rfl, rfl, rfl, by decide +kernel, rfl, by decide +kernel, by decide +kernel⟩
abbrev OK_plan (P : Program) (w : World) (K : PySem.W.Frag) (mg : Str → Option Value) (base : Heap) (g : G) (sp : Sp) : Prop := FnOk P w K mg base CX0 6 (g.f 43) (g.d 43) ["house"] sp
def t_plan (K : PySem.W.Frag) (g : G) (sp_plan_for : Sp) (sp_windows_of : Sp) (sp_hours_of : Sp) : TS :=
  (tSeq (tAsg (tLstRg (tRg1 (tCB (rLenS K) (tCons (tFld K (tVar 0) "doughs") tNil)))) (gName 1))
    (tSeq (tAsg (tCall sp_plan_for [] E0 (tCons (tVar 1) (tCons (tCall sp_windows_of [] E0 (tCons (tVar 0) tNil)) (tCons (tFld K (tVar 0) "baking") (tCons (tCall sp_hours_of [] E0 (tCons (tVar 0) tNil)) tNil))))) (gName 2))
    (tSeq (tIfS (tB (tIsN (tVar 2))) (tRet (tLst (tCons (tC (.int (-33))) tNil))) tNext)
    (tRet (tOp rCat (tOp rCat (tLst (tCons (tOp (rIxT K) (tVar 2) (tC (.int 0))) tNil)) (tOp (rIxT K) (tVar 2) (tC (.int 1)))) (tOp (rIxT K) (tVar 2) (tC (.int 2))))))))
theorem W_plan (T : Txt K mg g) {sp_plan_for : Sp} (G_plan_for : OK_plan_for P w K mg base g sp_plan_for) {sp_windows_of : Sp} (G_windows_of : OK_windows_of P w K mg base g sp_windows_of) {sp_hours_of : Sp} (G_hours_of : OK_hours_of P w K mg base g sp_hours_of) {sp : Sp} (len : ∀ vs H Q E, sp vs H Q E → vs.length = 1)
    (h : ∀ vs H Q E, sp vs H Q E → t_plan K g sp_plan_for sp_windows_of sp_hours_of { nx := fun _ H' => Q .non H', rt := Q } (start ["house", "numbers", "found"] vs) H) : OK_plan P w K mg base g sp :=
  T.F_plan.ok sc_plan len fun cdv A outer s H vs Q E hr hs => ⟨t_plan K g sp_plan_for sp_windows_of sp_hours_of, by unfold t_plan; exact
    (pss_cons (ps_set (i := 1) sc_plan.nd rfl (Or.inl rfl) (pe_listRg rfl (by rfl) T.n_list (prg_1 (by rfl) T.n_range (pe_callB call_len_seq (by rfl) T.n_len PySem.boot_len (pa_cons (pe_fld (pv 0) rfl) pa_nil)))))
      (pss_cons (ps_set (i := 2) sc_plan.nd rfl (Or.inl rfl) (pe_call G_plan_for (hr.mono (by decide)) (by rfl) T.g_plan_for T.F_plan_for.kp T.b_plan_for .nil pass0 (pa_cons (pv 1) (pa_cons (pe_call G_windows_of hr (by rfl) T.g_windows_of T.F_windows_of.kp T.b_windows_of .nil pass0 (pa_cons (pv 0) pa_nil)) (pa_cons (pe_fld (pv 0) rfl) (pa_cons (pe_call G_hours_of (hr.mono (by decide)) (by rfl) T.g_hours_of T.F_hours_of.kp T.b_hours_of .nil pass0 (pa_cons (pv 0) pa_nil)) pa_nil))))))
      (pss_cons (ps_if (pt_cmp (pc_isN (pv 2)) rfl) (pss_one (ps_ret (pe_lst (pa_cons (pe_globE (by rfl) T.c_NOT_POSSIBLE) pa_nil)))) pss_nil)
      (pss_one (ps_ret (pe_op op_cat (pe_op op_cat (pe_lst (pa_cons (pe_ix ix_tup (pv 2) pe_int (fun _ _ => rfl)) pa_nil)) (pe_ix ix_tup (pv 2) pe_int (fun _ _ => rfl))) (pe_ix ix_tup (pv 2) pe_int (fun _ _ => rfl)))))))), h vs H Q E hs⟩
/-! ### most_doughs -/
theorem sc_most_doughs : FnScope ["house", "numbers", "found"] ["house"] (defScope s_most_doughs) := ⟨rfl, rfl, rfl, by decide +kernel, rfl, by decide +kernel, by decide +kernel⟩
abbrev OK_most_doughs (P : Program) (w : World) (K : PySem.W.Frag) (mg : Str → Option Value) (base : Heap) (g : G) (sp : Sp) : Prop := FnOk P w K mg base CX0 6 (g.f 44) (g.d 44) ["house"] sp
def t_most_doughs (K : PySem.W.Frag) (g : G) (sp_most_doughs_of : Sp) (sp_windows_of : Sp) (sp_hours_of : Sp) : TS :=
  (tSeq (tAsg (tCall sp_most_doughs_of [] E0 (tCons (tCall sp_windows_of [] E0 (tCons (tVar 0) tNil)) (tCons (tFld K (tVar 0) "baking") (tCons (tCall sp_hours_of [] E0 (tCons (tVar 0) tNil)) tNil)))) (gTup K 2 (gCons (gName 1) (gCons (gName 2) gNil))))
    (tRet (tOp rCat (tOp rCat (tLst (tCons (tCB (rLenS K) (tCons (tVar 1) tNil)) tNil)) (tVar 1)) (tOp (rIxT K) (tVar 2) (tC (.int 1))))))
theorem W_most_doughs (T : Txt K mg g) {sp_most_doughs_of : Sp} (G_most_doughs_of : OK_most_doughs_of P w K mg base g sp_most_doughs_of) {sp_windows_of : Sp} (G_windows_of : OK_windows_of P w K mg base g sp_windows_of) {sp_hours_of : Sp} (G_hours_of : OK_hours_of P w K mg base g sp_hours_of) {sp : Sp} (len : ∀ vs H Q E, sp vs H Q E → vs.length = 1)
    (h : ∀ vs H Q E, sp vs H Q E → t_most_doughs K g sp_most_doughs_of sp_windows_of sp_hours_of { nx := fun _ H' => Q .non H', rt := Q } (start ["house", "numbers", "found"] vs) H) : OK_most_doughs P w K mg base g sp :=
  T.F_most_doughs.ok sc_most_doughs len fun cdv A outer s H vs Q E hr hs => ⟨t_most_doughs K g sp_most_doughs_of sp_windows_of sp_hours_of, by unfold t_most_doughs; exact
    (pss_cons (ps_asg (pe_call G_most_doughs_of (hr.mono (by decide)) (by rfl) T.g_most_doughs_of T.F_most_doughs_of.kp T.b_most_doughs_of .nil pass0 (pa_cons (pe_call G_windows_of hr (by rfl) T.g_windows_of T.F_windows_of.kp T.b_windows_of .nil pass0 (pa_cons (pv 0) pa_nil)) (pa_cons (pe_fld (pv 0) rfl) (pa_cons (pe_call G_hours_of (hr.mono (by decide)) (by rfl) T.g_hours_of T.F_hours_of.kp T.b_hours_of .nil pass0 (pa_cons (pv 0) pa_nil)) pa_nil)))) (pg_tup (by rfl) (pgs_cons (pg_name (i := 1) sc_most_doughs.nd rfl (Or.inl rfl)) (pgs_cons (pg_name (i := 2) sc_most_doughs.nd rfl (Or.inl rfl)) pgs_nil))))
      (pss_one (ps_ret (pe_op op_cat (pe_op op_cat (pe_lst (pa_cons (pe_callB call_len_seq (by rfl) T.n_len PySem.boot_len (pa_cons (pv 1) pa_nil)) pa_nil)) (pv 1)) (pe_ix ix_tup (pv 2) pe_int (fun _ _ => rfl)))))), h vs H Q E hs⟩
/-! ### earliest_deadline -/
theorem sc_earliest_deadline : FnScope ["house", "windows", "order"] ["house"] (defScope s_earliest_deadline) := ⟨rfl, rfl, rfl, by decide +kernel, rfl, by decide +kernel, by decide +kernel⟩
abbrev OK_earliest_deadline (P : Program) (w : World) (K : PySem.W.Frag) (mg : Str → Option Value) (base : Heap) (g : G) (sp : Sp) : Prop := FnOk P w K mg base CX0 6 (g.f 45) (g.d 45) ["house"] sp
def t_earliest_deadline (K : PySem.W.Frag) (g : G) (sp_windows_of : Sp) (sp_deadline_order : Sp) (sp_starts_of : Sp) (sp_hours_of : Sp) : TS :=
  (tSeq (tAsg (tCall sp_windows_of [] E0 (tCons (tVar 0) tNil)) (gName 1))
    (tSeq (tAsg (tCall sp_deadline_order [] E0 (tCons (tVar 1) (tCons (tFld K (tVar 0) "baking") tNil))) (gName 2))
    (tSeq (tIfS (tB (tIsN (tCall sp_starts_of [] E0 (tCons (tVar 2) (tCons (tVar 1) (tCons (tFld K (tVar 0) "baking") (tCons (tCall sp_hours_of [] E0 (tCons (tVar 0) tNil)) tNil))))))) (tRet (tOp rCat (tLst (tCons (tC (.int 0)) tNil)) (tVar 2))) tNext)
    (tRet (tOp rCat (tLst (tCons (tC (.int 1)) tNil)) (tVar 2))))))
theorem W_earliest_deadline (T : Txt K mg g) {sp_windows_of : Sp} (G_windows_of : OK_windows_of P w K mg base g sp_windows_of) {sp_deadline_order : Sp} (G_deadline_order : OK_deadline_order P w K mg base g sp_deadline_order) {sp_starts_of : Sp} (G_starts_of : OK_starts_of P w K mg base g sp_starts_of) {sp_hours_of : Sp} (G_hours_of : OK_hours_of P w K mg base g sp_hours_of) {sp : Sp} (len : ∀ vs H Q E, sp vs H Q E → vs.length = 1)
    (h : ∀ vs H Q E, sp vs H Q E → t_earliest_deadline K g sp_windows_of sp_deadline_order sp_starts_of sp_hours_of { nx := fun _ H' => Q .non H', rt := Q } (start ["house", "windows", "order"] vs) H) : OK_earliest_deadline P w K mg base g sp :=
  T.F_earliest_deadline.ok sc_earliest_deadline len fun cdv A outer s H vs Q E hr hs => ⟨t_earliest_deadline K g sp_windows_of sp_deadline_order sp_starts_of sp_hours_of, by unfold t_earliest_deadline; exact
    (pss_cons (ps_set (i := 1) sc_earliest_deadline.nd rfl (Or.inl rfl) (pe_call G_windows_of hr (by rfl) T.g_windows_of T.F_windows_of.kp T.b_windows_of .nil pass0 (pa_cons (pv 0) pa_nil)))
      (pss_cons (ps_set (i := 2) sc_earliest_deadline.nd rfl (Or.inl rfl) (pe_call G_deadline_order (hr.mono (by decide)) (by rfl) T.g_deadline_order T.F_deadline_order.kp T.b_deadline_order .nil pass0 (pa_cons (pv 1) (pa_cons (pe_fld (pv 0) rfl) pa_nil))))
      (pss_cons (ps_if (pt_cmp (pc_isN (pe_call G_starts_of (hr.mono (by decide)) (by rfl) T.g_starts_of T.F_starts_of.kp T.b_starts_of .nil pass0 (pa_cons (pv 2) (pa_cons (pv 1) (pa_cons (pe_fld (pv 0) rfl) (pa_cons (pe_call G_hours_of (hr.mono (by decide)) (by rfl) T.g_hours_of T.F_hours_of.kp T.b_hours_of .nil pass0 (pa_cons (pv 0) pa_nil)) pa_nil)))))) rfl) (pss_one (ps_ret (pe_op op_cat (pe_lst (pa_cons pe_int pa_nil)) (pv 2)))) pss_nil)
      (pss_one (ps_ret (pe_op op_cat (pe_lst (pa_cons pe_int pa_nil)) (pv 2))))))), h vs H Q E hs⟩
/-! ### can_bake -/
theorem sc_can_bake : FnScope ["house", "set_number", "count"] ["house", "set_number"] (defScope s_can_bake) := ⟨rfl, rfl, rfl, by decide +kernel, rfl, by decide +kernel, by decide +kernel⟩
abbrev OK_can_bake (P : Program) (w : World) (K : PySem.W.Frag) (mg : Str → Option Value) (base : Heap) (g : G) (sp : Sp) : Prop := FnOk P w K mg base CX0 6 (g.f 46) (g.d 46) ["house", "set_number"] sp
def t_can_bake (K : PySem.W.Frag) (g : G) (sp_is_between : Sp) (sp_plan_for : Sp) (sp_doughs_in : Sp) (sp_windows_of : Sp) (sp_hours_of : Sp) (sp_sets_of : Sp) : TS :=
  (tSeq (tAsg (tCB (rLenS K) (tCons (tFld K (tVar 0) "doughs") tNil)) (gName 2))
    (tSeq (tIfS (tNot (tB (tCall sp_is_between [] E0 (tCons (tVar 1) (tCons (tC (.int 0)) (tCons (tOp (rI0 fun i j => .int (i - j)) (tCall sp_sets_of [] E0 (tCons (tVar 2) tNil)) (tC (.int 1))) tNil)))))) (tRet (tLst (tCons (tC (.int (-22))) tNil))) tNext)
    (tSeq (tIfS (tB (tIsN (tCall sp_plan_for [] E0 (tCons (tCall sp_doughs_in [] E0 (tCons (tVar 1) (tCons (tVar 2) tNil))) (tCons (tCall sp_windows_of [] E0 (tCons (tVar 0) tNil)) (tCons (tFld K (tVar 0) "baking") (tCons (tCall sp_hours_of [] E0 (tCons (tVar 0) tNil)) tNil))))))) (tRet (tLst (tCons (tC (.int 0)) tNil))) tNext)
    (tRet (tLst (tCons (tC (.int 1)) tNil))))))
theorem W_can_bake (T : Txt K mg g) {sp_is_between : Sp} (G_is_between : OK_is_between P w K mg base g sp_is_between) {sp_plan_for : Sp} (G_plan_for : OK_plan_for P w K mg base g sp_plan_for) {sp_doughs_in : Sp} (G_doughs_in : OK_doughs_in P w K mg base g sp_doughs_in) {sp_windows_of : Sp} (G_windows_of : OK_windows_of P w K mg base g sp_windows_of) {sp_hours_of : Sp} (G_hours_of : OK_hours_of P w K mg base g sp_hours_of) {sp_sets_of : Sp} (G_sets_of : OK_sets_of P w K mg base g sp_sets_of) {sp : Sp} (len : ∀ vs H Q E, sp vs H Q E → vs.length = 2)
    (h : ∀ vs H Q E, sp vs H Q E → t_can_bake K g sp_is_between sp_plan_for sp_doughs_in sp_windows_of sp_hours_of sp_sets_of { nx := fun _ H' => Q .non H', rt := Q } (start ["house", "set_number", "count"] vs) H) : OK_can_bake P w K mg base g sp :=
  T.F_can_bake.ok sc_can_bake len fun cdv A outer s H vs Q E hr hs => ⟨t_can_bake K g sp_is_between sp_plan_for sp_doughs_in sp_windows_of sp_hours_of sp_sets_of, by unfold t_can_bake; exact
    (pss_cons (ps_set (i := 2) sc_can_bake.nd rfl (Or.inl rfl) (pe_callB call_len_seq (by rfl) T.n_len PySem.boot_len (pa_cons (pe_fld (pv 0) rfl) pa_nil)))
      (pss_cons (ps_if (pt_not (pt_val (pe_call G_is_between (hr.mono (by decide)) (by rfl) T.g_is_between T.F_is_between.kp T.b_is_between .nil pass0 (pa_cons (pv 1) (pa_cons pe_int (pa_cons (pe_op op_sub (pe_call G_sets_of (hr.mono (by decide)) (by rfl) T.g_sets_of T.F_sets_of.kp T.b_sets_of .nil pass0 (pa_cons (pv 2) pa_nil)) pe_int) pa_nil)))))) (pss_one (ps_ret (pe_lst (pa_cons (pe_globE (by rfl) T.c_OUT_OF_RANGE) pa_nil)))) pss_nil)
      (pss_cons (ps_if (pt_cmp (pc_isN (pe_call G_plan_for (hr.mono (by decide)) (by rfl) T.g_plan_for T.F_plan_for.kp T.b_plan_for .nil pass0 (pa_cons (pe_call G_doughs_in (hr.mono (by decide)) (by rfl) T.g_doughs_in T.F_doughs_in.kp T.b_doughs_in .nil pass0 (pa_cons (pv 1) (pa_cons (pv 2) pa_nil))) (pa_cons (pe_call G_windows_of hr (by rfl) T.g_windows_of T.F_windows_of.kp T.b_windows_of .nil pass0 (pa_cons (pv 0) pa_nil)) (pa_cons (pe_fld (pv 0) rfl) (pa_cons (pe_call G_hours_of (hr.mono (by decide)) (by rfl) T.g_hours_of T.F_hours_of.kp T.b_hours_of .nil pass0 (pa_cons (pv 0) pa_nil)) pa_nil)))))) rfl) (pss_one (ps_ret (pe_lst (pa_cons pe_int pa_nil)))) pss_nil)
      (pss_one (ps_ret (pe_lst (pa_cons pe_int pa_nil))))))), h vs H Q E hs⟩
/-! ### plan_if_cooled -/
theorem sc_plan_if_cooled : FnScope ["house", "number", "start", "to", "refusal", "other"] ["house", "number", "start", "to"] (defScope s_plan_if_cooled) := ⟨rfl, rfl, rfl, by decide +kernel, rfl, by decide +kernel, by decide +kernel⟩
abbrev OK_plan_if_cooled (P : Program) (w : World) (K : PySem.W.Frag) (mg : Str → Option Value) (base : Heap) (g : G) (sp : Sp) : Prop := FnOk P w K mg base CX0 7 (g.f 47) (g.d 47) ["house", "number", "start", "to"] sp
def t_plan_if_cooled (K : PySem.W.Frag) (g : G) (sp_cooling_refusal : Sp) (sp_copied_house : Sp) (sp_cool_hours : Sp) (sp_plan : Sp) : TS :=
  (tSeq (tAsg (tCall sp_cooling_refusal [] E0 (tCons (tVar 0) (tCons (tVar 1) (tCons (tVar 2) (tCons (tVar 3) tNil))))) (gName 4))
    (tSeq (tIfS (tB (tNotN (tVar 4))) (tRet (tLst (tCons (tVar 4) tNil))) tNext)
    (tSeq (tAsg (tCall sp_copied_house [] E0 (tCons (tVar 0) tNil)) (gName 5))
    (tSeq (tDrop (tCall sp_cool_hours [] E0 (tCons (tOp (rIxL K) (tFld K (tVar 5) "doughs") (tVar 1)) (tCons (tVar 2) (tCons (tVar 3) tNil)))))
    (tRet (tCall sp_plan [] E0 (tCons (tVar 5) tNil)))))))
theorem W_plan_if_cooled (T : Txt K mg g) {sp_cooling_refusal : Sp} (G_cooling_refusal : OK_cooling_refusal P w K mg base g sp_cooling_refusal) {sp_copied_house : Sp} (G_copied_house : OK_copied_house P w K mg base g sp_copied_house) {sp_cool_hours : Sp} (G_cool_hours : OK_cool_hours P w K mg base g sp_cool_hours) {sp_plan : Sp} (G_plan : OK_plan P w K mg base g sp_plan) {sp : Sp} (len : ∀ vs H Q E, sp vs H Q E → vs.length = 4)
    (h : ∀ vs H Q E, sp vs H Q E → t_plan_if_cooled K g sp_cooling_refusal sp_copied_house sp_cool_hours sp_plan { nx := fun _ H' => Q .non H', rt := Q } (start ["house", "number", "start", "to", "refusal", "other"] vs) H) : OK_plan_if_cooled P w K mg base g sp :=
  T.F_plan_if_cooled.ok sc_plan_if_cooled len fun cdv A outer s H vs Q E hr hs => ⟨t_plan_if_cooled K g sp_cooling_refusal sp_copied_house sp_cool_hours sp_plan, by unfold t_plan_if_cooled; exact
    (pss_cons (ps_set (i := 4) sc_plan_if_cooled.nd rfl (Or.inl rfl) (pe_call G_cooling_refusal (hr.mono (by decide)) (by rfl) T.g_cooling_refusal T.F_cooling_refusal.kp T.b_cooling_refusal .nil pass0 (pa_cons (pv 0) (pa_cons (pv 1) (pa_cons (pv 2) (pa_cons (pv 3) pa_nil))))))
      (pss_cons (ps_if (pt_cmp (pc_notN (pv 4)) rfl) (pss_one (ps_ret (pe_lst (pa_cons (pv 4) pa_nil)))) pss_nil)
      (pss_cons (ps_set (i := 5) sc_plan_if_cooled.nd rfl (Or.inl rfl) (pe_call G_copied_house (hr.mono (by decide)) (by rfl) T.g_copied_house T.F_copied_house.kp T.b_copied_house .nil pass0 (pa_cons (pv 0) pa_nil)))
      (pss_cons (ps_expr (pe_call G_cool_hours (hr.mono (by decide)) (by rfl) T.g_cool_hours T.F_cool_hours.kp T.b_cool_hours .nil pass0 (pa_cons (pe_ix ix_list (pe_fld (pv 5) rfl) (pv 1) (fun _ _ => rfl)) (pa_cons (pv 2) (pa_cons (pv 3) pa_nil)))))
      (pss_one (ps_ret (pe_call G_plan hr (by rfl) T.g_plan T.F_plan.kp T.b_plan .nil pass0 (pa_cons (pv 5) pa_nil)))))))), h vs H Q E hs⟩
/-! ### describe -/
theorem sc_describe : FnScope ["house", "told", "dough"] ["house"] (defScope s_describe) := ⟨rfl, rfl, rfl, by decide +kernel, rfl, by decide +kernel, by decide +kernel⟩
abbrev OK_describe (P : Program) (w : World) (K : PySem.W.Frag) (mg : Str → Option Value) (base : Heap) (g : G) (sp : Sp) : Prop := FnOk P w K mg base CX0 2 (g.f 48) (g.d 48) ["house"] sp
def t_describe (K : PySem.W.Frag) (g : G) (sp_hours_of : Sp) (sp_cooled_count : Sp) : TS :=
  (tSeq (tAsg (tOp rCat (tOp rCat (tLst (tCons (tCall sp_hours_of [] E0 (tCons (tVar 0) tNil)) tNil)) (tFld K (tVar 0) "temperatures")) (tLst (tCons (tFld K (tVar 0) "baking") (tCons (tCB (rLenS K) (tCons (tFld K (tVar 0) "doughs") tNil)) tNil)))) (gName 1))
    (tSeq (tFor (iList K (tFld K (tVar 0) "doughs")) (gName 2) (tDrop (tBM K "list" rExtend (tVar 1) (tCons (tLst (tCons (tFld K (tVar 2) "mixed_at") (tCons (tFld K (tVar 2) "minimum") (tCons (tFld K (tVar 2) "maximum") (tCons (tCall sp_cooled_count [] E0 (tCons (tVar 2) tNil)) tNil))))) tNil))))
    (tRet (tVar 1))))
theorem W_describe (T : Txt K mg g) {sp_hours_of : Sp} (G_hours_of : OK_hours_of P w K mg base g sp_hours_of) {sp_cooled_count : Sp} (G_cooled_count : OK_cooled_count P w K mg base g sp_cooled_count) {sp : Sp} (len : ∀ vs H Q E, sp vs H Q E → vs.length = 1)
    (h : ∀ vs H Q E, sp vs H Q E → t_describe K g sp_hours_of sp_cooled_count { nx := fun _ H' => Q .non H', rt := Q } (start ["house", "told", "dough"] vs) H) : OK_describe P w K mg base g sp :=
  T.F_describe.ok sc_describe len fun cdv A outer s H vs Q E hr hs => ⟨t_describe K g sp_hours_of sp_cooled_count, by unfold t_describe; exact
    (pss_cons (ps_set (i := 1) sc_describe.nd rfl (Or.inl rfl) (pe_op op_cat (pe_op op_cat (pe_lst (pa_cons (pe_call G_hours_of hr (by rfl) T.g_hours_of T.F_hours_of.kp T.b_hours_of .nil pass0 (pa_cons (pv 0) pa_nil)) pa_nil)) (pe_fld (pv 0) rfl)) (pe_lst (pa_cons (pe_fld (pv 0) rfl) (pa_cons (pe_callB call_len_seq (by rfl) T.n_len PySem.boot_len (pa_cons (pe_fld (pv 0) rfl) pa_nil)) pa_nil)))))
      (pss_cons (ps_for PassesOwn.never rfl (pi_list (pe_fld (pv 0) rfl)) (pg_name (i := 2) sc_describe.nd rfl (Or.inl rfl)) (pss_one (ps_expr (pe_bm PySem.F.plainAttrs_list PySem.F.slot_list_extend PySem.F.type_list_extend mt_extend (pv 1) (pa_cons (pe_lst (pa_cons (pe_fld (pv 2) rfl) (pa_cons (pe_fld (pv 2) rfl) (pa_cons (pe_fld (pv 2) rfl) (pa_cons (pe_call G_cooled_count hr (by rfl) T.g_cooled_count T.F_cooled_count.kp T.b_cooled_count .nil pass0 (pa_cons (pv 2) pa_nil)) pa_nil))))) pa_nil)))))
      (pss_one (ps_ret (pv 1))))), h vs H Q E hs⟩
/-! ### Desk_init -/
theorem sc_Desk_init : FnScope ["self"] ["self"] (defScope s_Desk_init) := ⟨rfl, rfl, rfl, by decide +kernel, rfl, by decide +kernel, by decide +kernel⟩
abbrev OK_Desk_init (P : Program) (w : World) (K : PySem.W.Frag) (mg : Str → Option Value) (base : Heap) (g : G) (sp : Sp) : Prop := FnOk P w K mg base CX0 1 (g.f 49) (g.d 49) ["self"] sp
def t_Desk_init (K : PySem.W.Frag) (g : G) : TS :=
  (sFld K (tVar 0) (tC .non) "house")
theorem W_Desk_init (T : Txt K mg g) {sp : Sp} (len : ∀ vs H Q E, sp vs H Q E → vs.length = 1)
    (h : ∀ vs H Q E, sp vs H Q E → t_Desk_init K g { nx := fun _ H' => Q .non H', rt := Q } (start ["self"] vs) H) : OK_Desk_init P w K mg base g sp :=
  T.F_Desk_init.ok sc_Desk_init len fun cdv A outer s H vs Q E hr hs => ⟨t_Desk_init K g, by unfold t_Desk_init; exact
    (pss_one (ps_fld (pv 0) pe_non rfl)), h vs H Q E hs⟩
/-! ### create -/
theorem sc_create : FnScope ["desk", "hours", "baking"] ["desk", "hours", "baking"] (defScope s_create) := ⟨rfl, rfl, rfl, by decide +kernel, rfl, by decide +kernel, by decide +kernel⟩
abbrev OK_create (P : Program) (w : World) (K : PySem.W.Frag) (mg : Str → Option Value) (base : Heap) (g : G) (sp : Sp) : Prop := FnOk P w K mg base CX0 4 (g.f 50) (g.d 50) ["desk", "hours", "baking"] sp
def t_create (K : PySem.W.Frag) (g : G) (sp_new_house : Sp) (sp_is_between : Sp) (sp_is_baking : Sp) : TS :=
  (tSeq (tIfS (tOr (tNot (tB (tCall sp_is_between [] E0 (tCons (tVar 1) (tCons (tC (.int 1)) (tCons (tC (.int (36))) tNil)))))) (tNot (tB (tCall sp_is_baking [] E0 (tCons (tVar 2) tNil))))) (tRet (tLst (tCons (tC (.int (-22))) tNil))) tNext)
    (tSeq (sFld K (tVar 0) (tCall sp_new_house [] E0 (tCons (tVar 1) (tCons (tVar 2) tNil))) "house")
    (tRet (tLst (tCons (tC (.int 0)) tNil)))))
theorem W_create (T : Txt K mg g) {sp_new_house : Sp} (G_new_house : OK_new_house P w K mg base g sp_new_house) {sp_is_between : Sp} (G_is_between : OK_is_between P w K mg base g sp_is_between) {sp_is_baking : Sp} (G_is_baking : OK_is_baking P w K mg base g sp_is_baking) {sp : Sp} (len : ∀ vs H Q E, sp vs H Q E → vs.length = 3)
    (h : ∀ vs H Q E, sp vs H Q E → t_create K g sp_new_house sp_is_between sp_is_baking { nx := fun _ H' => Q .non H', rt := Q } (start ["desk", "hours", "baking"] vs) H) : OK_create P w K mg base g sp :=
  T.F_create.ok sc_create len fun cdv A outer s H vs Q E hr hs => ⟨t_create K g sp_new_house sp_is_between sp_is_baking, by unfold t_create; exact
    (pss_cons (ps_if (PW.pt (pw_or (pt_not (pt_val (pe_call G_is_between (hr.mono (by decide)) (by rfl) T.g_is_between T.F_is_between.kp T.b_is_between .nil pass0 (pa_cons (pv 1) (pa_cons pe_int (pa_cons (pe_globE (by rfl) T.c_MOST_HOURS) pa_nil)))))) (pw_or1 (pt_not (pt_val (pe_call G_is_baking (hr.mono (by decide)) (by rfl) T.g_is_baking T.F_is_baking.kp T.b_is_baking .nil pass0 (pa_cons (pv 2) pa_nil))))))) (pss_one (ps_ret (pe_lst (pa_cons (pe_globE (by rfl) T.c_OUT_OF_RANGE) pa_nil)))) pss_nil)
      (pss_cons (ps_fld (pv 0) (pe_call G_new_house hr (by rfl) T.g_new_house T.F_new_house.kp T.b_new_house .nil pass0 (pa_cons (pv 1) (pa_cons (pv 2) pa_nil))) rfl)
      (pss_one (ps_ret (pe_lst (pa_cons pe_int pa_nil)))))), h vs H Q E hs⟩
/-! ### changed -/
theorem sc_changed : FnScope ["house", "place", "numbers"] ["house", "place", "numbers"] (defScope s_changed) := ⟨rfl, rfl, rfl, by decide +kernel, rfl, by decide +kernel, by decide +kernel⟩
abbrev OK_changed (P : Program) (w : World) (K : PySem.W.Frag) (mg : Str → Option Value) (base : Heap) (g : G) (sp : Sp) : Prop := FnOk P w K mg base CX0 6 (g.f 51) (g.d 51) ["house", "place", "numbers"] sp
def t_changed (K : PySem.W.Frag) (g : G) (sp_set_baking_time : Sp) (sp_set_temperature : Sp) (sp_set_temperatures : Sp) (sp_add_dough : Sp) (sp_remove_dough : Sp) (sp_cool : Sp) (sp_stop_cooling : Sp) : TS :=
  (tSeq (tIfS (tB (tEqI (tVar 1) (tC (.int 1)))) (tRet (tCall sp_set_temperature [] E0 (tCons (tVar 0) (tCons (tOp (rIxL K) (tVar 2) (tC (.int 0))) (tCons (tOp (rIxL K) (tVar 2) (tC (.int 1))) tNil))))) tNext)
    (tSeq (tIfS (tB (tEqI (tVar 1) (tC (.int 2)))) (tRet (tCall sp_set_temperatures [] E0 (tCons (tVar 0) (tCons (tOp (rIxL K) (tVar 2) (tC (.int 0))) (tCons (tOp (rIxL K) (tVar 2) (tC (.int 1))) (tCons (tOp (rIxL K) (tVar 2) (tC (.int 2))) tNil)))))) tNext)
    (tSeq (tIfS (tB (tEqI (tVar 1) (tC (.int 3)))) (tRet (tCall sp_add_dough [] E0 (tCons (tVar 0) (tCons (tOp (rIxL K) (tVar 2) (tC (.int 0))) (tCons (tOp (rIxL K) (tVar 2) (tC (.int 1))) (tCons (tOp (rIxL K) (tVar 2) (tC (.int 2))) tNil)))))) tNext)
    (tSeq (tIfS (tB (tEqI (tVar 1) (tC (.int 4)))) (tRet (tCall sp_remove_dough [] E0 (tCons (tVar 0) (tCons (tOp (rIxL K) (tVar 2) (tC (.int 0))) tNil)))) tNext)
    (tSeq (tIfS (tB (tEqI (tVar 1) (tC (.int 5)))) (tRet (tCall sp_cool [] E0 (tCons (tVar 0) (tCons (tOp (rIxL K) (tVar 2) (tC (.int 0))) (tCons (tOp (rIxL K) (tVar 2) (tC (.int 1))) (tCons (tOp (rIxL K) (tVar 2) (tC (.int 2))) tNil)))))) tNext)
    (tSeq (tIfS (tB (tEqI (tVar 1) (tC (.int 6)))) (tRet (tCall sp_stop_cooling [] E0 (tCons (tVar 0) (tCons (tOp (rIxL K) (tVar 2) (tC (.int 0))) tNil)))) tNext)
    (tRet (tCall sp_set_baking_time [] E0 (tCons (tVar 0) (tCons (tOp (rIxL K) (tVar 2) (tC (.int 0))) tNil))))))))))
theorem W_changed (T : Txt K mg g) {sp_set_baking_time : Sp} (G_set_baking_time : OK_set_baking_time P w K mg base g sp_set_baking_time) {sp_set_temperature : Sp} (G_set_temperature : OK_set_temperature P w K mg base g sp_set_temperature) {sp_set_temperatures : Sp} (G_set_temperatures : OK_set_temperatures P w K mg base g sp_set_temperatures) {sp_add_dough : Sp} (G_add_dough : OK_add_dough P w K mg base g sp_add_dough) {sp_remove_dough : Sp} (G_remove_dough : OK_remove_dough P w K mg base g sp_remove_dough) {sp_cool : Sp} (G_cool : OK_cool P w K mg base g sp_cool) {sp_stop_cooling : Sp} (G_stop_cooling : OK_stop_cooling P w K mg base g sp_stop_cooling) {sp : Sp} (len : ∀ vs H Q E, sp vs H Q E → vs.length = 3)
    (h : ∀ vs H Q E, sp vs H Q E → t_changed K g sp_set_baking_time sp_set_temperature sp_set_temperatures sp_add_dough sp_remove_dough sp_cool sp_stop_cooling { nx := fun _ H' => Q .non H', rt := Q } (start ["house", "place", "numbers"] vs) H) : OK_changed P w K mg base g sp :=
  T.F_changed.ok sc_changed len fun cdv A outer s H vs Q E hr hs => ⟨t_changed K g sp_set_baking_time sp_set_temperature sp_set_temperatures sp_add_dough sp_remove_dough sp_cool sp_stop_cooling, by unfold t_changed; exact
    (pss_cons (ps_if (pt_cmp (pc_eqI (pv 1) pe_int) rfl) (pss_one (ps_ret (pe_call G_set_temperature (hr.mono (by decide)) (by rfl) T.g_set_temperature T.F_set_temperature.kp T.b_set_temperature .nil pass0 (pa_cons (pv 0) (pa_cons (pe_ix ix_list (pv 2) pe_int (fun _ _ => rfl)) (pa_cons (pe_ix ix_list (pv 2) pe_int (fun _ _ => rfl)) pa_nil)))))) pss_nil)
      (pss_cons (ps_if (pt_cmp (pc_eqI (pv 1) pe_int) rfl) (pss_one (ps_ret (pe_call G_set_temperatures (hr.mono (by decide)) (by rfl) T.g_set_temperatures T.F_set_temperatures.kp T.b_set_temperatures .nil pass0 (pa_cons (pv 0) (pa_cons (pe_ix ix_list (pv 2) pe_int (fun _ _ => rfl)) (pa_cons (pe_ix ix_list (pv 2) pe_int (fun _ _ => rfl)) (pa_cons (pe_ix ix_list (pv 2) pe_int (fun _ _ => rfl)) pa_nil))))))) pss_nil)
      (pss_cons (ps_if (pt_cmp (pc_eqI (pv 1) pe_int) rfl) (pss_one (ps_ret (pe_call G_add_dough (hr.mono (by decide)) (by rfl) T.g_add_dough T.F_add_dough.kp T.b_add_dough .nil pass0 (pa_cons (pv 0) (pa_cons (pe_ix ix_list (pv 2) pe_int (fun _ _ => rfl)) (pa_cons (pe_ix ix_list (pv 2) pe_int (fun _ _ => rfl)) (pa_cons (pe_ix ix_list (pv 2) pe_int (fun _ _ => rfl)) pa_nil))))))) pss_nil)
      (pss_cons (ps_if (pt_cmp (pc_eqI (pv 1) pe_int) rfl) (pss_one (ps_ret (pe_call G_remove_dough (hr.mono (by decide)) (by rfl) T.g_remove_dough T.F_remove_dough.kp T.b_remove_dough .nil pass0 (pa_cons (pv 0) (pa_cons (pe_ix ix_list (pv 2) pe_int (fun _ _ => rfl)) pa_nil))))) pss_nil)
      (pss_cons (ps_if (pt_cmp (pc_eqI (pv 1) pe_int) rfl) (pss_one (ps_ret (pe_call G_cool hr (by rfl) T.g_cool T.F_cool.kp T.b_cool .nil pass0 (pa_cons (pv 0) (pa_cons (pe_ix ix_list (pv 2) pe_int (fun _ _ => rfl)) (pa_cons (pe_ix ix_list (pv 2) pe_int (fun _ _ => rfl)) (pa_cons (pe_ix ix_list (pv 2) pe_int (fun _ _ => rfl)) pa_nil))))))) pss_nil)
      (pss_cons (ps_if (pt_cmp (pc_eqI (pv 1) pe_int) rfl) (pss_one (ps_ret (pe_call G_stop_cooling (hr.mono (by decide)) (by rfl) T.g_stop_cooling T.F_stop_cooling.kp T.b_stop_cooling .nil pass0 (pa_cons (pv 0) (pa_cons (pe_ix ix_list (pv 2) pe_int (fun _ _ => rfl)) pa_nil))))) pss_nil)
      (pss_one (ps_ret (pe_call G_set_baking_time (hr.mono (by decide)) (by rfl) T.g_set_baking_time T.F_set_baking_time.kp T.b_set_baking_time .nil pass0 (pa_cons (pv 0) (pa_cons (pe_ix ix_list (pv 2) pe_int (fun _ _ => rfl)) pa_nil))))))))))), h vs H Q E hs⟩
/-! ### asked -/
theorem sc_asked : FnScope ["house", "place", "numbers", "order"] ["house", "place", "numbers", "order"] (defScope s_asked) := ⟨rfl, rfl, rfl, by decide +kernel, rfl, by decide +kernel, by decide +kernel⟩
abbrev OK_asked (P : Program) (w : World) (K : PySem.W.Frag) (mg : Str → Option Value) (base : Heap) (g : G) (sp : Sp) : Prop := FnOk P w K mg base CX0 8 (g.f 52) (g.d 52) ["house", "place", "numbers", "order"] sp
def t_asked (K : PySem.W.Frag) (g : G) (sp_describe : Sp) (sp_window : Sp) (sp_risen : Sp) (sp_start_times : Sp) (sp_plan : Sp) (sp_most_doughs : Sp) (sp_earliest_deadline : Sp) (sp_can_bake : Sp) (sp_plan_if_cooled : Sp) : TS :=
  (tSeq (tIfS (tB (tEqI (tVar 1) (tC (.int 8)))) (tRet (tCall sp_window [] E0 (tCons (tVar 0) (tCons (tOp (rIxL K) (tVar 2) (tC (.int 0))) tNil)))) tNext)
    (tSeq (tIfS (tB (tEqI (tVar 1) (tC (.int 9)))) (tRet (tCall sp_risen [] E0 (tCons (tVar 0) (tCons (tOp (rIxL K) (tVar 2) (tC (.int 0))) (tCons (tOp (rIxL K) (tVar 2) (tC (.int 1))) tNil))))) tNext)
    (tSeq (tIfS (tB (tEqI (tVar 1) (tC (.int (10))))) (tRet (tCall sp_start_times [] E0 (tCons (tVar 0) (tCons (tVar 3) tNil)))) tNext)
    (tSeq (tIfS (tB (tEqI (tVar 1) (tC (.int 11)))) (tRet (tCall sp_plan [] E0 (tCons (tVar 0) tNil))) tNext)
    (tSeq (tIfS (tB (tEqI (tVar 1) (tC (.int 12)))) (tRet (tCall sp_most_doughs [] E0 (tCons (tVar 0) tNil))) tNext)
    (tSeq (tIfS (tB (tEqI (tVar 1) (tC (.int 13)))) (tRet (tCall sp_earliest_deadline [] E0 (tCons (tVar 0) tNil))) tNext)
    (tSeq (tIfS (tB (tEqI (tVar 1) (tC (.int 14)))) (tRet (tCall sp_can_bake [] E0 (tCons (tVar 0) (tCons (tOp (rIxL K) (tVar 2) (tC (.int 0))) tNil)))) tNext)
    (tSeq (tIfS (tB (tEqI (tVar 1) (tC (.int 15)))) (tRet (tCall sp_plan_if_cooled [] E0 (tCons (tVar 0) (tCons (tOp (rIxL K) (tVar 2) (tC (.int 0))) (tCons (tOp (rIxL K) (tVar 2) (tC (.int 1))) (tCons (tOp (rIxL K) (tVar 2) (tC (.int 2))) tNil)))))) tNext)
    (tRet (tCall sp_describe [] E0 (tCons (tVar 0) tNil)))))))))))
theorem W_asked (T : Txt K mg g) {sp_describe : Sp} (G_describe : OK_describe P w K mg base g sp_describe) {sp_window : Sp} (G_window : OK_window P w K mg base g sp_window) {sp_risen : Sp} (G_risen : OK_risen P w K mg base g sp_risen) {sp_start_times : Sp} (G_start_times : OK_start_times P w K mg base g sp_start_times) {sp_plan : Sp} (G_plan : OK_plan P w K mg base g sp_plan) {sp_most_doughs : Sp} (G_most_doughs : OK_most_doughs P w K mg base g sp_most_doughs) {sp_earliest_deadline : Sp} (G_earliest_deadline : OK_earliest_deadline P w K mg base g sp_earliest_deadline) {sp_can_bake : Sp} (G_can_bake : OK_can_bake P w K mg base g sp_can_bake) {sp_plan_if_cooled : Sp} (G_plan_if_cooled : OK_plan_if_cooled P w K mg base g sp_plan_if_cooled) {sp : Sp} (len : ∀ vs H Q E, sp vs H Q E → vs.length = 4)
    (h : ∀ vs H Q E, sp vs H Q E → t_asked K g sp_describe sp_window sp_risen sp_start_times sp_plan sp_most_doughs sp_earliest_deadline sp_can_bake sp_plan_if_cooled { nx := fun _ H' => Q .non H', rt := Q } (start ["house", "place", "numbers", "order"] vs) H) : OK_asked P w K mg base g sp :=
  T.F_asked.ok sc_asked len fun cdv A outer s H vs Q E hr hs => ⟨t_asked K g sp_describe sp_window sp_risen sp_start_times sp_plan sp_most_doughs sp_earliest_deadline sp_can_bake sp_plan_if_cooled, by unfold t_asked; exact
    (pss_cons (ps_if (pt_cmp (pc_eqI (pv 1) pe_int) rfl) (pss_one (ps_ret (pe_call G_window (hr.mono (by decide)) (by rfl) T.g_window T.F_window.kp T.b_window .nil pass0 (pa_cons (pv 0) (pa_cons (pe_ix ix_list (pv 2) pe_int (fun _ _ => rfl)) pa_nil))))) pss_nil)
      (pss_cons (ps_if (pt_cmp (pc_eqI (pv 1) pe_int) rfl) (pss_one (ps_ret (pe_call G_risen (hr.mono (by decide)) (by rfl) T.g_risen T.F_risen.kp T.b_risen .nil pass0 (pa_cons (pv 0) (pa_cons (pe_ix ix_list (pv 2) pe_int (fun _ _ => rfl)) (pa_cons (pe_ix ix_list (pv 2) pe_int (fun _ _ => rfl)) pa_nil)))))) pss_nil)
      (pss_cons (ps_if (pt_cmp (pc_eqI (pv 1) (pe_globE (by rfl) T.c_START_TIMES)) rfl) (pss_one (ps_ret (pe_call G_start_times (hr.mono (by decide)) (by rfl) T.g_start_times T.F_start_times.kp T.b_start_times .nil pass0 (pa_cons (pv 0) (pa_cons (pv 3) pa_nil))))) pss_nil)
      (pss_cons (ps_if (pt_cmp (pc_eqI (pv 1) pe_int) rfl) (pss_one (ps_ret (pe_call G_plan (hr.mono (by decide)) (by rfl) T.g_plan T.F_plan.kp T.b_plan .nil pass0 (pa_cons (pv 0) pa_nil)))) pss_nil)
      (pss_cons (ps_if (pt_cmp (pc_eqI (pv 1) pe_int) rfl) (pss_one (ps_ret (pe_call G_most_doughs (hr.mono (by decide)) (by rfl) T.g_most_doughs T.F_most_doughs.kp T.b_most_doughs .nil pass0 (pa_cons (pv 0) pa_nil)))) pss_nil)
      (pss_cons (ps_if (pt_cmp (pc_eqI (pv 1) pe_int) rfl) (pss_one (ps_ret (pe_call G_earliest_deadline (hr.mono (by decide)) (by rfl) T.g_earliest_deadline T.F_earliest_deadline.kp T.b_earliest_deadline .nil pass0 (pa_cons (pv 0) pa_nil)))) pss_nil)
      (pss_cons (ps_if (pt_cmp (pc_eqI (pv 1) pe_int) rfl) (pss_one (ps_ret (pe_call G_can_bake (hr.mono (by decide)) (by rfl) T.g_can_bake T.F_can_bake.kp T.b_can_bake .nil pass0 (pa_cons (pv 0) (pa_cons (pe_ix ix_list (pv 2) pe_int (fun _ _ => rfl)) pa_nil))))) pss_nil)
      (pss_cons (ps_if (pt_cmp (pc_eqI (pv 1) pe_int) rfl) (pss_one (ps_ret (pe_call G_plan_if_cooled hr (by rfl) T.g_plan_if_cooled T.F_plan_if_cooled.kp T.b_plan_if_cooled .nil pass0 (pa_cons (pv 0) (pa_cons (pe_ix ix_list (pv 2) pe_int (fun _ _ => rfl)) (pa_cons (pe_ix ix_list (pv 2) pe_int (fun _ _ => rfl)) (pa_cons (pe_ix ix_list (pv 2) pe_int (fun _ _ => rfl)) pa_nil))))))) pss_nil)
      (pss_one (ps_ret (pe_call G_describe (hr.mono (by decide)) (by rfl) T.g_describe T.F_describe.kp T.b_describe .nil pass0 (pa_cons (pv 0) pa_nil)))))))))))), h vs H Q E hs⟩
/-! ### answered -/
theorem sc_answered : FnScope ["desk", "place", "numbers", "order"] ["desk", "place", "numbers", "order"] (defScope s_answered) := ⟨rfl, rfl, rfl, by decide +kernel, rfl, by decide +kernel, by decide +kernel⟩
abbrev OK_answered (P : Program) (w : World) (K : PySem.W.Frag) (mg : Str → Option Value) (base : Heap) (g : G) (sp : Sp) : Prop := FnOk P w K mg base CX0 9 (g.f 53) (g.d 53) ["desk", "place", "numbers", "order"] sp
def t_answered (K : PySem.W.Frag) (g : G) (sp_asked : Sp) (sp_create : Sp) (sp_changed : Sp) : TS :=
  (tSeq (tIfS (tB (tEqI (tVar 1) (tC (.int (0))))) (tRet (tCall sp_create [] E0 (tCons (tVar 0) (tCons (tOp (rIxL K) (tVar 2) (tC (.int 0))) (tCons (tOp (rIxL K) (tVar 2) (tC (.int 1))) tNil))))) tNext)
    (tSeq (tIfS (tB (tIsN (tFld K (tVar 0) "house"))) (tRet (tLst (tCons (tC (.int (-11))) tNil))) tNext)
    (tSeq (tIfS (tB (tLt (tVar 1) (tC (.int 8)))) (tRet (tCall sp_changed [] E0 (tCons (tFld K (tVar 0) "house") (tCons (tVar 1) (tCons (tVar 2) tNil))))) tNext)
    (tRet (tCall sp_asked [] E0 (tCons (tFld K (tVar 0) "house") (tCons (tVar 1) (tCons (tVar 2) (tCons (tVar 3) tNil)))))))))
theorem W_answered (T : Txt K mg g) {sp_asked : Sp} (G_asked : OK_asked P w K mg base g sp_asked) {sp_create : Sp} (G_create : OK_create P w K mg base g sp_create) {sp_changed : Sp} (G_changed : OK_changed P w K mg base g sp_changed) {sp : Sp} (len : ∀ vs H Q E, sp vs H Q E → vs.length = 4)
    (h : ∀ vs H Q E, sp vs H Q E → t_answered K g sp_asked sp_create sp_changed { nx := fun _ H' => Q .non H', rt := Q } (start ["desk", "place", "numbers", "order"] vs) H) : OK_answered P w K mg base g sp :=
  T.F_answered.ok sc_answered len fun cdv A outer s H vs Q E hr hs => ⟨t_answered K g sp_asked sp_create sp_changed, by unfold t_answered; exact
    (pss_cons (ps_if (pt_cmp (pc_eqI (pv 1) (pe_globE (by rfl) T.c_CREATE)) rfl) (pss_one (ps_ret (pe_call G_create (hr.mono (by decide)) (by rfl) T.g_create T.F_create.kp T.b_create .nil pass0 (pa_cons (pv 0) (pa_cons (pe_ix ix_list (pv 2) pe_int (fun _ _ => rfl)) (pa_cons (pe_ix ix_list (pv 2) pe_int (fun _ _ => rfl)) pa_nil)))))) pss_nil)
      (pss_cons (ps_if (pt_cmp (pc_isN (pe_fld (pv 0) rfl)) rfl) (pss_one (ps_ret (pe_lst (pa_cons (pe_globE (by rfl) T.c_NO_INSTANCE) pa_nil)))) pss_nil)
      (pss_cons (ps_if (pt_cmp (pc_lt (pv 1) pe_int) rfl) (pss_one (ps_ret (pe_call G_changed (hr.mono (by decide)) (by rfl) T.g_changed T.F_changed.kp T.b_changed .nil pass0 (pa_cons (pe_fld (pv 0) rfl) (pa_cons (pv 1) (pa_cons (pv 2) pa_nil)))))) pss_nil)
      (pss_one (ps_ret (pe_call G_asked hr (by rfl) T.g_asked T.F_asked.kp T.b_asked .nil pass0 (pa_cons (pe_fld (pv 0) rfl) (pa_cons (pv 1) (pa_cons (pv 2) (pa_cons (pv 3) pa_nil)))))))))), h vs H Q E hs⟩
/-! ### order_at -/
theorem sc_order_at : FnScope ["calls", "at", "place"] ["calls", "at", "place"] (defScope s_order_at) := ⟨rfl, rfl, rfl, by decide +kernel, rfl, by decide +kernel, by decide +kernel⟩
abbrev OK_order_at (P : Program) (w : World) (K : PySem.W.Frag) (mg : Str → Option Value) (base : Heap) (g : G) (sp : Sp) : Prop := FnOk P w K mg base CX0 1 (g.f 54) (g.d 54) ["calls", "at", "place"] sp
def t_order_at (K : PySem.W.Frag) (g : G) : TS :=
  (tSeq (tIfS (tB (tNeI (tVar 2) (tC (.int (10))))) (tRet (tLst tNil)) tNext)
    (tRet (tSl (rSlL K) (tVar 0) (tPart (tOp (rI0 fun i j => .int (i + j)) (tVar 1) (tC (.int 1)))) (tPart (tOp (rI0 fun i j => .int (i + j)) (tOp (rI0 fun i j => .int (i + j)) (tVar 1) (tC (.int 1))) (tOp (rIxL K) (tVar 0) (tVar 1)))))))
theorem W_order_at (T : Txt K mg g) {sp : Sp} (len : ∀ vs H Q E, sp vs H Q E → vs.length = 3)
    (h : ∀ vs H Q E, sp vs H Q E → t_order_at K g { nx := fun _ H' => Q .non H', rt := Q } (start ["calls", "at", "place"] vs) H) : OK_order_at P w K mg base g sp :=
  T.F_order_at.ok sc_order_at len fun cdv A outer s H vs Q E hr hs => ⟨t_order_at K g, by unfold t_order_at; exact
    (pss_cons (ps_if (pt_cmp (pc_neI (pv 2) (pe_globE (by rfl) T.c_START_TIMES)) rfl) (pss_one (ps_ret (pe_lst pa_nil))) pss_nil)
      (pss_one (ps_ret (pe_slice sl_list (pv 0) (po_some (pe_op op_add (pv 1) pe_int)) (po_some (pe_op op_add (pe_op op_add (pv 1) pe_int) (pe_ix ix_list (pv 0) (pv 1) (fun _ _ => rfl)))))))), h vs H Q E hs⟩
/-! ### behind -/
theorem sc_behind : FnScope ["at", "place", "order"] ["at", "place", "order"] (defScope s_behind) := ⟨rfl, rfl, rfl, by decide +kernel, rfl, by decide +kernel, by decide +kernel⟩
abbrev OK_behind (P : Program) (w : World) (K : PySem.W.Frag) (mg : Str → Option Value) (base : Heap) (g : G) (sp : Sp) : Prop := FnOk P w K mg base CX0 1 (g.f 55) (g.d 55) ["at", "place", "order"] sp
def t_behind (K : PySem.W.Frag) (g : G) : TS :=
  (tSeq (tIfS (tB (tNeI (tVar 1) (tC (.int (10))))) (tRet (tVar 0)) tNext)
    (tRet (tOp (rI0 fun i j => .int (i + j)) (tOp (rI0 fun i j => .int (i + j)) (tVar 0) (tC (.int 1))) (tCB (rLenS K) (tCons (tVar 2) tNil)))))
theorem W_behind (T : Txt K mg g) {sp : Sp} (len : ∀ vs H Q E, sp vs H Q E → vs.length = 3)
    (h : ∀ vs H Q E, sp vs H Q E → t_behind K g { nx := fun _ H' => Q .non H', rt := Q } (start ["at", "place", "order"] vs) H) : OK_behind P w K mg base g sp :=
  T.F_behind.ok sc_behind len fun cdv A outer s H vs Q E hr hs => ⟨t_behind K g, by unfold t_behind; exact
    (pss_cons (ps_if (pt_cmp (pc_neI (pv 1) (pe_globE (by rfl) T.c_START_TIMES)) rfl) (pss_one (ps_ret (pv 0))) pss_nil)
      (pss_one (ps_ret (pe_op op_add (pe_op op_add (pv 0) pe_int) (pe_callB call_len_seq (by rfl) T.n_len PySem.boot_len (pa_cons (pv 2) pa_nil)))))), h vs H Q E hs⟩
/-! ### answers -/
theorem sc_answers : FnScope ["calls", "desk", "told", "at", "place", "end", "numbers", "order", "found"] ["calls"] (defScope s_answers) := ⟨rfl, rfl, rfl, by decide +kernel, rfl, by decide +kernel, by decide +kernel⟩
abbrev OK_answers (P : Program) (w : World) (K : PySem.W.Frag) (mg : Str → Option Value) (base : Heap) (g : G) (sp : Sp) : Prop := FnOk P w K mg base CX0 10 (g.f 56) (g.d 56) ["calls"] sp
def t_answers (K : PySem.W.Frag) (g : G) (sp_Desk_init : Sp) (sp_order_at : Sp) (sp_answered : Sp) (sp_behind : Sp) : TS :=
  (tSeq (tAsg (tMake (g.c 2) sp_Desk_init [] E0 tNil) (gName 1))
    (tSeq (tAsg (tLst tNil) (gName 2))
    (tSeq (tAsg (tC (.int 0)) (gName 3))
    (tSeq (tWhile (tB (tLt (tVar 3) (tCB (rLenS K) (tCons (tVar 0) tNil)))) (tSeq (tAsg (tOp (rIxL K) (tVar 0) (tVar 3)) (gName 4))
    (tSeq (tAsg (tOp (rI0 fun i j => .int (i + j)) (tOp (rI0 fun i j => .int (i + j)) (tVar 3) (tC (.int 1))) (tOp (rIxT K) (tC (.ref (g.c 3))) (tVar 4))) (gName 5))
    (tSeq (tAsg (tSl (rSlL K) (tVar 0) (tPart (tOp (rI0 fun i j => .int (i + j)) (tVar 3) (tC (.int 1)))) (tPart (tVar 5))) (gName 6))
    (tSeq (tAsg (tCall sp_order_at [] E0 (tCons (tVar 0) (tCons (tVar 5) (tCons (tVar 4) tNil)))) (gName 7))
    (tSeq (tAsg (tCall sp_answered [] E0 (tCons (tVar 1) (tCons (tVar 4) (tCons (tVar 6) (tCons (tVar 7) tNil))))) (gName 8))
    (tSeq (tDrop (tBM K "list" rAppend (tVar 2) (tCons (tCB (rLenS K) (tCons (tVar 8) tNil)) tNil)))
    (tSeq (tDrop (tBM K "list" rExtend (tVar 2) (tCons (tVar 8) tNil)))
    (tAsg (tCall sp_behind [] E0 (tCons (tVar 5) (tCons (tVar 4) (tCons (tVar 7) tNil)))) (gName 3))))))))))
    (tRet (tVar 2))))))
theorem W_answers (T : Txt K mg g) {sp_Desk_init : Sp} (G_Desk_init : OK_Desk_init P w K mg base g sp_Desk_init) {sp_order_at : Sp} (G_order_at : OK_order_at P w K mg base g sp_order_at) {sp_answered : Sp} (G_answered : OK_answered P w K mg base g sp_answered) {sp_behind : Sp} (G_behind : OK_behind P w K mg base g sp_behind) {sp : Sp} (len : ∀ vs H Q E, sp vs H Q E → vs.length = 1)
    (h : ∀ vs H Q E, sp vs H Q E → t_answers K g sp_Desk_init sp_order_at sp_answered sp_behind { nx := fun _ H' => Q .non H', rt := Q } (start ["calls", "desk", "told", "at", "place", "end", "numbers", "order", "found"] vs) H) : OK_answers P w K mg base g sp :=
  T.F_answers.ok sc_answers len fun cdv A outer s H vs Q E hr hs => ⟨t_answers K g sp_Desk_init sp_order_at sp_answered sp_behind, by unfold t_answers; exact
    (pss_cons (ps_set (i := 1) sc_answers.nd rfl (Or.inl rfl) (pe_make0 T.mDesk G_Desk_init (hr.mono (by decide)) (by rfl) T.gDesk T.b_Desk_init .nil pass0))
      (pss_cons (ps_set (i := 2) sc_answers.nd rfl (Or.inl rfl) (pe_lst pa_nil))
      (pss_cons (ps_set (i := 3) sc_answers.nd rfl (Or.inl rfl) pe_int)
      (pss_cons (ps_while PassesOwn.never (pt_cmp (pc_lt (pv 3) (pe_callB call_len_seq (by rfl) T.n_len PySem.boot_len (pa_cons (pv 0) pa_nil))) rfl) (pss_cons (ps_set (i := 4) sc_answers.nd rfl (Or.inl rfl) (pe_ix ix_list (pv 0) (pv 3) (fun _ _ => rfl)))
      (pss_cons (ps_set (i := 5) sc_answers.nd rfl (Or.inl rfl) (pe_op op_add (pe_op op_add (pv 3) pe_int) (pe_ix ix_tup (pe_glob (by rfl) T.c_NUMBERS rfl) (pv 4) (fun _ _ => rfl))))
      (pss_cons (ps_set (i := 6) sc_answers.nd rfl (Or.inl rfl) (pe_slice sl_list (pv 0) (po_some (pe_op op_add (pv 3) pe_int)) (po_some (pv 5))))
      (pss_cons (ps_set (i := 7) sc_answers.nd rfl (Or.inl rfl) (pe_call G_order_at (hr.mono (by decide)) (by rfl) T.g_order_at T.F_order_at.kp T.b_order_at .nil pass0 (pa_cons (pv 0) (pa_cons (pv 5) (pa_cons (pv 4) pa_nil)))))
      (pss_cons (ps_set (i := 8) sc_answers.nd rfl (Or.inl rfl) (pe_call G_answered hr (by rfl) T.g_answered T.F_answered.kp T.b_answered .nil pass0 (pa_cons (pv 1) (pa_cons (pv 4) (pa_cons (pv 6) (pa_cons (pv 7) pa_nil))))))
      (pss_cons (ps_expr (pe_bm PySem.F.plainAttrs_list PySem.F.slot_list_append PySem.F.type_list_append mt_append (pv 2) (pa_cons (pe_callB call_len_seq (by rfl) T.n_len PySem.boot_len (pa_cons (pv 8) pa_nil)) pa_nil)))
      (pss_cons (ps_expr (pe_bm PySem.F.plainAttrs_list PySem.F.slot_list_extend PySem.F.type_list_extend mt_extend (pv 2) (pa_cons (pv 8) pa_nil)))
      (pss_one (ps_set (i := 3) sc_answers.nd rfl (Or.inl rfl) (pe_call G_behind (hr.mono (by decide)) (by rfl) T.g_behind T.F_behind.kp T.b_behind .nil pass0 (pa_cons (pv 5) (pa_cons (pv 4) (pa_cons (pv 7) pa_nil))))))))))))))
      (pss_one (ps_ret (pv 2))))))), h vs H Q E hs⟩
end
end Bk
/-! ## Rules to step through a reading -/
namespace Bk
open PySem PySem.Spec PyProof.Rows L2 Evl
abbrev natV (n : Nat) : V := .int (n : Int)
/-- a new object's place -/
def NewO (n : Nat) (o : HO) (H : Hp) (Q : VK) : Prop := n ≤ sizeLine ∧ ∀ p, H p = none → Q (.ref p) (upd H p o)
/-- a new instance's place -/
def MakeO (C : Addr) (sp : Sp) (E : XK) (vs : List V) (H : Hp) (Q : VK) : Prop := ∀ x dx, H x = none → H dx = none → dx ≠ x → sp (.ref x :: (vs ++ [])) (upd (upd H dx (.own x)) x (.ins C dx [])) (fun v H2 => v = .non ∧ Q (.ref x) H2) E
/-- all but what stands at F is as it was -/
def Ext (F : List Addr) (H H' : Hp) : Prop := ∀ b o, b ∉ F → H b = some o → H' b = some o
theorem Ext.refl {F : List Addr} {H : Hp} : Ext F H H := fun _ _ _ h => h
theorem Ext.trans {F : List Addr} {H H1 H2 : Hp} (a : Ext F H H1) (b : Ext F H1 H2) : Ext F H H2 := fun x o n h => b x o n (a x o n h)
theorem Ext.mono {F F' : List Addr} {H H' : Hp} (s : ∀ x, x ∈ F → x ∈ F') (a : Ext F H H') : Ext F' H H' := fun x o n h => a x o (fun z => n (s x z)) h
theorem Ext.ofEx {F : List Addr} {H H' : Hp} (e : Ex H H') : Ext F H H' := fun b o _ h => e b o h
theorem Ext.upd {F : List Addr} {H : Hp} {a : Addr} {o : HO} (h : a ∈ F) : Ext F H (upd H a o) := fun b u n q => by
  rw [upd_ne (fun z => n (by rw [z]; exact h))]
  exact q
theorem Ext.ex {H H' : Hp} (e : Ext [] H H') : Ex H H' := fun b o h => e b o (by simp) h
/-- what is not tracked may change -/
theorem ex_via {F : List Addr} {H0 H H' : Hp} (e : Ex H0 H) (x : Ext F H H') (n : ∀ a ∈ F, H0 a = none) : Ex H0 H' := fun b o h => x b o (fun z => by
  rw [n b z] at h
  cases h) (e b o h)
theorem ex_upd {H0 H : Hp} {a : Addr} {o : HO} (e : Ex H0 H) (n : H0 a = none) : Ex H0 (upd H a o) := e.mut n
theorem ex_get {H H' : Hp} {a : Addr} {o : HO} (e : Ex H H') (h : H a = some o) : H' a = some o := e a o h
theorem ex_none {H H' : Hp} {a : Addr} (e : Ex H H') (h : H' a = none) : H a = none := fresh_back e h
section
variable {σ : L2.St} {H : Hp} {Q : VK} {nx bk ct : L2.St → Hp → Prop} {rt : VK} {t u : TS} {te ta tb : TE} {c d : TT} {i : Nat} {v x y : V} {tl : TA}
/-! ### statements -/
theorem r_seq (h : t ⟨u ⟨nx, rt, bk, ct⟩, rt, bk, ct⟩ σ H) : tSeq t u ⟨nx, rt, bk, ct⟩ σ H := h
theorem r_asg (h : te σ H fun x H1 => nx (σ.set i (some x)) H1) : tAsg te (gName i) ⟨nx, rt, bk, ct⟩ σ H := h
theorem r_ret (h : te σ H rt) : tRet te ⟨nx, rt, bk, ct⟩ σ H := h
theorem r_drop (h : te σ H fun _ H1 => nx σ H1) : tDrop te ⟨nx, rt, bk, ct⟩ σ H := h
theorem r_if (h : c σ H fun b H1 => if b = true then t ⟨nx, rt, bk, ct⟩ σ H1 else u ⟨nx, rt, bk, ct⟩ σ H1) : tIfS c t u ⟨nx, rt, bk, ct⟩ σ H := h
theorem r_next (h : nx σ H) : tNext ⟨nx, rt, bk, ct⟩ σ H := h
theorem r_aug {f : Int → Int → Int} {a : Int} (hx : σ[i]? = some (some (.int a))) (h : te σ H fun y H1 => ∃ i' j', V.int a = .int i' ∧ y = .int j' ∧ nx (σ.set i (some (.int (f i' j')))) H1) : tAug i te (ipI f) ⟨nx, rt, bk, ct⟩ σ H := ⟨_, hx, h⟩
theorem r_sub {ts : TSet} (h : te σ H fun x H1 => ta σ H1 fun o H2 => tb σ H2 fun i H3 => ts o i x H3 fun H4 => nx σ H4) : tAsg te (gSub ta tb ts) ⟨nx, rt, bk, ct⟩ σ H := h
/-! ### expressions -/
theorem r_var (h : σ[i]? = some (some v)) (q : Q v H) : tVar i σ H Q := ⟨v, h, q⟩
theorem r_c (q : Q v H) : tC v σ H Q := q
theorem r_op {r : R2} (h : ta σ H fun x H1 => tb σ H1 fun y H2 => r x y H2 Q) : tOp r ta tb σ H Q := h
theorem r_un {r : V → Hp → VK → Prop} (h : ta σ H fun x H1 => r x H1 Q) : tUn r ta σ H Q := h
theorem r_cmp {p : Int → Int → Bool} (h : ta σ H fun x H1 => tb σ H1 fun y H2 => ∃ i j, x = .int i ∧ y = .int j ∧ Q (.bl (p i j)) H2) : tCmp p ta tb σ H Q := h
theorem r_isN (h : ta σ H fun x H1 => Q (.bl (decide (x = .non))) H1) : tIsN ta σ H Q := h
theorem r_notN (h : ta σ H fun x H1 => Q (.bl (!decide (x = .non))) H1) : tNotN ta σ H Q := h
theorem r_andV (h : ta σ H fun x H1 => ∃ c, x = .bl c ∧ if c = true then tb σ H1 Q else Q (.bl false) H1) : tAndV ta tb σ H Q := h
theorem r_fld {K : PySem.W.Frag} {f : Str} (h : ta σ H fun x H1 => ∃ a C dx fs v, x = .ref a ∧ H1 a = some (.ins C dx fs) ∧ Cls K C ∧ NoAttr K C f ∧ fs.lookup f = some v ∧ Q v H1) : tFld K ta f σ H Q := h
theorem r_call {sp : Sp} {E : XK} (h : tl σ H fun vs H1 => sp (vs ++ []) H1 Q E) : tCall sp [] E tl σ H Q := h
theorem r_cb {r : List V → Hp → VK → Prop} (h : tl σ H fun vs H1 => r vs H1 Q) : tCB r tl σ H Q := h
theorem r_bm {K : PySem.W.Frag} {T : String} {r : V → List V → Hp → VK → Prop} (h : te σ H fun x H1 => tyV K T x H1 ∧ tl σ H1 fun xs H2 => r x xs H2 Q) : tBM K T r te tl σ H Q := h
theorem r_nil {R : List V → Hp → Prop} (q : R [] H) : tNil σ H R := q
theorem r_cons {R : List V → Hp → Prop} (h : ta σ H fun x H1 => tl σ H1 fun xs H2 => R (x :: xs) H2) : tCons ta tl σ H R := h
theorem r_lst (h : tl σ H fun xs H1 => NewO xs.length (.lst xs) H1 Q) : tLst tl σ H Q := h
theorem r_tup (h : tl σ H fun xs H1 => NewO xs.length (.tup xs) H1 Q) : tTup tl σ H Q := h
theorem r_sl {r : V → Option Int → Option Int → Hp → VK → Prop} {to th : TO} (h : te σ H fun x H1 => to σ H1 fun l H2 => th σ H2 fun u H3 => r x l u H3 Q) : tSl r te to th σ H Q := h
theorem r_noP {R : Option Int → Hp → Prop} (h : R none H) : tNoPart σ H R := h
theorem r_part {R : Option Int → Hp → Prop} (h : te σ H fun x H1 => ∃ i, x = .int i ∧ R (some i) H1) : tPart te σ H R := h
theorem r_lrg {n : Nat} (h : ta σ H fun x H1 => x = .int (n : Int) ∧ n ≤ 1000000 ∧ ∀ p H', H1 p = none → Ex H1 H' → H' p = some (.lst ((List.range n).map natV)) → Q (.ref p) H') (mono : ∀ R R' : VK, (∀ x H, R x H → R' x H) → ta σ H R → ta σ H R') : tLstRg (tRg1 ta) σ H Q := by
  refine mono _ _ (fun x H1 h => ?_) h
  obtain ⟨rfl, hn, q⟩ := h
  refine ⟨(n : Int), rfl, RgOk.of_le (by omega) (by omega) (by omega) (by omega), fun p hp => q p _ hp (Ex.new hp) ?_⟩
  rw [upd_same]
  congr 2
  unfold rgV
  rw [show ((n : Int) - 0).toNat = n by omega]
  refine List.map_congr_left fun i _ => ?_
  rw [Int.zero_add]
/-! ### tests -/
theorem r_tB {R : Bool → Hp → Prop} (h : te σ H fun x H1 => ∃ c, x = .bl c ∧ R c H1) : tB te σ H R := h
theorem r_tTest {R : Bool → Hp → Prop} (h : te σ H fun x H1 => ∃ c, x = .bl c ∧ R c H1) : tTest te σ H R := h
theorem r_tNot {R : Bool → Hp → Prop} (h : c σ H fun b H1 => R (!b) H1) : tNot c σ H R := h
theorem r_tAnd {R : Bool → Hp → Prop} (h : c σ H fun b H1 => if b = true then d σ H1 R else R false H1) : tAnd c d σ H R := h
theorem r_tOr {R : Bool → Hp → Prop} (h : c σ H fun b H1 => if b = true then R true H1 else d σ H1 R) : tOr c d σ H R := h
theorem r_yes {R : Bool → Hp → Prop} (h : R true H) : tYes σ H R := h
/-! ### operators on values -/
theorem r_i0 {g : Int → Int → V} {i j : Int} (q : Q (g i j) H) : rI0 g (.int i) (.int j) H Q := ⟨i, j, rfl, rfl, q⟩
theorem r_ib {C : Int → Int → Prop} {g : Int → Int → V} {i j : Int} (hc : C i j) (q : Q (g i j) H) : rI C g (.int i) (.int j) H Q := ⟨i, j, rfl, rfl, hc, q⟩
theorem r_iu {g : Int → V} {i : Int} (q : Q (g i) H) : rU g (.int i) H Q := ⟨i, rfl, q⟩
theorem r_max2 {i j : Int} (q : Q (.int (if j > i then j else i)) H) : rMax2 [.int i, .int j] H Q := ⟨i, j, rfl, q⟩
/-! ### what the leaves ask -/
theorem k_bl {b : Bool} {R : Bool → Prop} (h : R b) : ∃ c, V.bl b = V.bl c ∧ R c := ⟨b, rfl, h⟩
theorem k_int {n : Int} {R : Int → Prop} (h : R n) : ∃ c, V.int n = V.int c ∧ R c := ⟨n, rfl, h⟩
theorem k_2i {n m : Int} {R : Int → Int → Prop} (h : R n m) : ∃ i j, V.int n = V.int i ∧ V.int m = V.int j ∧ R i j := ⟨n, m, rfl, rfl, h⟩
theorem k_ite {p : Prop} [Decidable p] {A B : Prop} (h1 : p → A) (h2 : ¬ p → B) : if decide p = true then A else B := by
  by_cases h : p
  · rw [decide_eq_true h, if_pos rfl]
    exact h1 h
  · rw [decide_eq_false h, if_neg Bool.false_ne_true]
    exact h2 h
theorem k_iteN {p : Prop} [Decidable p] {A B : Prop} (h1 : ¬ p → A) (h2 : p → B) : if (!decide p) = true then A else B := by
  by_cases h : p
  · rw [decide_eq_true h, if_neg (by decide)]
    exact h2 h
  · rw [decide_eq_false h, if_pos (by decide)]
    exact h1 h
theorem k_iteB {b : Bool} {A B : Prop} (h1 : b = true → A) (h2 : b = false → B) : if b = true then A else B := by
  cases b with
  | true =>
    rw [if_pos rfl]
    exact h1 rfl
  | false =>
    rw [if_neg Bool.false_ne_true]
    exact h2 rfl
theorem k_iteBN {b : Bool} {A B : Prop} (h1 : b = false → A) (h2 : b = true → B) : if (!b) = true then A else B := by
  cases b with
  | true =>
    rw [if_neg (by decide)]
    exact h2 rfl
  | false =>
    rw [if_pos (by decide)]
    exact h1 rfl
theorem k_T {A B : Prop} (h : A) : if true = true then A else B := by
  rw [if_pos rfl]
  exact h
theorem k_F {A B : Prop} (h : B) : if false = true then A else B := by
  rw [if_neg Bool.false_ne_true]
  exact h
/-- a new list, a new tuple -/
theorem k_new {o : HO} {n : Nat} (hl : n ≤ sizeLine) (q : ∀ p H', H p = none → Ex H H' → H' p = some o → Q (.ref p) H') : NewO n o H Q := ⟨hl, fun p hp => q p _ hp (Ex.new hp) upd_same⟩
theorem k_fld {K : PySem.W.Frag} {f : Str} {a C dx : Addr} {fs : List (Str × V)} {R : V → Prop} (h1 : H a = some (.ins C dx fs)) (h2 : Cls K C) (h3 : NoAttr K C f) (h4 : fs.lookup f = some v) (q : R v) :
    ∃ a' C' dx' fs' v', V.ref a = .ref a' ∧ H a' = some (.ins C' dx' fs') ∧ Cls K C' ∧ NoAttr K C' f ∧ fs'.lookup f = some v' ∧ R v' := ⟨a, C, dx, fs, v, rfl, h1, h2, h3, h4, q⟩
theorem r_ixL {K : PySem.W.Frag} {a : Addr} {xs : List V} {j : Nat} (h : SqL K H a xs) (hj : xs[j]? = some v) (q : Q v H) : rIxL K (.ref a) (.int (j : Int)) H Q := ⟨a, xs, _, v, rfl, rfl, h, atI_nat hj, q⟩
theorem r_ixT {K : PySem.W.Frag} {a : Addr} {xs : List V} {j : Nat} (h : SqT K H a xs) (hj : xs[j]? = some v) (q : Q v H) : rIxT K (.ref a) (.int (j : Int)) H Q := ⟨a, xs, _, v, rfl, rfl, h, atI_nat hj, q⟩
theorem r_ixT0 {K : PySem.W.Frag} {a : Addr} {v : V} {r : List V} (h : SqT K H a (v :: r)) (q : Q v H) : rIxT K (.ref a) (.int 0) H Q := ⟨a, _, _, v, rfl, rfl, h, atI_nat (j := 0) rfl, q⟩
theorem r_ixT1 {K : PySem.W.Frag} {a : Addr} {w v : V} {r : List V} (h : SqT K H a (w :: v :: r)) (q : Q v H) : rIxT K (.ref a) (.int 1) H Q := ⟨a, _, _, v, rfl, rfl, h, atI_nat (j := 1) rfl, q⟩
theorem r_ixT2 {K : PySem.W.Frag} {a : Addr} {w z v : V} {r : List V} (h : SqT K H a (w :: z :: v :: r)) (q : Q v H) : rIxT K (.ref a) (.int 2) H Q := ⟨a, _, _, v, rfl, rfl, h, atI_nat (j := 2) rfl, q⟩
theorem r_ixL0 {K : PySem.W.Frag} {a : Addr} {v : V} {r : List V} (h : SqL K H a (v :: r)) (q : Q v H) : rIxL K (.ref a) (.int 0) H Q := ⟨a, _, _, v, rfl, rfl, h, atI_nat (j := 0) rfl, q⟩
theorem r_ixL1 {K : PySem.W.Frag} {a : Addr} {w v : V} {r : List V} (h : SqL K H a (w :: v :: r)) (q : Q v H) : rIxL K (.ref a) (.int 1) H Q := ⟨a, _, _, v, rfl, rfl, h, atI_nat (j := 1) rfl, q⟩
theorem r_ixL2 {K : PySem.W.Frag} {a : Addr} {w z v : V} {r : List V} (h : SqL K H a (w :: z :: v :: r)) (q : Q v H) : rIxL K (.ref a) (.int 2) H Q := ⟨a, _, _, v, rfl, rfl, h, atI_nat (j := 2) rfl, q⟩
theorem r_lenL {K : PySem.W.Frag} {a : Addr} {xs : List V} (h : SqL K H a xs) (q : Q (.int xs.length) H) : rLenS K [.ref a] H Q := ⟨a, xs, rfl, .inl h, q⟩
theorem r_lstL {K : PySem.W.Frag} {a : Addr} {xs : List V} (h : SqL K H a xs) (q : ∀ p H', H p = none → Ex H H' → H' p = some (.lst xs) → Q (.ref p) H') : rListS K [.ref a] H Q := ⟨a, xs, rfl, .inl h, fun p hp => q p _ hp (Ex.new hp) upd_same⟩
theorem r_cat {a b : Addr} {xs ys : List V} (h1 : H a = some (.lst xs)) (h2 : H b = some (.lst ys)) (hl : xs.length + ys.length ≤ sizeLine) (q : ∀ p H', H p = none → Ex H H' → H' p = some (.lst (xs ++ ys)) → Q (.ref p) H') : rCat (.ref a) (.ref b) H Q :=
  ⟨a, b, xs, ys, rfl, rfl, h1, h2, hl, fun p hp => q p _ hp (Ex.new hp) upd_same⟩
theorem r_rep {a : Addr} {xs : List V} {k : Int} (h1 : H a = some (.lst xs)) (h2 : -(2 ^ 63) ≤ k ∧ k < 2 ^ 63) (hl : xs.length * k.toNat ≤ sizeLine) (q : ∀ p H', H p = none → Ex H H' → H' p = some (.lst (List.replicate k.toNat xs).flatten) → Q (.ref p) H') : rRep (.ref a) (.int k) H Q :=
  ⟨a, k, xs, rfl, rfl, h1, h2.1, h2.2, hl, fun p hp => q p _ hp (Ex.new hp) upd_same⟩
theorem r_slL {K : PySem.W.Frag} {a : Addr} {xs : List V} {lo hi : Option Int} (h : SqL K H a xs) (q : ∀ p H', H p = none → Ex H H' → H' p = some (.lst (cutV xs lo hi)) → Q (.ref p) H') : rSlL K (.ref a) lo hi H Q := ⟨a, xs, rfl, h, fun p hp => q p _ hp (Ex.new hp) upd_same⟩
theorem r_in {K : PySem.W.Frag} {a : Addr} {xs : List V} (h : SqL K H a xs) (f1 : flatV x = true) (f2 : xs.all flatV = true) (q : Q (.bl (inV x xs)) H) : rIn K false x (.ref a) H Q := ⟨a, xs, rfl, .inl h, f1, f2, q⟩
theorem r_nin {K : PySem.W.Frag} {a : Addr} {xs : List V} (h : SqL K H a xs) (f1 : flatV x = true) (f2 : xs.all flatV = true) (q : Q (.bl (!inV x xs)) H) : rIn K true x (.ref a) H Q := ⟨a, xs, rfl, .inl h, f1, f2, q⟩
/-! ### a list that changes -/
theorem k_app {K : PySem.W.Frag} {a : Addr} {xs : List V} (h : H a = some (.lst xs)) (hl : xs.length < sizeLine) (q : ∀ H', Ext [a] H H' → H' a = some (.lst (xs ++ [v])) → Q .non H') : rAppend (.ref a) [v] H Q :=
  ⟨a, xs, v, rfl, rfl, h, hl, q _ (Ext.upd (by simp)) upd_same⟩
theorem k_ext {K : PySem.W.Frag} {a b : Addr} {xs ys : List V} (h : H a = some (.lst xs)) (h2 : H b = some (.lst ys)) (hl : xs.length + ys.length ≤ sizeLine) (q : ∀ H', Ext [a] H H' → H' a = some (.lst (xs ++ ys)) → Q .non H') : rExtend (.ref a) [.ref b] H Q :=
  ⟨a, b, xs, ys, rfl, rfl, h, h2, hl, q _ (Ext.upd (by simp)) upd_same⟩
theorem k_tyL {K : PySem.W.Frag} {a : Addr} {xs : List V} {R : Prop} (h : SqL K H a xs) (q : R) : tyV K "list" (.ref a) H ∧ R := ⟨.inl ⟨rfl, xs, h⟩, q⟩
theorem k_set {a : Addr} {xs : List V} {j : Nat} {R : Hp → Prop} (h : H a = some (.lst xs)) (hj : j < xs.length) (q : ∀ H', Ext [a] H H' → H' a = some (.lst (xs.set j v)) → R H') : rSetL (.ref a) (.int (j : Int)) v H R :=
  ⟨a, xs, _, j, rfl, rfl, h, ixN_nat hj, q _ (Ext.upd (by simp)) upd_same⟩
/-! ### == of a list of ints with [] -/
theorem dp_ints {K : PySem.W.Frag} : ∀ ns : List Int, DpAll K H (ns.map V.int) (ns.map PyData.int)
  | [] => .nil
  | n :: r => .cons (.int n) (dp_ints r)
theorem sh_lay : ∀ ns : List Int, PyData.canLayAll0 (ns.map PyData.int) = true
  | [] => by simp [PyData.canLayAll0]
  | n :: r => by
    have h := sh_lay r
    simp [PyData.canLayAll0, PyData.canLay0, h]
theorem sh_dep : ∀ ns : List Int, PyData.depthAll (ns.map PyData.int) = 0
  | [] => by simp [PyData.depthAll]
  | n :: r => by
    have h := sh_dep r
    simp [PyData.depthAll, PyData.depth, h]
theorem sh_ints (ns : List Int) : SeqAt.shaped (.list (ns.map PyData.int)) = true := by
  simp [SeqAt.shaped, PyData.canLay0, PyData.depth, sh_lay, sh_dep]
theorem r_eqNil {K : PySem.W.Frag} {a b : Addr} {ns : List Int} (h1 : H a = some (.lst (ns.map V.int))) (h2 : H b = some (.lst [])) (q : Q (.bl (decide (ns = []))) H) : rEqD K (.ref a) (.ref b) H Q := by
  refine ⟨.list (ns.map .int), .list [], .lst (SqL.of h1) (dp_ints ns), .lst (SqL.of h2) .nil, sh_ints ns, sh_ints [], ?_⟩
  have e : PyData.eqv (.list (ns.map .int)) (.list []) = decide (ns = []) := by
    cases ns <;> simp [PyData.eqv, PyData.eqvAll]
  rw [e]
  exact q
theorem r_eqNilN {K : PySem.W.Frag} {a b : Addr} {l : List Nat} (h1 : H a = some (.lst (l.map natV))) (h2 : H b = some (.lst [])) (q : Q (.bl (decide (l = []))) H) : rEqD K (.ref a) (.ref b) H Q := by
  refine r_eqNil (ns := l.map fun (n : Nat) => (n : Int)) (by rw [List.map_map]; exact h1) h2 ?_
  have e : decide (l.map (fun (n : Nat) => (n : Int)) = []) = decide (l = []) := by
    cases l <;> simp
  rw [e]
  exact q
theorem r_ixLast {K : PySem.W.Frag} {a : Addr} {xs : List V} (h : SqL K H a xs) (hj : xs.getLast? = some v) (q : Q v H) : rIxL K (.ref a) (.int (-1)) H Q := by
  obtain ⟨ys, rfl⟩ := List.getLast?_eq_some_iff.mp hj
  exact ⟨a, _, _, v, rfl, rfl, h, atI_last ys v, q⟩
/-! ### a field stored -/
theorem r_sFld {K : PySem.W.Frag} {f : Str} (h : tb σ H fun y H1 => ta σ H1 fun x H2 => ∃ a C dx fs, x = .ref a ∧ H2 a = some (.ins C dx fs) ∧ Cls K C ∧ NoAttr K C f ∧ fs.length < 1000 ∧ nx σ (upd H2 a (.ins C dx (putF f y fs)))) : sFld K ta tb f ⟨nx, rt, bk, ct⟩ σ H := h
theorem k_sfld {K : PySem.W.Frag} {f : Str} {a C dx : Addr} {fs : List (Str × V)} {R : Hp → Prop} (h1 : H a = some (.ins C dx fs)) (h2 : Cls K C) (h3 : NoAttr K C f) (h4 : fs.length < 1000) (q : ∀ H', Ext [a] H H' → H' a = some (.ins C dx (putF f y fs)) → R H') :
    ∃ a' C' dx' fs', V.ref a = .ref a' ∧ H a' = some (.ins C' dx' fs') ∧ Cls K C' ∧ NoAttr K C' f ∧ fs'.length < 1000 ∧ R (upd H a' (.ins C' dx' (putF f y fs'))) := ⟨a, C, dx, fs, rfl, h1, h2, h3, h4, q _ (Ext.upd (by simp)) upd_same⟩
/-! ### a new instance -/
theorem r_make_t {sp : Sp} {E : XK} {C : Addr} (h : tl σ H fun vs H1 => MakeO C sp E vs H1 Q) : tMake C sp [] E tl σ H Q := h
theorem r_make {sp : Sp} {E : XK} {C : Addr} {vs : List V} (q : ∀ x dx H', H x = none → H dx = none → dx ≠ x → Ex H H' → H' x = some (.ins C dx []) → (∀ l, H' l = none → H l = none ∧ l ≠ x) → sp (.ref x :: vs) H' (fun v H2 => v = .non ∧ Q (.ref x) H2) E) : MakeO C sp E vs H Q := fun x dx nx nd ne => by
  rw [List.append_nil]
  have e1 : Ex H (upd H dx (.own x)) := Ex.new nd
  have nx2 : (upd H dx (.own x)) x = none := by
    rw [upd_ne ne.symm]
    exact nx
  refine q x dx _ nx nd ne (e1.trans (Ex.new nx2)) upd_same fun l hl => ?_
  have hlx : l ≠ x := fun z => by
    rw [z, upd_same] at hl
    cases hl
  rw [upd_ne hlx] at hl
  exact ⟨fresh_back e1 hl, hlx⟩
end
end Bk
/-! ## Plain facts: how much a dough rises -/
namespace Bk
open PySem
theorem sum_foldl : ∀ (l : List Nat) (a : Nat), l.foldl (· + ·) a = a + l.foldl (· + ·) 0
  | [], a => by simp
  | x :: r, a => by
    rw [List.foldl_cons, List.foldl_cons, sum_foldl r (a + x), sum_foldl r (0 + x)]
    omega
theorem sum_snoc (l : List Nat) (x : Nat) : SrCommon.sum (l ++ [x]) = SrCommon.sum l + x := by
  unfold SrCommon.sum
  rw [List.foldl_append]
  rfl
theorem risen_succ (b : Sr98.Bakery) (d : Sr98.Dough) (t : Nat) : Sr98.risen b d (t + 1) = Sr98.risen b d t + Sr98.rise b d t := by
  unfold Sr98.risen
  rw [List.range_succ, List.map_append, List.map_singleton, sum_snoc]
theorem risen_early (b : Sr98.Bakery) (d : Sr98.Dough) : ∀ t : Nat, t ≤ d.mixedAt → Sr98.risen b d t = 0
  | 0, _ => rfl
  | t + 1, h => by
    rw [risen_succ, risen_early b d t (by omega)]
    unfold Sr98.rise
    rw [if_pos (.inl (by omega))]
def cooledL (d : Sr98.Dough) (n : Nat) : List Bool := (List.range n).map (Sr98.isCooled d)
theorem cooledL_at {d : Sr98.Dough} {n t : Nat} (h : t < n) : (cooledL d n)[t]? = some (Sr98.isCooled d t) := by
  unfold cooledL
  rw [List.getElem?_map, List.getElem?_range h]
  rfl
theorem cooledL_len (d : Sr98.Dough) (n : Nat) : (cooledL d n).length = n := by
  unfold cooledL
  rw [List.length_map, List.length_range]
theorem filter_find {p : Nat → Bool} : ∀ l : List Nat, l.find? p = (l.filter p).head?
  | [] => rfl
  | x :: r => by
    rw [List.find?_cons, List.filter_cons]
    cases h : p x with
    | true => simp
    | false => simpa using filter_find r
/-- the times at which a dough may be put in -/
def timesOf (b : Sr98.Bakery) (d : Sr98.Dough) : List Nat := ((List.range (Sr98.hours b + 1 - d.mixedAt)).map (d.mixedAt + ·)).filter fun x => decide (d.minimum ≤ Sr98.risen b d x) && decide (Sr98.risen b d x ≤ d.maximum)
theorem times_eq (b : Sr98.Bakery) (d : Sr98.Dough) (hm : d.mixedAt ≤ Sr98.hours b) : (List.range (Sr98.hours b + 1)).filter (Sr98.canBakeAt b d) = timesOf b d := by
  have e : List.range (Sr98.hours b + 1) = List.range d.mixedAt ++ (List.range (Sr98.hours b + 1 - d.mixedAt)).map (d.mixedAt + ·) := by
    rw [← List.range_add]
    congr 1
    omega
  have e1 : (List.range d.mixedAt).filter (Sr98.canBakeAt b d) = [] := by
    rw [List.filter_eq_nil_iff]
    intro x hx
    have hlt := List.mem_range.mp hx
    unfold Sr98.canBakeAt
    rw [decide_eq_false (show ¬ d.mixedAt ≤ x by omega)]
    simp
  rw [e, List.filter_append, e1, List.nil_append]
  unfold timesOf
  refine List.filter_congr fun x hx => ?_
  obtain ⟨y, hy, rfl⟩ := List.mem_map.mp hx
  have hlt := List.mem_range.mp hy
  unfold Sr98.canBakeAt
  rw [decide_eq_true (show d.mixedAt ≤ d.mixedAt + y by omega), decide_eq_true (show d.mixedAt + y ≤ Sr98.hours b by omega)]
  simp
theorem window_eq (b : Sr98.Bakery) (d : Sr98.Dough) (hm : d.mixedAt ≤ Sr98.hours b) : Sr98.window b d = (timesOf b d).head?.map fun a => (a, (timesOf b d).getLast?.getD a) := by
  unfold Sr98.window
  rw [filter_find, filter_find, List.filter_reverse, List.head?_reverse, times_eq b d hm]
  cases (timesOf b d).head? <;> rfl
/-! ### cooling, by bits -/
theorem cooled_bit (d : Sr98.Dough) (t : Nat) : Sr98.isCooled d t = d.cooled.testBit t := by
  unfold Sr98.isCooled
  rw [Nat.testBit_eq_decide_div_mod_eq]
  rfl
theorem mask_succ (f c : Nat) : Sr98.maskOf f (c + 1) = Sr98.maskOf f c + 2 ^ (f + c) := by
  unfold Sr98.maskOf
  rw [List.range_succ, List.map_append, List.map_singleton, sum_snoc]
theorem mask_lt (f : Nat) : ∀ c, Sr98.maskOf f c < 2 ^ (f + c)
  | 0 => Nat.two_pow_pos _
  | c + 1 => by
    have h := mask_lt f c
    rw [mask_succ, ← Nat.add_assoc, Nat.pow_succ]
    omega
theorem mask_bit (f t : Nat) : ∀ c, (Sr98.maskOf f c).testBit t = (decide (f ≤ t) && decide (t < f + c))
  | 0 => by
    have e : Sr98.maskOf f 0 = 0 := rfl
    rw [e, Nat.zero_testBit]
    by_cases h : f ≤ t
    · rw [decide_eq_false (show ¬ t < f + 0 by omega)]
      simp
    · simp [h]
  | c + 1 => by
    rw [mask_succ, Nat.add_comm]
    by_cases ht : t = f + c
    · subst ht
      rw [Nat.testBit_two_pow_add_eq, Nat.testBit_lt_two_pow (mask_lt f c), decide_eq_true (show f ≤ f + c by omega), decide_eq_true (show f + c < f + (c + 1) by omega)]
      rfl
    · by_cases hlt : t < f + c
      · rw [Nat.testBit_two_pow_add_gt hlt, mask_bit f t c, decide_eq_true hlt, decide_eq_true (show t < f + (c + 1) by omega)]
      · have h1 : 2 ^ (f + c) + Sr98.maskOf f c < 2 ^ t := by
          have h2 := mask_lt f c
          have h3 : 2 ^ (f + c + 1) ≤ 2 ^ t := Nat.pow_le_pow_right (by omega) (by omega)
          rw [Nat.pow_succ] at h3
          omega
        rw [Nat.testBit_lt_two_pow h1, decide_eq_false (show ¬ t < f + (c + 1) by omega)]
        simp
theorem with_bit (d : Sr98.Dough) {s t : Nat} (h : s ≤ t) (x : Nat) : Sr98.isCooled (Sr98.withCooling d s t) x = (Sr98.isCooled d x || (decide (s ≤ x) && decide (x < t))) := by
  rw [cooled_bit, cooled_bit]
  show (d.cooled ||| Sr98.maskOf s (t - s)).testBit x = _
  rw [Nat.testBit_or, mask_bit, show s + (t - s) = t by omega]
/-- cooled besides from s to ahead of k -/
def cooledTo (d : Sr98.Dough) (n s k : Nat) : List Bool := (List.range n).map fun x => Sr98.isCooled d x || (decide (s ≤ x) && decide (x < k))
theorem cooledTo_start (d : Sr98.Dough) (n s : Nat) : cooledTo d n s s = cooledL d n := by
  unfold cooledTo cooledL
  refine List.map_congr_left fun x _ => ?_
  have e : (decide (s ≤ x) && decide (x < s)) = false := by
    by_cases h : s ≤ x
    · rw [decide_eq_false (show ¬ x < s by omega)]
      simp
    · simp [h]
  rw [e, Bool.or_false]
theorem cooledTo_end (d : Sr98.Dough) (n : Nat) {s t : Nat} (h : s ≤ t) : cooledTo d n s t = cooledL (Sr98.withCooling d s t) n := by
  unfold cooledTo cooledL
  exact List.map_congr_left fun x _ => (with_bit d h x).symm
theorem cooledTo_len (d : Sr98.Dough) (n s k : Nat) : (cooledTo d n s k).length = n := by
  unfold cooledTo
  rw [List.length_map, List.length_range]
theorem cooledTo_step (d : Sr98.Dough) (n s k : Nat) (h : s ≤ k) : (cooledTo d n s k).set k true = cooledTo d n s (k + 1) := by
  refine List.ext_getElem? fun i => ?_
  unfold cooledTo
  rw [List.getElem?_set]
  by_cases hi : i < n
  · by_cases e : k = i
    · subst e
      rw [if_pos rfl, if_pos (by rw [List.length_map, List.length_range]; exact hi), List.getElem?_map, List.getElem?_range hi, Option.map_some]
      simp [h]
    · rw [if_neg e, List.getElem?_map, List.getElem?_map, List.getElem?_range hi]
      have e2 : decide (i < k) = decide (i < k + 1) := decide_eq_decide.mpr (by omega)
      rw [Option.map_some, Option.map_some, e2]
  · have e1 : ((List.range n).map fun x => Sr98.isCooled d x || (decide (s ≤ x) && decide (x < k + 1)))[i]? = none := by
      rw [List.getElem?_eq_none_iff, List.length_map, List.length_range]
      omega
    have e2 : ((List.range n).map fun x => Sr98.isCooled d x || (decide (s ≤ x) && decide (x < k)))[i]? = none := by
      rw [List.getElem?_eq_none_iff, List.length_map, List.length_range]
      omega
    rw [e1, e2]
    by_cases e : k = i
    · rw [if_pos e, if_neg (by rw [List.length_map, List.length_range]; omega)]
    · rw [if_neg e]
end Bk
/-! ## Plain facts: the changes -/
namespace Bk
open PySem
/-- what holds of every house -/
structure WF (b : Sr98.Bakery) : Prop where
  h1 : 1 ≤ Sr98.hours b
  h2 : Sr98.hours b ≤ 36
  p1 : 1 ≤ b.bakingTime
  p2 : b.bakingTime ≤ 9
  n : b.doughs.length ≤ 6
  d : ∀ d ∈ b.doughs, d.mixedAt < Sr98.hours b ∧ d.cooled < 2 ^ Sr98.hours b
/-- an answer: the number answered first, then what else -/
def res (r : SrCommon.Result) : List Int := r.code :: r.values
theorem hour_eq (b : Sr98.Bakery) (t : Int) : (decide (0 ≤ t) && decide (t ≤ (Sr98.hours b : Int) - 1)) = Sr98.isHour b t := by
  unfold Sr98.isHour SrCommon.isIndex
  congr 1
  exact decide_eq_decide.mpr (by omega)
theorem hour_nat {b : Sr98.Bakery} {t : Int} (h : Sr98.isHour b t = true) : ∃ j : Nat, t = (j : Int) ∧ j < Sr98.hours b := by
  have h : (decide (0 ≤ t) && decide (t < (Sr98.hours b : Int))) = true := h
  rw [Bool.and_eq_true] at h
  have h1 := of_decide_eq_true h.1
  have h2 := of_decide_eq_true h.2
  exact ⟨t.toNat, by omega, by omega⟩
theorem dough_nat {b : Sr98.Bakery} {t : Int} (h : Sr98.isDough b t = true) : ∃ j : Nat, t = (j : Int) ∧ j < b.doughs.length := by
  have h : (decide (0 ≤ t) && decide (t < (b.doughs.length : Int))) = true := h
  rw [Bool.and_eq_true] at h
  have h1 := of_decide_eq_true h.1
  have h2 := of_decide_eq_true h.2
  exact ⟨t.toNat, by omega, by omega⟩
theorem temp_nat {x : Int} (h : Sr98.isTemperature x = true) : ∃ j : Nat, x = (j : Int) := by
  have h : (decide (0 ≤ x) && decide (x ≤ 40)) = true := h
  rw [Bool.and_eq_true] at h
  have h1 := of_decide_eq_true h.1
  exact ⟨x.toNat, by omega⟩
theorem bake_nat {x : Int} (h : SrCommon.inRange x 1 9 = true) : ∃ j : Nat, x = (j : Int) ∧ 1 ≤ j ∧ j ≤ 9 := by
  have h : (decide (1 ≤ x) && decide (x ≤ 9)) = true := h
  rw [Bool.and_eq_true] at h
  have h1 := of_decide_eq_true h.1
  have h2 := of_decide_eq_true h.2
  exact ⟨x.toNat, by omega, by omega, by omega⟩
/-- the temperatures, from s to ahead of k another one -/
def tempsTo (ts : List Nat) (s k x : Nat) : List Nat := ts.zipIdx.map fun y => if s ≤ y.2 ∧ y.2 < k then x else y.1
theorem tempsTo_len (ts : List Nat) (s k x : Nat) : (tempsTo ts s k x).length = ts.length := by simp [tempsTo]
theorem tempsTo_at {ts : List Nat} {s k x i : Nat} : (tempsTo ts s k x)[i]? = ts[i]?.map fun y => if s ≤ i ∧ i < k then x else y := by
  unfold tempsTo
  rw [List.getElem?_map, List.getElem?_zipIdx]
  cases ts[i]? <;> simp
theorem tempsTo_start (ts : List Nat) (s x : Nat) : tempsTo ts s s x = ts := by
  refine List.ext_getElem? fun i => ?_
  rw [tempsTo_at]
  cases ts[i]? with
  | none => rfl
  | some y =>
    rw [Option.map_some, if_neg (by omega)]
theorem tempsTo_step (ts : List Nat) (s k x : Nat) (h : s ≤ k) : (tempsTo ts s k x).set k x = tempsTo ts s (k + 1) x := by
  refine List.ext_getElem? fun i => ?_
  rw [List.getElem?_set, tempsTo_len, tempsTo_at, tempsTo_at]
  by_cases e : k = i
  · subst e
    rw [if_pos rfl]
    by_cases hk : k < ts.length
    · rw [if_pos hk, List.getElem?_eq_getElem hk, Option.map_some, if_pos (by omega)]
    · rw [if_neg hk, List.getElem?_eq_none (by omega)]
      rfl
  · rw [if_neg e]
    congr 1
    funext y
    by_cases c : s ≤ i ∧ i < k
    · rw [if_pos c, if_pos (by omega)]
    · rw [if_neg c, if_neg (by omega)]
theorem cooled_any {d : Sr98.Dough} {n : Nat} (h : d.cooled < 2 ^ n) : (cooledL d n).any id = decide (d.cooled ≠ 0) := by
  by_cases e : d.cooled = 0
  · rw [decide_eq_false (fun z => z e), Bool.eq_false_iff]
    intro z
    obtain ⟨y, hy, hy2⟩ := List.any_eq_true.mp z
    obtain ⟨t, _, rfl⟩ := List.mem_map.mp hy
    have hy2 : Sr98.isCooled d t = true := hy2
    rw [cooled_bit, e, Nat.zero_testBit] at hy2
    cases hy2
  · rw [decide_eq_true e]
    obtain ⟨i, hi⟩ := Nat.exists_testBit_of_ne_zero e
    have hlt : i < n := by
      refine Nat.lt_of_not_le fun z => ?_
      rw [Nat.testBit_lt_two_pow (Nat.lt_of_lt_of_le h (Nat.pow_le_pow_right (by omega) z))] at hi
      cases hi
    refine List.any_eq_true.mpr ⟨_, List.mem_of_getElem? (cooledL_at hlt), ?_⟩
    rw [cooled_bit]
    exact hi
theorem cooledL_zero (a b c n : Nat) : cooledL ⟨a, b, c, 0⟩ n = List.replicate n false := by
  unfold cooledL
  refine List.eq_replicate_iff.mpr ⟨by simp, fun x hx => ?_⟩
  obtain ⟨t, _, rfl⟩ := List.mem_map.mp hx
  rw [cooled_bit]
  exact Nat.zero_testBit t
theorem getD_at {b : Sr98.Bakery} {j : Nat} {d : Sr98.Dough} (h : b.doughs[j]? = some d) : Sr98.doughAt b j = d := by
  unfold Sr98.doughAt
  rw [List.getD_eq_getElem?_getD, h]
  rfl
/-- why a cooling is refused -/
def refusal (b : Sr98.Bakery) (i s t : Int) : Option Int := if Sr98.isDough b i = false then some (-2) else if Sr98.isInterval b s t = false then some (-22) else none
theorem interval_nat {b : Sr98.Bakery} {s t : Int} (h : Sr98.isInterval b s t = true) : ∃ j k : Nat, s = (j : Int) ∧ t = (k : Int) ∧ j < k ∧ k ≤ Sr98.hours b := by
  have h : ((decide (0 ≤ s) && decide (s < t)) && decide (t ≤ (Sr98.hours b : Int))) = true := h
  rw [Bool.and_eq_true, Bool.and_eq_true] at h
  have h1 := of_decide_eq_true h.1.1
  have h2 := of_decide_eq_true h.1.2
  have h3 := of_decide_eq_true h.2
  exact ⟨s.toNat, t.toNat, by omega, by omega, by omega, by omega⟩
theorem with_lt {d : Sr98.Dough} {n s t : Nat} (h : d.cooled < 2 ^ n) (hst : s ≤ t) (ht : t ≤ n) : (Sr98.withCooling d s t).cooled < 2 ^ n := by
  show d.cooled ||| Sr98.maskOf s (t - s) < 2 ^ n
  refine Nat.or_lt_two_pow h ?_
  have q := mask_lt s (t - s)
  rw [show s + (t - s) = t by omega] at q
  exact Nat.lt_of_lt_of_le q (Nat.pow_le_pow_right (by omega) ht)
end Bk
/-! ## Mirrors: orders, sets, deadlines -/
namespace Bk
open PySem
abbrev Win := Option (Nat × Nat)
abbrev Plan := Nat × List Nat × List Nat
def startOf (w : Win) (free p h : Nat) : Option Nat := match w with
  | none => none
  | some x => if x.2 < max x.1 free ∨ h < max x.1 free + p then none else some (max x.1 free)
def winAt (ws : List Win) (i : Nat) : Win := ws.getD i none
def startsGo (ws : List Win) (p h : Nat) : List Nat → Nat → Option (List Nat)
  | [], _ => some []
  | i :: r, free => match startOf (winAt ws i) free p h with
    | none => none
    | some s => (startsGo ws p h r (s + p)).map fun l => s :: l
theorem startsGo_none {ws : List Win} {p h i free : Nat} {r : List Nat} (c : startOf (winAt ws i) free p h = none) : startsGo ws p h (i :: r) free = none := by
  show (match startOf (winAt ws i) free p h with
    | none => none
    | some s => (startsGo ws p h r (s + p)).map fun l => s :: l) = none
  rw [c]
theorem startsGo_some {ws : List Win} {p h i free s : Nat} {r : List Nat} (c : startOf (winAt ws i) free p h = some s) : startsGo ws p h (i :: r) free = (startsGo ws p h r (s + p)).map fun l => s :: l := by
  show (match startOf (winAt ws i) free p h with
    | none => none
    | some s => (startsGo ws p h r (s + p)).map fun l => s :: l) = _
  rw [c]
def finAt (l : List Nat) (p : Nat) : Nat := match l.getLast? with
  | none => 0
  | some t => t + p
def longerOf (order numbers : List Nat) : List (List Nat) := (numbers.filter fun n => !decide (n ∈ order)).map fun n => order ++ [n]
def ordersK (numbers : List Nat) : Nat → List (List Nat)
  | 0 => [[]]
  | k + 1 => (ordersK numbers k).flatMap fun o => longerOf o numbers
def planStep (ws : List Win) (p h : Nat) (best : Option Plan) (order : List Nat) : Option Plan := match startsGo ws p h order 0 with
  | none => best
  | some s => match best with
    | none => some (finAt s p, order, s)
    | some x => if finAt s p < x.1 then some (finAt s p, order, s) else some x
def planFor (ws : List Win) (p h : Nat) (numbers : List Nat) : Option Plan := (ordersK numbers numbers.length).foldl (planStep ws p h) none
def mostStep (ws : List Win) (p h : Nat) (best : List Nat × Plan) (set : Nat) : List Nat × Plan :=
  if best.1.length < (SrCommon.maskMembers ws.length set).length then (match planFor ws p h (SrCommon.maskMembers ws.length set) with
    | none => best
    | some x => (SrCommon.maskMembers ws.length set, x)) else best
def mostTo (ws : List Win) (p h k : Nat) : List Nat × Plan := (List.range k).foldl (mostStep ws p h) ([], (0, [], []))
def nbPick (ws : List Win) (i z : Nat) : Option Nat → Option Nat
  | none => some i
  | some j => if z < ((winAt ws j).getD (0, 0)).2 then some i else some j
def nbStep (ws : List Win) (time : Nat) (best : Option Nat) (i : Nat) : Option Nat := match winAt ws i with
  | none => best
  | some x => if x.1 ≤ time then nbPick ws i x.2 best else best
theorem nbStep_none {ws : List Win} {time i : Nat} {b : Option Nat} (c : winAt ws i = none) : nbStep ws time b i = b := by
  unfold nbStep
  rw [c]
theorem nbStep_some {ws : List Win} {time i : Nat} {b : Option Nat} {x : Nat × Nat} (c : winAt ws i = some x) : nbStep ws time b i = if x.1 ≤ time then nbPick ws i x.2 b else b := by
  unfold nbStep
  rw [c]
theorem nbPick_is (ws : List Win) (i z : Nat) (b : Option Nat) : nbPick ws i z b = some i ∨ (b ≠ none ∧ nbPick ws i z b = b) := by
  cases b with
  | none => exact .inl rfl
  | some j =>
    show (if z < ((winAt ws j).getD (0, 0)).2 then some i else some j) = some i ∨ (some j ≠ none ∧ (if z < ((winAt ws j).getD (0, 0)).2 then some i else some j) = some j)
    split
    · exact .inl rfl
    · exact .inr ⟨Option.some_ne_none _, rfl⟩
def nextBegun (ws : List Win) (left : List Nat) (time : Nat) : Option Nat := left.foldl (nbStep ws time) none
def begins (ws : List Win) (left : List Nat) : List Nat := (left.filter fun i => (winAt ws i).isSome).map fun i => ((winAt ws i).getD (0, 0)).1
def timeOfNext (ws : List Win) (left : List Nat) (time : Nat) : Option Nat := match nextBegun ws left time with
  | some _ => some time
  | none => (begins ws left).min?
def dlGo (ws : List Win) (p : Nat) : Nat → List Nat → List Nat → Nat → List Nat
  | 0, _, order, _ => order
  | n + 1, left, order, time => match timeOfNext ws left time with
    | none => order ++ left
    | some m => match nextBegun ws left m with
      | none => order
      | some i => dlGo ws p n (left.filter fun j => !decide (j = i)) (order ++ [i]) (m + p)
/-! ### what the walks ask of them -/
theorem longer_len (order numbers : List Nat) : (longerOf order numbers).length ≤ numbers.length := by
  unfold longerOf
  rw [List.length_map]
  exact List.length_filter_le _ _
theorem flat_len {f : List Nat → List (List Nat)} {m : Nat} (hf : ∀ o, (f o).length ≤ m) : ∀ l : List (List Nat), (l.flatMap f).length ≤ l.length * m
  | [] => by simp
  | o :: r => by
    have h := flat_len hf r
    have h2 := hf o
    rw [List.flatMap_cons, List.length_append, List.length_cons, Nat.add_mul, Nat.one_mul]
    omega
theorem ordersK_len (numbers : List Nat) : ∀ k, (ordersK numbers k).length ≤ numbers.length ^ k
  | 0 => by simp [ordersK]
  | k + 1 => by
    show ((ordersK numbers k).flatMap fun o => longerOf o numbers).length ≤ _
    refine Nat.le_trans (flat_len (fun o => longer_len o numbers) _) ?_
    rw [Nat.pow_succ]
    exact Nat.mul_le_mul_right _ (ordersK_len numbers k)
theorem ordersK_small {numbers : List Nat} {k : Nat} (h : numbers.length ≤ 6) (hk : k ≤ 6) : (ordersK numbers k).length ≤ 46656 := by
  refine Nat.le_trans (ordersK_len numbers k) (Nat.le_trans (Nat.pow_le_pow_left h k) ?_)
  exact Nat.pow_le_pow_right (by omega) hk
theorem ordersK_mem (numbers : List Nat) : ∀ (k : Nat) (o : List Nat), o ∈ ordersK numbers k → o.length = k ∧ ∀ i ∈ o, i ∈ numbers
  | 0, o, h => by
    have e : o = [] := by simpa [ordersK] using h
    subst e
    exact ⟨rfl, fun i hi => absurd hi (by simp)⟩
  | k + 1, o, h => by
    obtain ⟨q, hq, ho⟩ := List.mem_flatMap.mp h
    obtain ⟨n, hn, rfl⟩ := List.mem_map.mp ho
    obtain ⟨h1, h2⟩ := ordersK_mem numbers k q hq
    refine ⟨by simp [h1], fun i hi => ?_⟩
    rcases List.mem_append.mp hi with hi | hi
    · exact h2 i hi
    · rw [List.mem_singleton.mp hi]
      exact (List.mem_filter.mp hn).1
theorem startsGo_len (ws : List Win) (p h : Nat) : ∀ (o : List Nat) (free : Nat) (l : List Nat), startsGo ws p h o free = some l → l.length = o.length
  | [], free, l, e => by
    have e : some [] = some l := e
    cases e
    rfl
  | i :: r, free, l, e => by
    unfold startsGo at e
    cases c : startOf (winAt ws i) free p h with
    | none =>
      rw [c] at e
      cases e
    | some s =>
      rw [c] at e
      have e : (startsGo ws p h r (s + p)).map (fun l => s :: l) = some l := e
      cases c2 : startsGo ws p h r (s + p) with
      | none =>
        rw [c2] at e
        cases e
      | some l2 =>
        rw [c2] at e
        cases e
        rw [List.length_cons, List.length_cons, startsGo_len ws p h r _ l2 c2]
theorem nbStep_is (ws : List Win) (time i : Nat) (b : Option Nat) : (nbStep ws time b i = some i ∧ (winAt ws i).isSome = true) ∨ nbStep ws time b i = b := by
  cases c : winAt ws i with
  | none => exact .inr (nbStep_none c)
  | some x =>
    rw [nbStep_some c]
    split
    · rcases nbPick_is ws i x.2 b with h | ⟨_, h⟩
      · exact .inl ⟨h, rfl⟩
      · exact .inr h
    · exact .inr rfl
/-- the best so far is one of those gone through, and has a window -/
theorem nb_some (ws : List Win) (time : Nat) : ∀ (l : List Nat) (b : Option Nat) (j : Nat), (∀ j, b = some j → (winAt ws j).isSome = true) → l.foldl (nbStep ws time) b = some j → (winAt ws j).isSome = true
  | [], b, j, hb, e => hb j e
  | i :: r, b, j, hb, e => by
    refine nb_some ws time r (nbStep ws time b i) j (fun k hk => ?_) e
    rcases nbStep_is ws time i b with ⟨h1, h2⟩ | h1
    · rw [h1] at hk
      cases hk
      exact h2
    · rw [h1] at hk
      exact hb k hk
theorem nb_mem (ws : List Win) (time : Nat) : ∀ (l : List Nat) (b : Option Nat) (j : Nat), l.foldl (nbStep ws time) b = some j → b = some j ∨ j ∈ l
  | [], b, j, e => .inl e
  | i :: r, b, j, e => by
    rcases nb_mem ws time r (nbStep ws time b i) j e with h | h
    · rcases nbStep_is ws time i b with ⟨h1, _⟩ | h1
      · rw [h1] at h
        cases h
        exact .inr (List.mem_cons_self ..)
      · rw [h1] at h
        exact .inl h
    · exact .inr (List.mem_cons_of_mem _ h)
theorem nb_keeps (ws : List Win) (time : Nat) : ∀ (l : List Nat) (b : Option Nat), b ≠ none → l.foldl (nbStep ws time) b ≠ none
  | [], b, h => h
  | i :: r, b, h => by
    refine nb_keeps ws time r (nbStep ws time b i) ?_
    rcases nbStep_is ws time i b with ⟨h1, _⟩ | h1
    · rw [h1]
      exact Option.some_ne_none _
    · rw [h1]
      exact h
theorem nb_has (ws : List Win) (time : Nat) : ∀ (l : List Nat) (b : Option Nat) (i : Nat), i ∈ l → (∃ x, winAt ws i = some x ∧ x.1 ≤ time) → l.foldl (nbStep ws time) b ≠ none
  | [], b, i, h, _ => absurd h (by simp)
  | k :: r, b, i, h, hx => by
    rcases List.mem_cons.mp h with e | h
    · subst e
      refine nb_keeps ws time r (nbStep ws time b i) ?_
      obtain ⟨x, c, hle⟩ := hx
      rw [nbStep_some c, if_pos hle]
      rcases nbPick_is ws i x.2 b with h | ⟨h, h2⟩
      · rw [h]
        exact Option.some_ne_none _
      · rw [h2]
        exact h
    · exact nb_has ws time r (nbStep ws time b k) i h hx
/-- at the time that comes next there is a dough to take -/
theorem next_has {ws : List Win} {left : List Nat} {t m : Nat} (h : timeOfNext ws left t = some m) : nextBegun ws left m ≠ none := by
  unfold timeOfNext at h
  cases c : nextBegun ws left t with
  | some j =>
    rw [c] at h
    cases h
    rw [c]
    exact Option.some_ne_none _
  | none =>
    rw [c] at h
    have h : (begins ws left).min? = some m := h
    have hm := List.min?_mem h
    obtain ⟨i, hi, e⟩ := List.mem_map.mp hm
    obtain ⟨h1, h2⟩ := List.mem_filter.mp hi
    cases w : winAt ws i with
    | none =>
      rw [w] at h2
      cases h2
    | some x =>
      rw [w] at e
      have e : x.1 = m := e
      exact nb_has ws m left none i h1 ⟨x, w, by omega⟩
end Bk
/-! ## The mirrors are the specification's functions -/
namespace Bk
open PySem
def wins (b : Sr98.Bakery) : List Win := b.doughs.map (Sr98.window b)
theorem wins_len (b : Sr98.Bakery) : (wins b).length = b.doughs.length := by
  unfold wins
  rw [List.length_map]
theorem winAt_wins {b : Sr98.Bakery} {i : Nat} (h : i < b.doughs.length) : winAt (wins b) i = Sr98.window b (Sr98.doughAt b i) := by
  unfold winAt wins Sr98.doughAt
  rw [List.getD_eq_getElem?_getD, List.getD_eq_getElem?_getD, List.getElem?_map, List.getElem?_eq_getElem h]
  rfl
theorem flat_congr {α β : Type} {f g : α → List β} : ∀ l : List α, (∀ x ∈ l, f x = g x) → l.flatMap f = l.flatMap g
  | [], _ => rfl
  | a :: r, h => by
    rw [List.flatMap_cons, List.flatMap_cons, h a (List.mem_cons_self ..), flat_congr r fun x hx => h x (List.mem_cons_of_mem _ hx)]
/-! ### orders -/
theorem starts_eq (b : Sr98.Bakery) : ∀ (order : List Nat) (free : Nat), (∀ i ∈ order, i < b.doughs.length) → startsGo (wins b) b.bakingTime (Sr98.hours b) order free = Sr98.startTimesFrom b order free
  | [], _, _ => rfl
  | i :: r, free, h => by
    have ih := fun t => starts_eq b r t (fun j hj => h j (List.mem_cons_of_mem _ hj))
    have hw := winAt_wins (h i (List.mem_cons_self ..))
    unfold Sr98.startTimesFrom
    cases c : Sr98.window b (Sr98.doughAt b i) with
    | none =>
      rw [c] at hw
      exact startsGo_none (by rw [hw]; rfl)
    | some x =>
      rw [c] at hw
      show _ = (if x.2 < max free x.1 ∨ Sr98.hours b < max free x.1 + b.bakingTime then none else (Sr98.startTimesFrom b r (max free x.1 + b.bakingTime)).map fun l => max free x.1 :: l)
      have e : startOf (winAt (wins b) i) free b.bakingTime (Sr98.hours b) = if x.2 < max x.1 free ∨ Sr98.hours b < max x.1 free + b.bakingTime then none else some (max x.1 free) := by
        rw [hw]
        rfl
      rw [Nat.max_comm free x.1]
      by_cases q : x.2 < max x.1 free ∨ Sr98.hours b < max x.1 free + b.bakingTime
      · rw [if_pos q] at e ⊢
        exact startsGo_none e
      · rw [if_neg q] at e ⊢
        rw [startsGo_some e, ih]
theorem starts_is {b : Sr98.Bakery} {order : List Nat} (h : ∀ i ∈ order, i < b.doughs.length) : startsGo (wins b) b.bakingTime (Sr98.hours b) order 0 = Sr98.startTimes b order := starts_eq b order 0 h
theorem fin_eq (l : List Nat) (p : Nat) : finAt l p = (l.getLast?.map fun t => t + p).getD 0 := by
  unfold finAt
  cases l.getLast? <;> rfl
theorem longer_cons (i : Nat) (o l : List Nat) : longerOf (i :: o) l = (longerOf o (l.filter fun j => j != i)).map fun q => i :: q := by
  unfold longerOf
  rw [List.filter_filter, List.map_map]
  have e : (fun n => !decide (n ∈ i :: o)) = fun a => (!decide (a ∈ o)) && (a != i) := by
    funext n
    by_cases h1 : n = i <;> by_cases h2 : n ∈ o <;> simp [h1, h2, bne]
  rw [e]
  rfl
theorem filter_len {l : List Nat} (nd : l.Nodup) {i : Nat} (h : i ∈ l) : (l.filter fun j => j != i).length + 1 = l.length := by
  induction l with
  | nil => cases h
  | cons a r ih =>
    rw [List.nodup_cons] at nd
    rcases List.mem_cons.mp h with e | h
    · subst e
      have e : (r.filter fun j => j != i) = r := List.filter_eq_self.mpr fun x hx => by
        have hne : x ≠ i := fun z => nd.1 (by rw [← z]; exact hx)
        simpa [bne] using hne
      rw [List.filter_cons]
      simp [e]
    · have hne : a ≠ i := fun z => nd.1 (by rw [z]; exact h)
      rw [List.filter_cons, if_pos (by simpa [bne] using hne), List.length_cons, List.length_cons, ih nd.2 h]
theorem orders_succ : ∀ (k : Nat) (l : List Nat), l.Nodup → k + 1 ≤ l.length → Sr98.ordersOf (k + 1) l = (Sr98.ordersOf k l).flatMap fun o => longerOf o l
  | 0, l, nd, h => by
    have hl : l ≠ [] := fun z => by rw [z] at h; simp at h
    show (if l = [] then [[]] else l.flatMap fun i => (Sr98.ordersOf 0 (l.filter fun j => j != i)).map fun order => i :: order) = [[]].flatMap fun o => longerOf o l
    rw [if_neg hl, List.flatMap_singleton]
    have e1 : longerOf [] l = l.map fun n => [n] := by
      unfold longerOf
      rw [List.filter_eq_self.mpr (fun x _ => by simp)]
      rfl
    rw [e1]
    show l.flatMap (fun i => [[i]]) = _
    rw [List.flatMap_def]
    have e2 : (l.map fun i => [[i]]) = (l.map fun n => [n]).map fun x => [x] := by rw [List.map_map]; rfl
    rw [e2]
    induction (l.map fun n => [n]) with
    | nil => rfl
    | cons x r ih => rw [List.map_cons, List.flatten_cons, ih]; rfl
  | k + 1, l, nd, h => by
    have hl : l ≠ [] := fun z => by rw [z] at h; simp at h
    show (if l = [] then [[]] else l.flatMap fun i => (Sr98.ordersOf (k + 1) (l.filter fun j => j != i)).map fun order => i :: order) = (if l = [] then [[]] else l.flatMap fun i => (Sr98.ordersOf k (l.filter fun j => j != i)).map fun order => i :: order).flatMap fun o => longerOf o l
    rw [if_neg hl, if_neg hl, List.flatMap_assoc]
    refine flat_congr _ fun i hi => ?_
    have hlen := filter_len nd hi
    rw [orders_succ k _ (List.Pairwise.filter _ nd) (by omega), List.map_flatMap, List.flatMap_map]
    refine flat_congr _ fun o _ => ?_
    exact (longer_cons i o l).symm
theorem orders_eq (l : List Nat) (nd : l.Nodup) : ∀ k, k ≤ l.length → Sr98.ordersOf k l = ordersK l k
  | 0, _ => rfl
  | k + 1, h => by
    rw [orders_succ k l nd h, orders_eq l nd k (by omega)]
    rfl
/-! ### plans -/
/-- the plan's parts are the specification's -/
def PlanOk (b : Sr98.Bakery) (x : Plan) : Prop := Sr98.startTimes b x.2.1 = some x.2.2 ∧ Sr98.finishedAt b x.2.1 = some x.1
def specStep (b : Sr98.Bakery) (best : Option (List Nat × Nat)) (order : List Nat) : Option (List Nat × Nat) := match Sr98.finishedAt b order with
  | none => best
  | some t => match best with
    | none => some (order, t)
    | some x => if t < x.2 then some (order, t) else some x
def shown (x : Plan) : List Nat × Nat := (x.2.1, x.1)
theorem planStep_eq (b : Sr98.Bakery) {order : List Nat} (h : ∀ i ∈ order, i < b.doughs.length) (best : Option Plan) (hb : ∀ x, best = some x → PlanOk b x) :
    (planStep (wins b) b.bakingTime (Sr98.hours b) best order).map shown = specStep b (best.map shown) order ∧ ∀ x, planStep (wins b) b.bakingTime (Sr98.hours b) best order = some x → PlanOk b x := by
  have hs := starts_is h
  unfold planStep specStep Sr98.finishedAt
  cases c : Sr98.startTimes b order with
  | none =>
    rw [hs, c]
    exact ⟨rfl, hb⟩
  | some s =>
    rw [hs, c]
    have ok : PlanOk b (finAt s b.bakingTime, order, s) := by
      refine ⟨c, ?_⟩
      unfold Sr98.finishedAt
      rw [c, fin_eq]
      rfl
    have ef : (s.getLast?.map fun t => t + b.bakingTime).getD 0 = finAt s b.bakingTime := (fin_eq s b.bakingTime).symm
    cases best with
    | none =>
      refine ⟨?_, fun x hx => ?_⟩
      · show some (order, finAt s b.bakingTime) = some (order, (s.getLast?.map fun t => t + b.bakingTime).getD 0)
        rw [ef]
      · cases hx
        exact ok
    | some y =>
      refine ⟨?_, fun x hx => ?_⟩
      · show (if finAt s b.bakingTime < y.1 then some (finAt s b.bakingTime, order, s) else some y).map shown = if (s.getLast?.map fun t => t + b.bakingTime).getD 0 < y.1 then some (order, (s.getLast?.map fun t => t + b.bakingTime).getD 0) else some (shown y)
        rw [ef]
        by_cases q : finAt s b.bakingTime < y.1
        · rw [if_pos q, if_pos q]
          rfl
        · rw [if_neg q, if_neg q]
          rfl
      · have hx : (if finAt s b.bakingTime < y.1 then some (finAt s b.bakingTime, order, s) else some y) = some x := hx
        split at hx
        · cases hx
          exact ok
        · exact hb x hx
theorem fold_eq (b : Sr98.Bakery) : ∀ (os : List (List Nat)) (best : Option Plan), (∀ o ∈ os, ∀ i ∈ o, i < b.doughs.length) → (∀ x, best = some x → PlanOk b x) →
    (os.foldl (planStep (wins b) b.bakingTime (Sr98.hours b)) best).map shown = os.foldl (specStep b) (best.map shown) ∧ ∀ x, os.foldl (planStep (wins b) b.bakingTime (Sr98.hours b)) best = some x → PlanOk b x
  | [], best, _, hb => ⟨rfl, hb⟩
  | o :: r, best, ho, hb => by
    obtain ⟨h1, h2⟩ := planStep_eq b (ho o (List.mem_cons_self ..)) best hb
    rw [List.foldl_cons, List.foldl_cons, ← h1]
    exact fold_eq b r _ (fun q hq => ho q (List.mem_cons_of_mem _ hq)) h2
theorem plan_eq (b : Sr98.Bakery) {numbers : List Nat} (nd : numbers.Nodup) (h : ∀ i ∈ numbers, i < b.doughs.length) :
    (planFor (wins b) b.bakingTime (Sr98.hours b) numbers).map (fun x => x.2.1) = Sr98.plan b numbers ∧ ∀ x, planFor (wins b) b.bakingTime (Sr98.hours b) numbers = some x → PlanOk b x := by
  have e := fold_eq b (ordersK numbers numbers.length) none (fun o ho i hi => h i ((ordersK_mem numbers _ o ho).2 i hi)) (fun x hx => by cases hx)
  refine ⟨?_, e.2⟩
  unfold Sr98.plan
  rw [orders_eq numbers nd _ (Nat.le_refl _)]
  have e1 : ((ordersK numbers numbers.length).foldl (planStep (wins b) b.bakingTime (Sr98.hours b)) none).map shown = (ordersK numbers numbers.length).foldl (specStep b) none := e.1
  show (planFor (wins b) b.bakingTime (Sr98.hours b) numbers).map (fun x => x.2.1) = ((ordersK numbers numbers.length).foldl (specStep b) none).map Prod.fst
  rw [← e1, Option.map_map]
  rfl
theorem fold_mem (ws : List Win) (p h : Nat) : ∀ (os : List (List Nat)) (best : Option Plan) (x : Plan), os.foldl (planStep ws p h) best = some x → best = some x ∨ x.2.1 ∈ os
  | [], best, x, e => .inl e
  | o :: r, best, x, e => by
    rcases fold_mem ws p h r _ x e with q | q
    · unfold planStep at q
      cases c : startsGo ws p h o 0 with
      | none =>
        rw [c] at q
        exact .inl q
      | some s =>
        rw [c] at q
        cases best with
        | none =>
          cases q
          exact .inr (List.mem_cons_self ..)
        | some y =>
          have q : (if finAt s p < y.1 then some (finAt s p, o, s) else some y) = some x := q
          split at q
          · cases q
            exact .inr (List.mem_cons_self ..)
          · exact .inl q
    · exact .inr (List.mem_cons_of_mem _ q)
theorem plan_mem {ws : List Win} {p h : Nat} {numbers : List Nat} {x : Plan} (e : planFor ws p h numbers = some x) : x.2.1 ∈ ordersK numbers numbers.length :=
  (fold_mem ws p h _ none x e).elim (fun z => by cases z) id
/-! ### the most doughs -/
theorem mask_nodup (n set : Nat) : (SrCommon.maskMembers n set).Nodup := List.Pairwise.filter _ List.nodup_range
theorem mask_in {n set i : Nat} (h : i ∈ SrCommon.maskMembers n set) : i < n := List.mem_range.mp (List.mem_filter.mp h).1
def bigStep (b : Sr98.Bakery) (best : List Nat) (set : Nat) : List Nat := if best.length < (SrCommon.maskMembers b.doughs.length set).length ∧ (Sr98.plan b (SrCommon.maskMembers b.doughs.length set)).isSome = true then SrCommon.maskMembers b.doughs.length set else best
theorem most_eq (b : Sr98.Bakery) : ∀ k, (mostTo (wins b) b.bakingTime (Sr98.hours b) k).1 = (List.range k).foldl (bigStep b) [] ∧
    Sr98.plan b (mostTo (wins b) b.bakingTime (Sr98.hours b) k).1 = some (mostTo (wins b) b.bakingTime (Sr98.hours b) k).2.2.1
  | 0 => by
    refine ⟨rfl, ?_⟩
    show Sr98.plan b [] = some []
    rfl
  | k + 1 => by
    obtain ⟨h1, h2⟩ := most_eq b k
    have em : mostTo (wins b) b.bakingTime (Sr98.hours b) (k + 1) = mostStep (wins b) b.bakingTime (Sr98.hours b) (mostTo (wins b) b.bakingTime (Sr98.hours b) k) k := by
      unfold mostTo
      rw [List.range_succ, List.foldl_append]
      rfl
    rw [em, List.range_succ, List.foldl_append, List.foldl_cons, List.foldl_nil, ← h1]
    generalize mostTo (wins b) b.bakingTime (Sr98.hours b) k = best at h2 ⊢
    unfold mostStep bigStep
    rw [wins_len]
    have pe := (plan_eq b (mask_nodup b.doughs.length k) (fun i hi => mask_in hi)).1
    by_cases q : best.1.length < (SrCommon.maskMembers b.doughs.length k).length
    · rw [if_pos q]
      cases c : planFor (wins b) b.bakingTime (Sr98.hours b) (SrCommon.maskMembers b.doughs.length k) with
      | none =>
        rw [c] at pe
        rw [← pe, if_neg (by simp)]
        exact ⟨rfl, h2⟩
      | some x =>
        rw [c] at pe
        rw [← pe, if_pos ⟨q, rfl⟩]
        exact ⟨rfl, rfl⟩
    · rw [if_neg q, if_neg (fun z => q z.1)]
      exact ⟨rfl, h2⟩
theorem largest_eq (b : Sr98.Bakery) : (mostTo (wins b) b.bakingTime (Sr98.hours b) (2 ^ b.doughs.length)).1 = Sr98.largestSet b ∧
    (Sr98.plan b (Sr98.largestSet b)).getD [] = (mostTo (wins b) b.bakingTime (Sr98.hours b) (2 ^ b.doughs.length)).2.2.1 := by
  obtain ⟨h1, h2⟩ := most_eq b (2 ^ b.doughs.length)
  have e : (mostTo (wins b) b.bakingTime (Sr98.hours b) (2 ^ b.doughs.length)).1 = Sr98.largestSet b := h1
  refine ⟨e, ?_⟩
  rw [← e, h2]
  rfl
end Bk
/-! ## The order by the earliest deadlines is the specification's -/
namespace Bk
open PySem
def keyOf (b : Sr98.Bakery) (i : Nat) : Nat := (Sr98.windowOrLate b i).2
def sStep (key : Nat → Nat) (best : Option Nat) (i : Nat) : Option Nat := match best with
  | none => some i
  | some j => if key i < key j then some i else some j
def begunAt (b : Sr98.Bakery) (left : List Nat) (t : Nat) : List Nat := left.filter fun i => decide ((Sr98.windowOrLate b i).1 ≤ t)
theorem late_none {b : Sr98.Bakery} {i : Nat} (h : Sr98.window b (Sr98.doughAt b i) = none) : Sr98.windowOrLate b i = (10000, 10000) := by
  unfold Sr98.windowOrLate
  rw [h]
  rfl
theorem late_some {b : Sr98.Bakery} {i : Nat} {x : Nat × Nat} (h : Sr98.window b (Sr98.doughAt b i) = some x) : Sr98.windowOrLate b i = x := by
  unfold Sr98.windowOrLate
  rw [h]
  rfl
/-- a window begins within the hours -/
theorem window_le {b : Sr98.Bakery} {d : Sr98.Dough} {x : Nat × Nat} (h : Sr98.window b d = some x) : x.1 ≤ Sr98.hours b := by
  unfold Sr98.window at h
  cases c : (List.range (Sr98.hours b + 1)).find? (Sr98.canBakeAt b d) with
  | none =>
    rw [c] at h
    cases h
  | some a =>
    rw [c] at h
    cases h
    have hm := List.mem_range.mp (List.mem_of_find?_eq_some c)
    show a ≤ _
    omega
theorem nb_filter (b : Sr98.Bakery) {t : Nat} (ht : t < 10000) : ∀ (left : List Nat) (best : Option Nat), (∀ i ∈ left, i < b.doughs.length) → (∀ j, best = some j → j < b.doughs.length ∧ (winAt (wins b) j).isSome = true) →
    left.foldl (nbStep (wins b) t) best = (begunAt b left t).foldl (sStep (keyOf b)) best
  | [], _, _, _ => rfl
  | i :: r, best, hl, hb => by
    have hi := hl i (List.mem_cons_self ..)
    have hr : ∀ k ∈ r, k < b.doughs.length := fun k hk => hl k (List.mem_cons_of_mem _ hk)
    have hw := winAt_wins hi
    unfold begunAt
    rw [List.foldl_cons, List.filter_cons]
    cases c : Sr98.window b (Sr98.doughAt b i) with
    | none =>
      rw [c] at hw
      rw [nbStep_none hw, late_none c, if_neg (by simp; omega)]
      exact nb_filter b ht r best hr hb
    | some x =>
      rw [c] at hw
      rw [nbStep_some hw, late_some c]
      by_cases q : x.1 ≤ t
      · rw [if_pos q, if_pos (by simpa using q), List.foldl_cons]
        have e : nbPick (wins b) i x.2 best = sStep (keyOf b) best i := by
          cases best with
          | none => rfl
          | some j =>
            obtain ⟨hj, hj2⟩ := hb j rfl
            show (if x.2 < ((winAt (wins b) j).getD (0, 0)).2 then some i else some j) = if keyOf b i < keyOf b j then some i else some j
            have ei : keyOf b i = x.2 := by
              unfold keyOf
              rw [late_some c]
            have ej : ((winAt (wins b) j).getD (0, 0)).2 = keyOf b j := by
              rw [winAt_wins hj] at hj2 ⊢
              unfold keyOf
              cases cj : Sr98.window b (Sr98.doughAt b j) with
              | none =>
                rw [cj] at hj2
                cases hj2
              | some y =>
                rw [late_some cj]
                rfl
            rw [ei, ej]
        rw [e]
        refine nb_filter b ht r _ hr fun j hj => ?_
        rw [← e] at hj
        rcases nbPick_is (wins b) i x.2 best with h | ⟨_, h⟩
        · rw [h] at hj
          cases hj
          exact ⟨hi, by rw [hw]; rfl⟩
        · rw [h] at hj
          exact hb j hj
      · rw [if_neg q, if_neg (by simpa using q)]
        exact nb_filter b ht r best hr hb
theorem sStep_some (key : Nat → Nat) : ∀ (l : List Nat) (j : Nat), ∃ i, l.foldl (sStep key) (some j) = some i
  | [], j => ⟨j, rfl⟩
  | a :: r, j => by
    rw [List.foldl_cons]
    show ∃ i, r.foldl (sStep key) (if key a < key j then some a else some j) = some i
    split
    · exact sStep_some key r a
    · exact sStep_some key r j
theorem small_is (key : Nat → Nat) {l : List Nat} (h : l ≠ []) : l.foldl (sStep key) none = some (Sr98.smallestBy key l) := by
  cases l with
  | nil => exact absurd rfl h
  | cons a r =>
    obtain ⟨i, hi⟩ := sStep_some key r a
    have e : (a :: r).foldl (sStep key) none = some i := hi
    have e2 : Sr98.smallestBy key (a :: r) = ((a :: r).foldl (sStep key) none).getD 0 := rfl
    rw [e2, e]
    rfl
theorem next_begun (b : Sr98.Bakery) {left : List Nat} {t : Nat} (ht : t < 10000) (hl : ∀ i ∈ left, i < b.doughs.length) (h : begunAt b left t ≠ []) : nextBegun (wins b) left t = some (Sr98.smallestBy (keyOf b) (begunAt b left t)) := by
  unfold nextBegun
  rw [nb_filter b ht left none hl (fun j hj => by cases hj), small_is _ h]
theorem next_none (b : Sr98.Bakery) {left : List Nat} {t : Nat} (ht : t < 10000) (hl : ∀ i ∈ left, i < b.doughs.length) (h : begunAt b left t = []) : nextBegun (wins b) left t = none := by
  unfold nextBegun
  rw [nb_filter b ht left none hl (fun j hj => by cases hj), h]
  rfl
theorem min_spec : ∀ (L : List Nat) (a : Nat), (L.foldl min a = a ∨ L.foldl min a ∈ L) ∧ L.foldl min a ≤ a ∧ ∀ x ∈ L, L.foldl min a ≤ x
  | [], a => ⟨.inl rfl, Nat.le_refl _, fun x h => absurd h (by simp)⟩
  | y :: r, a => by
    obtain ⟨h1, h2, h3⟩ := min_spec r (min a y)
    rw [List.foldl_cons]
    refine ⟨?_, by omega, fun x hx => ?_⟩
    · rcases h1 with h1 | h1
      · by_cases q : a ≤ y
        · exact .inl (by omega)
        · exact .inr (List.mem_cons.mpr (.inl (by omega)))
      · exact .inr (List.mem_cons_of_mem _ h1)
    · rcases List.mem_cons.mp hx with e | hx
      · rw [e]
        omega
      · exact h3 x hx
/-- the time to which the specification goes on -/
def nextTime (b : Sr98.Bakery) (left : List Nat) : Nat := (left.map fun i => (Sr98.windowOrLate b i).1).foldl min 10000
theorem begin_of {b : Sr98.Bakery} {left : List Nat} (hl : ∀ i ∈ left, i < b.doughs.length) {m : Nat} (h : m ∈ begins (wins b) left) : ∃ i ∈ left, ∃ x, Sr98.window b (Sr98.doughAt b i) = some x ∧ x.1 = m := by
  obtain ⟨i, hi, e⟩ := List.mem_map.mp h
  obtain ⟨h1, h2⟩ := List.mem_filter.mp hi
  rw [winAt_wins (hl i h1)] at h2 e
  cases c : Sr98.window b (Sr98.doughAt b i) with
  | none =>
    rw [c] at h2
    cases h2
  | some x =>
    rw [c] at e
    exact ⟨i, h1, x, c, e⟩
theorem begin_in {b : Sr98.Bakery} {left : List Nat} (hl : ∀ i ∈ left, i < b.doughs.length) {i : Nat} (hi : i ∈ left) {x : Nat × Nat} (c : Sr98.window b (Sr98.doughAt b i) = some x) : x.1 ∈ begins (wins b) left := by
  have hw := winAt_wins (hl i hi)
  rw [c] at hw
  refine List.mem_map.mpr ⟨i, List.mem_filter.mpr ⟨hi, by rw [hw]; rfl⟩, ?_⟩
  rw [hw]
  rfl
theorem nextTime_some {b : Sr98.Bakery} {left : List Nat} (hh : Sr98.hours b ≤ 36) (hl : ∀ i ∈ left, i < b.doughs.length) {m : Nat} (h : (begins (wins b) left).min? = some m) : nextTime b left = m ∧ m ≤ 36 := by
  obtain ⟨hm, hle⟩ := List.min?_eq_some_iff.mp h
  obtain ⟨i, hi, x, c, e⟩ := begin_of hl hm
  have hm36 : m ≤ 36 := by
    have q := window_le c
    omega
  obtain ⟨h1, h2, h3⟩ := min_spec (left.map fun i => (Sr98.windowOrLate b i).1) 10000
  have up : nextTime b left ≤ m := by
    refine h3 m (List.mem_map.mpr ⟨i, hi, ?_⟩)
    show (Sr98.windowOrLate b i).1 = m
    rw [late_some c]
    exact e
  refine ⟨Nat.le_antisymm up ?_, hm36⟩
  rcases h1 with h1 | h1
  · have h1 : nextTime b left = 10000 := h1
    omega
  · obtain ⟨j, hj, ej⟩ := List.mem_map.mp h1
    have ej : (Sr98.windowOrLate b j).1 = nextTime b left := ej
    cases cj : Sr98.window b (Sr98.doughAt b j) with
    | none =>
      rw [late_none cj] at ej
      have ej : 10000 = nextTime b left := ej
      omega
    | some y =>
      rw [late_some cj] at ej
      rw [← ej]
      exact hle _ (begin_in hl hj cj)
theorem nextTime_none {b : Sr98.Bakery} {left : List Nat} (h : ∀ i ∈ left, Sr98.window b (Sr98.doughAt b i) = none) : nextTime b left = 10000 := by
  obtain ⟨h1, _, _⟩ := min_spec (left.map fun i => (Sr98.windowOrLate b i).1) 10000
  rcases h1 with h1 | h1
  · exact h1
  · obtain ⟨j, hj, ej⟩ := List.mem_map.mp h1
    rw [late_none (h j hj)] at ej
    exact ej.symm
/-! ### one step of the specification -/
theorem ed_nil (b : Sr98.Bakery) (s t : Nat) : Sr98.earliestDeadlineFrom b s [] t = [] := by
  cases s <;> rfl
theorem ed_jump (b : Sr98.Bakery) {left : List Nat} {s t : Nat} (hn : left ≠ []) (h : begunAt b left t = []) : Sr98.earliestDeadlineFrom b (s + 1) left t = Sr98.earliestDeadlineFrom b s left (nextTime b left) := by
  show (if left = [] then [] else if begunAt b left t = [] then Sr98.earliestDeadlineFrom b s left (nextTime b left) else _) = _
  rw [if_neg hn, if_pos h]
theorem ed_take (b : Sr98.Bakery) {left : List Nat} {s t : Nat} (hn : left ≠ []) (h : begunAt b left t ≠ []) : Sr98.earliestDeadlineFrom b (s + 1) left t =
    Sr98.smallestBy (keyOf b) (begunAt b left t) :: Sr98.earliestDeadlineFrom b s (left.filter fun j => j != Sr98.smallestBy (keyOf b) (begunAt b left t)) (t + b.bakingTime) := by
  show (if left = [] then [] else if begunAt b left t = [] then _ else Sr98.smallestBy (keyOf b) (begunAt b left t) :: Sr98.earliestDeadlineFrom b s (left.filter fun j => j != Sr98.smallestBy (keyOf b) (begunAt b left t)) (t + b.bakingTime)) = _
  rw [if_neg hn, if_neg h]
theorem small_const (key : Nat → Nat) (i : Nat) : ∀ (r : List Nat), (∀ j ∈ r, key j = key i) → r.foldl (sStep key) (some i) = some i
  | [], _ => rfl
  | a :: r, h => by
    rw [List.foldl_cons]
    show r.foldl (sStep key) (if key a < key i then some a else some i) = some i
    rw [if_neg (by rw [h a (List.mem_cons_self ..)]; omega)]
    exact small_const key i r fun j hj => h j (List.mem_cons_of_mem _ hj)
theorem filter_tail {i : Nat} {r : List Nat} (nd : (i :: r).Nodup) : ((i :: r).filter fun j => j != i) = r := by
  rw [List.nodup_cons] at nd
  rw [List.filter_cons, if_neg (by simp)]
  exact List.filter_eq_self.mpr fun x hx => by
    have hne : x ≠ i := fun z => nd.1 (by rw [← z]; exact hx)
    simpa [bne] using hne
/-- those without a window come by their numbers -/
theorem ed_late (b : Sr98.Bakery) : ∀ (left : List Nat) (s T : Nat), left.Nodup → (∀ i ∈ left, Sr98.window b (Sr98.doughAt b i) = none) → 10000 ≤ T → left.length ≤ s → Sr98.earliestDeadlineFrom b s left T = left
  | [], s, T, _, _, _, _ => ed_nil b s T
  | i :: r, 0, T, _, _, _, h => by simp at h
  | i :: r, s + 1, T, nd, hw, hT, hs => by
    have hb : begunAt b (i :: r) T = i :: r := List.filter_eq_self.mpr fun x hx => by
      rw [late_none (hw x hx)]
      simpa using hT
    have hsm : Sr98.smallestBy (keyOf b) (i :: r) = i := by
      have e : some (Sr98.smallestBy (keyOf b) (i :: r)) = some i := by
        rw [← small_is (keyOf b) (List.cons_ne_nil i r)]
        refine small_const (keyOf b) i r fun j hj => ?_
        unfold keyOf
        rw [late_none (hw j (List.mem_cons_of_mem _ hj)), late_none (hw i (List.mem_cons_self ..))]
      exact Option.some.inj e
    rw [ed_take b (List.cons_ne_nil i r) (by rw [hb]; exact List.cons_ne_nil i r), hb, hsm, filter_tail nd]
    rw [List.length_cons] at hs
    rw [ed_late b r s (T + b.bakingTime) (List.nodup_cons.mp nd).2 (fun j hj => hw j (List.mem_cons_of_mem _ hj)) (by omega) (by omega)]
theorem dl_eq (b : Sr98.Bakery) (hh : Sr98.hours b ≤ 36) (hp : b.bakingTime ≤ 9) : ∀ (k : Nat) (left order : List Nat) (t s : Nat), left.length = k → left.Nodup → (∀ i ∈ left, i < b.doughs.length) → 2 * k ≤ s → t + 9 * k ≤ 9000 → k ≤ 100 →
    dlGo (wins b) b.bakingTime k left order t = order ++ Sr98.earliestDeadlineFrom b s left t
  | 0, left, order, t, s, hk, _, _, _, _, _ => by
    have e : left = [] := List.length_eq_zero_iff.mp hk
    subst e
    rw [ed_nil, List.append_nil]
    rfl
  | k + 1, left, order, t, s, hk, nd, hl, hs, ht, hk1 => by
    have hn : left ≠ [] := fun z => by rw [z] at hk; simp at hk
    -- a dough is taken at the time m
    have take : ∀ (m s' : Nat), m ≤ 9000 → (m + 9 * (k + 1) ≤ 9000) → 2 * k ≤ s' → begunAt b left m ≠ [] → ∃ i, nextBegun (wins b) left m = some i ∧
        dlGo (wins b) b.bakingTime k (left.filter fun j => !decide (j = i)) (order ++ [i]) (m + b.bakingTime) = order ++ Sr98.earliestDeadlineFrom b (s' + 1) left m := fun m s' hm hm2 hs' hbg => by
      have hnb := next_begun b (by omega) hl hbg
      refine ⟨_, hnb, ?_⟩
      rw [ed_take b hn hbg]
      generalize Sr98.smallestBy (keyOf b) (begunAt b left m) = i at hnb
      have hi : i ∈ left := (nb_mem (wins b) m left none i hnb).elim (fun z => by cases z) id
      have hlen := filter_len nd hi
      have ef : (left.filter fun j => !decide (j = i)) = left.filter fun j => j != i := rfl
      rw [ef, dl_eq b hh hp k (left.filter fun j => j != i) (order ++ [i]) (m + b.bakingTime) s' (by omega) (List.Pairwise.filter _ nd) (fun j hj => hl j (List.mem_filter.mp hj).1) hs' (by omega) (by omega)]
      rw [List.append_assoc]
      rfl
    obtain ⟨s', rfl⟩ : ∃ s', s = s' + 2 := ⟨s - 2, by omega⟩
    show (match timeOfNext (wins b) left t with
      | none => order ++ left
      | some m => match nextBegun (wins b) left m with
        | none => order
        | some i => dlGo (wins b) b.bakingTime k (left.filter fun j => !decide (j = i)) (order ++ [i]) (m + b.bakingTime)) = _
    by_cases hbg : begunAt b left t = []
    · have hnn := next_none b (by omega) hl hbg
      have etn : timeOfNext (wins b) left t = (begins (wins b) left).min? := by
        unfold timeOfNext
        rw [hnn]
      rw [etn, ed_jump b hn hbg]
      cases c : (begins (wins b) left).min? with
      | none =>
        have hemp : begins (wins b) left = [] := List.min?_eq_none_iff.mp c
        have hno : ∀ i ∈ left, Sr98.window b (Sr98.doughAt b i) = none := fun i hi => by
          cases cw : Sr98.window b (Sr98.doughAt b i) with
          | none => rfl
          | some x =>
            have q := begin_in hl hi cw
            rw [hemp] at q
            cases q
        rw [nextTime_none hno, ed_late b left (s' + 1) 10000 nd hno (Nat.le_refl _) (by omega)]
      | some m =>
        obtain ⟨e1, e2⟩ := nextTime_some hh hl c
        rw [e1]
        obtain ⟨i, hi, x, cw, ex⟩ := begin_of hl (List.min?_mem c)
        have hb2 : begunAt b left m ≠ [] := fun z => by
          have q : i ∈ begunAt b left m := List.mem_filter.mpr ⟨hi, by rw [late_some cw, ex]; simp⟩
          rw [z] at q
          cases q
        obtain ⟨j, hj, ej⟩ := take m s' (by omega) (by omega) (by omega) hb2
        show (match nextBegun (wins b) left m with
          | none => order
          | some i => dlGo (wins b) b.bakingTime k (left.filter fun j => !decide (j = i)) (order ++ [i]) (m + b.bakingTime)) = _
        rw [hj]
        exact ej
    · obtain ⟨j, hj, ej⟩ := take t (s' + 1) (by omega) ht (by omega) hbg
      have etn : timeOfNext (wins b) left t = some t := by
        unfold timeOfNext
        rw [hj]
      rw [etn]
      show (match nextBegun (wins b) left t with
        | none => order
        | some i => dlGo (wins b) b.bakingTime k (left.filter fun j => !decide (j = i)) (order ++ [i]) (t + b.bakingTime)) = _
      rw [hj]
      exact ej
theorem deadline_eq {b : Sr98.Bakery} (hw : WF b) : dlGo (wins b) b.bakingTime (wins b).length (List.range (wins b).length) [] 0 = Sr98.earliestDeadline b := by
  have hn := hw.n
  rw [wins_len]
  exact dl_eq b hw.h2 hw.p2 b.doughs.length (List.range b.doughs.length) [] 0 (2 * b.doughs.length + 1) List.length_range List.nodup_range (fun i hi => List.mem_range.mp hi) (by omega) (by omega) (by omega)
end Bk
/-! ## Plain facts for the questions -/
namespace Bk
open PySem
theorem dl_mem (ws : List Win) (p : Nat) : ∀ (n : Nat) (left order : List Nat) (t : Nat) (i : Nat), i ∈ dlGo ws p n left order t → i ∈ order ∨ i ∈ left
  | 0, left, order, t, i, h => .inl h
  | n + 1, left, order, t, i, h => by
    unfold dlGo at h
    cases c : timeOfNext ws left t with
    | none =>
      rw [c] at h
      exact List.mem_append.mp h
    | some m =>
      rw [c] at h
      cases c2 : nextBegun ws left m with
      | none =>
        simp only [c2] at h
        exact .inl h
      | some j =>
        simp only [c2] at h
        rcases dl_mem ws p n _ _ _ i h with q | q
        · rcases List.mem_append.mp q with q | q
          · exact .inl q
          · rw [List.mem_singleton.mp q]
            exact .inr ((nb_mem ws m left none j c2).elim (fun z => by cases z) id)
        · exact .inr (List.mem_filter.mp q).1
theorem dl_len (ws : List Win) (p : Nat) : ∀ (n : Nat) (left order : List Nat) (t : Nat), (dlGo ws p n left order t).length ≤ order.length + left.length + n
  | 0, left, order, t => by
    show order.length ≤ _
    omega
  | n + 1, left, order, t => by
    unfold dlGo
    cases c : timeOfNext ws left t with
    | none =>
      show (order ++ left).length ≤ _
      rw [List.length_append]
      omega
    | some m =>
      cases c2 : nextBegun ws left m with
      | none =>
        simp only [c2]
        omega
      | some j =>
        simp only [c2]
        have h := dl_len ws p n (left.filter fun k => !decide (k = j)) (order ++ [j]) (m + p)
        have h2 := List.length_filter_le (fun k => !decide (k = j)) left
        rw [List.length_append, List.length_singleton] at h
        omega
theorem most_plan_len {ws : List Win} {p h : Nat} (hz : ws.length ≤ 6) : ∀ k, (mostTo ws p h k).2.2.1.length ≤ 6
  | 0 => Nat.zero_le _
  | k + 1 => by
    have em : mostTo ws p h (k + 1) = mostStep ws p h (mostTo ws p h k) k := by
      unfold mostTo
      rw [List.range_succ, List.foldl_append]
      rfl
    have ih := most_plan_len (p := p) (h := h) hz k
    rw [em]
    unfold mostStep
    split
    · cases c : planFor ws p h (SrCommon.maskMembers ws.length k) with
      | none => exact ih
      | some x =>
        show x.2.1.length ≤ 6
        rw [(ordersK_mem _ _ _ (plan_mem c)).1]
        refine Nat.le_trans ?_ hz
        unfold SrCommon.maskMembers
        have q := List.length_filter_le (fun i => k / 2 ^ i % 2 == 1) (List.range ws.length)
        rw [List.length_range] at q
        exact q
    · exact ih
theorem res_code (n : Int) : res (.ofCode n) = [n] := rfl
theorem n2i (l : List Nat) : SrCommon.natsToInts l = l.map fun (n : Nat) => (n : Int) := rfl
end Bk
/-! ## Plain facts: calls, one behind another -/
namespace Bk
open PySem
/-- the step of a change -/
def done (b : Sr98.Bakery) (c : Sr98.Call) : Sr98.Bakery := (Sr98.perform b c).1.getD b
def told (b : Sr98.Bakery) (c : Sr98.Call) : List Int := res (Sr98.perform b c).2
inductive Chg : Int → List Int → Sr98.Call → Prop
  | c1 (a b : Int) : Chg 1 [a, b] (.setTemperature a b)
  | c2 (a b c : Int) : Chg 2 [a, b, c] (.setTemperatures a b c)
  | c3 (a b c : Int) : Chg 3 [a, b, c] (.addDough a b c)
  | c4 (a : Int) : Chg 4 [a] (.removeDough a)
  | c5 (a b c : Int) : Chg 5 [a, b, c] (.cool a b c)
  | c6 (a : Int) : Chg 6 [a] (.stopCooling a)
  | c7 (a : Int) : Chg 7 [a] (.setBakingTime a)
inductive Ask : Int → List Int → List Int → Sr98.Call → Prop
  | c8 (a : Int) : Ask 8 [a] [] (.window a)
  | c9 (a b : Int) : Ask 9 [a, b] [] (.risen a b)
  | c10 (o : List Int) (h : o.length ≤ 70) : Ask 10 [] o (.startTimes o)
  | c11 : Ask 11 [] [] .plan
  | c12 : Ask 12 [] [] .mostDoughs
  | c13 : Ask 13 [] [] .earliestDeadline
  | c14 (a : Int) : Ask 14 [a] [] (.canBake a)
  | c15 (a b c : Int) : Ask 15 [a, b, c] [] (.planIfCooled a b c)
  | c16 : Ask 16 [] [] .describe
inductive CallIs : Int → List Int → List Int → Sr98.Call → Prop
  | c0 (a b : Int) : CallIs 0 [a, b] [] (.create a b)
  | chg {p : Int} {a : List Int} {c : Sr98.Call} (h : Chg p a c) : CallIs p a [] c
  | ask {p : Int} {a o : List Int} {c : Sr98.Call} (h : Ask p a o c) : CallIs p a o c
/-- how many whole numbers each call has -/
def numsOf : List Nat := [2, 2, 3, 3, 1, 3, 1, 1, 1, 2, 0, 0, 0, 0, 1, 3, 0]
theorem ask_done {p : Int} {a o : List Int} {c : Sr98.Call} (h : Ask p a o c) (b : Sr98.Bakery) : (Sr98.perform b c).1 = none := by
  cases h <;> rfl
theorem step_some {p : Int} {a o : List Int} {c : Sr98.Call} (h : Chg p a c ∨ Ask p a o c) (b : Sr98.Bakery) : Sr98.step (some b) c = (some (done b c), (Sr98.perform b c).2) := by
  have e : Sr98.step (some b) c = match Sr98.perform b c with
      | (some t, r) => (some t, r)
      | (none, r) => (some b, r) := by
    rcases h with h | h <;> cases h <;> rfl
  rw [e]
  unfold done
  cases Sr98.perform b c with
  | mk x r => cases x <;> rfl
theorem step_none {p : Int} {a o : List Int} {c : Sr98.Call} (h : Chg p a c ∨ Ask p a o c) : Sr98.step none c = (none, .ofCode (-11)) := by
  rcases h with h | h <;> cases h <;> rfl
theorem WF.put {b : Sr98.Bakery} (hw : WF b) {j : Nat} {d : Sr98.Dough} (h1 : d.mixedAt < Sr98.hours b) (h2 : d.cooled < 2 ^ Sr98.hours b) : WF (Sr98.setDough b j d) := by
  refine ⟨hw.h1, hw.h2, hw.p1, hw.p2, ?_, fun x hx => ?_⟩
  · show (b.doughs.set j d).length ≤ 6
    rw [List.length_set]
    exact hw.n
  · have hx : x ∈ b.doughs.set j d := hx
    have eh : Sr98.hours (Sr98.setDough b j d) = Sr98.hours b := rfl
    rw [eh]
    rcases List.mem_or_eq_of_mem_set hx with q | q
    · exact hw.d x q
    · rw [q]
      exact ⟨h1, h2⟩
theorem WF.temps {b : Sr98.Bakery} (hw : WF b) {ts : List Nat} (h : ts.length = b.temperatures.length) : WF { b with temperatures := ts } := by
  have eh : Sr98.hours { b with temperatures := ts } = Sr98.hours b := h
  exact ⟨by rw [eh]; exact hw.h1, by rw [eh]; exact hw.h2, hw.p1, hw.p2, hw.n, fun d hd => by rw [eh]; exact hw.d d hd⟩
theorem dough_mem {b : Sr98.Bakery} {j : Nat} (h : j < b.doughs.length) : Sr98.doughAt b j ∈ b.doughs := by
  unfold Sr98.doughAt
  rw [List.getD_eq_getElem?_getD, List.getElem?_eq_getElem h]
  exact List.getElem_mem h
theorem chg_wf {p : Int} {a : List Int} {c : Sr98.Call} (h : Chg p a c) {b : Sr98.Bakery} (hw : WF b) : WF (done b c) := by
  unfold done
  cases h with
  | c1 t x =>
    simp only [Sr98.perform]
    by_cases q : Sr98.isHour b t = false
    · rw [if_pos q]
      exact hw
    · rw [if_neg q]
      by_cases q2 : Sr98.isTemperature x = false
      · rw [if_pos q2]
        exact hw
      · rw [if_neg q2]
        exact hw.temps (List.length_set ..)
  | c2 s t x =>
    simp only [Sr98.perform]
    split
    · exact hw
    · exact hw.temps (by simp)
  | c3 t lo hi =>
    simp only [Sr98.perform]
    by_cases q : Sr98.isHour b t = false ∨ lo < 1 ∨ hi < lo ∨ 999 < hi
    · rw [if_pos q]
      exact hw
    · rw [if_neg q]
      by_cases q2 : Sr98.maxDoughs ≤ b.doughs.length
      · rw [if_pos q2]
        exact hw
      · rw [if_neg q2]
        have hm : Sr98.maxDoughs = 6 := rfl
        have ht : Sr98.isHour b t = true := by
          cases z : Sr98.isHour b t with
          | true => rfl
          | false => exact absurd (.inl z) q
        obtain ⟨j, rfl, hj⟩ := hour_nat ht
        refine ⟨hw.h1, hw.h2, hw.p1, hw.p2, ?_, fun d hd => ?_⟩
        · show (b.doughs ++ [_]).length ≤ 6
          rw [List.length_append, List.length_singleton]
          omega
        · have hd : d ∈ b.doughs ++ [⟨(j : Int).toNat, lo.toNat, hi.toNat, 0⟩] := hd
          rcases List.mem_append.mp hd with z | z
          · exact hw.d d z
          · rw [List.mem_singleton.mp z]
            exact ⟨hj, Nat.two_pow_pos _⟩
  | c4 i =>
    simp only [Sr98.perform]
    split
    · exact hw
    · refine ⟨hw.h1, hw.h2, hw.p1, hw.p2, ?_, fun d hd => hw.d d (List.mem_of_mem_eraseIdx hd)⟩
      show (b.doughs.eraseIdx _).length ≤ 6
      have q := List.length_eraseIdx_le b.doughs i.toNat
      have q2 := hw.n
      omega
  | c5 i s t =>
    simp only [Sr98.perform]
    by_cases q : Sr98.isDough b i = false
    · rw [if_pos q]
      exact hw
    · rw [if_neg q]
      by_cases q2 : Sr98.isInterval b s t = false
      · rw [if_pos q2]
        exact hw
      · rw [if_neg q2]
        have hi : Sr98.isDough b i = true := by simpa using q
        have hs : Sr98.isInterval b s t = true := by simpa using q2
        obtain ⟨j, rfl, hj⟩ := dough_nat hi
        obtain ⟨s, t, rfl, rfl, h1, h2⟩ := interval_nat hs
        have wd := hw.d _ (dough_mem hj)
        exact hw.put (j := j) (d := Sr98.withCooling (Sr98.doughAt b j) s t) wd.1 (with_lt wd.2 (by omega) h2)
  | c6 i =>
    simp only [Sr98.perform]
    by_cases q : Sr98.isDough b i = false
    · rw [if_pos q]
      exact hw
    · rw [if_neg q]
      have hi : Sr98.isDough b i = true := by simpa using q
      obtain ⟨j, rfl, hj⟩ := dough_nat hi
      split
      · exact hw
      · exact hw.put (j := j) (d := { Sr98.doughAt b j with cooled := 0 }) (hw.d _ (dough_mem hj)).1 (Nat.two_pow_pos _)
  | c7 p =>
    simp only [Sr98.perform]
    by_cases q : SrCommon.inRange p 1 9 = false
    · rw [if_pos q]
      exact hw
    · rw [if_neg q]
      have hi : SrCommon.inRange p 1 9 = true := by simpa using q
      obtain ⟨j, rfl, h1, h2⟩ := bake_nat hi
      exact ⟨hw.h1, hw.h2, h1, h2, hw.n, hw.d⟩
theorem create_wf {h p : Nat} (h1 : 1 ≤ h) (h2 : h ≤ 36) (h3 : 1 ≤ p) (h4 : p ≤ 9) : WF ⟨List.replicate h 24, [], p⟩ := by
  have eh : Sr98.hours ⟨List.replicate h 24, [], p⟩ = h := List.length_replicate
  exact ⟨by rw [eh]; exact h1, by rw [eh]; exact h2, h3, h4, Nat.zero_le _, fun d hd => absurd hd (by simp)⟩
/-! ### the request -/
theorem shape_cases {p : Int} {n k : Nat} (h : PySr98.shape p = some (n, k)) : (p = 0 ∧ n = 2 ∧ k = 0) ∨ (p = 1 ∧ n = 2 ∧ k = 0) ∨ (p = 2 ∧ n = 3 ∧ k = 0) ∨ (p = 3 ∧ n = 3 ∧ k = 0) ∨ (p = 4 ∧ n = 1 ∧ k = 0) ∨ (p = 5 ∧ n = 3 ∧ k = 0) ∨ (p = 6 ∧ n = 1 ∧ k = 0) ∨ (p = 7 ∧ n = 1 ∧ k = 0) ∨
    (p = 8 ∧ n = 1 ∧ k = 0) ∨ (p = 9 ∧ n = 2 ∧ k = 0) ∨ (p = 10 ∧ n = 0 ∧ k = 1) ∨ (p = 11 ∧ n = 0 ∧ k = 0) ∨ (p = 12 ∧ n = 0 ∧ k = 0) ∨ (p = 13 ∧ n = 0 ∧ k = 0) ∨ (p = 14 ∧ n = 1 ∧ k = 0) ∨ (p = 15 ∧ n = 3 ∧ k = 0) ∨ (p = 16 ∧ n = 0 ∧ k = 0) := by
  unfold PySr98.shape at h
  by_cases q0 : p = 0
  · rw [if_pos q0] at h
    cases h
    subst q0
    simp
  rw [if_neg q0] at h
  by_cases q1 : p = 1
  · rw [if_pos q1] at h
    cases h
    subst q1
    simp
  rw [if_neg q1] at h
  by_cases q2 : p = 2
  · rw [if_pos q2] at h
    cases h
    subst q2
    simp
  rw [if_neg q2] at h
  by_cases q3 : p = 3
  · rw [if_pos q3] at h
    cases h
    subst q3
    simp
  rw [if_neg q3] at h
  by_cases q4 : p = 4
  · rw [if_pos q4] at h
    cases h
    subst q4
    simp
  rw [if_neg q4] at h
  by_cases q5 : p = 5
  · rw [if_pos q5] at h
    cases h
    subst q5
    simp
  rw [if_neg q5] at h
  by_cases q6 : p = 6
  · rw [if_pos q6] at h
    cases h
    subst q6
    simp
  rw [if_neg q6] at h
  by_cases q7 : p = 7
  · rw [if_pos q7] at h
    cases h
    subst q7
    simp
  rw [if_neg q7] at h
  by_cases q8 : p = 8
  · rw [if_pos q8] at h
    cases h
    subst q8
    simp
  rw [if_neg q8] at h
  by_cases q9 : p = 9
  · rw [if_pos q9] at h
    cases h
    subst q9
    simp
  rw [if_neg q9] at h
  by_cases q10 : p = 10
  · rw [if_pos q10] at h
    cases h
    subst q10
    simp
  rw [if_neg q10] at h
  by_cases q11 : p = 11
  · rw [if_pos q11] at h
    cases h
    subst q11
    simp
  rw [if_neg q11] at h
  by_cases q12 : p = 12
  · rw [if_pos q12] at h
    cases h
    subst q12
    simp
  rw [if_neg q12] at h
  by_cases q13 : p = 13
  · rw [if_pos q13] at h
    cases h
    subst q13
    simp
  rw [if_neg q13] at h
  by_cases q14 : p = 14
  · rw [if_pos q14] at h
    cases h
    subst q14
    simp
  rw [if_neg q14] at h
  by_cases q15 : p = 15
  · rw [if_pos q15] at h
    cases h
    subst q15
    simp
  rw [if_neg q15] at h
  by_cases q16 : p = 16
  · rw [if_pos q16] at h
    cases h
    subst q16
    simp
  rw [if_neg q16] at h
  cases h
theorem len0 {l : List Int} (h : l.length = 0) : l = [] := List.length_eq_zero_iff.mp h
theorem len1 : ∀ {l : List Int}, l.length = 1 → ∃ a, l = [a]
  | [a], _ => ⟨a, rfl⟩
  | [], h => by simp at h
  | _ :: _ :: _, h => by simp at h
theorem len2 : ∀ {l : List Int}, l.length = 2 → ∃ a b, l = [a, b]
  | [a, b], _ => ⟨a, b, rfl⟩
  | [], h => by simp at h
  | [_], h => by simp at h
  | _ :: _ :: _ :: _, h => by simp at h
theorem len3 : ∀ {l : List Int}, l.length = 3 → ∃ a b c, l = [a, b, c]
  | [a, b, c], _ => ⟨a, b, c, rfl⟩
  | [], h => by simp at h
  | [_], h => by simp at h
  | [_, _], h => by simp at h
  | _ :: _ :: _ :: _ :: _, h => by simp at h
theorem rows0 {l : List (List Int)} (h : l.length = 0) : l = [] := List.length_eq_zero_iff.mp h
theorem rows1 : ∀ {l : List (List Int)}, l.length = 1 → ∃ a, l = [a]
  | [a], _ => ⟨a, rfl⟩
  | [], h => by simp at h
  | _ :: _ :: _, h => by simp at h
/-- a call of the flat list: its place, its numbers, its list; how it stands there -/
structure RawCall (c : List (List Int)) (p : Int) (nums order : List Int) (call : Sr98.Call) : Prop where
  is : CallIs p nums order call
  parse : Sr98Neutral.parseCall (PySr98.whole c) = some call
  num : ∃ k : Nat, p = (k : Int) ∧ numsOf[k]? = some nums.length
  flat : (p ≠ 10 ∧ order = [] ∧ PyFlat.put1 c = p :: nums) ∨ (p = 10 ∧ nums = [] ∧ PyFlat.put1 c = 10 :: (order.length : Int) :: order)
theorem put_plain {p : Int} {a : List Int} : PyFlat.put1 [p :: a] = p :: a := by
  show (p :: a) ++ [] = p :: a
  rw [List.append_nil]
theorem raw_call {c : List (List Int)} (h : PyFlat.okCall PySr98.shape c) (hb : PyInside.call PySr98.bound c = true) : ∃ p nums order call, RawCall c p nums order call := by
  obtain ⟨p, a, xs, rfl, hs⟩ := h
  rcases shape_cases hs with ⟨rfl, h1, h2⟩ | ⟨rfl, h1, h2⟩ | ⟨rfl, h1, h2⟩ | ⟨rfl, h1, h2⟩ | ⟨rfl, h1, h2⟩ | ⟨rfl, h1, h2⟩ | ⟨rfl, h1, h2⟩ | ⟨rfl, h1, h2⟩ | ⟨rfl, h1, h2⟩ | ⟨rfl, h1, h2⟩ | ⟨rfl, h1, h2⟩ | ⟨rfl, h1, h2⟩ | ⟨rfl, h1, h2⟩ | ⟨rfl, h1, h2⟩ | ⟨rfl, h1, h2⟩ | ⟨rfl, h1, h2⟩ | ⟨rfl, h1, h2⟩
  · obtain rfl := rows0 h2
    obtain ⟨x, y, rfl⟩ := len2 h1
    exact ⟨_, _, _, _, .c0 x y, rfl, ⟨0, rfl, rfl⟩, .inl ⟨by decide, rfl, put_plain⟩⟩
  · obtain rfl := rows0 h2
    obtain ⟨x, y, rfl⟩ := len2 h1
    exact ⟨_, _, _, _, .chg (.c1 x y), rfl, ⟨1, rfl, rfl⟩, .inl ⟨by decide, rfl, put_plain⟩⟩
  · obtain rfl := rows0 h2
    obtain ⟨x, y, z, rfl⟩ := len3 h1
    exact ⟨_, _, _, _, .chg (.c2 x y z), rfl, ⟨2, rfl, rfl⟩, .inl ⟨by decide, rfl, put_plain⟩⟩
  · obtain rfl := rows0 h2
    obtain ⟨x, y, z, rfl⟩ := len3 h1
    exact ⟨_, _, _, _, .chg (.c3 x y z), rfl, ⟨3, rfl, rfl⟩, .inl ⟨by decide, rfl, put_plain⟩⟩
  · obtain rfl := rows0 h2
    obtain ⟨x, rfl⟩ := len1 h1
    exact ⟨_, _, _, _, .chg (.c4 x), rfl, ⟨4, rfl, rfl⟩, .inl ⟨by decide, rfl, put_plain⟩⟩
  · obtain rfl := rows0 h2
    obtain ⟨x, y, z, rfl⟩ := len3 h1
    exact ⟨_, _, _, _, .chg (.c5 x y z), rfl, ⟨5, rfl, rfl⟩, .inl ⟨by decide, rfl, put_plain⟩⟩
  · obtain rfl := rows0 h2
    obtain ⟨x, rfl⟩ := len1 h1
    exact ⟨_, _, _, _, .chg (.c6 x), rfl, ⟨6, rfl, rfl⟩, .inl ⟨by decide, rfl, put_plain⟩⟩
  · obtain rfl := rows0 h2
    obtain ⟨x, rfl⟩ := len1 h1
    exact ⟨_, _, _, _, .chg (.c7 x), rfl, ⟨7, rfl, rfl⟩, .inl ⟨by decide, rfl, put_plain⟩⟩
  · obtain rfl := rows0 h2
    obtain ⟨x, rfl⟩ := len1 h1
    exact ⟨_, _, _, _, .ask (.c8 x), rfl, ⟨8, rfl, rfl⟩, .inl ⟨by decide, rfl, put_plain⟩⟩
  · obtain rfl := rows0 h2
    obtain ⟨x, y, rfl⟩ := len2 h1
    exact ⟨_, _, _, _, .ask (.c9 x y), rfl, ⟨9, rfl, rfl⟩, .inl ⟨by decide, rfl, put_plain⟩⟩
  · obtain rfl := len0 h1
    obtain ⟨o, rfl⟩ := rows1 h2
    have hb : (PyInside.each [] [] && PyInside.lists [(-2147483648, 2147483647, 0, 70)] [o]) = true := hb
    have hl : o.length ≤ 70 := by
      rw [Bool.and_eq_true] at hb
      have q : (decide (0 ≤ o.length) && decide (o.length ≤ 70) && o.all (PyInside.within (-2147483648) 2147483647) && true) = true := hb.2
      simp only [Bool.and_eq_true, decide_eq_true_eq] at q
      exact q.1.1.2
    refine ⟨_, _, _, _, .ask (.c10 o hl), rfl, ⟨10, rfl, rfl⟩, .inr ⟨rfl, rfl, ?_⟩⟩
    show [10] ++ (((o.length : Int) :: o) ++ []) = _
    rw [List.append_nil]
    rfl
  · obtain rfl := rows0 h2
    obtain rfl := len0 h1
    exact ⟨_, _, _, _, .ask .c11, rfl, ⟨11, rfl, rfl⟩, .inl ⟨by decide, rfl, put_plain⟩⟩
  · obtain rfl := rows0 h2
    obtain rfl := len0 h1
    exact ⟨_, _, _, _, .ask .c12, rfl, ⟨12, rfl, rfl⟩, .inl ⟨by decide, rfl, put_plain⟩⟩
  · obtain rfl := rows0 h2
    obtain rfl := len0 h1
    exact ⟨_, _, _, _, .ask .c13, rfl, ⟨13, rfl, rfl⟩, .inl ⟨by decide, rfl, put_plain⟩⟩
  · obtain rfl := rows0 h2
    obtain ⟨x, rfl⟩ := len1 h1
    exact ⟨_, _, _, _, .ask (.c14 x), rfl, ⟨14, rfl, rfl⟩, .inl ⟨by decide, rfl, put_plain⟩⟩
  · obtain rfl := rows0 h2
    obtain ⟨x, y, z, rfl⟩ := len3 h1
    exact ⟨_, _, _, _, .ask (.c15 x y z), rfl, ⟨15, rfl, rfl⟩, .inl ⟨by decide, rfl, put_plain⟩⟩
  · obtain rfl := rows0 h2
    obtain rfl := len0 h1
    exact ⟨_, _, _, _, .ask .c16, rfl, ⟨16, rfl, rfl⟩, .inl ⟨by decide, rfl, put_plain⟩⟩
/-- what is answered of the calls cs from the state s -/
def saidOf (s : Option Sr98.Bakery) (cs : List (List (List Int))) : List Int := PyFlat.told (PyFlat.played Sr98Neutral.step s (cs.map PySr98.whole))
theorem said_cons {c : List (List Int)} {p : Int} {nums order : List Int} {call : Sr98.Call} (h : RawCall c p nums order call) (s : Option Sr98.Bakery) (cs : List (List (List Int))) :
    saidOf s (c :: cs) = ((res (Sr98.step s call).2).length : Int) :: (res (Sr98.step s call).2 ++ saidOf (Sr98.step s call).1 cs) := by
  have e : Sr98Neutral.step s (PySr98.whole c) = ((Sr98.step s call).1, res (Sr98.step s call).2) := by
    unfold Sr98Neutral.step
    rw [h.parse]
    rfl
  show (PyFlat.told ((Sr98Neutral.step s (PySr98.whole c)).2 :: PyFlat.played Sr98Neutral.step (Sr98Neutral.step s (PySr98.whole c)).1 (cs.map PySr98.whole))) = _
  rw [e]
  rfl
theorem asked_is {ns : List Int} (h : PySr98.answers_asked ns = true) : ∃ cs, ns = PyFlat.put cs ∧ (∀ c ∈ cs, ∃ p nums order call, RawCall c p nums order call) ∧ PySr98.answers ns = saidOf none cs ∧ (PySr98.answers ns).length ≤ 10000000 := by
  unfold PySr98.answers_asked at h
  cases c : PyFlat.calls PySr98.shape ns.length ns with
  | none =>
    rw [c] at h
    cases h
  | some cs =>
    rw [c] at h
    have h : (!cs.isEmpty && PyFlat.atMost 60 cs && PyInside.calls PySr98.bound cs && Sr98Neutral.asked (cs.map PySr98.whole) && PyFlat.short 10000000 (PySr98.answers ns)) = true := h
    simp only [Bool.and_eq_true] at h
    obtain ⟨⟨⟨⟨_, _⟩, hin⟩, _⟩, hs⟩ := h
    obtain ⟨e, hok⟩ := PyFlat.put_calls _ _ _ c
    have hin2 : ∀ d ∈ cs, PyInside.call PySr98.bound d = true := List.all_eq_true.mp hin
    refine ⟨cs, e, fun d hd => raw_call (hok d hd) (hin2 d hd), ?_, of_decide_eq_true hs⟩
    unfold PySr98.answers PySr98.calls
    rw [c]
    rfl
end Bk
/-! ## How doughs, houses, windows, plans lie in the heap -/
namespace Bk
open PySem PySem.Spec PyProof.Rows L2 Evl

structure DA where
  d : Addr
  dx : Addr
  lc : Addr
structure HA where
  a : Addr
  dx : Addr
  lt : Addr
  ld : Addr
  ds : List DA
def dFi (m lo hi : Int) (lc : Addr) : List (Str × V) := [("mixed_at", .int m), ("minimum", .int lo), ("maximum", .int hi), ("cooled", .ref lc)]
def hF (lt : Addr) (p : Int) (ld : Addr) : List (Str × V) := [("temperatures", .ref lt), ("baking", .int p), ("doughs", .ref ld)]
def DObj (g : G) (H : Hp) (A : DA) (d : Sr98.Dough) : Prop := H A.d = some (.ins (g.c 0) A.dx (dFi d.mixedAt d.minimum d.maximum A.lc))
def DoughAt (g : G) (H : Hp) (n : Nat) (A : DA) (d : Sr98.Dough) : Prop := DObj g H A d ∧ H A.lc = some (.lst ((cooledL d n).map V.bl))
/-- item by item -/
def Fa2 {α β : Type} (R : α → β → Prop) (xs : List α) (ys : List β) : Prop := xs.length = ys.length ∧ ∀ (i : Nat) (x : α) (y : β), xs[i]? = some x → ys[i]? = some y → R x y
def HObj (g : G) (H : Hp) (A : HA) (b : Sr98.Bakery) : Prop := H A.a = some (.ins (g.c 1) A.dx (hF A.lt b.bakingTime A.ld))
def TAt (H : Hp) (a : Addr) (b : Sr98.Bakery) : Prop := H a = some (.lst (b.temperatures.map natV))
structure HouseAt (g : G) (H : Hp) (A : HA) (b : Sr98.Bakery) : Prop where
  obj : HObj g H A b
  tmp : TAt H A.lt b
  lst : H A.ld = some (.lst (A.ds.map fun x => .ref x.d))
  dos : Fa2 (DoughAt g H (Sr98.hours b)) A.ds b.doughs
def HA.foot (A : HA) : List Addr := A.a :: A.lt :: A.ld :: (A.ds.map DA.d ++ A.ds.map DA.lc)
def WinV (H : Hp) (v : V) (w : Win) : Prop := match w with
  | none => v = .non
  | some (a, z) => ∃ p, v = .ref p ∧ H p = some (.tup [natV a, natV z])
def WinsAt (H : Hp) (a : Addr) (ws : List Win) : Prop := ∃ vs, H a = some (.lst vs) ∧ Fa2 (WinV H) vs ws
def optV : Option Nat → V
  | none => .non
  | some n => natV n
def natsAt (H : Hp) (a : Addr) (l : List Nat) : Prop := H a = some (.lst (l.map natV))
def intsAt (H : Hp) (a : Addr) (l : List Int) : Prop := H a = some (.lst (l.map V.int))
/-- a list of lists of numbers -/
def LLAt (H : Hp) (a : Addr) (ls : List (List Nat)) : Prop := ∃ vs, H a = some (.lst vs) ∧ Fa2 (fun v l => ∃ p, v = V.ref p ∧ natsAt H p l) vs ls

def PlanT (H : Hp) (q : Addr) (x : Plan) : Prop := ∃ a c, H q = some (.tup [natV x.1, .ref a, .ref c]) ∧ natsAt H a x.2.1 ∧ natsAt H c x.2.2
def PlanV (H : Hp) (v : V) : Option Plan → Prop
  | none => v = .non
  | some x => ∃ q, v = .ref q ∧ PlanT H q x
section
variable {g : G} {H H' : Hp} {K : PySem.W.Frag} {mg : Str → Option Value}
theorem Fa2.mono {α β : Type} {R S : α → β → Prop} {xs : List α} {ys : List β} (h : Fa2 R xs ys) (k : ∀ x y, R x y → S x y) : Fa2 S xs ys := ⟨h.1, fun i x y a b => k _ _ (h.2 i x y a b)⟩
theorem Fa2.get {α β : Type} {R : α → β → Prop} {xs : List α} {ys : List β} (h : Fa2 R xs ys) {i : Nat} {y : β} (e : ys[i]? = some y) : ∃ x, xs[i]? = some x ∧ R x y := by
  have hi : i < ys.length := (List.getElem?_eq_some_iff.mp e).1
  have hx : i < xs.length := by
    rw [h.1]
    exact hi
  exact ⟨xs[i], List.getElem?_eq_getElem hx, h.2 i _ _ (List.getElem?_eq_getElem hx) e⟩
theorem Fa2.nil {α β : Type} {R : α → β → Prop} : Fa2 R [] [] := ⟨rfl, fun i x y a _ => by simp at a⟩
theorem Fa2.snoc {α β : Type} {R : α → β → Prop} {xs : List α} {ys : List β} {x : α} {y : β} (h : Fa2 R xs ys) (r : R x y) : Fa2 R (xs ++ [x]) (ys ++ [y]) := by
  refine ⟨by simp [h.1], fun i u v a b => ?_⟩
  by_cases hi : i < xs.length
  · rw [List.getElem?_append_left hi] at a
    rw [List.getElem?_append_left (by rw [← h.1]; exact hi)] at b
    exact h.2 i u v a b
  · have hl := (List.getElem?_eq_some_iff.mp a).1
    rw [List.length_append, List.length_singleton] at hl
    have e : i = xs.length := by omega
    subst e
    rw [List.getElem?_append_right (Nat.le_refl _), Nat.sub_self] at a
    rw [h.1, List.getElem?_append_right (Nat.le_refl _), Nat.sub_self] at b
    cases a
    cases b
    exact r
theorem Fa2.append {α β : Type} {R : α → β → Prop} {xs xs' : List α} {ys ys' : List β} (h : Fa2 R xs ys) (h' : Fa2 R xs' ys') : Fa2 R (xs ++ xs') (ys ++ ys') := by
  refine ⟨by simp [h.1, h'.1], fun i u v a b => ?_⟩
  by_cases hi : i < xs.length
  · rw [List.getElem?_append_left hi] at a
    rw [List.getElem?_append_left (by rw [← h.1]; exact hi)] at b
    exact h.2 i u v a b
  · rw [List.getElem?_append_right (by omega)] at a
    rw [List.getElem?_append_right (by rw [← h.1]; omega), ← h.1] at b
    exact h'.2 _ u v a b
theorem Fa2.map {α β γ : Type} {R : α → γ → Prop} {f : β → γ} {xs : List α} {ys : List β} (h : Fa2 (fun x y => R x (f y)) xs ys) : Fa2 R xs (ys.map f) := by
  refine ⟨by simp [h.1], fun i x y a b => ?_⟩
  rw [List.getElem?_map] at b
  cases e : ys[i]? with
  | none =>
    rw [e] at b
    cases b
  | some z =>
    rw [e] at b
    cases b
    exact h.2 i x z a e
theorem DObj.mono {A : DA} {d : Sr98.Dough} (e : Ex H H') (h : DObj g H A d) : DObj g H' A d := e _ _ h
theorem DoughAt.mono {n : Nat} {A : DA} {d : Sr98.Dough} (e : Ex H H') (h : DoughAt g H n A d) : DoughAt g H' n A d := ⟨e _ _ h.1, e _ _ h.2⟩
theorem HouseAt.mono {A : HA} {b : Sr98.Bakery} (e : Ex H H') (h : HouseAt g H A b) : HouseAt g H' A b := ⟨e _ _ h.obj, e _ _ h.tmp, e _ _ h.lst, h.dos.mono fun _ _ x => x.mono e⟩
theorem WinV.mono {v : V} {w : Win} (e : Ex H H') (h : WinV H v w) : WinV H' v w := by
  cases w with
  | none => exact h
  | some x =>
    obtain ⟨p, h1, h2⟩ := h
    exact ⟨p, h1, e _ _ h2⟩
theorem WinsAt.mono {a : Addr} {ws : List Win} (e : Ex H H') (h : WinsAt H a ws) : WinsAt H' a ws := by
  obtain ⟨vs, h1, h2⟩ := h
  exact ⟨vs, e _ _ h1, h2.mono fun _ _ x => x.mono e⟩
theorem LLAt.mono {a : Addr} {ls : List (List Nat)} (e : Ex H H') (h : LLAt H a ls) : LLAt H' a ls := by
  obtain ⟨vs, h1, h2⟩ := h
  exact ⟨vs, e _ _ h1, h2.mono fun _ _ ⟨p, x, y⟩ => ⟨p, x, e _ _ y⟩⟩
theorem PlanT.mono {q : Addr} {x : Plan} (e : Ex H H') (h : PlanT H q x) : PlanT H' q x := by
  obtain ⟨a, c, h1, h2, h3⟩ := h
  exact ⟨a, c, e _ _ h1, e _ _ h2, e _ _ h3⟩
theorem PlanV.mono {v : V} {x : Option Plan} (e : Ex H H') (h : PlanV H v x) : PlanV H' v x := by
  cases x with
  | none => exact h
  | some x =>
    obtain ⟨q, h1, h2⟩ := h
    exact ⟨q, h1, h2.mono e⟩
/-! ### the fields -/
theorem lk_here {k : Str} {v : V} {r : List (Str × V)} : List.lookup k ((k, v) :: r) = some v := by
  have e : (k == k) = true := beq_self_eq_true k
  simp only [List.lookup, e]
theorem lk_past {k g : Str} {v : V} {r : List (Str × V)} (h : (k == g) = false) : List.lookup k ((g, v) :: r) = List.lookup k r := by
  simp only [List.lookup, h]
variable {m lo hi : Int} {lc lt ld : Addr} {p : Int}
theorem lkD1 : List.lookup ("mixed_at" : Str) (dFi m lo hi lc) = some (V.int m) := lk_here
theorem lkD2 : List.lookup ("minimum" : Str) (dFi m lo hi lc) = some (V.int lo) := (lk_past (by decide +kernel)).trans lk_here
theorem lkD3 : List.lookup ("maximum" : Str) (dFi m lo hi lc) = some (V.int hi) := (lk_past (by decide +kernel)).trans ((lk_past (by decide +kernel)).trans lk_here)
theorem lkD4 : List.lookup ("cooled" : Str) (dFi m lo hi lc) = some (V.ref lc) := (lk_past (by decide +kernel)).trans ((lk_past (by decide +kernel)).trans ((lk_past (by decide +kernel)).trans lk_here))
theorem lkH1 : List.lookup ("temperatures" : Str) (hF lt p ld) = some (V.ref lt) := lk_here
theorem lkH2 : List.lookup ("baking" : Str) (hF lt p ld) = some (V.int p) := (lk_past (by decide +kernel)).trans lk_here
theorem lkH3 : List.lookup ("doughs" : Str) (hF lt p ld) = some (V.ref ld) := (lk_past (by decide +kernel)).trans ((lk_past (by decide +kernel)).trans lk_here)
theorem put_here {f : Str} {v x : V} {r : List (Str × V)} : putF f v ((f, x) :: r) = (f, v) :: r := if_pos rfl
theorem put_past {f g : Str} {v x : V} {r : List (Str × V)} (h : ¬ g = f) : putF f v ((g, x) :: r) = (g, x) :: putF f v r := if_neg h
theorem putD4 {l : Addr} : putF "cooled" (V.ref l) (dFi m lo hi lc) = dFi m lo hi l := (put_past (by decide +kernel)).trans (congrArg _ ((put_past (by decide +kernel)).trans (congrArg _ ((put_past (by decide +kernel)).trans (congrArg _ put_here)))))
theorem putH2 {q : Int} : putF "baking" (V.int q) (hF lt p ld) = hF lt q ld := (put_past (by decide +kernel)).trans (congrArg _ put_here)
theorem putE {f : Str} {v : V} : putF f v [] = [(f, v)] := rfl
theorem newD : putF "cooled" (V.ref lc) (putF "maximum" (V.int hi) (putF "minimum" (V.int lo) (putF "mixed_at" (V.int m) []))) = dFi m lo hi lc := by
  repeat first | rw [put_past (by decide +kernel)] | rw [putE]
  rfl
theorem newH : putF "doughs" (V.ref ld) (putF "baking" (V.int p) (putF "temperatures" (V.ref lt) [])) = hF lt p ld := by
  repeat first | rw [put_past (by decide +kernel)] | rw [putE]
  rfl
variable {R : V → Prop} {A : DA} {d : Sr98.Dough} {B : HA} {b : Sr98.Bakery}
abbrev FldK (K : PySem.W.Frag) (H : Hp) (a : Addr) (f : Str) (R : V → Prop) : Prop := ∃ a' C' dx' fs' v', V.ref a = .ref a' ∧ H a' = some (.ins C' dx' fs') ∧ Cls K C' ∧ NoAttr K C' f ∧ fs'.lookup f = some v' ∧ R v'
theorem fD1 (T : Txt K mg g) (h : DObj g H A d) (q : R (natV d.mixedAt)) : FldK K H A.d "mixed_at" R := k_fld h T.clDough T.nDough_mixed_at lkD1 q
theorem fD2 (T : Txt K mg g) (h : DObj g H A d) (q : R (natV d.minimum)) : FldK K H A.d "minimum" R := k_fld h T.clDough T.nDough_minimum lkD2 q
theorem fD3 (T : Txt K mg g) (h : DObj g H A d) (q : R (natV d.maximum)) : FldK K H A.d "maximum" R := k_fld h T.clDough T.nDough_maximum lkD3 q
theorem fD4 (T : Txt K mg g) (h : DObj g H A d) (q : R (.ref A.lc)) : FldK K H A.d "cooled" R := k_fld h T.clDough T.nDough_cooled lkD4 q
theorem fH1 (T : Txt K mg g) (h : HObj g H B b) (q : R (.ref B.lt)) : FldK K H B.a "temperatures" R := k_fld h T.clHouse T.nHouse_temperatures lkH1 q
theorem fH2 (T : Txt K mg g) (h : HObj g H B b) (q : R (natV b.bakingTime)) : FldK K H B.a "baking" R := k_fld h T.clHouse T.nHouse_baking lkH2 q
theorem fH3 (T : Txt K mg g) (h : HObj g H B b) (q : R (.ref B.ld)) : FldK K H B.a "doughs" R := k_fld h T.clHouse T.nHouse_doughs lkH3 q
end
end Bk
/-! ## Loops and comprehensions -/
namespace Bk
open PySem PySem.Spec PyProof.Rows L2 Evl
/-- what a for asks of the walk J -/
def ForW (J : It) (g : TG) (tb : TS) (D : Ends) (σ : L2.St) (H : Hp) : Prop := ∃ W : Nat → Nat → L2.St → Hp → Prop, (∃ m, W 0 m σ H) ∧ ∀ i m σ H, W i m σ H →
  (J.stop i H ∧ D.nx σ H) ∨ (J.go i H ∧ ∃ N : L2.St → Hp → Prop, (∀ σ' H', N σ' H' → ∃ m', m' < m ∧ W (i + 1) m' σ' H') ∧ ∀ x H', J.yld i H x H' → g x σ H' fun σ2 H2 => tb { D with nx := N, ct := N, bk := D.nx } σ2 H2)
/-- what a comprehension asks of the walk J -/
def LcW (J : It) (g : TG) (tt : TT) (te : TE) (vs : List Nat) (σ : L2.St) (H1 : Hp) (Q : VK) : Prop := ∀ D, H1 D = none → ∃ W : Nat → Nat → Hp → Prop, (∃ m, W 0 m (upd H1 D (.lst []))) ∧ ∀ i m H, W i m H →
  (J.stop i H ∧ Q (.ref D) H) ∨ (J.go i H ∧ ∃ Nx : Hp → Prop, (∀ H', Nx H' → ∃ m', m' < m ∧ W (i + 1) m' H') ∧ ∀ x H', J.yld i H x H' → g x (wipe σ vs) H' fun σ2 H2 => wipe σ2 vs = wipe σ vs ∧ tt σ2 H2 fun b H3 =>
    if b = true then te σ2 H3 fun y H4 => ∃ acc, H4 D = some (.lst acc) ∧ acc.length < sizeLine ∧ Nx (upd H4 D (.lst (acc ++ [y]))) else Nx H3)
section
variable {σ : L2.St} {H : Hp} {Q : VK} {nx bk ct : L2.St → Hp → Prop} {rt : VK} {tb : TS} {te : TE} {tt : TT} {tl : TA} {j : Nat} {g : TG} {wi : TI} {K : PySem.W.Frag} {R : It → Hp → Prop} {a : Addr} {xs : List V} {vs : List Nat}
theorem r_for (h : wi σ H fun J H1 => ForW J g tb ⟨nx, rt, bk, ct⟩ σ H1) : tFor wi g tb ⟨nx, rt, bk, ct⟩ σ H := h
theorem r_lc (h : wi σ H fun J H1 => LcW J g tt te vs σ H1 Q) : tLc wi g tt te vs σ H Q := h
theorem r_rng1 (h : tl σ H fun vs H1 => ∃ j : Int, vs = [.int j] ∧ -(2 ^ 62) ≤ j ∧ j < 2 ^ 62 ∧ R (Itr 0 j.toNat) H1) : iRng1 tl σ H R := h
theorem r_rng2 (h : tl σ H fun vs H1 => ∃ i j : Int, vs = [.int i, .int j] ∧ (-(2 ^ 62) ≤ i ∧ i < 2 ^ 62 ∧ -(2 ^ 62) ≤ j ∧ j < 2 ^ 62) ∧ R (Itr i (j - i).toNat) H1) : iRng2 tl σ H R := h
theorem r_list (h : te σ H fun x H1 => ∃ a, x = .ref a ∧ (∃ xs, SqL K H1 a xs) ∧ R (Itl K a) H1) : iList K te σ H R := h
theorem r_enum (h : tl σ H fun vs H1 => ∃ a xs, vs = [.ref a] ∧ SqL K H1 a xs ∧ R (Ite K a) H1) : iEnum K tl σ H R := h
abbrev Small (n : Nat) : Prop := n ≤ 1000000
/-- for j in range(n) -/
theorem k_rng1 {n : Nat} (hn : Small n) (Pv : Nat → L2.St → Hp → Prop) (h0 : Pv 0 σ H) (hs : ∀ i σ' H', i < n → Pv i σ' H' → tb ⟨Pv (i + 1), rt, nx, Pv (i + 1)⟩ (σ'.set j (some (.int (i : Int)))) H') (hd : ∀ σ' H', Pv n σ' H' → nx σ' H') :
    ∃ m : Int, [V.int (n : Int)] = [.int m] ∧ -(2 ^ 62) ≤ m ∧ m < 2 ^ 62 ∧ ForW (Itr 0 m.toNat) (gName j) tb ⟨nx, rt, bk, ct⟩ σ H := by
  have hn' : n ≤ 1000000 := hn
  refine ⟨(n : Int), rfl, by omega, by omega, ?_⟩
  rw [Int.toNat_natCast]
  refine for_range (D := ⟨nx, rt, bk, ct⟩) Pv h0 (fun i σ' H' hi p => ?_) hd
  have q := hs i σ' H' hi p
  have e0 : (0 : Int) + (i : Int) = (i : Int) := Int.zero_add _
  show tb ⟨Pv (i + 1), rt, nx, Pv (i + 1)⟩ (σ'.set j (some (.int ((0 : Int) + (i : Int))))) H'
  rw [e0]
  exact q
/-- for j in range(lo, hi) -/
theorem k_rng2 {lo hi : Nat} (hn : Small lo ∧ Small hi) (Pv : Nat → L2.St → Hp → Prop) (h0 : Pv 0 σ H) (hs : ∀ i σ' H', lo + i < hi → Pv i σ' H' → tb ⟨Pv (i + 1), rt, nx, Pv (i + 1)⟩ (σ'.set j (some (.int ((lo + i : Nat) : Int)))) H') (hd : ∀ σ' H', Pv (hi - lo) σ' H' → nx σ' H') :
    ∃ i' j' : Int, [V.int (lo : Int), V.int (hi : Int)] = [.int i', .int j'] ∧ (-(2 ^ 62) ≤ i' ∧ i' < 2 ^ 62 ∧ -(2 ^ 62) ≤ j' ∧ j' < 2 ^ 62) ∧ ForW (Itr i' (j' - i').toNat) (gName j) tb ⟨nx, rt, bk, ct⟩ σ H := by
  have h1 : lo ≤ 1000000 := hn.1
  have h2 : hi ≤ 1000000 := hn.2
  refine ⟨(lo : Int), (hi : Int), rfl, ⟨by omega, by omega, by omega, by omega⟩, ?_⟩
  rw [show ((hi : Int) - (lo : Int)).toNat = hi - lo by omega]
  refine for_range (D := ⟨nx, rt, bk, ct⟩) Pv h0 (fun i σ' H' hi p => ?_) hd
  have q := hs i σ' H' (by omega) p
  rw [Int.natCast_add] at q
  exact q
/-- for j in a list -/
theorem k_list (h : SqL K H a xs) (Pv : Nat → L2.St → Hp → Prop) (h0 : Pv 0 σ H) (hl : ∀ i σ' H', i ≤ xs.length → Pv i σ' H' → SqL K H' a xs)
    (hs : ∀ i x σ' H', xs[i]? = some x → Pv i σ' H' → tb ⟨Pv (i + 1), rt, nx, Pv (i + 1)⟩ (σ'.set j (some x)) H') (hd : ∀ σ' H', Pv xs.length σ' H' → nx σ' H') :
    ∃ a', V.ref a = .ref a' ∧ (∃ xs, SqL K H a' xs) ∧ ForW (Itl K a') (gName j) tb ⟨nx, rt, bk, ct⟩ σ H :=
  ⟨a, rfl, ⟨xs, h⟩, for_list (D := ⟨nx, rt, bk, ct⟩) Pv h0 hl hs hd⟩
theorem nat_at {l : List Nat} {i : Nat} {x : V} (h : (l.map natV)[i]? = some x) : ∃ n, l[i]? = some n ∧ x = natV n := by
  rw [List.getElem?_map] at h
  cases e : l[i]? with
  | none =>
    rw [e] at h
    cases h
  | some n =>
    rw [e] at h
    cases h
    exact ⟨n, rfl, rfl⟩
/-- for i, x in enumerate(a list) -/
theorem k_enum {j1 j2 : Nat} (h : SqL K H a xs) (Pv : Nat → L2.St → Hp → Prop) (h0 : Pv 0 σ H) (hl : ∀ i σ' H', i ≤ xs.length → Pv i σ' H' → SqL K H' a xs)
    (hs : ∀ i x σ' H' H2, xs[i]? = some x → Pv i σ' H' → Ex H' H2 → tb ⟨Pv (i + 1), rt, nx, Pv (i + 1)⟩ ((σ'.set j1 (some (.int (i : Int)))).set j2 (some x)) H2) (hd : ∀ σ' H', Pv xs.length σ' H' → nx σ' H') :
    ∃ a' xs', [V.ref a] = [.ref a'] ∧ SqL K H a' xs' ∧ ForW (Ite K a') (gTup K 2 (gCons (gName j1) (gCons (gName j2) gNil))) tb ⟨nx, rt, bk, ct⟩ σ H := by
  refine ⟨a, xs, rfl, h, fun i m σ H => m = xs.length - i ∧ i ≤ xs.length ∧ Pv i σ H, ⟨xs.length, by simp, Nat.zero_le _, h0⟩, ?_⟩
  rintro i m σ H ⟨rfl, hi, p⟩
  have q := hl i σ H hi p
  by_cases hlt : i < xs.length
  · refine .inr ⟨⟨xs, xs[i], q, by simp [hlt]⟩, Pv (i + 1), fun σ' H' p' => ⟨xs.length - (i + 1), by omega, rfl, hlt, p'⟩, fun v H' y => ?_⟩
    obtain ⟨T, x, rfl, nT, rfl, hx⟩ := y
    exact ⟨T, _, rfl, SqT.of upd_same, rfl, _, _, rfl, _, _, rfl, rfl, hs i x σ H _ (hx xs q) p (Ex.new nT)⟩
  · have e : i = xs.length := by omega
    subst e
    exact .inl ⟨⟨xs, q, Nat.le_refl _⟩, hd σ H p⟩
/-- for j in a list of numbers: a word of the numbers gone through and those to come -/
theorem k_nats {l : List Nat} (h : SqL K H a (l.map natV)) (Pv : List Nat → List Nat → L2.St → Hp → Prop) (h0 : Pv [] l σ H) (hl : ∀ p q σ' H', p ++ q = l → Pv p q σ' H' → SqL K H' a (l.map natV))
    (hs : ∀ p x q σ' H', p ++ x :: q = l → Pv p (x :: q) σ' H' → tb ⟨Pv (p ++ [x]) q, rt, nx, Pv (p ++ [x]) q⟩ (σ'.set j (some (natV x))) H') (hd : ∀ σ' H', Pv l [] σ' H' → nx σ' H') :
    ∃ a', V.ref a = .ref a' ∧ (∃ xs, SqL K H a' xs) ∧ ForW (Itl K a') (gName j) tb ⟨nx, rt, bk, ct⟩ σ H := by
  refine k_list h (fun i σ' H' => Pv (l.take i) (l.drop i) σ' H') (by simpa using h0) (fun i σ' H' _ p => hl _ _ _ _ (List.take_append_drop i l) p) (fun i x σ' H' hi p => ?_) (fun σ' H' p => ?_)
  · obtain ⟨n, hn, rfl⟩ := nat_at hi
    obtain ⟨hlt, e⟩ := List.getElem?_eq_some_iff.mp hn
    have ed : l.drop i = n :: l.drop (i + 1) := by rw [List.drop_eq_getElem_cons hlt, e]
    have et : l.take (i + 1) = l.take i ++ [n] := by rw [List.take_add_one, hn]; rfl
    have el : l.take i ++ n :: l.drop (i + 1) = l := by rw [← ed]; exact List.take_append_drop i l
    have q := hs (l.take i) n (l.drop (i + 1)) σ' H' el (by rw [← ed]; exact p)
    show tb ⟨Pv (l.take (i + 1)) (l.drop (i + 1)), rt, nx, Pv (l.take (i + 1)) (l.drop (i + 1))⟩ (σ'.set j (some (natV n))) H'
    rw [et]
    exact q
  · rw [List.length_map, List.take_length, List.drop_length] at p
    exact hd _ _ p
/-- a comprehension over a list, by a word of the new list -/
theorem k_lcL (h : SqL K H a xs) (hw : ∀ x, wipe ((wipe σ vs).set j (some x)) vs = wipe σ vs) (Pv : Addr → Nat → Hp → Prop) (h0 : ∀ D H', H D = none → Ex H H' → H' D = some (.lst []) → Pv D 0 H') (hl : ∀ D i H', i ≤ xs.length → Pv D i H' → SqL K H' a xs)
    (hs : ∀ D i x H', xs[i]? = some x → Pv D i H' → tt ((wipe σ vs).set j (some x)) H' fun b H3 =>
      if b = true then te ((wipe σ vs).set j (some x)) H3 fun y H4 => ∃ acc, H4 D = some (.lst acc) ∧ acc.length < sizeLine ∧ Pv D (i + 1) (upd H4 D (.lst (acc ++ [y]))) else Pv D (i + 1) H3) (hd : ∀ D H', Pv D xs.length H' → Q (.ref D) H') :
    ∃ a', V.ref a = .ref a' ∧ (∃ xs, SqL K H a' xs) ∧ LcW (Itl K a') (gName j) tt te vs σ H Q :=
  ⟨a, rfl, ⟨xs, h⟩, fun D hD => lc_list (Pv D) (h0 D _ hD (Ex.new hD) upd_same) (hl D) (fun i x H' hi p => ⟨hw x, hs D i x H' hi p⟩) (hd D)⟩
theorem k_lcR1 {n : Nat} (hn : Small n) (hw : ∀ x, wipe ((wipe σ vs).set j (some x)) vs = wipe σ vs) (Pv : Addr → Nat → Hp → Prop) (h0 : ∀ D H', H D = none → Ex H H' → H' D = some (.lst []) → Pv D 0 H')
    (hs : ∀ D i H', i < n → Pv D i H' → tt ((wipe σ vs).set j (some (.int (i : Int)))) H' fun b H3 =>
      if b = true then te ((wipe σ vs).set j (some (.int (i : Int)))) H3 fun y H4 => ∃ acc, H4 D = some (.lst acc) ∧ acc.length < sizeLine ∧ Pv D (i + 1) (upd H4 D (.lst (acc ++ [y]))) else Pv D (i + 1) H3) (hd : ∀ D H', Pv D n H' → Q (.ref D) H') :
    ∃ m : Int, [V.int (n : Int)] = [.int m] ∧ -(2 ^ 62) ≤ m ∧ m < 2 ^ 62 ∧ LcW (Itr 0 m.toNat) (gName j) tt te vs σ H Q := by
  have hn' : n ≤ 1000000 := hn
  refine ⟨(n : Int), rfl, by omega, by omega, ?_⟩
  rw [Int.toNat_natCast]
  refine fun D hD => lc_range (Pv D) (h0 D _ hD (Ex.new hD) upd_same) (fun i H' hi p => ?_) (hd D)
  have q := hs D i H' hi p
  have e0 : (0 : Int) + (i : Int) = (i : Int) := Int.zero_add _
  rw [e0]
  exact ⟨hw _, q⟩
theorem k_lcR2 {lo hi : Nat} (hn : Small lo ∧ Small hi) (hw : ∀ x, wipe ((wipe σ vs).set j (some x)) vs = wipe σ vs) (Pv : Addr → Nat → Hp → Prop) (h0 : ∀ D H', H D = none → Ex H H' → H' D = some (.lst []) → Pv D 0 H')
    (hs : ∀ D i H', lo + i < hi → Pv D i H' → tt ((wipe σ vs).set j (some (.int ((lo + i : Nat) : Int)))) H' fun b H3 =>
      if b = true then te ((wipe σ vs).set j (some (.int ((lo + i : Nat) : Int)))) H3 fun y H4 => ∃ acc, H4 D = some (.lst acc) ∧ acc.length < sizeLine ∧ Pv D (i + 1) (upd H4 D (.lst (acc ++ [y]))) else Pv D (i + 1) H3) (hd : ∀ D H', Pv D (hi - lo) H' → Q (.ref D) H') :
    ∃ i' j' : Int, [V.int (lo : Int), V.int (hi : Int)] = [.int i', .int j'] ∧ (-(2 ^ 62) ≤ i' ∧ i' < 2 ^ 62 ∧ -(2 ^ 62) ≤ j' ∧ j' < 2 ^ 62) ∧ LcW (Itr i' (j' - i').toNat) (gName j) tt te vs σ H Q := by
  have h1 : lo ≤ 1000000 := hn.1
  have h2 : hi ≤ 1000000 := hn.2
  refine ⟨(lo : Int), (hi : Int), rfl, ⟨by omega, by omega, by omega, by omega⟩, ?_⟩
  rw [show ((hi : Int) - (lo : Int)).toNat = hi - lo by omega]
  refine fun D hD => lc_range (Pv D) (h0 D _ hD (Ex.new hD) upd_same) (fun i H' hi p => ?_) (hd D)
  have q := hs D i H' (by omega) p
  rw [Int.natCast_add] at q
  exact ⟨hw _, q⟩
/-- the word of a comprehension whose parts leave the heap as it is: l the items, f which are kept, v what is made of them -/
def Cf {α : Type} (H : Hp) (f : α → Bool) (v : α → V) (l : List α) (D : Addr) (i : Nat) (H' : Hp) : Prop := H D = none ∧ Ex H H' ∧ H' D = some (.lst (((l.take i).filter f).map v))
theorem cf_turn {α : Type} {f : α → Bool} {v : α → V} {l : List α} {D : Addr} {i : Nat} {H' : Hp} {x : α} {σ2 : L2.St} (hz : l.length ≤ 1000000) (hi : l[i]? = some x) (p : Cf H f v l D i H')
    (ht : ∀ R : Bool → Hp → Prop, R (f x) H' → tt σ2 H' R) (he : f x = true → ∀ R : VK, R (v x) H' → te σ2 H' R) :
    tt σ2 H' fun b H3 => if b = true then te σ2 H3 fun y H4 => ∃ acc, H4 D = some (.lst acc) ∧ acc.length < sizeLine ∧ Cf H f v l D (i + 1) (upd H4 D (.lst (acc ++ [y]))) else Cf H f v l D (i + 1) H3 := by
  obtain ⟨p1, p2, p3⟩ := p
  have et : l.take (i + 1) = l.take i ++ [x] := by rw [List.take_add_one, hi]; rfl
  refine ht _ ?_
  cases hf : f x with
  | true =>
    rw [if_pos rfl]
    refine he hf _ ⟨_, p3, ?_, p1, ex_upd p2 p1, ?_⟩
    · rw [List.length_map]
      refine Nat.lt_of_le_of_lt (Nat.le_trans (List.length_filter_le _ _) (List.length_take_le _ _)) ?_
      have hi2 := (List.getElem?_eq_some_iff.mp hi).1
      refine Nat.lt_trans hi2 (Nat.lt_of_le_of_lt hz (by decide))
    · rw [upd_same, et, List.filter_append, List.map_append, List.filter_cons, if_pos hf]
      rfl
  | false =>
    rw [if_neg Bool.false_ne_true]
    refine ⟨p1, p2, ?_⟩
    rw [et, List.filter_append, List.filter_cons, if_neg (by rw [hf]; decide), List.filter_nil, List.append_nil]
    exact p3
/-- over a list of numbers -/
theorem k_lcN {l : List Nat} (h : SqL K H a (l.map natV)) (hz : l.length ≤ 1000000) (hw : ∀ x, wipe ((wipe σ vs).set j (some x)) vs = wipe σ vs) (f : Nat → Bool) (v : Nat → V)
    (ht : ∀ (i x : Nat) H', l[i]? = some x → Ex H H' → ∀ R : Bool → Hp → Prop, R (f x) H' → tt ((wipe σ vs).set j (some (natV x))) H' R) (he : ∀ (i x : Nat) H', l[i]? = some x → Ex H H' → f x = true → ∀ R : VK, R (v x) H' → te ((wipe σ vs).set j (some (natV x))) H' R)
    (hd : ∀ D H', H D = none → Ex H H' → H' D = some (.lst ((l.filter f).map v)) → Q (.ref D) H') : ∃ a', V.ref a = .ref a' ∧ (∃ xs, SqL K H a' xs) ∧ LcW (Itl K a') (gName j) tt te vs σ H Q := by
  refine k_lcL h hw (fun D i H' => Cf H f v l D i H') (fun D H' n e q => ⟨n, e, q⟩) (fun D i H' _ p => ex_l p.2.1 h) (fun D i x H' hi p => ?_) (fun D H' p => ?_)
  · obtain ⟨n, hn, rfl⟩ := nat_at hi
    exact cf_turn hz hn p (ht i n H' hn p.2.1) (he i n H' hn p.2.1)
  · obtain ⟨p1, p2, p3⟩ := p
    rw [List.length_map, List.take_length] at p3
    exact hd D H' p1 p2 p3
theorem rng_at {lo n i : Nat} (h : i < n) : ((List.range n).map (lo + ·))[i]? = some (lo + i) := by
  rw [List.getElem?_map, List.getElem?_range h]
  rfl
/-- over range(lo, hi) -/
theorem k_lcF2 {lo hi : Nat} (hn : Small lo ∧ Small hi) (hw : ∀ x, wipe ((wipe σ vs).set j (some x)) vs = wipe σ vs) (f : Nat → Bool) (v : Nat → V)
    (ht : ∀ (x : Nat) H', lo ≤ x → x < hi → Ex H H' → ∀ R : Bool → Hp → Prop, R (f x) H' → tt ((wipe σ vs).set j (some (natV x))) H' R) (he : ∀ (x : Nat) H', lo ≤ x → x < hi → Ex H H' → f x = true → ∀ R : VK, R (v x) H' → te ((wipe σ vs).set j (some (natV x))) H' R)
    (hd : ∀ D H', H D = none → Ex H H' → H' D = some (.lst ((((List.range (hi - lo)).map (lo + ·)).filter f).map v)) → Q (.ref D) H') :
    ∃ i' j' : Int, [V.int (lo : Int), V.int (hi : Int)] = [.int i', .int j'] ∧ (-(2 ^ 62) ≤ i' ∧ i' < 2 ^ 62 ∧ -(2 ^ 62) ≤ j' ∧ j' < 2 ^ 62) ∧ LcW (Itr i' (j' - i').toNat) (gName j) tt te vs σ H Q := by
  have h2 : hi ≤ 1000000 := hn.2
  refine k_lcR2 hn hw (fun D i H' => Cf H f v ((List.range (hi - lo)).map (lo + ·)) D i H') (fun D H' n e q => ⟨n, e, q⟩) (fun D i H' hi' p => ?_) (fun D H' p => ?_)
  · refine cf_turn (by rw [List.length_map, List.length_range]; omega) (rng_at (by omega)) p (ht (lo + i) H' (by omega) hi' p.2.1) (he (lo + i) H' (by omega) hi' p.2.1)
  · obtain ⟨p1, p2, p3⟩ := p
    rw [List.take_of_length_le (by rw [List.length_map, List.length_range]; omega)] at p3
    exact hd D H' p1 p2 p3
/-- over range(n) -/
theorem k_lcF1 {n : Nat} (hn : Small n) (hw : ∀ x, wipe ((wipe σ vs).set j (some x)) vs = wipe σ vs) (f : Nat → Bool) (v : Nat → V)
    (ht : ∀ (x : Nat) H', x < n → Ex H H' → ∀ R : Bool → Hp → Prop, R (f x) H' → tt ((wipe σ vs).set j (some (natV x))) H' R) (he : ∀ (x : Nat) H', x < n → Ex H H' → f x = true → ∀ R : VK, R (v x) H' → te ((wipe σ vs).set j (some (natV x))) H' R)
    (hd : ∀ D H', H D = none → Ex H H' → H' D = some (.lst (((List.range n).filter f).map v)) → Q (.ref D) H') :
    ∃ m : Int, [V.int (n : Int)] = [.int m] ∧ -(2 ^ 62) ≤ m ∧ m < 2 ^ 62 ∧ LcW (Itr 0 m.toNat) (gName j) tt te vs σ H Q := by
  have h2 : n ≤ 1000000 := hn
  refine k_lcR1 hn hw (fun D i H' => Cf H f v (List.range n) D i H') (fun D H' n e q => ⟨n, e, q⟩) (fun D i H' hi' p => ?_) (fun D H' p => ?_)
  · refine cf_turn (by rw [List.length_range]; omega) (List.getElem?_range hi') p (ht i H' hi' p.2.1) (he i H' hi' p.2.1)
  · obtain ⟨p1, p2, p3⟩ := p
    rw [List.take_of_length_le (by rw [List.length_range]; exact Nat.le_refl _)] at p3
    exact hd D H' p1 p2 p3
end
end Bk
local macro_rules | `(tactic| walk_at "hp") => `(tactic| first | assumption | (refine Bk.ex_get (by assumption) ?_; walk_at "hp"))
local macro_rules | `(tactic| walk_at "sq") => `(tactic| first | assumption | (refine L2.SqL.of ?_; walk_at "hp") | (refine Evl.ex_l (by assumption) ?_; walk_at "sq"))
local macro_rules | `(tactic| walk_at "st") => `(tactic| first | assumption | (refine L2.SqT.of ?_; walk_at "hp") | (refine Evl.ex_t (by assumption) ?_; walk_at "st"))
local macro_rules | `(tactic| walk_at "ex") => `(tactic| first | assumption | exact Evl.Ex.refl _ | (refine Evl.Ex.trans (by assumption) ?_; walk_at "ex") | (refine Evl.Ex.trans ?_ (by assumption); walk_at "ex"))
local macro_rules | `(tactic| walk_at "go1") => `(tactic| with_reducible first
  | refine Bk.r_var rfl ?_ | refine Bk.r_c ?_ | refine Bk.r_seq ?_ | refine Bk.r_asg ?_ | refine Bk.r_ret ?_ | refine Bk.r_drop ?_ | refine Bk.r_if ?_ | refine Bk.r_next ?_
  | refine Bk.r_op ?_ | refine Bk.r_un ?_ | refine Bk.r_cmp ?_ | refine Bk.r_isN ?_ | refine Bk.r_notN ?_ | refine Bk.r_andV ?_ | refine Bk.r_fld ?_ | refine Bk.r_call ?_ | refine Bk.r_cb ?_ | refine Bk.r_bm ?_
  | refine Bk.r_nil ?_ | refine Bk.r_cons ?_ | refine Bk.r_lst ?_ | refine Bk.r_tup ?_ | refine Bk.r_sl ?_ | refine Bk.r_noP ?_ | refine Bk.r_part ?_
  | refine Bk.r_for ?_ | refine Bk.r_lc ?_ | refine Bk.r_rng1 ?_ | refine Bk.r_rng2 ?_ | refine Bk.r_list ?_ | refine Bk.r_enum ?_
  | refine Bk.r_tB ?_ | refine Bk.r_tTest ?_ | refine Bk.r_tNot ?_ | refine Bk.r_tAnd ?_ | refine Bk.r_tOr ?_ | refine Bk.r_yes ?_ | refine Bk.r_sub ?_ | refine Bk.r_sFld ?_ | refine Bk.r_make_t ?_
  | refine Bk.r_i0 ?_ | refine Bk.r_iu ?_ | refine Bk.r_max2 ?_ | refine Bk.k_bl ?_ | refine Bk.k_2i ?_ | refine Bk.k_int ?_ | refine Bk.k_T ?_ | refine Bk.k_F ?_)
local macro_rules | `(tactic| walk_at "go") => `(tactic| repeat (walk_at "go1"))
/-! ## Walks: codes, doughs -/
namespace Bk
open PySem PySem.Spec PyProof.Rows L2 Evl
section
variable {P : Program} {w : World} {K : PySem.W.Frag} {mg : Str → Option Value} {base : Heap} {g : G} {H : Hp} {Q : VK} {E : XK}
/-! ### is_between, is_temperature, is_baking -/
def sp_is_between : Sp := fun vs H Q _ => ∃ v l m : Int, vs = [.int v, .int l, .int m] ∧ Q (.bl (decide (l ≤ v) && decide (v ≤ m))) H
theorem u_is_between {v l m : Int} (q : Q (.bl (decide (l ≤ v) && decide (v ≤ m))) H) : sp_is_between ([.int v, .int l, .int m] ++ []) H Q E := ⟨v, l, m, rfl, q⟩
theorem ok_is_between (T : Txt K mg g) : OK_is_between P w K mg base g sp_is_between := by
  refine W_is_between T (fun vs H Q E h => ?_) (fun vs H Q E h => ?_)
  · obtain ⟨_, _, _, rfl, _⟩ := h
    rfl
  · obtain ⟨v, l, m, rfl, h⟩ := h
    unfold t_is_between
    walk_at "go"
    refine k_ite (fun e => ?_) (fun e => ?_)
    · walk_at "go"
      rw [decide_eq_true e, Bool.true_and] at h
      exact h
    · rw [decide_eq_false e, Bool.false_and] at h
      exact h
def sp_is_temperature : Sp := fun vs H Q _ => ∃ v : Int, vs = [.int v] ∧ Q (.bl (Sr98.isTemperature v)) H
theorem u_is_temperature {v : Int} (q : Q (.bl (Sr98.isTemperature v)) H) : sp_is_temperature ([.int v] ++ []) H Q E := ⟨v, rfl, q⟩
theorem ok_is_temperature (T : Txt K mg g) : OK_is_temperature P w K mg base g sp_is_temperature := by
  refine W_is_temperature T (ok_is_between T) (fun vs H Q E h => ?_) (fun vs H Q E h => ?_)
  · obtain ⟨_, rfl, _⟩ := h
    rfl
  · obtain ⟨v, rfl, h⟩ := h
    unfold t_is_temperature
    walk_at "go"
    exact u_is_between h
def sp_is_baking : Sp := fun vs H Q _ => ∃ v : Int, vs = [.int v] ∧ Q (.bl (SrCommon.inRange v 1 9)) H
theorem u_is_baking {v : Int} (q : Q (.bl (SrCommon.inRange v 1 9)) H) : sp_is_baking ([.int v] ++ []) H Q E := ⟨v, rfl, q⟩
theorem ok_is_baking (T : Txt K mg g) : OK_is_baking P w K mg base g sp_is_baking := by
  refine W_is_baking T (ok_is_between T) (fun vs H Q E h => ?_) (fun vs H Q E h => ?_)
  · obtain ⟨_, rfl, _⟩ := h
    rfl
  · obtain ⟨v, rfl, h⟩ := h
    unfold t_is_baking
    walk_at "go"
    exact u_is_between h
/-! ### rise_in -/
def sp_rise_in : Sp := fun vs H Q _ => ∃ n : Nat, vs = [natV n] ∧ Q (natV (n - 4)) H
theorem ok_rise_in (T : Txt K mg g) : OK_rise_in P w K mg base g sp_rise_in := by
  refine W_rise_in T (fun vs H Q E h => ?_) (fun vs H Q E h => ?_)
  · obtain ⟨_, rfl, _⟩ := h
    rfl
  · obtain ⟨n, rfl, h⟩ := h
    unfold t_rise_in
    walk_at "go"
    have e : (if (n : Int) - 4 > 0 then (n : Int) - 4 else 0) = ((n - 4 : Nat) : Int) := by
      split <;> omega
    rw [e]
    exact h
/-! ### risen_by -/
def sp_risen_by (g : G) : Sp := fun vs H Q _ => ∃ (A : DA) (d : Sr98.Dough) (b : Sr98.Bakery) (lt : Addr) (t : Nat), vs = [.ref A.d, .ref lt, natV t] ∧ DoughAt g H (Sr98.hours b) A d ∧ TAt H lt b ∧ t ≤ Sr98.hours b ∧ Sr98.hours b ≤ 36 ∧ d.mixedAt ≤ 36 ∧ Q (natV (Sr98.risen b d t)) H
theorem ok_risen_by (T : Txt K mg g) : OK_risen_by P w K mg base g (sp_risen_by g) := by
  refine W_risen_by T (ok_rise_in T) (fun vs H Q E h => ?_) (fun vs H Q E h => ?_)
  · obtain ⟨_, _, _, _, _, rfl, _⟩ := h
    rfl
  · obtain ⟨A, d, b, lt, t, rfl, ⟨h1, h2⟩, h3, ht, hh, hm, h⟩ := h
    unfold t_risen_by
    walk_at "go"
    refine fD1 T h1 ?_
    walk_at "go"
    refine k_rng2 ⟨by omega, by omega⟩ (fun i σ' H' => ∃ y, σ' = [some (.ref A.d), some (.ref lt), some (natV t), some (natV (Sr98.risen b d (d.mixedAt + i))), y] ∧ H' = H) ⟨none, ?_, rfl⟩ ?_ ?_
    · rw [Nat.add_zero, risen_early b d _ (Nat.le_refl _)]
      rfl
    · rintro i σ' H' hi ⟨y, rfl, rfl⟩
      walk_at "go"
      refine fD4 T h1 ?_
      walk_at "go"
      refine r_ixL (v := .bl (Sr98.isCooled d (d.mixedAt + i))) (SqL.of h2) ?_ ?_
      · rw [List.getElem?_map, cooledL_at (by omega)]
        rfl
      walk_at "go"
      have e : (b.temperatures.map natV)[d.mixedAt + i]? = some (natV (b.temperatures.getD (d.mixedAt + i) 0)) := by
        rw [List.getElem?_map, List.getD_eq_getElem?_getD, List.getElem?_eq_getElem (show d.mixedAt + i < b.temperatures.length by unfold Sr98.hours at ht; omega)]
        rfl
      refine k_iteBN (fun c => ?_) (fun c => ?_)
      · refine r_aug rfl ?_
        walk_at "go"
        refine r_ixL (SqL.of h3) e ?_
        walk_at "go"
        refine ⟨_, rfl, ?_⟩
        walk_at "go"
        refine ⟨some (natV (d.mixedAt + i)), ?_, rfl⟩
        rw [← Nat.add_assoc, risen_succ]
        unfold Sr98.rise
        rw [if_neg (by rw [c]; simp)]
        rfl
      · walk_at "go"
        refine ⟨some (natV (d.mixedAt + i)), ?_, rfl⟩
        rw [← Nat.add_assoc, risen_succ]
        unfold Sr98.rise
        rw [if_pos (.inr c)]
        rfl
    · rintro σ' H' ⟨y, rfl, rfl⟩
      walk_at "go"
      by_cases hle : d.mixedAt ≤ t
      · rw [show d.mixedAt + (t - d.mixedAt) = t by omega]
        exact h
      · rw [show d.mixedAt + (t - d.mixedAt) = d.mixedAt by omega, risen_early b d _ (Nat.le_refl _)]
        rw [risen_early b d t (by omega)] at h
        exact h
/-! ### is_ready, window_of -/
theorem dec_le (a b : Nat) : decide ((a : Int) ≤ (b : Int)) = decide (a ≤ b) := decide_eq_decide.mpr Int.ofNat_le
theorem dec_lt (a b : Nat) : decide ((a : Int) < (b : Int)) = decide (a < b) := decide_eq_decide.mpr Int.ofNat_lt
def sp_is_ready (g : G) : Sp := fun vs H Q _ => ∃ (A : DA) (d : Sr98.Dough) (b : Sr98.Bakery) (lt : Addr) (t : Nat), vs = [.ref A.d, .ref lt, natV t] ∧ DoughAt g H (Sr98.hours b) A d ∧ TAt H lt b ∧ t ≤ Sr98.hours b ∧ Sr98.hours b ≤ 36 ∧ d.mixedAt ≤ 36 ∧
  Q (.bl (decide (d.minimum ≤ Sr98.risen b d t) && decide (Sr98.risen b d t ≤ d.maximum))) H
theorem ok_is_ready (T : Txt K mg g) : OK_is_ready P w K mg base g (sp_is_ready g) := by
  refine W_is_ready T (ok_risen_by T) (fun vs H Q E h => ?_) (fun vs H Q E h => ?_)
  · obtain ⟨_, _, _, _, _, rfl, _⟩ := h
    rfl
  · obtain ⟨A, d, b, lt, t, rfl, h1, h3, ht, hh, hm, h⟩ := h
    unfold t_is_ready
    walk_at "go"
    refine ⟨A, d, b, lt, t, rfl, h1, h3, ht, hh, hm, ?_⟩
    walk_at "go"
    refine fD2 T h1.1 ?_
    walk_at "go"
    refine k_ite (fun e => ?_) (fun e => ?_)
    · walk_at "go"
      refine fD3 T h1.1 ?_
      walk_at "go"
      rw [← dec_le, decide_eq_true e, Bool.true_and, ← dec_le] at h
      exact h
    · rw [← dec_le, decide_eq_false e, Bool.false_and] at h
      exact h
def sp_window_of (g : G) : Sp := fun vs H Q _ => ∃ (A : DA) (d : Sr98.Dough) (b : Sr98.Bakery) (lt : Addr), vs = [.ref A.d, .ref lt] ∧ DoughAt g H (Sr98.hours b) A d ∧ TAt H lt b ∧ Sr98.hours b ≤ 36 ∧ d.mixedAt ≤ Sr98.hours b ∧
  ∀ v H', Ex H H' → WinV H' v (Sr98.window b d) → (∀ p, v = .ref p → H p = none) → Q v H'
theorem ok_window_of (T : Txt K mg g) : OK_window_of P w K mg base g (sp_window_of g) := by
  refine W_window_of T (ok_is_ready T) (fun vs H Q E h => ?_) (fun vs H Q E h => ?_)
  · obtain ⟨_, _, _, _, rfl, _⟩ := h
    rfl
  · obtain ⟨A, d, b, lt, rfl, h1, h3, hh, hm, h⟩ := h
    unfold t_window_of
    walk_at "go"
    refine r_lenL (SqL.of h3) ?_
    walk_at "go"
    refine fD1 T h1.1 ?_
    walk_at "go"
    have e : ((b.temperatures.map natV).length : Int) + 1 = ((Sr98.hours b + 1 : Nat) : Int) := by
      rw [List.length_map]
      rfl
    rw [e]
    refine k_lcF2 ⟨by omega, by omega⟩ (fun _ => rfl) (fun x => decide (d.minimum ≤ Sr98.risen b d x) && decide (Sr98.risen b d x ≤ d.maximum)) natV (fun x H1 _ hx e1 R r => ?_) (fun x H1 _ _ _ _ R r => ?_) (fun D H1 nD e1 hD => ?_)
    · walk_at "go"
      refine ⟨A, d, b, lt, x, rfl, h1.mono e1, e1 _ _ h3, by omega, hh, by omega, ?_⟩
      walk_at "go"
      exact r
    · walk_at "go"
      exact r
    · have hD2 : H1 D = some (.lst ((timesOf b d).map natV)) := hD
      walk_at "go"
      refine k_new (Nat.zero_le _) fun p H2 np e2 hp => ?_
      refine r_eqNilN (by walk_at "hp") hp ?_
      walk_at "go"
      rw [window_eq b d hm] at h
      refine k_ite (fun c => ?_) (fun c => ?_)
      · walk_at "go"
        refine h _ _ (by walk_at "ex") ?_ (fun p q => by cases q)
        rw [c]
        rfl
      · walk_at "go"
        obtain ⟨x, r, hx⟩ : ∃ x r, timesOf b d = x :: r := by
          cases q : timesOf b d with
          | nil => exact absurd q c
          | cons x r => exact ⟨x, r, rfl⟩
        have hl : ((timesOf b d).map natV).getLast? = some (natV ((timesOf b d).getLast?.getD x)) := by
          rw [List.getLast?_map, hx]
          rfl
        have hD3 : H2 D = some (.lst ((timesOf b d).map natV)) := by walk_at "hp"
        have hD4 := hD3
        rw [hx] at hD4
        refine r_ixL0 (SqL.of hD4) ?_
        walk_at "go"
        refine r_ixLast (SqL.of hD3) hl ?_
        walk_at "go"
        refine k_new (by show 2 ≤ sizeLine; decide) fun q H3 nq e3 hq => ?_
        refine h _ _ (by walk_at "ex") ?_ (fun p z => ?_)
        · rw [hx, List.head?_cons]
          rw [hx] at hq
          exact ⟨q, rfl, hq⟩
        · cases z
          exact ex_none e1 (ex_none e2 nq)
/-! ### cool_hours, is_cooled, cooled_count -/
def sp_cool_hours (g : G) : Sp := fun vs H Q _ => ∃ (A : DA) (d : Sr98.Dough) (n s t : Nat), vs = [.ref A.d, natV s, natV t] ∧ DoughAt g H n A d ∧ s ≤ t ∧ t ≤ n ∧ n ≤ 36 ∧
  ∀ H', Ext [A.lc] H H' → DoughAt g H' n A (Sr98.withCooling d s t) → Q .non H'
theorem ok_cool_hours (T : Txt K mg g) : OK_cool_hours P w K mg base g (sp_cool_hours g) := by
  refine W_cool_hours T (fun vs H Q E h => ?_) (fun vs H Q E h => ?_)
  · obtain ⟨_, _, _, _, _, rfl, _⟩ := h
    rfl
  · obtain ⟨A, d, n, s, t, rfl, ⟨h1, h2⟩, hst, htn, hn, h⟩ := h
    have ne : A.d ≠ A.lc := ne_of h1 h2 (by intro z; cases z)
    unfold t_cool_hours
    walk_at "go"
    refine k_rng2 ⟨by omega, by omega⟩ (fun i σ' H' => ∃ y, σ' = [some (.ref A.d), some (natV s), some (natV t), y] ∧ Ext [A.lc] H H' ∧ DObj g H' A d ∧ H' A.lc = some (.lst ((cooledTo d n s (s + i)).map V.bl))) ⟨none, rfl, Ext.refl, h1, ?_⟩ ?_ ?_
    · rw [Nat.add_zero, cooledTo_start]
      exact h2
    · rintro i σ' H' hi ⟨y, rfl, x1, x2, x3⟩
      walk_at "go"
      refine fD4 T x2 ?_
      walk_at "go"
      refine k_set x3 (by rw [List.length_map, cooledTo_len]; omega) fun H2 x4 x5 => ?_
      refine ⟨_, rfl, x1.trans x4, x4 _ _ (by simpa using ne) x2, ?_⟩
      have e := cooledTo_step d n s (s + i) (by omega)
      rw [Nat.add_assoc] at e
      rw [← e, List.map_set]
      exact x5
    · rintro σ' H' ⟨y, rfl, x1, x2, x3⟩
      rw [show s + (t - s) = t by omega, cooledTo_end d n hst] at x3
      exact h H' x1 ⟨x2, x3⟩
def sp_is_cooled (g : G) : Sp := fun vs H Q _ => ∃ (A : DA) (d : Sr98.Dough) (n : Nat), vs = [.ref A.d] ∧ DoughAt g H n A d ∧ Q (.bl ((cooledL d n).any id)) H
theorem flat_bools (l : List Bool) : (l.map V.bl).all flatV = true := by
  rw [List.all_map, List.all_eq_true]
  exact fun _ _ => rfl
theorem inV_bools (l : List Bool) : inV (.bl true) (l.map V.bl) = l.any id := by
  unfold inV
  rw [List.any_map]
  congr 1
  funext x
  cases x <;> rfl
theorem ok_is_cooled (T : Txt K mg g) : OK_is_cooled P w K mg base g (sp_is_cooled g) := by
  refine W_is_cooled T (fun vs H Q E h => ?_) (fun vs H Q E h => ?_)
  · obtain ⟨_, _, _, rfl, _⟩ := h
    rfl
  · obtain ⟨A, d, n, rfl, ⟨h1, h2⟩, h⟩ := h
    unfold t_is_cooled
    walk_at "go"
    refine fD4 T h1 ?_
    refine r_in (SqL.of h2) rfl (flat_bools _) ?_
    rw [inV_bools]
    exact h
def sp_cooled_count (g : G) : Sp := fun vs H Q _ => ∃ (A : DA) (d : Sr98.Dough) (n : Nat), vs = [.ref A.d] ∧ DoughAt g H n A d ∧ Q (natV ((List.range n).filter (Sr98.isCooled d)).length) H
theorem count_bools (l : List Bool) : (l.map V.bl).countP (fun z => eqV z (.bl true)) = l.countP id := by
  rw [List.countP_map]
  congr 1
  funext x
  cases x <;> rfl
theorem ok_cooled_count (T : Txt K mg g) : OK_cooled_count P w K mg base g (sp_cooled_count g) := by
  refine W_cooled_count T (fun vs H Q E h => ?_) (fun vs H Q E h => ?_)
  · obtain ⟨_, _, _, rfl, _⟩ := h
    rfl
  · obtain ⟨A, d, n, rfl, ⟨h1, h2⟩, h⟩ := h
    unfold t_cooled_count
    walk_at "go"
    refine fD4 T h1 ?_
    refine k_tyL (SqL.of h2) ?_
    walk_at "go"
    refine ⟨_, _, _, rfl, rfl, SqL.of h2, rfl, flat_bools _, ?_⟩
    have e : (cooledL d n).countP id = ((List.range n).filter (Sr98.isCooled d)).length := by
      unfold cooledL
      rw [List.countP_map, List.countP_eq_length_filter]
      rfl
    rw [count_bools, e]
    exact h
/-! ### a new dough, a copied one -/
def sp_Dough_init (g : G) : Sp := fun vs H Q _ => ∃ (p dx l0 : Addr) (m lo hi : Int) (bs : List V), vs = [.ref p, .int m, .int lo, .int hi, .ref l0] ∧ H p = some (.ins (g.c 0) dx []) ∧ H l0 = some (.lst bs) ∧
  ∀ H' lc, Ext [p] H H' → H lc = none → H' p = some (.ins (g.c 0) dx (dFi m lo hi lc)) → H' lc = some (.lst bs) → Q .non H'
theorem ok_Dough_init (T : Txt K mg g) : OK_Dough_init P w K mg base g (sp_Dough_init g) := by
  refine W_Dough_init T (fun vs H Q E h => ?_) (fun vs H Q E h => ?_)
  · obtain ⟨_, _, _, _, _, _, _, rfl, _⟩ := h
    rfl
  · obtain ⟨p, dx, l0, m, lo, hi, bs, rfl, h1, h2, h⟩ := h
    have ne : l0 ≠ p := ne_of h2 h1 (by intro z; cases z)
    unfold t_Dough_init
    walk_at "go"
    refine k_sfld h1 T.clDough T.nDough_mixed_at (by decide) fun H1 x1 y1 => ?_
    walk_at "go"
    refine k_sfld y1 T.clDough T.nDough_minimum (by show 1 < 1000; decide) fun H2 x2 y2 => ?_
    walk_at "go"
    refine k_sfld y2 T.clDough T.nDough_maximum (by rw [putE, put_past (by decide +kernel)]; show 2 < 1000; decide) fun H3 x3 y3 => ?_
    walk_at "go"
    have x : Ext [p] H H3 := (x1.trans x2).trans x3
    refine r_lstL (SqL.of (x l0 _ (by simpa using ne) h2)) fun lc H4 nlc e4 y4 => ?_
    walk_at "go"
    have few : (putF "maximum" (V.int hi) (putF "minimum" (V.int lo) (putF "mixed_at" (V.int m) []))).length < 1000 := by
      repeat first | rw [put_past (by decide +kernel)] | rw [putE]
      show 3 < 1000
      decide
    refine k_sfld (e4 _ _ y3) T.clDough T.nDough_cooled few fun H5 x5 y5 => ?_
    rw [newD] at y5
    have nlp : lc ≠ p := fun z => by
      rw [z, y3] at nlc
      cases nlc
    refine h H5 lc (x.trans (Ext.trans (Ext.ofEx e4) x5)) ?_ y5 (x5 _ _ (by simpa using nlp) y4)
    cases q : H lc with
    | none => rfl
    | some o =>
      rw [x lc o (by simpa using nlp) q] at nlc
      cases nlc
def sp_copied_dough (g : G) : Sp := fun vs H Q _ => ∃ (A : DA) (d : Sr98.Dough) (n : Nat), vs = [.ref A.d] ∧ DoughAt g H n A d ∧
  ∀ H' (B : DA), Ex H H' → H B.d = none → H B.lc = none → DoughAt g H' n B d → Q (.ref B.d) H'
theorem ok_copied_dough (T : Txt K mg g) : OK_copied_dough P w K mg base g (sp_copied_dough g) := by
  refine W_copied_dough T (ok_Dough_init T) (fun vs H Q E h => ?_) (fun vs H Q E h => ?_)
  · obtain ⟨_, _, _, rfl, _⟩ := h
    rfl
  · obtain ⟨A, d, n, rfl, ⟨h1, h2⟩, h⟩ := h
    unfold t_copied_dough
    walk_at "go"
    refine fD1 T h1 ?_
    walk_at "go"
    refine fD2 T h1 ?_
    walk_at "go"
    refine fD3 T h1 ?_
    walk_at "go"
    refine fD4 T h1 ?_
    walk_at "go"
    refine r_make fun x dx H1 nx ndx ne e1 y1 fr => ?_
    refine ⟨x, dx, A.lc, d.mixedAt, d.minimum, d.maximum, (cooledL d n).map V.bl, rfl, y1, e1 _ _ h2, fun H2 lc x2 nlc y2 z2 => ⟨rfl, ?_⟩⟩
    refine h H2 ⟨x, dx, lc⟩ (ex_via e1 x2 (by simpa using nx)) nx (ex_none e1 nlc) ⟨y2, z2⟩
end
end Bk
/-! ## Walks: the house -/
namespace Bk
open PySem PySem.Spec PyProof.Rows L2 Evl
section
variable {P : Program} {w : World} {K : PySem.W.Frag} {mg : Str → Option Value} {base : Heap} {g : G} {H H' : Hp} {Q : VK} {E : XK}
theorem DoughAt.ext {F : List Addr} {n : Nat} {A : DA} {d : Sr98.Dough} (x : Ext F H H') (h1 : A.d ∉ F) (h2 : A.lc ∉ F) (h : DoughAt g H n A d) : DoughAt g H' n A d := ⟨x _ _ h1 h.1, x _ _ h2 h.2⟩
theorem DoughAt.d_some {n : Nat} {A : DA} {d : Sr98.Dough} (h : DoughAt g H n A d) : H A.d ≠ none := fun z => by
  have e := h.1
  unfold DObj at e
  rw [z] at e
  cases e
theorem DoughAt.lc_some {n : Nat} {A : DA} {d : Sr98.Dough} (h : DoughAt g H n A d) : H A.lc ≠ none := fun z => by
  have e := h.2
  rw [z] at e
  cases e
theorem DoughAt.ne {n : Nat} {A : DA} {d : Sr98.Dough} (h : DoughAt g H n A d) : A.d ≠ A.lc := ne_of h.1 h.2 (by intro z; cases z)
/-! ### the house's making -/
def sp_House_init (g : G) : Sp := fun vs H Q _ => ∃ (p dx l1 l2 : Addr) (bk : Int) (xs ys : List V), vs = [.ref p, .ref l1, .int bk, .ref l2] ∧ H p = some (.ins (g.c 1) dx []) ∧ H l1 = some (.lst xs) ∧ H l2 = some (.lst ys) ∧
  ∀ H' lt ld, Ext [p] H H' → H lt = none → H ld = none → lt ≠ ld → H' p = some (.ins (g.c 1) dx (hF lt bk ld)) → H' lt = some (.lst xs) → H' ld = some (.lst ys) → Q .non H'
theorem none_ext {F : List Addr} {a : Addr} (x : Ext F H H') (n : a ∉ F) (h : H' a = none) : H a = none := by
  cases q : H a with
  | none => rfl
  | some o =>
    rw [x a o n q] at h
    cases h
theorem ok_House_init (T : Txt K mg g) : OK_House_init P w K mg base g (sp_House_init g) := by
  refine W_House_init T (fun vs H Q E h => ?_) (fun vs H Q E h => ?_)
  · obtain ⟨_, _, _, _, _, _, _, rfl, _⟩ := h
    rfl
  · obtain ⟨p, dx, l1, l2, bk, xs, ys, rfl, h0, h1, h2, h⟩ := h
    have n2 : l2 ≠ p := ne_of h2 h0 (by intro z; cases z)
    unfold t_House_init
    walk_at "go"
    refine r_lstL (SqL.of h1) fun lt H1 nlt e1 y1 => ?_
    walk_at "go"
    refine k_sfld (e1 _ _ h0) T.clHouse T.nHouse_temperatures (by decide) fun H2 x2 y2 => ?_
    walk_at "go"
    refine k_sfld y2 T.clHouse T.nHouse_baking (by show 1 < 1000; decide) fun H3 x3 y3 => ?_
    walk_at "go"
    have x13 : Ext [p] H1 H3 := x2.trans x3
    refine r_lstL (SqL.of (x13 l2 _ (by simpa using n2) (e1 _ _ h2))) fun ld H4 nld e4 y4 => ?_
    walk_at "go"
    have few : (putF "baking" (V.int bk) (putF "temperatures" (V.ref lt) [])).length < 1000 := by
      repeat first | rw [put_past (by decide +kernel)] | rw [putE]
      show 2 < 1000
      decide
    refine k_sfld (e4 _ _ y3) T.clHouse T.nHouse_doughs few fun H5 x5 y5 => ?_
    rw [newH] at y5
    have nlt2 : lt ≠ p := fun z => by
      rw [z, h0] at nlt
      cases nlt
    have nld2 : ld ≠ p := fun z => by
      rw [z, y3] at nld
      cases nld
    have y3l : H3 lt = some (.lst xs) := x13 _ _ (by simpa using nlt2) y1
    refine h H5 lt ld (Ext.trans (Ext.ofEx e1) (x13.trans (Ext.trans (Ext.ofEx e4) x5))) nlt (ex_none e1 (none_ext x13 (by simpa using nld2) nld)) (ne_of_none y3l nld) y5 (x5 _ _ (by simpa using nlt2) (e4 _ _ y3l)) (x5 _ _ (by simpa using nld2) y4)
def sp_new_house (g : G) : Sp := fun vs H Q _ => ∃ (n p : Nat), vs = [natV n, natV p] ∧ n ≤ 36 ∧
  ∀ H' (A : HA), Ex H H' → (∀ x ∈ A.foot, H x = none) → A.foot.Nodup → HouseAt g H' A ⟨List.replicate n 24, [], p⟩ → Q (.ref A.a) H'
theorem rep_flat (n : Nat) (v : V) : (List.replicate n [v]).flatten = List.replicate n v := by
  induction n with
  | zero => rfl
  | succ n ih => rw [List.replicate_succ, List.flatten_cons, ih, List.replicate_succ]; rfl
theorem ok_new_house (T : Txt K mg g) : OK_new_house P w K mg base g (sp_new_house g) := by
  refine W_new_house T (ok_House_init T) (fun vs H Q E h => ?_) (fun vs H Q E h => ?_)
  · obtain ⟨_, _, rfl, _⟩ := h
    rfl
  · obtain ⟨n, p, rfl, hn, h⟩ := h
    unfold t_new_house
    walk_at "go"
    refine k_new (by show 1 ≤ sizeLine; decide) fun l1 H1 nl1 e1 y1 => ?_
    walk_at "go"
    refine r_rep y1 ⟨by omega, by omega⟩ (by rw [sizeLine_eq]; simp; omega) fun l2 H2 nl2 e2 y2 => ?_
    walk_at "go"
    refine k_new (Nat.zero_le _) fun l3 H3 nl3 e3 y3 => ?_
    walk_at "go"
    refine r_make fun x dx H4 nx ndx ne e4 y4 fr => ?_
    have e03 : Ex H H3 := e1.trans (e2.trans e3)
    refine ⟨x, dx, l2, l3, p, _, _, rfl, y4, e4 _ _ (e3 _ _ y2), e4 _ _ y3, fun H5 lt ld x5 nlt nld nll y5 z5 u5 => ⟨rfl, ?_⟩⟩
    obtain ⟨nlt, nlx⟩ := fr _ nlt
    obtain ⟨nld, ndx2⟩ := fr _ nld
    have e05 : Ex H3 H5 := ex_via e4 x5 (by simpa using nx)
    refine h H5 ⟨x, dx, lt, ld, []⟩ (e03.trans e05) ?_ ?_ ⟨y5, ?_, u5, Fa2.nil⟩
    · intro y hy
      have hy : y = x ∨ y = lt ∨ y = ld := by simpa [HA.foot] using hy
      rcases hy with rfl | rfl | rfl
      · exact ex_none e03 nx
      · exact ex_none e03 nlt
      · exact ex_none e03 nld
    · simp [HA.foot, nlx.symm, ndx2.symm, nll]
    · rw [Int.toNat_natCast, rep_flat] at z5
      refine z5.trans ?_
      show _ = some (HO.lst ((List.replicate n 24).map natV))
      rw [List.map_replicate]
      rfl
/-! ### hours_of, has_dough -/
def sp_hours_of (g : G) : Sp := fun vs H Q _ => ∃ (A : HA) (b : Sr98.Bakery), vs = [.ref A.a] ∧ HouseAt g H A b ∧ Q (natV (Sr98.hours b)) H
theorem u_hours_of {A : HA} {b : Sr98.Bakery} (h : HouseAt g H A b) (q : Q (natV (Sr98.hours b)) H) : sp_hours_of g ([.ref A.a] ++ []) H Q E := ⟨A, b, rfl, h, q⟩
theorem ok_hours_of (T : Txt K mg g) : OK_hours_of P w K mg base g (sp_hours_of g) := by
  refine W_hours_of T (fun vs H Q E h => ?_) (fun vs H Q E h => ?_)
  · obtain ⟨_, _, rfl, _⟩ := h
    rfl
  · obtain ⟨A, b, rfl, h1, h⟩ := h
    unfold t_hours_of
    walk_at "go"
    refine fH1 T h1.obj ?_
    walk_at "go"
    refine r_lenL (SqL.of h1.tmp) ?_
    rw [List.length_map]
    exact h
def sp_has_dough (g : G) : Sp := fun vs H Q _ => ∃ (A : HA) (b : Sr98.Bakery) (i : Int), vs = [.ref A.a, .int i] ∧ HouseAt g H A b ∧ Q (.bl (Sr98.isDough b i)) H
theorem u_has_dough {A : HA} {b : Sr98.Bakery} {i : Int} (h : HouseAt g H A b) (q : Q (.bl (Sr98.isDough b i)) H) : sp_has_dough g ([.ref A.a, .int i] ++ []) H Q E := ⟨A, b, i, rfl, h, q⟩
theorem HouseAt.len {A : HA} {b : Sr98.Bakery} (h : HouseAt g H A b) : A.ds.length = b.doughs.length := h.dos.1
theorem ok_has_dough (T : Txt K mg g) : OK_has_dough P w K mg base g (sp_has_dough g) := by
  refine W_has_dough T (fun vs H Q E h => ?_) (fun vs H Q E h => ?_)
  · obtain ⟨_, _, _, rfl, _⟩ := h
    rfl
  · obtain ⟨A, b, i, rfl, h1, h⟩ := h
    unfold t_has_dough
    walk_at "go"
    have h : Q (.bl (decide (0 ≤ i) && decide (i < (b.doughs.length : Int)))) H := h
    refine k_ite (fun e => ?_) (fun e => ?_)
    · walk_at "go"
      refine fH3 T h1.obj ?_
      walk_at "go"
      refine r_lenL (SqL.of h1.lst) ?_
      walk_at "go"
      rw [List.length_map, h1.len]
      rw [decide_eq_true e, Bool.true_and] at h
      exact h
    · rw [decide_eq_false e, Bool.false_and] at h
      exact h
/-! ### windows_of -/

def sp_windows_of (g : G) : Sp := fun vs H Q _ => ∃ (A : HA) (b : Sr98.Bakery), vs = [.ref A.a] ∧ HouseAt g H A b ∧ Sr98.hours b ≤ 36 ∧ (∀ d ∈ b.doughs, d.mixedAt ≤ Sr98.hours b) ∧ b.doughs.length ≤ 6 ∧
  ∀ W H', Ex H H' → H W = none → WinsAt H' W (wins b) → Q (.ref W) H'
theorem WinV.upd {v : V} {w : Win} {D : Addr} {xs ys : List V} (hD : H D = some (.lst xs)) (h : WinV H v w) : WinV (upd H D (.lst ys)) v w := by
  cases w with
  | none => exact h
  | some x =>
    obtain ⟨p, h1, h2⟩ := h
    refine ⟨p, h1, ?_⟩
    rw [upd_ne (ne_of h2 hD (by intro z; cases z))]
    exact h2
theorem ds_at {A : HA} {i : Nat} {x : V} (h : (A.ds.map fun x => V.ref x.d)[i]? = some x) : ∃ B, A.ds[i]? = some B ∧ x = .ref B.d := by
  rw [List.getElem?_map] at h
  cases e : A.ds[i]? with
  | none =>
    rw [e] at h
    cases h
  | some B =>
    rw [e] at h
    cases h
    exact ⟨B, rfl, rfl⟩
theorem HouseAt.dough {A : HA} {b : Sr98.Bakery} (h : HouseAt g H A b) {i : Nat} {B : DA} (e : A.ds[i]? = some B) : ∃ d, b.doughs[i]? = some d ∧ DoughAt g H (Sr98.hours b) B d := by
  have hi : i < A.ds.length := (List.getElem?_eq_some_iff.mp e).1
  have hb : i < b.doughs.length := by
    rw [← h.len]
    exact hi
  exact ⟨b.doughs[i], List.getElem?_eq_getElem hb, h.dos.2 i _ _ e (List.getElem?_eq_getElem hb)⟩
theorem take_more {α : Type} {l : List α} {i : Nat} {x : α} (h : l[i]? = some x) : l.take (i + 1) = l.take i ++ [x] := by
  rw [List.take_add_one, h]
  rfl
theorem ok_windows_of (T : Txt K mg g) : OK_windows_of P w K mg base g (sp_windows_of g) := by
  refine W_windows_of T (ok_window_of T) (fun vs H Q E h => ?_) (fun vs H Q E h => ?_)
  · obtain ⟨_, _, rfl, _⟩ := h
    rfl
  · obtain ⟨A, b, rfl, h1, hh, hm, hz, h⟩ := h
    unfold t_windows_of
    walk_at "go"
    refine fH3 T h1.obj ?_
    refine k_lcL (SqL.of h1.lst) (fun _ => rfl) (fun D i H' => H D = none ∧ Ex H H' ∧ ∃ vs, H' D = some (.lst vs) ∧ Fa2 (WinV H') vs ((wins b).take i)) (fun D H' n e q => ⟨n, e, [], q, Fa2.nil⟩)
      (fun D i H' _ p => ex_l p.2.1 (SqL.of h1.lst)) (fun D i x H' hi p => ?_) (fun D H' p => ?_)
    · obtain ⟨B, hB, rfl⟩ := ds_at hi
      obtain ⟨d, hd, hd2⟩ := h1.dough hB
      obtain ⟨nD, e1, vs, hvs, hf⟩ := p
      have hib : i < b.doughs.length := (List.getElem?_eq_some_iff.mp hd).1
      walk_at "go"
      refine fH1 T (e1 _ _ h1.obj) ?_
      walk_at "go"
      refine ⟨B, d, b, A.lt, rfl, hd2.mono e1, e1 _ _ h1.tmp, hh, hm d (List.mem_of_getElem? hd), fun v H2 e2 hv _ => ?_⟩
      have hD2 : H2 D = some (.lst vs) := e2 _ _ hvs
      have hl : vs.length = i := by rw [hf.1, List.length_take]; simp [wins]; omega
      refine ⟨vs, hD2, by rw [hl, sizeLine_eq]; omega, nD, ex_upd (e1.trans e2) nD, vs ++ [v], upd_same, ?_⟩
      rw [take_more (x := Sr98.window b d) (by unfold wins; rw [List.getElem?_map, hd]; rfl)]
      exact Fa2.snoc (hf.mono fun _ _ z => (z.mono e2).upd hD2) (hv.upd hD2)
    · obtain ⟨nD, e1, vs, hvs, hf⟩ := p
      rw [List.length_map, h1.len, List.take_of_length_le (by simp [wins])] at hf
      exact h D H' e1 nD ⟨vs, hvs, hf⟩
/-! ### a copied house -/
theorem HouseAt.foot_some {A : HA} {b : Sr98.Bakery} (h : HouseAt g H A b) : ∀ x ∈ A.foot, H x ≠ none := fun x hx z => by
  have hx : x = A.a ∨ x = A.lt ∨ x = A.ld ∨ (∃ B ∈ A.ds, B.d = x) ∨ ∃ B ∈ A.ds, B.lc = x := by simpa [HA.foot] using hx
  rcases hx with rfl | rfl | rfl | ⟨B, hB, rfl⟩ | ⟨B, hB, rfl⟩
  · have e := h.obj
    unfold HObj at e
    rw [z] at e
    cases e
  · have e := h.tmp
    unfold TAt at e
    rw [z] at e
    cases e
  · have e := h.lst
    rw [z] at e
    cases e
  · obtain ⟨i, hi⟩ := List.getElem?_of_mem hB
    obtain ⟨d, _, hd⟩ := h.dough hi
    exact hd.d_some z
  · obtain ⟨i, hi⟩ := List.getElem?_of_mem hB
    obtain ⟨d, _, hd⟩ := h.dough hi
    exact hd.lc_some z
def sp_copied_house (g : G) : Sp := fun vs H Q _ => ∃ (A : HA) (b : Sr98.Bakery), vs = [.ref A.a] ∧ HouseAt g H A b ∧ b.doughs.length ≤ 6 ∧
  ∀ H' (A' : HA), Ex H H' → (∀ x ∈ A'.foot, H x = none) → A'.foot.Nodup → HouseAt g H' A' b → Q (.ref A'.a) H'
/-- some doughs that are new over H, at places of their own -/
structure NewDs (H : Hp) (D : Addr) (Bs : List DA) : Prop where
  fr : ∀ B ∈ Bs, H B.d = none ∧ H B.lc = none ∧ B.d ≠ D ∧ B.lc ≠ D
  nd : (Bs.map DA.d ++ Bs.map DA.lc).Nodup
theorem ok_copied_house (T : Txt K mg g) : OK_copied_house P w K mg base g (sp_copied_house g) := by
  refine W_copied_house T (ok_House_init T) (ok_copied_dough T) (fun vs H Q E h => ?_) (fun vs H Q E h => ?_)
  · obtain ⟨_, _, rfl, _⟩ := h
    rfl
  · obtain ⟨A, b, rfl, h1, hz, h⟩ := h
    unfold t_copied_house
    walk_at "go"
    refine fH1 T h1.obj ?_
    walk_at "go"
    refine fH2 T h1.obj ?_
    walk_at "go"
    refine fH3 T h1.obj ?_
    refine k_lcL (SqL.of h1.lst) (fun _ => rfl) (fun D i H' => H D = none ∧ Ex H H' ∧ ∃ Bs, H' D = some (.lst (Bs.map fun x => V.ref x.d)) ∧ Fa2 (DoughAt g H' (Sr98.hours b)) Bs (b.doughs.take i) ∧ NewDs H D Bs)
      (fun D H' n e q => ⟨n, e, [], q, Fa2.nil, ⟨fun _ z => absurd z (by simp), List.nodup_nil⟩⟩) (fun D i H' _ p => ex_l p.2.1 (SqL.of h1.lst)) (fun D i x H' hi p => ?_) (fun D H' p => ?_)
    · obtain ⟨B, hB, rfl⟩ := ds_at hi
      obtain ⟨d, hd, hd2⟩ := h1.dough hB
      obtain ⟨nD, e1, Bs, hBs, hf, hn⟩ := p
      have hib : i < b.doughs.length := (List.getElem?_eq_some_iff.mp hd).1
      walk_at "go"
      refine ⟨B, d, Sr98.hours b, rfl, hd2.mono e1, fun H2 C e2 nC1 nC2 hC => ?_⟩
      have hD2 := e2 _ _ hBs
      have hl : Bs.length = i := by rw [hf.1, List.length_take]; omega
      have cD1 : C.d ≠ D := fun z => by
        rw [z, hBs] at nC1
        cases nC1
      have cD2 : C.lc ≠ D := fun z => by
        rw [z, hBs] at nC2
        cases nC2
      refine ⟨_, hD2, by rw [List.length_map, hl, sizeLine_eq]; omega, nD, ex_upd (e1.trans e2) nD, Bs ++ [C], ?_, ?_, ?_, ?_⟩
      · rw [upd_same, List.map_append]
        rfl
      · rw [take_more hd]
        refine Fa2.snoc ⟨hf.1, fun j X y a b' => ?_⟩ (hC.ext (F := [D]) (Ext.upd (by simp)) (by simpa using cD1) (by simpa using cD2))
        have hX := hn.fr X (List.mem_of_getElem? a)
        exact ((hf.2 j X y a b').mono e2).ext (F := [D]) (Ext.upd (by simp)) (by simpa using hX.2.2.1) (by simpa using hX.2.2.2)
      · intro X hX
        rcases List.mem_append.mp hX with hX | hX
        · exact hn.fr X hX
        · rw [List.mem_singleton.mp hX]
          exact ⟨ex_none e1 nC1, ex_none e1 nC2, cD1, cD2⟩
      · have old : ∀ X ∈ Bs, H' X.d ≠ none ∧ H' X.lc ≠ none := fun X hX => by
          obtain ⟨j, hj⟩ := List.getElem?_of_mem hX
          have hjl : j < (b.doughs.take i).length := by
            rw [← hf.1]
            exact (List.getElem?_eq_some_iff.mp hj).1
          have q := hf.2 j X _ hj (List.getElem?_eq_getElem hjl)
          exact ⟨q.d_some, q.lc_some⟩
        have hnd := hn.nd
        have neC := hC.ne
        rw [List.nodup_append] at hnd
        rw [List.map_append, List.map_append, List.map_singleton, List.map_singleton, List.nodup_append]
        refine ⟨?_, ?_, ?_⟩
        · rw [List.nodup_append]
          refine ⟨hnd.1, by simp, fun a ha c hc => ?_⟩
          obtain ⟨X, hX, rfl⟩ := List.mem_map.mp ha
          rw [List.mem_singleton.mp hc]
          exact fun z => (old X hX).1 (by rw [z]; exact nC1)
        · rw [List.nodup_append]
          refine ⟨hnd.2.1, by simp, fun a ha c hc => ?_⟩
          obtain ⟨X, hX, rfl⟩ := List.mem_map.mp ha
          rw [List.mem_singleton.mp hc]
          exact fun z => (old X hX).2 (by rw [z]; exact nC2)
        · intro a ha c hc
          rcases List.mem_append.mp ha with ha | ha
          · rcases List.mem_append.mp hc with hc | hc
            · exact hnd.2.2 a ha c hc
            · obtain ⟨X, hX, rfl⟩ := List.mem_map.mp ha
              rw [List.mem_singleton.mp hc]
              exact fun z => (old X hX).1 (by rw [z]; exact nC2)
          · rw [List.mem_singleton.mp ha]
            rcases List.mem_append.mp hc with hc | hc
            · obtain ⟨X, hX, rfl⟩ := List.mem_map.mp hc
              exact fun z => (old X hX).2 (by rw [← z]; exact nC1)
            · rw [List.mem_singleton.mp hc]
              exact neC
    · obtain ⟨nD, e1, Bs, hBs, hf, hn⟩ := p
      rw [List.length_map, h1.len, List.take_length] at hf
      walk_at "go"
      refine r_make fun x dx H2 nx ndx ne e2 y2 fr => ?_
      refine ⟨x, dx, A.lt, D, b.bakingTime, _, _, rfl, y2, e2 _ _ (e1 _ _ h1.tmp), e2 _ _ hBs, fun H3 lt ld x3 nlt nld nll y3 z3 u3 => ⟨rfl, ?_⟩⟩
      obtain ⟨nlt, nlx⟩ := fr _ nlt
      obtain ⟨nld, ndx2⟩ := fr _ nld
      have e3 : Ex H' H3 := ex_via e2 x3 (by simpa using nx)
      have old : ∀ X ∈ Bs, H' X.d ≠ none ∧ H' X.lc ≠ none := fun X hX => by
        obtain ⟨j, hj⟩ := List.getElem?_of_mem hX
        have hjl : j < b.doughs.length := by
          rw [← hf.1]
          exact (List.getElem?_eq_some_iff.mp hj).1
        have q := hf.2 j X _ hj (List.getElem?_eq_getElem hjl)
        exact ⟨q.d_some, q.lc_some⟩
      refine h H3 ⟨x, dx, lt, ld, Bs⟩ (e1.trans e3) ?_ ?_ ⟨y3, z3, u3, hf.mono fun _ _ z => z.mono e3⟩
      · intro y hy
        have hy : y = x ∨ y = lt ∨ y = ld ∨ (∃ B ∈ Bs, B.d = y) ∨ ∃ B ∈ Bs, B.lc = y := by simpa [HA.foot] using hy
        rcases hy with rfl | rfl | rfl | ⟨B, hB, rfl⟩ | ⟨B, hB, rfl⟩
        · exact ex_none e1 nx
        · exact ex_none e1 nlt
        · exact ex_none e1 nld
        · exact (hn.fr B hB).1
        · exact (hn.fr B hB).2.1
      · have nn : ∀ y, H' y = none → y ∉ Bs.map DA.d ++ Bs.map DA.lc := fun y hy hm => by
          rcases List.mem_append.mp hm with hm | hm
          · obtain ⟨X, hX, rfl⟩ := List.mem_map.mp hm
            exact (old X hX).1 hy
          · obtain ⟨X, hX, rfl⟩ := List.mem_map.mp hm
            exact (old X hX).2 hy
        show (x :: lt :: ld :: (Bs.map DA.d ++ Bs.map DA.lc)).Nodup
        rw [List.nodup_cons, List.nodup_cons, List.nodup_cons]
        refine ⟨fun z => ?_, fun z => ?_, nn _ nld, hn.nd⟩
        · rcases List.mem_cons.mp z with z | z
          · exact nlx z.symm
          · rcases List.mem_cons.mp z with z | z
            · exact ndx2 z.symm
            · exact nn _ nx z
        · rcases List.mem_cons.mp z with z | z
          · exact nll z
          · exact nn _ nlt z
end
end Bk
/-! ## Walks: the changes -/
namespace Bk
open PySem PySem.Spec PyProof.Rows L2 Evl
section
variable {P : Program} {w : World} {K : PySem.W.Frag} {mg : Str → Option Value} {base : Heap} {g : G} {H H' : Hp} {Q : VK} {E : XK}
/-- what a house has stands at places of their own -/
structure Sep (A : HA) : Prop where
  al : A.a ≠ A.lt
  ad : A.a ≠ A.ld
  ll : A.lt ≠ A.ld
  d : ∀ B ∈ A.ds, B.d ≠ A.a ∧ B.d ≠ A.lt ∧ B.d ≠ A.ld ∧ B.lc ≠ A.a ∧ B.lc ≠ A.lt ∧ B.lc ≠ A.ld
  dl : ∀ B ∈ A.ds, ∀ C ∈ A.ds, B.d ≠ C.lc
  dd : ∀ (i j : Nat) (B C : DA), A.ds[i]? = some B → A.ds[j]? = some C → i ≠ j → B.d ≠ C.d ∧ B.lc ≠ C.lc
theorem nodup_at {α : Type} {l : List α} (h : l.Nodup) {i j : Nat} {x y : α} (a : l[i]? = some x) (b : l[j]? = some y) (n : i ≠ j) : x ≠ y := fun e => by
  subst e
  exact n (nd_ix h a b)
theorem Sep.of {A : HA} (h : A.foot.Nodup) : Sep A := by
  unfold HA.foot at h
  rw [List.nodup_cons, List.nodup_cons, List.nodup_cons, List.nodup_append] at h
  obtain ⟨h1, h2, h3, h4, h5, h6⟩ := h
  simp only [List.mem_cons, List.mem_append, List.mem_map, not_or, not_exists, not_and] at h1 h2 h3
  refine ⟨h1.1, h1.2.1, h2.1, fun B hB => ⟨fun z => h1.2.2.1 B hB z, fun z => h2.2.1 B hB z, fun z => h3.1 B hB z, fun z => h1.2.2.2 B hB z, fun z => h2.2.2 B hB z, fun z => h3.2 B hB z⟩,
    fun B hB C hC => h6 _ (List.mem_map_of_mem hB) _ (List.mem_map_of_mem hC), fun i j B C hi hj n => ⟨?_, ?_⟩⟩
  · exact nodup_at h4 (i := i) (j := j) (by rw [List.getElem?_map, hi]; rfl) (by rw [List.getElem?_map, hj]; rfl) n
  · exact nodup_at h5 (i := i) (j := j) (by rw [List.getElem?_map, hi]; rfl) (by rw [List.getElem?_map, hj]; rfl) n
theorem mem_foot {A : HA} {x : Addr} : x ∈ A.foot ↔ x = A.a ∨ x = A.lt ∨ x = A.ld ∨ (∃ B ∈ A.ds, B.d = x) ∨ ∃ B ∈ A.ds, B.lc = x := by simp [HA.foot]
theorem foot_d {A : HA} {B : DA} (h : B ∈ A.ds) : B.d ∈ A.foot := mem_foot.mpr (.inr (.inr (.inr (.inl ⟨B, h, rfl⟩))))
theorem foot_lc {A : HA} {B : DA} (h : B ∈ A.ds) : B.lc ∈ A.foot := mem_foot.mpr (.inr (.inr (.inr (.inr ⟨B, h, rfl⟩))))
/-- a house over a heap where something changed: what is left is as it was -/
theorem HouseAt.ext {F : List Addr} {A : HA} {b : Sr98.Bakery} (h : HouseAt g H A b) (x : Ext F H H') (n : ∀ y ∈ A.foot, y ∉ F) : HouseAt g H' A b :=
  ⟨x _ _ (n _ (mem_foot.mpr (.inl rfl))) h.obj, x _ _ (n _ (mem_foot.mpr (.inr (.inl rfl)))) h.tmp, x _ _ (n _ (mem_foot.mpr (.inr (.inr (.inl rfl))))) h.lst, h.dos.1, fun i B d e1 e2 =>
    (h.dos.2 i B d e1 e2).ext x (n _ (foot_d (List.mem_of_getElem? e1))) (n _ (foot_lc (List.mem_of_getElem? e1)))⟩
/-- the temperatures changed -/
theorem HouseAt.temps {A : HA} {b : Sr98.Bakery} (h : HouseAt g H A b) (S : Sep A) (x : Ext [A.lt] H H') {ts : List Nat} (e : H' A.lt = some (.lst (ts.map natV))) (hl : ts.length = b.temperatures.length) : HouseAt g H' A { b with temperatures := ts } := by
  have ds := h.dos
  refine ⟨x _ _ (by simpa using S.al) h.obj, e, x _ _ (by simpa using S.ll.symm) h.lst, ds.1, fun i B d e1 e2 => ?_⟩
  have q := S.d B (List.mem_of_getElem? e1)
  have r := (ds.2 i B d e1 e2).ext x (by simpa using q.2.1) (by simpa using q.2.2.2.2.1)
  rw [show Sr98.hours { b with temperatures := ts } = Sr98.hours b from hl]
  exact r
/-- what a changing call promises: the house is b' then, the answer r -/
def Mutd (g : G) (A : HA) (b' : Sr98.Bakery) (r : List Int) (H : Hp) (Q : VK) : Prop := ∀ p H' (A' : HA), Ext A.foot H H' → (∀ x ∈ A'.foot, x ∈ A.foot ∨ H x = none) → Sep A' → A'.a = A.a → HouseAt g H' A' b' → H p = none → H' p = some (.lst (r.map V.int)) → Q (.ref p) H'
/-- what an asking call promises -/
def Askd (r : List Int) (H : Hp) (Q : VK) : Prop := ∀ p H', Ex H H' → H p = none → H' p = some (.lst (r.map V.int)) → Q (.ref p) H'
theorem Mutd.ask {A : HA} {b : Sr98.Bakery} {r : List Int} (S : Sep A) (h : HouseAt g H A b) (m : Mutd g A b r H Q) : Askd r H Q := fun p H' e np hp => m p H' A (Ext.ofEx e) (fun x hx => .inl hx) S rfl (h.mono e) np hp
abbrev MutC (g : G) (A : HA) (b : Sr98.Bakery) (c : Sr98.Call) (H : Hp) (Q : VK) : Prop := Mutd g A (done b c) (told b c) H Q
theorem MutC.fail {A : HA} {b : Sr98.Bakery} {c : Sr98.Call} {r : SrCommon.Result} (e : Sr98.perform b c = (none, r)) (S : Sep A) (h : HouseAt g H A b) (m : MutC g A b c H Q) : Askd (res r) H Q := by
  unfold MutC done told at m
  rw [e] at m
  exact m.ask S h
theorem MutC.go {A : HA} {b b' : Sr98.Bakery} {c : Sr98.Call} {r : SrCommon.Result} (e : Sr98.perform b c = (some b', r)) (m : MutC g A b c H Q) : Mutd g A b' (res r) H Q := by
  unfold MutC done told at m
  rw [e] at m
  exact m
/-- a list of one number is answered -/
theorem Askd.one {v : Int} (m : Askd [v] H Q) : NewO [V.int v].length (.lst [V.int v]) H Q := k_new (by show 1 ≤ sizeLine; decide) fun p H1 np e1 y1 => m p H1 e1 np y1
/-! ### set_temperature -/
def sp_set_temperature (g : G) : Sp := fun vs H Q _ => ∃ (A : HA) (b : Sr98.Bakery) (t x : Int), vs = [.ref A.a, .int t, .int x] ∧ HouseAt g H A b ∧ Sep A ∧ MutC g A b (.setTemperature t x) H Q
theorem ok_set_temperature (T : Txt K mg g) : OK_set_temperature P w K mg base g (sp_set_temperature g) := by
  refine W_set_temperature T (ok_is_between T) (ok_is_temperature T) (ok_hours_of T) (fun vs H Q E h => ?_) (fun vs H Q E h => ?_)
  · obtain ⟨_, _, _, _, rfl, _⟩ := h
    rfl
  · obtain ⟨A, b, t, x, rfl, h1, S, h⟩ := h
    unfold t_set_temperature
    walk_at "go"
    refine u_hours_of h1 ?_
    walk_at "go"
    refine u_is_between ?_
    walk_at "go"
    rw [hour_eq]
    refine k_iteBN (fun c => ?_) (fun c => ?_)
    · walk_at "go"
      exact (h.fail (r := .ofCode (-2)) (by simp [Sr98.perform, c, SrCommon.notFound]) S h1).one
    · walk_at "go"
      refine u_is_temperature ?_
      walk_at "go"
      refine k_iteBN (fun c2 => ?_) (fun c2 => ?_)
      · walk_at "go"
        exact (h.fail (r := .ofCode (-22)) (by simp [Sr98.perform, c, c2, SrCommon.invalidArgument]) S h1).one
      · obtain ⟨j, rfl, hj⟩ := hour_nat c
        obtain ⟨y, rfl⟩ := temp_nat c2
        walk_at "go"
        refine fH1 T h1.obj ?_
        walk_at "go"
        have ht := h1.tmp
        have hj2 : j < b.temperatures.length := hj
        refine r_ixL (v := natV (b.temperatures.getD j 0)) (SqL.of ht) ?_ ?_
        · rw [List.getElem?_map, List.getD_eq_getElem?_getD, List.getElem?_eq_getElem hj2]
          rfl
        walk_at "go"
        refine fH1 T h1.obj ?_
        walk_at "go"
        refine k_set ht (by rw [List.length_map]; exact hj2) fun H1 x1 y1 => ?_
        walk_at "go"
        refine k_new (by show 1 ≤ sizeLine; decide) fun p H2 np e2 y2 => ?_
        have hh : HouseAt g H1 A { b with temperatures := b.temperatures.set j y } := h1.temps S x1 (by rw [List.map_set]; exact y1) (by simp)
        have q := h.go (b' := { b with temperatures := b.temperatures.set j y }) (r := .ofCode (b.temperatures.getD j 0 : Nat)) (by simp [Sr98.perform, c, c2])
        refine q p H2 A (Ext.trans (Ext.mono (fun z hz => ?_) x1) (Ext.ofEx e2)) (fun z hz => .inl hz) S rfl (hh.mono e2) (none_ext x1 (fun z => ?_) np) y2
        · rw [List.mem_singleton.mp hz]
          exact mem_foot.mpr (.inr (.inl rfl))
        · rw [List.mem_singleton.mp z, y1] at np
          cases np
/-! ### set_temperatures -/
def sp_set_temperatures (g : G) : Sp := fun vs H Q _ => ∃ (A : HA) (b : Sr98.Bakery) (s t x : Int), vs = [.ref A.a, .int s, .int t, .int x] ∧ HouseAt g H A b ∧ Sep A ∧ Sr98.hours b ≤ 36 ∧ MutC g A b (.setTemperatures s t x) H Q
theorem ok_set_temperatures (T : Txt K mg g) : OK_set_temperatures P w K mg base g (sp_set_temperatures g) := by
  refine W_set_temperatures T (ok_hours_of T) (ok_is_temperature T) (fun vs H Q E h => ?_) (fun vs H Q E h => ?_)
  · obtain ⟨_, _, _, _, _, rfl, _⟩ := h
    rfl
  · obtain ⟨A, b, s, t, x, rfl, h1, S, hh, h⟩ := h
    unfold t_set_temperatures
    have bad : (s < 0 ∨ t < s ∨ (Sr98.hours b : Int) < t ∨ Sr98.isTemperature x = false) → Askd [-22] H Q := fun c => h.fail (r := .ofCode (-22)) (by simp only [Sr98.perform]; rw [if_pos c]; rfl) S h1
    walk_at "go"
    refine k_ite (fun c => ?_) (fun c1 => ?_)
    · walk_at "go"
      exact (bad (.inl c)).one
    walk_at "go"
    refine k_ite (fun c => ?_) (fun c2 => ?_)
    · walk_at "go"
      exact (bad (.inr (.inl c))).one
    walk_at "go"
    refine u_hours_of h1 ?_
    walk_at "go"
    refine k_ite (fun c => ?_) (fun c3 => ?_)
    · walk_at "go"
      exact (bad (.inr (.inr (.inl c)))).one
    walk_at "go"
    refine u_is_temperature ?_
    walk_at "go"
    refine k_iteBN (fun c => ?_) (fun c4 => ?_)
    · walk_at "go"
      exact (bad (.inr (.inr (.inr c)))).one
    obtain ⟨y, rfl⟩ := temp_nat c4
    obtain ⟨j, rfl⟩ : ∃ j : Nat, s = (j : Int) := ⟨s.toNat, by omega⟩
    obtain ⟨k, rfl⟩ : ∃ k : Nat, t = (k : Int) := ⟨t.toNat, by omega⟩
    have hk : k ≤ Sr98.hours b := by omega
    walk_at "go"
    refine k_rng2 ⟨by omega, by omega⟩ (fun i σ' H' => ∃ z, σ' = [some (.ref A.a), some (natV j), some (natV k), some (natV y), z] ∧ Ext [A.lt] H H' ∧ H' A.lt = some (.lst ((tempsTo b.temperatures j (j + i) y).map natV))) ⟨none, rfl, Ext.refl, ?_⟩ ?_ ?_
    · rw [Nat.add_zero, tempsTo_start]
      exact h1.tmp
    · rintro i σ' H' hi ⟨z, rfl, x1, x2⟩
      walk_at "go"
      refine fH1 T (x1 _ _ (by simpa using S.al) h1.obj) ?_
      walk_at "go"
      refine k_set x2 (by rw [List.length_map, tempsTo_len]; unfold Sr98.hours at hk; omega) fun H2 x3 x4 => ?_
      refine ⟨_, rfl, x1.trans x3, ?_⟩
      have e := tempsTo_step b.temperatures j (j + i) y (by omega)
      rw [Nat.add_assoc] at e
      rw [← e, List.map_set]
      exact x4
    · rintro σ' H' ⟨z, rfl, x1, x2⟩
      rw [show j + (k - j) = k by omega] at x2
      walk_at "go"
      refine k_new (by show 1 ≤ sizeLine; decide) fun p H2 np e2 y2 => ?_
      have hh : HouseAt g H' A { b with temperatures := tempsTo b.temperatures j k y } := h1.temps S x1 x2 (tempsTo_len _ _ _ _)
      have q := h.go (b' := { b with temperatures := tempsTo b.temperatures j k y }) (r := .ofCode ((k : Int) - (j : Int))) (by
        simp only [Sr98.perform]
        rw [if_neg (by rw [c4]; simp; omega)]
        rfl)
      refine q p H2 A (Ext.trans (Ext.mono (fun z hz => ?_) x1) (Ext.ofEx e2)) (fun z hz => .inl hz) S rfl (hh.mono e2) (none_ext x1 (fun z => ?_) np) y2
      · rw [List.mem_singleton.mp hz]
        exact mem_foot.mpr (.inr (.inl rfl))
      · rw [List.mem_singleton.mp z, x2] at np
        cases np
/-! ### add_dough -/
def sp_is_new_dough (g : G) : Sp := fun vs H Q _ => ∃ (A : HA) (b : Sr98.Bakery) (m lo hi : Int), vs = [.ref A.a, .int m, .int lo, .int hi] ∧ HouseAt g H A b ∧
  Q (.bl (Sr98.isHour b m && (decide (1 ≤ lo) && (decide (lo ≤ hi) && decide (hi ≤ 999))))) H
theorem ok_is_new_dough (T : Txt K mg g) : OK_is_new_dough P w K mg base g (sp_is_new_dough g) := by
  refine W_is_new_dough T (ok_is_between T) (ok_hours_of T) (fun vs H Q E h => ?_) (fun vs H Q E h => ?_)
  · obtain ⟨_, _, _, _, _, rfl, _⟩ := h
    rfl
  · obtain ⟨A, b, m, lo, hi, rfl, h1, h⟩ := h
    unfold t_is_new_dough
    walk_at "go"
    refine u_hours_of h1 ?_
    walk_at "go"
    refine u_is_between ?_
    walk_at "go"
    rw [hour_eq]
    refine k_iteBN (fun c => ?_) (fun c => ?_)
    · walk_at "go"
      rw [c, Bool.false_and] at h
      exact h
    · rw [c, Bool.true_and] at h
      walk_at "go"
      refine k_ite (fun c1 => ?_) (fun c1 => ?_)
      · rw [decide_eq_true c1, Bool.true_and] at h
        walk_at "go"
        refine k_ite (fun c2 => ?_) (fun c2 => ?_)
        · rw [decide_eq_true c2, Bool.true_and] at h
          walk_at "go"
          exact h
        · rw [decide_eq_false c2, Bool.false_and] at h
          exact h
      · rw [decide_eq_false c1, Bool.false_and] at h
        exact h
def sp_add_dough (g : G) : Sp := fun vs H Q _ => ∃ (A : HA) (b : Sr98.Bakery) (m lo hi : Int), vs = [.ref A.a, .int m, .int lo, .int hi] ∧ HouseAt g H A b ∧ Sep A ∧ WF b ∧ MutC g A b (.addDough m lo hi) H Q
theorem ok_add_dough (T : Txt K mg g) : OK_add_dough P w K mg base g (sp_add_dough g) := by
  refine W_add_dough T (ok_is_new_dough T) (ok_Dough_init T) (ok_hours_of T) (fun vs H Q E h => ?_) (fun vs H Q E h => ?_)
  · obtain ⟨_, _, _, _, _, rfl, _⟩ := h
    rfl
  · obtain ⟨A, b, m, lo, hi, rfl, h1, S, hw, h⟩ := h
    unfold t_add_dough
    walk_at "go"
    refine ⟨A, b, m, lo, hi, rfl, h1, ?_⟩
    walk_at "go"
    refine k_iteBN (fun c => ?_) (fun c => ?_)
    · walk_at "go"
      refine (h.fail (r := .ofCode (-22)) ?_ S h1).one
      simp only [Sr98.perform]
      rw [if_pos ?_]
      · rfl
      · cases c1 : Sr98.isHour b m with
        | false => exact .inl rfl
        | true =>
          rw [c1, Bool.true_and] at c
          refine .inr ?_
          by_cases h1 : lo < 1
          · exact .inl h1
          · by_cases h2 : hi < lo
            · exact .inr (.inl h2)
            · refine .inr (.inr ?_)
              rw [decide_eq_true (show 1 ≤ lo by omega), decide_eq_true (show lo ≤ hi by omega), Bool.true_and, Bool.true_and] at c
              have := of_decide_eq_false c
              omega
    · simp only [Bool.and_eq_true, decide_eq_true_eq] at c
      obtain ⟨c1, c2, c3, c4⟩ := c
      walk_at "go"
      refine fH3 T h1.obj ?_
      walk_at "go"
      refine r_lenL (SqL.of h1.lst) ?_
      walk_at "go"
      rw [List.length_map, h1.len]
      refine k_ite (fun c => ?_) (fun c => ?_)
      · walk_at "go"
        refine (h.fail (r := .ofCode (-28)) ?_ S h1).one
        have hm : Sr98.maxDoughs = 6 := rfl
        simp only [Sr98.perform]
        rw [if_neg (by rw [c1]; simp; omega), if_pos (by rw [hm]; omega)]
        rfl
      · have hl := hw.n
        have hlt : b.doughs.length < 6 := by omega
        obtain ⟨j, rfl, hj⟩ := hour_nat c1
        obtain ⟨lo, rfl⟩ : ∃ k : Nat, lo = (k : Int) := ⟨lo.toNat, by omega⟩
        obtain ⟨hi, rfl⟩ : ∃ k : Nat, hi = (k : Int) := ⟨hi.toNat, by omega⟩
        walk_at "go"
        refine fH3 T h1.obj ?_
        refine k_tyL (SqL.of h1.lst) ?_
        walk_at "go"
        refine k_new (by show 1 ≤ sizeLine; decide) fun l1 H1 nl1 e1 y1 => ?_
        walk_at "go"
        refine u_hours_of (h1.mono e1) ?_
        walk_at "go"
        have hh := hw.h2
        refine r_rep y1 ⟨by omega, by omega⟩ (by rw [sizeLine_eq]; simp; omega) fun l2 H2 nl2 e2 y2 => ?_
        rw [Int.toNat_natCast, rep_flat] at y2
        walk_at "go"
        refine r_make fun x dx H3 nx ndx ne e3 y3 fr => ?_
        refine ⟨x, dx, l2, (j : Int), (lo : Int), (hi : Int), _, rfl, y3, e3 _ _ y2, fun H4 lc x4 nlc y4 z4 => ⟨rfl, ?_⟩⟩
        obtain ⟨nlc, nlx⟩ := fr _ nlc
        have e02 : Ex H H2 := e1.trans e2
        have e04 : Ex H H4 := e02.trans (ex_via e3 x4 (by simpa using nx))
        walk_at "go"
        refine k_app (K := K) (e04 _ _ h1.lst) (by rw [List.length_map, h1.len, sizeLine_eq]; omega) fun H5 x5 y5 => ?_
        walk_at "go"
        have nx0 := ex_none e02 nx
        have nl0 := ex_none e02 nlc
        have hs := h1.foot_some
        let B : DA := ⟨x, dx, lc⟩
        let A2 : HA := { A with ds := A.ds ++ [B] }
        have n1 : ∀ y ∈ A.foot, y ≠ x ∧ y ≠ lc := fun y hy => ⟨fun z => hs y hy (by rw [z]; exact nx0), fun z => hs y hy (by rw [z]; exact nl0)⟩
        have S2 : Sep A2 := by
          refine ⟨S.al, S.ad, S.ll, fun C hC => ?_, fun C hC D hD => ?_, fun i k C D hi hk nik => ?_⟩
          · rcases List.mem_append.mp hC with hC | hC
            · exact S.d C hC
            · rw [List.mem_singleton.mp hC]
              have q1 := n1 A.a (mem_foot.mpr (.inl rfl))
              have q2 := n1 A.lt (mem_foot.mpr (.inr (.inl rfl)))
              have q3 := n1 A.ld (mem_foot.mpr (.inr (.inr (.inl rfl))))
              exact ⟨q1.1.symm, q2.1.symm, q3.1.symm, q1.2.symm, q2.2.symm, q3.2.symm⟩
          · rcases List.mem_append.mp hC with hC | hC
            · rcases List.mem_append.mp hD with hD | hD
              · exact S.dl C hC D hD
              · rw [List.mem_singleton.mp hD]
                exact (n1 _ (foot_d hC)).2
            · rw [List.mem_singleton.mp hC]
              rcases List.mem_append.mp hD with hD | hD
              · exact (n1 _ (foot_lc hD)).1.symm
              · rw [List.mem_singleton.mp hD]
                exact nlx.symm
          · have hi : (A.ds ++ [B])[i]? = some C := hi
            have hk : (A.ds ++ [B])[k]? = some D := hk
            by_cases li : i < A.ds.length
            · rw [List.getElem?_append_left li] at hi
              by_cases lk : k < A.ds.length
              · rw [List.getElem?_append_left lk] at hk
                exact S.dd i k C D hi hk nik
              · have e := List.mem_of_getElem? hk
                rw [List.getElem?_append_right (by omega)] at hk
                have eD : D = B := List.mem_singleton.mp (List.mem_of_getElem? hk)
                rw [eD]
                exact ⟨(n1 _ (foot_d (List.mem_of_getElem? hi))).1, (n1 _ (foot_lc (List.mem_of_getElem? hi))).2⟩
            · have li2 := (List.getElem?_eq_some_iff.mp hi).1
              rw [List.length_append, List.length_singleton] at li2
              rw [List.getElem?_append_right (by omega)] at hi
              have eC : C = B := List.mem_singleton.mp (List.mem_of_getElem? hi)
              have lk : k < A.ds.length := by
                have lk2 := (List.getElem?_eq_some_iff.mp hk).1
                rw [List.length_append, List.length_singleton] at lk2
                omega
              rw [List.getElem?_append_left lk] at hk
              rw [eC]
              exact ⟨(n1 _ (foot_d (List.mem_of_getElem? hk))).1.symm, (n1 _ (foot_lc (List.mem_of_getElem? hk))).2.symm⟩
        have b4 : HouseAt g H4 A b := h1.mono e04
        have nld : x ≠ A.ld ∧ lc ≠ A.ld := by
          have q := n1 A.ld (mem_foot.mpr (.inr (.inr (.inl rfl))))
          exact ⟨q.1.symm, q.2.symm⟩
        have b5 : HouseAt g H5 A2 { b with doughs := b.doughs ++ [⟨j, lo, hi, 0⟩] } := by
          refine ⟨x5 _ _ (by simpa using S.ad) b4.obj, x5 _ _ (by simpa using S.ll) b4.tmp, ?_, ?_⟩
          · show H5 A.ld = some (.lst ((A.ds ++ [B]).map fun x => .ref x.d))
            rw [List.map_append]
            exact y5
          · refine Fa2.snoc ⟨b4.dos.1, fun i C d hi hd => ?_⟩ ⟨x5 _ _ (by simpa using nld.1) y4, ?_⟩
            · have q := S.d C (List.mem_of_getElem? hi)
              exact (b4.dos.2 i C d hi hd).ext x5 (by simpa using q.2.2.1) (by simpa using q.2.2.2.2.2)
            · rw [cooledL_zero, List.map_replicate]
              exact x5 _ _ (by simpa using nld.2) z4
        refine fH3 T b5.obj ?_
        walk_at "go"
        refine r_lenL (SqL.of b5.lst) ?_
        walk_at "go"
        refine k_new (by show 1 ≤ sizeLine; decide) fun p H6 np e6 y6 => ?_
        have q := h.go (b' := { b with doughs := b.doughs ++ [⟨j, lo, hi, 0⟩] }) (r := .ofCode (b.doughs.length : Nat)) (by
          have hm : Sr98.maxDoughs = 6 := rfl
          simp only [Sr98.perform]
          rw [if_neg (by rw [c1]; simp; omega), if_neg (by rw [hm]; omega)]
          rfl)
        have x05 : Ext A.foot H H5 := Ext.trans (Ext.ofEx e04) (Ext.mono (fun z hz => by
          rw [List.mem_singleton.mp hz]
          exact mem_foot.mpr (.inr (.inr (.inl rfl)))) x5)
        refine q p H6 A2 (x05.trans (Ext.ofEx e6)) (fun z hz => ?_) S2 rfl (b5.mono e6) (ex_none e04 (none_ext x5 (fun z => ?_) np)) ?_
        · rcases mem_foot.mp hz with rfl | rfl | rfl | ⟨C, hC, rfl⟩ | ⟨C, hC, rfl⟩
          · exact .inl (mem_foot.mpr (.inl rfl))
          · exact .inl (mem_foot.mpr (.inr (.inl rfl)))
          · exact .inl (mem_foot.mpr (.inr (.inr (.inl rfl))))
          · rcases List.mem_append.mp hC with hC | hC
            · exact .inl (foot_d hC)
            · rw [List.mem_singleton.mp hC]
              exact .inr nx0
          · rcases List.mem_append.mp hC with hC | hC
            · exact .inl (foot_lc hC)
            · rw [List.mem_singleton.mp hC]
              exact .inr nl0
        · rw [List.mem_singleton.mp z, y5] at np
          cases np
        · rw [y6]
          have hl2 : (((A2.ds.map fun x => V.ref x.d).length : Nat) : Int) - 1 = (b.doughs.length : Int) := by
            show ((((A.ds ++ [B]).map fun x => V.ref x.d).length : Nat) : Int) - 1 = _
            rw [List.length_map, List.length_append, List.length_singleton, h1.len]
            omega
          rw [hl2]
          rfl
end
end Bk
/-! ## Walks: the changes of one dough -/
namespace Bk
open PySem PySem.Spec PyProof.Rows L2 Evl
section
variable {P : Program} {w : World} {K : PySem.W.Frag} {mg : Str → Option Value} {base : Heap} {g : G} {H H' : Hp} {Q : VK} {E : XK}
/-! ### remove_dough -/
theorem erase_map {α β : Type} (f : α → β) : ∀ (l : List α) (j : Nat), (l.map f).eraseIdx j = (l.eraseIdx j).map f
  | [], j => by simp
  | a :: r, 0 => by simp
  | a :: r, j + 1 => by simp [erase_map f r j]
theorem erase_at {α : Type} {l : List α} {j i : Nat} {x : α} (h : (l.eraseIdx j)[i]? = some x) : l[if i < j then i else i + 1]? = some x := by
  rw [List.getElem?_eraseIdx] at h
  by_cases c : i < j
  · rw [if_pos c] at h ⊢
    exact h
  · rw [if_neg c] at h ⊢
    exact h
theorem Sep.erase {A : HA} (S : Sep A) (j : Nat) : Sep { A with ds := A.ds.eraseIdx j } := by
  have sub : ∀ B, B ∈ A.ds.eraseIdx j → B ∈ A.ds := fun B h => List.mem_of_mem_eraseIdx h
  refine ⟨S.al, S.ad, S.ll, fun B h => S.d B (sub B h), fun B h C h' => S.dl B (sub B h) C (sub C h'), fun i k B C hi hk n => S.dd _ _ B C (erase_at hi) (erase_at hk) ?_⟩
  split <;> split <;> omega
theorem Fa2.erase {α β : Type} {R : α → β → Prop} {xs : List α} {ys : List β} (h : Fa2 R xs ys) (j : Nat) : Fa2 R (xs.eraseIdx j) (ys.eraseIdx j) :=
  ⟨by rw [List.length_eraseIdx, List.length_eraseIdx, h.1], fun _ x y a b => h.2 _ x y (erase_at a) (erase_at b)⟩
def sp_remove_dough (g : G) : Sp := fun vs H Q _ => ∃ (A : HA) (b : Sr98.Bakery) (i : Int), vs = [.ref A.a, .int i] ∧ HouseAt g H A b ∧ Sep A ∧ WF b ∧ MutC g A b (.removeDough i) H Q
theorem ok_remove_dough (T : Txt K mg g) : OK_remove_dough P w K mg base g (sp_remove_dough g) := by
  refine W_remove_dough T (ok_has_dough T) (fun vs H Q E h => ?_) (fun vs H Q E h => ?_)
  · obtain ⟨_, _, _, rfl, _⟩ := h
    rfl
  · obtain ⟨A, b, i, rfl, h1, S, hw, h⟩ := h
    unfold t_remove_dough
    walk_at "go"
    refine u_has_dough h1 ?_
    walk_at "go"
    refine k_iteBN (fun c => ?_) (fun c => ?_)
    · walk_at "go"
      exact (h.fail (r := .ofCode (-2)) (by simp [Sr98.perform, c, SrCommon.notFound]) S h1).one
    · obtain ⟨j, rfl, hj⟩ := dough_nat c
      have hl := hw.n
      have hj2 : j < A.ds.length := by rw [h1.len]; exact hj
      walk_at "go"
      refine fH3 T h1.obj ?_
      refine k_tyL (SqL.of h1.lst) ?_
      walk_at "go"
      refine ⟨A.ld, _, (j : Int), j, .ref (A.ds[j]).d, rfl, rfl, h1.lst, by omega, by omega, ?_, ?_, ?_⟩
      · have q := seqIndex_at (i := (j : Int)) (n := (A.ds.map fun x => V.ref x.d).length) (by omega) (by rw [List.length_map]; omega)
        rw [Int.toNat_natCast] at q
        exact q
      · rw [List.getElem?_map, List.getElem?_eq_getElem hj2]
        rfl
      let A2 : HA := { A with ds := A.ds.eraseIdx j }
      have S2 : Sep A2 := S.erase j
      have x5 : Ext [A.ld] H (upd H A.ld (.lst ((A.ds.map fun x => V.ref x.d).eraseIdx j))) := Ext.upd (by simp)
      have y5 : (upd H A.ld (.lst ((A.ds.map fun x => V.ref x.d).eraseIdx j))) A.ld = some (.lst ((A.ds.map fun x => V.ref x.d).eraseIdx j)) := upd_same
      generalize upd H A.ld (.lst ((A.ds.map fun x => V.ref x.d).eraseIdx j)) = H5 at x5 y5 ⊢
      walk_at "go"
      have em : (A.ds.map fun x => V.ref x.d).eraseIdx j = (A.ds.eraseIdx j).map fun x => V.ref x.d := erase_map _ _ _
      have b5 : HouseAt g H5 A2 { b with doughs := b.doughs.eraseIdx j } := by
        refine ⟨x5 _ _ (by simpa using S.ad) h1.obj, x5 _ _ (by simpa using S.ll) h1.tmp, ?_, ?_⟩
        · rw [em] at y5
          exact y5
        · have q : Fa2 (DoughAt g H5 (Sr98.hours b)) A.ds b.doughs := ⟨h1.dos.1, fun i C d hi hd => by
            have q := S.d C (List.mem_of_getElem? hi)
            exact (h1.dos.2 i C d hi hd).ext x5 (by simpa using q.2.2.1) (by simpa using q.2.2.2.2.2)⟩
          exact q.erase j
      refine fH3 T b5.obj ?_
      walk_at "go"
      refine r_lenL (SqL.of b5.lst) ?_
      walk_at "go"
      refine k_new (by show 1 ≤ sizeLine; decide) fun p H6 np e6 y6 => ?_
      have q := h.go (b' := { b with doughs := b.doughs.eraseIdx j }) (r := .ofCode ((b.doughs.length - 1 : Nat) : Int)) (by
        simp only [Sr98.perform]
        rw [if_neg (by rw [c]; simp)]
        rfl)
      refine q p H6 A2 (Ext.trans (Ext.mono (fun z hz => by
        rw [List.mem_singleton.mp hz]
        exact mem_foot.mpr (.inr (.inr (.inl rfl)))) x5) (Ext.ofEx e6)) (fun z hz => .inl ?_) S2 rfl (b5.mono e6) (none_ext x5 (fun z => ?_) np) ?_
      · rcases mem_foot.mp hz with rfl | rfl | rfl | ⟨C, hC, rfl⟩ | ⟨C, hC, rfl⟩
        · exact mem_foot.mpr (.inl rfl)
        · exact mem_foot.mpr (.inr (.inl rfl))
        · exact mem_foot.mpr (.inr (.inr (.inl rfl)))
        · exact foot_d (List.mem_of_mem_eraseIdx hC)
        · exact foot_lc (List.mem_of_mem_eraseIdx hC)
      · rw [List.mem_singleton.mp z, y5] at np
        cases np
      · rw [y6]
        have hl2 : (A2.ds.map fun x => V.ref x.d).length = b.doughs.length - 1 := by
          show ((A.ds.eraseIdx j).map fun x => V.ref x.d).length = _
          rw [List.length_map, List.length_eraseIdx, if_pos hj2, h1.len]
        rw [hl2]
        rfl
/-! ### cooling_refusal -/
def optI : Option Int → V
  | none => .non
  | some n => .int n
def sp_cooling_refusal (g : G) : Sp := fun vs H Q _ => ∃ (A : HA) (b : Sr98.Bakery) (i s t : Int), vs = [.ref A.a, .int i, .int s, .int t] ∧ HouseAt g H A b ∧ Q (optI (refusal b i s t)) H
theorem ok_cooling_refusal (T : Txt K mg g) : OK_cooling_refusal P w K mg base g (sp_cooling_refusal g) := by
  refine W_cooling_refusal T (ok_has_dough T) (ok_hours_of T) (fun vs H Q E h => ?_) (fun vs H Q E h => ?_)
  · obtain ⟨_, _, _, _, _, rfl, _⟩ := h
    rfl
  · obtain ⟨A, b, i, s, t, rfl, h1, h⟩ := h
    unfold t_cooling_refusal
    unfold refusal at h
    walk_at "go"
    refine u_has_dough h1 ?_
    walk_at "go"
    refine k_iteBN (fun c => ?_) (fun c => ?_)
    · walk_at "go"
      rw [if_pos c] at h
      exact h
    rw [if_neg (by rw [c]; simp)] at h
    have bad : ¬ ((0 ≤ s ∧ s < t) ∧ t ≤ (Sr98.hours b : Int)) → Q (.int (-22)) H := fun n => by
      rw [if_pos ?_] at h
      · exact h
      · rw [Bool.eq_false_iff]
        intro z
        have z : ((decide (0 ≤ s) && decide (s < t)) && decide (t ≤ (Sr98.hours b : Int))) = true := z
        rw [Bool.and_eq_true, Bool.and_eq_true] at z
        exact n ⟨⟨of_decide_eq_true z.1.1, of_decide_eq_true z.1.2⟩, of_decide_eq_true z.2⟩
    walk_at "go"
    refine k_ite (fun c1 => ?_) (fun c1 => ?_)
    · walk_at "go"
      exact bad (by omega)
    walk_at "go"
    refine k_ite (fun c2 => ?_) (fun c2 => ?_)
    · walk_at "go"
      exact bad (by omega)
    walk_at "go"
    refine u_hours_of h1 ?_
    walk_at "go"
    refine k_ite (fun c3 => ?_) (fun c3 => ?_)
    · walk_at "go"
      exact bad (by omega)
    walk_at "go"
    rw [if_neg ?_] at h
    · exact h
    · have z : ((decide (0 ≤ s) && decide (s < t)) && decide (t ≤ (Sr98.hours b : Int))) = true := by
        rw [decide_eq_true (show 0 ≤ s by omega), decide_eq_true (show s < t by omega), decide_eq_true (show t ≤ (Sr98.hours b : Int) by omega)]
        rfl
      intro q
      have q : ((decide (0 ≤ s) && decide (s < t)) && decide (t ≤ (Sr98.hours b : Int))) = false := q
      rw [z] at q
      cases q
/-! ### one dough changed -/
theorem HouseAt.at {A : HA} {b : Sr98.Bakery} (h : HouseAt g H A b) {j : Nat} (hj : j < b.doughs.length) : ∃ B, A.ds[j]? = some B ∧ b.doughs[j]? = some (Sr98.doughAt b j) ∧ DoughAt g H (Sr98.hours b) B (Sr98.doughAt b j) := by
  have e := List.getElem?_eq_getElem hj
  obtain ⟨B, hB, r⟩ := h.dos.get e
  have ed := getD_at e
  refine ⟨B, hB, ?_, ?_⟩
  · rw [ed]
    exact e
  · rw [ed]
    exact r
theorem setDough_hours (b : Sr98.Bakery) (j : Nat) (d : Sr98.Dough) : Sr98.hours (Sr98.setDough b j d) = Sr98.hours b := rfl
/-- what a dough is made of changed, at places F of its own -/
theorem HouseAt.setD {A : HA} {b : Sr98.Bakery} (h : HouseAt g H A b) (S : Sep A) {j : Nat} {B C : DA} {d : Sr98.Dough} {F : List Addr} (hB : A.ds[j]? = some B) (x : Ext F H H') (hF : ∀ y ∈ F, y = B.d ∨ y = B.lc) (hC : C.d = B.d) (r : DoughAt g H' (Sr98.hours b) C d) :
    HouseAt g H' { A with ds := A.ds.set j C } (Sr98.setDough b j d) := by
  have mB := List.mem_of_getElem? hB
  have q := S.d B mB
  have hj : j < A.ds.length := (List.getElem?_eq_some_iff.mp hB).1
  have nF : ∀ y, y ≠ B.d → y ≠ B.lc → y ∉ F := fun y n1 n2 hy => by
    rcases hF y hy with z | z
    · exact n1 z
    · exact n2 z
  refine ⟨x _ _ (nF _ q.1.symm q.2.2.2.1.symm) h.obj, x _ _ (nF _ q.2.1.symm q.2.2.2.2.1.symm) h.tmp, ?_, ?_, fun i X y hX hy => ?_⟩
  · have e : (A.ds.set j C).map (fun x => V.ref x.d) = A.ds.map fun x => V.ref x.d := by
      refine List.ext_getElem? fun i => ?_
      rw [List.getElem?_map, List.getElem?_map, List.getElem?_set]
      by_cases e : j = i
      · subst e
        rw [if_pos rfl, if_pos hj, hB]
        show some (V.ref C.d) = some (V.ref B.d)
        rw [hC]
      · rw [if_neg e]
    show H' A.ld = some (.lst ((A.ds.set j C).map fun x => V.ref x.d))
    rw [e]
    exact x _ _ (nF _ q.2.2.1.symm q.2.2.2.2.2.symm) h.lst
  · show (A.ds.set j C).length = (b.doughs.set j d).length
    rw [List.length_set, List.length_set, h.len]
  · have hX : (A.ds.set j C)[i]? = some X := hX
    have hy : (b.doughs.set j d)[i]? = some y := hy
    rw [List.getElem?_set] at hX hy
    rw [setDough_hours]
    by_cases e : j = i
    · subst e
      rw [if_pos rfl, if_pos hj] at hX
      rw [if_pos rfl, if_pos (by rw [← h.len]; exact hj)] at hy
      cases hX
      cases hy
      exact r
    · rw [if_neg e] at hX hy
      have z := S.dd i j X B hX hB (fun z => e z.symm)
      exact (h.dos.2 i X y hX hy).ext x (nF _ z.1 (S.dl X (List.mem_of_getElem? hX) B mB)) (nF _ (S.dl B mB X (List.mem_of_getElem? hX)).symm z.2)
theorem set_same {α : Type} {l : List α} {j : Nat} {x : α} (h : l[j]? = some x) : l.set j x = l := by
  refine List.ext_getElem? fun i => ?_
  rw [List.getElem?_set]
  by_cases e : j = i
  · subst e
    rw [if_pos rfl, if_pos (List.getElem?_eq_some_iff.mp h).1, h]
  · rw [if_neg e]
/-- the house behind cool_hours -/
theorem HouseAt.cooled {A : HA} {b : Sr98.Bakery} (h : HouseAt g H A b) (S : Sep A) {j : Nat} {B : DA} {d : Sr98.Dough} (hB : A.ds[j]? = some B) (x : Ext [B.lc] H H') (r : DoughAt g H' (Sr98.hours b) B d) : HouseAt g H' A (Sr98.setDough b j d) := by
  have q := h.setD S hB x (fun y hy => .inr (List.mem_singleton.mp hy)) rfl r
  rw [set_same hB] at q
  exact q
theorem with_mixed (d : Sr98.Dough) (s t : Nat) : (Sr98.withCooling d s t).mixedAt = d.mixedAt := rfl
/-! ### cool -/
def sp_cool (g : G) : Sp := fun vs H Q _ => ∃ (A : HA) (b : Sr98.Bakery) (i s t : Int), vs = [.ref A.a, .int i, .int s, .int t] ∧ HouseAt g H A b ∧ Sep A ∧ WF b ∧ MutC g A b (.cool i s t) H Q
theorem ok_cool (T : Txt K mg g) : OK_cool P w K mg base g (sp_cool g) := by
  refine W_cool T (ok_cooling_refusal T) (ok_cool_hours T) (ok_window_of T) (fun vs H Q E h => ?_) (fun vs H Q E h => ?_)
  · obtain ⟨_, _, _, _, _, rfl, _⟩ := h
    rfl
  · obtain ⟨A, b, i, s, t, rfl, h1, S, hw, h⟩ := h
    unfold t_cool
    walk_at "go"
    refine ⟨A, b, i, s, t, rfl, h1, ?_⟩
    walk_at "go"
    cases c : Sr98.isDough b i with
    | false =>
      have er : refusal b i s t = some (-2) := by
        unfold refusal
        rw [c]
        rfl
      rw [er]
      refine k_iteN (fun _ => ?_) (fun z => absurd z (by intro z; cases z))
      walk_at "go"
      exact (h.fail (r := .ofCode (-2)) (by simp [Sr98.perform, c, SrCommon.notFound]) S h1).one
    | true =>
      cases c2 : Sr98.isInterval b s t with
      | false =>
        have er : refusal b i s t = some (-22) := by
          unfold refusal
          rw [c, c2]
          rfl
        rw [er]
        refine k_iteN (fun _ => ?_) (fun z => absurd z (by intro z; cases z))
        walk_at "go"
        exact (h.fail (r := .ofCode (-22)) (by simp [Sr98.perform, c, c2, SrCommon.invalidArgument]) S h1).one
      | true =>
        have er : refusal b i s t = none := by
          unfold refusal
          rw [c, c2]
          rfl
        rw [er]
        refine k_iteN (fun z => absurd rfl z) (fun _ => ?_)
        obtain ⟨j, rfl, hj⟩ := dough_nat c
        obtain ⟨s, t, rfl, rfl, hst, ht⟩ := interval_nat c2
        obtain ⟨B, hB, hd, hBd⟩ := h1.at hj
        have wd := hw.d _ (List.mem_of_getElem? hd)
        have hh := hw.h2
        walk_at "go"
        refine fH3 T h1.obj ?_
        walk_at "go"
        refine r_ixL (v := .ref B.d) (SqL.of h1.lst) (by rw [List.getElem?_map, hB]; rfl) ?_
        walk_at "go"
        refine ⟨B, Sr98.doughAt b j, Sr98.hours b, s, t, rfl, hBd, by omega, ht, hh, fun H1 x1 r1 => ?_⟩
        have b1 := h1.cooled S hB x1 r1
        walk_at "go"
        refine fH1 T b1.obj ?_
        walk_at "go"
        refine ⟨B, _, Sr98.setDough b j (Sr98.withCooling (Sr98.doughAt b j) s t), A.lt, rfl, r1, b1.tmp, hh, ?_, fun v H2 e2 hv nv => ?_⟩
        · rw [with_mixed, setDough_hours]
          omega
        have xF : ∀ z ∈ [B.lc], z ∈ A.foot := fun z hz => by
          rw [List.mem_singleton.mp hz]
          exact foot_lc (List.mem_of_getElem? hB)
        have fresh : ∀ p, H1 p = none → H p = none := fun p np => none_ext x1 (fun z => by
          have q := r1.2
          rw [List.mem_singleton.mp z, r1.2] at np
          cases np) np
        have eqw : Sr98.window (Sr98.setDough b j (Sr98.withCooling (Sr98.doughAt b j) s t)) (Sr98.withCooling (Sr98.doughAt b j) s t) = Sr98.window b (Sr98.withCooling (Sr98.doughAt b j) s t) := rfl
        rw [eqw] at hv
        have pf : Sr98.perform b (.cool (j : Int) (s : Int) (t : Int)) = (some (Sr98.setDough b j (Sr98.withCooling (Sr98.doughAt b j) s t)), match Sr98.window b (Sr98.withCooling (Sr98.doughAt b j) s t) with
            | none => .ofCode 0
            | some w => ⟨1, SrCommon.natsToInts [w.1, w.2]⟩) := by
          simp only [Sr98.perform]
          rw [if_neg (by rw [c]; simp), if_neg (by rw [c2]; simp)]
          rfl
        have q := h.go pf
        cases hwin : Sr98.window b (Sr98.withCooling (Sr98.doughAt b j) s t) with
        | none =>
          rw [hwin] at hv q
          have hv : v = .non := hv
          subst hv
          walk_at "go"
          refine k_ite (fun _ => ?_) (fun z => absurd rfl z)
          walk_at "go"
          refine k_new (by show 1 ≤ sizeLine; decide) fun p H3 np e3 y3 => ?_
          exact q p H3 A (Ext.trans (Ext.mono xF x1) (Ext.ofEx (e2.trans e3))) (fun z hz => .inl hz) S rfl (b1.mono (e2.trans e3)) (fresh p (ex_none e2 np)) y3
        | some ww =>
          obtain ⟨a, z⟩ := ww
          rw [hwin] at hv q
          obtain ⟨pt, rfl, hpt⟩ := hv
          walk_at "go"
          refine k_ite (fun z => absurd z (by intro z; cases z)) (fun _ => ?_)
          walk_at "go"
          refine r_ixT0 (SqT.of hpt) ?_
          walk_at "go"
          refine r_ixT1 (SqT.of hpt) ?_
          walk_at "go"
          refine k_new (by show 3 ≤ sizeLine; decide) fun p H3 np e3 y3 => ?_
          exact q p H3 A (Ext.trans (Ext.mono xF x1) (Ext.ofEx (e2.trans e3))) (fun z hz => .inl hz) S rfl (b1.mono (e2.trans e3)) (fresh p (ex_none e2 np)) y3
/-! ### stop_cooling -/
def sp_stop_cooling (g : G) : Sp := fun vs H Q _ => ∃ (A : HA) (b : Sr98.Bakery) (i : Int), vs = [.ref A.a, .int i] ∧ HouseAt g H A b ∧ Sep A ∧ WF b ∧ MutC g A b (.stopCooling i) H Q
theorem set_at {α : Type} {l : List α} {j i : Nat} {x y : α} (h : (l.set j x)[i]? = some y) : (i = j ∧ y = x) ∨ (i ≠ j ∧ l[i]? = some y) := by
  rw [List.getElem?_set] at h
  by_cases e : j = i
  · subst e
    rw [if_pos rfl] at h
    split at h
    · cases h
      exact .inl ⟨rfl, rfl⟩
    · cases h
  · rw [if_neg e] at h
    exact .inr ⟨fun z => e z.symm, h⟩
theorem ok_stop_cooling (T : Txt K mg g) : OK_stop_cooling P w K mg base g (sp_stop_cooling g) := by
  refine W_stop_cooling T (ok_has_dough T) (ok_is_cooled T) (ok_hours_of T) (fun vs H Q E h => ?_) (fun vs H Q E h => ?_)
  · obtain ⟨_, _, _, rfl, _⟩ := h
    rfl
  · obtain ⟨A, b, i, rfl, h1, S, hw, h⟩ := h
    unfold t_stop_cooling
    walk_at "go"
    refine u_has_dough h1 ?_
    walk_at "go"
    refine k_iteBN (fun c => ?_) (fun c => ?_)
    · walk_at "go"
      exact (h.fail (r := .ofCode (-2)) (by simp [Sr98.perform, c, SrCommon.notFound]) S h1).one
    · obtain ⟨j, rfl, hj⟩ := dough_nat c
      obtain ⟨B, hB, hd, hBd⟩ := h1.at hj
      have wd := hw.d _ (List.mem_of_getElem? hd)
      have hh := hw.h2
      walk_at "go"
      refine fH3 T h1.obj ?_
      walk_at "go"
      refine r_ixL (v := .ref B.d) (SqL.of h1.lst) (by rw [List.getElem?_map, hB]; rfl) ?_
      walk_at "go"
      refine ⟨B, Sr98.doughAt b j, Sr98.hours b, rfl, hBd, ?_⟩
      walk_at "go"
      rw [cooled_any wd.2]
      refine k_iteN (fun c2 => ?_) (fun c2 => ?_)
      · have c2 : (Sr98.doughAt b j).cooled = 0 := Decidable.of_not_not c2
        walk_at "go"
        exact (h.fail (r := .ofCode (-6)) (by simp [Sr98.perform, c, c2, SrCommon.emptyList]) S h1).one
      · walk_at "go"
        refine k_new (by show 1 ≤ sizeLine; decide) fun l1 H1 nl1 e1 y1 => ?_
        walk_at "go"
        refine u_hours_of (h1.mono e1) ?_
        walk_at "go"
        refine r_rep y1 ⟨by omega, by omega⟩ (by rw [sizeLine_eq]; simp; omega) fun l2 H2 nl2 e2 y2 => ?_
        rw [Int.toNat_natCast, rep_flat] at y2
        walk_at "go"
        have b2 := h1.mono (e1.trans e2)
        have d2 := hBd.mono (e1.trans e2)
        refine k_sfld d2.1 T.clDough T.nDough_cooled (by show 4 < 1000; decide) fun H3 x3 y3 => ?_
        rw [putD4] at y3
        walk_at "go"
        refine k_new (by show 1 ≤ sizeLine; decide) fun p H4 np e4 y4 => ?_
        have nl0 := ex_none e1 nl2
        have mB := List.mem_of_getElem? hB
        let C : DA := ⟨B.d, B.dx, l2⟩
        let A2 : HA := { A with ds := A.ds.set j C }
        have n1 : ∀ y ∈ A.foot, y ≠ l2 := fun y hy z => h1.foot_some y hy (by rw [z]; exact nl0)
        have hl2 : l2 ≠ B.d := (n1 _ (foot_d mB)).symm
        have S2 : Sep A2 := by
          have mem : ∀ X ∈ A2.ds, X.d ∈ A.ds.map DA.d ∧ (X.lc = l2 ∨ X ∈ A.ds) := fun X hX => by
            obtain ⟨i, hi⟩ := List.getElem?_of_mem hX
            rcases set_at hi with ⟨_, rfl⟩ | ⟨_, q⟩
            · refine ⟨?_, .inl rfl⟩
              show B.d ∈ A.ds.map DA.d
              exact List.mem_map_of_mem mB
            · exact ⟨List.mem_map_of_mem (List.mem_of_getElem? q), .inr (List.mem_of_getElem? q)⟩
          refine ⟨S.al, S.ad, S.ll, fun X hX => ?_, fun X hX Y hY => ?_, fun i k X Y hi hk nik => ?_⟩
          · obtain ⟨q1, q2⟩ := mem X hX
            obtain ⟨Z, hZ, eZ⟩ := List.mem_map.mp q1
            have r1 := S.d Z hZ
            rw [eZ] at r1
            refine ⟨r1.1, r1.2.1, r1.2.2.1, ?_⟩
            rcases q2 with q2 | q2
            · rw [q2]
              exact ⟨(n1 _ (mem_foot.mpr (.inl rfl))).symm, (n1 _ (mem_foot.mpr (.inr (.inl rfl)))).symm, (n1 _ (mem_foot.mpr (.inr (.inr (.inl rfl))))).symm⟩
            · exact (S.d X q2).2.2.2
          · obtain ⟨q1, _⟩ := mem X hX
            obtain ⟨_, q2⟩ := mem Y hY
            obtain ⟨Z, hZ, eZ⟩ := List.mem_map.mp q1
            rw [← eZ]
            rcases q2 with q2 | q2
            · rw [q2]
              exact n1 _ (foot_d hZ)
            · exact S.dl Z hZ Y q2
          · rcases set_at hi with ⟨e1, rfl⟩ | ⟨e1, q1⟩
            · rcases set_at hk with ⟨e2, rfl⟩ | ⟨e2, q2⟩
              · exact absurd (e1.trans e2.symm) nik
              · have r := S.dd j k B Y hB q2 (fun z => nik (e1.trans z))
                exact ⟨r.1, (n1 _ (foot_lc (List.mem_of_getElem? q2))).symm⟩
            · rcases set_at hk with ⟨e2, rfl⟩ | ⟨e2, q2⟩
              · have r := S.dd i j X B q1 hB e1
                exact ⟨r.1, n1 _ (foot_lc (List.mem_of_getElem? q1))⟩
              · exact S.dd i k X Y q1 q2 nik
        have b3 : HouseAt g H3 A2 (Sr98.setDough b j { Sr98.doughAt b j with cooled := 0 }) := by
          refine b2.setD S hB x3 (fun y hy => .inl (List.mem_singleton.mp hy)) rfl ⟨y3, ?_⟩
          rw [cooledL_zero, List.map_replicate]
          exact x3 _ _ (by simpa using hl2) y2
        have q := h.go (b' := Sr98.setDough b j { Sr98.doughAt b j with cooled := 0 }) (r := .ofCode 0) (by
          simp only [Sr98.perform]
          rw [if_neg (by rw [c]; simp), if_neg (by rw [Int.toNat_natCast]; exact c2)]
          rfl)
        refine q p H4 A2 (Ext.trans (Ext.trans (Ext.ofEx (e1.trans e2)) (Ext.mono (fun z hz => by
          rw [List.mem_singleton.mp hz]
          exact foot_d mB) x3)) (Ext.ofEx e4)) (fun z hz => ?_) S2 rfl (b3.mono e4) (ex_none (e1.trans e2) (none_ext x3 (fun z => ?_) np)) y4
        · rcases mem_foot.mp hz with rfl | rfl | rfl | ⟨X, hX, rfl⟩ | ⟨X, hX, rfl⟩
          · exact .inl (mem_foot.mpr (.inl rfl))
          · exact .inl (mem_foot.mpr (.inr (.inl rfl)))
          · exact .inl (mem_foot.mpr (.inr (.inr (.inl rfl))))
          · obtain ⟨i, hi⟩ := List.getElem?_of_mem hX
            rcases set_at hi with ⟨_, rfl⟩ | ⟨_, q⟩
            · refine .inl ?_
              show B.d ∈ A.foot
              exact foot_d mB
            · exact .inl (foot_d (List.mem_of_getElem? q))
          · obtain ⟨i, hi⟩ := List.getElem?_of_mem hX
            rcases set_at hi with ⟨_, rfl⟩ | ⟨_, q⟩
            · exact .inr nl0
            · exact .inl (foot_lc (List.mem_of_getElem? q))
        · rw [List.mem_singleton.mp z, y3] at np
          cases np
/-! ### set_baking_time -/
def sp_set_baking_time (g : G) : Sp := fun vs H Q _ => ∃ (A : HA) (b : Sr98.Bakery) (p : Int), vs = [.ref A.a, .int p] ∧ HouseAt g H A b ∧ Sep A ∧ MutC g A b (.setBakingTime p) H Q
theorem ok_set_baking_time (T : Txt K mg g) : OK_set_baking_time P w K mg base g (sp_set_baking_time g) := by
  refine W_set_baking_time T (ok_is_baking T) (fun vs H Q E h => ?_) (fun vs H Q E h => ?_)
  · obtain ⟨_, _, _, rfl, _⟩ := h
    rfl
  · obtain ⟨A, b, p, rfl, h1, S, h⟩ := h
    unfold t_set_baking_time
    walk_at "go"
    refine u_is_baking ?_
    walk_at "go"
    refine k_iteBN (fun c => ?_) (fun c => ?_)
    · walk_at "go"
      exact (h.fail (r := .ofCode (-22)) (by simp [Sr98.perform, c, SrCommon.invalidArgument]) S h1).one
    · obtain ⟨p, rfl, _, _⟩ := bake_nat c
      walk_at "go"
      refine fH2 T h1.obj ?_
      walk_at "go"
      refine k_sfld h1.obj T.clHouse T.nHouse_baking (by show 3 < 1000; decide) fun H1 x1 y1 => ?_
      rw [putH2] at y1
      walk_at "go"
      refine k_new (by show 1 ≤ sizeLine; decide) fun q H2 np e2 y2 => ?_
      have b1 : HouseAt g H1 A { b with bakingTime := p } := ⟨y1, x1 _ _ (by simpa using S.al.symm) h1.tmp, x1 _ _ (by simpa using S.ad.symm) h1.lst, h1.dos.1, fun i C d hi hd => by
        have q := S.d C (List.mem_of_getElem? hi)
        exact (h1.dos.2 i C d hi hd).ext x1 (by simpa using q.1) (by simpa using q.2.2.2.1)⟩
      have r := h.go (b' := { b with bakingTime := p }) (r := .ofCode (b.bakingTime : Nat)) (by
        simp only [Sr98.perform]
        rw [if_neg (by rw [c]; simp)]
        rfl)
      refine r q H2 A (Ext.trans (Ext.mono (fun z hz => ?_) x1) (Ext.ofEx e2)) (fun z hz => .inl hz) S rfl (b1.mono e2) (none_ext x1 (fun z => ?_) np) y2
      · rw [List.mem_singleton.mp hz]
        exact mem_foot.mpr (.inl rfl)
      · rw [List.mem_singleton.mp z, y1] at np
        cases np
end
end Bk
/-! ## Walks: orders, sets -/
namespace Bk
open PySem PySem.Spec PyProof.Rows L2 Evl
section
variable {P : Program} {w : World} {K : PySem.W.Frag} {mg : Str → Option Value} {base : Heap} {g : G} {H H' : Hp} {Q : VK} {E : XK}
theorem winAt_some {ws : List Win} {i : Nat} (h : i < ws.length) : ws[i]? = some (winAt ws i) := by
  unfold winAt
  rw [List.getD_eq_getElem?_getD, List.getElem?_eq_getElem h]
  rfl
/-- the window of a dough, out of the list of windows -/
theorem WinsAt.at {W : Addr} {ws : List Win} {i : Nat} (h : WinsAt H W ws) (hi : i < ws.length) : ∃ vs v, SqL K H W vs ∧ vs[i]? = some v ∧ WinV H v (winAt ws i) := by
  obtain ⟨vs, h1, h2⟩ := h
  obtain ⟨v, h3, h4⟩ := h2.get (winAt_some hi)
  exact ⟨vs, v, SqL.of h1, h3, h4⟩
theorem winV_some {v : V} {x : Nat × Nat} (h : WinV H v (some x)) : ∃ p, v = .ref p ∧ H p = some (.tup [natV x.1, natV x.2]) := h
theorem WinsAt.len {W : Addr} {ws : List Win} (h : WinsAt H W ws) : ∃ vs, H W = some (.lst vs) ∧ vs.length = ws.length := by
  obtain ⟨vs, h1, h2⟩ := h
  exact ⟨vs, h1, h2.1⟩
/-! ### start_of, starts_of -/
def sp_start_of : Sp := fun vs H Q _ => ∃ (v : V) (win : Win) (free p h : Nat), vs = [v, natV free, natV p, natV h] ∧ WinV H v win ∧ Q (optV (startOf win free p h)) H
theorem max_int (a b : Nat) : (if (b : Int) > (a : Int) then (b : Int) else (a : Int)) = ((max a b : Nat) : Int) := by
  split <;> omega
theorem ok_start_of (T : Txt K mg g) : OK_start_of P w K mg base g sp_start_of := by
  refine W_start_of T (fun vs H Q E h => ?_) (fun vs H Q E h => ?_)
  · obtain ⟨_, _, _, _, _, rfl, _⟩ := h
    rfl
  · obtain ⟨v, win, free, p, hh, rfl, h1, h⟩ := h
    unfold t_start_of
    walk_at "go"
    cases win with
    | none =>
      have h1 : v = .non := h1
      subst h1
      refine k_ite (fun _ => ?_) (fun z => absurd rfl z)
      walk_at "go"
      exact h
    | some x =>
      obtain ⟨q, rfl, hq⟩ := winV_some h1
      refine k_ite (fun z => absurd z (by intro z; cases z)) (fun _ => ?_)
      walk_at "go"
      refine r_ixT0 (SqT.of hq) ?_
      walk_at "go"
      rw [max_int]
      have hf : Q (optV (if x.2 < max x.1 free ∨ hh < max x.1 free + p then none else some (max x.1 free))) H := h
      refine r_ixT1 (SqT.of hq) ?_
      walk_at "go"
      refine k_ite (fun c => ?_) (fun c => ?_)
      · walk_at "go"
        rw [if_pos (.inl (by omega))] at hf
        exact hf
      · walk_at "go"
        refine k_ite (fun c2 => ?_) (fun c2 => ?_)
        · walk_at "go"
          rw [if_pos (.inr (by omega))] at hf
          exact hf
        · walk_at "go"
          rw [if_neg (by omega)] at hf
          exact hf
/-- None, or a new list of numbers -/
def OptL (H H' : Hp) (v : V) : Option (List Nat) → Prop
  | none => v = .non
  | some l => ∃ q, v = .ref q ∧ H q = none ∧ natsAt H' q l
def sp_starts_of : Sp := fun vs H Q _ => ∃ (O W : Addr) (order : List Nat) (ws : List Win) (p h : Nat), vs = [.ref O, .ref W, natV p, natV h] ∧ natsAt H O order ∧ WinsAt H W ws ∧ (∀ i ∈ order, i < ws.length) ∧ order.length ≤ 100 ∧
  ∀ v H', Ex H H' → OptL H H' v (startsGo ws p h order 0) → Q v H'
theorem ok_starts_of (T : Txt K mg g) : OK_starts_of P w K mg base g sp_starts_of := by
  refine W_starts_of T (ok_start_of T) (fun vs H Q E h => ?_) (fun vs H Q E h => ?_)
  · obtain ⟨_, _, _, _, _, _, rfl, _⟩ := h
    rfl
  · obtain ⟨O, W, order, ws, p, hh, rfl, h1, h2, h3, hz, h⟩ := h
    unfold t_starts_of
    walk_at "go"
    refine k_new (Nat.zero_le _) fun L H1 nL e1 y1 => ?_
    walk_at "go"
    have h1' : natsAt H1 O order := e1 _ _ h1
    refine k_nats (SqL.of h1') (fun pre rest σ' H' => ∃ (free : Nat) (acc : List Nat) (y6 y7 : Option V), σ' = [some (.ref O), some (.ref W), some (natV p), some (natV hh), some (.ref L), some (natV free), y6, y7] ∧ Ex H H' ∧ natsAt H' L acc ∧ acc.length = pre.length ∧
      startsGo ws p hh order 0 = (startsGo ws p hh rest free).map fun l => acc ++ l) ⟨0, [], none, none, rfl, e1, y1, rfl, ?_⟩ ?_ ?_ ?_
    · cases startsGo ws p hh order 0 <;> rfl
    · rintro pre rest σ' H' _ ⟨free, acc, y6, y7, rfl, e2, _⟩
      exact SqL.of (e2 _ _ h1)
    · rintro pre i rest σ' H' hpr ⟨free, acc, y6, y7, rfl, e2, y2, hl, heq⟩
      have hlen : pre.length < order.length := by
        rw [← hpr, List.length_append, List.length_cons]
        omega
      have hi : i < ws.length := h3 i (by rw [← hpr]; simp)
      obtain ⟨vs, v, hv1, hv2, hv3⟩ := (h2.mono e2).at (K := K) hi
      walk_at "go"
      refine r_ixL hv1 hv2 ?_
      walk_at "go"
      refine ⟨v, winAt ws i, free, p, hh, rfl, hv3, ?_⟩
      walk_at "go"
      cases c : startOf (winAt ws i) free p hh with
      | none =>
        rw [startsGo_none c] at heq
        dsimp only [optV]
        refine k_ite (fun _ => ?_) (fun z => absurd rfl z)
        walk_at "go"
        refine h _ _ e2 ?_
        rw [heq]
        rfl
      | some s =>
        rw [startsGo_some c] at heq
        dsimp only [optV]
        refine k_ite (fun z => absurd z (by intro z; cases z)) (fun _ => ?_)
        walk_at "go"
        refine k_tyL (SqL.of y2) ?_
        walk_at "go"
        refine k_app (K := K) y2 (by rw [List.length_map, hl, sizeLine_eq]; omega) fun H2 x2 z2 => ?_
        walk_at "go"
        refine ⟨s + p, acc ++ [s], _, _, rfl, ex_via e2 x2 (by simpa using nL), ?_, by simp [hl], ?_⟩
        · unfold natsAt
          rw [List.map_append]
          exact z2
        · rw [heq]
          show ((startsGo ws p hh rest (s + p)).map fun l => s :: l).map (fun l => acc ++ l) = _
          rw [Option.map_map]
          congr 1
          funext l
          show acc ++ s :: l = acc ++ [s] ++ l
          rw [List.append_assoc]
          rfl
    · rintro σ' H' ⟨free, acc, y6, y7, rfl, e2, y2, hl, heq⟩
      walk_at "go"
      refine h _ _ e2 ?_
      rw [heq]
      show ∃ q, V.ref L = .ref q ∧ H q = none ∧ natsAt H' q (acc ++ [])
      rw [List.append_nil]
      exact ⟨L, rfl, nL, y2⟩
/-! ### finished_at -/
def sp_finished_at : Sp := fun vs H Q _ => ∃ (S : Addr) (l : List Nat) (p : Nat), vs = [.ref S, natV p] ∧ natsAt H S l ∧ ∀ H', Ex H H' → Q (natV (finAt l p)) H'
theorem ok_finished_at (T : Txt K mg g) : OK_finished_at P w K mg base g sp_finished_at := by
  refine W_finished_at T (fun vs H Q E h => ?_) (fun vs H Q E h => ?_)
  · obtain ⟨_, _, _, rfl, _⟩ := h
    rfl
  · obtain ⟨S, l, p, rfl, h1, h⟩ := h
    unfold t_finished_at
    walk_at "go"
    refine k_new (Nat.zero_le _) fun q H1 nq e1 y1 => ?_
    refine r_eqNilN (e1 _ _ h1) y1 ?_
    walk_at "go"
    refine k_ite (fun c => ?_) (fun c => ?_)
    · walk_at "go"
      rw [c] at h
      exact h H1 e1
    · walk_at "go"
      obtain ⟨t, ht⟩ : ∃ t, l.getLast? = some t := ⟨l.getLast c, List.getLast?_eq_some_getLast c⟩
      refine r_ixLast (v := natV t) (SqL.of (e1 _ _ h1)) (by rw [List.getLast?_map, ht]; rfl) ?_
      walk_at "go"
      unfold finAt at h
      rw [ht] at h
      exact h H1 e1
/-! ### longer_orders, all_orders -/
/-- an item: a new list of numbers -/
def NewL (H H' : Hp) (v : V) (l : List Nat) : Prop := ∃ q, v = .ref q ∧ H q = none ∧ natsAt H' q l
def sp_longer_orders : Sp := fun vs H Q _ => ∃ (O N : Addr) (order numbers : List Nat), vs = [.ref O, .ref N] ∧ natsAt H O order ∧ natsAt H N numbers ∧ order.length ≤ 6 ∧ numbers.length ≤ 6 ∧
  ∀ p H' vs, Ex H H' → H p = none → H' p = some (.lst vs) → Fa2 (NewL H H') vs (longerOf order numbers) → Q (.ref p) H'
theorem flat_nats (l : List Nat) : (l.map natV).all flatV = true := by
  rw [List.all_map, List.all_eq_true]
  exact fun _ _ => rfl
theorem inV_nats (l : List Nat) (n : Nat) : inV (natV n) (l.map natV) = decide (n ∈ l) := by
  unfold inV
  rw [List.any_map]
  induction l with
  | nil => rfl
  | cons a r ih =>
    rw [List.any_cons, ih]
    have e : ((fun y => eqV y (natV n)) ∘ natV) a = decide (a = n) := by
      show ((a : Int) == (n : Int)) = decide (a = n)
      rw [Bool.beq_eq_decide_eq]
      exact decide_eq_decide.mpr (by omega)
    rw [e, ← Bool.decide_or]
    refine decide_eq_decide.mpr ?_
    rw [List.mem_cons]
    constructor
    · rintro (h | h)
      · exact .inl h.symm
      · exact .inr h
    · rintro (h | h)
      · exact .inl h.symm
      · exact .inr h
theorem NewL.keep {H0 : Hp} {D : Addr} {u : HO} {xs : List V} {v : V} {l : List Nat} (hD : H D = some (.lst xs)) (h : NewL H0 H v l) (nD : ∀ q, v = .ref q → q ≠ D) : NewL H0 (upd H D u) v l := by
  obtain ⟨q, rfl, h1, h2⟩ := h
  refine ⟨q, rfl, h1, ?_⟩
  unfold natsAt
  rw [upd_ne (nD q rfl)]
  exact h2
theorem ok_longer_orders (T : Txt K mg g) : OK_longer_orders P w K mg base g sp_longer_orders := by
  refine W_longer_orders T (fun vs H Q E h => ?_) (fun vs H Q E h => ?_)
  · obtain ⟨_, _, _, _, rfl, _⟩ := h
    rfl
  · obtain ⟨O, N, order, numbers, rfl, h1, h2, hz, hz2, h⟩ := h
    unfold t_longer_orders
    walk_at "go"
    refine k_lcL (SqL.of h2) (fun _ => rfl) (fun D i H' => H D = none ∧ Ex H H' ∧ ∃ vs, H' D = some (.lst vs) ∧ Fa2 (fun v l => NewL H H' v l ∧ v ≠ .ref D) vs (longerOf order (numbers.take i))) (fun D H' n e q => ⟨n, e, [], q, Fa2.nil⟩)
      (fun D i H' _ p => ex_l p.2.1 (SqL.of h2)) (fun D i x H' hi p => ?_) (fun D H' p => ?_)
    · obtain ⟨n, hn, rfl⟩ := nat_at hi
      obtain ⟨nD, e1, vs, hvs, hf⟩ := p
      have hlen : vs.length ≤ 6 := by
        rw [hf.1]
        refine Nat.le_trans (longer_len _ _) ?_
        rw [List.length_take]
        omega
      walk_at "go"
      refine r_nin (SqL.of (e1 _ _ h1)) rfl (flat_nats _) ?_
      rw [inV_nats]
      walk_at "go"
      have et : longerOf order (numbers.take (i + 1)) = longerOf order (numbers.take i) ++ (if n ∈ order then [] else [order ++ [n]]) := by
        unfold longerOf
        rw [take_more hn, List.filter_append, List.map_append, List.filter_cons, List.filter_nil]
        by_cases c : n ∈ order
        · simp [c]
        · simp [c]
      refine k_iteN (fun c => ?_) (fun c => ?_)
      · walk_at "go"
        refine k_new (by show 1 ≤ sizeLine; decide) fun q1 H2 nq1 e2 y2 => ?_
        refine r_cat (e2 _ _ (e1 _ _ h1)) y2 (by rw [List.length_map, sizeLine_eq]; show order.length + 1 ≤ _; omega) fun q2 H3 nq2 e3 y3 => ?_
        have e13 := e2.trans e3
        have hD3 := e13 _ _ hvs
        have nqD : q2 ≠ D := fun z => by
          rw [z, e2 _ _ hvs] at nq2
          cases nq2
        refine ⟨vs, hD3, by rw [sizeLine_eq]; omega, nD, ex_upd (e1.trans e13) nD, vs ++ [.ref q2], upd_same, ?_⟩
        rw [et, if_neg c]
        refine Fa2.snoc (hf.mono fun v l ⟨⟨q, hq, hn, hl⟩, hne⟩ => ⟨NewL.keep hD3 ⟨q, hq, hn, e13 _ _ hl⟩ (fun q' hq' z => hne (by rw [hq', z])), hne⟩) ⟨⟨q2, rfl, ex_none (e1.trans e2) nq2, ?_⟩, fun z => nqD (V.ref.inj z)⟩
        unfold natsAt
        rw [upd_ne nqD, List.map_append]
        exact y3
      · rw [et, if_pos c, List.append_nil]
        exact ⟨nD, e1, vs, hvs, hf⟩
    · obtain ⟨nD, e1, vs, hvs, hf⟩ := p
      rw [List.length_map, List.take_length] at hf
      exact h D H' vs e1 nD hvs (hf.mono fun _ _ z => z.1)
def sp_all_orders : Sp := fun vs H Q _ => ∃ (N : Addr) (numbers : List Nat), vs = [.ref N] ∧ natsAt H N numbers ∧ numbers.length ≤ 6 ∧ ∀ p H', Ex H H' → LLAt H' p (ordersK numbers numbers.length) → Q (.ref p) H'
theorem ok_all_orders (T : Txt K mg g) : OK_all_orders P w K mg base g sp_all_orders := by
  refine W_all_orders T (ok_longer_orders T) (fun vs H Q E h => ?_) (fun vs H Q E h => ?_)
  · obtain ⟨_, _, rfl, _⟩ := h
    rfl
  · obtain ⟨N, numbers, rfl, h1, hz, h⟩ := h
    unfold t_all_orders
    walk_at "go"
    refine k_new (Nat.zero_le _) fun q1 H1 nq1 e1 y1 => ?_
    walk_at "go"
    refine k_new (by show 1 ≤ sizeLine; decide) fun q2 H2 nq2 e2 y2 => ?_
    walk_at "go"
    have e02 := e1.trans e2
    refine r_lenL (SqL.of (e02 _ _ h1)) ?_
    walk_at "go"
    rw [List.length_map]
    refine k_rng1 (by show numbers.length ≤ 1000000; omega) (fun i σ' H' => ∃ (F : Addr) (z2 z3 z4 : Option V), σ' = [some (.ref N), some (.ref F), z2, z3, z4] ∧ Ex H H' ∧ LLAt H' F (ordersK numbers i)) ⟨q2, none, none, none, rfl, e02, ?_⟩ ?_ ?_
    · exact ⟨_, y2, Fa2.snoc Fa2.nil ⟨q1, rfl, e2 _ _ y1⟩⟩
    · rintro i σ' H' hi ⟨F, z2, z3, z4, rfl, e3, vs, hvs, hf⟩
      walk_at "go"
      refine k_new (Nat.zero_le _) fun L H3 nL e4 y4 => ?_
      walk_at "go"
      have e04 := e3.trans e4
      have hl := ordersK_small (k := i) hz (by omega)
      refine k_list (SqL.of (e4 _ _ hvs)) (fun j σ'' H'' => ∃ (y4 : Option V) (us : List V), σ'' = [some (.ref N), some (.ref F), some (natV i), some (.ref L), y4] ∧ Ex H' H'' ∧ H'' L = some (.lst us) ∧
          Fa2 (fun v l => (∃ q, v = V.ref q ∧ natsAt H'' q l) ∧ v ≠ .ref L) us (((ordersK numbers i).take j).flatMap fun o => longerOf o numbers)) ⟨z4, [], rfl, e4, y4, Fa2.nil⟩ ?_ ?_ ?_
      · rintro j σ'' H'' _ ⟨_, _, rfl, e5, _⟩
        exact SqL.of (e5 _ _ hvs)
      · rintro j x σ'' H'' hx ⟨z5, us, rfl, e5, hL, hf5⟩
        have hjl : j < (ordersK numbers i).length := by
          rw [← hf.1]
          exact (List.getElem?_eq_some_iff.mp hx).1
        have hxo := List.getElem?_eq_getElem hjl
        obtain ⟨qo, rfl, hqo⟩ := hf.2 j x _ hx hxo
        obtain ⟨hol, hom⟩ := ordersK_mem numbers i _ (List.mem_of_getElem? hxo)
        walk_at "go"
        refine k_tyL (SqL.of hL) ?_
        walk_at "go"
        refine ⟨qo, N, _, numbers, rfl, e5 _ _ hqo, (e3.trans e5) _ _ h1, by omega, hz, fun p H6 ws e6 np hp hw => ?_⟩
        walk_at "go"
        have hL6 := e6 _ _ hL
        have husl : us.length ≤ 46656 := by
          rw [hf5.1]
          have h2 : (((ordersK numbers i).take j).flatMap fun o => longerOf o numbers).length ≤ (ordersK numbers (i + 1)).length := by
            show _ ≤ ((ordersK numbers i).flatMap fun o => longerOf o numbers).length
            conv => rhs; rw [← List.take_append_drop j (ordersK numbers i), List.flatMap_append, List.length_append]
            omega
          exact Nat.le_trans h2 (ordersK_small hz (by omega))
        have hwl : ws.length ≤ 6 := by
          rw [hw.1]
          exact Nat.le_trans (longer_len _ _) hz
        refine k_ext (K := K) hL6 hp (by rw [sizeLine_eq]; omega) fun H7 x7 y7 => ?_
        refine ⟨_, us ++ ws, rfl, ex_via (e5.trans e6) x7 (by simpa using nL), y7, ?_⟩
        rw [take_more hxo, List.flatMap_append, List.flatMap_singleton]
        refine Fa2.append (hf5.mono fun v l ⟨⟨q, hq, hl⟩, hne⟩ => ⟨⟨q, hq, x7 _ _ (fun z => hne (by rw [hq, List.mem_singleton.mp z])) (e6 _ _ hl)⟩, hne⟩) (hw.mono fun v l ⟨q, hq, hn, hl⟩ => ?_)
        have hne : q ≠ L := fun z => by
          rw [z, hL] at hn
          cases hn
        exact ⟨⟨q, hq, x7 _ _ (by simpa using hne) hl⟩, fun z => hne (V.ref.inj (hq.symm.trans z))⟩
      · rintro σ'' H'' ⟨z5, us, rfl, e5, hL, hf5⟩
        rw [hf.1, List.take_length] at hf5
        walk_at "go"
        exact ⟨L, _, _, _, rfl, e3.trans e5, us, hL, hf5.mono fun _ _ z => z.1⟩
    · rintro σ' H' ⟨F, z2, z3, z4, rfl, e3, hF⟩
      walk_at "go"
      exact h F H' e3 hF
/-! ### plan_for -/
def sp_plan_for : Sp := fun vs H Q _ => ∃ (N W : Addr) (numbers : List Nat) (ws : List Win) (p h : Nat), vs = [.ref N, .ref W, natV p, natV h] ∧ natsAt H N numbers ∧ WinsAt H W ws ∧ (∀ i ∈ numbers, i < ws.length) ∧ numbers.length ≤ 6 ∧
  ∀ v H', Ex H H' → PlanV H' v (planFor ws p h numbers) → Q v H'
theorem ok_plan_for (T : Txt K mg g) : OK_plan_for P w K mg base g sp_plan_for := by
  refine W_plan_for T (ok_all_orders T) (ok_starts_of T) (ok_finished_at T) (fun vs H Q E h => ?_) (fun vs H Q E h => ?_)
  · obtain ⟨_, _, _, _, _, _, rfl, _⟩ := h
    rfl
  · obtain ⟨N, W, numbers, ws, p, hh, rfl, h1, h2, h3, hz, h⟩ := h
    unfold t_plan_for
    walk_at "go"
    refine ⟨N, numbers, rfl, h1, hz, fun F H1 e1 hF => ?_⟩
    obtain ⟨vs, hvs, hf⟩ := hF
    refine k_list (SqL.of hvs) (fun j σ' H' => ∃ (bv : V) (y5 y6 y7 : Option V), σ' = [some (.ref N), some (.ref W), some (natV p), some (natV hh), some bv, y5, y6, y7] ∧ Ex H1 H' ∧ PlanV H' bv (((ordersK numbers numbers.length).take j).foldl (planStep ws p hh) none)) ⟨.non, none, none, none, rfl, Ex.refl _, rfl⟩ ?_ ?_ ?_
    · rintro j σ' H' _ ⟨_, _, _, _, rfl, e5, _⟩
      exact SqL.of (e5 _ _ hvs)
    · rintro j x σ' H' hx ⟨bv, y5, y6, y7, rfl, e2, hb⟩
      have hjl : j < (ordersK numbers numbers.length).length := by
        rw [← hf.1]
        exact (List.getElem?_eq_some_iff.mp hx).1
      have hxo := List.getElem?_eq_getElem hjl
      obtain ⟨qo, rfl, hqo⟩ := hf.2 j x _ hx hxo
      generalize hord : (ordersK numbers numbers.length)[j] = order at hxo hqo
      obtain ⟨hol, hom⟩ := ordersK_mem numbers numbers.length order (List.mem_of_getElem? hxo)
      rw [take_more hxo, List.foldl_append, List.foldl_cons, List.foldl_nil]
      generalize ((ordersK numbers numbers.length).take j).foldl (planStep ws p hh) none = best at hb ⊢
      walk_at "go"
      refine ⟨qo, W, order, ws, p, hh, rfl, e2 _ _ hqo, (h2.mono e1).mono e2, fun i hi => h3 i (hom i hi), by omega, fun v H2 e3 hv => ?_⟩
      walk_at "go"
      unfold planStep
      cases c : startsGo ws p hh order 0 with
      | none =>
        rw [c] at hv
        have hv : v = .non := hv
        subst hv
        refine k_iteN (fun z => absurd rfl z) (fun _ => ?_)
        walk_at "go"
        exact ⟨bv, _, _, _, rfl, e2.trans e3, hb.mono e3⟩
      | some s =>
        rw [c] at hv
        obtain ⟨qs, rfl, nqs, hqs⟩ := hv
        refine k_iteN (fun _ => ?_) (fun z => absurd z (by intro z; cases z))
        walk_at "go"
        refine ⟨qs, s, p, rfl, hqs, fun H3 e4 => ?_⟩
        walk_at "go"
        cases best with
        | none =>
          have hb : bv = .non := hb
          subst hb
          refine k_ite (fun _ => ?_) (fun z => absurd rfl z)
          walk_at "go"
          refine k_new (by show 3 ≤ sizeLine; decide) fun t H4 nt e5 y5 => ?_
          have ht : PlanT H4 t (finAt s p, order, s) := ⟨qo, qs, y5, e5 _ _ (e4 _ _ (e3 _ _ (e2 _ _ hqo))), e5 _ _ (e4 _ _ hqs)⟩
          exact ⟨.ref t, _, _, _, rfl, e2.trans (e3.trans (e4.trans e5)), t, rfl, ht⟩
        | some x =>
          obtain ⟨qb, rfl, a, c', hqb, ha, hc⟩ := hb
          refine k_ite (fun z => absurd z (by intro z; cases z)) (fun _ => ?_)
          walk_at "go"
          refine r_ixT0 (SqT.of ((e3.trans e4) _ _ hqb)) ?_
          walk_at "go"
          refine k_ite (fun c2 => ?_) (fun c2 => ?_)
          · walk_at "go"
            refine k_new (by show 3 ≤ sizeLine; decide) fun t H4 nt e5 y5 => ?_
            have ht : PlanT H4 t (finAt s p, order, s) := ⟨qo, qs, y5, e5 _ _ (e4 _ _ (e3 _ _ (e2 _ _ hqo))), e5 _ _ (e4 _ _ hqs)⟩
            refine ⟨.ref t, _, _, _, rfl, e2.trans (e3.trans (e4.trans e5)), ?_⟩
            show PlanV H4 (.ref t) (if finAt s p < x.1 then some (finAt s p, order, s) else some x)
            rw [if_pos (by omega)]
            exact ⟨t, rfl, ht⟩
          · walk_at "go"
            refine ⟨.ref qb, _, _, _, rfl, e2.trans (e3.trans e4), ?_⟩
            show PlanV H3 (.ref qb) (if finAt s p < x.1 then some (finAt s p, order, s) else some x)
            rw [if_neg (by omega)]
            exact PlanV.mono (e3.trans e4) (show PlanV H' (.ref qb) (some x) from ⟨qb, rfl, a, c', hqb, ha, hc⟩)
    · rintro σ' H' ⟨bv, y5, y6, y7, rfl, e2, hb⟩
      rw [hf.1, List.take_length] at hb
      walk_at "go"
      exact h bv H' (e1.trans e2) hb
end
end Bk
/-! ## Walks: orders that are handed in, sets -/
namespace Bk
open PySem PySem.Spec PyProof.Rows L2 Evl
section
variable {P : Program} {w : World} {K : PySem.W.Frag} {mg : Str → Option Value} {base : Heap} {g : G} {H H' : Hp} {Q : VK} {E : XK}
/-! ### is_order -/
theorem cut_take (xs : List V) (i : Nat) : cutV xs none (some (i : Int)) = xs.take i := by
  unfold cutV
  rw [HT.sIx_none, HT.sIx_nat, List.drop_zero, Nat.sub_zero]
  by_cases h : i ≤ xs.length
  · rw [Nat.min_eq_left h]
  · rw [Nat.min_eq_right (by omega), List.take_length, List.take_of_length_le (by omega)]
theorem flat_ints (l : List Int) : (l.map V.int).all flatV = true := by
  rw [List.all_map, List.all_eq_true]
  exact fun _ _ => rfl
theorem inV_ints (l : List Int) (n : Int) : inV (.int n) (l.map V.int) = decide (n ∈ l) := by
  unfold inV
  rw [List.any_map]
  induction l with
  | nil => rfl
  | cons a r ih =>
    rw [List.any_cons, ih]
    have e : ((fun y => eqV y (.int n)) ∘ V.int) a = decide (a = n) := by
      show (a == n) = decide (a = n)
      rw [Bool.beq_eq_decide_eq]
    rw [e, ← Bool.decide_or]
    refine decide_eq_decide.mpr ?_
    rw [List.mem_cons]
    constructor
    · rintro (h | h)
      · exact .inl h.symm
      · exact .inr h
    · rintro (h | h)
      · exact .inl h.symm
      · exact .inr h
/-- an order: different numbers of so many doughs -/
def isOrd (order : List Int) (n : Nat) : Bool := decide order.Nodup && order.all fun i => decide (0 ≤ i) && decide (i < (n : Int))
def sp_is_order : Sp := fun vs H Q _ => ∃ (O : Addr) (order : List Int) (n : Nat), vs = [.ref O, natV n] ∧ intsAt H O order ∧ ∀ H', Ex H H' → Q (.bl (isOrd order n)) H'
theorem int_at {l : List Int} {i : Nat} {x : V} (h : (l.map V.int)[i]? = some x) : ∃ n, l[i]? = some n ∧ x = .int n := by
  rw [List.getElem?_map] at h
  cases e : l[i]? with
  | none =>
    rw [e] at h
    cases h
  | some n =>
    rw [e] at h
    cases h
    exact ⟨n, rfl, rfl⟩
theorem isOrd_bad {order : List Int} {n i : Nat} {x : Int} (hi : order[i]? = some x) (h : x < 0 ∨ (n : Int) ≤ x ∨ x ∈ order.take i) : isOrd order n = false := by
  unfold isOrd
  rw [Bool.and_eq_false_iff]
  have hx := List.mem_of_getElem? hi
  have range : (x < 0 ∨ (n : Int) ≤ x) → (order.all fun i => decide (0 ≤ i) && decide (i < (n : Int))) = false := fun c => by
    rw [List.all_eq_false]
    refine ⟨x, hx, ?_⟩
    rw [Bool.and_eq_true, decide_eq_true_eq, decide_eq_true_eq]
    omega
  rcases h with h | h | h
  · exact .inr (range (.inl h))
  · exact .inr (range (.inr h))
  · refine .inl (decide_eq_false fun nd => ?_)
    rw [← List.take_append_drop i order, List.nodup_append] at nd
    have hd : x ∈ order.drop i := by
      refine List.mem_of_getElem? (i := 0) ?_
      rw [List.getElem?_drop]
      exact hi
    exact nd.2.2 x h x hd rfl
theorem ok_is_order (T : Txt K mg g) : OK_is_order P w K mg base g sp_is_order := by
  refine W_is_order T (fun vs H Q E h => ?_) (fun vs H Q E h => ?_)
  · obtain ⟨_, _, _, rfl, _⟩ := h
    rfl
  · obtain ⟨O, order, n, rfl, h1, h⟩ := h
    unfold t_is_order
    walk_at "go"
    refine k_enum (SqL.of h1) (fun i σ' H' => ∃ y2 y3, σ' = [some (.ref O), some (natV n), y2, y3] ∧ Ex H H' ∧ (order.take i).Nodup ∧ ∀ x ∈ order.take i, 0 ≤ x ∧ x < (n : Int)) ⟨none, none, rfl, Ex.refl _, List.nodup_nil, fun x z => absurd z (by simp)⟩ ?_ ?_ ?_
    · rintro i σ' H' _ ⟨y2, y3, rfl, e1, _⟩
      exact SqL.of (e1 _ _ h1)
    · rintro i v σ' H' H2 hv ⟨y2, y3, rfl, e1, nd, hr⟩ e2
      obtain ⟨x, hx, rfl⟩ := int_at hv
      have e12 := e1.trans e2
      walk_at "go"
      refine k_ite (fun c => ?_) (fun c1 => ?_)
      · walk_at "go"
        have q := h H2 e12
        rw [isOrd_bad hx (.inl c)] at q
        exact q
      walk_at "go"
      refine k_ite (fun c => ?_) (fun c2 => ?_)
      · walk_at "go"
        have q := h H2 e12
        rw [isOrd_bad hx (.inr (.inl c))] at q
        exact q
      walk_at "go"
      refine r_slL (SqL.of (e12 _ _ h1)) fun p H3 np e3 y3' => ?_
      rw [cut_take, ← List.map_take] at y3'
      refine r_in (SqL.of y3') rfl (flat_ints _) ?_
      rw [inV_ints]
      walk_at "go"
      refine k_ite (fun c => ?_) (fun c3 => ?_)
      · walk_at "go"
        have q := h H3 (e12.trans e3)
        rw [isOrd_bad hx (.inr (.inr c))] at q
        exact q
      · walk_at "go"
        refine ⟨_, _, rfl, e12.trans e3, ?_, ?_⟩
        · rw [take_more hx, List.nodup_append]
          exact ⟨nd, by simp, fun a ha b hb z => c3 (by rw [← List.mem_singleton.mp hb, ← z]; exact ha)⟩
        · intro z hz
          rw [take_more hx] at hz
          rcases List.mem_append.mp hz with hz | hz
          · exact hr z hz
          · rw [List.mem_singleton.mp hz]
            exact ⟨by omega, by omega⟩
    · rintro σ' H' ⟨y2, y3, rfl, e1, nd, hr⟩
      rw [List.length_map, List.take_length] at nd hr
      walk_at "go"
      have q := h H' e1
      have e : isOrd order n = true := by
        unfold isOrd
        rw [decide_eq_true nd, Bool.true_and, List.all_eq_true]
        intro x hx
        rw [decide_eq_true (hr x hx).1, decide_eq_true (hr x hx).2]
        rfl
      rw [e] at q
      exact q
/-! ### sets_of, doughs_in -/
def sp_sets_of : Sp := fun vs H Q _ => ∃ (n : Nat), vs = [natV n] ∧ n ≤ 6 ∧ Q (natV (2 ^ n)) H
theorem ok_sets_of (T : Txt K mg g) : OK_sets_of P w K mg base g sp_sets_of := by
  refine W_sets_of T (fun vs H Q E h => ?_) (fun vs H Q E h => ?_)
  · obtain ⟨_, rfl, _⟩ := h
    rfl
  · obtain ⟨n, rfl, hn, h⟩ := h
    unfold t_sets_of
    walk_at "go"
    refine r_ib ⟨by omega, by omega, by decide⟩ ?_
    rw [Int.one_mul, Int.toNat_natCast]
    have e : (2 : Int) ^ n = ((2 ^ n : Nat) : Int) := by rw [Int.natCast_pow]; rfl
    rw [e]
    exact h
def sp_doughs_in : Sp := fun vs H Q _ => ∃ (set n : Nat), vs = [natV set, natV n] ∧ n ≤ 6 ∧ ∀ p H', Ex H H' → H p = none → natsAt H' p (SrCommon.maskMembers n set) → Q (.ref p) H'
theorem ok_doughs_in (T : Txt K mg g) : OK_doughs_in P w K mg base g sp_doughs_in := by
  refine W_doughs_in T (fun vs H Q E h => ?_) (fun vs H Q E h => ?_)
  · obtain ⟨_, _, rfl, _⟩ := h
    rfl
  · obtain ⟨set, n, rfl, hn, h⟩ := h
    unfold t_doughs_in
    walk_at "go"
    refine k_lcF1 (by show n ≤ 1000000; omega) (fun _ => rfl) (fun x => set / 2 ^ x % 2 == 1) natV (fun x H1 hx e1 R r => ?_) (fun x H1 hx e1 _ R r => ?_) (fun D H1 nD e1 hD => ?_)
    · walk_at "go"
      refine r_ib (by omega) ?_
      walk_at "go"
      have e : ((set : Int) / 2 ^ ((x : Int)).toNat) = ((set / 2 ^ x : Nat) : Int) := by
        rw [Int.toNat_natCast, Int.natCast_ediv, Int.natCast_pow]
        rfl
      rw [e, PyProof.Rows.bitAnd_m1]
      have e2 : decide (((set / 2 ^ x : Nat) : Int) % 2 = 1) = (set / 2 ^ x % 2 == 1) := by
        rw [Bool.beq_eq_decide_eq]
        exact decide_eq_decide.mpr (by omega)
      rw [e2]
      exact r
    · walk_at "go"
      exact r
    · exact h D H1 e1 nD hD
theorem mask_mem {n set i : Nat} (h : i ∈ SrCommon.maskMembers n set) : i < n := List.mem_range.mp (List.mem_filter.mp h).1
theorem mask_len (n set : Nat) : (SrCommon.maskMembers n set).length ≤ n := by
  unfold SrCommon.maskMembers
  have h := List.length_filter_le (fun i => set / 2 ^ i % 2 == 1) (List.range n)
  rw [List.length_range] at h
  exact h
/-! ### most_doughs_of -/
def sp_most_doughs_of : Sp := fun vs H Q _ => ∃ (W : Addr) (ws : List Win) (p h : Nat), vs = [.ref W, natV p, natV h] ∧ WinsAt H W ws ∧ ws.length ≤ 6 ∧
  ∀ q a r H', Ex H H' → H' q = some (.tup [.ref a, .ref r]) → natsAt H' a (mostTo ws p h (2 ^ ws.length)).1 → PlanT H' r (mostTo ws p h (2 ^ ws.length)).2 → Q (.ref q) H'
theorem mostTo_succ (ws : List Win) (p h k : Nat) : mostTo ws p h (k + 1) = mostStep ws p h (mostTo ws p h k) k := by
  unfold mostTo
  rw [List.range_succ, List.foldl_append]
  rfl
theorem mostTo_len (ws : List Win) (p h : Nat) : ∀ k, (mostTo ws p h k).1.length ≤ ws.length
  | 0 => Nat.zero_le _
  | k + 1 => by
    rw [mostTo_succ]
    unfold mostStep
    split
    · split
      · exact mostTo_len ws p h k
      · exact mask_len _ _
    · exact mostTo_len ws p h k
theorem ok_most_doughs_of (T : Txt K mg g) : OK_most_doughs_of P w K mg base g sp_most_doughs_of := by
  refine W_most_doughs_of T (ok_sets_of T) (ok_doughs_in T) (ok_plan_for T) (fun vs H Q E h => ?_) (fun vs H Q E h => ?_)
  · obtain ⟨_, _, _, _, rfl, _⟩ := h
    rfl
  · obtain ⟨W, ws, p, hh, rfl, h1, hz, h⟩ := h
    obtain ⟨wv, hW, hwl⟩ := h1.len
    unfold t_most_doughs_of
    walk_at "go"
    refine k_new (Nat.zero_le _) fun q1 H1 nq1 e1 y1 => ?_
    walk_at "go"
    refine k_new (Nat.zero_le _) fun q2 H2 nq2 e2 y2 => ?_
    walk_at "go"
    refine k_new (Nat.zero_le _) fun q3 H3 nq3 e3 y3 => ?_
    walk_at "go"
    refine k_new (by show 3 ≤ sizeLine; decide) fun q4 H4 nq4 e4 y4 => ?_
    walk_at "go"
    refine k_new (by show 2 ≤ sizeLine; decide) fun q5 H5 nq5 e5 y5 => ?_
    walk_at "go"
    have e05 : Ex H H5 := e1.trans (e2.trans (e3.trans (e4.trans e5)))
    refine r_lenL (SqL.of (e05 _ _ hW)) ?_
    walk_at "go"
    rw [hwl]
    refine ⟨ws.length, rfl, hz, ?_⟩
    have hp2 : 2 ^ ws.length ≤ 64 := Nat.le_trans (Nat.pow_le_pow_right (by omega) hz) (by decide)
    walk_at "go"
    refine k_rng1 (by show 2 ^ ws.length ≤ 1000000; omega) (fun i σ' H' => ∃ (q a r : Addr) (z4 z5 z6 : Option V), σ' = [some (.ref W), some (natV p), some (natV hh), some (.ref q), z4, z5, z6] ∧ Ex H H' ∧ H' q = some (.tup [.ref a, .ref r]) ∧ natsAt H' a (mostTo ws p hh i).1 ∧ PlanT H' r (mostTo ws p hh i).2)
      ⟨q5, q1, q4, none, none, none, rfl, e05, y5, ?_, ?_⟩ ?_ ?_
    · exact e5 _ _ (e4 _ _ (e3 _ _ (e2 _ _ y1)))
    · exact ⟨q2, q3, e5 _ _ y4, e5 _ _ (e4 _ _ (e3 _ _ y2)), e5 _ _ (e4 _ _ y3)⟩
    · rintro i σ' H' hi ⟨q, a, r, z4, z5, z6, rfl, e6, hq, ha, hr⟩
      rw [mostTo_succ]
      have hbl := mostTo_len ws p hh i
      generalize mostTo ws p hh i = best at ha hr hbl ⊢
      walk_at "go"
      refine r_lenL (SqL.of (e6 _ _ hW)) ?_
      walk_at "go"
      rw [hwl]
      refine ⟨i, ws.length, rfl, hz, fun D H7 e7 nD hD => ?_⟩
      walk_at "go"
      refine r_lenL (SqL.of hD) ?_
      walk_at "go"
      refine r_ixT0 (SqT.of (e7 _ _ hq)) ?_
      walk_at "go"
      refine r_lenL (SqL.of (e7 _ _ ha)) ?_
      walk_at "go"
      rw [List.length_map, List.length_map]
      unfold mostStep
      refine k_ite (fun c => ?_) (fun c => ?_)
      · rw [if_pos (by omega)]
        walk_at "go"
        refine ⟨D, W, _, ws, p, hh, rfl, hD, (h1.mono e6).mono e7, fun x hx => mask_mem hx, Nat.le_trans (mask_len _ _) hz, fun v H8 e8 hv => ?_⟩
        walk_at "go"
        cases hpl : planFor ws p hh (SrCommon.maskMembers ws.length i) with
        | none =>
          rw [hpl] at hv
          have hv : v = .non := hv
          subst hv
          refine k_iteN (fun z => absurd rfl z) (fun _ => ?_)
          walk_at "go"
          exact ⟨q, a, r, _, _, _, rfl, e6.trans (e7.trans e8), e8 _ _ (e7 _ _ hq), e8 _ _ (e7 _ _ ha), hr.mono (e7.trans e8)⟩
        | some x =>
          rw [hpl] at hv
          obtain ⟨qx, rfl, hqx⟩ := hv
          refine k_iteN (fun _ => ?_) (fun z => absurd z (by intro z; cases z))
          walk_at "go"
          refine k_new (by show 2 ≤ sizeLine; decide) fun t H9 nt e9 y9 => ?_
          exact ⟨t, D, qx, _, _, _, rfl, e6.trans (e7.trans (e8.trans e9)), y9, e9 _ _ (e8 _ _ hD), hqx.mono e9⟩
      · rw [if_neg (by omega)]
        walk_at "go"
        exact ⟨q, a, r, _, _, _, rfl, e6.trans e7, e7 _ _ hq, e7 _ _ ha, hr.mono e7⟩
    · rintro σ' H' ⟨q, a, r, z4, z5, z6, rfl, e6, hq, ha, hr⟩
      walk_at "go"
      exact h q a r H' e6 hq ha hr
end
end Bk
/-! ## Walks: deadlines -/
namespace Bk
open PySem PySem.Spec PyProof.Rows L2 Evl
section
variable {P : Program} {w : World} {K : PySem.W.Frag} {mg : Str → Option Value} {base : Heap} {g : G} {H H' : Hp} {Q : VK} {E : XK}
def sp_next_begun : Sp := fun vs H Q _ => ∃ (L W : Addr) (left : List Nat) (ws : List Win) (time : Nat), vs = [.ref L, .ref W, natV time] ∧ natsAt H L left ∧ WinsAt H W ws ∧ (∀ i ∈ left, i < ws.length) ∧ Q (optV (nextBegun ws left time)) H
theorem ok_next_begun (T : Txt K mg g) : OK_next_begun P w K mg base g sp_next_begun := by
  refine W_next_begun T (fun vs H Q E h => ?_) (fun vs H Q E h => ?_)
  · obtain ⟨_, _, _, _, _, rfl, _⟩ := h
    rfl
  · obtain ⟨L, W, left, ws, time, rfl, h1, h2, h3, h⟩ := h
    unfold t_next_begun
    walk_at "go"
    refine k_nats (SqL.of h1) (fun pre rest σ' H' => ∃ (y4 y5 : Option V), σ' = [some (.ref L), some (.ref W), some (natV time), some (optV (pre.foldl (nbStep ws time) none)), y4, y5] ∧ H' = H) ⟨none, none, rfl, rfl⟩ ?_ ?_ ?_
    · rintro pre rest σ' H' _ ⟨_, _, rfl, rfl⟩
      exact SqL.of h1
    · rintro pre i rest σ' H' hpr ⟨y4, y5, rfl, rfl⟩
      have hmem : ∀ j, j ∈ pre → j < ws.length := fun j hj => h3 j (by rw [← hpr]; exact List.mem_append.mpr (.inl hj))
      have hi : i < ws.length := h3 i (by rw [← hpr]; simp)
      obtain ⟨vs, v, hv1, hv2, hv3⟩ := h2.at (K := K) hi
      have hb : ∀ j, pre.foldl (nbStep ws time) none = some j → (winAt ws j).isSome = true ∧ j < ws.length := fun j hj =>
        ⟨nb_some ws time pre none j (fun k hk => by cases hk) hj, (nb_mem ws time pre none j hj).elim (fun z => by cases z) (hmem j)⟩
      rw [List.foldl_append, List.foldl_cons, List.foldl_nil]
      generalize pre.foldl (nbStep ws time) none = best at hb ⊢
      walk_at "go"
      refine r_ixL hv1 hv2 ?_
      walk_at "go"
      cases c : winAt ws i with
      | none =>
        rw [c] at hv3
        have hv3 : v = .non := hv3
        subst hv3
        rw [nbStep_none c]
        refine k_iteN (fun z => absurd rfl z) (fun _ => ?_)
        walk_at "go"
        exact ⟨_, _, rfl, rfl⟩
      | some x =>
        rw [c] at hv3
        obtain ⟨q, rfl, hq⟩ := winV_some hv3
        rw [nbStep_some c]
        refine k_iteN (fun _ => ?_) (fun z => absurd z (by intro z; cases z))
        walk_at "go"
        refine r_ixT0 (SqT.of hq) ?_
        walk_at "go"
        refine k_ite (fun c2 => ?_) (fun c2 => ?_)
        · rw [if_pos (by omega)]
          walk_at "go"
          cases best with
          | none =>
            dsimp only [optV]
            refine k_ite (fun _ => ?_) (fun z => absurd rfl z)
            walk_at "go"
            exact ⟨_, _, rfl, rfl⟩
          | some j =>
            dsimp only [optV]
            obtain ⟨hj1, hj2⟩ := hb j rfl
            obtain ⟨vs', v', hw1, hw2, hw3⟩ := h2.at (K := K) hj2
            refine k_ite (fun z => absurd z (by intro z; cases z)) (fun _ => ?_)
            walk_at "go"
            refine r_ixT1 (SqT.of hq) ?_
            walk_at "go"
            refine r_ixL hw1 hw2 ?_
            cases cj : winAt ws j with
            | none =>
              rw [cj] at hj1
              cases hj1
            | some y =>
              rw [cj] at hw3
              obtain ⟨q', rfl, hq'⟩ := winV_some hw3
              walk_at "go"
              refine r_ixT1 (SqT.of hq') ?_
              walk_at "go"
              have e : nbPick ws i x.2 (some j) = if x.2 < y.2 then some i else some j := by
                show (if x.2 < ((winAt ws j).getD (0, 0)).2 then some i else some j) = _
                rw [cj]
                rfl
              rw [e]
              refine k_ite (fun c3 => ?_) (fun c3 => ?_)
              · rw [if_pos (by omega)]
                walk_at "go"
                exact ⟨_, _, rfl, rfl⟩
              · rw [if_neg (by omega)]
                walk_at "go"
                exact ⟨_, _, rfl, rfl⟩
        · rw [if_neg (by omega)]
          walk_at "go"
          exact ⟨_, _, rfl, rfl⟩
    · rintro σ' H' ⟨y4, y5, rfl, rfl⟩
      walk_at "go"
      exact h
def sp_time_of_next : Sp := fun vs H Q _ => ∃ (L W : Addr) (left : List Nat) (ws : List Win) (time : Nat), vs = [.ref L, .ref W, natV time] ∧ natsAt H L left ∧ WinsAt H W ws ∧ (∀ i ∈ left, i < ws.length) ∧ left.length ≤ 6 ∧
  ∀ H', Ex H H' → Q (optV (timeOfNext ws left time)) H'
theorem ok_time_of_next (T : Txt K mg g) : OK_time_of_next P w K mg base g sp_time_of_next := by
  refine W_time_of_next T (ok_next_begun T) (fun vs H Q E h => ?_) (fun vs H Q E h => ?_)
  · obtain ⟨_, _, _, _, _, rfl, _⟩ := h
    rfl
  · obtain ⟨L, W, left, ws, time, rfl, h1, h2, h3, hz, h⟩ := h
    unfold t_time_of_next
    unfold timeOfNext at h
    walk_at "go"
    refine ⟨L, W, left, ws, time, rfl, h1, h2, h3, ?_⟩
    walk_at "go"
    cases c : nextBegun ws left time with
    | some j =>
      rw [c] at h
      dsimp only [optV]
      refine k_iteN (fun _ => ?_) (fun z => absurd z (by intro z; cases z))
      walk_at "go"
      exact h H (Ex.refl H)
    | none =>
      rw [c] at h
      dsimp only [optV]
      refine k_iteN (fun z => absurd rfl z) (fun _ => ?_)
      walk_at "go"
      refine k_lcN (SqL.of h1) (by omega) (fun _ => rfl) (fun i => (winAt ws i).isSome) (fun i => natV ((winAt ws i).getD (0, 0)).1) (fun k i H1 hi e1 R r => ?_) (fun k i H1 hi e1 hs R r => ?_) (fun D H1 nD e1 hD => ?_)
      · obtain ⟨vs, v, hv1, hv2, hv3⟩ := (h2.mono e1).at (K := K) (h3 i (List.mem_of_getElem? hi))
        walk_at "go"
        refine r_ixL hv1 hv2 ?_
        walk_at "go"
        cases cw : winAt ws i with
        | none =>
          rw [cw] at hv3 r
          have hv3 : v = .non := hv3
          subst hv3
          exact r
        | some x =>
          rw [cw] at hv3 r
          obtain ⟨q, rfl, hq⟩ := winV_some hv3
          exact r
      · obtain ⟨vs, v, hv1, hv2, hv3⟩ := (h2.mono e1).at (K := K) (h3 i (List.mem_of_getElem? hi))
        walk_at "go"
        refine r_ixL hv1 hv2 ?_
        walk_at "go"
        cases cw : winAt ws i with
        | none =>
          rw [cw] at hs
          cases hs
        | some x =>
          rw [cw] at hv3 r
          obtain ⟨q, rfl, hq⟩ := winV_some hv3
          refine r_ixT0 (SqT.of hq) ?_
          exact r
      · have hD2 : natsAt H1 D (begins ws left) := by
          unfold natsAt begins
          rw [List.map_map]
          exact hD
        walk_at "go"
        refine k_new (Nat.zero_le _) fun q H2 nq e2 y2 => ?_
        refine r_eqNilN (e2 _ _ hD2) y2 ?_
        walk_at "go"
        refine k_ite (fun c2 => ?_) (fun c2 => ?_)
        · walk_at "go"
          have hh := h H2 (e1.trans e2)
          rw [c2] at hh
          exact hh
        · walk_at "go"
          have hD3 : H2 D = some (.lst (((begins ws left).map fun (n : Nat) => (n : Int)).map V.int)) := by
            rw [List.map_map]
            exact e2 _ _ hD2
          refine ⟨D, _, rfl, SqL.of hD3, ?_, fun m hm hle => ?_⟩
          · rw [List.length_map]
            exact List.length_pos_iff.mpr c2
          · obtain ⟨k, hk, rfl⟩ := List.mem_map.mp hm
            have e : (begins ws left).min? = some k := List.min?_eq_some_iff.mpr ⟨hk, fun y hy => by
              have z := hle (y : Int) (List.mem_map_of_mem hy)
              omega⟩
            have hh : Q (optV (begins ws left).min?) H2 := h H2 (e1.trans e2)
            rw [e] at hh
            exact hh
def sp_deadline_order : Sp := fun vs H Q _ => ∃ (W : Addr) (ws : List Win) (p : Nat), vs = [.ref W, natV p] ∧ WinsAt H W ws ∧ ws.length ≤ 6 ∧
  ∀ q H', Ex H H' → H q = none → natsAt H' q (dlGo ws p ws.length (List.range ws.length) [] 0) → Q (.ref q) H'
theorem ok_deadline_order (T : Txt K mg g) : OK_deadline_order P w K mg base g sp_deadline_order := by
  refine W_deadline_order T (ok_time_of_next T) (ok_next_begun T) (fun vs H Q E h => ?_) (fun vs H Q E h => ?_)
  · obtain ⟨_, _, _, rfl, _⟩ := h
    rfl
  · obtain ⟨W, ws, p, rfl, h1, hz, h⟩ := h
    obtain ⟨wv, hW, hwl⟩ := h1.len
    unfold t_deadline_order
    walk_at "go"
    refine r_lrg (n := ws.length) ?_ ?_
    · walk_at "go"
      refine r_lenL (SqL.of hW) ?_
      rw [hwl]
      refine ⟨rfl, by omega, fun q1 H1 nq1 e1 y1 => ?_⟩
      walk_at "go"
      refine k_new (Nat.zero_le _) fun O H2 nO e2 y2 => ?_
      walk_at "go"
      have e02 := e1.trans e2
      refine r_lenL (SqL.of (e02 _ _ hW)) ?_
      walk_at "go"
      rw [hwl]
      refine k_rng1 (by show ws.length ≤ 1000000; omega) (fun i σ' H' => ∃ (L : Addr) (left ord : List Nat) (time : Nat) (z5 z6 z7 z8 : Option V), σ' = [some (.ref W), some (natV p), some (.ref L), some (.ref O), some (natV time), z5, z6, z7, z8] ∧
          Ex H1 H' ∧ natsAt H' L left ∧ natsAt H' O ord ∧ L ≠ O ∧ (∀ j ∈ left, j < ws.length) ∧ left.length ≤ 6 ∧ ord.length ≤ i ∧ dlGo ws p ws.length (List.range ws.length) [] 0 = dlGo ws p (ws.length - i) left ord time)
        ⟨q1, List.range ws.length, [], 0, none, none, none, none, rfl, e2, e2 _ _ y1, y2, ?_, fun j hj => List.mem_range.mp hj, ?_, Nat.le_refl _, rfl⟩ ?_ ?_
      · intro z
        rw [← z, y1] at nO
        cases nO
      · rw [List.length_range]
        exact hz
      · rintro i σ' H' hi ⟨L, left, ord, time, z5, z6, z7, z8, rfl, e3, hL, hO, hne, hm, hl6, hlo, heq⟩
        have nO0 : H O = none := ex_none e1 nO
        have e03 := e1.trans e3
        rw [show ws.length - i = (ws.length - (i + 1)) + 1 by omega] at heq
        have heq : dlGo ws p ws.length (List.range ws.length) [] 0 = (match timeOfNext ws left time with
          | none => ord ++ left
          | some m => match nextBegun ws left m with
            | none => ord
            | some i' => dlGo ws p (ws.length - (i + 1)) (left.filter fun j => !decide (j = i')) (ord ++ [i']) (m + p)) := heq
        walk_at "go"
        refine ⟨L, W, left, ws, time, rfl, hL, h1.mono e03, hm, hl6, fun H4 e4 => ?_⟩
        walk_at "go"
        cases c : timeOfNext ws left time with
        | none =>
          rw [c] at heq
          have heq : dlGo ws p ws.length (List.range ws.length) [] 0 = ord ++ left := heq
          dsimp only [optV]
          refine k_ite (fun _ => ?_) (fun z => absurd rfl z)
          walk_at "go"
          refine r_cat (e4 _ _ hO) (e4 _ _ hL) (by rw [List.length_map, List.length_map, sizeLine_eq]; omega) fun q H5 nq e5 y5 => ?_
          refine h q H5 (e03.trans (e4.trans e5)) (ex_none (e03.trans e4) nq) ?_
          rw [heq]
          unfold natsAt
          rw [List.map_append]
          exact y5
        | some m =>
          rw [c] at heq
          dsimp only [optV]
          refine k_ite (fun z => absurd z (by intro z; cases z)) (fun _ => ?_)
          walk_at "go"
          refine ⟨L, W, left, ws, m, rfl, e4 _ _ hL, (h1.mono e03).mono e4, hm, ?_⟩
          walk_at "go"
          cases c2 : nextBegun ws left m with
          | none => exact absurd c2 (next_has c)
          | some j =>
            have heq : dlGo ws p ws.length (List.range ws.length) [] 0 = (match nextBegun ws left m with
              | none => ord
              | some i' => dlGo ws p (ws.length - (i + 1)) (left.filter fun j => !decide (j = i')) (ord ++ [i']) (m + p)) := heq
            rw [c2] at heq
            have heq : dlGo ws p ws.length (List.range ws.length) [] 0 = dlGo ws p (ws.length - (i + 1)) (left.filter fun k => !decide (k = j)) (ord ++ [j]) (m + p) := heq
            dsimp only [optV]
            refine k_tyL (SqL.of (e4 _ _ hO)) ?_
            walk_at "go"
            refine k_app (K := K) (e4 _ _ hO) (by rw [List.length_map, sizeLine_eq]; omega) fun H5 x5 y5 => ?_
            walk_at "go"
            have hL5 : natsAt H5 L left := x5 _ _ (by simpa using hne) (e4 _ _ hL)
            refine k_lcN (SqL.of hL5) (by omega) (fun _ => rfl) (fun k => !decide (k = j)) natV (fun k i H6 hi e6 R r => ?_) (fun k i H6 hi e6 hs R r => ?_) (fun D H6 nD e6 hD => ?_)
            · walk_at "go"
              have e : decide ((i : Int) = (j : Int)) = decide (i = j) := decide_eq_decide.mpr (by omega)
              rw [e]
              exact r
            · walk_at "go"
              exact r
            · walk_at "go"
              refine ⟨D, _, ord ++ [j], m + p, _, _, _, _, rfl, (ex_via (e3.trans e4) x5 (by simpa using nO)).trans e6, hD, ?_, ?_, ?_, ?_, ?_, heq⟩
              · unfold natsAt
                rw [List.map_append]
                exact e6 _ _ y5
              · intro z
                rw [z, y5] at nD
                cases nD
              · exact fun k hk => hm k (List.mem_filter.mp hk).1
              · exact Nat.le_trans (List.length_filter_le _ _) hl6
              · rw [List.length_append, List.length_singleton]
                omega
      · rintro σ' H' ⟨L, left, ord, time, z5, z6, z7, z8, rfl, e3, hL, hO, hne, hm, hl6, hlo, heq⟩
        walk_at "go"
        rw [Nat.sub_self] at heq
        have heq : dlGo ws p ws.length (List.range ws.length) [] 0 = ord := heq
        refine h O H' (e1.trans e3) (ex_none e1 nO) ?_
        rw [heq]
        exact hO
    · rintro R R' hR hh
      obtain ⟨v, hv, a, ys, e1, e2, e3⟩ := hh
      exact ⟨v, hv, a, ys, e1, e2, hR _ _ e3⟩
end
end Bk
/-! ## Walks: the questions -/
namespace Bk
open PySem PySem.Spec PyProof.Rows L2 Evl
section
variable {P : Program} {w : World} {K : PySem.W.Frag} {mg : Str → Option Value} {base : Heap} {g : G} {H H' : Hp} {Q : VK} {E : XK}
theorem WF.mix {b : Sr98.Bakery} (hw : WF b) : ∀ d ∈ b.doughs, d.mixedAt ≤ Sr98.hours b := fun d hd => Nat.le_of_lt (hw.d d hd).1
theorem Askd.to {r r' : List Int} (m : Askd r H Q) (e : r = r') : Askd r' H Q := e ▸ m
theorem Askd.later {r : List Int} (m : Askd r H Q) (e : Ex H H') : Askd r H' Q := fun p H2 e2 np hp => m p H2 (e.trans e2) (ex_none e np) hp
/-! ### window, risen -/
def sp_window (g : G) : Sp := fun vs H Q _ => ∃ (A : HA) (b : Sr98.Bakery) (i : Int), vs = [.ref A.a, .int i] ∧ HouseAt g H A b ∧ WF b ∧ Askd (told b (.window i)) H Q
theorem ok_window (T : Txt K mg g) : OK_window P w K mg base g (sp_window g) := by
  refine W_window T (ok_window_of T) (ok_has_dough T) (fun vs H Q E h => ?_) (fun vs H Q E h => ?_)
  · obtain ⟨_, _, _, rfl, _⟩ := h
    rfl
  · obtain ⟨A, b, i, rfl, h1, hw, h⟩ := h
    unfold t_window
    walk_at "go"
    refine u_has_dough h1 ?_
    walk_at "go"
    refine k_iteBN (fun c => ?_) (fun c => ?_)
    · walk_at "go"
      exact (h.to (r' := [-2]) (by simp [told, Sr98.perform, c, SrCommon.notFound, res_code])).one
    · obtain ⟨j, rfl, hj⟩ := dough_nat c
      obtain ⟨B, hB, hd, hBd⟩ := h1.at hj
      have wd := hw.d _ (List.mem_of_getElem? hd)
      have ht : told b (.window (j : Int)) = res (match Sr98.window b (Sr98.doughAt b j) with
          | none => .ofCode SrCommon.noSolution
          | some w => ⟨(w.1 : Int), [(w.2 : Int)]⟩) := by
        unfold told Sr98.perform
        simp only [c]
        rfl
      rw [ht] at h
      walk_at "go"
      refine fH3 T h1.obj ?_
      walk_at "go"
      refine r_ixL (v := .ref B.d) (SqL.of h1.lst) (by rw [List.getElem?_map, hB]; rfl) ?_
      walk_at "go"
      refine fH1 T h1.obj ?_
      walk_at "go"
      refine ⟨B, _, b, A.lt, rfl, hBd, h1.tmp, hw.h2, by omega, fun v H1 e1 hv nv => ?_⟩
      walk_at "go"
      cases cw : Sr98.window b (Sr98.doughAt b j) with
      | none =>
        rw [cw] at hv h
        have hv : v = .non := hv
        subst hv
        refine k_ite (fun _ => ?_) (fun z => absurd rfl z)
        walk_at "go"
        exact (h.later e1).one
      | some x =>
        rw [cw] at hv h
        obtain ⟨q, rfl, hq⟩ := winV_some hv
        refine k_ite (fun z => absurd z (by intro z; cases z)) (fun _ => ?_)
        walk_at "go"
        refine r_ixT0 (SqT.of hq) ?_
        walk_at "go"
        refine r_ixT1 (SqT.of hq) ?_
        walk_at "go"
        exact k_new (by show 2 ≤ sizeLine; decide) fun p H2 np e2 y2 => h p H2 (e1.trans e2) (ex_none e1 np) y2
def sp_risen (g : G) : Sp := fun vs H Q _ => ∃ (A : HA) (b : Sr98.Bakery) (i t : Int), vs = [.ref A.a, .int i, .int t] ∧ HouseAt g H A b ∧ WF b ∧ Askd (told b (.risen i t)) H Q
theorem ok_risen (T : Txt K mg g) : OK_risen P w K mg base g (sp_risen g) := by
  refine W_risen T (ok_has_dough T) (ok_is_between T) (ok_risen_by T) (ok_hours_of T) (fun vs H Q E h => ?_) (fun vs H Q E h => ?_)
  · obtain ⟨_, _, _, _, rfl, _⟩ := h
    rfl
  · obtain ⟨A, b, i, t, rfl, h1, hw, h⟩ := h
    unfold t_risen
    walk_at "go"
    refine u_has_dough h1 ?_
    walk_at "go"
    refine k_iteBN (fun c => ?_) (fun c => ?_)
    · walk_at "go"
      exact (h.to (r' := [-2]) (by simp [told, Sr98.perform, c, SrCommon.notFound, res_code])).one
    · obtain ⟨j, rfl, hj⟩ := dough_nat c
      obtain ⟨B, hB, hd, hBd⟩ := h1.at hj
      have wd := hw.d _ (List.mem_of_getElem? hd)
      have ht : told b (.risen (j : Int) t) = res (if t < 0 ∨ (Sr98.hours b : Int) < t then .ofCode SrCommon.invalidArgument else .ofCode (Sr98.risen b (Sr98.doughAt b j) t.toNat : Nat)) := by
        unfold told Sr98.perform
        simp only [c]
        rfl
      rw [ht] at h
      walk_at "go"
      refine u_hours_of h1 ?_
      walk_at "go"
      refine u_is_between ?_
      walk_at "go"
      refine k_iteBN (fun c2 => ?_) (fun c2 => ?_)
      · walk_at "go"
        rw [if_pos (by
          rw [Bool.and_eq_false_iff, decide_eq_false_iff_not, decide_eq_false_iff_not] at c2
          omega)] at h
        exact h.one
      · rw [Bool.and_eq_true, decide_eq_true_eq, decide_eq_true_eq] at c2
        obtain ⟨t, rfl⟩ : ∃ k : Nat, t = (k : Int) := ⟨t.toNat, by omega⟩
        rw [if_neg (by omega), Int.toNat_natCast] at h
        have hh := hw.h2
        walk_at "go"
        refine fH3 T h1.obj ?_
        walk_at "go"
        refine r_ixL (v := .ref B.d) (SqL.of h1.lst) (by rw [List.getElem?_map, hB]; rfl) ?_
        walk_at "go"
        refine fH1 T h1.obj ?_
        walk_at "go"
        refine ⟨B, _, b, A.lt, t, rfl, hBd, h1.tmp, by omega, hh, by omega, ?_⟩
        walk_at "go"
        exact h.one
/-! ### start_times -/
def sp_start_times (g : G) : Sp := fun vs H Q _ => ∃ (A : HA) (b : Sr98.Bakery) (O : Addr) (order : List Int), vs = [.ref A.a, .ref O] ∧ HouseAt g H A b ∧ WF b ∧ intsAt H O order ∧ order.length ≤ 100 ∧ Askd (told b (.startTimes order)) H Q
theorem ok_start_times (T : Txt K mg g) : OK_start_times P w K mg base g (sp_start_times g) := by
  refine W_start_times T (ok_starts_of T) (ok_is_order T) (ok_windows_of T) (ok_hours_of T) (fun vs H Q E h => ?_) (fun vs H Q E h => ?_)
  · obtain ⟨_, _, _, _, rfl, _⟩ := h
    rfl
  · obtain ⟨A, b, O, order, rfl, h1, hw, hO, hz, h⟩ := h
    unfold t_start_times
    have ht : told b (.startTimes order) = res (if isOrd order b.doughs.length = false then .ofCode SrCommon.invalidArgument else match Sr98.startTimes b (SrCommon.intsToNats order) with
        | none => .ofCode SrCommon.noSolution
        | some l => ⟨(l.length : Int), SrCommon.natsToInts l⟩) := rfl
    rw [ht] at h
    walk_at "go"
    refine fH3 T h1.obj ?_
    walk_at "go"
    refine r_lenL (SqL.of h1.lst) ?_
    walk_at "go"
    rw [List.length_map, h1.len]
    refine ⟨O, order, b.doughs.length, rfl, hO, fun H1 e1 => ?_⟩
    walk_at "go"
    refine k_iteBN (fun c => ?_) (fun c => ?_)
    · rw [if_pos c] at h
      walk_at "go"
      exact (h.later e1).one
    · rw [if_neg (by rw [c]; simp)] at h
      unfold isOrd at c
      rw [Bool.and_eq_true, decide_eq_true_eq, List.all_eq_true] at c
      have hr : ∀ i ∈ order, 0 ≤ i ∧ i < (b.doughs.length : Int) := fun i hi => by
        have q := c.2 i hi
        rw [Bool.and_eq_true, decide_eq_true_eq, decide_eq_true_eq] at q
        exact q
      have eo : order.map V.int = (SrCommon.intsToNats order).map natV := by
        unfold SrCommon.intsToNats
        rw [List.map_map]
        refine List.map_congr_left fun i hi => ?_
        show V.int i = V.int ((i.toNat : Nat) : Int)
        rw [Int.toNat_of_nonneg (hr i hi).1]
      have hO2 : natsAt H O (SrCommon.intsToNats order) := by
        unfold natsAt
        rw [← eo]
        exact hO
      have hlt : ∀ i ∈ SrCommon.intsToNats order, i < b.doughs.length := fun i hi => by
        obtain ⟨z, hz, rfl⟩ := List.mem_map.mp hi
        have q := hr z hz
        omega
      have hl : (SrCommon.intsToNats order).length ≤ 100 := by
        unfold SrCommon.intsToNats
        rw [List.length_map]
        exact hz
      generalize SrCommon.intsToNats order = order' at h hO2 hlt hl
      walk_at "go"
      refine ⟨A, b, rfl, h1.mono e1, hw.h2, hw.mix, hw.n, fun W H2 e2 nW hW => ?_⟩
      have e02 := e1.trans e2
      walk_at "go"
      refine fH2 T (h1.mono e02).obj ?_
      walk_at "go"
      refine u_hours_of (h1.mono e02) ?_
      walk_at "go"
      refine ⟨O, W, order', wins b, b.bakingTime, Sr98.hours b, rfl, e02 _ _ hO2, hW, fun i hi => by rw [wins_len]; exact hlt i hi, hl, fun v H3 e3 hv => ?_⟩
      rw [starts_is hlt] at hv
      walk_at "go"
      cases cs : Sr98.startTimes b order' with
      | none =>
        rw [cs] at hv h
        have hv : v = .non := hv
        subst hv
        refine k_ite (fun _ => ?_) (fun z => absurd rfl z)
        walk_at "go"
        exact (h.later (e02.trans e3)).one
      | some l =>
        have hll := startsGo_len _ _ _ order' 0 l (by rw [starts_is hlt]; exact cs)
        rw [cs] at hv h
        obtain ⟨S, rfl, nS, hS⟩ := hv
        refine k_ite (fun z => absurd z (by intro z; cases z)) (fun _ => ?_)
        walk_at "go"
        refine r_lenL (SqL.of hS) ?_
        walk_at "go"
        refine k_new (by show 1 ≤ sizeLine; decide) fun q H4 nq e4 y4 => ?_
        walk_at "go"
        refine r_cat y4 (e4 _ _ hS) (by rw [List.length_map, sizeLine_eq]; show 1 + l.length ≤ _; omega) fun p H5 np e5 y5 => ?_
        refine h p H5 (e02.trans (e3.trans (e4.trans e5))) (ex_none (e02.trans (e3.trans e4)) np) ?_
        rw [y5, List.length_map]
        show some (HO.lst (V.int (l.length : Int) :: l.map natV)) = some (HO.lst (((l.length : Int) :: SrCommon.natsToInts l).map V.int))
        rw [n2i, List.map_cons, List.map_map]
        rfl
/-! ### plan -/
def sp_plan (g : G) : Sp := fun vs H Q _ => ∃ (A : HA) (b : Sr98.Bakery), vs = [.ref A.a] ∧ HouseAt g H A b ∧ WF b ∧ Askd (told b .plan) H Q
theorem told_plan (b : Sr98.Bakery) : told b .plan = res (Sr98.planResult b) := rfl
theorem ok_plan (T : Txt K mg g) : OK_plan P w K mg base g (sp_plan g) := by
  refine W_plan T (ok_plan_for T) (ok_windows_of T) (ok_hours_of T) (fun vs H Q E h => ?_) (fun vs H Q E h => ?_)
  · obtain ⟨_, _, rfl, _⟩ := h
    rfl
  · obtain ⟨A, b, rfl, h1, hw, h⟩ := h
    have hn := hw.n
    unfold t_plan
    walk_at "go"
    refine r_lrg (n := b.doughs.length) ?_ ?_
    · walk_at "go"
      refine fH3 T h1.obj ?_
      walk_at "go"
      refine r_lenL (SqL.of h1.lst) ?_
      rw [List.length_map, h1.len]
      refine ⟨rfl, by omega, fun N H1 nN e1 y1 => ?_⟩
      walk_at "go"
      refine ⟨A, b, rfl, h1.mono e1, hw.h2, hw.mix, hn, fun W H2 e2 nW hW => ?_⟩
      have e02 := e1.trans e2
      walk_at "go"
      refine fH2 T (h1.mono e02).obj ?_
      walk_at "go"
      refine u_hours_of (h1.mono e02) ?_
      walk_at "go"
      refine ⟨N, W, List.range b.doughs.length, wins b, b.bakingTime, Sr98.hours b, rfl, e2 _ _ y1, hW, fun i hi => by rw [wins_len]; exact List.mem_range.mp hi, by rw [List.length_range]; exact hn, fun v H3 e3 hv => ?_⟩
      obtain ⟨pe, pk⟩ := plan_eq b (numbers := List.range b.doughs.length) List.nodup_range (fun i hi => List.mem_range.mp hi)
      rw [told_plan] at h
      unfold Sr98.planResult Sr98.allDoughs at h
      walk_at "go"
      cases cp : planFor (wins b) b.bakingTime (Sr98.hours b) (List.range b.doughs.length) with
      | none =>
        rw [cp] at hv pe
        have pe : none = Sr98.plan b (List.range b.doughs.length) := pe
        rw [← pe] at h
        have hv : v = .non := hv
        subst hv
        refine k_ite (fun _ => ?_) (fun z => absurd rfl z)
        walk_at "go"
        exact (h.later (e02.trans e3)).one
      | some x =>
        rw [cp] at hv pe
        obtain ⟨k1, k2⟩ := pk x cp
        have pe : some x.2.1 = Sr98.plan b (List.range b.doughs.length) := pe
        rw [← pe] at h
        have h : Askd (((Sr98.finishedAt b x.2.1).getD 0 : Nat) :: SrCommon.natsToInts (x.2.1 ++ (Sr98.startTimes b x.2.1).getD [])) H Q := h
        rw [k1, k2, n2i, List.map_append] at h
        obtain ⟨q, rfl, a, c, hq, ha, hc⟩ := hv
        have la : x.2.1.length ≤ 6 := by
          have hmem : x.2.1 ∈ ordersK (List.range b.doughs.length) (List.range b.doughs.length).length := plan_mem cp
          rw [(ordersK_mem _ _ _ hmem).1, List.length_range]
          exact hn
        have lc : x.2.2.length ≤ 6 := by
          have q := k1
          rw [← starts_is (fun i hi => by
            have hmem : x.2.1 ∈ ordersK (List.range b.doughs.length) (List.range b.doughs.length).length := plan_mem cp
            exact List.mem_range.mp ((ordersK_mem _ _ _ hmem).2 i hi))] at q
          rw [startsGo_len _ _ _ _ _ _ q]
          exact la
        refine k_ite (fun z => absurd z (by intro z; cases z)) (fun _ => ?_)
        walk_at "go"
        refine r_ixT0 (SqT.of hq) ?_
        walk_at "go"
        refine k_new (by show 1 ≤ sizeLine; decide) fun l1 H4 nl1 e4 y4 => ?_
        walk_at "go"
        refine r_ixT1 (SqT.of (e4 _ _ hq)) ?_
        refine r_cat y4 (e4 _ _ ha) (by rw [List.length_map, sizeLine_eq]; show 1 + x.2.1.length ≤ _; omega) fun l2 H5 nl2 e5 y5 => ?_
        walk_at "go"
        refine r_ixT2 (SqT.of (e5 _ _ (e4 _ _ hq))) ?_
        refine r_cat y5 (e5 _ _ (e4 _ _ hc)) (by rw [List.length_append, List.length_map, List.length_map, sizeLine_eq]; show 1 + x.2.1.length + x.2.2.length ≤ _; omega) fun l3 H6 nl3 e6 y6 => ?_
        have e05 := (e02.trans e3).trans (e4.trans e5)
        refine h l3 H6 (e05.trans e6) (ex_none e05 nl3) ?_
        rw [y6]
        show some (HO.lst (natV x.1 :: (x.2.1.map natV ++ x.2.2.map natV))) = some (HO.lst (((x.1 : Int) :: (x.2.1.map (fun (n : Nat) => (n : Int)) ++ x.2.2.map fun (n : Nat) => (n : Int))).map V.int))
        rw [List.map_cons, List.map_append, List.map_map, List.map_map]
        rfl
    · rintro R R' hR hh
      obtain ⟨v, hv, p1, C1, dx1, fs1, v1, q1, q2, q3, q4, q5, a, ys, e1, e2, e3⟩ := hh
      exact ⟨v, hv, p1, C1, dx1, fs1, v1, q1, q2, q3, q4, q5, a, ys, e1, e2, hR _ _ e3⟩
end
end Bk
/-! ## Walks: more questions -/
namespace Bk
open PySem PySem.Spec PyProof.Rows L2 Evl
section
variable {P : Program} {w : World} {K : PySem.W.Frag} {mg : Str → Option Value} {base : Heap} {g : G} {H H' : Hp} {Q : VK} {E : XK}
/-- a, b = e -/
theorem r_tupAsg {σ : L2.St} {te : TE} {i j : Nat} {nx bk ct : L2.St → Hp → Prop} {rt : VK} (h : te σ H fun x H1 => gTup K 2 (gCons (gName i) (gCons (gName j) gNil)) x σ H1 nx) : tAsg te (gTup K 2 (gCons (gName i) (gCons (gName j) gNil))) ⟨nx, rt, bk, ct⟩ σ H := h
theorem r_tup2 {σ : L2.St} {i j : Nat} {nx : L2.St → Hp → Prop} {a : Addr} {v u : V} (h1 : SqT K H a [v, u]) (h2 : nx ((σ.set i (some v)).set j (some u)) H) : gTup K 2 (gCons (gName i) (gCons (gName j) gNil)) (.ref a) σ H nx :=
  ⟨a, _, rfl, h1, rfl, _, _, rfl, _, _, rfl, rfl, h2⟩
/-! ### most_doughs -/
def sp_most_doughs (g : G) : Sp := fun vs H Q _ => ∃ (A : HA) (b : Sr98.Bakery), vs = [.ref A.a] ∧ HouseAt g H A b ∧ WF b ∧ Askd (told b .mostDoughs) H Q
theorem ok_most_doughs (T : Txt K mg g) : OK_most_doughs P w K mg base g (sp_most_doughs g) := by
  refine W_most_doughs T (ok_most_doughs_of T) (ok_windows_of T) (ok_hours_of T) (fun vs H Q E h => ?_) (fun vs H Q E h => ?_)
  · obtain ⟨_, _, rfl, _⟩ := h
    rfl
  · obtain ⟨A, b, rfl, h1, hw, h⟩ := h
    have hn := hw.n
    unfold t_most_doughs
    have ht : told b .mostDoughs = ((Sr98.largestSet b).length : Int) :: SrCommon.natsToInts (Sr98.largestSet b ++ (Sr98.plan b (Sr98.largestSet b)).getD []) := rfl
    obtain ⟨l1, l2⟩ := largest_eq b
    rw [ht, l2, ← l1] at h
    have hml := mostTo_len (wins b) b.bakingTime (Sr98.hours b) (2 ^ b.doughs.length)
    rw [wins_len] at hml
    have hpl : (mostTo (wins b) b.bakingTime (Sr98.hours b) (2 ^ b.doughs.length)).2.2.1.length ≤ 6 := most_plan_len (by rw [wins_len]; exact hn) _
    walk_at "go"
    refine r_tupAsg ?_
    walk_at "go"
    refine ⟨A, b, rfl, h1, hw.h2, hw.mix, hn, fun W H1 e1 nW hW => ?_⟩
    walk_at "go"
    refine fH2 T (h1.mono e1).obj ?_
    walk_at "go"
    refine u_hours_of (h1.mono e1) ?_
    walk_at "go"
    refine ⟨W, wins b, b.bakingTime, Sr98.hours b, rfl, hW, by rw [wins_len]; exact hn, fun q a r H2 e2 hq ha hr => ?_⟩
    rw [wins_len] at ha hr
    generalize mostTo (wins b) b.bakingTime (Sr98.hours b) (2 ^ b.doughs.length) = best at h ha hr hml hpl
    obtain ⟨c1, c2, hr1, hr2, hr3⟩ := hr
    refine r_tup2 (SqT.of hq) ?_
    walk_at "go"
    refine r_lenL (SqL.of ha) ?_
    walk_at "go"
    refine k_new (by show 1 ≤ sizeLine; decide) fun x1 H3 nx1 e3 y3 => ?_
    walk_at "go"
    refine r_cat y3 (e3 _ _ ha) (by rw [List.length_map, sizeLine_eq]; show 1 + best.1.length ≤ _; omega) fun x2 H4 nx2 e4 y4 => ?_
    walk_at "go"
    refine r_ixT1 (SqT.of (e4 _ _ (e3 _ _ hr1))) ?_
    refine r_cat y4 (e4 _ _ (e3 _ _ hr2)) (by rw [List.length_append, List.length_map, List.length_map, sizeLine_eq]; show 1 + best.1.length + best.2.2.1.length ≤ _; omega) fun x3 H5 nx3 e5 y5 => ?_
    have e04 := (e1.trans e2).trans (e3.trans e4)
    refine h x3 H5 (e04.trans e5) (ex_none e04 nx3) ?_
    rw [y5, List.length_map, n2i]
    show some (HO.lst (V.int (best.1.length : Int) :: (best.1.map natV ++ best.2.2.1.map natV))) = _
    rw [List.map_cons, List.map_map, List.map_append]
    rfl
/-! ### earliest_deadline -/
def sp_earliest_deadline (g : G) : Sp := fun vs H Q _ => ∃ (A : HA) (b : Sr98.Bakery), vs = [.ref A.a] ∧ HouseAt g H A b ∧ WF b ∧ Askd (told b .earliestDeadline) H Q
theorem ok_earliest_deadline (T : Txt K mg g) : OK_earliest_deadline P w K mg base g (sp_earliest_deadline g) := by
  refine W_earliest_deadline T (ok_windows_of T) (ok_deadline_order T) (ok_starts_of T) (ok_hours_of T) (fun vs H Q E h => ?_) (fun vs H Q E h => ?_)
  · obtain ⟨_, _, rfl, _⟩ := h
    rfl
  · obtain ⟨A, b, rfl, h1, hw, h⟩ := h
    have hn := hw.n
    unfold t_earliest_deadline
    have ht : told b .earliestDeadline = SrCommon.boolToInt (Sr98.startTimes b (Sr98.earliestDeadline b)).isSome :: SrCommon.natsToInts (Sr98.earliestDeadline b) := rfl
    rw [ht] at h
    have hm : ∀ i ∈ Sr98.earliestDeadline b, i < b.doughs.length := fun i hi => by
      rw [← deadline_eq hw, wins_len] at hi
      rcases dl_mem _ _ _ _ _ _ i hi with q | q
      · cases q
      · exact List.mem_range.mp q
    have hl : (Sr98.earliestDeadline b).length ≤ 12 := by
      have q := dl_len (wins b) b.bakingTime (wins b).length (List.range (wins b).length) [] 0
      rw [deadline_eq hw, wins_len, List.length_range] at q
      simp at q
      omega
    walk_at "go"
    refine ⟨A, b, rfl, h1, hw.h2, hw.mix, hn, fun W H1 e1 nW hW => ?_⟩
    walk_at "go"
    refine fH2 T (h1.mono e1).obj ?_
    walk_at "go"
    refine ⟨W, wins b, b.bakingTime, rfl, hW, by rw [wins_len]; exact hn, fun O H2 e2 nO hO => ?_⟩
    rw [deadline_eq hw] at hO
    generalize Sr98.earliestDeadline b = order at h hm hl hO
    walk_at "go"
    have e02 := e1.trans e2
    refine fH2 T (h1.mono e02).obj ?_
    walk_at "go"
    refine u_hours_of (h1.mono e02) ?_
    walk_at "go"
    refine ⟨O, W, order, wins b, b.bakingTime, Sr98.hours b, rfl, hO, hW.mono e2, fun i hi => by rw [wins_len]; exact hm i hi, by omega, fun v H3 e3 hv => ?_⟩
    rw [starts_is hm] at hv
    walk_at "go"
    cases cs : Sr98.startTimes b order with
    | none =>
      rw [cs] at hv h
      have hv : v = .non := hv
      subst hv
      refine k_ite (fun _ => ?_) (fun z => absurd rfl z)
      walk_at "go"
      refine k_new (by show 1 ≤ sizeLine; decide) fun x1 H4 nx1 e4 y4 => ?_
      walk_at "go"
      refine r_cat y4 (e4 _ _ (e3 _ _ hO)) (by rw [List.length_map, sizeLine_eq]; show 1 + order.length ≤ _; omega) fun x2 H5 nx2 e5 y5 => ?_
      refine h x2 H5 (e02.trans (e3.trans (e4.trans e5))) (ex_none (e02.trans (e3.trans e4)) nx2) ?_
      rw [y5, n2i]
      show some (HO.lst (V.int 0 :: order.map natV)) = some (HO.lst ((0 :: order.map fun (n : Nat) => (n : Int)).map V.int))
      rw [List.map_cons, List.map_map]
      rfl
    | some l =>
      rw [cs] at hv h
      obtain ⟨S, rfl, nS, hS⟩ := hv
      refine k_ite (fun z => absurd z (by intro z; cases z)) (fun _ => ?_)
      walk_at "go"
      refine k_new (by show 1 ≤ sizeLine; decide) fun x1 H4 nx1 e4 y4 => ?_
      walk_at "go"
      refine r_cat y4 (e4 _ _ (e3 _ _ hO)) (by rw [List.length_map, sizeLine_eq]; show 1 + order.length ≤ _; omega) fun x2 H5 nx2 e5 y5 => ?_
      refine h x2 H5 (e02.trans (e3.trans (e4.trans e5))) (ex_none (e02.trans (e3.trans e4)) nx2) ?_
      rw [y5, n2i]
      show some (HO.lst (V.int 1 :: order.map natV)) = some (HO.lst ((1 :: order.map fun (n : Nat) => (n : Int)).map V.int))
      rw [List.map_cons, List.map_map]
      rfl
/-! ### can_bake -/
def sp_can_bake (g : G) : Sp := fun vs H Q _ => ∃ (A : HA) (b : Sr98.Bakery) (s : Int), vs = [.ref A.a, .int s] ∧ HouseAt g H A b ∧ WF b ∧ Askd (told b (.canBake s)) H Q
theorem ok_can_bake (T : Txt K mg g) : OK_can_bake P w K mg base g (sp_can_bake g) := by
  refine W_can_bake T (ok_is_between T) (ok_plan_for T) (ok_doughs_in T) (ok_windows_of T) (ok_hours_of T) (ok_sets_of T) (fun vs H Q E h => ?_) (fun vs H Q E h => ?_)
  · obtain ⟨_, _, _, rfl, _⟩ := h
    rfl
  · obtain ⟨A, b, s, rfl, h1, hw, h⟩ := h
    have hn := hw.n
    unfold t_can_bake
    have ht : told b (.canBake s) = res (if SrCommon.isIndex s (2 ^ b.doughs.length) = false then .ofCode SrCommon.invalidArgument else .ofCode (SrCommon.boolToInt (Sr98.plan b (SrCommon.maskMembers b.doughs.length s.toNat)).isSome)) := rfl
    rw [ht] at h
    walk_at "go"
    refine fH3 T h1.obj ?_
    walk_at "go"
    refine r_lenL (SqL.of h1.lst) ?_
    walk_at "go"
    rw [List.length_map, h1.len]
    refine ⟨b.doughs.length, rfl, hn, ?_⟩
    walk_at "go"
    refine u_is_between ?_
    walk_at "go"
    have ei : (decide (0 ≤ s) && decide (s ≤ ((2 ^ b.doughs.length : Nat) : Int) - 1)) = SrCommon.isIndex s (2 ^ b.doughs.length) := by
      unfold SrCommon.isIndex
      congr 1
      exact decide_eq_decide.mpr (by omega)
    rw [ei]
    refine k_iteBN (fun c => ?_) (fun c => ?_)
    · rw [if_pos c] at h
      walk_at "go"
      exact h.one
    · rw [if_neg (by rw [c]; simp)] at h
      rw [← ei, Bool.and_eq_true, decide_eq_true_eq] at c
      obtain ⟨s, rfl⟩ : ∃ k : Nat, s = (k : Int) := ⟨s.toNat, by omega⟩
      rw [Int.toNat_natCast] at h
      walk_at "go"
      refine ⟨s, b.doughs.length, rfl, hn, fun N H1 e1 nN hN => ?_⟩
      walk_at "go"
      refine ⟨A, b, rfl, h1.mono e1, hw.h2, hw.mix, hn, fun W H2 e2 nW hW => ?_⟩
      have e02 := e1.trans e2
      walk_at "go"
      refine fH2 T (h1.mono e02).obj ?_
      walk_at "go"
      refine u_hours_of (h1.mono e02) ?_
      walk_at "go"
      refine ⟨N, W, _, wins b, b.bakingTime, Sr98.hours b, rfl, e2 _ _ hN, hW, fun i hi => by rw [wins_len]; exact mask_in hi, Nat.le_trans (mask_len _ _) hn, fun v H3 e3 hv => ?_⟩
      have pe := (plan_eq b (mask_nodup b.doughs.length s) (fun i hi => mask_in hi)).1
      walk_at "go"
      cases cp : planFor (wins b) b.bakingTime (Sr98.hours b) (SrCommon.maskMembers b.doughs.length s) with
      | none =>
        rw [cp] at hv pe
        rw [← pe] at h
        have hv : v = .non := hv
        subst hv
        refine k_ite (fun _ => ?_) (fun z => absurd rfl z)
        walk_at "go"
        exact (h.later (e02.trans e3)).one
      | some x =>
        rw [cp] at hv pe
        rw [← pe] at h
        obtain ⟨q, rfl, _⟩ := hv
        refine k_ite (fun z => absurd z (by intro z; cases z)) (fun _ => ?_)
        walk_at "go"
        exact (h.later (e02.trans e3)).one
/-! ### plan_if_cooled -/
theorem WF.set {b : Sr98.Bakery} (hw : WF b) {j : Nat} {d : Sr98.Dough} (h1 : d.mixedAt < Sr98.hours b) (h2 : d.cooled < 2 ^ Sr98.hours b) : WF (Sr98.setDough b j d) := by
  refine ⟨hw.h1, hw.h2, hw.p1, hw.p2, ?_, fun x hx => ?_⟩
  · show (b.doughs.set j d).length ≤ 6
    rw [List.length_set]
    exact hw.n
  · have hx : x ∈ b.doughs.set j d := hx
    rw [setDough_hours]
    rcases List.mem_or_eq_of_mem_set hx with q | q
    · exact hw.d x q
    · rw [q]
      exact ⟨h1, h2⟩
def sp_plan_if_cooled (g : G) : Sp := fun vs H Q _ => ∃ (A : HA) (b : Sr98.Bakery) (i s t : Int), vs = [.ref A.a, .int i, .int s, .int t] ∧ HouseAt g H A b ∧ WF b ∧ Askd (told b (.planIfCooled i s t)) H Q
theorem ok_plan_if_cooled (T : Txt K mg g) : OK_plan_if_cooled P w K mg base g (sp_plan_if_cooled g) := by
  refine W_plan_if_cooled T (ok_cooling_refusal T) (ok_copied_house T) (ok_cool_hours T) (ok_plan T) (fun vs H Q E h => ?_) (fun vs H Q E h => ?_)
  · obtain ⟨_, _, _, _, _, rfl, _⟩ := h
    rfl
  · obtain ⟨A, b, i, s, t, rfl, h1, hw, h⟩ := h
    unfold t_plan_if_cooled
    have ht : told b (.planIfCooled i s t) = res (if Sr98.isDough b i = false then .ofCode SrCommon.notFound else if Sr98.isInterval b s t = false then .ofCode SrCommon.invalidArgument
        else Sr98.planResult (Sr98.setDough b i.toNat (Sr98.withCooling (Sr98.doughAt b i.toNat) s.toNat t.toNat))) := rfl
    rw [ht] at h
    walk_at "go"
    refine ⟨A, b, i, s, t, rfl, h1, ?_⟩
    walk_at "go"
    cases c : Sr98.isDough b i with
    | false =>
      have er : refusal b i s t = some (-2) := by
        unfold refusal
        rw [c]
        rfl
      rw [er]
      rw [if_pos c] at h
      refine k_iteN (fun _ => ?_) (fun z => absurd z (by intro z; cases z))
      walk_at "go"
      exact h.one
    | true =>
      rw [if_neg (by rw [c]; simp)] at h
      cases c2 : Sr98.isInterval b s t with
      | false =>
        have er : refusal b i s t = some (-22) := by
          unfold refusal
          rw [c, c2]
          rfl
        rw [er]
        rw [if_pos c2] at h
        refine k_iteN (fun _ => ?_) (fun z => absurd z (by intro z; cases z))
        walk_at "go"
        exact h.one
      | true =>
        have er : refusal b i s t = none := by
          unfold refusal
          rw [c, c2]
          rfl
        rw [er]
        rw [if_neg (by rw [c2]; simp)] at h
        refine k_iteN (fun z => absurd rfl z) (fun _ => ?_)
        obtain ⟨j, rfl, hj⟩ := dough_nat c
        obtain ⟨s, t, rfl, rfl, hst, ht⟩ := interval_nat c2
        rw [Int.toNat_natCast, Int.toNat_natCast, Int.toNat_natCast] at h
        walk_at "go"
        refine ⟨A, b, rfl, h1, hw.n, fun H1 A' e1 fr nd h2 => ?_⟩
        have S := Sep.of nd
        obtain ⟨B, hB, hd, hBd⟩ := h2.at hj
        have wd := hw.d _ (List.mem_of_getElem? hd)
        walk_at "go"
        refine fH3 T h2.obj ?_
        walk_at "go"
        refine r_ixL (v := .ref B.d) (SqL.of h2.lst) (by rw [List.getElem?_map, hB]; rfl) ?_
        walk_at "go"
        refine ⟨B, Sr98.doughAt b j, Sr98.hours b, s, t, rfl, hBd, by omega, ht, hw.h2, fun H2 x2 r2 => ?_⟩
        have b2 := h2.cooled S hB x2 r2
        have nB : H B.lc = none := fr _ (foot_lc (List.mem_of_getElem? hB))
        have e2 : Ex H H2 := ex_via e1 x2 (by simpa using nB)
        walk_at "go"
        exact ⟨A', _, rfl, b2, hw.set (by rw [with_mixed]; exact wd.1) (with_lt wd.2 (by omega) ht), h.later e2⟩
/-! ### describe -/
def tellD (b : Sr98.Bakery) (d : Sr98.Dough) : List Nat := [d.mixedAt, d.minimum, d.maximum, ((List.range (Sr98.hours b)).filter (Sr98.isCooled d)).length]
def sp_describe (g : G) : Sp := fun vs H Q _ => ∃ (A : HA) (b : Sr98.Bakery), vs = [.ref A.a] ∧ HouseAt g H A b ∧ WF b ∧ Askd (told b .describe) H Q
theorem tell_len (b : Sr98.Bakery) : ∀ l : List Sr98.Dough, (l.flatMap (tellD b)).length = 4 * l.length
  | [] => rfl
  | d :: r => by
    have h := tell_len b r
    rw [List.flatMap_cons, List.length_append, List.length_cons, h]
    show 4 + 4 * r.length = _
    omega
theorem ok_describe (T : Txt K mg g) : OK_describe P w K mg base g (sp_describe g) := by
  refine W_describe T (ok_hours_of T) (ok_cooled_count T) (fun vs H Q E h => ?_) (fun vs H Q E h => ?_)
  · obtain ⟨_, _, rfl, _⟩ := h
    rfl
  · obtain ⟨A, b, rfl, h1, hw, h⟩ := h
    have hn := hw.n
    have hh := hw.h2
    have htl : b.temperatures.length ≤ 36 := hh
    unfold t_describe
    have ht : told b .describe = (Sr98.hours b : Int) :: SrCommon.natsToInts (b.temperatures ++ [b.bakingTime, b.doughs.length] ++ b.doughs.flatMap (tellD b)) := rfl
    rw [ht] at h
    walk_at "go"
    refine u_hours_of h1 ?_
    walk_at "go"
    refine k_new (by show 1 ≤ sizeLine; decide) fun x1 H1 nx1 e1 y1 => ?_
    walk_at "go"
    refine fH1 T (h1.mono e1).obj ?_
    refine r_cat y1 (h1.mono e1).tmp (by rw [List.length_map, sizeLine_eq]; show 1 + b.temperatures.length ≤ _; omega) fun x2 H2 nx2 e2 y2 => ?_
    walk_at "go"
    have h2 := h1.mono (e1.trans e2)
    refine fH2 T h2.obj ?_
    walk_at "go"
    refine fH3 T h2.obj ?_
    walk_at "go"
    refine r_lenL (SqL.of h2.lst) ?_
    walk_at "go"
    rw [List.length_map, h2.len]
    refine k_new (by show 2 ≤ sizeLine; decide) fun x3 H3 nx3 e3 y3 => ?_
    refine r_cat (e3 _ _ y2) y3 (by rw [List.length_append, List.length_map, sizeLine_eq]; show 1 + b.temperatures.length + 2 ≤ _; omega) fun L H4 nL e4 y4 => ?_
    have e03 := (e1.trans e2).trans e3
    have h4 := h2.mono (e3.trans e4)
    walk_at "go"
    have y4' : natsAt H4 L (Sr98.hours b :: (b.temperatures ++ [b.bakingTime, b.doughs.length])) := by
      unfold natsAt
      rw [List.map_cons, List.map_append]
      exact y4
    refine fH3 T h4.obj ?_
    refine k_list (SqL.of h4.lst) (fun i σ' H' => ∃ z2, σ' = [some (.ref A.a), some (.ref L), z2] ∧ Ex H3 H' ∧ natsAt H' L (Sr98.hours b :: (b.temperatures ++ [b.bakingTime, b.doughs.length] ++ (b.doughs.take i).flatMap (tellD b)))) ⟨none, rfl, e4, ?_⟩ ?_ ?_ ?_
    · rw [List.take_zero, List.flatMap_nil, List.append_nil]
      exact y4'
    · rintro i σ' H' _ ⟨z2, rfl, e5, _⟩
      exact SqL.of (e5 _ _ (h2.mono e3).lst)
    · rintro i x σ' H' hx ⟨z2, rfl, e5, hL⟩
      obtain ⟨B, hB, rfl⟩ := ds_at hx
      have h3 := h2.mono e3
      obtain ⟨d, hd, hd2⟩ := h3.dough hB
      have d5 := hd2.mono e5
      have hil : i < b.doughs.length := (List.getElem?_eq_some_iff.mp hd).1
      walk_at "go"
      refine k_tyL (SqL.of hL) ?_
      walk_at "go"
      refine fD1 T d5.1 ?_
      walk_at "go"
      refine fD2 T d5.1 ?_
      walk_at "go"
      refine fD3 T d5.1 ?_
      walk_at "go"
      refine ⟨B, d, Sr98.hours b, rfl, d5, ?_⟩
      walk_at "go"
      refine k_new (by show 4 ≤ sizeLine; decide) fun q H6 nq e6 y6 => ?_
      walk_at "go"
      refine k_ext (K := K) (e6 _ _ hL) y6 ?_ fun H7 x7 y7 => ?_
      · rw [List.length_map, List.length_cons, List.length_append, List.length_append, tell_len, List.length_take, sizeLine_eq]
        show b.temperatures.length + 2 + 4 * min i b.doughs.length + 1 + 4 ≤ _
        omega
      · refine ⟨_, rfl, ex_via (e5.trans e6) x7 (by simpa using nL), ?_⟩
        rw [take_more hd, List.flatMap_append, List.flatMap_singleton, ← List.append_assoc, ← List.cons_append]
        unfold natsAt
        rw [List.map_append]
        exact y7
    · rintro σ' H' ⟨z2, rfl, e5, hL⟩
      rw [List.length_map, h4.len, List.take_length] at hL
      walk_at "go"
      refine h L H' (e03.trans e5) (ex_none e03 nL) ?_
      unfold natsAt at hL
      rw [hL, n2i, List.map_cons, List.map_cons, List.map_map]
      rfl
end
end Bk
/-! ## Walks: the desk, the calls -/
namespace Bk
open PySem PySem.Spec PyProof.Rows L2 Evl
abbrev DS := Option (HA × Sr98.Bakery)
def houseV : DS → V
  | none => .non
  | some x => .ref x.1.a
def footS : DS → List Addr
  | none => []
  | some x => x.1.foot
def stB (st : DS) : Option Sr98.Bakery := st.map fun x => x.2
/-- the desk at x, and the house that it has -/
structure DeskAt (g : G) (H : Hp) (x dx : Addr) (st : DS) : Prop where
  obj : H x = some (.ins (g.c 2) dx [("house", houseV st)])
  hs : ∀ A b, st = some (A, b) → HouseAt g H A b ∧ Sep A ∧ WF b ∧ x ∉ A.foot
/-- what a call promises: the answer r, the state s' -/
def Ansd (g : G) (x dx : Addr) (st : DS) (s' : Option Sr98.Bakery) (r : List Int) (H : Hp) (Q : VK) : Prop := ∀ p H' st', Ext (x :: footS st) H H' → DeskAt g H' x dx st' → stB st' = s' → (∀ y ∈ footS st', y ∈ footS st ∨ H y = none) → H p = none → H' p = some (.lst (r.map V.int)) → Q (.ref p) H'
section
variable {P : Program} {w : World} {K : PySem.W.Frag} {mg : Str → Option Value} {base : Heap} {g : G} {H H' : Hp} {Q : VK} {E : XK}
theorem fK1 {R : V → Prop} {x dx : Addr} {st : DS} (T : Txt K mg g) (h : DeskAt g H x dx st) (q : R (houseV st)) : FldK K H x "house" R := k_fld h.obj T.clDesk T.nDesk_house lk_here q
theorem DeskAt.mono {x dx : Addr} {st : DS} (e : Ex H H') (h : DeskAt g H x dx st) : DeskAt g H' x dx st := ⟨e _ _ h.obj, fun A b z => let ⟨h1, h2, h3, h4⟩ := h.hs A b z; ⟨h1.mono e, h2, h3, h4⟩⟩
/-! ### create -/
def sp_create (g : G) : Sp := fun vs H Q _ => ∃ (x dx : Addr) (st : DS) (n p : Int), vs = [.ref x, .int n, .int p] ∧ DeskAt g H x dx st ∧ Ansd g x dx st (Sr98.step (stB st) (.create n p)).1 (res (Sr98.step (stB st) (.create n p)).2) H Q
theorem ok_create (T : Txt K mg g) : OK_create P w K mg base g (sp_create g) := by
  refine W_create T (ok_new_house T) (ok_is_between T) (ok_is_baking T) (fun vs H Q E h => ?_) (fun vs H Q E h => ?_)
  · obtain ⟨_, _, _, _, _, rfl, _⟩ := h
    rfl
  · obtain ⟨x, dx, st, n, p, rfl, h1, h⟩ := h
    unfold t_create
    have hs : Sr98.step (stB st) (.create n p) = if (SrCommon.inRange n 1 Sr98.maxHours && SrCommon.inRange p 1 9) = false then (stB st, .ofCode SrCommon.invalidArgument) else (some ⟨List.replicate n.toNat 24, [], p.toNat⟩, .ofCode 0) := rfl
    rw [hs] at h
    have bad : (SrCommon.inRange n 1 Sr98.maxHours && SrCommon.inRange p 1 9) = false → NewO [V.int (-22)].length (.lst [V.int (-22)]) H Q := fun c => by
      rw [if_pos c] at h
      exact k_new (by show 1 ≤ sizeLine; decide) fun q H1 nq e1 y1 => h q H1 st (Ext.ofEx e1) (h1.mono e1) rfl (fun y hy => .inl hy) nq y1
    walk_at "go"
    refine u_is_between ?_
    walk_at "go"
    have e36 : (decide (1 ≤ n) && decide (n ≤ 36)) = SrCommon.inRange n 1 Sr98.maxHours := rfl
    rw [e36]
    refine k_iteBN (fun c => ?_) (fun c1 => ?_)
    · walk_at "go"
      exact bad (by rw [c]; rfl)
    walk_at "go"
    refine u_is_baking ?_
    walk_at "go"
    refine k_iteBN (fun c => ?_) (fun c2 => ?_)
    · walk_at "go"
      exact bad (by rw [c1, c]; rfl)
    rw [if_neg (by rw [c1, c2]; simp)] at h
    rw [← e36, Bool.and_eq_true, decide_eq_true_eq, decide_eq_true_eq] at c1
    obtain ⟨p, rfl, hp1, hp2⟩ := bake_nat c2
    obtain ⟨n, rfl⟩ : ∃ k : Nat, n = (k : Int) := ⟨n.toNat, by omega⟩
    rw [Int.toNat_natCast, Int.toNat_natCast] at h
    walk_at "go"
    refine ⟨n, p, rfl, by omega, fun H1 A e1 fr nd hA => ?_⟩
    walk_at "go"
    have h2 := h1.mono e1
    refine k_sfld h2.obj T.clDesk T.nDesk_house (by show 1 < 1000; decide) fun H2 x2 y2 => ?_
    rw [put_here] at y2
    have nx : x ∉ A.foot := fun z => by
      have q := fr x z
      rw [h1.obj] at q
      cases q
    have hA2 : HouseAt g H2 A ⟨List.replicate n 24, [], p⟩ := hA.ext x2 (fun y hy z => nx (by rw [← List.mem_singleton.mp z]; exact hy))
    walk_at "go"
    refine k_new (by show 1 ≤ sizeLine; decide) fun q H3 nq e3 y3 => ?_
    refine h q H3 (some (A, ⟨List.replicate n 24, [], p⟩)) (Ext.trans (Ext.trans (Ext.ofEx e1) (Ext.mono (fun z hz => ?_) x2)) (Ext.ofEx e3)) ⟨e3 _ _ y2, fun A' b' z => ?_⟩ rfl (fun y hy => .inr (fr y hy)) (ex_none e1 (none_ext x2 (fun z => ?_) nq)) y3
    · rw [List.mem_singleton.mp hz]
      exact List.mem_cons_self ..
    · cases z
      exact ⟨hA2.mono e3, Sep.of nd, create_wf (by omega) (by omega) hp1 hp2, nx⟩
    · rw [List.mem_singleton.mp z, y2] at nq
      cases nq
/-! ### changed, asked -/
def sp_changed (g : G) : Sp := fun vs H Q _ => ∃ (A : HA) (b : Sr98.Bakery) (p : Int) (N : Addr) (nums : List Int) (c : Sr98.Call), vs = [.ref A.a, .int p, .ref N] ∧ HouseAt g H A b ∧ Sep A ∧ WF b ∧ intsAt H N nums ∧ Chg p nums c ∧ MutC g A b c H Q
theorem ok_changed (T : Txt K mg g) : OK_changed P w K mg base g (sp_changed g) := by
  refine W_changed T (ok_set_baking_time T) (ok_set_temperature T) (ok_set_temperatures T) (ok_add_dough T) (ok_remove_dough T) (ok_cool T) (ok_stop_cooling T) (fun vs H Q E h => ?_) (fun vs H Q E h => ?_)
  · obtain ⟨_, _, _, _, _, _, rfl, _⟩ := h
    rfl
  · obtain ⟨A, b, p, N, nums, c, rfl, h1, S, hw, hN, hc, h⟩ := h
    unfold t_changed
    have hN := SqL.of (K := K) hN
    cases hc with
    | c1 x y =>
      repeat (walk_at "go"; refine k_ite (fun z => absurd z (by decide)) (fun _ => ?_))
      walk_at "go"
      refine k_ite (fun _ => ?_) (fun z => absurd rfl z)
      walk_at "go"
      refine r_ixL0 hN ?_
      walk_at "go"
      refine r_ixL1 hN ?_
      walk_at "go"
      exact ⟨A, b, x, y, rfl, h1, S, h⟩
    | c2 x y z =>
      repeat (walk_at "go"; refine k_ite (fun z => absurd z (by decide)) (fun _ => ?_))
      walk_at "go"
      refine k_ite (fun _ => ?_) (fun z => absurd rfl z)
      walk_at "go"
      refine r_ixL0 hN ?_
      walk_at "go"
      refine r_ixL1 hN ?_
      walk_at "go"
      refine r_ixL2 hN ?_
      walk_at "go"
      exact ⟨A, b, x, y, z, rfl, h1, S, hw.h2, h⟩
    | c3 x y z =>
      repeat (walk_at "go"; refine k_ite (fun z => absurd z (by decide)) (fun _ => ?_))
      walk_at "go"
      refine k_ite (fun _ => ?_) (fun z => absurd rfl z)
      walk_at "go"
      refine r_ixL0 hN ?_
      walk_at "go"
      refine r_ixL1 hN ?_
      walk_at "go"
      refine r_ixL2 hN ?_
      walk_at "go"
      exact ⟨A, b, x, y, z, rfl, h1, S, hw, h⟩
    | c4 x =>
      repeat (walk_at "go"; refine k_ite (fun z => absurd z (by decide)) (fun _ => ?_))
      walk_at "go"
      refine k_ite (fun _ => ?_) (fun z => absurd rfl z)
      walk_at "go"
      refine r_ixL0 hN ?_
      walk_at "go"
      exact ⟨A, b, x, rfl, h1, S, hw, h⟩
    | c5 x y z =>
      repeat (walk_at "go"; refine k_ite (fun z => absurd z (by decide)) (fun _ => ?_))
      walk_at "go"
      refine k_ite (fun _ => ?_) (fun z => absurd rfl z)
      walk_at "go"
      refine r_ixL0 hN ?_
      walk_at "go"
      refine r_ixL1 hN ?_
      walk_at "go"
      refine r_ixL2 hN ?_
      walk_at "go"
      exact ⟨A, b, x, y, z, rfl, h1, S, hw, h⟩
    | c6 x =>
      repeat (walk_at "go"; refine k_ite (fun z => absurd z (by decide)) (fun _ => ?_))
      walk_at "go"
      refine k_ite (fun _ => ?_) (fun z => absurd rfl z)
      walk_at "go"
      refine r_ixL0 hN ?_
      walk_at "go"
      exact ⟨A, b, x, rfl, h1, S, hw, h⟩
    | c7 x =>
      repeat (walk_at "go"; refine k_ite (fun z => absurd z (by decide)) (fun _ => ?_))
      walk_at "go"
      refine r_ixL0 hN ?_
      walk_at "go"
      exact ⟨A, b, x, rfl, h1, S, h⟩
def sp_asked (g : G) : Sp := fun vs H Q _ => ∃ (A : HA) (b : Sr98.Bakery) (p : Int) (N O : Addr) (nums order : List Int) (c : Sr98.Call), vs = [.ref A.a, .int p, .ref N, .ref O] ∧ HouseAt g H A b ∧ WF b ∧ intsAt H N nums ∧ intsAt H O order ∧ Ask p nums order c ∧ Askd (told b c) H Q
theorem ok_asked (T : Txt K mg g) : OK_asked P w K mg base g (sp_asked g) := by
  refine W_asked T (ok_describe T) (ok_window T) (ok_risen T) (ok_start_times T) (ok_plan T) (ok_most_doughs T) (ok_earliest_deadline T) (ok_can_bake T) (ok_plan_if_cooled T) (fun vs H Q E h => ?_) (fun vs H Q E h => ?_)
  · obtain ⟨_, _, _, _, _, _, _, _, rfl, _⟩ := h
    rfl
  · obtain ⟨A, b, p, N, O, nums, order, c, rfl, h1, hw, hN, hO, hc, h⟩ := h
    unfold t_asked
    have hN := SqL.of (K := K) hN
    cases hc with
    | c8 x =>
      repeat (walk_at "go"; refine k_ite (fun z => absurd z (by decide)) (fun _ => ?_))
      walk_at "go"
      refine k_ite (fun _ => ?_) (fun z => absurd rfl z)
      walk_at "go"
      refine r_ixL0 hN ?_
      walk_at "go"
      exact ⟨A, b, x, rfl, h1, hw, h⟩
    | c9 x y =>
      repeat (walk_at "go"; refine k_ite (fun z => absurd z (by decide)) (fun _ => ?_))
      walk_at "go"
      refine k_ite (fun _ => ?_) (fun z => absurd rfl z)
      walk_at "go"
      refine r_ixL0 hN ?_
      walk_at "go"
      refine r_ixL1 hN ?_
      walk_at "go"
      exact ⟨A, b, x, y, rfl, h1, hw, h⟩
    | c10 o hl =>
      repeat (walk_at "go"; refine k_ite (fun z => absurd z (by decide)) (fun _ => ?_))
      walk_at "go"
      refine k_ite (fun _ => ?_) (fun z => absurd rfl z)
      walk_at "go"
      exact ⟨A, b, O, order, rfl, h1, hw, hO, by omega, h⟩
    | c11 =>
      repeat (walk_at "go"; refine k_ite (fun z => absurd z (by decide)) (fun _ => ?_))
      walk_at "go"
      refine k_ite (fun _ => ?_) (fun z => absurd rfl z)
      walk_at "go"
      exact ⟨A, b, rfl, h1, hw, h⟩
    | c12 =>
      repeat (walk_at "go"; refine k_ite (fun z => absurd z (by decide)) (fun _ => ?_))
      walk_at "go"
      refine k_ite (fun _ => ?_) (fun z => absurd rfl z)
      walk_at "go"
      exact ⟨A, b, rfl, h1, hw, h⟩
    | c13 =>
      repeat (walk_at "go"; refine k_ite (fun z => absurd z (by decide)) (fun _ => ?_))
      walk_at "go"
      refine k_ite (fun _ => ?_) (fun z => absurd rfl z)
      walk_at "go"
      exact ⟨A, b, rfl, h1, hw, h⟩
    | c14 x =>
      repeat (walk_at "go"; refine k_ite (fun z => absurd z (by decide)) (fun _ => ?_))
      walk_at "go"
      refine k_ite (fun _ => ?_) (fun z => absurd rfl z)
      walk_at "go"
      refine r_ixL0 hN ?_
      walk_at "go"
      exact ⟨A, b, x, rfl, h1, hw, h⟩
    | c15 x y z =>
      repeat (walk_at "go"; refine k_ite (fun z => absurd z (by decide)) (fun _ => ?_))
      walk_at "go"
      refine k_ite (fun _ => ?_) (fun z => absurd rfl z)
      walk_at "go"
      refine r_ixL0 hN ?_
      walk_at "go"
      refine r_ixL1 hN ?_
      walk_at "go"
      refine r_ixL2 hN ?_
      walk_at "go"
      exact ⟨A, b, x, y, z, rfl, h1, hw, h⟩
    | c16 =>
      repeat (walk_at "go"; refine k_ite (fun z => absurd z (by decide)) (fun _ => ?_))
      walk_at "go"
      exact ⟨A, b, rfl, h1, hw, h⟩
/-! ### answered -/
def sp_answered (g : G) : Sp := fun vs H Q _ => ∃ (x dx : Addr) (st : DS) (p : Int) (N O : Addr) (nums order : List Int) (c : Sr98.Call), vs = [.ref x, .int p, .ref N, .ref O] ∧ DeskAt g H x dx st ∧ intsAt H N nums ∧ intsAt H O order ∧ CallIs p nums order c ∧
  Ansd g x dx st (Sr98.step (stB st) c).1 (res (Sr98.step (stB st) c).2) H Q
theorem chg_range {p : Int} {a : List Int} {c : Sr98.Call} (h : Chg p a c) : 1 ≤ p ∧ p < 8 := by
  cases h <;> decide
theorem ask_range {p : Int} {a o : List Int} {c : Sr98.Call} (h : Ask p a o c) : 8 ≤ p := by
  cases h <;> decide
theorem ok_answered (T : Txt K mg g) : OK_answered P w K mg base g (sp_answered g) := by
  refine W_answered T (ok_asked T) (ok_create T) (ok_changed T) (fun vs H Q E h => ?_) (fun vs H Q E h => ?_)
  · obtain ⟨_, _, _, _, _, _, _, _, _, rfl, _⟩ := h
    rfl
  · obtain ⟨x, dx, st, p, N, O, nums, order, c, rfl, h1, hN, hO, hc, h⟩ := h
    unfold t_answered
    have hN2 := SqL.of (K := K) hN
    have later : (Chg p nums c ∨ Ask p nums order c) → 1 ≤ p → (p < 8 → Chg p nums c) → (¬ p < 8 → Ask p nums order c) → t_answered K g (sp_asked g) (sp_create g) (sp_changed g) { nx := fun _ H' => Q .non H', rt := Q } (L2.start ["desk", "place", "numbers", "order"] [.ref x, .int p, .ref N, .ref O]) H := fun hca hp1 k1 k2 => by
      unfold t_answered
      walk_at "go"
      refine k_ite (fun z => absurd z (by omega)) (fun _ => ?_)
      walk_at "go"
      refine fK1 T h1 ?_
      walk_at "go"
      cases st with
      | none =>
        have es : Sr98.step (stB none) c = (none, .ofCode (-11)) := step_none hca
        rw [es] at h
        refine k_ite (fun _ => ?_) (fun z => absurd rfl z)
        walk_at "go"
        exact k_new (by show 1 ≤ sizeLine; decide) fun q H1 nq e1 y1 => h q H1 none (Ext.ofEx e1) (h1.mono e1) rfl (fun y hy => .inl hy) nq y1
      | some s =>
        obtain ⟨A, b⟩ := s
        obtain ⟨hA, S, hw, nx⟩ := h1.hs A b rfl
        have es : Sr98.step (stB (some (A, b))) c = (some (done b c), (Sr98.perform b c).2) := step_some hca b
        rw [es] at h
        refine k_ite (fun z => absurd z (by intro z; cases z)) (fun _ => ?_)
        walk_at "go"
        refine k_ite (fun c8 => ?_) (fun c8 => ?_)
        · have hch := k1 c8
          walk_at "go"
          refine fK1 T h1 ?_
          walk_at "go"
          refine ⟨A, b, p, N, nums, c, rfl, hA, S, hw, hN, hch, fun q H1 A' x1 fr S' ea hA' nq y1 => ?_⟩
          have nx' : x ∉ A'.foot := fun z => by
            rcases fr x z with q | q
            · exact nx q
            · rw [h1.obj] at q
              cases q
          refine h q H1 (some (A', done b c)) (Ext.mono (fun z hz => List.mem_cons_of_mem _ hz) x1) ⟨?_, fun A2 b2 z => ?_⟩ rfl fr nq y1
          · have e := x1 _ _ nx h1.obj
            show H1 x = some (.ins (g.c 2) dx [("house", .ref A'.a)])
            rw [ea]
            exact e
          · cases z
            exact ⟨hA', S', chg_wf hch hw, nx'⟩
        · have hak := k2 c8
          walk_at "go"
          refine fK1 T h1 ?_
          walk_at "go"
          refine ⟨A, b, p, N, O, nums, order, c, rfl, hA, hw, hN, hO, hak, fun q H1 e1 nq y1 => ?_⟩
          have eb : done b c = b := by
            unfold done
            rw [ask_done hak]
            rfl
          rw [eb] at h
          exact h q H1 (some (A, b)) (Ext.ofEx e1) (h1.mono e1) rfl (fun y hy => .inl hy) nq y1
    cases hc with
    | c0 a b =>
      walk_at "go"
      refine k_ite (fun _ => ?_) (fun z => absurd rfl z)
      walk_at "go"
      refine r_ixL0 hN2 ?_
      walk_at "go"
      refine r_ixL1 hN2 ?_
      walk_at "go"
      exact ⟨x, dx, st, a, b, rfl, h1, h⟩
    | chg hch => exact later (.inl hch) (chg_range hch).1 (fun _ => hch) (fun z => absurd (chg_range hch).2 z)
    | ask hak => exact later (.inr hak) (by have q := ask_range hak; omega) (fun z => absurd z (by have q := ask_range hak; omega)) (fun _ => hak)
/-! ### order_at, behind -/
theorem cut_mid (xs : List V) (a m : Nat) : cutV xs (some (a : Int)) (some ((a + m : Nat) : Int)) = (xs.drop a).take m := by
  unfold cutV
  rw [HT.sIx_nat, HT.sIx_nat]
  by_cases h : a ≤ xs.length
  · rw [Nat.min_eq_left h]
    by_cases h2 : a + m ≤ xs.length
    · rw [Nat.min_eq_left h2, Nat.add_sub_cancel_left]
    · rw [Nat.min_eq_right (by omega), List.take_of_length_le (by rw [List.length_drop]; omega), List.take_of_length_le (by rw [List.length_drop]; omega)]
  · rw [Nat.min_eq_right (show xs.length ≤ a + m by omega), Nat.min_eq_right (show xs.length ≤ a by omega), List.drop_length, List.drop_of_length_le (show xs.length ≤ a by omega), List.take_nil, List.take_nil]
def sp_order_at (K : PySem.W.Frag) : Sp := fun vs H Q _ => ∃ (C : Addr) (ns : List Int) (at_ : Nat) (p : Int) (order : List Int), vs = [.ref C, natV at_, .int p] ∧ SqL K H C (ns.map V.int) ∧
  (p ≠ 10 → order = []) ∧ (p = 10 → ∃ m : Nat, ns[at_]? = some (m : Int) ∧ (ns.drop (at_ + 1)).take m = order) ∧ ∀ q H', Ex H H' → H q = none → intsAt H' q order → Q (.ref q) H'
theorem ok_order_at (T : Txt K mg g) : OK_order_at P w K mg base g (sp_order_at K) := by
  refine W_order_at T (fun vs H Q E h => ?_) (fun vs H Q E h => ?_)
  · obtain ⟨_, _, _, _, _, rfl, _⟩ := h
    rfl
  · obtain ⟨C, ns, at_, p, order, rfl, hC, k1, k2, h⟩ := h
    unfold t_order_at
    walk_at "go"
    refine k_iteN (fun c => ?_) (fun c => ?_)
    · walk_at "go"
      have e := k1 c
      subst e
      exact k_new (Nat.zero_le _) fun q H1 nq e1 y1 => h q H1 e1 nq y1
    · obtain ⟨m, hm, rfl⟩ := k2 c
      walk_at "go"
      refine r_ixL (v := .int (m : Int)) hC (by rw [List.getElem?_map, hm]; rfl) ?_
      walk_at "go"
      have e1 : (at_ : Int) + 1 = ((at_ + 1 : Nat) : Int) := rfl
      have e2 : (at_ : Int) + 1 + (m : Int) = ((at_ + 1 + m : Nat) : Int) := by omega
      rw [e2, e1]
      refine r_slL hC fun q H1 nq e1 y1 => ?_
      rw [cut_mid, ← List.map_drop, ← List.map_take] at y1
      exact h q H1 e1 nq y1
def sp_behind : Sp := fun vs H Q _ => ∃ (at_ : Nat) (p : Int) (O : Addr) (order : List Int) (r : Nat), vs = [natV at_, .int p, .ref O] ∧ intsAt H O order ∧ (p ≠ 10 → r = at_) ∧ (p = 10 → r = at_ + 1 + order.length) ∧ Q (natV r) H
theorem ok_behind (T : Txt K mg g) : OK_behind P w K mg base g sp_behind := by
  refine W_behind T (fun vs H Q E h => ?_) (fun vs H Q E h => ?_)
  · obtain ⟨_, _, _, _, _, rfl, _⟩ := h
    rfl
  · obtain ⟨at_, p, O, order, r, rfl, hO, k1, k2, h⟩ := h
    unfold t_behind
    walk_at "go"
    refine k_iteN (fun c => ?_) (fun c => ?_)
    · walk_at "go"
      rw [k1 c] at h
      exact h
    · rw [k2 c] at h
      walk_at "go"
      refine r_lenL (SqL.of hO) ?_
      walk_at "go"
      rw [List.length_map]
      have e2 : (at_ : Int) + 1 + (order.length : Int) = ((at_ + 1 + order.length : Nat) : Int) := by omega
      rw [e2]
      exact h
def sp_Desk_init (g : G) : Sp := fun vs H Q _ => ∃ (p dx : Addr), vs = [.ref p] ∧ H p = some (.ins (g.c 2) dx []) ∧ ∀ H', Ext [p] H H' → DeskAt g H' p dx none → Q .non H'
theorem ok_Desk_init (T : Txt K mg g) : OK_Desk_init P w K mg base g (sp_Desk_init g) := by
  refine W_Desk_init T (fun vs H Q E h => ?_) (fun vs H Q E h => ?_)
  · obtain ⟨_, _, rfl, _⟩ := h
    rfl
  · obtain ⟨p, dx, rfl, h1, h⟩ := h
    unfold t_Desk_init
    walk_at "go"
    refine k_sfld h1 T.clDesk T.nDesk_house (by decide) fun H1 x1 y1 => ?_
    exact h H1 x1 ⟨y1, fun A b z => by cases z⟩
end
end Bk
/-! ## answers -/
namespace Bk
open PySem PySem.Spec PyProof.Rows L2 Evl
section
variable {P : Program} {w : World} {K : PySem.W.Frag} {mg : Str → Option Value} {base : Heap} {g : G} {H H' : Hp} {Q : VK} {E : XK}
theorem r_while {σ : L2.St} {c : TT} {tb : TS} {nx bk ct : L2.St → Hp → Prop} {rt : VK} (W : Nat → L2.St → Hp → Prop) (m0 : Nat) (h0 : W m0 σ H)
    (hs : ∀ m σ' H', W m σ' H' → c σ' H' fun b H1 => if b = true then tb ⟨fun σ2 H2 => ∃ m', m' < m ∧ W m' σ2 H2, rt, nx, fun σ2 H2 => ∃ m', m' < m ∧ W m' σ2 H2⟩ σ' H1 else nx σ' H1)
    (mono : ∀ σ' H' (R R' : Bool → Hp → Prop), (∀ b H1, R b H1 → R' b H1) → c σ' H' R → c σ' H' R') : tWhile c tb ⟨nx, rt, bk, ct⟩ σ H := by
  refine ⟨W, ⟨m0, h0⟩, fun m σ' H' hw => mono σ' H' _ _ (fun b H1 q => ?_) (hs m σ' H' hw)⟩
  cases b with
  | true =>
    rw [if_pos rfl] at q ⊢
    exact ⟨fun σ2 H2 => ∃ m', m' < m ∧ W m' σ2 H2, fun σ2 H2 z => z, q⟩
  | false =>
    rw [if_neg Bool.false_ne_true] at q ⊢
    exact q
theorem drop_facts {ns : List Int} {n : Nat} {a : Int} {l r : List Int} (e : ns.drop n = a :: (l ++ r)) : ns[n]? = some a ∧ (ns.drop (n + 1)).take l.length = l ∧ ns.drop (n + 1 + l.length) = r ∧ n + 1 + l.length ≤ ns.length := by
  have e1 : ns.drop (n + 1) = l ++ r := by
    rw [← List.drop_drop, e]
    rfl
  refine ⟨?_, ?_, ?_, ?_⟩
  · have q := List.getElem?_drop (xs := ns) (i := n) (j := 0)
    rw [e] at q
    exact q.symm
  · rw [e1, List.take_left]
  · rw [← List.drop_drop, e1, List.drop_left]
  · have q := congrArg List.length e
    rw [List.length_drop, List.length_cons, List.length_append] at q
    omega
def sp_answers (K : PySem.W.Frag) : Sp := fun vs H Q _ => ∃ (a : Addr) (ns : List Int), vs = [.ref a] ∧ SqL K H a (ns.map V.int) ∧ PySr98.answers_asked ns = true ∧ ∀ (H' : Hp) (p : Addr), H' p = some (.lst ((PySr98.answers ns).map V.int)) → Q (.ref p) H'
theorem put_nil {cs : List (List (List Int))} (h : ∀ c ∈ cs, ∃ p nums order call, RawCall c p nums order call) (e : PyFlat.put cs = []) : cs = [] := by
  cases cs with
  | nil => rfl
  | cons c r =>
    obtain ⟨p, nums, order, call, hr⟩ := h c (List.mem_cons_self ..)
    have e : PyFlat.put1 c ++ PyFlat.put r = [] := e
    rcases hr.flat with ⟨_, _, q⟩ | ⟨_, _, q⟩ <;> rw [q] at e <;> cases e
/-- the word of the loop: so many numbers are to come -/
def AnsW (g : G) (H0 : Hp) (C x dx t : Addr) (ns : List Int) (m : Nat) (σ : L2.St) (H : Hp) : Prop := ∃ (n : Nat) (st : DS) (acc : List Int) (cs : List (List (List Int))) (y4 y5 y6 y7 y8 : Option V),
  σ = [some (.ref C), some (.ref x), some (.ref t), some (natV n), y4, y5, y6, y7, y8] ∧ Ex H0 H ∧ DeskAt g H x dx st ∧ (∀ y ∈ footS st, H0 y = none ∧ y ≠ t) ∧ intsAt H t acc ∧ ns.drop n = PyFlat.put cs ∧ n ≤ ns.length ∧
  (∀ c ∈ cs, ∃ p nums order call, RawCall c p nums order call) ∧ acc ++ saidOf (stB st) cs = PySr98.answers ns ∧ m = ns.length - n
theorem turn {H0 H1 H5 H6 H8 : Hp} {C x dx t : Addr} {ns acc r : List Int} {n : Nat} {st st' : DS} {cs : List (List (List Int))} {y4 y5 y6 y7 y8 : Option V} (T : Txt K mg g) (nx : H0 x = none) (nt : H0 t = none) (nxt : x ≠ t) (e06 : Ex H0 H6) (x68 : Ext [t] H6 H8) (hD : DeskAt g H6 x dx st')
    (hf : ∀ y ∈ footS st, H0 y = none ∧ y ≠ t) (fr : ∀ y ∈ footS st', y ∈ footS st ∨ H5 y = none) (ht5 : intsAt H5 t acc) (e15 : Ex H1 H5) (e01 : Ex H0 H1) (y : H8 t = some (.lst (acc.map V.int ++ [.int (r.length : Int)] ++ r.map V.int))) (hd : ns.drop n = PyFlat.put cs) (hn : n ≤ ns.length)
    (hcs : ∀ c ∈ cs, ∃ p nums order call, RawCall c p nums order call) (ea : acc ++ (r.length : Int) :: (r ++ saidOf (stB st') cs) = PySr98.answers ns) :
    AnsW g H0 C x dx t ns (ns.length - n) [some (.ref C), some (.ref x), some (.ref t), some (natV n), y4, y5, y6, y7, y8] H8 := by
  have ft : ∀ y ∈ footS st', H0 y = none ∧ y ≠ t := fun y hy => by
    rcases fr y hy with q | q
    · exact hf y q
    · refine ⟨ex_none (e01.trans e15) q, fun z => ?_⟩
      rw [z, ht5] at q
      cases q
  refine ⟨n, st', acc ++ (r.length : Int) :: r, cs, y4, y5, y6, y7, y8, rfl, ex_via e06 x68 (by simpa using nt), ⟨x68 _ _ (by simpa using nxt) hD.obj, fun A b z => ?_⟩, ft, ?_, hd, hn, hcs, ?_, rfl⟩
  · obtain ⟨h1, h2, h3, h4⟩ := hD.hs A b z
    refine ⟨h1.ext x68 (fun y hy q => ?_), h2, h3, h4⟩
    have z2 := (ft y (by rw [z]; exact hy)).2
    exact z2 (List.mem_singleton.mp q)
  · unfold intsAt
    rw [y, List.map_append, List.map_cons, List.append_assoc]
    rfl
  · rw [← ea, List.append_assoc]
    rfl
theorem ok_answers (T : Txt K mg g) : OK_answers P w K mg base g (sp_answers K) := by
  refine W_answers T (ok_Desk_init T) (ok_order_at T) (ok_answered T) (ok_behind T) (fun vs H Q E h => ?_) (fun vs H Q E h => ?_)
  · obtain ⟨_, _, rfl, _⟩ := h
    rfl
  · obtain ⟨C, ns, rfl, hC, hask, h⟩ := h
    obtain ⟨cs0, ens, hraw, eans, hshort⟩ := asked_is hask
    unfold t_answers
    walk_at "go"
    refine r_make fun x dx H1 nx ndx ne e1 y1 fr => ?_
    refine ⟨x, dx, rfl, y1, fun H2 x2 hd => ⟨rfl, ?_⟩⟩
    have e2 : Ex H H2 := ex_via e1 x2 (by simpa using nx)
    walk_at "go"
    refine k_new (Nat.zero_le _) fun t H3 nt e3 y3 => ?_
    walk_at "go"
    have nt0 : H t = none := ex_none e2 nt
    have nxt : x ≠ t := fun z => by
      have q := hd.obj
      rw [z, nt] at q
      cases q
    refine r_while (AnsW g H C x dx t ns) ns.length ⟨0, none, [], cs0, none, none, none, none, none, rfl, e2.trans e3, hd.mono e3, fun y hy => absurd hy (by simp [footS]), y3, ens, Nat.zero_le _, hraw, ?_, rfl⟩ ?_ ?_
    · rw [eans]
      rfl
    · rintro m σ' H' ⟨n, st, acc, cs, y4, y5, y6, y7, y8, rfl, e4, hD, hf, ht, edrop, hle, hcs, eacc, rfl⟩
      have hC' := ex_l e4 hC
      walk_at "go"
      refine r_lenL hC' ?_
      walk_at "go"
      rw [List.length_map]
      refine k_ite (fun c => ?_) (fun c => ?_)
      · have hlt : n < ns.length := by omega
        cases cs with
        | nil =>
          have q := congrArg List.length edrop
          rw [List.length_drop] at q
          have q : ns.length - n = 0 := q
          omega
        | cons c0 cs =>
          obtain ⟨p, nums, order, call, hr⟩ := hcs c0 (List.mem_cons_self ..)
          obtain ⟨k, rfl, hk⟩ := hr.num
          have ed : ns.drop n = PyFlat.put1 c0 ++ PyFlat.put cs := edrop
          obtain ⟨rest, erest, ed1⟩ : ∃ rest, PyFlat.put1 c0 ++ PyFlat.put cs = (k : Int) :: (nums ++ rest) ∧ (((k : Int) ≠ 10 ∧ order = [] ∧ rest = PyFlat.put cs) ∨ ((k : Int) = 10 ∧ rest = (order.length : Int) :: (order ++ PyFlat.put cs))) := by
            rcases hr.flat with ⟨q1, q2, q3⟩ | ⟨q1, q2, q3⟩
            · exact ⟨PyFlat.put cs, by rw [q3]; rfl, .inl ⟨q1, q2, rfl⟩⟩
            · refine ⟨(order.length : Int) :: (order ++ PyFlat.put cs), ?_, .inr ⟨q1, rfl⟩⟩
              rw [q3, q1, q2]
              rfl
          rw [erest] at ed
          obtain ⟨f1, f2, f3, f4⟩ := drop_facts ed
          walk_at "go"
          refine r_ixL (v := .int (k : Int)) hC' (by rw [List.getElem?_map, f1]; rfl) ?_
          walk_at "go"
          refine r_ixT (v := natV nums.length) (T.t_NUMBERS H') ?_ ?_
          · have q : (numsOf.map natV)[k]? = some (natV nums.length) := by
              rw [List.getElem?_map, hk]
              rfl
            exact q
          walk_at "go"
          have ec1 : (n : Int) + 1 = ((n + 1 : Nat) : Int) := rfl
          have ec2 : (n : Int) + 1 + ((nums.length : Nat) : Int) = ((n + 1 + nums.length : Nat) : Int) := by omega
          rw [ec2, ec1]
          refine r_slL hC' fun N H4 nN e5 yN => ?_
          rw [cut_mid, ← List.map_drop, ← List.map_take, f2] at yN
          walk_at "go"
          have hC4 := ex_l e5 hC'
          refine ⟨C, ns, n + 1 + nums.length, (k : Int), order, rfl, hC4, fun z => ?_, fun z => ?_, fun O H5 e6 nO yO => ?_⟩
          · rcases ed1 with ⟨_, q, _⟩ | ⟨q, _⟩
            · exact q
            · exact absurd q z
          · rcases ed1 with ⟨q, _⟩ | ⟨_, q⟩
            · exact absurd z q
            · rw [q] at f3
              obtain ⟨g1, g2, _, _⟩ := drop_facts f3
              exact ⟨order.length, g1, g2⟩
          walk_at "go"
          have e56 := e5.trans e6
          have hD5 := hD.mono e56
          refine ⟨x, dx, st, (k : Int), N, O, nums, order, call, rfl, hD5, e6 _ _ yN, yO, hr.is, fun F H6 st' x6 hD6 est fr6 nF yF => ?_⟩
          have ht5 : intsAt H5 t acc := e56 _ _ ht
          have ntf : t ∉ x :: footS st := fun z => by
            rcases List.mem_cons.mp z with z | z
            · exact nxt z.symm
            · exact (hf t z).2 rfl
          have ht6 : intsAt H6 t acc := x6 _ _ ntf ht5
          have e46 : Ex H H6 := ex_via (e4.trans e56) x6 (fun a ha => by
            rcases List.mem_cons.mp ha with z | z
            · rw [z]
              exact nx
            · exact (hf a z).1)
          rw [said_cons hr, ← est] at eacc
          generalize hrr : res (Sr98.step (stB st) call).2 = r at eacc yF
          have hlen := congrArg List.length eacc
          rw [List.length_append, List.length_cons, List.length_append] at hlen
          walk_at "go"
          refine k_tyL (SqL.of ht6) ?_
          walk_at "go"
          refine r_lenL (SqL.of yF) ?_
          walk_at "go"
          rw [List.length_map]
          refine k_app (K := K) ht6 (by rw [List.length_map, sizeLine_eq]; omega) fun H7 x7 y7 => ?_
          walk_at "go"
          have nFt : F ≠ t := fun z => by
            rw [z, ht5] at nF
            cases nF
          refine k_tyL (SqL.of y7) ?_
          walk_at "go"
          refine k_ext (K := K) y7 (x7 _ _ (by simpa using nFt) yF) (by rw [List.length_append, List.length_map, List.length_map, sizeLine_eq]; show acc.length + 1 + r.length ≤ _; omega) fun H8 x8 y8' => ?_
          walk_at "go"
          have x68 : Ext [t] H6 H8 := x7.trans x8
          have nO5 : O ≠ t := fun z => by
            rw [z, e5 _ _ ht] at nO
            cases nO
          have yO6 : intsAt H6 O order := x6 _ _ (fun z => by
            rcases List.mem_cons.mp z with z | z
            · rw [z, e5 _ _ hD.obj] at nO
              cases nO
            · have q := (hD.mono e5)
              cases st with
              | none => cases z
              | some s =>
                obtain ⟨A, b⟩ := s
                exact (q.hs A b rfl).1.foot_some O z nO) yO
          have cont : ∀ r' : Nat, ((k : Int) ≠ 10 → r' = n + 1 + nums.length) → ((k : Int) = 10 → r' = n + 1 + nums.length + 1 + order.length) → ns.drop r' = PyFlat.put cs ∧ n < r' ∧ r' ≤ ns.length := fun r' z1 z2 => by
            rcases ed1 with ⟨q1, _, q2⟩ | ⟨q1, q2⟩
            · rw [z1 q1]
              exact ⟨by rw [f3, q2], by omega, f4⟩
            · rw [z2 q1]
              rw [q2] at f3
              obtain ⟨_, _, g3, g4⟩ := drop_facts f3
              exact ⟨g3, by omega, g4⟩
          by_cases c10 : (k : Int) = 10
          · obtain ⟨w1, w2, w3⟩ := cont (n + 1 + nums.length + 1 + order.length) (fun z => absurd c10 z) (fun _ => rfl)
            refine ⟨n + 1 + nums.length, (k : Int), O, order, _, rfl, x68 _ _ (by simpa using nO5) yO6, fun z => absurd c10 z, fun _ => rfl, ?_⟩
            exact ⟨ns.length - (n + 1 + nums.length + 1 + order.length), by omega, turn (g := g) T nx nt0 nxt e46 x68 hD6 hf fr6 ht5 e56 e4 y8' w1 w3 (fun d hd => hcs d (List.mem_cons_of_mem _ hd)) eacc⟩
          · obtain ⟨w1, w2, w3⟩ := cont (n + 1 + nums.length) (fun _ => rfl) (fun z => absurd z c10)
            refine ⟨n + 1 + nums.length, (k : Int), O, order, _, rfl, x68 _ _ (by simpa using nO5) yO6, fun _ => rfl, fun z => absurd z c10, ?_⟩
            exact ⟨ns.length - (n + 1 + nums.length), by omega, turn (g := g) T nx nt0 nxt e46 x68 hD6 hf fr6 ht5 e56 e4 y8' w1 w3 (fun d hd => hcs d (List.mem_cons_of_mem _ hd)) eacc⟩
      · walk_at "go"
        have hn : ns.length = n := by omega
        have hp : PyFlat.put cs = [] := by
          rw [← edrop, List.drop_eq_nil_iff]
          omega
        have hc := put_nil hcs hp
        subst hc
        refine h H' t ?_
        rw [← eacc]
        show H' t = some (.lst ((acc ++ []).map V.int))
        rw [List.append_nil]
        exact ht
    · rintro σ' H' R R' hR hh
      obtain ⟨v, hv, v2, hv2, a, ys, q1, q2, i, j, q3, q4, c, q5, q6⟩ := hh
      exact ⟨v, hv, v2, hv2, a, ys, q1, q2, i, j, q3, q4, c, q5, hR _ _ q6⟩
end
end Bk
/-! ## The end: what the top has written, and the head (printed by genend.py) -/
namespace Bk
open PySem PySem.Spec PyProof.Rows L2 Evl
theorem txt_mk {K : PySem.W.Frag} {h : Heap} {mg : Str → Option Value} (X : K.In h) (G0 : h.Ns mainGlobals mg)
    {a_Dough a_House a_Desk a_NUMBERS f_is_between f_is_temperature f_is_baking f_Dough_init f_copied_dough f_rise_in f_risen_by f_is_ready f_window_of f_cool_hours f_is_cooled f_cooled_count f_House_init f_new_house f_copied_house f_hours_of f_has_dough f_windows_of f_set_temperature f_set_temperatures f_is_new_dough f_add_dough f_remove_dough f_cooling_refusal f_cool f_stop_cooling f_set_baking_time f_next_begun f_time_of_next f_deadline_order f_start_of f_starts_of f_finished_at f_longer_orders f_all_orders f_plan_for f_is_order f_sets_of f_doughs_in f_most_doughs_of f_window f_risen f_start_times f_plan f_most_doughs f_earliest_deadline f_can_bake f_plan_if_cooled f_describe f_Desk_init f_create f_changed f_asked f_answered f_order_at f_behind f_answers : Addr}
    {od_is_between an_is_between od_is_temperature an_is_temperature od_is_baking an_is_baking od_Dough_init an_Dough_init od_copied_dough an_copied_dough od_rise_in an_rise_in od_risen_by an_risen_by od_is_ready an_is_ready od_window_of an_window_of od_cool_hours an_cool_hours od_is_cooled an_is_cooled od_cooled_count an_cooled_count od_House_init an_House_init od_new_house an_new_house od_copied_house an_copied_house od_hours_of an_hours_of od_has_dough an_has_dough od_windows_of an_windows_of od_set_temperature an_set_temperature od_set_temperatures an_set_temperatures od_is_new_dough an_is_new_dough od_add_dough an_add_dough od_remove_dough an_remove_dough od_cooling_refusal an_cooling_refusal od_cool an_cool od_stop_cooling an_stop_cooling od_set_baking_time an_set_baking_time od_next_begun an_next_begun od_time_of_next an_time_of_next od_deadline_order an_deadline_order od_start_of an_start_of od_starts_of an_starts_of od_finished_at an_finished_at od_longer_orders an_longer_orders od_all_orders an_all_orders od_plan_for an_plan_for od_is_order an_is_order od_sets_of an_sets_of od_doughs_in an_doughs_in od_most_doughs_of an_most_doughs_of od_window an_window od_risen an_risen od_start_times an_start_times od_plan an_plan od_most_doughs an_most_doughs od_earliest_deadline an_earliest_deadline od_can_bake an_can_bake od_plan_if_cooled an_plan_if_cooled od_describe an_describe od_Desk_init an_Desk_init od_create an_create od_changed an_changed od_asked an_asked od_answered an_answered od_order_at an_order_at od_behind an_behind od_answers an_answers od_NUMBERS : Option Addr} {sl_is_between sl_is_temperature sl_is_baking sl_Dough_init sl_copied_dough sl_rise_in sl_risen_by sl_is_ready sl_window_of sl_cool_hours sl_is_cooled sl_cooled_count sl_House_init sl_new_house sl_copied_house sl_hours_of sl_has_dough sl_windows_of sl_set_temperature sl_set_temperatures sl_is_new_dough sl_add_dough sl_remove_dough sl_cooling_refusal sl_cool sl_stop_cooling sl_set_baking_time sl_next_begun sl_time_of_next sl_deadline_order sl_start_of sl_starts_of sl_finished_at sl_longer_orders sl_all_orders sl_plan_for sl_is_order sl_sets_of sl_doughs_in sl_most_doughs_of sl_window sl_risen sl_start_times sl_plan sl_most_doughs sl_earliest_deadline sl_can_bake sl_plan_if_cooled sl_describe sl_Desk_init sl_create sl_changed sl_asked sl_answered sl_order_at sl_behind sl_answers sl_NUMBERS : Array (Option Value)}
    {oc_is_between kV_is_between dc_is_between pm_is_between cd_is_between ct_is_between oc_is_temperature kV_is_temperature dc_is_temperature pm_is_temperature cd_is_temperature ct_is_temperature oc_is_baking kV_is_baking dc_is_baking pm_is_baking cd_is_baking ct_is_baking oc_Dough_init kV_Dough_init dc_Dough_init pm_Dough_init cd_Dough_init ct_Dough_init oc_copied_dough kV_copied_dough dc_copied_dough pm_copied_dough cd_copied_dough ct_copied_dough oc_rise_in kV_rise_in dc_rise_in pm_rise_in cd_rise_in ct_rise_in oc_risen_by kV_risen_by dc_risen_by pm_risen_by cd_risen_by ct_risen_by oc_is_ready kV_is_ready dc_is_ready pm_is_ready cd_is_ready ct_is_ready oc_window_of kV_window_of dc_window_of pm_window_of cd_window_of ct_window_of oc_cool_hours kV_cool_hours dc_cool_hours pm_cool_hours cd_cool_hours ct_cool_hours oc_is_cooled kV_is_cooled dc_is_cooled pm_is_cooled cd_is_cooled ct_is_cooled oc_cooled_count kV_cooled_count dc_cooled_count pm_cooled_count cd_cooled_count ct_cooled_count oc_House_init kV_House_init dc_House_init pm_House_init cd_House_init ct_House_init oc_new_house kV_new_house dc_new_house pm_new_house cd_new_house ct_new_house oc_copied_house kV_copied_house dc_copied_house pm_copied_house cd_copied_house ct_copied_house oc_hours_of kV_hours_of dc_hours_of pm_hours_of cd_hours_of ct_hours_of oc_has_dough kV_has_dough dc_has_dough pm_has_dough cd_has_dough ct_has_dough oc_windows_of kV_windows_of dc_windows_of pm_windows_of cd_windows_of ct_windows_of oc_set_temperature kV_set_temperature dc_set_temperature pm_set_temperature cd_set_temperature ct_set_temperature oc_set_temperatures kV_set_temperatures dc_set_temperatures pm_set_temperatures cd_set_temperatures ct_set_temperatures oc_is_new_dough kV_is_new_dough dc_is_new_dough pm_is_new_dough cd_is_new_dough ct_is_new_dough oc_add_dough kV_add_dough dc_add_dough pm_add_dough cd_add_dough ct_add_dough oc_remove_dough kV_remove_dough dc_remove_dough pm_remove_dough cd_remove_dough ct_remove_dough oc_cooling_refusal kV_cooling_refusal dc_cooling_refusal pm_cooling_refusal cd_cooling_refusal ct_cooling_refusal oc_cool kV_cool dc_cool pm_cool cd_cool ct_cool oc_stop_cooling kV_stop_cooling dc_stop_cooling pm_stop_cooling cd_stop_cooling ct_stop_cooling oc_set_baking_time kV_set_baking_time dc_set_baking_time pm_set_baking_time cd_set_baking_time ct_set_baking_time oc_next_begun kV_next_begun dc_next_begun pm_next_begun cd_next_begun ct_next_begun oc_time_of_next kV_time_of_next dc_time_of_next pm_time_of_next cd_time_of_next ct_time_of_next oc_deadline_order kV_deadline_order dc_deadline_order pm_deadline_order cd_deadline_order ct_deadline_order oc_start_of kV_start_of dc_start_of pm_start_of cd_start_of ct_start_of oc_starts_of kV_starts_of dc_starts_of pm_starts_of cd_starts_of ct_starts_of oc_finished_at kV_finished_at dc_finished_at pm_finished_at cd_finished_at ct_finished_at oc_longer_orders kV_longer_orders dc_longer_orders pm_longer_orders cd_longer_orders ct_longer_orders oc_all_orders kV_all_orders dc_all_orders pm_all_orders cd_all_orders ct_all_orders oc_plan_for kV_plan_for dc_plan_for pm_plan_for cd_plan_for ct_plan_for oc_is_order kV_is_order dc_is_order pm_is_order cd_is_order ct_is_order oc_sets_of kV_sets_of dc_sets_of pm_sets_of cd_sets_of ct_sets_of oc_doughs_in kV_doughs_in dc_doughs_in pm_doughs_in cd_doughs_in ct_doughs_in oc_most_doughs_of kV_most_doughs_of dc_most_doughs_of pm_most_doughs_of cd_most_doughs_of ct_most_doughs_of oc_window kV_window dc_window pm_window cd_window ct_window oc_risen kV_risen dc_risen pm_risen cd_risen ct_risen oc_start_times kV_start_times dc_start_times pm_start_times cd_start_times ct_start_times oc_plan kV_plan dc_plan pm_plan cd_plan ct_plan oc_most_doughs kV_most_doughs dc_most_doughs pm_most_doughs cd_most_doughs ct_most_doughs oc_earliest_deadline kV_earliest_deadline dc_earliest_deadline pm_earliest_deadline cd_earliest_deadline ct_earliest_deadline oc_can_bake kV_can_bake dc_can_bake pm_can_bake cd_can_bake ct_can_bake oc_plan_if_cooled kV_plan_if_cooled dc_plan_if_cooled pm_plan_if_cooled cd_plan_if_cooled ct_plan_if_cooled oc_describe kV_describe dc_describe pm_describe cd_describe ct_describe oc_Desk_init kV_Desk_init dc_Desk_init pm_Desk_init cd_Desk_init ct_Desk_init oc_create kV_create dc_create pm_create cd_create ct_create oc_changed kV_changed dc_changed pm_changed cd_changed ct_changed oc_asked kV_asked dc_asked pm_asked cd_asked ct_asked oc_answered kV_answered dc_answered pm_answered cd_answered ct_answered oc_order_at kV_order_at dc_order_at pm_order_at cd_order_at ct_order_at oc_behind kV_behind dc_behind pm_behind cd_behind ct_behind oc_answers kV_answers dc_answers pm_answers cd_answers ct_answers : Value}
    {k_NO_INSTANCE k_MISSING k_OUT_OF_RANGE k_FULL k_NOT_COOLED k_NOT_POSSIBLE k_MOST_HOURS k_MOST_BAKING k_MOST_TEMPERATURE k_MOST_RISEN k_MOST_DOUGHS k_FIRST_TEMPERATURE k_RESTING k_CREATE k_START_TIMES : Tok} {its_NUMBERS : List Value} {nn_NUMBERS : Nat}
    (aC_Dough : PySem.W.nsIn K mainGlobals "Dough" = some (some (.ref a_Dough)))
    (aC_House : PySem.W.nsIn K mainGlobals "House" = some (some (.ref a_House)))
    (aC_Desk : PySem.W.nsIn K mainGlobals "Desk" = some (some (.ref a_Desk)))
    (a_is_between : PySem.W.nsIn K mainGlobals "is_between" = some (some (.ref f_is_between)))
    (l_is_between : K.lookup f_is_between = some ⟨oc_is_between, od_is_between, .func (PySem.W.fnOf "is_between" "is_between" (defArgs s_is_between) (defBody s_is_between) (defScope s_is_between) .none kV_is_between dc_is_between pm_is_between an_is_between cd_is_between ct_is_between), sl_is_between⟩)
    (c_is_between : PySem.W.codeIn K cd_is_between "is_between" = true)
    (k_is_between : PySem.W.keepIn K (.ref f_is_between) = true)
    (a_is_temperature : PySem.W.nsIn K mainGlobals "is_temperature" = some (some (.ref f_is_temperature)))
    (l_is_temperature : K.lookup f_is_temperature = some ⟨oc_is_temperature, od_is_temperature, .func (PySem.W.fnOf "is_temperature" "is_temperature" (defArgs s_is_temperature) (defBody s_is_temperature) (defScope s_is_temperature) .none kV_is_temperature dc_is_temperature pm_is_temperature an_is_temperature cd_is_temperature ct_is_temperature), sl_is_temperature⟩)
    (c_is_temperature : PySem.W.codeIn K cd_is_temperature "is_temperature" = true)
    (k_is_temperature : PySem.W.keepIn K (.ref f_is_temperature) = true)
    (a_is_baking : PySem.W.nsIn K mainGlobals "is_baking" = some (some (.ref f_is_baking)))
    (l_is_baking : K.lookup f_is_baking = some ⟨oc_is_baking, od_is_baking, .func (PySem.W.fnOf "is_baking" "is_baking" (defArgs s_is_baking) (defBody s_is_baking) (defScope s_is_baking) .none kV_is_baking dc_is_baking pm_is_baking an_is_baking cd_is_baking ct_is_baking), sl_is_baking⟩)
    (c_is_baking : PySem.W.codeIn K cd_is_baking "is_baking" = true)
    (k_is_baking : PySem.W.keepIn K (.ref f_is_baking) = true)
    (a_Dough_init : PySem.W.findIn K (.ref a_Dough) "__init__" = some (some (.ref f_Dough_init)))
    (i_Dough_init : PySem.W.isFn K (.ref f_Dough_init) = true)
    (l_Dough_init : K.lookup f_Dough_init = some ⟨oc_Dough_init, od_Dough_init, .func (PySem.W.fnOf "__init__" "Dough.__init__" (defArgs s_Dough_init) (defBody s_Dough_init) (defScope s_Dough_init) .none kV_Dough_init dc_Dough_init pm_Dough_init an_Dough_init cd_Dough_init ct_Dough_init), sl_Dough_init⟩)
    (c_Dough_init : PySem.W.codeIn K cd_Dough_init "Dough.__init__" = true)
    (k_Dough_init : PySem.W.keepIn K (.ref f_Dough_init) = true)
    (a_copied_dough : PySem.W.nsIn K mainGlobals "copied_dough" = some (some (.ref f_copied_dough)))
    (l_copied_dough : K.lookup f_copied_dough = some ⟨oc_copied_dough, od_copied_dough, .func (PySem.W.fnOf "copied_dough" "copied_dough" (defArgs s_copied_dough) (defBody s_copied_dough) (defScope s_copied_dough) .none kV_copied_dough dc_copied_dough pm_copied_dough an_copied_dough cd_copied_dough ct_copied_dough), sl_copied_dough⟩)
    (c_copied_dough : PySem.W.codeIn K cd_copied_dough "copied_dough" = true)
    (k_copied_dough : PySem.W.keepIn K (.ref f_copied_dough) = true)
    (a_rise_in : PySem.W.nsIn K mainGlobals "rise_in" = some (some (.ref f_rise_in)))
    (l_rise_in : K.lookup f_rise_in = some ⟨oc_rise_in, od_rise_in, .func (PySem.W.fnOf "rise_in" "rise_in" (defArgs s_rise_in) (defBody s_rise_in) (defScope s_rise_in) .none kV_rise_in dc_rise_in pm_rise_in an_rise_in cd_rise_in ct_rise_in), sl_rise_in⟩)
    (c_rise_in : PySem.W.codeIn K cd_rise_in "rise_in" = true)
    (k_rise_in : PySem.W.keepIn K (.ref f_rise_in) = true)
    (a_risen_by : PySem.W.nsIn K mainGlobals "risen_by" = some (some (.ref f_risen_by)))
    (l_risen_by : K.lookup f_risen_by = some ⟨oc_risen_by, od_risen_by, .func (PySem.W.fnOf "risen_by" "risen_by" (defArgs s_risen_by) (defBody s_risen_by) (defScope s_risen_by) .none kV_risen_by dc_risen_by pm_risen_by an_risen_by cd_risen_by ct_risen_by), sl_risen_by⟩)
    (c_risen_by : PySem.W.codeIn K cd_risen_by "risen_by" = true)
    (k_risen_by : PySem.W.keepIn K (.ref f_risen_by) = true)
    (a_is_ready : PySem.W.nsIn K mainGlobals "is_ready" = some (some (.ref f_is_ready)))
    (l_is_ready : K.lookup f_is_ready = some ⟨oc_is_ready, od_is_ready, .func (PySem.W.fnOf "is_ready" "is_ready" (defArgs s_is_ready) (defBody s_is_ready) (defScope s_is_ready) .none kV_is_ready dc_is_ready pm_is_ready an_is_ready cd_is_ready ct_is_ready), sl_is_ready⟩)
    (c_is_ready : PySem.W.codeIn K cd_is_ready "is_ready" = true)
    (k_is_ready : PySem.W.keepIn K (.ref f_is_ready) = true)
    (a_window_of : PySem.W.nsIn K mainGlobals "window_of" = some (some (.ref f_window_of)))
    (l_window_of : K.lookup f_window_of = some ⟨oc_window_of, od_window_of, .func (PySem.W.fnOf "window_of" "window_of" (defArgs s_window_of) (defBody s_window_of) (defScope s_window_of) .none kV_window_of dc_window_of pm_window_of an_window_of cd_window_of ct_window_of), sl_window_of⟩)
    (c_window_of : PySem.W.codeIn K cd_window_of "window_of" = true)
    (k_window_of : PySem.W.keepIn K (.ref f_window_of) = true)
    (a_cool_hours : PySem.W.nsIn K mainGlobals "cool_hours" = some (some (.ref f_cool_hours)))
    (l_cool_hours : K.lookup f_cool_hours = some ⟨oc_cool_hours, od_cool_hours, .func (PySem.W.fnOf "cool_hours" "cool_hours" (defArgs s_cool_hours) (defBody s_cool_hours) (defScope s_cool_hours) .none kV_cool_hours dc_cool_hours pm_cool_hours an_cool_hours cd_cool_hours ct_cool_hours), sl_cool_hours⟩)
    (c_cool_hours : PySem.W.codeIn K cd_cool_hours "cool_hours" = true)
    (k_cool_hours : PySem.W.keepIn K (.ref f_cool_hours) = true)
    (a_is_cooled : PySem.W.nsIn K mainGlobals "is_cooled" = some (some (.ref f_is_cooled)))
    (l_is_cooled : K.lookup f_is_cooled = some ⟨oc_is_cooled, od_is_cooled, .func (PySem.W.fnOf "is_cooled" "is_cooled" (defArgs s_is_cooled) (defBody s_is_cooled) (defScope s_is_cooled) .none kV_is_cooled dc_is_cooled pm_is_cooled an_is_cooled cd_is_cooled ct_is_cooled), sl_is_cooled⟩)
    (c_is_cooled : PySem.W.codeIn K cd_is_cooled "is_cooled" = true)
    (k_is_cooled : PySem.W.keepIn K (.ref f_is_cooled) = true)
    (a_cooled_count : PySem.W.nsIn K mainGlobals "cooled_count" = some (some (.ref f_cooled_count)))
    (l_cooled_count : K.lookup f_cooled_count = some ⟨oc_cooled_count, od_cooled_count, .func (PySem.W.fnOf "cooled_count" "cooled_count" (defArgs s_cooled_count) (defBody s_cooled_count) (defScope s_cooled_count) .none kV_cooled_count dc_cooled_count pm_cooled_count an_cooled_count cd_cooled_count ct_cooled_count), sl_cooled_count⟩)
    (c_cooled_count : PySem.W.codeIn K cd_cooled_count "cooled_count" = true)
    (k_cooled_count : PySem.W.keepIn K (.ref f_cooled_count) = true)
    (a_House_init : PySem.W.findIn K (.ref a_House) "__init__" = some (some (.ref f_House_init)))
    (i_House_init : PySem.W.isFn K (.ref f_House_init) = true)
    (l_House_init : K.lookup f_House_init = some ⟨oc_House_init, od_House_init, .func (PySem.W.fnOf "__init__" "House.__init__" (defArgs s_House_init) (defBody s_House_init) (defScope s_House_init) .none kV_House_init dc_House_init pm_House_init an_House_init cd_House_init ct_House_init), sl_House_init⟩)
    (c_House_init : PySem.W.codeIn K cd_House_init "House.__init__" = true)
    (k_House_init : PySem.W.keepIn K (.ref f_House_init) = true)
    (a_new_house : PySem.W.nsIn K mainGlobals "new_house" = some (some (.ref f_new_house)))
    (l_new_house : K.lookup f_new_house = some ⟨oc_new_house, od_new_house, .func (PySem.W.fnOf "new_house" "new_house" (defArgs s_new_house) (defBody s_new_house) (defScope s_new_house) .none kV_new_house dc_new_house pm_new_house an_new_house cd_new_house ct_new_house), sl_new_house⟩)
    (c_new_house : PySem.W.codeIn K cd_new_house "new_house" = true)
    (k_new_house : PySem.W.keepIn K (.ref f_new_house) = true)
    (a_copied_house : PySem.W.nsIn K mainGlobals "copied_house" = some (some (.ref f_copied_house)))
    (l_copied_house : K.lookup f_copied_house = some ⟨oc_copied_house, od_copied_house, .func (PySem.W.fnOf "copied_house" "copied_house" (defArgs s_copied_house) (defBody s_copied_house) (defScope s_copied_house) .none kV_copied_house dc_copied_house pm_copied_house an_copied_house cd_copied_house ct_copied_house), sl_copied_house⟩)
    (c_copied_house : PySem.W.codeIn K cd_copied_house "copied_house" = true)
    (k_copied_house : PySem.W.keepIn K (.ref f_copied_house) = true)
    (a_hours_of : PySem.W.nsIn K mainGlobals "hours_of" = some (some (.ref f_hours_of)))
    (l_hours_of : K.lookup f_hours_of = some ⟨oc_hours_of, od_hours_of, .func (PySem.W.fnOf "hours_of" "hours_of" (defArgs s_hours_of) (defBody s_hours_of) (defScope s_hours_of) .none kV_hours_of dc_hours_of pm_hours_of an_hours_of cd_hours_of ct_hours_of), sl_hours_of⟩)
    (c_hours_of : PySem.W.codeIn K cd_hours_of "hours_of" = true)
    (k_hours_of : PySem.W.keepIn K (.ref f_hours_of) = true)
    (a_has_dough : PySem.W.nsIn K mainGlobals "has_dough" = some (some (.ref f_has_dough)))
    (l_has_dough : K.lookup f_has_dough = some ⟨oc_has_dough, od_has_dough, .func (PySem.W.fnOf "has_dough" "has_dough" (defArgs s_has_dough) (defBody s_has_dough) (defScope s_has_dough) .none kV_has_dough dc_has_dough pm_has_dough an_has_dough cd_has_dough ct_has_dough), sl_has_dough⟩)
    (c_has_dough : PySem.W.codeIn K cd_has_dough "has_dough" = true)
    (k_has_dough : PySem.W.keepIn K (.ref f_has_dough) = true)
    (a_windows_of : PySem.W.nsIn K mainGlobals "windows_of" = some (some (.ref f_windows_of)))
    (l_windows_of : K.lookup f_windows_of = some ⟨oc_windows_of, od_windows_of, .func (PySem.W.fnOf "windows_of" "windows_of" (defArgs s_windows_of) (defBody s_windows_of) (defScope s_windows_of) .none kV_windows_of dc_windows_of pm_windows_of an_windows_of cd_windows_of ct_windows_of), sl_windows_of⟩)
    (c_windows_of : PySem.W.codeIn K cd_windows_of "windows_of" = true)
    (k_windows_of : PySem.W.keepIn K (.ref f_windows_of) = true)
    (a_set_temperature : PySem.W.nsIn K mainGlobals "set_temperature" = some (some (.ref f_set_temperature)))
    (l_set_temperature : K.lookup f_set_temperature = some ⟨oc_set_temperature, od_set_temperature, .func (PySem.W.fnOf "set_temperature" "set_temperature" (defArgs s_set_temperature) (defBody s_set_temperature) (defScope s_set_temperature) .none kV_set_temperature dc_set_temperature pm_set_temperature an_set_temperature cd_set_temperature ct_set_temperature), sl_set_temperature⟩)
    (c_set_temperature : PySem.W.codeIn K cd_set_temperature "set_temperature" = true)
    (k_set_temperature : PySem.W.keepIn K (.ref f_set_temperature) = true)
    (a_set_temperatures : PySem.W.nsIn K mainGlobals "set_temperatures" = some (some (.ref f_set_temperatures)))
    (l_set_temperatures : K.lookup f_set_temperatures = some ⟨oc_set_temperatures, od_set_temperatures, .func (PySem.W.fnOf "set_temperatures" "set_temperatures" (defArgs s_set_temperatures) (defBody s_set_temperatures) (defScope s_set_temperatures) .none kV_set_temperatures dc_set_temperatures pm_set_temperatures an_set_temperatures cd_set_temperatures ct_set_temperatures), sl_set_temperatures⟩)
    (c_set_temperatures : PySem.W.codeIn K cd_set_temperatures "set_temperatures" = true)
    (k_set_temperatures : PySem.W.keepIn K (.ref f_set_temperatures) = true)
    (a_is_new_dough : PySem.W.nsIn K mainGlobals "is_new_dough" = some (some (.ref f_is_new_dough)))
    (l_is_new_dough : K.lookup f_is_new_dough = some ⟨oc_is_new_dough, od_is_new_dough, .func (PySem.W.fnOf "is_new_dough" "is_new_dough" (defArgs s_is_new_dough) (defBody s_is_new_dough) (defScope s_is_new_dough) .none kV_is_new_dough dc_is_new_dough pm_is_new_dough an_is_new_dough cd_is_new_dough ct_is_new_dough), sl_is_new_dough⟩)
    (c_is_new_dough : PySem.W.codeIn K cd_is_new_dough "is_new_dough" = true)
    (k_is_new_dough : PySem.W.keepIn K (.ref f_is_new_dough) = true)
    (a_add_dough : PySem.W.nsIn K mainGlobals "add_dough" = some (some (.ref f_add_dough)))
    (l_add_dough : K.lookup f_add_dough = some ⟨oc_add_dough, od_add_dough, .func (PySem.W.fnOf "add_dough" "add_dough" (defArgs s_add_dough) (defBody s_add_dough) (defScope s_add_dough) .none kV_add_dough dc_add_dough pm_add_dough an_add_dough cd_add_dough ct_add_dough), sl_add_dough⟩)
    (c_add_dough : PySem.W.codeIn K cd_add_dough "add_dough" = true)
    (k_add_dough : PySem.W.keepIn K (.ref f_add_dough) = true)
    (a_remove_dough : PySem.W.nsIn K mainGlobals "remove_dough" = some (some (.ref f_remove_dough)))
    (l_remove_dough : K.lookup f_remove_dough = some ⟨oc_remove_dough, od_remove_dough, .func (PySem.W.fnOf "remove_dough" "remove_dough" (defArgs s_remove_dough) (defBody s_remove_dough) (defScope s_remove_dough) .none kV_remove_dough dc_remove_dough pm_remove_dough an_remove_dough cd_remove_dough ct_remove_dough), sl_remove_dough⟩)
    (c_remove_dough : PySem.W.codeIn K cd_remove_dough "remove_dough" = true)
    (k_remove_dough : PySem.W.keepIn K (.ref f_remove_dough) = true)
    (a_cooling_refusal : PySem.W.nsIn K mainGlobals "cooling_refusal" = some (some (.ref f_cooling_refusal)))
    (l_cooling_refusal : K.lookup f_cooling_refusal = some ⟨oc_cooling_refusal, od_cooling_refusal, .func (PySem.W.fnOf "cooling_refusal" "cooling_refusal" (defArgs s_cooling_refusal) (defBody s_cooling_refusal) (defScope s_cooling_refusal) .none kV_cooling_refusal dc_cooling_refusal pm_cooling_refusal an_cooling_refusal cd_cooling_refusal ct_cooling_refusal), sl_cooling_refusal⟩)
    (c_cooling_refusal : PySem.W.codeIn K cd_cooling_refusal "cooling_refusal" = true)
    (k_cooling_refusal : PySem.W.keepIn K (.ref f_cooling_refusal) = true)
    (a_cool : PySem.W.nsIn K mainGlobals "cool" = some (some (.ref f_cool)))
    (l_cool : K.lookup f_cool = some ⟨oc_cool, od_cool, .func (PySem.W.fnOf "cool" "cool" (defArgs s_cool) (defBody s_cool) (defScope s_cool) .none kV_cool dc_cool pm_cool an_cool cd_cool ct_cool), sl_cool⟩)
    (c_cool : PySem.W.codeIn K cd_cool "cool" = true)
    (k_cool : PySem.W.keepIn K (.ref f_cool) = true)
    (a_stop_cooling : PySem.W.nsIn K mainGlobals "stop_cooling" = some (some (.ref f_stop_cooling)))
    (l_stop_cooling : K.lookup f_stop_cooling = some ⟨oc_stop_cooling, od_stop_cooling, .func (PySem.W.fnOf "stop_cooling" "stop_cooling" (defArgs s_stop_cooling) (defBody s_stop_cooling) (defScope s_stop_cooling) .none kV_stop_cooling dc_stop_cooling pm_stop_cooling an_stop_cooling cd_stop_cooling ct_stop_cooling), sl_stop_cooling⟩)
    (c_stop_cooling : PySem.W.codeIn K cd_stop_cooling "stop_cooling" = true)
    (k_stop_cooling : PySem.W.keepIn K (.ref f_stop_cooling) = true)
    (a_set_baking_time : PySem.W.nsIn K mainGlobals "set_baking_time" = some (some (.ref f_set_baking_time)))
    (l_set_baking_time : K.lookup f_set_baking_time = some ⟨oc_set_baking_time, od_set_baking_time, .func (PySem.W.fnOf "set_baking_time" "set_baking_time" (defArgs s_set_baking_time) (defBody s_set_baking_time) (defScope s_set_baking_time) .none kV_set_baking_time dc_set_baking_time pm_set_baking_time an_set_baking_time cd_set_baking_time ct_set_baking_time), sl_set_baking_time⟩)
    (c_set_baking_time : PySem.W.codeIn K cd_set_baking_time "set_baking_time" = true)
    (k_set_baking_time : PySem.W.keepIn K (.ref f_set_baking_time) = true)
    (a_next_begun : PySem.W.nsIn K mainGlobals "next_begun" = some (some (.ref f_next_begun)))
    (l_next_begun : K.lookup f_next_begun = some ⟨oc_next_begun, od_next_begun, .func (PySem.W.fnOf "next_begun" "next_begun" (defArgs s_next_begun) (defBody s_next_begun) (defScope s_next_begun) .none kV_next_begun dc_next_begun pm_next_begun an_next_begun cd_next_begun ct_next_begun), sl_next_begun⟩)
    (c_next_begun : PySem.W.codeIn K cd_next_begun "next_begun" = true)
    (k_next_begun : PySem.W.keepIn K (.ref f_next_begun) = true)
    (a_time_of_next : PySem.W.nsIn K mainGlobals "time_of_next" = some (some (.ref f_time_of_next)))
    (l_time_of_next : K.lookup f_time_of_next = some ⟨oc_time_of_next, od_time_of_next, .func (PySem.W.fnOf "time_of_next" "time_of_next" (defArgs s_time_of_next) (defBody s_time_of_next) (defScope s_time_of_next) .none kV_time_of_next dc_time_of_next pm_time_of_next an_time_of_next cd_time_of_next ct_time_of_next), sl_time_of_next⟩)
    (c_time_of_next : PySem.W.codeIn K cd_time_of_next "time_of_next" = true)
    (k_time_of_next : PySem.W.keepIn K (.ref f_time_of_next) = true)
    (a_deadline_order : PySem.W.nsIn K mainGlobals "deadline_order" = some (some (.ref f_deadline_order)))
    (l_deadline_order : K.lookup f_deadline_order = some ⟨oc_deadline_order, od_deadline_order, .func (PySem.W.fnOf "deadline_order" "deadline_order" (defArgs s_deadline_order) (defBody s_deadline_order) (defScope s_deadline_order) .none kV_deadline_order dc_deadline_order pm_deadline_order an_deadline_order cd_deadline_order ct_deadline_order), sl_deadline_order⟩)
    (c_deadline_order : PySem.W.codeIn K cd_deadline_order "deadline_order" = true)
    (k_deadline_order : PySem.W.keepIn K (.ref f_deadline_order) = true)
    (a_start_of : PySem.W.nsIn K mainGlobals "start_of" = some (some (.ref f_start_of)))
    (l_start_of : K.lookup f_start_of = some ⟨oc_start_of, od_start_of, .func (PySem.W.fnOf "start_of" "start_of" (defArgs s_start_of) (defBody s_start_of) (defScope s_start_of) .none kV_start_of dc_start_of pm_start_of an_start_of cd_start_of ct_start_of), sl_start_of⟩)
    (c_start_of : PySem.W.codeIn K cd_start_of "start_of" = true)
    (k_start_of : PySem.W.keepIn K (.ref f_start_of) = true)
    (a_starts_of : PySem.W.nsIn K mainGlobals "starts_of" = some (some (.ref f_starts_of)))
    (l_starts_of : K.lookup f_starts_of = some ⟨oc_starts_of, od_starts_of, .func (PySem.W.fnOf "starts_of" "starts_of" (defArgs s_starts_of) (defBody s_starts_of) (defScope s_starts_of) .none kV_starts_of dc_starts_of pm_starts_of an_starts_of cd_starts_of ct_starts_of), sl_starts_of⟩)
    (c_starts_of : PySem.W.codeIn K cd_starts_of "starts_of" = true)
    (k_starts_of : PySem.W.keepIn K (.ref f_starts_of) = true)
    (a_finished_at : PySem.W.nsIn K mainGlobals "finished_at" = some (some (.ref f_finished_at)))
    (l_finished_at : K.lookup f_finished_at = some ⟨oc_finished_at, od_finished_at, .func (PySem.W.fnOf "finished_at" "finished_at" (defArgs s_finished_at) (defBody s_finished_at) (defScope s_finished_at) .none kV_finished_at dc_finished_at pm_finished_at an_finished_at cd_finished_at ct_finished_at), sl_finished_at⟩)
    (c_finished_at : PySem.W.codeIn K cd_finished_at "finished_at" = true)
    (k_finished_at : PySem.W.keepIn K (.ref f_finished_at) = true)
    (a_longer_orders : PySem.W.nsIn K mainGlobals "longer_orders" = some (some (.ref f_longer_orders)))
    (l_longer_orders : K.lookup f_longer_orders = some ⟨oc_longer_orders, od_longer_orders, .func (PySem.W.fnOf "longer_orders" "longer_orders" (defArgs s_longer_orders) (defBody s_longer_orders) (defScope s_longer_orders) .none kV_longer_orders dc_longer_orders pm_longer_orders an_longer_orders cd_longer_orders ct_longer_orders), sl_longer_orders⟩)
    (c_longer_orders : PySem.W.codeIn K cd_longer_orders "longer_orders" = true)
    (k_longer_orders : PySem.W.keepIn K (.ref f_longer_orders) = true)
    (a_all_orders : PySem.W.nsIn K mainGlobals "all_orders" = some (some (.ref f_all_orders)))
    (l_all_orders : K.lookup f_all_orders = some ⟨oc_all_orders, od_all_orders, .func (PySem.W.fnOf "all_orders" "all_orders" (defArgs s_all_orders) (defBody s_all_orders) (defScope s_all_orders) .none kV_all_orders dc_all_orders pm_all_orders an_all_orders cd_all_orders ct_all_orders), sl_all_orders⟩)
    (c_all_orders : PySem.W.codeIn K cd_all_orders "all_orders" = true)
    (k_all_orders : PySem.W.keepIn K (.ref f_all_orders) = true)
    (a_plan_for : PySem.W.nsIn K mainGlobals "plan_for" = some (some (.ref f_plan_for)))
    (l_plan_for : K.lookup f_plan_for = some ⟨oc_plan_for, od_plan_for, .func (PySem.W.fnOf "plan_for" "plan_for" (defArgs s_plan_for) (defBody s_plan_for) (defScope s_plan_for) .none kV_plan_for dc_plan_for pm_plan_for an_plan_for cd_plan_for ct_plan_for), sl_plan_for⟩)
    (c_plan_for : PySem.W.codeIn K cd_plan_for "plan_for" = true)
    (k_plan_for : PySem.W.keepIn K (.ref f_plan_for) = true)
    (a_is_order : PySem.W.nsIn K mainGlobals "is_order" = some (some (.ref f_is_order)))
    (l_is_order : K.lookup f_is_order = some ⟨oc_is_order, od_is_order, .func (PySem.W.fnOf "is_order" "is_order" (defArgs s_is_order) (defBody s_is_order) (defScope s_is_order) .none kV_is_order dc_is_order pm_is_order an_is_order cd_is_order ct_is_order), sl_is_order⟩)
    (c_is_order : PySem.W.codeIn K cd_is_order "is_order" = true)
    (k_is_order : PySem.W.keepIn K (.ref f_is_order) = true)
    (a_sets_of : PySem.W.nsIn K mainGlobals "sets_of" = some (some (.ref f_sets_of)))
    (l_sets_of : K.lookup f_sets_of = some ⟨oc_sets_of, od_sets_of, .func (PySem.W.fnOf "sets_of" "sets_of" (defArgs s_sets_of) (defBody s_sets_of) (defScope s_sets_of) .none kV_sets_of dc_sets_of pm_sets_of an_sets_of cd_sets_of ct_sets_of), sl_sets_of⟩)
    (c_sets_of : PySem.W.codeIn K cd_sets_of "sets_of" = true)
    (k_sets_of : PySem.W.keepIn K (.ref f_sets_of) = true)
    (a_doughs_in : PySem.W.nsIn K mainGlobals "doughs_in" = some (some (.ref f_doughs_in)))
    (l_doughs_in : K.lookup f_doughs_in = some ⟨oc_doughs_in, od_doughs_in, .func (PySem.W.fnOf "doughs_in" "doughs_in" (defArgs s_doughs_in) (defBody s_doughs_in) (defScope s_doughs_in) .none kV_doughs_in dc_doughs_in pm_doughs_in an_doughs_in cd_doughs_in ct_doughs_in), sl_doughs_in⟩)
    (c_doughs_in : PySem.W.codeIn K cd_doughs_in "doughs_in" = true)
    (k_doughs_in : PySem.W.keepIn K (.ref f_doughs_in) = true)
    (a_most_doughs_of : PySem.W.nsIn K mainGlobals "most_doughs_of" = some (some (.ref f_most_doughs_of)))
    (l_most_doughs_of : K.lookup f_most_doughs_of = some ⟨oc_most_doughs_of, od_most_doughs_of, .func (PySem.W.fnOf "most_doughs_of" "most_doughs_of" (defArgs s_most_doughs_of) (defBody s_most_doughs_of) (defScope s_most_doughs_of) .none kV_most_doughs_of dc_most_doughs_of pm_most_doughs_of an_most_doughs_of cd_most_doughs_of ct_most_doughs_of), sl_most_doughs_of⟩)
    (c_most_doughs_of : PySem.W.codeIn K cd_most_doughs_of "most_doughs_of" = true)
    (k_most_doughs_of : PySem.W.keepIn K (.ref f_most_doughs_of) = true)
    (a_window : PySem.W.nsIn K mainGlobals "window" = some (some (.ref f_window)))
    (l_window : K.lookup f_window = some ⟨oc_window, od_window, .func (PySem.W.fnOf "window" "window" (defArgs s_window) (defBody s_window) (defScope s_window) .none kV_window dc_window pm_window an_window cd_window ct_window), sl_window⟩)
    (c_window : PySem.W.codeIn K cd_window "window" = true)
    (k_window : PySem.W.keepIn K (.ref f_window) = true)
    (a_risen : PySem.W.nsIn K mainGlobals "risen" = some (some (.ref f_risen)))
    (l_risen : K.lookup f_risen = some ⟨oc_risen, od_risen, .func (PySem.W.fnOf "risen" "risen" (defArgs s_risen) (defBody s_risen) (defScope s_risen) .none kV_risen dc_risen pm_risen an_risen cd_risen ct_risen), sl_risen⟩)
    (c_risen : PySem.W.codeIn K cd_risen "risen" = true)
    (k_risen : PySem.W.keepIn K (.ref f_risen) = true)
    (a_start_times : PySem.W.nsIn K mainGlobals "start_times" = some (some (.ref f_start_times)))
    (l_start_times : K.lookup f_start_times = some ⟨oc_start_times, od_start_times, .func (PySem.W.fnOf "start_times" "start_times" (defArgs s_start_times) (defBody s_start_times) (defScope s_start_times) .none kV_start_times dc_start_times pm_start_times an_start_times cd_start_times ct_start_times), sl_start_times⟩)
    (c_start_times : PySem.W.codeIn K cd_start_times "start_times" = true)
    (k_start_times : PySem.W.keepIn K (.ref f_start_times) = true)
    (a_plan : PySem.W.nsIn K mainGlobals "plan" = some (some (.ref f_plan)))
    (l_plan : K.lookup f_plan = some ⟨oc_plan, od_plan, .func (PySem.W.fnOf "plan" "plan" (defArgs s_plan) (defBody s_plan) (defScope s_plan) .none kV_plan dc_plan pm_plan an_plan cd_plan ct_plan), sl_plan⟩)
    (c_plan : PySem.W.codeIn K cd_plan "plan" = true)
    (k_plan : PySem.W.keepIn K (.ref f_plan) = true)
    (a_most_doughs : PySem.W.nsIn K mainGlobals "most_doughs" = some (some (.ref f_most_doughs)))
    (l_most_doughs : K.lookup f_most_doughs = some ⟨oc_most_doughs, od_most_doughs, .func (PySem.W.fnOf "most_doughs" "most_doughs" (defArgs s_most_doughs) (defBody s_most_doughs) (defScope s_most_doughs) .none kV_most_doughs dc_most_doughs pm_most_doughs an_most_doughs cd_most_doughs ct_most_doughs), sl_most_doughs⟩)
    (c_most_doughs : PySem.W.codeIn K cd_most_doughs "most_doughs" = true)
    (k_most_doughs : PySem.W.keepIn K (.ref f_most_doughs) = true)
    (a_earliest_deadline : PySem.W.nsIn K mainGlobals "earliest_deadline" = some (some (.ref f_earliest_deadline)))
    (l_earliest_deadline : K.lookup f_earliest_deadline = some ⟨oc_earliest_deadline, od_earliest_deadline, .func (PySem.W.fnOf "earliest_deadline" "earliest_deadline" (defArgs s_earliest_deadline) (defBody s_earliest_deadline) (defScope s_earliest_deadline) .none kV_earliest_deadline dc_earliest_deadline pm_earliest_deadline an_earliest_deadline cd_earliest_deadline ct_earliest_deadline), sl_earliest_deadline⟩)
    (c_earliest_deadline : PySem.W.codeIn K cd_earliest_deadline "earliest_deadline" = true)
    (k_earliest_deadline : PySem.W.keepIn K (.ref f_earliest_deadline) = true)
    (a_can_bake : PySem.W.nsIn K mainGlobals "can_bake" = some (some (.ref f_can_bake)))
    (l_can_bake : K.lookup f_can_bake = some ⟨oc_can_bake, od_can_bake, .func (PySem.W.fnOf "can_bake" "can_bake" (defArgs s_can_bake) (defBody s_can_bake) (defScope s_can_bake) .none kV_can_bake dc_can_bake pm_can_bake an_can_bake cd_can_bake ct_can_bake), sl_can_bake⟩)
    (c_can_bake : PySem.W.codeIn K cd_can_bake "can_bake" = true)
    (k_can_bake : PySem.W.keepIn K (.ref f_can_bake) = true)
    (a_plan_if_cooled : PySem.W.nsIn K mainGlobals "plan_if_cooled" = some (some (.ref f_plan_if_cooled)))
    (l_plan_if_cooled : K.lookup f_plan_if_cooled = some ⟨oc_plan_if_cooled, od_plan_if_cooled, .func (PySem.W.fnOf "plan_if_cooled" "plan_if_cooled" (defArgs s_plan_if_cooled) (defBody s_plan_if_cooled) (defScope s_plan_if_cooled) .none kV_plan_if_cooled dc_plan_if_cooled pm_plan_if_cooled an_plan_if_cooled cd_plan_if_cooled ct_plan_if_cooled), sl_plan_if_cooled⟩)
    (c_plan_if_cooled : PySem.W.codeIn K cd_plan_if_cooled "plan_if_cooled" = true)
    (k_plan_if_cooled : PySem.W.keepIn K (.ref f_plan_if_cooled) = true)
    (a_describe : PySem.W.nsIn K mainGlobals "describe" = some (some (.ref f_describe)))
    (l_describe : K.lookup f_describe = some ⟨oc_describe, od_describe, .func (PySem.W.fnOf "describe" "describe" (defArgs s_describe) (defBody s_describe) (defScope s_describe) .none kV_describe dc_describe pm_describe an_describe cd_describe ct_describe), sl_describe⟩)
    (c_describe : PySem.W.codeIn K cd_describe "describe" = true)
    (k_describe : PySem.W.keepIn K (.ref f_describe) = true)
    (a_Desk_init : PySem.W.findIn K (.ref a_Desk) "__init__" = some (some (.ref f_Desk_init)))
    (i_Desk_init : PySem.W.isFn K (.ref f_Desk_init) = true)
    (l_Desk_init : K.lookup f_Desk_init = some ⟨oc_Desk_init, od_Desk_init, .func (PySem.W.fnOf "__init__" "Desk.__init__" (defArgs s_Desk_init) (defBody s_Desk_init) (defScope s_Desk_init) .none kV_Desk_init dc_Desk_init pm_Desk_init an_Desk_init cd_Desk_init ct_Desk_init), sl_Desk_init⟩)
    (c_Desk_init : PySem.W.codeIn K cd_Desk_init "Desk.__init__" = true)
    (k_Desk_init : PySem.W.keepIn K (.ref f_Desk_init) = true)
    (a_create : PySem.W.nsIn K mainGlobals "create" = some (some (.ref f_create)))
    (l_create : K.lookup f_create = some ⟨oc_create, od_create, .func (PySem.W.fnOf "create" "create" (defArgs s_create) (defBody s_create) (defScope s_create) .none kV_create dc_create pm_create an_create cd_create ct_create), sl_create⟩)
    (c_create : PySem.W.codeIn K cd_create "create" = true)
    (k_create : PySem.W.keepIn K (.ref f_create) = true)
    (a_changed : PySem.W.nsIn K mainGlobals "changed" = some (some (.ref f_changed)))
    (l_changed : K.lookup f_changed = some ⟨oc_changed, od_changed, .func (PySem.W.fnOf "changed" "changed" (defArgs s_changed) (defBody s_changed) (defScope s_changed) .none kV_changed dc_changed pm_changed an_changed cd_changed ct_changed), sl_changed⟩)
    (c_changed : PySem.W.codeIn K cd_changed "changed" = true)
    (k_changed : PySem.W.keepIn K (.ref f_changed) = true)
    (a_asked : PySem.W.nsIn K mainGlobals "asked" = some (some (.ref f_asked)))
    (l_asked : K.lookup f_asked = some ⟨oc_asked, od_asked, .func (PySem.W.fnOf "asked" "asked" (defArgs s_asked) (defBody s_asked) (defScope s_asked) .none kV_asked dc_asked pm_asked an_asked cd_asked ct_asked), sl_asked⟩)
    (c_asked : PySem.W.codeIn K cd_asked "asked" = true)
    (k_asked : PySem.W.keepIn K (.ref f_asked) = true)
    (a_answered : PySem.W.nsIn K mainGlobals "answered" = some (some (.ref f_answered)))
    (l_answered : K.lookup f_answered = some ⟨oc_answered, od_answered, .func (PySem.W.fnOf "answered" "answered" (defArgs s_answered) (defBody s_answered) (defScope s_answered) .none kV_answered dc_answered pm_answered an_answered cd_answered ct_answered), sl_answered⟩)
    (c_answered : PySem.W.codeIn K cd_answered "answered" = true)
    (k_answered : PySem.W.keepIn K (.ref f_answered) = true)
    (a_order_at : PySem.W.nsIn K mainGlobals "order_at" = some (some (.ref f_order_at)))
    (l_order_at : K.lookup f_order_at = some ⟨oc_order_at, od_order_at, .func (PySem.W.fnOf "order_at" "order_at" (defArgs s_order_at) (defBody s_order_at) (defScope s_order_at) .none kV_order_at dc_order_at pm_order_at an_order_at cd_order_at ct_order_at), sl_order_at⟩)
    (c_order_at : PySem.W.codeIn K cd_order_at "order_at" = true)
    (k_order_at : PySem.W.keepIn K (.ref f_order_at) = true)
    (a_behind : PySem.W.nsIn K mainGlobals "behind" = some (some (.ref f_behind)))
    (l_behind : K.lookup f_behind = some ⟨oc_behind, od_behind, .func (PySem.W.fnOf "behind" "behind" (defArgs s_behind) (defBody s_behind) (defScope s_behind) .none kV_behind dc_behind pm_behind an_behind cd_behind ct_behind), sl_behind⟩)
    (c_behind : PySem.W.codeIn K cd_behind "behind" = true)
    (k_behind : PySem.W.keepIn K (.ref f_behind) = true)
    (a_answers : PySem.W.nsIn K mainGlobals "answers" = some (some (.ref f_answers)))
    (l_answers : K.lookup f_answers = some ⟨oc_answers, od_answers, .func (PySem.W.fnOf "answers" "answers" (defArgs s_answers) (defBody s_answers) (defScope s_answers) .none kV_answers dc_answers pm_answers an_answers cd_answers ct_answers), sl_answers⟩)
    (c_answers : PySem.W.codeIn K cd_answers "answers" = true)
    (k_answers : PySem.W.keepIn K (.ref f_answers) = true)
    (pg_Dough : PySem.W.plainGet K a_Dough Str.empty = true)
    (hd_Dough : PySem.W.hasDictIn K a_Dough = true)
    (po_Dough : PySem.W.plainOver K a_Dough = true)
    (sa_Dough : PySem.W.findIn K (.ref a_Dough) "__setattr__" = some (some (.builtin "object.__setattr__")))
    (mk_Dough : PySem.W.makesIn K a_Dough = true)
    (kc_Dough : PySem.W.keepIn K (.ref a_Dough) = true)
    (n_Dough_mixed_at : PySem.W.findIn K (.ref a_Dough) "mixed_at" = some none)
    (n_Dough_minimum : PySem.W.findIn K (.ref a_Dough) "minimum" = some none)
    (n_Dough_maximum : PySem.W.findIn K (.ref a_Dough) "maximum" = some none)
    (n_Dough_cooled : PySem.W.findIn K (.ref a_Dough) "cooled" = some none)
    (pg_House : PySem.W.plainGet K a_House Str.empty = true)
    (hd_House : PySem.W.hasDictIn K a_House = true)
    (po_House : PySem.W.plainOver K a_House = true)
    (sa_House : PySem.W.findIn K (.ref a_House) "__setattr__" = some (some (.builtin "object.__setattr__")))
    (mk_House : PySem.W.makesIn K a_House = true)
    (kc_House : PySem.W.keepIn K (.ref a_House) = true)
    (n_House_temperatures : PySem.W.findIn K (.ref a_House) "temperatures" = some none)
    (n_House_baking : PySem.W.findIn K (.ref a_House) "baking" = some none)
    (n_House_doughs : PySem.W.findIn K (.ref a_House) "doughs" = some none)
    (pg_Desk : PySem.W.plainGet K a_Desk Str.empty = true)
    (hd_Desk : PySem.W.hasDictIn K a_Desk = true)
    (po_Desk : PySem.W.plainOver K a_Desk = true)
    (sa_Desk : PySem.W.findIn K (.ref a_Desk) "__setattr__" = some (some (.builtin "object.__setattr__")))
    (mk_Desk : PySem.W.makesIn K a_Desk = true)
    (kc_Desk : PySem.W.keepIn K (.ref a_Desk) = true)
    (n_Desk_house : PySem.W.findIn K (.ref a_Desk) "house" = some none)
    (z_NO_INSTANCE : PySem.W.nsIn K mainGlobals "NO_INSTANCE" = some (some (.int (-11) k_NO_INSTANCE)))
    (z_MISSING : PySem.W.nsIn K mainGlobals "MISSING" = some (some (.int (-2) k_MISSING)))
    (z_OUT_OF_RANGE : PySem.W.nsIn K mainGlobals "OUT_OF_RANGE" = some (some (.int (-22) k_OUT_OF_RANGE)))
    (z_FULL : PySem.W.nsIn K mainGlobals "FULL" = some (some (.int (-28) k_FULL)))
    (z_NOT_COOLED : PySem.W.nsIn K mainGlobals "NOT_COOLED" = some (some (.int (-6) k_NOT_COOLED)))
    (z_NOT_POSSIBLE : PySem.W.nsIn K mainGlobals "NOT_POSSIBLE" = some (some (.int (-33) k_NOT_POSSIBLE)))
    (z_MOST_HOURS : PySem.W.nsIn K mainGlobals "MOST_HOURS" = some (some (.int (36) k_MOST_HOURS)))
    (z_MOST_BAKING : PySem.W.nsIn K mainGlobals "MOST_BAKING" = some (some (.int (9) k_MOST_BAKING)))
    (z_MOST_TEMPERATURE : PySem.W.nsIn K mainGlobals "MOST_TEMPERATURE" = some (some (.int (40) k_MOST_TEMPERATURE)))
    (z_MOST_RISEN : PySem.W.nsIn K mainGlobals "MOST_RISEN" = some (some (.int (999) k_MOST_RISEN)))
    (z_MOST_DOUGHS : PySem.W.nsIn K mainGlobals "MOST_DOUGHS" = some (some (.int (6) k_MOST_DOUGHS)))
    (z_FIRST_TEMPERATURE : PySem.W.nsIn K mainGlobals "FIRST_TEMPERATURE" = some (some (.int (24) k_FIRST_TEMPERATURE)))
    (z_RESTING : PySem.W.nsIn K mainGlobals "RESTING" = some (some (.int (4) k_RESTING)))
    (z_NUMBERS : PySem.W.nsIn K mainGlobals "NUMBERS" = some (some (.ref a_NUMBERS)))
    (y_NUMBERS : K.lookup a_NUMBERS = some ⟨.type "tuple", od_NUMBERS, .seq its_NUMBERS.toArray nn_NUMBERS, sl_NUMBERS⟩)
    (z_CREATE : PySem.W.nsIn K mainGlobals "CREATE" = some (some (.int (0) k_CREATE)))
    (z_START_TIMES : PySem.W.nsIn K mainGlobals "START_TIMES" = some (some (.int (10) k_START_TIMES)))
    (z_enumerate : PySem.W.nsIn K mainGlobals "enumerate" = some none)
    (z_len : PySem.W.nsIn K mainGlobals "len" = some none)
    (z_list : PySem.W.nsIn K mainGlobals "list" = some none)
    (z_max : PySem.W.nsIn K mainGlobals "max" = some none)
    (z_min : PySem.W.nsIn K mainGlobals "min" = some none)
    (z_range : PySem.W.nsIn K mainGlobals "range" = some none)
    (v_NUMBERS : Vals [.int 2, .int 2, .int 3, .int 3, .int 1, .int 3, .int 1, .int 1, .int 1, .int 2, .int 0, .int 0, .int 0, .int 0, .int 1, .int 3, .int 0] its_NUMBERS) (w_NUMBERS : its_NUMBERS.length ≤ sizeLine)
    : ∃ g : G, Txt K mg g ∧ g.f 56 = f_answers ∧ ∃ kV dc pm an cd ct, g.d 56 = PySem.W.fnOf "answers" "answers" (defArgs s_answers) (defBody s_answers) (defScope s_answers) .none kV dc pm an cd ct := by
  have F_is_between := fun_mk (st := s_is_between) l_is_between c_is_between k_is_between
  have B_is_between := F_is_between.binds (ps := ["value", "least", "most"]) fun _ _ _ _ _ _ us hl => match us, hl with | [_, _, _], _ => rfl
  have F_is_temperature := fun_mk (st := s_is_temperature) l_is_temperature c_is_temperature k_is_temperature
  have B_is_temperature := F_is_temperature.binds (ps := ["value"]) fun _ _ _ _ _ _ us hl => match us, hl with | [_], _ => rfl
  have F_is_baking := fun_mk (st := s_is_baking) l_is_baking c_is_baking k_is_baking
  have B_is_baking := F_is_baking.binds (ps := ["value"]) fun _ _ _ _ _ _ us hl => match us, hl with | [_], _ => rfl
  have F_Dough_init := fun_mk (st := s_Dough_init) l_Dough_init c_Dough_init k_Dough_init
  have B_Dough_init := F_Dough_init.binds (ps := ["self", "mixed_at", "minimum", "maximum", "cooled"]) fun _ _ _ _ _ _ us hl => match us, hl with | [_, _, _, _, _], _ => rfl
  have F_copied_dough := fun_mk (st := s_copied_dough) l_copied_dough c_copied_dough k_copied_dough
  have B_copied_dough := F_copied_dough.binds (ps := ["dough"]) fun _ _ _ _ _ _ us hl => match us, hl with | [_], _ => rfl
  have F_rise_in := fun_mk (st := s_rise_in) l_rise_in c_rise_in k_rise_in
  have B_rise_in := F_rise_in.binds (ps := ["temperature"]) fun _ _ _ _ _ _ us hl => match us, hl with | [_], _ => rfl
  have F_risen_by := fun_mk (st := s_risen_by) l_risen_by c_risen_by k_risen_by
  have B_risen_by := F_risen_by.binds (ps := ["dough", "temperatures", "time"]) fun _ _ _ _ _ _ us hl => match us, hl with | [_, _, _], _ => rfl
  have F_is_ready := fun_mk (st := s_is_ready) l_is_ready c_is_ready k_is_ready
  have B_is_ready := F_is_ready.binds (ps := ["dough", "temperatures", "time"]) fun _ _ _ _ _ _ us hl => match us, hl with | [_, _, _], _ => rfl
  have F_window_of := fun_mk (st := s_window_of) l_window_of c_window_of k_window_of
  have B_window_of := F_window_of.binds (ps := ["dough", "temperatures"]) fun _ _ _ _ _ _ us hl => match us, hl with | [_, _], _ => rfl
  have F_cool_hours := fun_mk (st := s_cool_hours) l_cool_hours c_cool_hours k_cool_hours
  have B_cool_hours := F_cool_hours.binds (ps := ["dough", "start", "to"]) fun _ _ _ _ _ _ us hl => match us, hl with | [_, _, _], _ => rfl
  have F_is_cooled := fun_mk (st := s_is_cooled) l_is_cooled c_is_cooled k_is_cooled
  have B_is_cooled := F_is_cooled.binds (ps := ["dough"]) fun _ _ _ _ _ _ us hl => match us, hl with | [_], _ => rfl
  have F_cooled_count := fun_mk (st := s_cooled_count) l_cooled_count c_cooled_count k_cooled_count
  have B_cooled_count := F_cooled_count.binds (ps := ["dough"]) fun _ _ _ _ _ _ us hl => match us, hl with | [_], _ => rfl
  have F_House_init := fun_mk (st := s_House_init) l_House_init c_House_init k_House_init
  have B_House_init := F_House_init.binds (ps := ["self", "temperatures", "baking", "doughs"]) fun _ _ _ _ _ _ us hl => match us, hl with | [_, _, _, _], _ => rfl
  have F_new_house := fun_mk (st := s_new_house) l_new_house c_new_house k_new_house
  have B_new_house := F_new_house.binds (ps := ["hours", "baking"]) fun _ _ _ _ _ _ us hl => match us, hl with | [_, _], _ => rfl
  have F_copied_house := fun_mk (st := s_copied_house) l_copied_house c_copied_house k_copied_house
  have B_copied_house := F_copied_house.binds (ps := ["house"]) fun _ _ _ _ _ _ us hl => match us, hl with | [_], _ => rfl
  have F_hours_of := fun_mk (st := s_hours_of) l_hours_of c_hours_of k_hours_of
  have B_hours_of := F_hours_of.binds (ps := ["house"]) fun _ _ _ _ _ _ us hl => match us, hl with | [_], _ => rfl
  have F_has_dough := fun_mk (st := s_has_dough) l_has_dough c_has_dough k_has_dough
  have B_has_dough := F_has_dough.binds (ps := ["house", "number"]) fun _ _ _ _ _ _ us hl => match us, hl with | [_, _], _ => rfl
  have F_windows_of := fun_mk (st := s_windows_of) l_windows_of c_windows_of k_windows_of
  have B_windows_of := F_windows_of.binds (ps := ["house"]) fun _ _ _ _ _ _ us hl => match us, hl with | [_], _ => rfl
  have F_set_temperature := fun_mk (st := s_set_temperature) l_set_temperature c_set_temperature k_set_temperature
  have B_set_temperature := F_set_temperature.binds (ps := ["house", "hour", "temperature"]) fun _ _ _ _ _ _ us hl => match us, hl with | [_, _, _], _ => rfl
  have F_set_temperatures := fun_mk (st := s_set_temperatures) l_set_temperatures c_set_temperatures k_set_temperatures
  have B_set_temperatures := F_set_temperatures.binds (ps := ["house", "start", "to", "temperature"]) fun _ _ _ _ _ _ us hl => match us, hl with | [_, _, _, _], _ => rfl
  have F_is_new_dough := fun_mk (st := s_is_new_dough) l_is_new_dough c_is_new_dough k_is_new_dough
  have B_is_new_dough := F_is_new_dough.binds (ps := ["house", "mixed_at", "minimum", "maximum"]) fun _ _ _ _ _ _ us hl => match us, hl with | [_, _, _, _], _ => rfl
  have F_add_dough := fun_mk (st := s_add_dough) l_add_dough c_add_dough k_add_dough
  have B_add_dough := F_add_dough.binds (ps := ["house", "mixed_at", "minimum", "maximum"]) fun _ _ _ _ _ _ us hl => match us, hl with | [_, _, _, _], _ => rfl
  have F_remove_dough := fun_mk (st := s_remove_dough) l_remove_dough c_remove_dough k_remove_dough
  have B_remove_dough := F_remove_dough.binds (ps := ["house", "number"]) fun _ _ _ _ _ _ us hl => match us, hl with | [_, _], _ => rfl
  have F_cooling_refusal := fun_mk (st := s_cooling_refusal) l_cooling_refusal c_cooling_refusal k_cooling_refusal
  have B_cooling_refusal := F_cooling_refusal.binds (ps := ["house", "number", "start", "to"]) fun _ _ _ _ _ _ us hl => match us, hl with | [_, _, _, _], _ => rfl
  have F_cool := fun_mk (st := s_cool) l_cool c_cool k_cool
  have B_cool := F_cool.binds (ps := ["house", "number", "start", "to"]) fun _ _ _ _ _ _ us hl => match us, hl with | [_, _, _, _], _ => rfl
  have F_stop_cooling := fun_mk (st := s_stop_cooling) l_stop_cooling c_stop_cooling k_stop_cooling
  have B_stop_cooling := F_stop_cooling.binds (ps := ["house", "number"]) fun _ _ _ _ _ _ us hl => match us, hl with | [_, _], _ => rfl
  have F_set_baking_time := fun_mk (st := s_set_baking_time) l_set_baking_time c_set_baking_time k_set_baking_time
  have B_set_baking_time := F_set_baking_time.binds (ps := ["house", "baking"]) fun _ _ _ _ _ _ us hl => match us, hl with | [_, _], _ => rfl
  have F_next_begun := fun_mk (st := s_next_begun) l_next_begun c_next_begun k_next_begun
  have B_next_begun := F_next_begun.binds (ps := ["left", "windows", "time"]) fun _ _ _ _ _ _ us hl => match us, hl with | [_, _, _], _ => rfl
  have F_time_of_next := fun_mk (st := s_time_of_next) l_time_of_next c_time_of_next k_time_of_next
  have B_time_of_next := F_time_of_next.binds (ps := ["left", "windows", "time"]) fun _ _ _ _ _ _ us hl => match us, hl with | [_, _, _], _ => rfl
  have F_deadline_order := fun_mk (st := s_deadline_order) l_deadline_order c_deadline_order k_deadline_order
  have B_deadline_order := F_deadline_order.binds (ps := ["windows", "baking"]) fun _ _ _ _ _ _ us hl => match us, hl with | [_, _], _ => rfl
  have F_start_of := fun_mk (st := s_start_of) l_start_of c_start_of k_start_of
  have B_start_of := F_start_of.binds (ps := ["window", "free", "baking", "hours"]) fun _ _ _ _ _ _ us hl => match us, hl with | [_, _, _, _], _ => rfl
  have F_starts_of := fun_mk (st := s_starts_of) l_starts_of c_starts_of k_starts_of
  have B_starts_of := F_starts_of.binds (ps := ["order", "windows", "baking", "hours"]) fun _ _ _ _ _ _ us hl => match us, hl with | [_, _, _, _], _ => rfl
  have F_finished_at := fun_mk (st := s_finished_at) l_finished_at c_finished_at k_finished_at
  have B_finished_at := F_finished_at.binds (ps := ["starts", "baking"]) fun _ _ _ _ _ _ us hl => match us, hl with | [_, _], _ => rfl
  have F_longer_orders := fun_mk (st := s_longer_orders) l_longer_orders c_longer_orders k_longer_orders
  have B_longer_orders := F_longer_orders.binds (ps := ["order", "numbers"]) fun _ _ _ _ _ _ us hl => match us, hl with | [_, _], _ => rfl
  have F_all_orders := fun_mk (st := s_all_orders) l_all_orders c_all_orders k_all_orders
  have B_all_orders := F_all_orders.binds (ps := ["numbers"]) fun _ _ _ _ _ _ us hl => match us, hl with | [_], _ => rfl
  have F_plan_for := fun_mk (st := s_plan_for) l_plan_for c_plan_for k_plan_for
  have B_plan_for := F_plan_for.binds (ps := ["numbers", "windows", "baking", "hours"]) fun _ _ _ _ _ _ us hl => match us, hl with | [_, _, _, _], _ => rfl
  have F_is_order := fun_mk (st := s_is_order) l_is_order c_is_order k_is_order
  have B_is_order := F_is_order.binds (ps := ["order", "count"]) fun _ _ _ _ _ _ us hl => match us, hl with | [_, _], _ => rfl
  have F_sets_of := fun_mk (st := s_sets_of) l_sets_of c_sets_of k_sets_of
  have B_sets_of := F_sets_of.binds (ps := ["count"]) fun _ _ _ _ _ _ us hl => match us, hl with | [_], _ => rfl
  have F_doughs_in := fun_mk (st := s_doughs_in) l_doughs_in c_doughs_in k_doughs_in
  have B_doughs_in := F_doughs_in.binds (ps := ["set_number", "count"]) fun _ _ _ _ _ _ us hl => match us, hl with | [_, _], _ => rfl
  have F_most_doughs_of := fun_mk (st := s_most_doughs_of) l_most_doughs_of c_most_doughs_of k_most_doughs_of
  have B_most_doughs_of := F_most_doughs_of.binds (ps := ["windows", "baking", "hours"]) fun _ _ _ _ _ _ us hl => match us, hl with | [_, _, _], _ => rfl
  have F_window := fun_mk (st := s_window) l_window c_window k_window
  have B_window := F_window.binds (ps := ["house", "number"]) fun _ _ _ _ _ _ us hl => match us, hl with | [_, _], _ => rfl
  have F_risen := fun_mk (st := s_risen) l_risen c_risen k_risen
  have B_risen := F_risen.binds (ps := ["house", "number", "time"]) fun _ _ _ _ _ _ us hl => match us, hl with | [_, _, _], _ => rfl
  have F_start_times := fun_mk (st := s_start_times) l_start_times c_start_times k_start_times
  have B_start_times := F_start_times.binds (ps := ["house", "order"]) fun _ _ _ _ _ _ us hl => match us, hl with | [_, _], _ => rfl
  have F_plan := fun_mk (st := s_plan) l_plan c_plan k_plan
  have B_plan := F_plan.binds (ps := ["house"]) fun _ _ _ _ _ _ us hl => match us, hl with | [_], _ => rfl
  have F_most_doughs := fun_mk (st := s_most_doughs) l_most_doughs c_most_doughs k_most_doughs
  have B_most_doughs := F_most_doughs.binds (ps := ["house"]) fun _ _ _ _ _ _ us hl => match us, hl with | [_], _ => rfl
  have F_earliest_deadline := fun_mk (st := s_earliest_deadline) l_earliest_deadline c_earliest_deadline k_earliest_deadline
  have B_earliest_deadline := F_earliest_deadline.binds (ps := ["house"]) fun _ _ _ _ _ _ us hl => match us, hl with | [_], _ => rfl
  have F_can_bake := fun_mk (st := s_can_bake) l_can_bake c_can_bake k_can_bake
  have B_can_bake := F_can_bake.binds (ps := ["house", "set_number"]) fun _ _ _ _ _ _ us hl => match us, hl with | [_, _], _ => rfl
  have F_plan_if_cooled := fun_mk (st := s_plan_if_cooled) l_plan_if_cooled c_plan_if_cooled k_plan_if_cooled
  have B_plan_if_cooled := F_plan_if_cooled.binds (ps := ["house", "number", "start", "to"]) fun _ _ _ _ _ _ us hl => match us, hl with | [_, _, _, _], _ => rfl
  have F_describe := fun_mk (st := s_describe) l_describe c_describe k_describe
  have B_describe := F_describe.binds (ps := ["house"]) fun _ _ _ _ _ _ us hl => match us, hl with | [_], _ => rfl
  have F_Desk_init := fun_mk (st := s_Desk_init) l_Desk_init c_Desk_init k_Desk_init
  have B_Desk_init := F_Desk_init.binds (ps := ["self"]) fun _ _ _ _ _ _ us hl => match us, hl with | [_], _ => rfl
  have F_create := fun_mk (st := s_create) l_create c_create k_create
  have B_create := F_create.binds (ps := ["desk", "hours", "baking"]) fun _ _ _ _ _ _ us hl => match us, hl with | [_, _, _], _ => rfl
  have F_changed := fun_mk (st := s_changed) l_changed c_changed k_changed
  have B_changed := F_changed.binds (ps := ["house", "place", "numbers"]) fun _ _ _ _ _ _ us hl => match us, hl with | [_, _, _], _ => rfl
  have F_asked := fun_mk (st := s_asked) l_asked c_asked k_asked
  have B_asked := F_asked.binds (ps := ["house", "place", "numbers", "order"]) fun _ _ _ _ _ _ us hl => match us, hl with | [_, _, _, _], _ => rfl
  have F_answered := fun_mk (st := s_answered) l_answered c_answered k_answered
  have B_answered := F_answered.binds (ps := ["desk", "place", "numbers", "order"]) fun _ _ _ _ _ _ us hl => match us, hl with | [_, _, _, _], _ => rfl
  have F_order_at := fun_mk (st := s_order_at) l_order_at c_order_at k_order_at
  have B_order_at := F_order_at.binds (ps := ["calls", "at", "place"]) fun _ _ _ _ _ _ us hl => match us, hl with | [_, _, _], _ => rfl
  have F_behind := fun_mk (st := s_behind) l_behind c_behind k_behind
  have B_behind := F_behind.binds (ps := ["at", "place", "order"]) fun _ _ _ _ _ _ us hl => match us, hl with | [_, _, _], _ => rfl
  have F_answers := fun_mk (st := s_answers) l_answers c_answers k_answers
  have B_answers := F_answers.binds (ps := ["calls"]) fun _ _ _ _ _ _ us hl => match us, hl with | [_], _ => rfl
  refine ⟨⟨fun i => [f_is_between, f_is_temperature, f_is_baking, f_Dough_init, f_copied_dough, f_rise_in, f_risen_by, f_is_ready, f_window_of, f_cool_hours, f_is_cooled, f_cooled_count, f_House_init, f_new_house, f_copied_house, f_hours_of, f_has_dough, f_windows_of, f_set_temperature, f_set_temperatures, f_is_new_dough, f_add_dough, f_remove_dough, f_cooling_refusal, f_cool, f_stop_cooling, f_set_baking_time, f_next_begun, f_time_of_next, f_deadline_order, f_start_of, f_starts_of, f_finished_at, f_longer_orders, f_all_orders, f_plan_for, f_is_order, f_sets_of, f_doughs_in, f_most_doughs_of, f_window, f_risen, f_start_times, f_plan, f_most_doughs, f_earliest_deadline, f_can_bake, f_plan_if_cooled, f_describe, f_Desk_init, f_create, f_changed, f_asked, f_answered, f_order_at, f_behind, f_answers].getD i 0, fun i => [PySem.W.fnOf "is_between" "is_between" (defArgs s_is_between) (defBody s_is_between) (defScope s_is_between) .none kV_is_between dc_is_between pm_is_between an_is_between cd_is_between ct_is_between, PySem.W.fnOf "is_temperature" "is_temperature" (defArgs s_is_temperature) (defBody s_is_temperature) (defScope s_is_temperature) .none kV_is_temperature dc_is_temperature pm_is_temperature an_is_temperature cd_is_temperature ct_is_temperature, PySem.W.fnOf "is_baking" "is_baking" (defArgs s_is_baking) (defBody s_is_baking) (defScope s_is_baking) .none kV_is_baking dc_is_baking pm_is_baking an_is_baking cd_is_baking ct_is_baking, PySem.W.fnOf "__init__" "Dough.__init__" (defArgs s_Dough_init) (defBody s_Dough_init) (defScope s_Dough_init) .none kV_Dough_init dc_Dough_init pm_Dough_init an_Dough_init cd_Dough_init ct_Dough_init, PySem.W.fnOf "copied_dough" "copied_dough" (defArgs s_copied_dough) (defBody s_copied_dough) (defScope s_copied_dough) .none kV_copied_dough dc_copied_dough pm_copied_dough an_copied_dough cd_copied_dough ct_copied_dough, PySem.W.fnOf "rise_in" "rise_in" (defArgs s_rise_in) (defBody s_rise_in) (defScope s_rise_in) .none kV_rise_in dc_rise_in pm_rise_in an_rise_in cd_rise_in ct_rise_in, PySem.W.fnOf "risen_by" "risen_by" (defArgs s_risen_by) (defBody s_risen_by) (defScope s_risen_by) .none kV_risen_by dc_risen_by pm_risen_by an_risen_by cd_risen_by ct_risen_by, PySem.W.fnOf "is_ready" "is_ready" (defArgs s_is_ready) (defBody s_is_ready) (defScope s_is_ready) .none kV_is_ready dc_is_ready pm_is_ready an_is_ready cd_is_ready ct_is_ready, PySem.W.fnOf "window_of" "window_of" (defArgs s_window_of) (defBody s_window_of) (defScope s_window_of) .none kV_window_of dc_window_of pm_window_of an_window_of cd_window_of ct_window_of, PySem.W.fnOf "cool_hours" "cool_hours" (defArgs s_cool_hours) (defBody s_cool_hours) (defScope s_cool_hours) .none kV_cool_hours dc_cool_hours pm_cool_hours an_cool_hours cd_cool_hours ct_cool_hours, PySem.W.fnOf "is_cooled" "is_cooled" (defArgs s_is_cooled) (defBody s_is_cooled) (defScope s_is_cooled) .none kV_is_cooled dc_is_cooled pm_is_cooled an_is_cooled cd_is_cooled ct_is_cooled, PySem.W.fnOf "cooled_count" "cooled_count" (defArgs s_cooled_count) (defBody s_cooled_count) (defScope s_cooled_count) .none kV_cooled_count dc_cooled_count pm_cooled_count an_cooled_count cd_cooled_count ct_cooled_count, PySem.W.fnOf "__init__" "House.__init__" (defArgs s_House_init) (defBody s_House_init) (defScope s_House_init) .none kV_House_init dc_House_init pm_House_init an_House_init cd_House_init ct_House_init, PySem.W.fnOf "new_house" "new_house" (defArgs s_new_house) (defBody s_new_house) (defScope s_new_house) .none kV_new_house dc_new_house pm_new_house an_new_house cd_new_house ct_new_house, PySem.W.fnOf "copied_house" "copied_house" (defArgs s_copied_house) (defBody s_copied_house) (defScope s_copied_house) .none kV_copied_house dc_copied_house pm_copied_house an_copied_house cd_copied_house ct_copied_house, PySem.W.fnOf "hours_of" "hours_of" (defArgs s_hours_of) (defBody s_hours_of) (defScope s_hours_of) .none kV_hours_of dc_hours_of pm_hours_of an_hours_of cd_hours_of ct_hours_of, PySem.W.fnOf "has_dough" "has_dough" (defArgs s_has_dough) (defBody s_has_dough) (defScope s_has_dough) .none kV_has_dough dc_has_dough pm_has_dough an_has_dough cd_has_dough ct_has_dough, PySem.W.fnOf "windows_of" "windows_of" (defArgs s_windows_of) (defBody s_windows_of) (defScope s_windows_of) .none kV_windows_of dc_windows_of pm_windows_of an_windows_of cd_windows_of ct_windows_of, PySem.W.fnOf "set_temperature" "set_temperature" (defArgs s_set_temperature) (defBody s_set_temperature) (defScope s_set_temperature) .none kV_set_temperature dc_set_temperature pm_set_temperature an_set_temperature cd_set_temperature ct_set_temperature, PySem.W.fnOf "set_temperatures" "set_temperatures" (defArgs s_set_temperatures) (defBody s_set_temperatures) (defScope s_set_temperatures) .none kV_set_temperatures dc_set_temperatures pm_set_temperatures an_set_temperatures cd_set_temperatures ct_set_temperatures, PySem.W.fnOf "is_new_dough" "is_new_dough" (defArgs s_is_new_dough) (defBody s_is_new_dough) (defScope s_is_new_dough) .none kV_is_new_dough dc_is_new_dough pm_is_new_dough an_is_new_dough cd_is_new_dough ct_is_new_dough, PySem.W.fnOf "add_dough" "add_dough" (defArgs s_add_dough) (defBody s_add_dough) (defScope s_add_dough) .none kV_add_dough dc_add_dough pm_add_dough an_add_dough cd_add_dough ct_add_dough, PySem.W.fnOf "remove_dough" "remove_dough" (defArgs s_remove_dough) (defBody s_remove_dough) (defScope s_remove_dough) .none kV_remove_dough dc_remove_dough pm_remove_dough an_remove_dough cd_remove_dough ct_remove_dough, PySem.W.fnOf "cooling_refusal" "cooling_refusal" (defArgs s_cooling_refusal) (defBody s_cooling_refusal) (defScope s_cooling_refusal) .none kV_cooling_refusal dc_cooling_refusal pm_cooling_refusal an_cooling_refusal cd_cooling_refusal ct_cooling_refusal, PySem.W.fnOf "cool" "cool" (defArgs s_cool) (defBody s_cool) (defScope s_cool) .none kV_cool dc_cool pm_cool an_cool cd_cool ct_cool, PySem.W.fnOf "stop_cooling" "stop_cooling" (defArgs s_stop_cooling) (defBody s_stop_cooling) (defScope s_stop_cooling) .none kV_stop_cooling dc_stop_cooling pm_stop_cooling an_stop_cooling cd_stop_cooling ct_stop_cooling, PySem.W.fnOf "set_baking_time" "set_baking_time" (defArgs s_set_baking_time) (defBody s_set_baking_time) (defScope s_set_baking_time) .none kV_set_baking_time dc_set_baking_time pm_set_baking_time an_set_baking_time cd_set_baking_time ct_set_baking_time, PySem.W.fnOf "next_begun" "next_begun" (defArgs s_next_begun) (defBody s_next_begun) (defScope s_next_begun) .none kV_next_begun dc_next_begun pm_next_begun an_next_begun cd_next_begun ct_next_begun, PySem.W.fnOf "time_of_next" "time_of_next" (defArgs s_time_of_next) (defBody s_time_of_next) (defScope s_time_of_next) .none kV_time_of_next dc_time_of_next pm_time_of_next an_time_of_next cd_time_of_next ct_time_of_next, PySem.W.fnOf "deadline_order" "deadline_order" (defArgs s_deadline_order) (defBody s_deadline_order) (defScope s_deadline_order) .none kV_deadline_order dc_deadline_order pm_deadline_order an_deadline_order cd_deadline_order ct_deadline_order, PySem.W.fnOf "start_of" "start_of" (defArgs s_start_of) (defBody s_start_of) (defScope s_start_of) .none kV_start_of dc_start_of pm_start_of an_start_of cd_start_of ct_start_of, PySem.W.fnOf "starts_of" "starts_of" (defArgs s_starts_of) (defBody s_starts_of) (defScope s_starts_of) .none kV_starts_of dc_starts_of pm_starts_of an_starts_of cd_starts_of ct_starts_of, PySem.W.fnOf "finished_at" "finished_at" (defArgs s_finished_at) (defBody s_finished_at) (defScope s_finished_at) .none kV_finished_at dc_finished_at pm_finished_at an_finished_at cd_finished_at ct_finished_at, PySem.W.fnOf "longer_orders" "longer_orders" (defArgs s_longer_orders) (defBody s_longer_orders) (defScope s_longer_orders) .none kV_longer_orders dc_longer_orders pm_longer_orders an_longer_orders cd_longer_orders ct_longer_orders, PySem.W.fnOf "all_orders" "all_orders" (defArgs s_all_orders) (defBody s_all_orders) (defScope s_all_orders) .none kV_all_orders dc_all_orders pm_all_orders an_all_orders cd_all_orders ct_all_orders, PySem.W.fnOf "plan_for" "plan_for" (defArgs s_plan_for) (defBody s_plan_for) (defScope s_plan_for) .none kV_plan_for dc_plan_for pm_plan_for an_plan_for cd_plan_for ct_plan_for, PySem.W.fnOf "is_order" "is_order" (defArgs s_is_order) (defBody s_is_order) (defScope s_is_order) .none kV_is_order dc_is_order pm_is_order an_is_order cd_is_order ct_is_order, PySem.W.fnOf "sets_of" "sets_of" (defArgs s_sets_of) (defBody s_sets_of) (defScope s_sets_of) .none kV_sets_of dc_sets_of pm_sets_of an_sets_of cd_sets_of ct_sets_of, PySem.W.fnOf "doughs_in" "doughs_in" (defArgs s_doughs_in) (defBody s_doughs_in) (defScope s_doughs_in) .none kV_doughs_in dc_doughs_in pm_doughs_in an_doughs_in cd_doughs_in ct_doughs_in, PySem.W.fnOf "most_doughs_of" "most_doughs_of" (defArgs s_most_doughs_of) (defBody s_most_doughs_of) (defScope s_most_doughs_of) .none kV_most_doughs_of dc_most_doughs_of pm_most_doughs_of an_most_doughs_of cd_most_doughs_of ct_most_doughs_of, PySem.W.fnOf "window" "window" (defArgs s_window) (defBody s_window) (defScope s_window) .none kV_window dc_window pm_window an_window cd_window ct_window, PySem.W.fnOf "risen" "risen" (defArgs s_risen) (defBody s_risen) (defScope s_risen) .none kV_risen dc_risen pm_risen an_risen cd_risen ct_risen, PySem.W.fnOf "start_times" "start_times" (defArgs s_start_times) (defBody s_start_times) (defScope s_start_times) .none kV_start_times dc_start_times pm_start_times an_start_times cd_start_times ct_start_times, PySem.W.fnOf "plan" "plan" (defArgs s_plan) (defBody s_plan) (defScope s_plan) .none kV_plan dc_plan pm_plan an_plan cd_plan ct_plan, PySem.W.fnOf "most_doughs" "most_doughs" (defArgs s_most_doughs) (defBody s_most_doughs) (defScope s_most_doughs) .none kV_most_doughs dc_most_doughs pm_most_doughs an_most_doughs cd_most_doughs ct_most_doughs, PySem.W.fnOf "earliest_deadline" "earliest_deadline" (defArgs s_earliest_deadline) (defBody s_earliest_deadline) (defScope s_earliest_deadline) .none kV_earliest_deadline dc_earliest_deadline pm_earliest_deadline an_earliest_deadline cd_earliest_deadline ct_earliest_deadline, PySem.W.fnOf "can_bake" "can_bake" (defArgs s_can_bake) (defBody s_can_bake) (defScope s_can_bake) .none kV_can_bake dc_can_bake pm_can_bake an_can_bake cd_can_bake ct_can_bake, PySem.W.fnOf "plan_if_cooled" "plan_if_cooled" (defArgs s_plan_if_cooled) (defBody s_plan_if_cooled) (defScope s_plan_if_cooled) .none kV_plan_if_cooled dc_plan_if_cooled pm_plan_if_cooled an_plan_if_cooled cd_plan_if_cooled ct_plan_if_cooled, PySem.W.fnOf "describe" "describe" (defArgs s_describe) (defBody s_describe) (defScope s_describe) .none kV_describe dc_describe pm_describe an_describe cd_describe ct_describe, PySem.W.fnOf "__init__" "Desk.__init__" (defArgs s_Desk_init) (defBody s_Desk_init) (defScope s_Desk_init) .none kV_Desk_init dc_Desk_init pm_Desk_init an_Desk_init cd_Desk_init ct_Desk_init, PySem.W.fnOf "create" "create" (defArgs s_create) (defBody s_create) (defScope s_create) .none kV_create dc_create pm_create an_create cd_create ct_create, PySem.W.fnOf "changed" "changed" (defArgs s_changed) (defBody s_changed) (defScope s_changed) .none kV_changed dc_changed pm_changed an_changed cd_changed ct_changed, PySem.W.fnOf "asked" "asked" (defArgs s_asked) (defBody s_asked) (defScope s_asked) .none kV_asked dc_asked pm_asked an_asked cd_asked ct_asked, PySem.W.fnOf "answered" "answered" (defArgs s_answered) (defBody s_answered) (defScope s_answered) .none kV_answered dc_answered pm_answered an_answered cd_answered ct_answered, PySem.W.fnOf "order_at" "order_at" (defArgs s_order_at) (defBody s_order_at) (defScope s_order_at) .none kV_order_at dc_order_at pm_order_at an_order_at cd_order_at ct_order_at, PySem.W.fnOf "behind" "behind" (defArgs s_behind) (defBody s_behind) (defScope s_behind) .none kV_behind dc_behind pm_behind an_behind cd_behind ct_behind, PySem.W.fnOf "answers" "answers" (defArgs s_answers) (defBody s_answers) (defScope s_answers) .none kV_answers dc_answers pm_answers an_answers cd_answers ct_answers].getD i (PySem.W.fnOf "answers" "answers" (defArgs s_answers) (defBody s_answers) (defScope s_answers) .none kV_answers dc_answers pm_answers an_answers cd_answers ct_answers), fun i => [a_Dough, a_House, a_Desk, a_NUMBERS].getD i 0⟩, ?_, rfl, _, _, _, _, _, _, rfl⟩
  exact {
    clDough := ⟨pg_Dough, hd_Dough, po_Dough, sa_Dough⟩
    mDough := ⟨mk_Dough, a_Dough_init, i_Dough_init, kc_Dough⟩
    gDough := PySem.W.mg_of X G0 aC_Dough
    nDough_mixed_at := n_Dough_mixed_at
    nDough_minimum := n_Dough_minimum
    nDough_maximum := n_Dough_maximum
    nDough_cooled := n_Dough_cooled
    clHouse := ⟨pg_House, hd_House, po_House, sa_House⟩
    mHouse := ⟨mk_House, a_House_init, i_House_init, kc_House⟩
    gHouse := PySem.W.mg_of X G0 aC_House
    nHouse_temperatures := n_House_temperatures
    nHouse_baking := n_House_baking
    nHouse_doughs := n_House_doughs
    clDesk := ⟨pg_Desk, hd_Desk, po_Desk, sa_Desk⟩
    mDesk := ⟨mk_Desk, a_Desk_init, i_Desk_init, kc_Desk⟩
    gDesk := PySem.W.mg_of X G0 aC_Desk
    nDesk_house := n_Desk_house
    c_NO_INSTANCE := ⟨_, PySem.W.mg_of X G0 z_NO_INSTANCE, ⟨_, rfl⟩⟩
    c_MISSING := ⟨_, PySem.W.mg_of X G0 z_MISSING, ⟨_, rfl⟩⟩
    c_OUT_OF_RANGE := ⟨_, PySem.W.mg_of X G0 z_OUT_OF_RANGE, ⟨_, rfl⟩⟩
    c_FULL := ⟨_, PySem.W.mg_of X G0 z_FULL, ⟨_, rfl⟩⟩
    c_NOT_COOLED := ⟨_, PySem.W.mg_of X G0 z_NOT_COOLED, ⟨_, rfl⟩⟩
    c_NOT_POSSIBLE := ⟨_, PySem.W.mg_of X G0 z_NOT_POSSIBLE, ⟨_, rfl⟩⟩
    c_MOST_HOURS := ⟨_, PySem.W.mg_of X G0 z_MOST_HOURS, ⟨_, rfl⟩⟩
    c_MOST_BAKING := ⟨_, PySem.W.mg_of X G0 z_MOST_BAKING, ⟨_, rfl⟩⟩
    c_MOST_TEMPERATURE := ⟨_, PySem.W.mg_of X G0 z_MOST_TEMPERATURE, ⟨_, rfl⟩⟩
    c_MOST_RISEN := ⟨_, PySem.W.mg_of X G0 z_MOST_RISEN, ⟨_, rfl⟩⟩
    c_MOST_DOUGHS := ⟨_, PySem.W.mg_of X G0 z_MOST_DOUGHS, ⟨_, rfl⟩⟩
    c_FIRST_TEMPERATURE := ⟨_, PySem.W.mg_of X G0 z_FIRST_TEMPERATURE, ⟨_, rfl⟩⟩
    c_RESTING := ⟨_, PySem.W.mg_of X G0 z_RESTING, ⟨_, rfl⟩⟩
    c_NUMBERS := PySem.W.mg_of X G0 z_NUMBERS
    t_NUMBERS := fun _ => .inr ⟨_, its_NUMBERS.toArray, _, y_NUMBERS, rfl, rfl, by simpa using w_NUMBERS, by simpa using v_NUMBERS⟩
    c_CREATE := ⟨_, PySem.W.mg_of X G0 z_CREATE, ⟨_, rfl⟩⟩
    c_START_TIMES := ⟨_, PySem.W.mg_of X G0 z_START_TIMES, ⟨_, rfl⟩⟩
    n_enumerate := PySem.W.mg_none_of X G0 z_enumerate
    n_len := PySem.W.mg_none_of X G0 z_len
    n_list := PySem.W.mg_none_of X G0 z_list
    n_max := PySem.W.mg_none_of X G0 z_max
    n_min := PySem.W.mg_none_of X G0 z_min
    n_range := PySem.W.mg_none_of X G0 z_range
    F_is_between := F_is_between
    b_is_between := B_is_between
    g_is_between := PySem.W.mg_of X G0 a_is_between
    F_is_temperature := F_is_temperature
    b_is_temperature := B_is_temperature
    g_is_temperature := PySem.W.mg_of X G0 a_is_temperature
    F_is_baking := F_is_baking
    b_is_baking := B_is_baking
    g_is_baking := PySem.W.mg_of X G0 a_is_baking
    F_Dough_init := F_Dough_init
    b_Dough_init := B_Dough_init
    F_copied_dough := F_copied_dough
    b_copied_dough := B_copied_dough
    g_copied_dough := PySem.W.mg_of X G0 a_copied_dough
    F_rise_in := F_rise_in
    b_rise_in := B_rise_in
    g_rise_in := PySem.W.mg_of X G0 a_rise_in
    F_risen_by := F_risen_by
    b_risen_by := B_risen_by
    g_risen_by := PySem.W.mg_of X G0 a_risen_by
    F_is_ready := F_is_ready
    b_is_ready := B_is_ready
    g_is_ready := PySem.W.mg_of X G0 a_is_ready
    F_window_of := F_window_of
    b_window_of := B_window_of
    g_window_of := PySem.W.mg_of X G0 a_window_of
    F_cool_hours := F_cool_hours
    b_cool_hours := B_cool_hours
    g_cool_hours := PySem.W.mg_of X G0 a_cool_hours
    F_is_cooled := F_is_cooled
    b_is_cooled := B_is_cooled
    g_is_cooled := PySem.W.mg_of X G0 a_is_cooled
    F_cooled_count := F_cooled_count
    b_cooled_count := B_cooled_count
    g_cooled_count := PySem.W.mg_of X G0 a_cooled_count
    F_House_init := F_House_init
    b_House_init := B_House_init
    F_new_house := F_new_house
    b_new_house := B_new_house
    g_new_house := PySem.W.mg_of X G0 a_new_house
    F_copied_house := F_copied_house
    b_copied_house := B_copied_house
    g_copied_house := PySem.W.mg_of X G0 a_copied_house
    F_hours_of := F_hours_of
    b_hours_of := B_hours_of
    g_hours_of := PySem.W.mg_of X G0 a_hours_of
    F_has_dough := F_has_dough
    b_has_dough := B_has_dough
    g_has_dough := PySem.W.mg_of X G0 a_has_dough
    F_windows_of := F_windows_of
    b_windows_of := B_windows_of
    g_windows_of := PySem.W.mg_of X G0 a_windows_of
    F_set_temperature := F_set_temperature
    b_set_temperature := B_set_temperature
    g_set_temperature := PySem.W.mg_of X G0 a_set_temperature
    F_set_temperatures := F_set_temperatures
    b_set_temperatures := B_set_temperatures
    g_set_temperatures := PySem.W.mg_of X G0 a_set_temperatures
    F_is_new_dough := F_is_new_dough
    b_is_new_dough := B_is_new_dough
    g_is_new_dough := PySem.W.mg_of X G0 a_is_new_dough
    F_add_dough := F_add_dough
    b_add_dough := B_add_dough
    g_add_dough := PySem.W.mg_of X G0 a_add_dough
    F_remove_dough := F_remove_dough
    b_remove_dough := B_remove_dough
    g_remove_dough := PySem.W.mg_of X G0 a_remove_dough
    F_cooling_refusal := F_cooling_refusal
    b_cooling_refusal := B_cooling_refusal
    g_cooling_refusal := PySem.W.mg_of X G0 a_cooling_refusal
    F_cool := F_cool
    b_cool := B_cool
    g_cool := PySem.W.mg_of X G0 a_cool
    F_stop_cooling := F_stop_cooling
    b_stop_cooling := B_stop_cooling
    g_stop_cooling := PySem.W.mg_of X G0 a_stop_cooling
    F_set_baking_time := F_set_baking_time
    b_set_baking_time := B_set_baking_time
    g_set_baking_time := PySem.W.mg_of X G0 a_set_baking_time
    F_next_begun := F_next_begun
    b_next_begun := B_next_begun
    g_next_begun := PySem.W.mg_of X G0 a_next_begun
    F_time_of_next := F_time_of_next
    b_time_of_next := B_time_of_next
    g_time_of_next := PySem.W.mg_of X G0 a_time_of_next
    F_deadline_order := F_deadline_order
    b_deadline_order := B_deadline_order
    g_deadline_order := PySem.W.mg_of X G0 a_deadline_order
    F_start_of := F_start_of
    b_start_of := B_start_of
    g_start_of := PySem.W.mg_of X G0 a_start_of
    F_starts_of := F_starts_of
    b_starts_of := B_starts_of
    g_starts_of := PySem.W.mg_of X G0 a_starts_of
    F_finished_at := F_finished_at
    b_finished_at := B_finished_at
    g_finished_at := PySem.W.mg_of X G0 a_finished_at
    F_longer_orders := F_longer_orders
    b_longer_orders := B_longer_orders
    g_longer_orders := PySem.W.mg_of X G0 a_longer_orders
    F_all_orders := F_all_orders
    b_all_orders := B_all_orders
    g_all_orders := PySem.W.mg_of X G0 a_all_orders
    F_plan_for := F_plan_for
    b_plan_for := B_plan_for
    g_plan_for := PySem.W.mg_of X G0 a_plan_for
    F_is_order := F_is_order
    b_is_order := B_is_order
    g_is_order := PySem.W.mg_of X G0 a_is_order
    F_sets_of := F_sets_of
    b_sets_of := B_sets_of
    g_sets_of := PySem.W.mg_of X G0 a_sets_of
    F_doughs_in := F_doughs_in
    b_doughs_in := B_doughs_in
    g_doughs_in := PySem.W.mg_of X G0 a_doughs_in
    F_most_doughs_of := F_most_doughs_of
    b_most_doughs_of := B_most_doughs_of
    g_most_doughs_of := PySem.W.mg_of X G0 a_most_doughs_of
    F_window := F_window
    b_window := B_window
    g_window := PySem.W.mg_of X G0 a_window
    F_risen := F_risen
    b_risen := B_risen
    g_risen := PySem.W.mg_of X G0 a_risen
    F_start_times := F_start_times
    b_start_times := B_start_times
    g_start_times := PySem.W.mg_of X G0 a_start_times
    F_plan := F_plan
    b_plan := B_plan
    g_plan := PySem.W.mg_of X G0 a_plan
    F_most_doughs := F_most_doughs
    b_most_doughs := B_most_doughs
    g_most_doughs := PySem.W.mg_of X G0 a_most_doughs
    F_earliest_deadline := F_earliest_deadline
    b_earliest_deadline := B_earliest_deadline
    g_earliest_deadline := PySem.W.mg_of X G0 a_earliest_deadline
    F_can_bake := F_can_bake
    b_can_bake := B_can_bake
    g_can_bake := PySem.W.mg_of X G0 a_can_bake
    F_plan_if_cooled := F_plan_if_cooled
    b_plan_if_cooled := B_plan_if_cooled
    g_plan_if_cooled := PySem.W.mg_of X G0 a_plan_if_cooled
    F_describe := F_describe
    b_describe := B_describe
    g_describe := PySem.W.mg_of X G0 a_describe
    F_Desk_init := F_Desk_init
    b_Desk_init := B_Desk_init
    F_create := F_create
    b_create := B_create
    g_create := PySem.W.mg_of X G0 a_create
    F_changed := F_changed
    b_changed := B_changed
    g_changed := PySem.W.mg_of X G0 a_changed
    F_asked := F_asked
    b_asked := B_asked
    g_asked := PySem.W.mg_of X G0 a_asked
    F_answered := F_answered
    b_answered := B_answered
    g_answered := PySem.W.mg_of X G0 a_answered
    F_order_at := F_order_at
    b_order_at := B_order_at
    g_order_at := PySem.W.mg_of X G0 a_order_at
    F_behind := F_behind
    b_behind := B_behind
    g_behind := PySem.W.mg_of X G0 a_behind
    F_answers := F_answers
    b_answers := B_answers
    g_answers := PySem.W.mg_of X G0 a_answers
  }
end Bk
namespace Bk
open PySem PySem.Spec PyProof.Rows L2 Evl
theorem fin_mk {P : Program} {w : World} {K : PySem.W.Frag} {mg : Str → Option Value} {fa f : Addr} (hmg : mg "answers" = some (.ref fa))
    (h : ∃ g : G, Txt K mg g ∧ g.f 56 = f ∧ ∃ kV dc pm an cd ct, g.d 56 = PySem.W.fnOf "answers" "answers" (defArgs s_answers) (defBody s_answers) (defScope s_answers) .none kV dc pm an cd ct) :
    ∃ fd : FuncData, (∀ (s : Shared) (us : List Value), us.length = (["calls"] : List Str).length → BindsTo s fd ⟨us, []⟩ ((["calls"] : List Str).zip us)) ∧ ∀ base : Heap, K.In base → base.Ns mainGlobals mg → FnOk P w K mg base CX0 10 fa fd ["calls"] (sp_answers K) := by
  obtain ⟨g, T, _, kV, dc, pm, an, cd, ct, e⟩ := h
  have e1 := hmg.symm.trans T.g_answers
  have e2 : fa = g.f 56 := Value.ref.inj (Option.some.inj e1)
  subst e2
  refine ⟨g.d 56, ?_, fun base _ _ => ok_answers T⟩
  rw [e]
  exact fun s us hu => match us, hu with | [_], _ => .of_eq rfl
end Bk
open PySem PySem.W PyProof.Rows
set_option maxRecDepth 100000 in
set_option maxHeartbeats 0 in
theorem PySem.Challenge.cw_bakehours_s01_answers_holds : PySem.Challenge.rw_bakehours_s01_answers.Holds := by
  w_on; k_headS; (case hw => exact ⟨[.list [.int 11]], by decide +kernel, by decide +kernel⟩)
  k_fillS
  refine L2.walk_specK (r := PySem.Challenge.rw_bakehours_s01_answers) (k := 10) (CX := L2.CX0) (ps := ["calls"]) (sp := Bk.sp_answers) (by decide +kernel) rfl rfl ⟨rfl, by decide, by decide⟩ (fun w h Y => PySem.W.kIn_of Y) ?F ?S (fun _ _ _ _ z => z)
  case F =>
    intro w mg fa h Y KX G hmg
    refine' Bk.fin_mk (P := PySem.Challenge.rw_bakehours_s01_answers.prog) (w := w) hmg (Bk.txt_mk KX G ?aC_Dough ?aC_House ?aC_Desk ?a_is_between ?l_is_between ?c_is_between ?k_is_between ?a_is_temperature ?l_is_temperature ?c_is_temperature ?k_is_temperature ?a_is_baking ?l_is_baking ?c_is_baking ?k_is_baking ?a_Dough_init ?i_Dough_init ?l_Dough_init ?c_Dough_init ?k_Dough_init ?a_copied_dough ?l_copied_dough ?c_copied_dough ?k_copied_dough ?a_rise_in ?l_rise_in ?c_rise_in ?k_rise_in ?a_risen_by ?l_risen_by ?c_risen_by ?k_risen_by ?a_is_ready ?l_is_ready ?c_is_ready ?k_is_ready ?a_window_of ?l_window_of ?c_window_of ?k_window_of ?a_cool_hours ?l_cool_hours ?c_cool_hours ?k_cool_hours ?a_is_cooled ?l_is_cooled ?c_is_cooled ?k_is_cooled ?a_cooled_count ?l_cooled_count ?c_cooled_count ?k_cooled_count ?a_House_init ?i_House_init ?l_House_init ?c_House_init ?k_House_init ?a_new_house ?l_new_house ?c_new_house ?k_new_house ?a_copied_house ?l_copied_house ?c_copied_house ?k_copied_house ?a_hours_of ?l_hours_of ?c_hours_of ?k_hours_of ?a_has_dough ?l_has_dough ?c_has_dough ?k_has_dough ?a_windows_of ?l_windows_of ?c_windows_of ?k_windows_of ?a_set_temperature ?l_set_temperature ?c_set_temperature ?k_set_temperature ?a_set_temperatures ?l_set_temperatures ?c_set_temperatures ?k_set_temperatures ?a_is_new_dough ?l_is_new_dough ?c_is_new_dough ?k_is_new_dough ?a_add_dough ?l_add_dough ?c_add_dough ?k_add_dough ?a_remove_dough ?l_remove_dough ?c_remove_dough ?k_remove_dough ?a_cooling_refusal ?l_cooling_refusal ?c_cooling_refusal ?k_cooling_refusal ?a_cool ?l_cool ?c_cool ?k_cool ?a_stop_cooling ?l_stop_cooling ?c_stop_cooling ?k_stop_cooling ?a_set_baking_time ?l_set_baking_time ?c_set_baking_time ?k_set_baking_time ?a_next_begun ?l_next_begun ?c_next_begun ?k_next_begun ?a_time_of_next ?l_time_of_next ?c_time_of_next ?k_time_of_next ?a_deadline_order ?l_deadline_order ?c_deadline_order ?k_deadline_order ?a_start_of ?l_start_of ?c_start_of ?k_start_of ?a_starts_of ?l_starts_of ?c_starts_of ?k_starts_of ?a_finished_at ?l_finished_at ?c_finished_at ?k_finished_at ?a_longer_orders ?l_longer_orders ?c_longer_orders ?k_longer_orders ?a_all_orders ?l_all_orders ?c_all_orders ?k_all_orders ?a_plan_for ?l_plan_for ?c_plan_for ?k_plan_for ?a_is_order ?l_is_order ?c_is_order ?k_is_order ?a_sets_of ?l_sets_of ?c_sets_of ?k_sets_of ?a_doughs_in ?l_doughs_in ?c_doughs_in ?k_doughs_in ?a_most_doughs_of ?l_most_doughs_of ?c_most_doughs_of ?k_most_doughs_of ?a_window ?l_window ?c_window ?k_window ?a_risen ?l_risen ?c_risen ?k_risen ?a_start_times ?l_start_times ?c_start_times ?k_start_times ?a_plan ?l_plan ?c_plan ?k_plan ?a_most_doughs ?l_most_doughs ?c_most_doughs ?k_most_doughs ?a_earliest_deadline ?l_earliest_deadline ?c_earliest_deadline ?k_earliest_deadline ?a_can_bake ?l_can_bake ?c_can_bake ?k_can_bake ?a_plan_if_cooled ?l_plan_if_cooled ?c_plan_if_cooled ?k_plan_if_cooled ?a_describe ?l_describe ?c_describe ?k_describe ?a_Desk_init ?i_Desk_init ?l_Desk_init ?c_Desk_init ?k_Desk_init ?a_create ?l_create ?c_create ?k_create ?a_changed ?l_changed ?c_changed ?k_changed ?a_asked ?l_asked ?c_asked ?k_asked ?a_answered ?l_answered ?c_answered ?k_answered ?a_order_at ?l_order_at ?c_order_at ?k_order_at ?a_behind ?l_behind ?c_behind ?k_behind ?a_answers ?l_answers ?c_answers ?k_answers ?pg_Dough ?hd_Dough ?po_Dough ?sa_Dough ?mk_Dough ?kc_Dough ?n_Dough_mixed_at ?n_Dough_minimum ?n_Dough_maximum ?n_Dough_cooled ?pg_House ?hd_House ?po_House ?sa_House ?mk_House ?kc_House ?n_House_temperatures ?n_House_baking ?n_House_doughs ?pg_Desk ?hd_Desk ?po_Desk ?sa_Desk ?mk_Desk ?kc_Desk ?n_Desk_house ?z_NO_INSTANCE ?z_MISSING ?z_OUT_OF_RANGE ?z_FULL ?z_NOT_COOLED ?z_NOT_POSSIBLE ?z_MOST_HOURS ?z_MOST_BAKING ?z_MOST_TEMPERATURE ?z_MOST_RISEN ?z_MOST_DOUGHS ?z_FIRST_TEMPERATURE ?z_RESTING ?z_NUMBERS ?y_NUMBERS ?z_CREATE ?z_START_TIMES ?z_enumerate ?z_len ?z_list ?z_max ?z_min ?z_range ?v_NUMBERS ?w_NUMBERS)
    (case aC_Dough => k_is)
    (case aC_House => k_is)
    (case aC_Desk => k_is)
    (case a_is_between => k_is)
    (case l_is_between => k_is)
    (case c_is_between => k_is)
    (case k_is_between => k_is)
    (case a_is_temperature => k_is)
    (case l_is_temperature => k_is)
    (case c_is_temperature => k_is)
    (case k_is_temperature => k_is)
    (case a_is_baking => k_is)
    (case l_is_baking => k_is)
    (case c_is_baking => k_is)
    (case k_is_baking => k_is)
    (case a_Dough_init => k_is)
    (case i_Dough_init => k_is)
    (case l_Dough_init => k_is)
    (case c_Dough_init => k_is)
    (case k_Dough_init => k_is)
    (case a_copied_dough => k_is)
    (case l_copied_dough => k_is)
    (case c_copied_dough => k_is)
    (case k_copied_dough => k_is)
    (case a_rise_in => k_is)
    (case l_rise_in => k_is)
    (case c_rise_in => k_is)
    (case k_rise_in => k_is)
    (case a_risen_by => k_is)
    (case l_risen_by => k_is)
    (case c_risen_by => k_is)
    (case k_risen_by => k_is)
    (case a_is_ready => k_is)
    (case l_is_ready => k_is)
    (case c_is_ready => k_is)
    (case k_is_ready => k_is)
    (case a_window_of => k_is)
    (case l_window_of => k_is)
    (case c_window_of => k_is)
    (case k_window_of => k_is)
    (case a_cool_hours => k_is)
    (case l_cool_hours => k_is)
    (case c_cool_hours => k_is)
    (case k_cool_hours => k_is)
    (case a_is_cooled => k_is)
    (case l_is_cooled => k_is)
    (case c_is_cooled => k_is)
    (case k_is_cooled => k_is)
    (case a_cooled_count => k_is)
    (case l_cooled_count => k_is)
    (case c_cooled_count => k_is)
    (case k_cooled_count => k_is)
    (case a_House_init => k_is)
    (case i_House_init => k_is)
    (case l_House_init => k_is)
    (case c_House_init => k_is)
    (case k_House_init => k_is)
    (case a_new_house => k_is)
    (case l_new_house => k_is)
    (case c_new_house => k_is)
    (case k_new_house => k_is)
    (case a_copied_house => k_is)
    (case l_copied_house => k_is)
    (case c_copied_house => k_is)
    (case k_copied_house => k_is)
    (case a_hours_of => k_is)
    (case l_hours_of => k_is)
    (case c_hours_of => k_is)
    (case k_hours_of => k_is)
    (case a_has_dough => k_is)
    (case l_has_dough => k_is)
    (case c_has_dough => k_is)
    (case k_has_dough => k_is)
    (case a_windows_of => k_is)
    (case l_windows_of => k_is)
    (case c_windows_of => k_is)
    (case k_windows_of => k_is)
    (case a_set_temperature => k_is)
    (case l_set_temperature => k_is)
    (case c_set_temperature => k_is)
    (case k_set_temperature => k_is)
    (case a_set_temperatures => k_is)
    (case l_set_temperatures => k_is)
    (case c_set_temperatures => k_is)
    (case k_set_temperatures => k_is)
    (case a_is_new_dough => k_is)
    (case l_is_new_dough => k_is)
    (case c_is_new_dough => k_is)
    (case k_is_new_dough => k_is)
    (case a_add_dough => k_is)
    (case l_add_dough => k_is)
    (case c_add_dough => k_is)
    (case k_add_dough => k_is)
    (case a_remove_dough => k_is)
    (case l_remove_dough => k_is)
    (case c_remove_dough => k_is)
    (case k_remove_dough => k_is)
    (case a_cooling_refusal => k_is)
    (case l_cooling_refusal => k_is)
    (case c_cooling_refusal => k_is)
    (case k_cooling_refusal => k_is)
    (case a_cool => k_is)
    (case l_cool => k_is)
    (case c_cool => k_is)
    (case k_cool => k_is)
    (case a_stop_cooling => k_is)
    (case l_stop_cooling => k_is)
    (case c_stop_cooling => k_is)
    (case k_stop_cooling => k_is)
    (case a_set_baking_time => k_is)
    (case l_set_baking_time => k_is)
    (case c_set_baking_time => k_is)
    (case k_set_baking_time => k_is)
    (case a_next_begun => k_is)
    (case l_next_begun => k_is)
    (case c_next_begun => k_is)
    (case k_next_begun => k_is)
    (case a_time_of_next => k_is)
    (case l_time_of_next => k_is)
    (case c_time_of_next => k_is)
    (case k_time_of_next => k_is)
    (case a_deadline_order => k_is)
    (case l_deadline_order => k_is)
    (case c_deadline_order => k_is)
    (case k_deadline_order => k_is)
    (case a_start_of => k_is)
    (case l_start_of => k_is)
    (case c_start_of => k_is)
    (case k_start_of => k_is)
    (case a_starts_of => k_is)
    (case l_starts_of => k_is)
    (case c_starts_of => k_is)
    (case k_starts_of => k_is)
    (case a_finished_at => k_is)
    (case l_finished_at => k_is)
    (case c_finished_at => k_is)
    (case k_finished_at => k_is)
    (case a_longer_orders => k_is)
    (case l_longer_orders => k_is)
    (case c_longer_orders => k_is)
    (case k_longer_orders => k_is)
    (case a_all_orders => k_is)
    (case l_all_orders => k_is)
    (case c_all_orders => k_is)
    (case k_all_orders => k_is)
    (case a_plan_for => k_is)
    (case l_plan_for => k_is)
    (case c_plan_for => k_is)
    (case k_plan_for => k_is)
    (case a_is_order => k_is)
    (case l_is_order => k_is)
    (case c_is_order => k_is)
    (case k_is_order => k_is)
    (case a_sets_of => k_is)
    (case l_sets_of => k_is)
    (case c_sets_of => k_is)
    (case k_sets_of => k_is)
    (case a_doughs_in => k_is)
    (case l_doughs_in => k_is)
    (case c_doughs_in => k_is)
    (case k_doughs_in => k_is)
    (case a_most_doughs_of => k_is)
    (case l_most_doughs_of => k_is)
    (case c_most_doughs_of => k_is)
    (case k_most_doughs_of => k_is)
    (case a_window => k_is)
    (case l_window => k_is)
    (case c_window => k_is)
    (case k_window => k_is)
    (case a_risen => k_is)
    (case l_risen => k_is)
    (case c_risen => k_is)
    (case k_risen => k_is)
    (case a_start_times => k_is)
    (case l_start_times => k_is)
    (case c_start_times => k_is)
    (case k_start_times => k_is)
    (case a_plan => k_is)
    (case l_plan => k_is)
    (case c_plan => k_is)
    (case k_plan => k_is)
    (case a_most_doughs => k_is)
    (case l_most_doughs => k_is)
    (case c_most_doughs => k_is)
    (case k_most_doughs => k_is)
    (case a_earliest_deadline => k_is)
    (case l_earliest_deadline => k_is)
    (case c_earliest_deadline => k_is)
    (case k_earliest_deadline => k_is)
    (case a_can_bake => k_is)
    (case l_can_bake => k_is)
    (case c_can_bake => k_is)
    (case k_can_bake => k_is)
    (case a_plan_if_cooled => k_is)
    (case l_plan_if_cooled => k_is)
    (case c_plan_if_cooled => k_is)
    (case k_plan_if_cooled => k_is)
    (case a_describe => k_is)
    (case l_describe => k_is)
    (case c_describe => k_is)
    (case k_describe => k_is)
    (case a_Desk_init => k_is)
    (case i_Desk_init => k_is)
    (case l_Desk_init => k_is)
    (case c_Desk_init => k_is)
    (case k_Desk_init => k_is)
    (case a_create => k_is)
    (case l_create => k_is)
    (case c_create => k_is)
    (case k_create => k_is)
    (case a_changed => k_is)
    (case l_changed => k_is)
    (case c_changed => k_is)
    (case k_changed => k_is)
    (case a_asked => k_is)
    (case l_asked => k_is)
    (case c_asked => k_is)
    (case k_asked => k_is)
    (case a_answered => k_is)
    (case l_answered => k_is)
    (case c_answered => k_is)
    (case k_answered => k_is)
    (case a_order_at => k_is)
    (case l_order_at => k_is)
    (case c_order_at => k_is)
    (case k_order_at => k_is)
    (case a_behind => k_is)
    (case l_behind => k_is)
    (case c_behind => k_is)
    (case k_behind => k_is)
    (case a_answers => k_is)
    (case l_answers => k_is)
    (case c_answers => k_is)
    (case k_answers => k_is)
    (case pg_Dough => k_is)
    (case hd_Dough => k_is)
    (case po_Dough => k_is)
    (case sa_Dough => k_is)
    (case mk_Dough => k_is)
    (case kc_Dough => k_is)
    (case n_Dough_mixed_at => k_is)
    (case n_Dough_minimum => k_is)
    (case n_Dough_maximum => k_is)
    (case n_Dough_cooled => k_is)
    (case pg_House => k_is)
    (case hd_House => k_is)
    (case po_House => k_is)
    (case sa_House => k_is)
    (case mk_House => k_is)
    (case kc_House => k_is)
    (case n_House_temperatures => k_is)
    (case n_House_baking => k_is)
    (case n_House_doughs => k_is)
    (case pg_Desk => k_is)
    (case hd_Desk => k_is)
    (case po_Desk => k_is)
    (case sa_Desk => k_is)
    (case mk_Desk => k_is)
    (case kc_Desk => k_is)
    (case n_Desk_house => k_is)
    (case z_NO_INSTANCE => k_is)
    (case z_MISSING => k_is)
    (case z_OUT_OF_RANGE => k_is)
    (case z_FULL => k_is)
    (case z_NOT_COOLED => k_is)
    (case z_NOT_POSSIBLE => k_is)
    (case z_MOST_HOURS => k_is)
    (case z_MOST_BAKING => k_is)
    (case z_MOST_TEMPERATURE => k_is)
    (case z_MOST_RISEN => k_is)
    (case z_MOST_DOUGHS => k_is)
    (case z_FIRST_TEMPERATURE => k_is)
    (case z_RESTING => k_is)
    (case z_NUMBERS => k_is)
    (case y_NUMBERS => k_is)
    (case z_CREATE => k_is)
    (case z_START_TIMES => k_is)
    (case z_enumerate => k_is)
    (case z_len => k_is)
    (case z_list => k_is)
    (case z_max => k_is)
    (case z_min => k_is)
    (case z_range => k_is)
    (case v_NUMBERS => exact .cons ⟨_, rfl⟩ (.cons ⟨_, rfl⟩ (.cons ⟨_, rfl⟩ (.cons ⟨_, rfl⟩ (.cons ⟨_, rfl⟩ (.cons ⟨_, rfl⟩ (.cons ⟨_, rfl⟩ (.cons ⟨_, rfl⟩ (.cons ⟨_, rfl⟩ (.cons ⟨_, rfl⟩ (.cons ⟨_, rfl⟩ (.cons ⟨_, rfl⟩ (.cons ⟨_, rfl⟩ (.cons ⟨_, rfl⟩ (.cons ⟨_, rfl⟩ (.cons ⟨_, rfl⟩ (.cons ⟨_, rfl⟩ .nil)))))))))))))))))
    (case w_NUMBERS => exact Nat.le_of_ble_eq_true rfl)
  case S =>
    intro K H xs a hO hwi hask hx
    cases hx with
    | cons h1 h2 =>
      cases h2
      cases h1 with
      | lst hs ha =>
        have e := L2.ints_dw a.1 _ ha
        subst e
        exact ⟨_, a.1, rfl, hs, hask, fun H' p hp => .lst (L2.SqL.of hp) (L2.dw_ints _)⟩
#print axioms PySem.Challenge.cw_bakehours_s01_answers_holds
