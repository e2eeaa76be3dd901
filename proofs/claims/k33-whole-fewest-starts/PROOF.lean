import PyProof.Rows.All
import Wide.All
import OpenK.AllK
import Wide.FinOn
import HandS.ForMost
import HandS.Codes
import HandS.Defaults
import HandS.Head0
import HandS.Head1
import HandS.Head2
import HandS.HeadEnd
import HandS.HeadHook1
import HandS.HeadHook2
import HandS.HeadHook3
import HandS.HeadHook4
import HandS.Star
import HandS.Deep
import HandS.IsInst
import HandS.More
import HandS.Walk
import HandS.Evl
import KE.GoesEnum
import KE.KAssignIn
import HandS.Style
import HandS.SortRule
import KE.KSortTupAny
import HandS.TupAny
import KE.KDictKeyed
import HandS.Dict
import KE.KDictWalk
import KE.KDictDisplayH
import KE.KeyNested
import HandS.Lambda
import HandS.SortKw
import KE.KMinKey
import HandS.HeadWalk
import PySem.Challenge.RW_tickshares_k33_whole_fewest_starts
set_option Elab.async false
set_option linter.all false
set_option maxRecDepth 100000
set_option maxHeartbeats 2000000
/-! ## TopA -/
namespace TS
open PySem L2
/-! ### the text by places (printed by wip/gen/tops.py) -/
def top (i : Nat) : Stmt := PySem.Challenge.pw_tickshares_k33_whole_fewest_starts.main.body.getD i (.Pass ⟨0, 0, 0, 0⟩)
abbrev s_divisor : Stmt := top 11
abbrev s_multiple : Stmt := top 12
abbrev s_lowest : Stmt := top 13
abbrev s_plus : Stmt := top 14
abbrev s_is_integer : Stmt := top 23
abbrev s_is_between : Stmt := top 24
abbrev s_is_name : Stmt := top 25
abbrev s_read_number : Stmt := top 26
abbrev s_is_share : Stmt := top 29
abbrev s_read_share : Stmt := top 30
abbrev s_read_work : Stmt := top 31
abbrev s_read_lot : Stmt := top 32
abbrev s_check_lot : Stmt := top 35
abbrev s_check_round : Stmt := top 37
abbrev s_ends_at : Stmt := top 39
abbrev s_standings_at : Stmt := top 41
abbrev s_step : Stmt := top 42
abbrev s_given_between : Stmt := top 43
abbrev s_check_both : Stmt := top 46
abbrev s_first_standing : Stmt := top 47
abbrev s_starts_between : Stmt := top 48
abbrev s_calmest_from : Stmt := top 50
abbrev s_calmest : Stmt := top 51
abbrev s_fewest_starts : Stmt := top 52
abbrev s_calm_table : Stmt := top 53
abbrev s_law_cell : Stmt := top 55
abbrev s_law_jar : Stmt := top 56
abbrev s_law_dig : Stmt := top 57
abbrev s_law_take : Stmt := top 58
abbrev s_law_text : Stmt := top 59
abbrev s_law_span : Stmt := top 60
abbrev s_law_kept : Stmt := top 61
abbrev s_law_near : Stmt := top 62
abbrev s_law_all_at : Stmt := top 63
abbrev s_law_sets : Stmt := top 64
abbrev s_law_plus : Stmt := top 65
abbrev s_law_living : Stmt := top 66
abbrev s_law_is_right : Stmt := top 67
abbrev s_law_tables : Stmt := top 68
abbrev s_law_starts : Stmt := top 69
abbrev s_law_small : Stmt := top 70
abbrev s_law_right : Stmt := top 71
abbrev s_law : Stmt := top 72
abbrev s_Lot_init : Stmt := inClass (top 34) 0
abbrev s_Sheet_init : Stmt := inClass (top 44) 0
abbrev s_Sheet_between : Stmt := inClass (top 44) 1
abbrev s_Path_init : Stmt := inClass (top 49) 0
end TS
/-! ## H0 -/
/-! the head: what the top leaves, by one run (printed by wip/gen/head0.py) -/
namespace TS
open PySem PySem.Spec PyProof.Rows L2
def d_divisor : He.DefD := ⟨("divisor", none), "divisor", "divisor", defArgs s_divisor, defBody s_divisor, defScope s_divisor, [], []⟩
def d_multiple : He.DefD := ⟨("multiple", none), "multiple", "multiple", defArgs s_multiple, defBody s_multiple, defScope s_multiple, [], []⟩
def d_lowest : He.DefD := ⟨("lowest", none), "lowest", "lowest", defArgs s_lowest, defBody s_lowest, defScope s_lowest, [], []⟩
def d_plus : He.DefD := ⟨("plus", none), "plus", "plus", defArgs s_plus, defBody s_plus, defScope s_plus, [], []⟩
def d_is_integer : He.DefD := ⟨("is_integer", none), "is_integer", "is_integer", defArgs s_is_integer, defBody s_is_integer, defScope s_is_integer, [], []⟩
def d_is_between : He.DefD := ⟨("is_between", none), "is_between", "is_between", defArgs s_is_between, defBody s_is_between, defScope s_is_between, [], []⟩
def d_is_name : He.DefD := ⟨("is_name", none), "is_name", "is_name", defArgs s_is_name, defBody s_is_name, defScope s_is_name, [], []⟩
def d_read_number : He.DefD := ⟨("read_number", none), "read_number", "read_number", defArgs s_read_number, defBody s_read_number, defScope s_read_number, [], []⟩
def d_is_share : He.DefD := ⟨("is_share", none), "is_share", "is_share", defArgs s_is_share, defBody s_is_share, defScope s_is_share, [], []⟩
def d_read_share : He.DefD := ⟨("read_share", none), "read_share", "read_share", defArgs s_read_share, defBody s_read_share, defScope s_read_share, [], []⟩
def d_read_work : He.DefD := ⟨("read_work", none), "read_work", "read_work", defArgs s_read_work, defBody s_read_work, defScope s_read_work, [], []⟩
def d_read_lot : He.DefD := ⟨("read_lot", none), "read_lot", "read_lot", defArgs s_read_lot, defBody s_read_lot, defScope s_read_lot, [], []⟩
def d_check_lot : He.DefD := ⟨("check_lot", none), "check_lot", "check_lot", defArgs s_check_lot, defBody s_check_lot, defScope s_check_lot, [], []⟩
def d_check_round : He.DefD := ⟨("check_round", none), "check_round", "check_round", defArgs s_check_round, defBody s_check_round, defScope s_check_round, [], []⟩
def d_ends_at : He.DefD := ⟨("ends_at", none), "ends_at", "ends_at", defArgs s_ends_at, defBody s_ends_at, defScope s_ends_at, [], []⟩
def d_standings_at : He.DefD := ⟨("standings_at", none), "standings_at", "standings_at", defArgs s_standings_at, defBody s_standings_at, defScope s_standings_at, [], []⟩
def d_step : He.DefD := ⟨("step", none), "step", "step", defArgs s_step, defBody s_step, defScope s_step, [], []⟩
def d_given_between : He.DefD := ⟨("given_between", none), "given_between", "given_between", defArgs s_given_between, defBody s_given_between, defScope s_given_between, [], []⟩
def d_check_both : He.DefD := ⟨("check_both", none), "check_both", "check_both", defArgs s_check_both, defBody s_check_both, defScope s_check_both, [], []⟩
def d_first_standing : He.DefD := ⟨("first_standing", none), "first_standing", "first_standing", defArgs s_first_standing, defBody s_first_standing, defScope s_first_standing, [], []⟩
def d_starts_between : He.DefD := ⟨("starts_between", none), "starts_between", "starts_between", defArgs s_starts_between, defBody s_starts_between, defScope s_starts_between, [], []⟩
def d_calmest_from : He.DefD := ⟨("calmest_from", none), "calmest_from", "calmest_from", defArgs s_calmest_from, defBody s_calmest_from, defScope s_calmest_from, [], []⟩
def d_calmest : He.DefD := ⟨("calmest", none), "calmest", "calmest", defArgs s_calmest, defBody s_calmest, defScope s_calmest, [], []⟩
def d_fewest_starts : He.DefD := ⟨("fewest_starts", none), "fewest_starts", "fewest_starts", defArgs s_fewest_starts, defBody s_fewest_starts, defScope s_fewest_starts, [], []⟩
def d_calm_table : He.DefD := ⟨("calm_table", none), "calm_table", "calm_table", defArgs s_calm_table, defBody s_calm_table, defScope s_calm_table, [], []⟩
def d_law_cell : He.DefD := ⟨("_law_cell", none), "_law_cell", "_law_cell", defArgs s_law_cell, defBody s_law_cell, defScope s_law_cell, [], []⟩
def d_law_jar : He.DefD := ⟨("_law_jar", none), "_law_jar", "_law_jar", defArgs s_law_jar, defBody s_law_jar, defScope s_law_jar, [], []⟩
def d_law_dig : He.DefD := ⟨("_law_dig", none), "_law_dig", "_law_dig", defArgs s_law_dig, defBody s_law_dig, defScope s_law_dig, [], []⟩
def d_law_take : He.DefD := ⟨("_law_take", none), "_law_take", "_law_take", defArgs s_law_take, defBody s_law_take, defScope s_law_take, [], []⟩
def d_law_text : He.DefD := ⟨("_law_text", none), "_law_text", "_law_text", defArgs s_law_text, defBody s_law_text, defScope s_law_text, [], []⟩
def d_law_span : He.DefD := ⟨("_law_span", none), "_law_span", "_law_span", defArgs s_law_span, defBody s_law_span, defScope s_law_span, [], []⟩
def d_law_kept : He.DefD := ⟨("_law_kept", none), "_law_kept", "_law_kept", defArgs s_law_kept, defBody s_law_kept, defScope s_law_kept, [], []⟩
def d_law_near : He.DefD := ⟨("_law_near", none), "_law_near", "_law_near", defArgs s_law_near, defBody s_law_near, defScope s_law_near, [], []⟩
def d_law_all_at : He.DefD := ⟨("_law_all_at", none), "_law_all_at", "_law_all_at", defArgs s_law_all_at, defBody s_law_all_at, defScope s_law_all_at, [], []⟩
def d_law_sets : He.DefD := ⟨("_law_sets", none), "_law_sets", "_law_sets", defArgs s_law_sets, defBody s_law_sets, defScope s_law_sets, [], []⟩
def d_law_plus : He.DefD := ⟨("_law_plus", none), "_law_plus", "_law_plus", defArgs s_law_plus, defBody s_law_plus, defScope s_law_plus, [], []⟩
def d_law_living : He.DefD := ⟨("_law_living", none), "_law_living", "_law_living", defArgs s_law_living, defBody s_law_living, defScope s_law_living, [], []⟩
def d_law_is_right : He.DefD := ⟨("_law_is_right", none), "_law_is_right", "_law_is_right", defArgs s_law_is_right, defBody s_law_is_right, defScope s_law_is_right, [], []⟩
def d_law_tables : He.DefD := ⟨("_law_tables", none), "_law_tables", "_law_tables", defArgs s_law_tables, defBody s_law_tables, defScope s_law_tables, [], []⟩
def d_law_starts : He.DefD := ⟨("_law_starts", none), "_law_starts", "_law_starts", defArgs s_law_starts, defBody s_law_starts, defScope s_law_starts, [], []⟩
def d_law_small : He.DefD := ⟨("_law_small", none), "_law_small", "_law_small", defArgs s_law_small, defBody s_law_small, defScope s_law_small, [], []⟩
def d_law_right : He.DefD := ⟨("_law_right", none), "_law_right", "_law_right", defArgs s_law_right, defBody s_law_right, defScope s_law_right, [], []⟩
def d_law : He.DefD := ⟨("law", none), "law", "law", defArgs s_law, defBody s_law, defScope s_law, [], []⟩
def d_Lot_init : He.DefD := ⟨("Lot", (some "__init__")), "__init__", "Lot.__init__", defArgs s_Lot_init, defBody s_Lot_init, defScope s_Lot_init, [], []⟩
def d_Sheet_init : He.DefD := ⟨("Sheet", (some "__init__")), "__init__", "Sheet.__init__", defArgs s_Sheet_init, defBody s_Sheet_init, defScope s_Sheet_init, [], []⟩
def d_Sheet_between : He.DefD := ⟨("Sheet", (some "between")), "between", "Sheet.between", defArgs s_Sheet_between, defBody s_Sheet_between, defScope s_Sheet_between, [], []⟩
def d_Path_init : He.DefD := ⟨("Path", (some "__init__")), "__init__", "Path.__init__", defArgs s_Path_init, defBody s_Path_init, defScope s_Path_init, [], []⟩
def fn : List He.DefD := [d_divisor, d_multiple, d_lowest, d_plus, d_is_integer, d_is_between, d_is_name, d_read_number, d_is_share, d_read_share, d_read_work, d_read_lot, d_check_lot, d_check_round, d_ends_at, d_standings_at, d_step, d_given_between, d_check_both, d_first_standing, d_starts_between, d_calmest_from, d_calmest, d_fewest_starts, d_calm_table, d_law_cell, d_law_jar, d_law_dig, d_law_take, d_law_text, d_law_span, d_law_kept, d_law_near, d_law_all_at, d_law_sets, d_law_plus, d_law_living, d_law_is_right, d_law_tables, d_law_starts, d_law_small, d_law_right, d_law, d_Lot_init, d_Sheet_init, d_Sheet_between, d_Path_init]
def fa1 : List He.Fa := [.glo "divisor", .glo "multiple", .glo "lowest", .glo "plus", .glo "is_integer", .glo "is_between", .glo "is_name", .glo "read_number", .glo "is_share", .glo "read_share", .glo "read_work", .glo "read_lot", .glo "check_lot", .glo "check_round", .glo "ends_at", .glo "standings_at", .glo "step", .glo "given_between", .glo "check_both", .glo "first_standing", .glo "starts_between", .glo "calmest_from", .glo "calmest", .glo "fewest_starts", .glo "calm_table", .glo "_law_cell", .glo "_law_jar", .glo "_law_dig", .glo "_law_take", .glo "_law_text", .glo "_law_span", .glo "_law_kept", .glo "_law_near", .glo "_law_all_at", .glo "_law_sets", .glo "_law_plus", .glo "_law_living", .glo "_law_is_right", .glo "_law_tables", .glo "_law_starts"]
def fa2 : List He.Fa := [.glo "_law_small", .glo "_law_right", .glo "law", .glo "Lot", .glo "Sheet", .glo "Path", .free "len", .free "range", .free "tuple", .free "isinstance", .free "all", .free "sum", .free "min", .free "max", .free "sorted", .free "divmod", .free "abs", .free "int", .free "str", .free "dict", .free "enumerate", .free "repr", .free "bool", .int "MOST_WORKS" 6, .int "MOST_HANDS" 6, .int "MOST_PERIOD" 16, .int "MOST_ROUND" 720, .int "LONGEST" 8, .str "DIGITS" "0123456789", .str "LETTERS" "abcdefghijklmnopqrstuvwxyz", .str "GAP" " ", .cls "Lot", .mkr "Lot", .noat "Lot" "told", .noat "Lot" "many", .noat "Lot" "works", .noat "Lot" "order", .noat "Lot" "parts", .noat "Lot" "summed", .noat "Lot" "circle"]
def fa3 : List He.Fa := [.cls "Sheet", .mkr "Sheet", .noat "Sheet" "lot", .noat "Sheet" "living", .noat "Sheet" "leads", .meth "Sheet" "between", .cls "Path", .mkr "Path", .noat "Path" "starts", .noat "Path" "given", .noat "Path" "before"]
def fa : List He.Fa := fa1 ++ (fa2 ++ fa3)
def tfF : He.Defn := ("calmest_from", none)
def tfC : He.Defn := ("calmest", none)
def tf : List He.Defn := [tfF, tfC]
def n0 : List PySem.Str := ["_wall", "WrongValue", "InvalidText", "NotALot", "WrongName", "UnknownName", "NoAnswer", "TooMany", "Alone", "divisor", "multiple", "lowest", "plus", "MOST_WORKS", "MOST_HANDS", "MOST_PERIOD"]
def n1 : List PySem.Str := ["MOST_ROUND", "DIGITS", "LETTERS", "LONGEST", "is_integer", "is_between", "is_name", "read_number", "GAP", "is_share", "read_share", "read_work", "read_lot", "text_of", "Lot", "check_lot"]
def n2 : List PySem.Str := ["check_work", "check_round", "ends_at", "standings_at", "step", "given_between", "Sheet", "check_both", "first_standing", "starts_between", "Path", "calmest_from", "calmest", "fewest_starts", "calm_table", "_law_cell"]
def n3 : List PySem.Str := ["_law_jar", "_law_dig", "_law_take", "_law_text", "_law_span", "_law_kept", "_law_near", "_law_all_at", "_law_sets", "_law_plus", "_law_living", "_law_is_right", "_law_tables", "_law_starts", "_law_small", "_law_right"]
def n4 : List PySem.Str := []
def names : List PySem.Str := n0 ++ (n1 ++ (n2 ++ (n3 ++ n4)))
abbrev R : PySem.W.OpenRow := PySem.W.OpenLaw.row PySem.Challenge.rw_tickshares_k33_whole_fewest_starts
/-- isinstance of a Lot; the two tables differ -/
def insB (K : PySem.W.Frag) (C : Addr) : Bool := He.eqO (PySem.W.findIn K (.ref C) "__class__") (some (some (.builtin "object.__class__"))) && (He.eqO (PySem.W.specialIn K (.builtin "object.__class__") "__get__") (some (some (.builtin "getset_descriptor.__get__"))) && (decide (PySem.W.takesIn K (.builtin "object.__class__") = some true) && (decide (PySem.W.mroIn K C (.type "object") = some true) && decide (PySem.W.kitOne K (.ref C) (.ref C) = some true))))
def ex (K : PySem.W.Frag) : Bool := insB K (He.ga K "Lot") && !decide ((He.cT K tfF).2 = (He.cT K tfC).2)
abbrev hk : PySem.W.Hook := He.hookX 5 fa fn [] tf ex
def ob (s : PySem.W.SharedT) : He.AlX := He.obsX 5 fa fn [] tf ex (HandSHeadRun.getT s)
theorem ob_eq (s : PySem.W.SharedT) : ob s = hk.obs s.abs := He.obsX_eq (HandSHeadRun.getT_eq s)
set_option maxHeartbeats 0 in
theorem run (w : World) : HandSHeadRun.RunEq R (PySem.W.view R.prog [72]) hk ob 6000 names w := by
  intro os
  kernel_rfl
end TS
/-! ## B1 -/
namespace TS
open PySem PySem.Spec PyProof.Rows L2

/-! ### heaps: the kit's HandS.Evl, under short names -/
abbrev Ex (H H' : Hp) : Prop := Evl.Ex H H'
section
variable {K : PySem.W.Frag} {H H1 H' : Hp} {p a : Addr} {o u : HO} {xs : List V} {n : Nat}
theorem Ex.refl (H : Hp) : Ex H H := Evl.Ex.refl H
theorem Ex.trans (e : Ex H H1) (e1 : Ex H1 H') : Ex H H' := Evl.Ex.trans e e1
theorem Ex.new (h : H p = none) : Ex H (upd H p o) := Evl.Ex.new h
theorem Ex.mut (e : Ex H H') (h : H p = none) : Ex H (upd H' p o) := Evl.Ex.mut e h
theorem Ex.back (e : Ex H H') (h : H' p = none) : H p = none := Evl.fresh_back e h
theorem ex_rd (e : Ex H H') (h : Rd H a u) : Rd H' a u := Evl.ex_rd e h
theorem ex_l (e : Ex H H') (h : SqL K H a xs) : SqL K H' a xs := Evl.ex_l e h
theorem ex_t (e : Ex H H') (h : SqT K H a xs) : SqT K H' a xs := Evl.ex_t e h
theorem sz_of (h : n ≤ 100000) : n ≤ sizeLine := Evl.sz_of h
theorem sz_lt (h : n < 100000) : n < sizeLine := Evl.sz_lt h
end

/-! ### what is wanted, said by the machine itself -/
def wE (X : Cx) (e : Expr) : TE := fun σ H Q => ∀ (pins : List (Addr × Obj)) (s : Shared), Inv X pins σ H s → wpAny (model X.prog X.w) X.A (eval e X.env) (EP X pins σ Q) X.xe s
def wT (X : Cx) (e : Expr) : TT := fun σ H Q => ∀ (pins : List (Addr × Obj)) (s : Shared), Inv X pins σ H s → wpAny (model X.prog X.w) X.A (isTrue e X.env (eval e X.env)) (TP X pins σ Q) X.xe s
def wA (X : Cx) (es : List Expr) : TA := fun σ H Q => ∀ (pos : Pos) (pins : List (Addr × Obj)) (s : Shared), Inv X pins σ H s → wpAny (model X.prog X.w) X.A (spliced (backTo pos (starEach es X.env))) (AP X pins σ Q) X.xe s
def wS (X : Cx) (sts : List Stmt) : TS := fun D σ H => ∀ (pins : List (Addr × Obj)) (s : Shared), Inv X pins σ H s → wpAny (model X.prog X.w) X.A (execs sts X.env) (SP X pins D) X.xe s
section
variable {X : Cx} {e : Expr} {es : List Expr} {st : Stmt} {sts : List Stmt} {σ : L2.St} {H : Hp}
theorem pe_w : PE X e (wE X e) := ⟨fun pins s σ H Q I h => h pins s I⟩
theorem pt_w : PT X e (wT X e) := ⟨fun pins s σ H Q I h => h pins s I⟩
theorem pa_w : PA X es (wA X es) := ⟨fun pos pins s σ H Q I h => h pos pins s I⟩
theorem ps_w : PSs X sts (wS X sts) := ⟨fun pins s σ H D I h => h pins s I⟩
theorem wE_of {t : TE} (h : PE X e t) {Q : VK} (q : t σ H Q) : wE X e σ H Q := fun pins s I => h.run pins s σ H Q I q
theorem wT_of {t : TT} (h : PT X e t) {Q : Bool → Hp → Prop} (q : t σ H Q) : wT X e σ H Q := fun pins s I => h.run pins s σ H Q I q
theorem wA_of {t : TA} (h : PA X es t) {Q : List V → Hp → Prop} (q : t σ H Q) : wA X es σ H Q := fun pos pins s I => h.run pos pins s σ H Q I q
theorem wS_of {t : TS} (h : PSs X sts t) {D : Ends} (q : t D σ H) : wS X sts D σ H := fun pins s I => h.run pins s σ H D I q
end

/-! ### what an expression comes to, from every heap that holds what H holds -/
abbrev RT := Hp → V → Hp → Prop
/-- told of the heap ahead: less ahead, the same is true -/
class Anti (R : RT) : Prop where
  anti : ∀ (H H' : Hp) (v : V) (H2 : Hp), Ex H H' → R H' v H2 → R H v H2
def Ev (X : Cx) (e : Expr) (σ : L2.St) (H : Hp) (R : RT) : Prop := ∀ H1, Ex H H1 → ∀ Q : VK, (∀ v H2, Ex H1 H2 → R H1 v H2 → Q v H2) → wE X e σ H1 Q
def EvT (X : Cx) (e : Expr) (σ : L2.St) (H : Hp) (b : Bool) : Prop := ∀ H1, Ex H H1 → ∀ Q : Bool → Hp → Prop, (∀ H2, Ex H1 H2 → Q b H2) → wT X e σ H1 Q
def EvA (X : Cx) (es : List Expr) (σ : L2.St) (H : Hp) (vs : List V) : Prop := ∀ H1, Ex H H1 → ∀ Q : List V → Hp → Prop, (∀ H2, Ex H1 H2 → Q vs H2) → wA X es σ H1 Q
/-- it is just v -/
def is (v : V) : RT := fun _ x _ => x = v
/-- it is so in the heap behind -/
def fits (P : V → Hp → Prop) : RT := fun _ x H2 => P x H2
/-- a new tuple, list of these -/
def newT (xs : List V) : RT := fun H1 v H2 => ∃ p, v = .ref p ∧ H1 p = none ∧ H2 p = some (.tup xs)
def newL (xs : List V) : RT := fun H1 v H2 => ∃ p, v = .ref p ∧ H1 p = none ∧ H2 p = some (.lst xs)
/-- a new list of things that are so -/
def newP (P : List V → Hp → Prop) : RT := fun H1 v H2 => ∃ p xs, v = .ref p ∧ H1 p = none ∧ H2 p = some (.lst xs) ∧ P xs H2
instance {v : V} : Anti (is v) := ⟨fun _ _ _ _ _ h => h⟩
instance {P : V → Hp → Prop} : Anti (fits P) := ⟨fun _ _ _ _ _ h => h⟩
instance {xs : List V} : Anti (newT xs) := ⟨fun _ _ _ _ e ⟨p, a, b, c⟩ => ⟨p, a, e.back b, c⟩⟩
instance {xs : List V} : Anti (newL xs) := ⟨fun _ _ _ _ e ⟨p, a, b, c⟩ => ⟨p, a, e.back b, c⟩⟩
instance {P : List V → Hp → Prop} : Anti (newP P) := ⟨fun _ _ _ _ e ⟨p, xs, a, b, c⟩ => ⟨p, xs, a, e.back b, c⟩⟩
/-- an operator's reading on values -/
def RV (r : R2) (x y : V) (H : Hp) (R : RT) : Prop := ∀ H1, Ex H H1 → ∀ Q : VK, (∀ v H2, Ex H1 H2 → R H1 v H2 → Q v H2) → r x y H1 Q
section
variable {X : Cx} {a b c e : Expr} {es : List Expr} {σ : L2.St} {H H' : Hp} {x y z v : V} {R R' : RT} {pos : Pos} {r : R2} {k j : Bool}
theorem Ev.mono (e1 : Ex H H') (h : Ev X e σ H R) : Ev X e σ H' R := fun H1 a Q q => h H1 (e1.trans a) Q q
theorem EvT.mono (e1 : Ex H H') (h : EvT X e σ H k) : EvT X e σ H' k := fun H1 a Q q => h H1 (e1.trans a) Q q
theorem EvA.mono {vs : List V} (e1 : Ex H H') (h : EvA X es σ H vs) : EvA X es σ H' vs := fun H1 a Q q => h H1 (e1.trans a) Q q
theorem Ev.imp (h : Ev X e σ H R) (f : ∀ H1 v H2, Ex H H1 → Ex H1 H2 → R H1 v H2 → R' H1 v H2) : Ev X e σ H R' := fun H1 a Q q => h H1 a Q fun v H2 e2 r2 => q v H2 e2 (f H1 v H2 a e2 r2)
theorem Ev.is_ (h : Ev X e σ H (is x)) (ex : x = y) : Ev X e σ H (is y) := by rw [← ex]; exact h
theorem EvT.is_ (h : EvT X e σ H k) (ex : k = j) : EvT X e σ H j := by rw [← ex]; exact h
theorem ev_name (i : Nat) {n : Str} (hs : σ[i]? = some (some v)) (hN : X.N[i]? = some n := by rfl) (hv : Vis X.env.scope n := by first | exact Or.inl rfl | exact Or.inr (Or.inl rfl) | exact Or.inr (Or.inr rfl))
    (hd : (n == ("__debug__" : Str)) = false := by decide) (hcd : (n == ("__classdict__" : Str)) = false := by decide) : Ev X (.Name n pos) σ H (is v) :=
  fun H1 _ Q q => wE_of (pe_var hN hv hd hcd) ⟨v, hs, q v H1 (Ex.refl _) rfl⟩
theorem ev_int {i : Int} {j : Nat} : Ev X (.Constant (.int i) j pos) σ H (is (.int i)) := fun H1 _ Q q => wE_of pe_int (q _ H1 (Ex.refl _) rfl)
theorem ev_str {i : Str} {j : Nat} : Ev X (.Constant (.str i) j pos) σ H (is (.str i)) := fun H1 _ Q q => wE_of pe_str (q _ H1 (Ex.refl _) rfl)
theorem ev_bl {i : Bool} {j : Nat} : Ev X (.Constant (.bool i) j pos) σ H (is (.bl i)) := fun H1 _ Q q => wE_of pe_bl (q _ H1 (Ex.refl _) rfl)
theorem ev_non {j : Nat} : Ev X (.Constant .none j pos) σ H (is .non) := fun H1 _ Q q => wE_of pe_non (q _ H1 (Ex.refl _) rfl)
theorem ev_glob {n : Str} {u : Value} (hm : X.mg n = some u) (r : RelV v u) (hg : Gl X n := by rfl) (hd : (n == ("__debug__" : Str)) = false := by decide) : Ev X (.Name n pos) σ H (is v) := fun H1 _ Q q => wE_of (pe_glob hg hm r hd) (q _ H1 (Ex.refl _) rfl)
theorem ev_globI {n : Str} {i : Int} (hm : ∃ t, X.mg n = some (.int i t)) (hg : Gl X n := by rfl) (hd : (n == ("__debug__" : Str)) = false := by decide) : Ev X (.Name n pos) σ H (is (.int i)) := let ⟨t, h⟩ := hm; ev_glob h ⟨t, rfl⟩ hg hd
theorem ev_globS {n i : Str} (hm : ∃ t, X.mg n = some (.str i t)) (hg : Gl X n := by rfl) (hd : (n == ("__debug__" : Str)) = false := by decide) : Ev X (.Name n pos) σ H (is (.str i)) := let ⟨t, h⟩ := hm; ev_glob h ⟨t, rfl⟩ hg hd
theorem ev_bltn {n : Str} {u : Value} (hm : X.mg n = none) (hv : bootBuiltins n = some u) (r : RelV v u) (hg : Gl X n := by rfl) (hn : n ≠ "__name__" := by decide) (hd : (n == ("__debug__" : Str)) = false := by decide) : Ev X (.Name n pos) σ H (is v) :=
  fun H1 _ Q q => wE_of (pe_bltn hg hm hv r hn hd) (q _ H1 (Ex.refl _) rfl)
theorem RV.val {w : V} (h : ∀ H1, Ex H H1 → ∀ Q : VK, Q w H1 → r x y H1 Q) : RV r x y H (is w) := fun H1 e1 Q q => h H1 e1 Q (q w H1 (Ex.refl _) rfl)
/-- two values, then what is done with both -/
theorem ev_op [Anti R] {op : Operator} (ho : OpR X (binaryOp op) r) (ha : Ev X a σ H (is x)) (hb : Ev X b σ H (is y)) (hr : RV r x y H R) : Ev X (.BinOp a op b pos) σ H R := fun H1 e1 Q q =>
  wE_of (pe_op ho pe_w pe_w) (ha H1 e1 _ fun x' H2 e2 rx => hb H2 (e1.trans e2) _ fun y' H3 e3 ry => by
    cases rx; cases ry
    exact hr H3 ((e1.trans e2).trans e3) Q fun v H4 e4 r4 => q v H4 ((e2.trans e3).trans e4) (Anti.anti H1 H3 v H4 (e2.trans e3) r4))
/-- the same where the operands are new things -/
theorem ev_opG [Anti R] {Ra : RT} {Rb : V → RT} {op : Operator} (ho : OpR X (binaryOp op) r) (ha : Ev X a σ H Ra) (hb : ∀ H1 x H2, Ex H H1 → Ex H1 H2 → Ra H1 x H2 → Ev X b σ H2 (Rb x))
    (hr : ∀ H1 x H2 H3 y H4, Ex H H1 → Ex H1 H2 → Ra H1 x H2 → Ex H2 H3 → Ex H3 H4 → Rb x H3 y H4 → RV r x y H4 R) : Ev X (.BinOp a op b pos) σ H R := fun H1 e1 Q q =>
  wE_of (pe_op ho pe_w pe_w) (ha H1 e1 _ fun x H2 e2 rx => hb H1 x H2 e1 e2 rx H2 (Ex.refl _) _ fun y H3 e3 ry =>
    hr H1 x H2 H2 y H3 e1 e2 rx (Ex.refl _) e3 ry H3 (Ex.refl _) Q fun v H4 e4 r4 => q v H4 ((e2.trans e3).trans e4) (Anti.anti H1 H3 v H4 (e2.trans e3) r4))
theorem rv_I0 {g : Int → Int → V} {i j : Int} : RV (rI0 g) (.int i) (.int j) H (is (g i j)) := RV.val fun _ _ _ q => ⟨i, j, rfl, rfl, q⟩
theorem rv_I {C : Int → Int → Prop} {g : Int → Int → V} {i j : Int} (hc : C i j) : RV (rI C g) (.int i) (.int j) H (is (g i j)) := RV.val fun _ _ _ q => ⟨i, j, rfl, rfl, hc, q⟩
theorem ev_add {i j : Int} (ha : Ev X a σ H (is (.int i))) (hb : Ev X b σ H (is (.int j))) : Ev X (.BinOp a .Add b pos) σ H (is (.int (i + j))) := ev_op op_add ha hb rv_I0
theorem ev_sub {i j : Int} (ha : Ev X a σ H (is (.int i))) (hb : Ev X b σ H (is (.int j))) : Ev X (.BinOp a .Sub b pos) σ H (is (.int (i - j))) := ev_op op_sub ha hb rv_I0
theorem ev_mul {i j : Int} (hc : (-(2 ^ 64) < i ∧ i < 2 ^ 64) ∨ (-(2 ^ 64) < j ∧ j < 2 ^ 64)) (ha : Ev X a σ H (is (.int i))) (hb : Ev X b σ H (is (.int j))) : Ev X (.BinOp a .Mult b pos) σ H (is (.int (i * j))) := ev_op op_mul ha hb (rv_I hc)
theorem ev_fdiv {i j : Int} (hc : CDiv i j) (ha : Ev X a σ H (is (.int i))) (hb : Ev X b σ H (is (.int j))) : Ev X (.BinOp a .FloorDiv b pos) σ H (is (.int (i / j))) := ev_op op_fdiv ha hb (rv_I hc)
theorem ev_mod {i j : Int} (hc : 0 < j) (ha : Ev X a σ H (is (.int i))) (hb : Ev X b σ H (is (.int j))) : Ev X (.BinOp a .Mod b pos) σ H (is (.int (i % j))) := ev_op op_mod ha hb (rv_I hc)
theorem ev_neg {i : Int} (ha : Ev X a σ H (is (.int i))) : Ev X (.UnaryOp .USub a pos) σ H (is (.int (-i))) := fun H1 e1 Q q =>
  wE_of (pe_un un_neg pe_w) (ha H1 e1 _ fun x H2 e2 rx => by cases rx; exact ⟨i, rfl, q _ H2 e2 rfl⟩)
/-- a comparison's value -/
theorem ev_cmp [Anti R] {op : CmpOp} (ho : OpR X (compareOp op) r) (ha : Ev X a σ H (is x)) (hb : Ev X b σ H (is y)) (hr : RV r x y H R) (hm : behindInMarks op b = false := by first | exact nobehind _ (by decide) (by decide) | rfl) : Ev X (.Compare a [op] [b] pos) σ H R := fun H1 e1 Q q =>
  wE_of (pe_cmpR ho pe_w pe_w hm) (ha H1 e1 _ fun x' H2 e2 rx => hb H2 (e1.trans e2) _ fun y' H3 e3 ry => by
    cases rx; cases ry
    exact hr H3 ((e1.trans e2).trans e3) Q fun v H4 e4 r4 => q v H4 ((e2.trans e3).trans e4) (Anti.anti H1 H3 v H4 (e2.trans e3) r4))
theorem ev_lt {i j : Int} (ha : Ev X a σ H (is (.int i))) (hb : Ev X b σ H (is (.int j))) : Ev X (.Compare a [.Lt] [b] pos) σ H (is (.bl (decide (i < j)))) := ev_cmp op_lt ha hb rv_I0
theorem ev_gt {i j : Int} (ha : Ev X a σ H (is (.int i))) (hb : Ev X b σ H (is (.int j))) : Ev X (.Compare a [.Gt] [b] pos) σ H (is (.bl (decide (j < i)))) := ev_cmp op_gt ha hb rv_I0
theorem ev_le {i j : Int} (ha : Ev X a σ H (is (.int i))) (hb : Ev X b σ H (is (.int j))) : Ev X (.Compare a [.LtE] [b] pos) σ H (is (.bl (decide (i ≤ j)))) := ev_cmp op_le ha hb rv_I0
theorem ev_eqS (hs : scal x y = true) (ha : Ev X a σ H (is x)) (hb : Ev X b σ H (is y)) : Ev X (.Compare a [.Eq] [b] pos) σ H (is (.bl (decide (x = y)))) := ev_cmp op_eq ha hb (RV.val fun _ _ _ q => ⟨hs, q⟩)
theorem ev_neS (hs : scal x y = true) (ha : Ev X a σ H (is x)) (hb : Ev X b σ H (is y)) : Ev X (.Compare a [.NotEq] [b] pos) σ H (is (.bl (!decide (x = y)))) := ev_cmp op_ne ha hb (RV.val fun _ _ _ q => ⟨hs, q⟩)
theorem ev_isN {j : Nat} {p2 : Pos} (ha : Ev X a σ H (is x)) : Ev X (.Compare a [.Is] [.Constant .none j p2] pos) σ H (is (.bl (decide (x = .non)))) := fun H1 e1 Q q =>
  wE_of (pe_cmp (pc_isN pe_w)) (ha H1 e1 _ fun x' H2 e2 rx => by cases rx; exact q _ H2 e2 rfl)
theorem ev_notN {j : Nat} {p2 : Pos} (ha : Ev X a σ H (is x)) : Ev X (.Compare a [.IsNot] [.Constant .none j p2] pos) σ H (is (.bl (!decide (x = .non)))) := fun H1 e1 Q q =>
  wE_of (pe_cmp (pc_notN pe_w)) (ha H1 e1 _ fun x' H2 e2 rx => by cases rx; exact q _ H2 e2 rfl)
/-- i <= n <= j, i < n < j -/
theorem ev_chain {op op' : CmpOp} {r' : R2} {w : V} (ho : OpR X (compareOp op) r) (ho' : OpR X (compareOp op') r') (ha : Ev X a σ H (is x)) (hb : Ev X b σ H (is y)) (hc : Ev X c σ H (is w)) (hr : RV r x y H (is (.bl k))) (hr' : RV r' y w H (is (.bl j))) (hm : lastMarks [op, op'] [b, c] = false := by rfl) :
    Ev X (.Compare a [op, op'] [b, c] pos) σ H (is (.bl (k && j))) := fun H1 e1 Q q =>
  wE_of (pe_chain ho ho' pe_w pe_w pe_w hm) (ha H1 e1 _ fun x' H2 e2 rx => hb H2 (e1.trans e2) _ fun y' H3 e3 ry => by
    cases rx; cases ry
    refine hr H3 ((e1.trans e2).trans e3) _ fun v H4 e4 r4 => ?_
    cases r4
    refine ⟨k, rfl, ?_⟩
    cases k with
    | true => exact iteT (hc H4 (((e1.trans e2).trans e3).trans e4) _ fun w' H5 e5 rw' => by
        cases rw'
        exact hr' H5 ((((e1.trans e2).trans e3).trans e4).trans e5) Q fun v H6 e6 r6 => by
          cases r6
          exact q _ H6 ((((e2.trans e3).trans e4).trans e5).trans e6) rfl)
    | false => exact iteF (q _ H4 ((e2.trans e3).trans e4) rfl))
theorem ev_chainLe {i n m : Int} (ha : Ev X a σ H (is (.int i))) (hb : Ev X b σ H (is (.int n))) (hc : Ev X c σ H (is (.int m))) (hm : lastMarks [.LtE, .LtE] [b, c] = false := by rfl) : Ev X (.Compare a [.LtE, .LtE] [b, c] pos) σ H (is (.bl (decide (i ≤ n) && decide (n ≤ m)))) :=
  ev_chain op_le op_le ha hb hc rv_I0 rv_I0 hm
/-! ### tests -/
theorem et_val (h : Ev X e σ H (is (.bl k))) (he : ∀ whole, isTrue e X.env whole = (do let v ← whole; standAt e.pos; holding [v] (truthy v)) := by intro _; rfl) : EvT X e σ H k := fun H1 e1 Q q =>
  wT_of (pt_val pe_w he) (h H1 e1 _ fun x H2 e2 rx => by cases rx; exact ⟨k, rfl, q H2 e2⟩)
theorem et_cmp {op : CmpOp} (ho : OpR X (compareOp op) r) (ha : Ev X a σ H (is x)) (hb : Ev X b σ H (is y)) (hr : RV r x y H (is (.bl k))) (hm : behindInMarks op b = false := by first | exact nobehind _ (by decide) (by decide) | rfl) : EvT X (.Compare a [op] [b] pos) σ H k := fun H1 e1 Q q =>
  wT_of (pt_cmpR ho pe_w pe_w hm) (ha H1 e1 _ fun x' H2 e2 rx => hb H2 (e1.trans e2) _ fun y' H3 e3 ry => by
    cases rx; cases ry
    exact hr H3 ((e1.trans e2).trans e3) _ fun v H4 e4 r4 => by cases r4; exact ⟨k, rfl, q H4 ((e2.trans e3).trans e4)⟩)
theorem et_lt {i j : Int} (ha : Ev X a σ H (is (.int i))) (hb : Ev X b σ H (is (.int j))) : EvT X (.Compare a [.Lt] [b] pos) σ H (decide (i < j)) := et_cmp op_lt ha hb rv_I0
theorem et_gt {i j : Int} (ha : Ev X a σ H (is (.int i))) (hb : Ev X b σ H (is (.int j))) : EvT X (.Compare a [.Gt] [b] pos) σ H (decide (j < i)) := et_cmp op_gt ha hb rv_I0
theorem et_le {i j : Int} (ha : Ev X a σ H (is (.int i))) (hb : Ev X b σ H (is (.int j))) : EvT X (.Compare a [.LtE] [b] pos) σ H (decide (i ≤ j)) := et_cmp op_le ha hb rv_I0
theorem et_eqS (hs : scal x y = true) (ha : Ev X a σ H (is x)) (hb : Ev X b σ H (is y)) : EvT X (.Compare a [.Eq] [b] pos) σ H (decide (x = y)) := et_cmp op_eq ha hb (RV.val fun _ _ _ q => ⟨hs, q⟩)
theorem et_neS (hs : scal x y = true) (ha : Ev X a σ H (is x)) (hb : Ev X b σ H (is y)) : EvT X (.Compare a [.NotEq] [b] pos) σ H (!decide (x = y)) := et_cmp op_ne ha hb (RV.val fun _ _ _ q => ⟨hs, q⟩)
theorem et_isN {j : Nat} {p2 : Pos} (ha : Ev X a σ H (is x)) : EvT X (.Compare a [.Is] [.Constant .none j p2] pos) σ H (decide (x = .non)) := fun H1 e1 Q q =>
  wT_of (pt_cmp (pc_isN pe_w)) (ha H1 e1 _ fun x' H2 e2 rx => by cases rx; exact ⟨_, rfl, q H2 e2⟩)
theorem et_notN {j : Nat} {p2 : Pos} (ha : Ev X a σ H (is x)) : EvT X (.Compare a [.IsNot] [.Constant .none j p2] pos) σ H (!decide (x = .non)) := fun H1 e1 Q q =>
  wT_of (pt_cmp (pc_notN pe_w)) (ha H1 e1 _ fun x' H2 e2 rx => by cases rx; exact ⟨_, rfl, q H2 e2⟩)
theorem et_not (h : EvT X a σ H k) : EvT X (.UnaryOp .Not a pos) σ H (!k) := fun H1 e1 Q q => wT_of (pt_not pt_w) (h H1 e1 _ fun H2 e2 => q H2 e2)
/-- and, or, as tests -/
def EvW (X : Cx) (e : Expr) (σ : L2.St) (H : Hp) (k : Bool) : Prop := ∃ t : TT, PW X e t ∧ ∀ H1, Ex H H1 → ∀ Q : Bool → Hp → Prop, (∀ H2, Ex H1 H2 → Q k H2) → t σ H1 Q
theorem EvW.et (h : EvW X e σ H k) : EvT X e σ H k := by
  obtain ⟨t, p, q⟩ := h
  exact fun H1 e1 Q f => wT_of p.pt (q H1 e1 Q f)
theorem ew_and1 (h : EvT X a σ H k) : EvW X (.BoolOp .And [a] pos) σ H k := ⟨_, pw_and1 pt_w, fun H1 e1 Q q => h H1 e1 Q q⟩
theorem ew_or1 (h : EvT X a σ H k) : EvW X (.BoolOp .Or [a] pos) σ H k := ⟨_, pw_or1 pt_w, fun H1 e1 Q q => h H1 e1 Q q⟩
theorem ew_and {rest : List Expr} (h : EvT X a σ H k) (h2 : k = true → EvW X (.BoolOp .And (b :: rest) pos) σ H j) : EvW X (.BoolOp .And (a :: b :: rest) pos) σ H (k && j) := by
  cases k with
  | true =>
    obtain ⟨t, p, q⟩ := h2 rfl
    exact ⟨_, pw_and pt_w p, fun H1 e1 Q f => h H1 e1 _ fun H2 e2 => iteT (q H2 (e1.trans e2) Q fun H3 e3 => f H3 (e2.trans e3))⟩
  | false => exact ⟨_, pw_and (tB' := fun _ _ _ => False) pt_w ⟨fun _ _ _ _ _ _ _ h => h.elim⟩, fun H1 e1 Q f => h H1 e1 _ fun H2 e2 => iteF (f H2 e2)⟩
theorem ew_or {rest : List Expr} (h : EvT X a σ H k) (h2 : k = false → EvW X (.BoolOp .Or (b :: rest) pos) σ H j) : EvW X (.BoolOp .Or (a :: b :: rest) pos) σ H (k || j) := by
  cases k with
  | false =>
    obtain ⟨t, p, q⟩ := h2 rfl
    exact ⟨_, pw_or pt_w p, fun H1 e1 Q f => h H1 e1 _ fun H2 e2 => iteF (q H2 (e1.trans e2) Q fun H3 e3 => f H3 (e2.trans e3))⟩
  | true => exact ⟨_, pw_or (tB' := fun _ _ _ => False) pt_w ⟨fun _ _ _ _ _ _ _ h => h.elim⟩, fun H1 e1 Q f => h H1 e1 _ fun H2 e2 => iteT (f H2 e2)⟩
/-- and, or, not as values -/
theorem ev_one {op : BoolOp} (h : Ev X a σ H R) : Ev X (.BoolOp op [a] pos) σ H R := fun H1 e1 Q q => wE_of (pe_one pe_w) (h H1 e1 Q q)
theorem ev_and {rest : List Expr} (h : Ev X a σ H (is (.bl k))) (h2 : k = true → Ev X (.BoolOp .And (b :: rest) pos) σ H (is (.bl j))) : Ev X (.BoolOp .And (a :: b :: rest) pos) σ H (is (.bl (k && j))) := fun H1 e1 Q q =>
  wE_of (pe_and pe_w pe_w) (h H1 e1 _ fun x H2 e2 rx => by
    cases rx
    refine ⟨k, rfl, ?_⟩
    cases k with
    | true => exact iteT (h2 rfl H2 (e1.trans e2) Q fun v H3 e3 r3 => q v H3 (e2.trans e3) r3)
    | false => exact iteF (q _ H2 e2 rfl))
theorem ev_or {rest : List Expr} (h : Ev X a σ H (is (.bl k))) (h2 : k = false → Ev X (.BoolOp .Or (b :: rest) pos) σ H (is (.bl j))) : Ev X (.BoolOp .Or (a :: b :: rest) pos) σ H (is (.bl (k || j))) := fun H1 e1 Q q =>
  wE_of (pe_or pe_w pe_w) (h H1 e1 _ fun x H2 e2 rx => by
    cases rx
    refine ⟨k, rfl, ?_⟩
    cases k with
    | false => exact iteF (h2 rfl H2 (e1.trans e2) Q fun v H3 e3 r3 => q v H3 (e2.trans e3) r3)
    | true => exact iteT (q _ H2 e2 rfl))
theorem ev_not (h : Ev X a σ H (is (.bl k))) : Ev X (.UnaryOp .Not a pos) σ H (is (.bl (!k))) := fun H1 e1 Q q =>
  wE_of (pe_not pe_w) (h H1 e1 _ fun x H2 e2 rx => by cases rx; exact ⟨k, rfl, q _ H2 e2 rfl⟩)
theorem ev_ifT [Anti R] (h : EvT X c σ H true) (h1 : Ev X a σ H R) : Ev X (.IfExp c a b pos) σ H R := fun H1 e1 Q q =>
  wE_of (pe_ifExp pt_w pe_w pe_w) (h H1 e1 _ fun H2 e2 => iteT (h1 H2 (e1.trans e2) Q fun v H3 e3 r3 => q v H3 (e2.trans e3) (Anti.anti H1 H2 v H3 e2 r3)))
theorem ev_ifF [Anti R] (h : EvT X c σ H false) (h1 : Ev X b σ H R) : Ev X (.IfExp c a b pos) σ H R := fun H1 e1 Q q =>
  wE_of (pe_ifExp pt_w pe_w pe_w) (h H1 e1 _ fun H2 e2 => iteF (h1 H2 (e1.trans e2) Q fun v H3 e3 r3 => q v H3 (e2.trans e3) (Anti.anti H1 H2 v H3 e2 r3)))
theorem ev_if [Anti R] (h : EvT X c σ H k) (h1 : k = true → Ev X a σ H R) (h2 : k = false → Ev X b σ H R) : Ev X (.IfExp c a b pos) σ H R := by
  cases k with
  | true => exact ev_ifT h (h1 rfl)
  | false => exact ev_ifF h (h2 rfl)
/-! ### arguments -/
theorem ea_nil : EvA X [] σ H [] := fun H1 _ Q q => wA_of pa_nil (q H1 (Ex.refl _))
theorem ea_cons {vs : List V} (h : Ev X e σ H (is x)) (hr : EvA X es σ H vs) (hs : starEach (e :: es) X.env = (false, eval e X.env) :: starEach es X.env := by rfl) : EvA X (e :: es) σ H (x :: vs) := fun H1 e1 Q q =>
  wA_of (pa_cons pe_w pa_w hs) (h H1 e1 _ fun x' H2 e2 rx => by cases rx; exact hr H2 (e1.trans e2) _ fun H3 e3 => q H3 (e2.trans e3))
theorem ea_star {vs xs : List V} {q : Addr} {pos : Pos} (h : Ev X e σ H (is (.ref q))) (hx : SqT X.K H q xs ∨ SqL X.K H q xs) (hr : EvA X es σ H vs) : EvA X (.Starred e pos :: es) σ H (xs ++ vs) := fun H1 e1 Q k =>
  wA_of (StX.pa_star pe_w pa_w) (h H1 e1 _ fun x' H2 e2 rx => by
    cases rx
    exact ⟨q, xs, rfl, hx.imp (fun z => ex_t (e1.trans e2) z) (fun z => ex_l (e1.trans e2) z), hr H2 (e1.trans e2) _ fun H3 e3 => k H3 (e2.trans e3)⟩)
/-- displays -/
theorem ev_tup {vs : List V} {j : Nat} (h : EvA X es σ H vs) (hl : vs.length ≤ 100000) : Ev X (.Tuple es j pos) σ H (newT vs) := fun H1 e1 Q q =>
  wE_of (pe_tup pa_w) (h H1 e1 _ fun H2 e2 => ⟨sz_of hl, fun p hp => q _ _ (e2.trans (Ex.new hp)) ⟨p, rfl, e2.back hp, upd_same⟩⟩)
theorem ev_lst {vs : List V} (h : EvA X es σ H vs) (hl : vs.length ≤ 100000) : Ev X (.List es pos) σ H (newL vs) := fun H1 e1 Q q =>
  wE_of (pe_lst pa_w) (h H1 e1 _ fun H2 e2 => ⟨sz_of hl, fun p hp => q _ _ (e2.trans (Ex.new hp)) ⟨p, rfl, e2.back hp, upd_same⟩⟩)
/-! ### items, fields -/
theorem rv_ixL {p : Addr} {xs : List V} {i : Int} (h : SqL X.K H p xs) (ha : atI xs i = some v) : RV (rIxL X.K) (.ref p) (.int i) H (is v) := RV.val fun _ e1 _ q => ⟨p, xs, i, v, rfl, rfl, ex_l e1 h, ha, q⟩
theorem ev_ix [Anti R] (ho : IxR X r) (ha : Ev X a σ H (is x)) (hb : Ev X b σ H (is y)) (hr : RV r x y H R) (hs : PlainIx b := by exact fun _ _ => rfl) : Ev X (.Subscript a b pos) σ H R := fun H1 e1 Q q =>
  wE_of (pe_ix ho pe_w pe_w hs) (ha H1 e1 _ fun x' H2 e2 rx => hb H2 (e1.trans e2) _ fun y' H3 e3 ry => by
    cases rx; cases ry
    exact hr H3 ((e1.trans e2).trans e3) Q fun v H4 e4 r4 => q v H4 ((e2.trans e3).trans e4) (Anti.anti H1 H3 v H4 (e2.trans e3) r4))
theorem ev_ixL {p : Addr} {xs : List V} {i : Int} (ha : Ev X a σ H (is (.ref p))) (hb : Ev X b σ H (is (.int i))) (h : SqL X.K H p xs) (hi : atI xs i = some v) (hs : PlainIx b := by exact fun _ _ => rfl) : Ev X (.Subscript a b pos) σ H (is v) :=
  ev_ix ix_list ha hb (RV.val fun _ e1 _ q => ⟨p, xs, i, v, rfl, rfl, ex_l e1 h, hi, q⟩) hs
theorem ev_ixT {p : Addr} {xs : List V} {i : Int} (ha : Ev X a σ H (is (.ref p))) (hb : Ev X b σ H (is (.int i))) (h : SqT X.K H p xs) (hi : atI xs i = some v) (hs : PlainIx b := by exact fun _ _ => rfl) : Ev X (.Subscript a b pos) σ H (is v) :=
  ev_ix ix_tup ha hb (RV.val fun _ e1 _ q => ⟨p, xs, i, v, rfl, rfl, ex_t e1 h, hi, q⟩) hs
theorem ev_ixS {w : Str} {i : Int} {ch : Nat} (ha : Ev X a σ H (is (.str w))) (hb : Ev X b σ H (is (.int i))) (h : w.length ≤ 100000) (hi : atI w.cps.toList i = some ch) (hs : PlainIx b := by exact fun _ _ => rfl) : Ev X (.Subscript a b pos) σ H (is (.str ⟨#[ch]⟩)) :=
  ev_ix ix_str ha hb (RV.val fun _ e1 _ q => ⟨w, i, ch, rfl, rfl, sz_of h, hi, q⟩) hs
theorem ev_fld {q C dx : Addr} {fs : List (Str × V)} {f : Str} (ha : Ev X a σ H (is (.ref q))) (h : H q = some (.ins C dx fs)) (c : Cls X.K C) (n : NoAttr X.K C f) (l : fs.lookup f = some v) (hb : attributeBase a f X.env (eval a X.env) = eval a X.env := by rfl) :
    Ev X (.Attribute a f pos) σ H (is v) := fun H1 e1 Q k =>
  wE_of (pe_fld pe_w hb) (ha H1 e1 _ fun x' H2 e2 rx => by cases rx; exact ⟨q, C, dx, fs, v, rfl, (e1.trans e2) _ _ h, c, n, l, k _ H2 e2 rfl⟩)
/-! ### calls -/
theorem ev_callB [Anti R] {n : Str} {id : String} {p : Pos} {vs : List V} {r : List V → Hp → VK → Prop} (hc : CallR X (.builtin id) r) (hm : X.mg n = none) (hv : bootBuiltins n = some (.builtin id)) (ha : EvA X (e :: es) σ H vs)
    (hr : ∀ H1, Ex H H1 → ∀ Q : VK, (∀ v H2, Ex H1 H2 → R H1 v H2 → Q v H2) → r vs H1 Q) (hg : Gl X n := by rfl) (hn : n ≠ "__name__" := by decide) (hdb : (n == ("__debug__" : Str)) = false := by decide)
    (he : starEach (e :: es) X.env = (false, eval e X.env) :: starEach es X.env := by rfl) (hpl : (backTo pos (starEach es X.env)).any (·.1) = false := by rfl) : Ev X (.Call (.Name n p) (e :: es) [] pos) σ H R := fun H1 e1 Q q =>
  wE_of (pe_callB hc hg hm hv pa_w hn hdb he hpl) (ha H1 e1 _ fun H2 e2 => hr H2 (e1.trans e2) Q fun v H3 e3 r3 => q v H3 (e2.trans e3) (Anti.anti H1 H2 v H3 e2 r3))
theorem ev_callTy [Anti R] {n : Str} {id : String} {p : Pos} {vs : List V} {r : List V → Hp → VK → Prop} (hc : CallR X (.type id) r) (hm : X.mg n = none) (hv : bootBuiltins n = some (.type id)) (ha : EvA X (e :: es) σ H vs)
    (hr : ∀ H1, Ex H H1 → ∀ Q : VK, (∀ v H2, Ex H1 H2 → R H1 v H2 → Q v H2) → r vs H1 Q) (hg : Gl X n := by rfl) (hn : n ≠ "__name__" := by decide) (hdb : (n == ("__debug__" : Str)) = false := by decide)
    (he : starEach (e :: es) X.env = (false, eval e X.env) :: starEach es X.env := by rfl) (hpl : (backTo pos (starEach es X.env)).any (·.1) = false := by rfl) : Ev X (.Call (.Name n p) (e :: es) [] pos) σ H R := fun H1 e1 Q q =>
  wE_of (pe_callTy hc hg hm hv pa_w hn hdb he hpl) (ha H1 e1 _ fun H2 e2 => hr H2 (e1.trans e2) Q fun v H3 e3 r3 => q v H3 (e2.trans e3) (Anti.anti H1 H2 v H3 e2 r3))
end
end TS
/-! ## B2 -/
namespace TS
open PySem PySem.Spec PyProof.Rows L2
/-! ### arguments of which some are new -/
def EvG (X : Cx) (es : List Expr) (σ : L2.St) (H : Hp) (R : Hp → List V → Hp → Prop) : Prop := ∀ H1, Ex H H1 → ∀ Q : List V → Hp → Prop, (∀ vs H2, Ex H1 H2 → R H1 vs H2 → Q vs H2) → wA X es σ H1 Q
def consR (R : RT) (T : V → Hp → List V → Hp → Prop) : Hp → List V → Hp → Prop := fun H1 xs H3 => ∃ v r H2, xs = v :: r ∧ Ex H1 H2 ∧ R H1 v H2 ∧ Ex H2 H3 ∧ T v H2 r H3
def nilR : Hp → List V → Hp → Prop := fun _ xs _ => xs = []
section
variable {X : Cx} {a b c e o : Expr} {es : List Expr} {σ : L2.St} {H H' : Hp} {x y z v : V} {R R' : RT} {pos : Pos} {r : R2} {k j : Bool} {D : Ends} {rest sts : List Stmt}
theorem eg_nil : EvG X [] σ H nilR := fun H1 _ Q q => wA_of pa_nil (q _ H1 (Ex.refl _) rfl)
theorem eg_cons {T : V → Hp → List V → Hp → Prop} (h : Ev X e σ H R) (hr : ∀ H1 v H2, Ex H H1 → Ex H1 H2 → R H1 v H2 → EvG X es σ H2 (T v)) (hs : starEach (e :: es) X.env = (false, eval e X.env) :: starEach es X.env := by rfl) : EvG X (e :: es) σ H (consR R T) := fun H1 e1 Q q =>
  wA_of (pa_cons pe_w pa_w hs) (h H1 e1 _ fun v H2 e2 rv => hr H1 v H2 e1 e2 rv H2 (Ex.refl _) _ fun vs H3 e3 rr => q _ H3 (e2.trans e3) ⟨v, vs, H2, rfl, e2, rv, e3, rr⟩)
theorem eg_one (h : Ev X e σ H R) (hs : starEach (e :: []) X.env = (false, eval e X.env) :: starEach [] X.env := by rfl) : EvG X [e] σ H (fun H1 vs H2 => ∃ v, vs = [v] ∧ ∃ Hm, Ex H1 Hm ∧ R H1 v Hm ∧ Hm = H2) := fun H1 e1 Q q =>
  wA_of (pa_cons pe_w pa_nil hs) (h H1 e1 _ fun v H2 e2 rv => q _ H2 e2 ⟨v, rfl, H2, e2, rv, rfl⟩)
theorem EvA.g {vs : List V} (h : EvA X es σ H vs) : EvG X es σ H (fun _ xs _ => xs = vs) := fun H1 e1 Q q => h H1 e1 Q fun H2 e2 => q _ H2 e2 rfl
/-- a tuple of which some items are new -/
def tupR (T : Hp → List V → Hp → Prop) : RT := fun H1 v H3 => ∃ vs H2 p, v = .ref p ∧ Ex H1 H2 ∧ T H1 vs H2 ∧ H2 p = none ∧ H1 p = none ∧ H3 = upd H2 p (.tup vs)
def lstR (T : Hp → List V → Hp → Prop) : RT := fun H1 v H3 => ∃ vs H2 p, v = .ref p ∧ Ex H1 H2 ∧ T H1 vs H2 ∧ H2 p = none ∧ H1 p = none ∧ H3 = upd H2 p (.lst vs)
theorem ev_tupG {T : Hp → List V → Hp → Prop} {j : Nat} (h : EvG X es σ H T) (hl : ∀ H1 vs H2, T H1 vs H2 → vs.length ≤ 100000) : Ev X (.Tuple es j pos) σ H (tupR T) := fun H1 e1 Q q =>
  wE_of (pe_tup pa_w) (h H1 e1 _ fun vs H2 e2 t => ⟨sz_of (hl H1 vs H2 t), fun p hp => q _ _ (e2.trans (Ex.new hp)) ⟨vs, H2, p, rfl, e2, t, hp, e2.back hp, rfl⟩⟩)
theorem ev_lstG {T : Hp → List V → Hp → Prop} (h : EvG X es σ H T) (hl : ∀ H1 vs H2, T H1 vs H2 → vs.length ≤ 100000) : Ev X (.List es pos) σ H (lstR T) := fun H1 e1 Q q =>
  wE_of (pe_lst pa_w) (h H1 e1 _ fun vs H2 e2 t => ⟨sz_of (hl H1 vs H2 t), fun p hp => q _ _ (e2.trans (Ex.new hp)) ⟨vs, H2, p, rfl, e2, t, hp, e2.back hp, rfl⟩⟩)
theorem ev_callBG {T : Hp → List V → Hp → Prop} {n : Str} {id : String} {p : Pos} {r : List V → Hp → VK → Prop} (hc : CallR X (.builtin id) r) (hm : X.mg n = none) (hv : bootBuiltins n = some (.builtin id)) (ha : EvG X (e :: es) σ H T)
    (hr : ∀ H1 vs H2, Ex H H1 → Ex H1 H2 → T H1 vs H2 → ∀ Q : VK, (∀ v H3, Ex H2 H3 → R H1 v H3 → Q v H3) → r vs H2 Q) (hg : Gl X n := by rfl) (hn : n ≠ "__name__" := by decide) (hdb : (n == ("__debug__" : Str)) = false := by decide)
    (he : starEach (e :: es) X.env = (false, eval e X.env) :: starEach es X.env := by rfl) (hpl : (backTo pos (starEach es X.env)).any (·.1) = false := by rfl) : Ev X (.Call (.Name n p) (e :: es) [] pos) σ H R := fun H1 e1 Q q =>
  wE_of (pe_callB hc hg hm hv pa_w hn hdb he hpl) (ha H1 e1 _ fun vs H2 e2 t => hr H1 vs H2 e1 e2 t Q fun v H3 e3 r3 => q v H3 (e2.trans e3) r3)
theorem ev_callTyG {T : Hp → List V → Hp → Prop} {n : Str} {id : String} {p : Pos} {r : List V → Hp → VK → Prop} (hc : CallR X (.type id) r) (hm : X.mg n = none) (hv : bootBuiltins n = some (.type id)) (ha : EvG X (e :: es) σ H T)
    (hr : ∀ H1 vs H2, Ex H H1 → Ex H1 H2 → T H1 vs H2 → ∀ Q : VK, (∀ v H3, Ex H2 H3 → R H1 v H3 → Q v H3) → r vs H2 Q) (hg : Gl X n := by rfl) (hn : n ≠ "__name__" := by decide) (hdb : (n == ("__debug__" : Str)) = false := by decide)
    (he : starEach (e :: es) X.env = (false, eval e X.env) :: starEach es X.env := by rfl) (hpl : (backTo pos (starEach es X.env)).any (·.1) = false := by rfl) : Ev X (.Call (.Name n p) (e :: es) [] pos) σ H R := fun H1 e1 Q q =>
  wE_of (pe_callTy hc hg hm hv pa_w hn hdb he hpl) (ha H1 e1 _ fun vs H2 e2 t => hr H1 vs H2 e1 e2 t Q fun v H3 e3 r3 => q v H3 (e2.trans e3) r3)
/-- own defs -/
theorem ev_callG {T : Hp → List V → Hp → Prop} {n : Str} {p : Pos} {sp : Sp} {kk jj : Nat} (cl : C8.Cal X.prog X.w X.K X.mg X.base kk n sp []) (hr : Room jj X.A) (hk : kk ≤ jj) (ha : EvG X (e :: es) σ H T)
    (h : ∀ H1 vs H2, Ex H H1 → Ex H1 H2 → T H1 vs H2 → ∀ Q : VK, (∀ v H3, Ex H2 H3 → R H1 v H3 → Q v H3) → sp vs H2 Q C8.E0) (hg : Gl X n := by rfl) (hdb : (n == ("__debug__" : Str)) = false := by decide)
    (he : starEach (e :: es) X.env = (false, eval e X.env) :: starEach es X.env := by rfl) (hpl : (backTo pos (starEach es X.env)).any (·.1) = false := by rfl) : Ev X (.Call (.Name n p) (e :: es) [] pos) σ H R := fun H1 e1 Q q =>
  wE_of (C8.pe_c cl hr hk hg pa_w hdb he hpl) (ha H1 e1 _ fun vs H2 e2 t => by
    show sp (vs ++ []) H2 Q C8.E0
    rw [List.append_nil]
    exact h H1 vs H2 e1 e2 t Q fun v H3 e3 r3 => q v H3 (e2.trans e3) r3)
theorem ev_call [Anti R] {n : Str} {p : Pos} {vs : List V} {sp : Sp} {kk jj : Nat} (cl : C8.Cal X.prog X.w X.K X.mg X.base kk n sp []) (hr : Room jj X.A) (hk : kk ≤ jj) (ha : EvA X (e :: es) σ H vs)
    (h : ∀ H1, Ex H H1 → ∀ Q : VK, (∀ v H2, Ex H1 H2 → R H1 v H2 → Q v H2) → sp vs H1 Q C8.E0) (hg : Gl X n := by rfl) (hdb : (n == ("__debug__" : Str)) = false := by decide)
    (he : starEach (e :: es) X.env = (false, eval e X.env) :: starEach es X.env := by rfl) (hpl : (backTo pos (starEach es X.env)).any (·.1) = false := by rfl) : Ev X (.Call (.Name n p) (e :: es) [] pos) σ H R :=
  ev_callG cl hr hk ha.g (fun H1 xs H2 e1 e2 t Q q => by
    subst t
    exact h H2 (e1.trans e2) Q fun v H3 e3 r3 => q v H3 e3 (Anti.anti H1 H2 v H3 e2 r3)) hg hdb he hpl

/-! ### targets -/
def wG (X : Cx) (tg : Expr) : TG := fun v σ H Q => ∀ (pins : List (Addr × Obj)) (s : Shared) (u : Value), Inv X pins σ H s → RelV v u → wpAny (model X.prog X.w) X.A (assign tg X.env u) (fun _ s' => ∃ σ' H', Inv X pins σ' H' s' ∧ Q σ' H') X.xe s
def wGs (X : Cx) (ts : List Expr) : TGs := fun vs σ H Q => ∀ (pins : List (Addr × Obj)) (s : Shared) (us : List Value), Inv X pins σ H s → Vals vs us → wpAny (model X.prog X.w) X.A (assignInOrder ((assignEach ts X.env).map (·.2)) us) (fun _ s' => ∃ σ' H', Inv X pins σ' H' s' ∧ Q σ' H') X.xe s
theorem pg_w {tg : Expr} : PG X tg (wG X tg) := ⟨fun pins s σ H v u Q I r h => h pins s u I r⟩
theorem pgs_w {ts : List Expr} : PGs X ts (wGs X ts) := ⟨fun pins s σ H vs us Q I r h => h pins s us I r⟩
def Tgt (X : Cx) (tg : Expr) (x : V) (σ : L2.St) (H : Hp) (σ2 : L2.St) : Prop := ∀ H1, Ex H H1 → ∀ Q : L2.St → Hp → Prop, Q σ2 H1 → wG X tg x σ H1 Q
def TgtS (X : Cx) (ts : List Expr) (xs : List V) (σ : L2.St) (H : Hp) (σ2 : L2.St) : Prop := ∀ H1, Ex H H1 → ∀ Q : L2.St → Hp → Prop, Q σ2 H1 → wGs X ts xs σ H1 Q
theorem Tgt.mono {tg : Expr} {σ2 : L2.St} (e1 : Ex H H') (h : Tgt X tg x σ H σ2) : Tgt X tg x σ H' σ2 := fun H1 a Q q => h H1 (e1.trans a) Q q
theorem tgt_name (i : Nat) {n : Str} (hN : X.N.Nodup) (hi : X.N[i]? = some n := by rfl) (hx : Loc X.env.scope n := by first | exact Or.inl rfl | exact Or.inr rfl) (hf : X.fn n = true ∨ X.env.scope.names.lookup n = some .local := by first | exact .inl rfl | exact .inr rfl) : Tgt X (.Name n pos) x σ H (σ.set i (some x)) :=
  fun H1 _ Q q pins s u I r => (pg_name hN hi hx hf).run pins s σ H1 x u Q I r q
theorem tgt_tup {ts : List Expr} {q : Addr} {xs : List V} {m n : Nat} {σ2 : L2.St} (hc : X.calm = true) (hq : SqT X.K H q xs) (hl : xs.length = n) (h : TgtS X ts xs σ H σ2) (hn : (assignEach ts X.env).length = n := by rfl) (hst : (assignEach ts X.env).findIdx? (·.1) = none := by rfl) : Tgt X (.Tuple ts m pos) (.ref q) σ H σ2 :=
  fun H1 e1 Q k pins s u I r => (pg_tup hc pgs_w hn hst).run pins s σ H1 _ u Q I r ⟨q, xs, rfl, ex_t e1 hq, hl, h H1 e1 Q k⟩
theorem tgs_nil : TgtS X [] [] σ H σ := fun H1 _ Q q pins s us I r => pgs_nil.run pins s σ H1 [] us Q I r ⟨rfl, q⟩
theorem tgs_cons {t : Expr} {ts : List Expr} {xs : List V} {σ1 σ2 : L2.St} (h : Tgt X t x σ H σ1) (h2 : TgtS X ts xs σ1 H σ2) (hs : (assignEach (t :: ts) X.env).map (·.2) = assign t X.env :: (assignEach ts X.env).map (·.2) := by rfl) : TgtS X (t :: ts) (x :: xs) σ H σ2 :=
  fun H1 e1 Q q pins s us I r => (pgs_cons pg_w pgs_w hs).run pins s σ H1 _ us Q I r ⟨x, xs, rfl, h H1 e1 _ (h2 H1 e1 Q q)⟩

/-! ### statements -/
theorem ws_nil (h : D.nx σ H) : wS X [] D σ H := wS_of pss_nil h
theorem ws_cons {st : Stmt} {t : TS} (p : PS X st t) (h : t { D with nx := wS X rest D } σ H) : wS X (st :: rest) D σ H := wS_of (pss_cons p ps_w) h
theorem ws_set (i : Nat) {n : Str} {p : Pos} (hN : X.N.Nodup) (he : Ev X e σ H R) (k : ∀ v H1, Ex H H1 → R H v H1 → wS X rest D (σ.set i (some v)) H1) (hi : X.N[i]? = some n := by rfl) (hx : Loc X.env.scope n := by first | exact Or.inl rfl | exact Or.inr rfl)
    (hs : swapsWith e (some (.Name n p)) pos.line X.env = pure false := by rfl) (hf : X.fn n = true ∨ X.env.scope.names.lookup n = some .local := by first | exact .inl rfl | exact .inr rfl) : wS X (.Assign [.Name n p] e pos :: rest) D σ H :=
  ws_cons (ps_set hN hi hx pe_w hs hf) (he H (Ex.refl _) _ fun v H1 e1 r1 => k v H1 e1 r1)
theorem ws_asgT {tg : Expr} (he : Ev X e σ H R) (k : ∀ v H1, Ex H H1 → R H v H1 → ∃ σ2, Tgt X tg v σ H1 σ2 ∧ wS X rest D σ2 H1) (hs : swapsWithSole [tg] e pos.line X.env = pure false := by rfl) (hw : swappedStores [tg] e X.env = pure none := by rfl)
    (h1 : (assignEach [tg] X.env).map (·.2) = [assign tg X.env] := by rfl) : wS X (.Assign [tg] e pos :: rest) D σ H :=
  ws_cons (ps_asg pe_w pg_w hs hw h1) (he H (Ex.refl _) _ fun v H1 e1 r1 => by
    obtain ⟨σ2, t, w⟩ := k v H1 e1 r1
    exact t H1 (Ex.refl _) _ w)
theorem ws_ret (he : Ev X e σ H R) (k : ∀ v H1, Ex H H1 → R H v H1 → D.rt v H1) : wS X (.Return (some e) pos :: rest) D σ H :=
  ws_cons (ps_ret pe_w) (he H (Ex.refl _) _ fun v H1 e1 r1 => k v H1 e1 r1)
theorem ws_if {s1 s2 : List Stmt} (hc : EvT X c σ H k) (h1 : k = true → ∀ H1, Ex H H1 → wS X s1 { D with nx := wS X rest D } σ H1) (h2 : k = false → ∀ H1, Ex H H1 → wS X s2 { D with nx := wS X rest D } σ H1) : wS X (.If c s1 s2 pos :: rest) D σ H :=
  ws_cons (ps_if pt_w ps_w ps_w) (hc H (Ex.refl _) _ fun H1 e1 => by
    cases k with
    | true => exact iteT (h1 rfl H1 e1)
    | false => exact iteF (h2 rfl H1 e1))
theorem ws_ifT {s1 s2 : List Stmt} (hc : EvT X c σ H true) (h1 : ∀ H1, Ex H H1 → wS X s1 { D with nx := wS X rest D } σ H1) : wS X (.If c s1 s2 pos :: rest) D σ H := ws_if hc (fun _ => h1) fun h => by cases h
theorem ws_ifF {s1 s2 : List Stmt} (hc : EvT X c σ H false) (h1 : ∀ H1, Ex H H1 → wS X s2 { D with nx := wS X rest D } σ H1) : wS X (.If c s1 s2 pos :: rest) D σ H := ws_if hc (fun h => by cases h) fun _ => h1
theorem ws_append [Anti R] {l : Addr} {xs : List V} {ap cp : Pos} (hl : H l = some (.lst xs)) (hz : xs.length < 100000) (ho : Ev X o σ H (is (.ref l))) (he : Ev X e σ H R) (k : ∀ v H1, Ex H H1 → R H v H1 → wS X rest D σ (upd H1 l (.lst (xs ++ [v]))))
    (h : ∀ {t : TE}, PE X (.Call (.Attribute o "append" ap) [e] [] cp) t → PS X (.Expr (.Call (.Attribute o "append" ap) [e] [] cp) pos) (tDrop t) := by exact fun h => ps_expr h)
    (pb : ∀ {to : TE} {t : TA}, PE X o to → PA X [e] t → PE X (.Call (.Attribute o "append" ap) [e] [] cp) (tBM X.K "list" rAppend to t) := by exact fun h1 h2 => pe_bm PySem.F.plainAttrs_list PySem.F.slot_list_append PySem.F.type_list_append mt_append h1 h2)
    (pa : ∀ {t : TE}, PE X e t → PA X [e] (tCons t tNil) := by exact fun h => pa_cons h pa_nil) : wS X (.Expr (.Call (.Attribute o "append" ap) [e] [] cp) pos :: rest) D σ H :=
  ws_cons (h (pb pe_w (pa pe_w))) (ho H (Ex.refl _) _ fun u H1 e1 ru => by
    cases ru
    refine ⟨.inl ⟨rfl, _, SqL.of (e1 _ _ hl)⟩, he H1 e1 _ fun v H2 e2 rv => ?_⟩
    exact ⟨l, xs, v, rfl, rfl, e2 _ _ (e1 _ _ hl), sz_lt hz, k v H2 (e1.trans e2) (Anti.anti H H1 v H2 e1 rv)⟩)
/-- x, y = a, b -/
theorem ws_parG {T : Hp → List V → Hp → Prop} (i j : Nat) {n m : Str} {px py pt : Pos} {kt k2 : Nat} {pt2 : Pos} (hc : X.calm = true) (hN : X.N.Nodup) (he : EvG X [a, b] σ H T) (k : ∀ vs H1, Ex H H1 → T H vs H1 → ∃ v w, vs = [v, w] ∧ wS X rest D ((σ.set i (some v)).set j (some w)) H1) (hi : X.N[i]? = some n := by rfl) (hj : X.N[j]? = some m := by rfl) (hij : i ≠ j := by decide)
    (hx : X.env.scope.names.lookup n = some .local := by rfl) (hy : X.env.scope.names.lookup m = some .local := by rfl)
    (hw : swappedStores [.Tuple [.Name n px, .Name m py] kt pt] (.Tuple [a, b] k2 pt2) X.env = pure (some [n, m]) := by rfl)
    (hs : swapsWithSole [.Tuple [.Name n px, .Name m py] kt pt] (.Tuple [a, b] k2 pt2) pos.line X.env = pure false := by rfl) : wS X (.Assign [.Tuple [.Name n px, .Name m py] kt pt] (.Tuple [a, b] k2 pt2) pos :: rest) D σ H :=
  ws_cons (ps_par hc hN hi hj hij hx hy pa_w hw hs) (he H (Ex.refl _) _ fun vs H1 e1 t => k vs H1 e1 t)
theorem ws_par (i j : Nat) {v w : V} {n m : Str} {px py pt : Pos} {kt k2 : Nat} {pt2 : Pos} (hc : X.calm = true) (hN : X.N.Nodup) (he : EvA X [a, b] σ H [v, w]) (k : ∀ H1, Ex H H1 → wS X rest D ((σ.set i (some v)).set j (some w)) H1) (hi : X.N[i]? = some n := by rfl) (hj : X.N[j]? = some m := by rfl) (hij : i ≠ j := by decide)
    (hx : X.env.scope.names.lookup n = some .local := by rfl) (hy : X.env.scope.names.lookup m = some .local := by rfl)
    (hw : swappedStores [.Tuple [.Name n px, .Name m py] kt pt] (.Tuple [a, b] k2 pt2) X.env = pure (some [n, m]) := by rfl)
    (hs : swapsWithSole [.Tuple [.Name n px, .Name m py] kt pt] (.Tuple [a, b] k2 pt2) pos.line X.env = pure false := by rfl) : wS X (.Assign [.Tuple [.Name n px, .Name m py] kt pt] (.Tuple [a, b] k2 pt2) pos :: rest) D σ H :=
  ws_parG i j hc hN he.g (fun vs H1 e1 t => ⟨v, w, t, k H1 e1⟩) hi hj hij hx hy hw hs
/-! ### what a for, a comprehension walks -/
def wI (X : Cx) (tg iter : Expr) : TI := fun σ H R => ∀ (pins : List (Addr × Obj)) (s : Shared), Inv X pins σ H s → wpAny (model X.prog X.w) X.A (eval iter X.env) (fun v s1 => wpAny (model X.prog X.w) X.A (pyIter v) (PIE X pins σ tg R) X.xe s1) X.xe s
theorem pi_w {tg iter : Expr} : PI X tg iter (wI X tg iter) := ⟨fun pins s σ H R I h => h pins s I⟩
theorem wI_of {tg iter : Expr} {t : TI} (h : PI X tg iter t) {R : It → Hp → Prop} (q : t σ H R) : wI X tg iter σ H R := fun pins s I => h.run pins s σ H R I q
/-- n turns, the i-th giving what Y says, while G holds (and G holds behind) -/
def Src (X : Cx) (tg iter : Expr) (σ : L2.St) (H : Hp) (n : Nat) (G : Hp → Prop) (Y : Nat → Hp → V → Hp → Prop) : Prop :=
  ∀ H1, Ex H H1 → ∀ R : It → Hp → Prop, (∀ J H2, Ex H1 H2 → G H2 → Walk J n G Y → R J H2) → wI X tg iter σ H1 R
theorem src_list {tg : Expr} {a : Addr} {xs : List V} (h : Ev X e σ H (is (.ref a))) (hx : SqL X.K H a xs) (hf : PI X tg e (iList X.K (wE X e)) := by exact pi_list pe_w) : Src X tg e σ H xs.length (fun H => SqL X.K H a xs) (YAt xs) := fun H1 e1 R k =>
  wI_of hf (h H1 e1 _ fun v H2 e2 rv => by
    cases rv
    exact ⟨a, rfl, ⟨xs, ex_l (e1.trans e2) hx⟩, k _ H2 e2 (ex_l (e1.trans e2) hx) walk_list⟩)
theorem src_tup {tg : Expr} {a : Addr} {xs : List V} (h : Ev X e σ H (is (.ref a))) (hx : SqT X.K H a xs) (hf : PI X tg e (iTup X.K (wE X e)) := by exact pi_tup pe_w) : Src X tg e σ H xs.length (fun H => SqT X.K H a xs) (YAt xs) := fun H1 e1 R k =>
  wI_of hf (h H1 e1 _ fun v H2 e2 rv => by
    cases rv
    exact ⟨a, rfl, ⟨xs, ex_t (e1.trans e2) hx⟩, k _ H2 e2 (ex_t (e1.trans e2) hx) walk_tup⟩)
theorem src_str {tg : Expr} {z : Str} (h : Ev X e σ H (is (.str z))) : Src X tg e σ H z.cps.size (fun _ => True) (fun i H v H' => H' = H ∧ ∃ c, z.cps[i]? = some c ∧ v = .str ⟨#[c]⟩) := fun H1 e1 R k =>
  wI_of (pi_str pe_w) (h H1 e1 _ fun v H2 e2 rv => by
    cases rv
    exact ⟨z, rfl, k _ H2 e2 True.intro walk_str⟩)
theorem src_range1 {tg : Expr} {p : Pos} {n : Int} (h : EvA X [a] σ H [.int n]) (hn : 0 ≤ n ∧ n ≤ 100000) (hm : X.mg "range" = none) (hf : X.mg "range" = none → PI X tg (.Call (.Name "range" p) [a] [] pos) (iRng1 (wA X [a])) := by exact fun hm => pi_range1 rfl hm pa_w) :
    Src X tg (.Call (.Name "range" p) [a] [] pos) σ H n.toNat (fun _ => True) (YFn fun i => .int (i : Nat)) := fun H1 e1 R k =>
  wI_of (hf hm) (h H1 e1 _ fun H2 e2 => ⟨n, rfl, by omega, by omega, k _ H2 e2 True.intro (walk_range.mono (fun _ h => h) fun i H x H' _ _ y => ⟨y.1, by rw [y.2]; show V.int (0 + (i : Int)) = V.int (i : Int); rw [Int.zero_add]⟩)⟩)
theorem src_range2 {tg : Expr} {p : Pos} {m n : Int} (h : EvA X [a, b] σ H [.int m, .int n]) (hn : -100000 ≤ m ∧ m ≤ 100000 ∧ -100000 ≤ n ∧ n ≤ 100000) (hm : X.mg "range" = none) (hf : X.mg "range" = none → PI X tg (.Call (.Name "range" p) [a, b] [] pos) (iRng2 (wA X [a, b])) := by exact fun hm => pi_range2 rfl hm pa_w) :
    Src X tg (.Call (.Name "range" p) [a, b] [] pos) σ H (n - m).toNat (fun _ => True) (YFn fun i => .int (m + (i : Nat))) := fun H1 e1 R k =>
  wI_of (hf hm) (h H1 e1 _ fun H2 e2 => ⟨m, n, rfl, by omega, k _ H2 e2 True.intro walk_range⟩)
/-- range(n - 1, -1, -1) -/
theorem src_down {tg : Expr} {p : Pos} {n : Int} (h : EvA X [a, b, c] σ H [.int (n - 1), .int (-1), .int (-1)]) (hn : 0 ≤ n ∧ n ≤ 100000) (hm : X.mg "range" = none) (hf : X.mg "range" = none → PI X tg (.Call (.Name "range" p) [a, b, c] [] pos) (iRng3 (wA X [a, b, c])) := by exact fun hm => pi_range3 rfl hm pa_w) :
    Src X tg (.Call (.Name "range" p) [a, b, c] [] pos) σ H n.toNat (fun _ => True) (YFn fun i => .int (n - 1 - (i : Nat))) := fun H1 e1 R k =>
  wI_of (hf hm) (h H1 e1 _ fun H2 e2 => ⟨n - 1, -1, -1, n.toNat, rfl, by
    have q := RgC.neg (i := n - 1) (j := -1) (by omega) (by omega) (by omega) (by omega)
    rw [show n - 1 - -1 = n by omega] at q
    exact q, k _ H2 e2 True.intro (walk_rangeC.mono (fun _ h => h) fun i H x H' _ _ y => ⟨y.1, by rw [y.2]; show V.int (n - 1 + (i : Nat) * (-1)) = V.int (n - 1 - (i : Nat)); congr 1; omega⟩)⟩)
theorem src_enum {es : List Expr} {m : Nat} {tp p : Pos} {q : Addr} {xs : List V} (h : EvA X [a] σ H [.ref q]) (hx : SqL X.K H q xs) (hm : X.mg "enumerate" = none) (hf : X.mg "enumerate" = none → PI X (.Tuple es m tp) (.Call (.Name "enumerate" p) [a] [] pos) (iEnum X.K (wA X [a])) := by exact fun hm => pi_enum rfl hm pa_w) :
    Src X (.Tuple es m tp) (.Call (.Name "enumerate" p) [a] [] pos) σ H xs.length (fun H => SqL X.K H q xs) (YPair (fun i => some (.int (i : Nat))) (fun i => xs[i]?)) := fun H1 e1 R k =>
  wI_of (hf hm) (h H1 e1 _ fun H2 e2 => ⟨q, xs, rfl, ex_l (e1.trans e2) hx, k _ H2 e2 (ex_l (e1.trans e2) hx) walk_enum⟩)
/-! ### for -/
theorem ws_for {tg iter : Expr} {body : List Stmt} {n : Nat} {G : Hp → Prop} {Y : Nat → Hp → V → Hp → Prop} (hp : PassesOwn (model X.prog X.w) X.A X.env X.xe) (hc : X.calm = true) (hs : Src X tg iter σ H n G Y) (Pv : Nat → L2.St → Hp → Prop)
    (h0 : ∀ H1, Ex H H1 → G H1 → Pv 0 σ H1) (hG : ∀ i σ' H', i ≤ n → Pv i σ' H' → G H')
    (turn : ∀ i x σ' H' H'', i < n → Pv i σ' H' → Y i H' x H'' → ∃ σ2, Tgt X tg x σ' H'' σ2 ∧ wS X body { D with nx := Pv (i + 1), ct := Pv (i + 1), bk := wS X rest D } σ2 H'')
    (hd : ∀ σ' H', Pv n σ' H' → wS X rest D σ' H') (hfs : ∀ x, foldedSetIterable iter X.env x = pure x := by intro _; rfl) : wS X (.For tg iter body [] pos :: rest) D σ H :=
  ws_cons (ps_for hp hc pi_w pg_w ps_w hfs) (hs H (Ex.refl _) _ fun J H1 e1 g w => for_it w (D := { D with nx := wS X rest D }) Pv (h0 H1 e1 g) hG (fun i x σ' H' H'' hi p y => by
    obtain ⟨σ2, t, q⟩ := turn i x σ' H' H'' hi p y
    exact t H'' (Ex.refl _) _ q) hd)
theorem ws_while {body : List Stmt} (hp : PassesOwn (model X.prog X.w) X.A X.env X.xe) (W : Nat → L2.St → Hp → Prop) (m0 : Nat) (h0 : W m0 σ H)
    (hs : ∀ m σ' H', W m σ' H' → ∃ k, EvT X c σ' H' k ∧ (k = true → ∀ H1, Ex H' H1 → ∃ N : L2.St → Hp → Prop, (∀ σ2 H2, N σ2 H2 → ∃ m', m' < m ∧ W m' σ2 H2) ∧ wS X body { D with nx := N, ct := N, bk := wS X rest D } σ' H1) ∧ (k = false → ∀ H1, Ex H' H1 → wS X rest D σ' H1)) :
    wS X (.While c body [] pos :: rest) D σ H :=
  ws_cons (ps_while hp pt_w ps_w) ⟨W, ⟨m0, h0⟩, fun m σ' H' w => by
    obtain ⟨k, t, h1, h2⟩ := hs m σ' H' w
    refine t H' (Ex.refl _) _ fun H1 e1 => ?_
    cases k with
    | true => exact iteT (h1 rfl H1 e1)
    | false => exact iteF (h2 rfl H1 e1)⟩
/-! ### comprehensions -/
/-- lists, dicts and their like left out: what a thing under construction does not disturb -/
def sturdy : HO → Bool
  | .tup _ => true
  | .ins _ _ _ => true
  | .own _ => true
  | .dT _ => true
  | _ => false
def Sx (H H' : Hp) : Prop := ∀ b o, H b = some o → sturdy o = true → H' b = some o
theorem Sx.refl (H : Hp) : Sx H H := fun _ _ h _ => h
theorem Sx.trans {H H1 H2 : Hp} (a : Sx H H1) (b : Sx H1 H2) : Sx H H2 := fun x o h s => b x o (a x o h s) s
theorem Ex.sx {H H' : Hp} (a : Ex H H') : Sx H H' := fun x o h _ => a x o h
theorem Sx.mutL {H H' : Hp} {p : Addr} {xs ys : List V} (a : Sx H H') (h : H' p = some (.lst xs)) : Sx H (upd H' p (.lst ys)) := fun b o e s => by
  have q := a b o e s
  by_cases hb : b = p
  · subst hb
    rw [h] at q
    cases q
    cases s
  · rw [upd_ne hb]
    exact q
/-- stays while tuples and instances stay -/
def SMono (P : V → Hp → Prop) : Prop := ∀ v H H', Sx H H' → P v H → P v H'
/-- what the turns of a comprehension give: item by item -/
inductive All2 {α β : Type} (F : α → β → Prop) : List α → List β → Prop
  | nil : All2 F [] []
  | cons {a : α} {b : β} {as : List α} {bs : List β} : F a b → All2 F as bs → All2 F (a :: as) (b :: bs)
theorem All2.imp {α β : Type} {F G : α → β → Prop} (h : ∀ a b, F a b → G a b) : ∀ {as : List α} {bs : List β}, All2 F as bs → All2 G as bs
  | _, _, .nil => .nil
  | _, _, .cons a t => .cons (h _ _ a) (All2.imp h t)
theorem All2.impM {α β : Type} {F G : α → β → Prop} : ∀ {as : List α} {bs : List β}, (∀ a ∈ as, ∀ b, F a b → G a b) → All2 F as bs → All2 G as bs
  | _, _, _, .nil => .nil
  | _, _, h, .cons a t => .cons (h _ (List.mem_cons_self ..) _ a) (All2.impM (fun a ha => h a (List.mem_cons_of_mem _ ha)) t)
theorem All2.snoc {α β : Type} {F : α → β → Prop} {a : α} {b : β} (h : F a b) : ∀ {as : List α} {bs : List β}, All2 F as bs → All2 F (as ++ [a]) (bs ++ [b])
  | _, _, .nil => .cons h .nil
  | _, _, .cons x t => .cons x (All2.snoc h t)
theorem All2.len {α β : Type} {F : α → β → Prop} : ∀ {as : List α} {bs : List β}, All2 F as bs → as.length = bs.length
  | _, _, .nil => rfl
  | _, _, .cons _ t => congrArg (· + 1) (All2.len t)
theorem All2.at {α β : Type} {F : α → β → Prop} : ∀ {as : List α} {bs : List β} {i : Nat} {b : β}, All2 F as bs → bs[i]? = some b → ∃ a, as[i]? = some a ∧ F a b
  | _, _, 0, _, .cons x _, e => ⟨_, rfl, by cases e; exact x⟩
  | _, _, i + 1, _, .cons _ t, e => All2.at (i := i) t (by simpa using e)
  | _, _, i, _, .nil, e => by cases i <;> cases e
theorem All2.get {α β : Type} {F : α → β → Prop} : ∀ {as : List α} {bs : List β} {i : Nat} {a : α}, All2 F as bs → as[i]? = some a → ∃ b, bs[i]? = some b ∧ F a b
  | _, _, 0, _, .cons x _, e => ⟨_, rfl, by cases e; exact x⟩
  | _, _, i + 1, _, .cons _ t, e => All2.get (i := i) t (by simpa using e)
  | _, _, i, _, .nil, e => by cases i <;> cases e
theorem All2.app {α β : Type} {F : α → β → Prop} : ∀ {as cs : List α} {bs ds : List β}, All2 F as bs → All2 F cs ds → All2 F (as ++ cs) (bs ++ ds)
  | _, _, _, _, .nil, h => h
  | _, _, _, _, .cons x t, h => .cons x (All2.app t h)
theorem All2.map {α β γ : Type} {F : α → β → Prop} {G : γ → β → Prop} {f : α → γ} (h : ∀ a b, F a b → G (f a) b) : ∀ {as : List α} {bs : List β}, All2 F as bs → All2 G (as.map f) bs
  | _, _, .nil => .nil
  | _, _, .cons x t => .cons (h _ _ x) (All2.map h t)
theorem All2.eqs {α β : Type} {f : α → β} : ∀ {as : List α} {bs : List β}, All2 (fun a b => b = f a) as bs → bs = as.map f
  | _, _, .nil => rfl
  | _, _, .cons x t => by rw [List.map_cons, ← All2.eqs t, x]
/-- a reading's wish, told of any reading -/
def EvTE (t : TE) (σ : L2.St) (H : Hp) (R : RT) : Prop := ∀ H1, Ex H H1 → ∀ Q : VK, (∀ v H2, Ex H1 H2 → R H1 v H2 → Q v H2) → t σ H1 Q
def picked (n : Nat) (f : Nat → Bool) : List Nat := (List.range n).filter f
theorem picked_succ (n : Nat) (f : Nat → Bool) : picked (n + 1) f = picked n f ++ (if f n = true then [n] else []) := by
  unfold picked
  rw [List.range_succ, List.filter_append]
  congr 1
  cases h : f n with
  | true => rw [List.filter_cons, if_pos h]; rfl
  | false => rw [List.filter_cons, if_neg (by rw [h]; decide)]; rfl
theorem picked_len (n : Nat) (f : Nat → Bool) : (picked n f).length ≤ n := by
  have le := List.length_filter_le f (List.range n)
  rw [List.length_range] at le
  exact le
/-- the list that a comprehension makes: of the turns i at which f i, a thing of which P i is so -/
def newC (n : Nat) (f : Nat → Bool) (P : Nat → V → Hp → Prop) : RT := newP fun xs H2 => All2 (fun i v => P i v H2) (picked n f) xs
abbrev BlkE (X : Cx) (scope : Scope) (e : Expr) (σ : L2.St) (H : Hp) (R : RT) : Prop := ∀ (s : Shared) (H0 : Hp) (C : Addr) (cl : List (Str × Addr)) (fp : List Addr), Ev (X.blk s H0 scope (compEnvC scope cl C X.env) fp) e σ H R
abbrev BlkT (X : Cx) (scope : Scope) (e : Expr) (σ : L2.St) (H : Hp) (k : Bool) : Prop := ∀ (s : Shared) (H0 : Hp) (C : Addr) (cl : List (Str × Addr)) (fp : List Addr), EvT (X.blk s H0 scope (compEnvC scope cl C X.env) fp) e σ H k
abbrev BlkG (X : Cx) (scope : Scope) (tg : Expr) (x : V) (σ : L2.St) (H : Hp) (σ2 : L2.St) : Prop := ∀ (s : Shared) (H0 : Hp) (C : Addr) (cl : List (Str × Addr)) (fp : List Addr), Tgt (X.blk s H0 scope (compEnvC scope cl C X.env) fp) tg x σ H σ2
def gBlk (X : Cx) (scope : Scope) (tg : Expr) : TG := fun v σ H Q => ∀ (s : Shared) (H0 : Hp) (C : Addr) (cl : List (Str × Addr)) (fp : List Addr), wG (X.blk s H0 scope (compEnvC scope cl C X.env) fp) tg v σ H Q
def tBlk (X : Cx) (scope : Scope) (e : Expr) : TT := fun σ H Q => ∀ (s : Shared) (H0 : Hp) (C : Addr) (cl : List (Str × Addr)) (fp : List Addr), wT (X.blk s H0 scope (compEnvC scope cl C X.env) fp) e σ H Q
def eBlk (X : Cx) (scope : Scope) (e : Expr) : TE := fun σ H Q => ∀ (s : Shared) (H0 : Hp) (C : Addr) (cl : List (Str × Addr)) (fp : List Addr), wE (X.blk s H0 scope (compEnvC scope cl C X.env) fp) e σ H Q
/-- one turn: the slots behind the target, whether the item is taken, what it is -/
def CTurn (X : Cx) (scope : Scope) (tg elt : Expr) (tst : Option Expr) (vs : List Nat) (σ : L2.St) (x : V) (H : Hp) (k : Bool) (P : V → Hp → Prop) : Prop :=
  ∃ σ2, BlkG X scope tg x (wipe σ vs) H σ2 ∧ wipe σ2 vs = wipe σ vs ∧ (match tst with
    | none => k = true
    | some c => BlkT X scope c σ2 H k) ∧ (k = true → BlkE X scope elt σ2 H (fits P))
def tTst (X : Cx) (scope : Scope) : Option Expr → TT
  | none => tYes
  | some c => tBlk X scope c
theorem comp_core {tg iter elt : Expr} {tst : Option Expr} {scope : Scope} {vs : List Nat} {n : Nat} {G : Hp → Prop} {Y : Nat → Hp → V → Hp → Prop} (hs : Src X tg iter σ H n G Y) (hn : n ≤ 90000) (hG : ∀ H H', Ex H H' → G H → G H') (f : Nat → Bool) (P : Nat → V → Hp → Prop) (hP : ∀ i, SMono (P i))
    (hY : ∀ i H x H', Y i H x H' → Ex H H')
    (turn : ∀ i x Ha Hb, i < n → Ex H Ha → G Ha → Y i Ha x Hb → CTurn X scope tg elt tst vs σ x Hb (f i) (P i)) :
    EvTE (tLc (wI X tg iter) (gBlk X scope tg) (tTst X scope tst) (eBlk X scope elt) vs) σ H (newC n f P) := fun H1 e1 Q q => hs H1 e1 _ fun J H2 e2 g w Dl hD => by
  refine lc_it w (fun i H' => Ex H2 H' ∧ ∃ acc, H' Dl = some (.lst acc) ∧ All2 (fun i v => P i v H') (picked i f) acc) ⟨Ex.new hD, [], upd_same, .nil⟩ (fun i H' _ p => hG _ _ p.1 g) (fun i x Ha Hb hi p y => ?_) fun H' p => ?_
  · obtain ⟨pe, acc, pd, pa⟩ := p
    have eb := hY i Ha x Hb y
    obtain ⟨σ2, tG, tw, tT, tE⟩ := turn i x Ha Hb hi ((e1.trans e2).trans pe) (hG _ _ pe g) y
    intro s H0 C cl fp
    refine tG s H0 C cl fp Hb (Ex.refl _) _ ⟨tw, ?_⟩
    have stop : ∀ H3, Ex Hb H3 → f i = false → Ex H2 H3 ∧ ∃ acc, H3 Dl = some (.lst acc) ∧ All2 (fun i v => P i v H3) (picked (i + 1) f) acc := fun H3 e3 hf => by
      refine ⟨(pe.trans eb).trans e3, acc, e3 _ _ (eb _ _ pd), ?_⟩
      rw [picked_succ, hf]
      show All2 _ (picked i f ++ []) acc
      rw [List.append_nil]
      exact pa.imp fun j v z => hP j v _ _ (eb.trans e3).sx z
    have go : ∀ H3, Ex Hb H3 → f i = true → eBlk X scope elt σ2 H3 fun y H4 => ∃ acc, H4 Dl = some (.lst acc) ∧ acc.length < sizeLine ∧ (Ex H2 (upd H4 Dl (.lst (acc ++ [y]))) ∧ ∃ acc', upd H4 Dl (.lst (acc ++ [y])) Dl = some (.lst acc') ∧ All2 (fun i v => P i v (upd H4 Dl (.lst (acc ++ [y])))) (picked (i + 1) f) acc') := fun H3 e3 hf s H0 C cl fp => by
      refine tE hf s H0 C cl fp H3 e3 _ fun v H4 e4 pv => ?_
      have d4 : H4 Dl = some (.lst acc) := e4 _ _ (e3 _ _ (eb _ _ pd))
      have x4 : Sx H4 (upd H4 Dl (.lst (acc ++ [v]))) := (Sx.refl H4).mutL d4
      refine ⟨acc, d4, ?_, ((((pe.trans eb).trans e3).trans e4)).mut hD, acc ++ [v], upd_same, ?_⟩
      · have h1 := pa.len
        have h2 := picked_len i f
        exact sz_lt (by omega)
      · rw [picked_succ, hf]
        exact All2.snoc (F := fun j u => P j u (upd H4 Dl (HO.lst (acc ++ [v])))) (hP i v _ _ x4 pv) (pa.imp fun j u z => hP j u _ _ ((eb.trans (e3.trans e4)).sx.trans x4) z)
    cases tst with
    | none =>
      have hf : f i = true := tT
      simp only [tTst, tYes, if_true]
      exact go Hb (Ex.refl _) hf
    | some cnd =>
      intro s H0 C cl fp
      refine tT s H0 C cl fp Hb (Ex.refl _) _ fun H3 e3 => ?_
      cases hf : f i with
      | true => exact iteT (go H3 e3 hf)
      | false => exact iteF (stop H3 e3 hf)
  · obtain ⟨pe, acc, pd, pa⟩ := p
    exact q _ _ (e2.trans pe) ⟨Dl, acc, rfl, e2.back hD, pd, pa⟩
theorem pts_w {scope : Scope} {tst : Option Expr} : ∀ (s : Shared) (H : Hp) (C : Addr) (cl : List (Str × Addr)) (fp : List Addr), PTs (X.blk s H scope (compEnvC scope cl C X.env) fp) (match tst with | none => [] | some c => [c]) (tTst X scope tst) := by
  intro s H C cl fp
  cases tst with
  | none => exact pts_nil
  | some c => exact pts_one ⟨fun pins s' σ H' Q I h => h s H C cl fp pins s' I⟩
/-- [elt for tg in iter], [elt for tg in iter if c] -/
theorem ev_comp {tg iter elt : Expr} {scope : Scope} {n : Nat} {G : Hp → Prop} {Y : Nat → Hp → V → Hp → Prop} (own : List (Str × Nat)) (hc : X.calm = true) (hN : X.N.Nodup) (ok : BlkOk X.N X.env.scope scope own) (hs : Src X tg iter σ H n G Y) (hn : n ≤ 90000) (hG : ∀ H H', Ex H H' → G H → G H') (P : Nat → V → Hp → Prop) (hP : ∀ i, SMono (P i))
    (hY : ∀ i H x H', Y i H x H' → Ex H H') (turn : ∀ i x Ha Hb, i < n → Ex H Ha → G Ha → Y i Ha x Hb → CTurn X scope tg elt none (own.map (·.2)) σ x Hb true (P i)) (hfs : ∀ x, foldedSetIterable iter X.env x = pure x := by intro _; rfl) :
    Ev X (.ListComp elt [⟨tg, iter, [], 0⟩] scope pos) σ H (newC n (fun _ => true) P) := fun H1 e1 Q q =>
  wE_of (pe_lc (own := own) hc hN pi_w ok (fun s H C cl fp => ⟨fun pins s' σ H' v u Q I r h => h s H C cl fp pins s' u I r⟩) (pts_w (tst := none)) (fun s H C cl fp => ⟨fun pins s' σ H' Q I h => h s H C cl fp pins s' I⟩) hfs)
    (comp_core (tst := none) hs hn hG (fun _ => true) P hP hY turn H1 e1 Q q)
theorem ev_compIf {tg iter elt cnd : Expr} {scope : Scope} {n : Nat} {G : Hp → Prop} {Y : Nat → Hp → V → Hp → Prop} (own : List (Str × Nat)) (hc : X.calm = true) (hN : X.N.Nodup) (ok : BlkOk X.N X.env.scope scope own) (hs : Src X tg iter σ H n G Y) (hn : n ≤ 90000) (hG : ∀ H H', Ex H H' → G H → G H') (f : Nat → Bool) (P : Nat → V → Hp → Prop) (hP : ∀ i, SMono (P i))
    (hY : ∀ i H x H', Y i H x H' → Ex H H') (turn : ∀ i x Ha Hb, i < n → Ex H Ha → G Ha → Y i Ha x Hb → CTurn X scope tg elt (some cnd) (own.map (·.2)) σ x Hb (f i) (P i)) (hfs : ∀ x, foldedSetIterable iter X.env x = pure x := by intro _; rfl) :
    Ev X (.ListComp elt [⟨tg, iter, [cnd], 0⟩] scope pos) σ H (newC n f P) := fun H1 e1 Q q =>
  wE_of (pe_lc (own := own) hc hN pi_w ok (fun s H C cl fp => ⟨fun pins s' σ H' v u Q I r h => h s H C cl fp pins s' u I r⟩) (pts_w (tst := some cnd)) (fun s H C cl fp => ⟨fun pins s' σ H' Q I h => h s H C cl fp pins s' I⟩) hfs)
    (comp_core (tst := some cnd) hs hn hG f P hP hY turn H1 e1 Q q)
/-- name = [..] -/
theorem ws_comp {tg iter elt : Expr} {scope : Scope} {n : Nat} {G : Hp → Prop} {Y : Nat → Hp → V → Hp → Prop} {y : Str} {py : Pos} (i : Nat) (own : List (Str × Nat)) (hc : X.calm = true) (hN : X.N.Nodup) (ok : BlkOk X.N X.env.scope scope own) (hs : Src X tg iter σ H n G Y) (hn : n ≤ 90000) (hG : ∀ H H', Ex H H' → G H → G H') (P : Nat → V → Hp → Prop) (hP : ∀ i, SMono (P i))
    (hY : ∀ i H x H', Y i H x H' → Ex H H') (turn : ∀ i x Ha Hb, i < n → Ex H Ha → G Ha → Y i Ha x Hb → CTurn X scope tg elt none (own.map (·.2)) σ x Hb true (P i)) (k : ∀ v H1, Ex H H1 → newC n (fun _ => true) P H v H1 → wS X rest D (σ.set i (some v)) H1)
    (hset : ∀ {wi : TI} {g : TG} {tt : TT} {te : TE}, PI X tg iter wi → (∀ (s : Shared) (H : Hp) (C : Addr) (cl : List (Str × Addr)) (fp : List Addr), PG (X.blk s H scope (compEnvC scope cl C X.env) fp) tg g) → (∀ (s : Shared) (H : Hp) (C : Addr) (cl : List (Str × Addr)) (fp : List Addr), PTs (X.blk s H scope (compEnvC scope cl C X.env) fp) [] tt) →
      (∀ (s : Shared) (H : Hp) (C : Addr) (cl : List (Str × Addr)) (fp : List Addr), PE (X.blk s H scope (compEnvC scope cl C X.env) fp) elt te) → PS X (.Assign [.Name y py] (.ListComp elt [⟨tg, iter, [], 0⟩] scope pos) pos) (tAsg (tLc wi g tt te (own.map (·.2))) (gName i))) :
    wS X (.Assign [.Name y py] (.ListComp elt [⟨tg, iter, [], 0⟩] scope pos) pos :: rest) D σ H :=
  ws_cons (hset pi_w (fun s H C cl fp => ⟨fun pins s' σ H' v u Q I r h => h s H C cl fp pins s' u I r⟩) (pts_w (tst := none)) (fun s H C cl fp => ⟨fun pins s' σ H' Q I h => h s H C cl fp pins s' I⟩))
    (comp_core (tst := none) hs hn hG (fun _ => true) P hP hY turn H (Ex.refl _) _ fun v H1 e1 r1 => k v H1 e1 r1)
theorem hG_true : ∀ H H' : Hp, Ex H H' → (fun _ : Hp => True) H → (fun _ : Hp => True) H' := fun _ _ _ h => h
theorem hG_l {K : PySem.W.Frag} {q : Addr} {xs : List V} : ∀ H H' : Hp, Ex H H' → (fun H => SqL K H q xs) H → (fun H => SqL K H q xs) H' := fun _ _ e h => ex_l e h
theorem hG_t {K : PySem.W.Frag} {q : Addr} {xs : List V} : ∀ H H' : Hp, Ex H H' → (fun H => SqT K H q xs) H → (fun H => SqT K H q xs) H' := fun _ _ e h => ex_t e h
theorem hY_at {xs : List V} : ∀ (i : Nat) (H : Hp) (x : V) (H' : Hp), YAt xs i H x H' → Ex H H' := fun _ _ _ _ y => by rw [y.1]; exact Ex.refl _
theorem hY_fn {f : Nat → V} : ∀ (i : Nat) (H : Hp) (x : V) (H' : Hp), YFn f i H x H' → Ex H H' := fun _ _ _ _ y => by rw [y.1]; exact Ex.refl _
theorem hY_pair {f g : Nat → Option V} : ∀ (i : Nat) (H : Hp) (x : V) (H' : Hp), YPair f g i H x H' → Ex H H' := fun _ _ _ _ ⟨T, _, _, _, h, e, _, _⟩ => by rw [e]; exact Ex.new h
end
/-! ### a def of the text -/
section
variable {P : Program} {w : World} {K : PySem.W.Frag} {mg : Str → Option Value} {base : Heap}
/-- the def st stands under its name, its parameters ps, no defaults -/
structure DefN (K : PySem.W.Frag) (mg : Str → Option Value) (x : Str) (st : Stmt) (ps : List Str) : Prop where
  ex : ∃ (f : Addr) (fd : FuncData), FunD K x x (defArgs st) (defBody st) (defScope st) [] [] f fd ∧ mg x = some (.ref f) ∧ Binds K fd ps []
/-- the context of a def's body -/
abbrev cxD (P : Program) (w : World) (K : PySem.W.Frag) (mg : Str → Option Value) (base : Heap) (N : List Str) (q : Str) (st : Stmt) (f : Addr) (cdv : Value) (A : Around) (outer : List Env) (s : Shared) (H : Hp) (E : XK) : Cx :=
  (cxOf C8.CX0 P w K mg base N q (defScope st) f cdv A outer s H E).nox
theorem cal_mk {x : Str} {st : Stmt} {N ps : List Str} {k : Nat} {sp : Sp} (F : DefN K mg x st ps) (S : FnScope N ps (defScope st)) (len : ∀ vs H Q E, sp vs H Q E → vs.length = ps.length)
    (hbody : ∀ (f : Addr) (cdv : Value) (A : Around) (outer : List Env) (s : Shared) (H : Hp) (vs : List V) (Q : VK) (E : XK), Room k (A.deeper (envOfC x (defScope st) s.heap.objs.size f cdv)) → sp vs H Q E →
      wS (cxD P w K mg base N x st f cdv A outer s H E) (defBody st) { nx := fun _ H' => Q .non H', rt := Q } (start N vs) H) : C8.Cal P w K mg base (k + 1) x sp [] := by
  obtain ⟨f, fd, F, hm, hb⟩ := F.ex
  exact ⟨f, fd, ps, [], F.ok S len fun cdv A outer s H vs Q E hr h => ⟨_, (ps_w (X := cxD P w K mg base N x st f cdv A outer s H E)).nox, hbody f cdv A outer s H vs Q E hr h⟩, hm, F.kp, hb, .nil⟩
end
end TS
/-! ## B3 -/
namespace TS
open PySem PySem.Spec PyProof.Rows L2
/-! ### enumerate(a tuple) -/
theorem enumT_new (t : Addr) (items : Array Value) :
    Meets (Builtin.«enumerate.__new__» ⟨[.type "enumerate", .ref t], []⟩) (fun _ R s => s.heap.IsTuple t items ∧ R (.ok (.ret (.ref (s.heap.objs.size + 1))))
      { s with heap := (s.heap.push { cls := .type "tuple_iterator", data := .fields #[.ref t, .int 0 0] }).push { cls := .type "enumerate", data := .fields #[.none, .bool false, .ref s.heap.objs.size, rawInt 0, .none, .none] } }) :=
  .of_wp fun prog w A R s hh => by
    rcases s with ⟨hp, g, d, tk, os⟩
    have ht := hh.1
    have hh := hh.2
    have sb := sub_enumerate
    have hz : (hp.push { cls := .type "tuple_iterator", data := .fields #[.ref t, .int 0 0] }).objs.size = hp.objs.size + 1 := Heap.size_push ..
    have it : ∀ {A' : Around} {E : Value → Shared → Prop} {Q : Value → Shared → Prop}, Q (.ref hp.objs.size) ⟨hp.push { cls := .type "tuple_iterator", data := .fields #[.ref t, .int 0 0] }, g, d, tk, os⟩ → wpAny (model prog w) A' (pyIter (.ref t)) Q E ⟨hp, g, d, tk, os⟩ :=
      fun q => wpAny_pyIter_tuple ht q
    have fin : R (.ok (.ret (.ref (hp.push { cls := .type "tuple_iterator", data := .fields #[.ref t, .int 0 0] }).objs.size))) ⟨(hp.push { cls := .type "tuple_iterator", data := .fields #[.ref t, .int 0 0] }).push { cls := .type "enumerate", data := .fields #[.none, .bool false, .ref hp.objs.size, rawInt 0, .none, .none] }, g, d, tk, os⟩ := by
      rw [hz]
      exact hh
    obtain ⟨ot, hot, hct, nt, hdt⟩ := id ht
    have ld : ∀ {A' : Around} {E : Value → Shared → Prop} {Q : Obj → Shared → Prop}, Q ot ⟨hp, g, d, tk, os⟩ → wpAny (model prog w) A' (load t) Q E ⟨hp, g, d, tk, os⟩ := fun q => wpAny_load hot q
    wp_walk using it, ld
    refine wpAny_stack_any fun stk => wpAny_pure ?_
    split
    case h_1 c _ _ _ _ _ => cases (c == Value.type "enumerate") <;> (wp_walk using it, ld; exact ⟨_, rfl, fin⟩)
    all_goals (wp_walk using it, ld; exact ⟨_, rfl, fin⟩)

theorem enumT_call {prog : Program} {w : World} {A : Around} {E : Value → Shared → Prop} {s : Shared} {t : Addr} {items : Array Value} {Q : Value → Shared → Prop} (ht : s.heap.IsTuple t items)
    (k : ∀ h', IsEnum h' (s.heap.objs.size + 1) s.heap.objs.size 0 .none → h'.IsTupleIter s.heap.objs.size t 0 → (∀ b o, s.heap.get? b = some o → h'.get? b = some o) → Q (.ref (s.heap.objs.size + 1)) { s with heap := h' }) :
    wpAny (model prog w) A (call (.type "enumerate") [.ref t]) Q E s := by
  have hz : (s.heap.push { cls := .type "tuple_iterator", data := .fields #[.ref t, .int 0 0] }).objs.size = s.heap.objs.size + 1 := Heap.size_push ..
  have he := Heap.get?_push_size (s.heap.push { cls := .type "tuple_iterator", data := .fields #[.ref t, .int 0 0] }) (o := { cls := .type "enumerate", data := .fields #[.none, .bool false, .ref s.heap.objs.size, rawInt 0, .none, .none] }) rfl
  rw [hz] at he
  refine callType_new F.called_enumerate (by decide) (F.typeCall_enumerate_1 _) (F.newCall_enumerate_1 _) (fun obj => F.args_object_init_2 obj _) F.entry_enumerate_new (enumT_new t items) ⟨ht, ⟨_, he, rfl⟩, ?_⟩
  exact k _ he ⟨_, Heap.get?_push_of_some _ (Heap.get?_push_size _ rfl), rfl, rfl⟩ fun b o x => Heap.get?_push_of_some _ (Heap.get?_push_of_some _ x)
/-- the tuple at a, its items in new pairs with their places -/
def ItEn (K : PySem.W.Frag) (a : Addr) : It :=
  ⟨fun i H => ∃ (xs : List V) (x : V), SqT K H a xs ∧ xs[i]? = some x, fun i H v H' => ∃ T x, v = .ref T ∧ H T = none ∧ H' = upd H T (.tup [.int (i : Nat), x]) ∧ ∀ xs, SqT K H a xs → xs[i]? = some x, fun i H => ∃ xs : List V, SqT K H a xs ∧ xs.length = i⟩
theorem turn_en {P : Program} {w : World} {K : PySem.W.Frag} {elts : List Expr} {kk : Nat} {tpos : Pos} (a e it : Addr) (hea : e ≠ a) (hia : a ≠ it) :
    Turn P w K (.Tuple elts kk tpos) (ItEn K a) [e, it] e (fun i h => (∃ old, IsEnum h e it ((i : Nat) : Int) old) ∧ h.IsTupleIter it a i ∧ e ≠ it) where
  mem := List.mem_cons_self ..
  obj := fun i h st b hb => by
    obtain ⟨⟨_, he⟩, ⟨o, ho, _, hd⟩, _⟩ := st
    rcases (List.mem_cons).mp hb with z | z
    · subst z
      exact ⟨_, he, fun v q => nomatch q⟩
    · obtain rfl := List.mem_singleton.mp z
      exact ⟨o, ho, fun v q => by rw [hd] at q; cases q⟩
  keep := fun i h h' ⟨⟨old, he⟩, ⟨o, ho, r⟩, hne⟩ k => ⟨⟨old, k e (List.mem_cons_self ..) _ he⟩, ⟨o, k it (List.mem_cons_of_mem _ (List.mem_cons_self ..)) _ ho, r⟩, hne⟩
  item := by
    rintro X rfl rfl rfl hc i pins s σ H E I hf ⟨⟨old, he⟩, hit, hne⟩ ⟨xs, x, hq, hx⟩
    obtain ⟨its, rv, p, _⟩ := I.tuple hq
    obtain ⟨u, hu, r1⟩ := rv.get hx
    have lt_e : e < s.heap.objs.size := Heap.lt_size he
    have lt_i : it < s.heap.objs.size := let ⟨_, q, _⟩ := hit; Heap.lt_size q
    have hlt : i < its.toArray.size := by
      have := (List.getElem?_eq_some_iff.mp hu).1
      simpa using this
    have Dr := Draws.tuple (prog := X.prog) (w := X.w) (A := X.A.in1) (I.ok.hd hc) it a hia its.toArray
    refine wpAny_pyNext_enum_itemD Dr he ⟨hit, p⟩ hlt hne (by simp [hne, hea]) fun y h1 tk hy ho hst hT hsz hk => ?_
    obtain rfl : y = u := by
      have q : its.toArray[i]? = some u := by simpa using hu
      rw [q] at hy
      exact (Option.some.inj hy).symm
    refine ⟨_, rfl, wpAny_letOwnedTupleGo_enum (s := { s with heap := h1, toks := tk + 1 }) ho fun h2 he2 sb => ?_⟩
    have other : ∀ b, b ≠ e → h2.get? b = h1.get? b := sb.2
    have nT : s.heap.objs.size ≠ e := Nat.ne_of_gt lt_e
    have hT2 := (other _ nT).trans hT
    have obT : ObjOk X.prog X.w (upd H s.heap.objs.size (.tup [.int (i : Nat), x])) h2 s.heap.objs.size (.tup [.int (i : Nat), x]) :=
      ⟨show 2 ≤ sizeLine by decide, [.int i tk, y], .cons ⟨_, rfl⟩ (.cons r1 .nil), ⟨_, hT2, rfl, _, rfl⟩⟩
    have kp : ∀ b o, b ∉ [e, it] → s.heap.get? b = some o → h2.get? b = some o := fun b o hb q => by
      have n1 : b ≠ e := fun z => hb (by simp [z])
      have n2 : b ≠ it := fun z => hb (by simp [z])
      rw [other b n1]
      exact hk b o n1 n2 q
    have I2 : Inv X pins σ (upd H s.heap.objs.size (.tup [.int (i : Nat), x])) { s with heap := h2, toks := tk + 1 } := I.turnedNew (ch := [e, it]) kp hf (Nat.le_refl _) obT
    obtain ⟨oi, hoi, ri⟩ := hst.1
    refine ⟨.ref s.heap.objs.size, _, I2, rfl, ⟨_, x, rfl, I.hok.fresh (Nat.le_refl _), rfl, fun ys hy => by rw [I.tuple_inj hy hq]; exact hx⟩, ⟨⟨y, he2⟩, ⟨oi, (other it (Ne.symm hne)).trans hoi, ri⟩, hne⟩, fun b hb => ?_⟩
    have lb : b < s.heap.objs.size := by
      rcases (List.mem_cons).mp hb with z | z
      · rw [z]; exact lt_e
      · rw [List.mem_singleton.mp z]; exact lt_i
    rw [upd_ne (Nat.ne_of_lt lb)]
    exact (hf b hb).1
  done := by
    rintro X rfl rfl rfl hc i pins s σ H E I hf ⟨⟨old, he⟩, hit, hne⟩ ⟨xs, hq, hx⟩
    obtain ⟨its, rv, p, _⟩ := I.tuple hq
    obtain ⟨f0, f1, f2, f3, f4, f5⟩ := hf it (List.mem_cons_of_mem _ (List.mem_cons_self ..))
    have Dr := Draws.tuple (prog := X.prog) (w := X.w) (A := X.A.in1) (I.ok.hd hc) it a hia its.toArray
    have hi : i = its.toArray.size := by
      have := rv.length
      simp
      omega
    subst hi
    exact wpAny_pyNext_enum_endD Dr he ⟨hit, p⟩ fun h1 eb => ⟨rfl, I.turned (t' := s.toks) (fun b o hb q => eb b o hb q) f0 f1 f3 f4 f5⟩
  self := fun _ _ _ _ _ ⟨⟨_, he⟩, _⟩ h => wpAny_pyIter_enum he h
def iEn (K : PySem.W.Frag) (ta : TA) : TI := fun σ H R => ta σ H fun vs H1 => ∃ a xs, vs = [.ref a] ∧ SqT K H1 a xs ∧ R (ItEn K a) H1
theorem pi_en {X : Cx} {e : Expr} {ta : TA} {p pos tpos : Pos} {elts : List Expr} {kk : Nat} (hg : Gl X "enumerate") (hm : X.mg "enumerate" = none) (ha : PA X [e] ta) (hs : starEach [e] X.env = [(false, eval e X.env)] := by rfl) :
    PI X (.Tuple elts kk tpos) (.Call (.Name "enumerate" p) [e] [] pos) (iEn X.K ta) := by
  refine ⟨fun pins s σ H R I h => Call_ (ld_blt I hg hm boot_enumerate (PyProof.Rows.callWith_type1 (thn (ha.run pos pins s σ H _ I h) fun us s1 q => ?_) hs rfl))⟩
  obtain ⟨vs, H1, I1, r1, a, xs, rfl, hq, q⟩ := q
  obtain ⟨u, rfl, rx⟩ := vals1 r1
  cases rx
  obtain ⟨its, rv, p', hz⟩ := I1.tuple hq
  have la : a < s1.heap.objs.size := p'.lt
  refine enumT_call p' fun h' he hit hk => wpAny_pyIter_enum he ?_
  refine ⟨s1.heap.objs.size + 1, [s1.heap.objs.size + 1, s1.heap.objs.size], _, _, H1, rfl, I1.kept (t' := s1.toks) hk, turn_en a (s1.heap.objs.size + 1) s1.heap.objs.size (Nat.ne_of_gt (Nat.lt_succ_of_lt la)) (Nat.ne_of_lt la), ⟨⟨.none, he⟩, hit, Nat.succ_ne_self _⟩, fun b hb => ?_, q⟩
  have le : s1.heap.objs.size ≤ b := by
    rcases (List.mem_cons).mp hb with z | z
    · exact z ▸ Nat.le_succ _
    · exact Nat.le_of_eq (List.mem_singleton.mp z).symm
  exact I1.fpOk le (I1.hok.fresh le)
theorem walk_en {K : PySem.W.Frag} {a : Addr} {xs : List V} : Walk (ItEn K a) xs.length (fun H => SqT K H a xs) (YPair (fun i => some (.int (i : Nat))) (fun i => xs[i]?)) :=
  ⟨fun i _ hi q => ⟨xs, xs[i], q, by simp [hi]⟩, fun _ q => ⟨xs, q, rfl⟩, fun i H v H' _ q ⟨T, x, h1, h2, h3, h4⟩ => ⟨T, .int (i : Nat), x, h1, h2, h3, rfl, h4 xs q⟩⟩
section
variable {X : Cx} {a b c e o : Expr} {σ : L2.St} {H : Hp} {pos : Pos}
theorem src_en {es : List Expr} {m : Nat} {tp p : Pos} {q : Addr} {xs : List V} (h : EvA X [a] σ H [.ref q]) (hx : SqT X.K H q xs) (hm : X.mg "enumerate" = none) (hf : X.mg "enumerate" = none → PI X (.Tuple es m tp) (.Call (.Name "enumerate" p) [a] [] pos) (iEn X.K (wA X [a])) := by exact fun hm => pi_en rfl hm pa_w) :
    Src X (.Tuple es m tp) (.Call (.Name "enumerate" p) [a] [] pos) σ H xs.length (fun H => SqT X.K H q xs) (YPair (fun i => some (.int (i : Nat))) (fun i => xs[i]?)) := fun H1 e1 R k =>
  wI_of (hf hm) (h H1 e1 _ fun H2 e2 => ⟨q, xs, rfl, ex_t (e1.trans e2) hx, k _ H2 e2 (ex_t (e1.trans e2) hx) walk_en⟩)
end
end TS
/-! ## B4 -/
namespace TS
open PySem PySem.Spec PyProof.Rows L2
section
variable {X : Cx} {a b c e o : Expr} {es : List Expr} {σ : L2.St} {H H' : Hp} {x y z v : V} {R R' : RT} {pos : Pos} {r : R2} {k j : Bool} {D : Ends} {rest sts : List Stmt}
/-- name = [elt for tg in iter], name = [.. if c] -/
theorem ws_setC {tg iter elt : Expr} {scope : Scope} {n : Nat} {G : Hp → Prop} {Y : Nat → Hp → V → Hp → Prop} {y : Str} {py p2 : Pos} (i : Nat) (own : List (Str × Nat)) (hc : X.calm = true) (hN : X.N.Nodup) (ok : BlkOk X.N X.env.scope scope own) (hs : Src X tg iter σ H n G Y) (hn : n ≤ 90000) (hG : ∀ H H', Ex H H' → G H → G H') (P : Nat → V → Hp → Prop) (hP : ∀ i, SMono (P i))
    (hY : ∀ i H x H', Y i H x H' → Ex H H') (turn : ∀ i x Ha Hb, i < n → Ex H Ha → G Ha → Y i Ha x Hb → CTurn X scope tg elt none (own.map (·.2)) σ x Hb true (P i)) (k : ∀ v H1, Ex H H1 → newC n (fun _ => true) P H v H1 → wS X rest D (σ.set i (some v)) H1)
    (hsw : swapsWith (.ListComp elt [⟨tg, iter, [], 0⟩] scope p2) (some (.Name y py)) pos.line X.env = pure true) (hy : X.N[i]? = some y := by rfl) (hyl : X.env.scope.names.lookup y = some .local := by rfl) (hfs : ∀ x, foldedSetIterable iter X.env x = pure x := by intro _; rfl) :
    wS X (.Assign [.Name y py] (.ListComp elt [⟨tg, iter, [], 0⟩] scope p2) pos :: rest) D σ H :=
  ws_cons (ps_setLc (own := own) hc hN hy hyl hsw pi_w ok (fun s H C cl fp => ⟨fun pins s' σ H' v u Q I r h => h s H C cl fp pins s' u I r⟩) (pts_w (tst := none)) (fun s H C cl fp => ⟨fun pins s' σ H' Q I h => h s H C cl fp pins s' I⟩) hfs)
    (comp_core (tst := none) hs hn hG (fun _ => true) P hP hY turn H (Ex.refl _) _ fun v H1 e1 r1 => k v H1 e1 r1)
theorem ws_setCIf {tg iter elt cnd : Expr} {scope : Scope} {n : Nat} {G : Hp → Prop} {Y : Nat → Hp → V → Hp → Prop} {y : Str} {py p2 : Pos} (i : Nat) (own : List (Str × Nat)) (hc : X.calm = true) (hN : X.N.Nodup) (ok : BlkOk X.N X.env.scope scope own) (hs : Src X tg iter σ H n G Y) (hn : n ≤ 90000) (hG : ∀ H H', Ex H H' → G H → G H') (f : Nat → Bool) (P : Nat → V → Hp → Prop) (hP : ∀ i, SMono (P i))
    (hY : ∀ i H x H', Y i H x H' → Ex H H') (turn : ∀ i x Ha Hb, i < n → Ex H Ha → G Ha → Y i Ha x Hb → CTurn X scope tg elt (some cnd) (own.map (·.2)) σ x Hb (f i) (P i)) (k : ∀ v H1, Ex H H1 → newC n f P H v H1 → wS X rest D (σ.set i (some v)) H1)
    (hsw : swapsWith (.ListComp elt [⟨tg, iter, [cnd], 0⟩] scope p2) (some (.Name y py)) pos.line X.env = pure true) (hy : X.N[i]? = some y := by rfl) (hyl : X.env.scope.names.lookup y = some .local := by rfl) (hfs : ∀ x, foldedSetIterable iter X.env x = pure x := by intro _; rfl) :
    wS X (.Assign [.Name y py] (.ListComp elt [⟨tg, iter, [cnd], 0⟩] scope p2) pos :: rest) D σ H :=
  ws_cons (ps_setLc (own := own) hc hN hy hyl hsw pi_w ok (fun s H C cl fp => ⟨fun pins s' σ H' v u Q I r h => h s H C cl fp pins s' u I r⟩) (pts_w (tst := some cnd)) (fun s H C cl fp => ⟨fun pins s' σ H' Q I h => h s H C cl fp pins s' I⟩) hfs)
    (comp_core (tst := some cnd) hs hn hG f P hP hY turn H (Ex.refl _) _ fun v H1 e1 r1 => k v H1 e1 r1)
theorem src_rangeN {tg : Expr} {p : Pos} {m n : Nat} (h : EvA X [a, b] σ H [.int (m : Nat), .int (n : Nat)]) (hm : m ≤ 100000) (hn : n ≤ 100000) (hr : X.mg "range" = none) (hs : X.mg "range" = none → PI X tg (.Call (.Name "range" p) [a, b] [] pos) (iRng2 (wA X [a, b])) := by exact fun hm => pi_range2 rfl hm pa_w) :
    Src X tg (.Call (.Name "range" p) [a, b] [] pos) σ H (n - m) (fun _ => True) (YFn fun i => .int ((m + i : Nat) : Int)) := by
  have q := src_range2 (X := X) (tg := tg) (p := p) (pos := pos) (m := (m : Nat)) (n := (n : Nat)) h (by omega) hr hs
  have e : (((n : Nat) : Int) - (m : Nat)).toNat = n - m := by omega
  rw [e] at q
  have e2 : (fun i : Nat => V.int (((m : Nat) : Int) + (i : Nat))) = fun i : Nat => V.int ((m + i : Nat) : Int) := by
    funext i
    simp
  rw [e2] at q
  exact q
theorem src_rangeK {tg : Expr} {p : Pos} {n : Nat} (h : EvA X [a] σ H [.int (n : Nat)]) (hn : n ≤ 100000) (hr : X.mg "range" = none) (hs : X.mg "range" = none → PI X tg (.Call (.Name "range" p) [a] [] pos) (iRng1 (wA X [a])) := by exact fun hm => pi_range1 rfl hm pa_w) :
    Src X tg (.Call (.Name "range" p) [a] [] pos) σ H n (fun _ => True) (YFn fun i => .int (i : Nat)) := by
  have q := src_range1 (X := X) (tg := tg) (p := p) (pos := pos) (n := (n : Nat)) h (by omega) hr hs
  have e : ((n : Nat) : Int).toNat = n := by omega
  rw [e] at q
  exact q
/-! ### [elt for tg in iter for tg1 in iter1] -/
def prs (m : Nat → Nat) (i : Nat) : List (Nat × Nat) := (List.range i).flatMap fun a => (List.range (m a)).map fun b => (a, b)
def prsJ (m : Nat → Nat) (i j : Nat) : List (Nat × Nat) := prs m i ++ (List.range j).map fun b => (i, b)
theorem prsJ_zero (m : Nat → Nat) (i : Nat) : prsJ m i 0 = prs m i := by
  unfold prsJ
  rw [List.range_zero, List.map_nil, List.append_nil]
theorem prsJ_end (m : Nat → Nat) (i : Nat) : prsJ m i (m i) = prs m (i + 1) := by
  unfold prsJ prs
  rw [List.range_succ, List.flatMap_append]
  simp
theorem prsJ_succ (m : Nat → Nat) (i j : Nat) : prsJ m i (j + 1) = prsJ m i j ++ [(i, j)] := by
  unfold prsJ
  rw [List.range_succ, List.map_append, List.append_assoc]
  rfl
abbrev BlkSrc (X : Cx) (scope : Scope) (tg iter : Expr) (σ : L2.St) (H : Hp) (n : Nat) (Y : Nat → Hp → V → Hp → Prop) : Prop := ∀ (s : Shared) (H0 : Hp) (C : Addr) (cl : List (Str × Addr)) (fp : List Addr), Src (X.blk s H0 scope (compEnvC scope cl C X.env) fp) tg iter σ H n (fun _ => True) Y
def iBlk (X : Cx) (scope : Scope) (tg iter : Expr) : TI := fun σ H R => ∀ (s : Shared) (H0 : Hp) (C : Addr) (cl : List (Str × Addr)) (fp : List Addr), wI (X.blk s H0 scope (compEnvC scope cl C X.env) fp) tg iter σ H R
theorem comp2_core {tg iter elt tg1 iter1 : Expr} {scope : Scope} {vs vs1 : List Nat} {n : Nat} {G : Hp → Prop} {Y : Nat → Hp → V → Hp → Prop} (hs : Src X tg iter σ H n G Y) (m : Nat → Nat) (hn : ∀ i j, i < n → j ≤ m i → (prsJ m i j).length ≤ 90000) (hG : ∀ H H', Ex H H' → G H → G H') (P : Nat × Nat → V → Hp → Prop) (hP : ∀ i, SMono (P i))
    (hY : ∀ i H x H', Y i H x H' → Ex H H')
    (turn : ∀ i x Ha Hb, i < n → Ex H Ha → G Ha → Y i Ha x Hb → ∃ σ2, BlkG X scope tg x (wipe σ vs) Hb σ2 ∧ wipe σ2 vs = wipe σ vs ∧ ∃ Y1 : Nat → Hp → V → Hp → Prop, BlkSrc X scope tg1 iter1 σ2 Hb (m i) Y1 ∧ (∀ i H x H', Y1 i H x H' → Ex H H') ∧
      ∀ j y Hc Hd, j < m i → Ex H Hc → Y1 j Hc y Hd → ∃ σ3, BlkG X scope tg1 y (wipe σ2 vs1) Hd σ3 ∧ wipe σ3 vs1 = wipe σ2 vs1 ∧ BlkE X scope elt σ3 Hd (fits (P (i, j)))) :
    EvTE (tLc2 (wI X tg iter) (gBlk X scope tg) tYes (iBlk X scope tg1 iter1) (gBlk X scope tg1) tYes (eBlk X scope elt) vs vs1) σ H (newP fun xs H2 => All2 (fun i v => P i v H2) (prs m n) xs) := fun H1 e1 Q q => hs H1 e1 _ fun J H2 e2 g w Dl hD => by
  have w' : Walk J n G Y := w
  refine ⟨fun i k H' => k = n - i ∧ i ≤ n ∧ Ex H2 H' ∧ ∃ acc, H' Dl = some (.lst acc) ∧ All2 (fun i v => P i v H') (prs m i) acc, ⟨n, by simp, Nat.zero_le _, Ex.new hD, [], upd_same, .nil⟩, ?_⟩
  rintro i k Ha ⟨rfl, hi, pe, acc, pd, pa⟩
  by_cases hlt : i < n
  · refine .inr ⟨w'.goes i Ha hlt (hG _ _ pe g), fun H' => (i + 1 ≤ n) ∧ Ex H2 H' ∧ ∃ acc, H' Dl = some (.lst acc) ∧ All2 (fun i v => P i v H') (prs m (i + 1)) acc, fun H' p' => ⟨n - (i + 1), by omega, rfl, p'.1, p'.2⟩, fun x Hb yy => ?_⟩
    have y := w'.yields i Ha x Hb hlt (hG _ _ pe g) yy
    have eb := hY i Ha x Hb y
    obtain ⟨σ2, tG, tw, Y1, hs1, hY1, turn1⟩ := turn i x Ha Hb hlt ((e1.trans e2).trans pe) (hG _ _ pe g) y
    intro s H0 C cl fp
    refine tG s H0 C cl fp Hb (Ex.refl _) _ ⟨tw, ?_⟩
    simp only [tYes, if_true]
    intro s H0 C cl fp
    refine hs1 s H0 C cl fp Hb (Ex.refl _) _ fun J1 H3 e3 _ w1 => ?_
    refine ⟨fun j k H' => k = m i - j ∧ j ≤ m i ∧ Ex H2 H' ∧ ∃ acc, H' Dl = some (.lst acc) ∧ All2 (fun i v => P i v H') (prsJ m i j) acc, ⟨m i, by simp, Nat.zero_le _, (pe.trans eb).trans e3, acc, e3 _ _ (eb _ _ pd), ?_⟩, ?_⟩
    · rw [prsJ_zero]
      exact pa.imp fun j v z => hP j v _ _ (eb.trans e3).sx z
    · rintro j k Hc ⟨rfl, hj, pe1, acc1, pd1, pa1⟩
      by_cases hlt1 : j < m i
      · refine .inr ⟨w1.goes j Hc hlt1 True.intro, fun H' => (j + 1 ≤ m i) ∧ Ex H2 H' ∧ ∃ acc, H' Dl = some (.lst acc) ∧ All2 (fun i v => P i v H') (prsJ m i (j + 1)) acc, fun H' p' => ⟨m i - (j + 1), by omega, rfl, p'.1, p'.2⟩, fun x1 Hd yy1 => ?_⟩
        have y1 := w1.yields j Hc x1 Hd hlt1 True.intro yy1
        have ed := hY1 j Hc x1 Hd y1
        obtain ⟨σ3, tG1, tw1, tE⟩ := turn1 j x1 Hc Hd hlt1 ((e1.trans e2).trans pe1) y1
        intro s H0 C cl fp
        refine tG1 s H0 C cl fp Hd (Ex.refl _) _ ⟨tw1, ?_⟩
        simp only [tYes, if_true]
        intro s H0 C cl fp
        refine tE s H0 C cl fp Hd (Ex.refl _) _ fun v H4 e4 pv => ?_
        have d4 : H4 Dl = some (.lst acc1) := e4 _ _ (ed _ _ pd1)
        have x4 : Sx H4 (upd H4 Dl (.lst (acc1 ++ [v]))) := (Sx.refl H4).mutL d4
        refine ⟨acc1, d4, ?_, hlt1, ((pe1.trans ed).trans e4).mut hD, acc1 ++ [v], upd_same, ?_⟩
        · have h1 := pa1.len
          have h2 := hn i j hlt hj
          exact sz_lt (by omega)
        · rw [prsJ_succ]
          exact All2.snoc (F := fun j u => P j u (upd H4 Dl (HO.lst (acc1 ++ [v])))) (hP (i, j) v _ _ x4 pv) (pa1.imp fun j u z => hP j u _ _ ((ed.trans e4).sx.trans x4) z)
      · have e : j = m i := by omega
        subst e
        rw [prsJ_end] at pa1
        exact .inl ⟨w1.stops Hc True.intro, hlt, pe1, acc1, pd1, pa1⟩
  · have e : i = n := by omega
    subst e
    exact .inl ⟨w'.stops Ha (hG _ _ pe g), q _ _ (e2.trans pe) ⟨Dl, acc, rfl, e2.back hD, pd, pa⟩⟩
theorem ws_setC2 {tg iter elt tg1 iter1 : Expr} {scope : Scope} {n : Nat} {G : Hp → Prop} {Y : Nat → Hp → V → Hp → Prop} {y : Str} {py p2 : Pos} (i : Nat) (own : List (Str × Nat)) (vs1 : List Nat) (hc : X.calm = true) (hN : X.N.Nodup) (ok : BlkOk X.N X.env.scope scope own) (hv : ∀ i ∈ vs1, i ∈ own.map (·.2)) (hs : Src X tg iter σ H n G Y) (m : Nat → Nat) (hn : ∀ i j, i < n → j ≤ m i → (prsJ m i j).length ≤ 90000) (hG : ∀ H H', Ex H H' → G H → G H') (P : Nat × Nat → V → Hp → Prop) (hP : ∀ i, SMono (P i))
    (hY : ∀ i H x H', Y i H x H' → Ex H H')
    (turn : ∀ i x Ha Hb, i < n → Ex H Ha → G Ha → Y i Ha x Hb → ∃ σ2, BlkG X scope tg x (wipe σ (own.map (·.2))) Hb σ2 ∧ wipe σ2 (own.map (·.2)) = wipe σ (own.map (·.2)) ∧ ∃ Y1 : Nat → Hp → V → Hp → Prop, BlkSrc X scope tg1 iter1 σ2 Hb (m i) Y1 ∧ (∀ i H x H', Y1 i H x H' → Ex H H') ∧
      ∀ j y Hc Hd, j < m i → Ex H Hc → Y1 j Hc y Hd → ∃ σ3, BlkG X scope tg1 y (wipe σ2 vs1) Hd σ3 ∧ wipe σ3 vs1 = wipe σ2 vs1 ∧ BlkE X scope elt σ3 Hd (fits (P (i, j))))
    (k : ∀ v H1, Ex H H1 → newP (fun xs H2 => All2 (fun i v => P i v H2) (prs m n) xs) H v H1 → wS X rest D (σ.set i (some v)) H1)
    (hsw : swapsWith (.ListComp elt [⟨tg, iter, [], 0⟩, ⟨tg1, iter1, [], 0⟩] scope p2) (some (.Name y py)) pos.line X.env = pure true) (hy : X.N[i]? = some y := by rfl) (hyl : X.env.scope.names.lookup y = some .local := by rfl) (hfs : ∀ x, foldedSetIterable iter X.env x = pure x := by intro _; rfl) (hfs1 : ∀ env x, foldedSetIterable iter1 env x = pure x := by intro _ _; rfl) :
    wS X (.Assign [.Name y py] (.ListComp elt [⟨tg, iter, [], 0⟩, ⟨tg1, iter1, [], 0⟩] scope p2) pos :: rest) D σ H :=
  ws_cons (ps_setLc2 (own := own) (vs1 := vs1) hc hN hy hyl hsw pi_w ok hv (fun s H C cl fp => ⟨fun pins s' σ H' v u Q I r h => h s H C cl fp pins s' u I r⟩) (fun _ _ _ _ _ => pts_nil) (fun s H C cl fp => ⟨fun pins s' σ H' R I h => h s H C cl fp pins s' I⟩) (fun s H C cl fp => ⟨fun pins s' σ H' v u Q I r h => h s H C cl fp pins s' u I r⟩) (fun _ _ _ _ _ => pts_nil) (fun s H C cl fp => ⟨fun pins s' σ H' Q I h => h s H C cl fp pins s' I⟩) hfs hfs1)
    (comp2_core hs m hn hG P hP hY turn H (Ex.refl _) _ fun v H1 e1 r1 => k v H1 e1 r1)
end
end TS
/-! ## Tops -/
namespace TS
open PySem PySem.Spec PyProof.Rows L2
/-- what the top has written -/
structure Txt (K : PySem.W.Frag) (mg : Str → Option Value) (CL CS CP : Addr) : Prop where
  n_len : mg "len" = none
  n_range : mg "range" = none
  n_tuple : mg "tuple" = none
  n_isinstance : mg "isinstance" = none
  n_all : mg "all" = none
  n_sum : mg "sum" = none
  n_min : mg "min" = none
  n_max : mg "max" = none
  n_sorted : mg "sorted" = none
  n_divmod : mg "divmod" = none
  n_abs : mg "abs" = none
  n_int : mg "int" = none
  n_str : mg "str" = none
  n_dict : mg "dict" = none
  n_enumerate : mg "enumerate" = none
  n_repr : mg "repr" = none
  n_bool : mg "bool" = none
  i_MOST_WORKS : ∃ t, mg "MOST_WORKS" = some (.int 6 t)
  i_MOST_HANDS : ∃ t, mg "MOST_HANDS" = some (.int 6 t)
  i_MOST_PERIOD : ∃ t, mg "MOST_PERIOD" = some (.int 16 t)
  i_MOST_ROUND : ∃ t, mg "MOST_ROUND" = some (.int 720 t)
  i_LONGEST : ∃ t, mg "LONGEST" = some (.int 8 t)
  t_DIGITS : ∃ t, mg "DIGITS" = some (.str "0123456789" t)
  t_LETTERS : ∃ t, mg "LETTERS" = some (.str "abcdefghijklmnopqrstuvwxyz" t)
  t_GAP : ∃ t, mg "GAP" = some (.str " " t)
  d_divisor : DefN K mg "divisor" s_divisor ["one", "other"]
  d_multiple : DefN K mg "multiple" s_multiple ["one", "other"]
  d_lowest : DefN K mg "lowest" s_lowest ["top", "bottom"]
  d_plus : DefN K mg "plus" s_plus ["one", "other"]
  d_is_integer : DefN K mg "is_integer" s_is_integer ["value"]
  d_is_between : DefN K mg "is_between" s_is_between ["value", "low", "high"]
  d_is_name : DefN K mg "is_name" s_is_name ["value"]
  d_read_number : DefN K mg "read_number" s_read_number ["word"]
  d_is_share : DefN K mg "is_share" s_is_share ["value"]
  d_read_share : DefN K mg "read_share" s_read_share ["word"]
  d_read_work : DefN K mg "read_work" s_read_work ["row"]
  d_read_lot : DefN K mg "read_lot" s_read_lot ["text"]
  d_check_lot : DefN K mg "check_lot" s_check_lot ["value"]
  d_check_round : DefN K mg "check_round" s_check_round ["lot"]
  d_ends_at : DefN K mg "ends_at" s_ends_at ["share", "moment"]
  d_standings_at : DefN K mg "standings_at" s_standings_at ["lot", "moment"]
  d_step : DefN K mg "step" s_step ["standing", "given"]
  d_given_between : DefN K mg "given_between" s_given_between ["standing", "later", "most"]
  d_check_both : DefN K mg "check_both" s_check_both ["lot"]
  d_first_standing : DefN K mg "first_standing" s_first_standing ["lot"]
  d_starts_between : DefN K mg "starts_between" s_starts_between ["before", "given"]
  d_calmest_from : DefN K mg "calmest_from" s_calmest_from ["sheet", "first"]
  d_calmest : DefN K mg "calmest" s_calmest ["lot"]
  d_fewest_starts : DefN K mg "fewest_starts" s_fewest_starts ["lot"]
  d_calm_table : DefN K mg "calm_table" s_calm_table ["lot"]
  d_law_cell : DefN K mg "_law_cell" s_law_cell ["_law_cells", "_law_spot"]
  d_law_jar : DefN K mg "_law_jar" s_law_jar ["_law_cells", "_law_spot"]
  d_law_dig : DefN K mg "_law_dig" s_law_dig ["_law_jar_here", "_law_many"]
  d_law_take : DefN K mg "_law_take" s_law_take ["_law_jar_here", "_law_some"]
  d_law_text : DefN K mg "_law_text" s_law_text ["_law_lot_here"]
  d_law_span : DefN K mg "_law_span" s_law_span ["_law_lot_here"]
  d_law_kept : DefN K mg "_law_kept" s_law_kept ["_law_lot_here", "_law_had", "_law_t"]
  d_law_near : DefN K mg "_law_near" s_law_near ["_law_share_here", "_law_many", "_law_t"]
  d_law_all_at : DefN K mg "_law_all_at" s_law_all_at ["_law_lot_here", "_law_t"]
  d_law_sets : DefN K mg "_law_sets" s_law_sets ["_law_many", "_law_most"]
  d_law_plus : DefN K mg "_law_plus" s_law_plus ["_law_had", "_law_given"]
  d_law_living : DefN K mg "_law_living" s_law_living ["_law_lot_here"]
  d_law_is_right : DefN K mg "_law_is_right" s_law_is_right ["_law_lot_here", "_law_rows"]
  d_law_tables : DefN K mg "_law_tables" s_law_tables ["_law_lot_here", "_law_most"]
  d_law_starts : DefN K mg "_law_starts" s_law_starts ["_law_rows"]
  d_law_small : DefN K mg "_law_small" s_law_small ["_law_jar_here"]
  d_law_right : DefN K mg "_law_right" s_law_right ["_law_jar_here"]
  d_law : DefN K mg "law" s_law ["_law_cells"]
  gLot : mg "Lot" = some (.ref CL)
  cLot : Cls K CL
  iLot : ∃ (f : Addr) (fd : FuncData), Mk K CL f ∧ FunD K "__init__" "Lot.__init__" (defArgs s_Lot_init) (defBody s_Lot_init) (defScope s_Lot_init) [] [] f fd ∧ Binds K fd ["self", "text"] []
  aLot_told : NoAttr K CL "told"
  aLot_many : NoAttr K CL "many"
  aLot_works : NoAttr K CL "works"
  aLot_order : NoAttr K CL "order"
  aLot_parts : NoAttr K CL "parts"
  aLot_summed : NoAttr K CL "summed"
  aLot_circle : NoAttr K CL "circle"
  gSheet : mg "Sheet" = some (.ref CS)
  cSheet : Cls K CS
  iSheet : ∃ (f : Addr) (fd : FuncData), Mk K CS f ∧ FunD K "__init__" "Sheet.__init__" (defArgs s_Sheet_init) (defBody s_Sheet_init) (defScope s_Sheet_init) [] [] f fd ∧ Binds K fd ["self", "lot"] []
  aSheet_lot : NoAttr K CS "lot"
  aSheet_living : NoAttr K CS "living"
  aSheet_leads : NoAttr K CS "leads"
  gPath : mg "Path" = some (.ref CP)
  cPath : Cls K CP
  iPath : ∃ (f : Addr) (fd : FuncData), Mk K CP f ∧ FunD K "__init__" "Path.__init__" (defArgs s_Path_init) (defBody s_Path_init) (defScope s_Path_init) [] [] f fd ∧ Binds K fd ["self", "starts", "given", "before"] []
  aPath_starts : NoAttr K CP "starts"
  aPath_given : NoAttr K CP "given"
  aPath_before : NoAttr K CP "before"
  mBetween : ∃ (f : Addr) (fd : FuncData), Meth K CS "between" f ∧ FunD K "between" "Sheet.between" (defArgs s_Sheet_between) (defBody s_Sheet_between) (defScope s_Sheet_between) [] [] f fd ∧ Binds K fd ["self", "standing", "later"] []
  insL : C8.InsC K CL
end TS
/-! ## D1 -/
namespace TS
open PySem PySem.Spec PyProof.Rows L2
section
variable {P : Program} {w : World} {K : PySem.W.Frag} {mg : Str → Option Value} {base : Heap} {CL CS CP : Addr}
theorem sc_divisor : FnScope ["one", "other"] ["one", "other"] (defScope s_divisor) := ⟨rfl, rfl, rfl, by decide +kernel, rfl, by decide +kernel, by decide +kernel⟩
def spDivisor : Sp := fun vs H Q _ => ∃ a b : Nat, vs = [.int a, .int b] ∧ ∀ H', Ex H H' → Q (.int (Nat.gcd a b : Nat)) H'
theorem cal_divisor (T : Txt K mg CL CS CP) : C8.Cal P w K mg base 1 "divisor" spDivisor [] := by
  refine cal_mk T.d_divisor sc_divisor (fun vs H Q E h => ?_) fun f cdv A outer s H vs Q E hr h => ?_
  · obtain ⟨a, b, rfl, _⟩ := h
    rfl
  · obtain ⟨a, b, rfl, k⟩ := h
    refine ws_while PassesOwn.never (fun m σ H' => ∃ c d : Nat, σ = [some (.int c), some (.int d)] ∧ m = d ∧ Nat.gcd c d = Nat.gcd a b ∧ Ex H H') b ⟨a, b, rfl, rfl, rfl, Ex.refl _⟩ ?_
    rintro m σ H' ⟨c, d, rfl, rfl, g, e⟩
    refine ⟨_, et_gt (ev_name 1 rfl) ev_int, fun hk H1 e1 => ?_, fun hk H1 e1 => ?_⟩
    · have hd : 0 < m := by
        have := of_decide_eq_true hk
        omega
      refine ⟨fun σ2 H2 => ∃ c d : Nat, σ2 = [some (.int c), some (.int d)] ∧ d < m ∧ Nat.gcd c d = Nat.gcd a b ∧ Ex H H2, fun σ2 H2 ⟨c, d, h1, h2, h3, h4⟩ => ⟨d, h2, c, d, h1, rfl, h3, h4⟩, ?_⟩
      refine ws_par 0 1 rfl sc_divisor.nd (ea_cons (ev_name 1 rfl) (ea_cons (ev_mod (by omega) (ev_name 0 rfl) (ev_name 1 rfl)) ea_nil)) fun H2 e2 => ws_nil ?_
      refine ⟨m, c % m, rfl, Nat.mod_lt _ hd, ?_, (e.trans e1).trans e2⟩
      rw [← g, Nat.gcd_comm c m, Nat.gcd_rec m c, Nat.gcd_comm]
    · have hd : m = 0 := by
        have := of_decide_eq_false hk
        omega
      subst hd
      refine ws_ret (ev_name 0 rfl) fun v H2 e2 rv => ?_
      cases rv
      have z := k H2 ((e.trans e1).trans e2)
      rw [← g, Nat.gcd_zero_right] at z
      exact z
end
end TS
/-! ## D2 -/
namespace TS
open PySem PySem.Spec PyProof.Rows L2
/-! ### things in the heap -/
def nums (ns : List Nat) : List V := ns.map fun n => V.int (n : Nat)
/-- a tuple of whole numbers, none negative -/
def TI (ns : List Nat) (v : V) (H : Hp) : Prop := ∃ a, v = .ref a ∧ H a = some (.tup (nums ns))
/-- a pair of two of them -/
def T2 (p : Nat × Nat) (v : V) (H : Hp) : Prop := ∃ a, v = .ref a ∧ H a = some (.tup [.int (p.1 : Nat), .int (p.2 : Nat)])
theorem TI.sx {ns : List Nat} : SMono (TI ns) := fun v H H' e ⟨a, h1, h2⟩ => ⟨a, h1, e _ _ h2 rfl⟩
theorem TI.ex {ns : List Nat} {v : V} {H H' : Hp} (h : TI ns v H) (e : Ex H H') : TI ns v H' := TI.sx v H H' e.sx h
theorem T2.sx {p : Nat × Nat} : SMono (T2 p) := fun v H H' e ⟨a, h1, h2⟩ => ⟨a, h1, e _ _ h2 rfl⟩
theorem T2.ex {p : Nat × Nat} {v : V} {H H' : Hp} (h : T2 p v H) (e : Ex H H') : T2 p v H' := T2.sx v H H' e.sx h
theorem nums_len (ns : List Nat) : (nums ns).length = ns.length := List.length_map _
theorem nums_get {ns : List Nat} {i : Nat} {n : Nat} (h : ns[i]? = some n) : (nums ns)[i]? = some (.int (n : Nat)) := by
  unfold nums
  rw [List.getElem?_map, h]
  rfl
theorem atI_of {xs : List V} {i : Nat} {v : V} (h : xs[i]? = some v) : atI xs (i : Int) = some v := atI_nat h
section
variable {X : Cx} {a b c e o : Expr} {es : List Expr} {σ : L2.St} {H H' : Hp} {x y z v : V} {R R' : RT} {pos : Pos} {r : R2} {k j : Bool} {D : Ends} {rest sts : List Stmt}
/-! ### len, in, tuple(..) -/
theorem ev_lenQ {p : Addr} {xs : List V} {pn : Pos} (ha : Ev X e σ H (is (.ref p))) (h : SqL X.K H p xs ∨ SqT X.K H p xs) (hm : X.mg "len" = none) (hg : Gl X "len" := by rfl) (hs : starEach [e] X.env = (false, eval e X.env) :: starEach [] X.env := by rfl) :
    Ev X (.Call (.Name "len" pn) [e] [] pos) σ H (is (.int (xs.length : Nat))) :=
  ev_callB (R := is (.int (xs.length : Nat))) call_len_seq hm (by decide +kernel) (ea_cons ha ea_nil hs) (fun H1 e1 Q q => ⟨p, xs, rfl, h.imp (ex_l e1) (ex_t e1), q _ H1 (Ex.refl _) rfl⟩) hg (by decide) (by decide) hs rfl
theorem ev_lenS {w : Str} {pn : Pos} (ha : Ev X e σ H (is (.str w))) (h : w.length ≤ 100000) (hm : X.mg "len" = none) (hg : Gl X "len" := by rfl) (hs : starEach [e] X.env = (false, eval e X.env) :: starEach [] X.env := by rfl) :
    Ev X (.Call (.Name "len" pn) [e] [] pos) σ H (is (.int (w.length : Nat))) :=
  ev_callB (R := is (.int (w.length : Nat))) call_len_str hm (by decide +kernel) (ea_cons ha ea_nil hs) (fun H1 e1 Q q => ⟨w, rfl, sz_of h, q _ H1 (Ex.refl _) rfl⟩) hg (by decide) (by decide) hs rfl
/-- a new tuple of things that are so -/
def newPT (P : List V → Hp → Prop) : RT := fun H1 v H2 => ∃ p xs, v = .ref p ∧ H1 p = none ∧ H2 p = some (.tup xs) ∧ P xs H2
instance {P : List V → Hp → Prop} : Anti (newPT P) := ⟨fun _ _ _ _ e ⟨p, xs, a, b, c⟩ => ⟨p, xs, a, e.back b, c⟩⟩
theorem ev_tupleOf {P : List V → Hp → Prop} {pn : Pos} (ha : Ev X e σ H (newP P)) (hP : ∀ xs H H', Ex H H' → P xs H → P xs H') (hm : X.mg "tuple" = none) (hg : Gl X "tuple" := by rfl) (hs : starEach [e] X.env = (false, eval e X.env) :: starEach [] X.env := by rfl) :
    Ev X (.Call (.Name "tuple" pn) [e] [] pos) σ H (newPT P) :=
  ev_callTyG (R := newPT P) call_tuple_of hm (by decide +kernel) (eg_one ha hs) (fun H1 vs H2 e1 e2 t Q q => by
    obtain ⟨v, rfl, Hm, em, ⟨p, xs, rfl, hp, hl, hh⟩, rfl⟩ := t
    exact ⟨p, xs, rfl, .inl ⟨SqL.of hl, fun l hn => q _ _ (Ex.new hn) ⟨l, xs, rfl, em.back hn, upd_same, hP _ _ _ (Ex.new hn) hh⟩⟩⟩) hg (by decide) (by decide) hs rfl
theorem rv_in {p : Addr} {xs : List V} (h : SqL X.K H p xs ∨ SqT X.K H p xs) (hx : flatV x = true) (hxs : xs.all flatV = true) : RV (rIn X.K false) x (.ref p) H (is (.bl (inV x xs))) := RV.val fun H1 e1 Q q => ⟨p, xs, rfl, h.imp (ex_l e1) (ex_t e1), hx, hxs, q⟩
theorem rv_notIn {p : Addr} {xs : List V} (h : SqL X.K H p xs ∨ SqT X.K H p xs) (hx : flatV x = true) (hxs : xs.all flatV = true) : RV (rIn X.K true) x (.ref p) H (is (.bl (!inV x xs))) := RV.val fun H1 e1 Q q => ⟨p, xs, rfl, h.imp (ex_l e1) (ex_t e1), hx, hxs, q⟩
theorem nums_flat (ns : List Nat) : (nums ns).all flatV = true := by
  unfold nums
  rw [List.all_map]
  exact List.all_eq_true.mpr fun n _ => rfl
theorem in_ints (n : Nat) (ns : List Nat) : inV (.int (n : Nat)) (nums ns) = decide (n ∈ ns) := by
  induction ns with
  | nil => rfl
  | cons m ns ih =>
    have h1 : inV (.int (n : Nat)) (nums (m :: ns)) = (eqV (.int (m : Nat)) (.int (n : Nat)) || inV (.int (n : Nat)) (nums ns)) := rfl
    rw [h1, ih]
    have h2 : eqV (.int (m : Nat)) (.int (n : Nat)) = decide (m = n) := by
      show decide ((m : Int) = (n : Int)) = _
      by_cases h : m = n
      · subst h; simp
      · rw [decide_eq_false h, decide_eq_false (by omega)]
    rw [h2]
    by_cases h : m = n
    · subst h
      rw [decide_eq_true rfl, Bool.true_or, decide_eq_true (List.mem_cons_self ..)]
    · rw [decide_eq_false h, Bool.false_or]
      by_cases h' : n ∈ ns
      · rw [decide_eq_true h', decide_eq_true (List.mem_cons_of_mem _ h')]
      · rw [decide_eq_false h', decide_eq_false (fun z => by rcases (List.mem_cons).mp z with q | q; exact h q.symm; exact h' q)]
theorem ev_inTI {n : Nat} {ns : List Nat} (ha : Ev X a σ H (is (.int (n : Nat)))) (hb : Ev X b σ H (is y)) (h : TI ns y H) (hm : behindInMarks .In b = false := by rfl) : Ev X (.Compare a [.In] [b] pos) σ H (is (.bl (decide (n ∈ ns)))) := by
  obtain ⟨p, rfl, hp⟩ := h
  exact (ev_cmp op_in_seq ha hb (rv_in (.inr (SqT.of hp)) rfl (nums_flat ns)) hm).is_ (congrArg V.bl (in_ints n ns))
theorem et_inTI {n : Nat} {ns : List Nat} (ha : Ev X a σ H (is (.int (n : Nat)))) (hb : Ev X b σ H (is y)) (h : TI ns y H) (hm : behindInMarks .In b = false := by rfl) : EvT X (.Compare a [.In] [b] pos) σ H (decide (n ∈ ns)) := by
  obtain ⟨p, rfl, hp⟩ := h
  have q := rv_in (X := X) (x := .int (n : Nat)) (.inr (SqT.of hp)) rfl (nums_flat ns)
  rw [in_ints] at q
  exact et_cmp op_in_seq ha hb q hm
theorem et_notInTI {n : Nat} {ns : List Nat} (ha : Ev X a σ H (is (.int (n : Nat)))) (hb : Ev X b σ H (is y)) (h : TI ns y H) (hm : behindInMarks .NotIn b = false := by rfl) : EvT X (.Compare a [.NotIn] [b] pos) σ H (!decide (n ∈ ns)) := by
  obtain ⟨p, rfl, hp⟩ := h
  have q := rv_notIn (X := X) (x := .int (n : Nat)) (.inr (SqT.of hp)) rfl (nums_flat ns)
  rw [in_ints] at q
  exact et_cmp op_notIn_seq ha hb q hm
/-- an item of a tuple of numbers, of a pair -/
theorem ev_atTI {n i : Nat} {ns : List Nat} (ha : Ev X a σ H (is x)) (h : TI ns x H) (hb : Ev X b σ H (is (.int (i : Nat)))) (hi : ns[i]? = some n) (hs : PlainIx b := by exact fun _ _ => rfl) : Ev X (.Subscript a b pos) σ H (is (.int (n : Nat))) := by
  obtain ⟨p, rfl, hp⟩ := h
  exact ev_ixT ha hb (SqT.of hp) (atI_of (nums_get hi)) hs
theorem ev_at0 {p : Nat × Nat} {j : Nat} {p2 : Pos} (ha : Ev X a σ H (is x)) (h : T2 p x H) (hs : PlainIx (.Constant (.int 0) j p2) := by exact fun _ _ => rfl) : Ev X (.Subscript a (.Constant (.int 0) j p2) pos) σ H (is (.int (p.1 : Nat))) := by
  obtain ⟨q, rfl, hp⟩ := h
  exact ev_ixT ha ev_int (SqT.of hp) rfl hs
theorem ev_at1 {p : Nat × Nat} {j : Nat} {p2 : Pos} (ha : Ev X a σ H (is x)) (h : T2 p x H) (hs : PlainIx (.Constant (.int 1) j p2) := by exact fun _ _ => rfl) : Ev X (.Subscript a (.Constant (.int 1) j p2) pos) σ H (is (.int (p.2 : Nat))) := by
  obtain ⟨q, rfl, hp⟩ := h
  exact ev_ixT ha ev_int (SqT.of hp) rfl hs
end
end TS
/-! ## D3 -/
namespace TS
open PySem PySem.Spec PyProof.Rows L2
theorem Ev.fits {X : Cx} {e : Expr} {σ : L2.St} {H : Hp} {x : V} {P : V → Hp → Prop} (h : Ev X e σ H (is x)) (p : ∀ H', Ex H H' → P x H') : Ev X e σ H (fits P) :=
  h.imp fun H1 v H2 e1 e2 r => by
    cases r
    exact p H2 (e1.trans e2)
theorem picked_all (n : Nat) : picked n (fun _ => true) = List.range n := by
  unfold picked
  exact List.filter_eq_self.mpr fun _ _ => rfl
theorem newC_map {n : Nat} {f : Nat → Bool} {g : Nat → V} {H1 H2 : Hp} {v : V} (h : newC n f (fun i v _ => v = g i) H1 v H2) : newL ((picked n f).map g) H1 v H2 := by
  obtain ⟨p, xs, h1, h2, h3, h4⟩ := h
  exact ⟨p, h1, h2, by rw [h3, All2.eqs h4]⟩
theorem newC_all {n : Nat} {g : Nat → V} {H1 H2 : Hp} {v : V} (h : newC n (fun _ => true) (fun i v _ => v = g i) H1 v H2) : newL ((List.range n).map g) H1 v H2 := by
  have q := newC_map h
  rw [picked_all] at q
  exact q
theorem newL_P {xs : List V} {H1 H2 : Hp} {v : V} (h : newL xs H1 v H2) : newP (fun ys _ => ys = xs) H1 v H2 := by
  obtain ⟨p, h1, h2, h3⟩ := h
  exact ⟨p, xs, h1, h2, h3, rfl⟩
theorem isP_sx {v : Nat → V} : ∀ i, SMono (fun x (_ : Hp) => x = v i) := fun _ _ _ _ _ h => h
theorem room1 {k : Nat} {A : Around} (h : Room (k + 1) A) : Room k A := h.mono (Nat.le_succ k)
section
variable {P : Program} {w : World} {K : PySem.W.Frag} {mg : Str → Option Value} {base : Heap} {CL CS CP : Addr}
/-! ### multiple, lowest, plus -/
theorem sc_multiple : FnScope ["one", "other"] ["one", "other"] (defScope s_multiple) := ⟨rfl, rfl, rfl, by decide +kernel, rfl, by decide +kernel, by decide +kernel⟩
def spMultiple : Sp := fun vs H Q _ => ∃ a b : Nat, vs = [.int a, .int b] ∧ 0 < a ∧ 0 < b ∧ a < 100000 ∧ b < 100000 ∧ ∀ H', Ex H H' → Q (.int (Nat.lcm a b : Nat)) H'
theorem lcm_eq (a b : Nat) (ha : 0 < a) : a / Nat.gcd a b * b = Nat.lcm a b := by
  unfold Nat.lcm
  rw [Nat.mul_comm a b, Nat.mul_div_assoc _ (Nat.gcd_dvd_left a b), Nat.mul_comm]
theorem cal_multiple (T : Txt K mg CL CS CP) : C8.Cal P w K mg base 2 "multiple" spMultiple [] := by
  refine cal_mk T.d_multiple sc_multiple (fun vs H Q E h => ?_) fun f cdv A outer s H vs Q E hr h => ?_
  · obtain ⟨a, b, rfl, _⟩ := h
    rfl
  · obtain ⟨a, b, rfl, ha, hb, la, lb, k⟩ := h
    have g0 : 0 < Nat.gcd a b := Nat.gcd_pos_of_pos_left _ ha
    have gl : Nat.gcd a b ≤ a := Nat.gcd_le_left _ ha
    have dl : a / Nat.gcd a b ≤ a := Nat.div_le_self _ _
    refine ws_ret (R := is (.int (Nat.lcm a b : Nat))) ?_ fun v H2 e2 rv => by
      cases rv
      exact k H2 e2
    refine (ev_mul (i := ((a : Nat) : Int) / ((Nat.gcd a b : Nat) : Int)) (j := (b : Nat)) (.inr ⟨by omega, by omega⟩) (ev_fdiv ⟨by omega, by omega⟩ (ev_name 0 rfl) (ev_call (R := is (.int (Nat.gcd a b : Nat))) (cal_divisor T) hr (Nat.le_refl 1) (ea_cons (ev_name 0 rfl) (ea_cons (ev_name 1 rfl) ea_nil)) fun H1 e1 Q q => ⟨a, b, rfl, fun H' e' => q _ _ e' rfl⟩)) (ev_name 1 rfl)).is_ ?_
    rw [← lcm_eq a b ha]
    simp
theorem sc_lowest : FnScope ["top", "bottom", "shared"] ["top", "bottom"] (defScope s_lowest) := ⟨rfl, rfl, rfl, by decide +kernel, rfl, by decide +kernel, by decide +kernel⟩
def spLowest : Sp := fun vs H Q _ => ∃ a b : Nat, vs = [.int a, .int b] ∧ 0 < b ∧ b < 100000000 ∧ ∀ v H' c d, c ≤ a → d ≤ b → 0 < d → Ex H H' → T2 (c, d) v H' → Q v H'
theorem cal_lowest (T : Txt K mg CL CS CP) : C8.Cal P w K mg base 2 "lowest" spLowest [] := by
  refine cal_mk T.d_lowest sc_lowest (fun vs H Q E h => ?_) fun f cdv A outer s H vs Q E hr h => ?_
  · obtain ⟨a, b, rfl, _⟩ := h
    rfl
  · obtain ⟨a, b, rfl, hb, lb, k⟩ := h
    have g0 : 0 < Nat.gcd b a := Nat.gcd_pos_of_pos_left _ hb
    have gl : Nat.gcd b a ≤ b := Nat.gcd_le_left _ hb
    have gd : 0 < b / Nat.gcd b a := Nat.div_pos gl g0
    refine ws_set 2 sc_lowest.nd (R := is (.int (Nat.gcd b a : Nat))) (ev_call (cal_divisor T) hr (Nat.le_refl 1) (ea_cons (ev_name 1 rfl) (ea_cons (ev_name 0 rfl) ea_nil)) fun H1 e1 Q q => ⟨b, a, rfl, fun H' e' => q _ _ e' rfl⟩) fun v H1 e1 rv => ?_
    cases rv
    refine ws_ret (ev_tup (ea_cons (ev_fdiv ⟨by omega, by omega⟩ (ev_name 0 rfl) (ev_name 2 rfl)) (ea_cons (ev_fdiv ⟨by omega, by omega⟩ (ev_name 1 rfl) (ev_name 2 rfl)) ea_nil)) (by show 2 ≤ 100000; decide)) fun v H2 e2 rv => ?_
    obtain ⟨p, rfl, h1, h2⟩ := rv
    refine k _ H2 (a / Nat.gcd b a) (b / Nat.gcd b a) (Nat.div_le_self _ _) (Nat.div_le_self _ _) gd (e1.trans e2) ⟨p, rfl, ?_⟩
    rw [h2]
    simp
theorem sc_plus : FnScope ["one", "other"] ["one", "other"] (defScope s_plus) := ⟨rfl, rfl, rfl, by decide +kernel, rfl, by decide +kernel, by decide +kernel⟩
def spPlus : Sp := fun vs H Q _ => ∃ (x y : V) (a b c d : Nat), vs = [x, y] ∧ T2 (a, b) x H ∧ T2 (c, d) y H ∧ 0 < b ∧ b < 10000 ∧ 0 < d ∧ d < 10000 ∧ a < 10000 ∧ c < 10000 ∧ ∀ v H' u z, u ≤ a * d + c * b → z ≤ b * d → 0 < z → Ex H H' → T2 (u, z) v H' → Q v H'
theorem cal_plus (T : Txt K mg CL CS CP) : C8.Cal P w K mg base 3 "plus" spPlus [] := by
  refine cal_mk T.d_plus sc_plus (fun vs H Q E h => ?_) fun f cdv A outer s H vs Q E hr h => ?_
  · obtain ⟨x, y, a, b, c, d, rfl, _⟩ := h
    rfl
  · obtain ⟨x, y, a, b, c, d, rfl, hx, hy, b0, bl, d0, dl, al, cl, k⟩ := h
    refine ws_ret (R := fun H1 v H2 => ∃ u z, u ≤ a * d + c * b ∧ z ≤ b * d ∧ 0 < z ∧ T2 (u, z) v H2) (Ev.imp (R := fun H1 v H2 => ∃ u z, u ≤ a * d + c * b ∧ z ≤ b * d ∧ 0 < z ∧ T2 (u, z) v H2) ?_ (fun _ _ _ _ _ h => h)) fun v H2 e2 ⟨u, z, h1, h2, h3, h4⟩ => k v H2 u z h1 h2 h3 e2 h4
    have m1 : b * d < 10000 * 10000 := Nat.mul_lt_mul'' bl dl
    refine ev_callG (T := fun _ vs _ => vs = [.int ((a * d + c * b : Nat) : Int), .int ((b * d : Nat) : Int)]) (cal_lowest T) hr (Nat.le_refl 2) (EvA.g (ea_cons ((ev_add (ev_mul ?_ (ev_at0 (ev_name 0 rfl) hx) (ev_at1 (ev_name 1 rfl) hy)) (ev_mul ?_ (ev_at0 (ev_name 1 rfl) hy) (ev_at1 (ev_name 0 rfl) hx))).is_ ?_) (ea_cons ((ev_mul ?_ (ev_at1 (ev_name 0 rfl) hx) (ev_at1 (ev_name 1 rfl) hy)).is_ ?_) ea_nil))) fun H1 vs H2 e1 e2 t Q q => ?_
    · right; constructor <;> simp <;> omega
    · right; constructor <;> simp <;> omega
    · simp
    · right; constructor <;> simp <;> omega
    · simp
    · subst t
      exact ⟨a * d + c * b, b * d, rfl, Nat.mul_pos b0 d0, m1, fun v H' u z h1 h2 h3 h4 h5 => q v H' h4 ⟨u, z, h1, h2, h3, h5⟩⟩
/-! ### ends_at, first_standing, step -/
def lowN (p : Nat × Nat) (t : Nat) : Nat := t * p.1 / p.2
def highN (p : Nat × Nat) (t : Nat) : Nat := (t * p.1 + (p.2 - 1)) / p.2
theorem high_int (p : Nat × Nat) (t : Nat) (h : 0 < p.2) : -((-((t : Nat) : Int)) * (p.1 : Nat) / (p.2 : Nat)) = ((highN p t : Nat) : Int) := by
  unfold highN
  rw [Int.neg_mul]
  have e : ((t : Nat) : Int) * (p.1 : Nat) = ((t * p.1 : Nat) : Int) := by simp
  rw [e]
  generalize t * p.1 = m
  generalize p.2 = q at h ⊢
  have h1 := Nat.div_add_mod (m + (q - 1)) q
  have h2 := Nat.mod_lt (m + (q - 1)) h
  generalize (m + (q - 1)) / q = k at h1 ⊢
  generalize (m + (q - 1)) % q = r at h1 h2
  have h3 : ((q * k : Nat) : Int) = (q : Int) * (k : Int) := by simp
  generalize q * k = z at h1 h3
  have q0 : (0 : Int) < (q : Int) := by omega
  have a1 : -(k : Int) ≤ (-(m : Int)) / (q : Int) := (Int.le_ediv_iff_mul_le q0).mpr (by rw [Int.neg_mul, Int.mul_comm, ← h3]; omega)
  have a2 : (-(m : Int)) / (q : Int) < -(k : Int) + 1 := (Int.ediv_lt_iff_lt_mul q0).mpr (by rw [Int.add_mul, Int.neg_mul, Int.mul_comm (k : Int), ← h3]; omega)
  omega
end
end TS
/-! ## D4 -/
namespace TS
open PySem PySem.Spec PyProof.Rows L2
/-- a lot: its hands, its shares, its circle -/
structure LotD where
  many : Nat
  parts : List (Nat × Nat)
  circle : Nat
def LotD.ok (L : LotD) : Prop := 1 ≤ L.many ∧ L.many ≤ 3 ∧ 1 ≤ L.parts.length ∧ L.parts.length ≤ 3 ∧ (∀ p ∈ L.parts, 1 ≤ p.1 ∧ p.1 ≤ p.2 ∧ p.2 ≤ 6 ∧ p.2 ∣ L.circle) ∧ 1 ≤ L.circle ∧ L.circle ≤ 6
/-- a list of pairs that stands -/
def LP (ps : List (Nat × Nat)) (v : V) (H : Hp) : Prop := ∃ a vs, v = .ref a ∧ H a = some (.lst vs) ∧ All2 (fun p u => T2 p u H) ps vs
theorem LP.ex {ps : List (Nat × Nat)} {v : V} {H H' : Hp} (h : LP ps v H) (e : Ex H H') : LP ps v H' := let ⟨a, vs, h1, h2, h3⟩ := h; ⟨a, vs, h1, e _ _ h2, h3.imp fun _ _ z => z.ex e⟩
def IsLot (CL : Addr) (L : LotD) (v : V) (H : Hp) : Prop := ∃ a dx fs x, v = .ref a ∧ H a = some (.ins CL dx fs) ∧ fs.lookup ("many" : Str) = some (.int (L.many : Nat)) ∧ fs.lookup ("parts" : Str) = some x ∧ LP L.parts x H ∧ fs.lookup ("circle" : Str) = some (.int (L.circle : Nat))
theorem IsLot.ex {CL : Addr} {L : LotD} {v : V} {H H' : Hp} (h : IsLot CL L v H) (e : Ex H H') : IsLot CL L v H' := let ⟨a, dx, fs, x, h1, h2, h3, h4, h5, h6⟩ := h; ⟨a, dx, fs, x, h1, e _ _ h2, h3, h4, h5.ex e, h6⟩
theorem all2_len {α β : Type} {F : α → β → Prop} {as : List α} {bs : List β} (h : All2 F as bs) : bs.length = as.length := h.len.symm
section
variable {X : Cx} {a b c e o : Expr} {es : List Expr} {σ : L2.St} {H H' : Hp} {x y z v : V} {R R' : RT} {pos : Pos}
theorem ev_lotMany {CL : Addr} {L : LotD} (hc : Cls X.K CL) (hn : NoAttr X.K CL "many") (ha : Ev X a σ H (is x)) (h : IsLot CL L x H) (hb : attributeBase a "many" X.env (eval a X.env) = eval a X.env := by rfl) : Ev X (.Attribute a "many" pos) σ H (is (.int (L.many : Nat))) := by
  obtain ⟨q, dx, fs, y, rfl, h2, h3, h4, h5, h6⟩ := h
  exact ev_fld ha h2 hc hn h3 hb
theorem ev_lotCircle {CL : Addr} {L : LotD} (hc : Cls X.K CL) (hn : NoAttr X.K CL "circle") (ha : Ev X a σ H (is x)) (h : IsLot CL L x H) (hb : attributeBase a "circle" X.env (eval a X.env) = eval a X.env := by rfl) : Ev X (.Attribute a "circle" pos) σ H (is (.int (L.circle : Nat))) := by
  obtain ⟨q, dx, fs, y, rfl, h2, h3, h4, h5, h6⟩ := h
  exact ev_fld ha h2 hc hn h6 hb
theorem ev_lotParts {CL : Addr} {L : LotD} (hc : Cls X.K CL) (hn : NoAttr X.K CL "parts") (ha : Ev X a σ H (is x)) (h : IsLot CL L x H) (hb : attributeBase a "parts" X.env (eval a X.env) = eval a X.env := by rfl) : ∃ q vs, H q = some (.lst vs) ∧ All2 (fun p u => T2 p u H) L.parts vs ∧ Ev X (.Attribute a "parts" pos) σ H (is (.ref q)) := by
  obtain ⟨q, dx, fs, y, rfl, h2, h3, h4, ⟨p, vs, rfl, h7, h8⟩, h6⟩ := h
  exact ⟨p, vs, h7, h8, ev_fld ha h2 hc hn h4 hb⟩
end
section
variable {P : Program} {w : World} {K : PySem.W.Frag} {mg : Str → Option Value} {base : Heap} {CL CS CP : Addr}
theorem sc_ends_at : FnScope ["share", "moment"] ["share", "moment"] (defScope s_ends_at) := ⟨rfl, rfl, rfl, by decide +kernel, rfl, by decide +kernel, by decide +kernel⟩
def spEnds : Sp := fun vs H Q _ => ∃ (x : V) (p : Nat × Nat) (t : Nat), vs = [x, .int t] ∧ T2 p x H ∧ 0 < p.2 ∧ p.2 < 1000 ∧ p.1 < 1000 ∧ t < 1000 ∧ ∀ v H', Ex H H' → T2 (lowN p t, highN p t) v H' → Q v H'
theorem cal_ends_at (T : Txt K mg CL CS CP) : C8.Cal P w K mg base 1 "ends_at" spEnds [] := by
  refine cal_mk T.d_ends_at sc_ends_at (fun vs H Q E h => ?_) fun f cdv A outer s H vs Q E hr h => ?_
  · obtain ⟨x, p, t, rfl, _⟩ := h
    rfl
  · obtain ⟨x, p, t, rfl, hx, p0, pl, pl1, tl, k⟩ := h
    refine ws_ret (ev_tup (ea_cons (ev_fdiv ⟨by omega, by omega⟩ (ev_mul (.inr ⟨by omega, by omega⟩) (ev_name 1 rfl) (ev_at0 (ev_name 0 rfl) hx)) (ev_at1 (ev_name 0 rfl) hx)) (ea_cons (ev_neg (ev_fdiv ⟨by omega, by omega⟩ (ev_mul (.inr ⟨by omega, by omega⟩) (ev_neg (ev_name 1 rfl)) (ev_at0 (ev_name 0 rfl) hx)) (ev_at1 (ev_name 0 rfl) hx))) ea_nil)) (by show 2 ≤ 100000; decide)) fun v H2 e2 rv => ?_
    obtain ⟨q, rfl, h1, h2⟩ := rv
    refine k _ H2 e2 ⟨q, rfl, ?_⟩
    rw [h2, high_int p t p0]
    unfold lowN
    simp
theorem sc_first : FnScope ["lot", "share"] ["lot"] (defScope s_first_standing) := ⟨rfl, rfl, rfl, by decide +kernel, rfl, by decide +kernel, by decide +kernel⟩
def zeroN (n : Nat) : List Nat := (List.range n).map fun _ => 0
def spFirst (CL : Addr) : Sp := fun vs H Q _ => ∃ (x : V) (L : LotD), vs = [x] ∧ IsLot CL L x H ∧ L.ok ∧ ∀ v H', Ex H H' → TI (zeroN L.parts.length) v H' → Q v H'
theorem cal_first_standing (T : Txt K mg CL CS CP) : C8.Cal P w K mg base 1 "first_standing" (spFirst CL) [] := by
  refine cal_mk T.d_first_standing sc_first (fun vs H Q E h => ?_) fun f cdv A outer s H vs Q E hr h => ?_
  · obtain ⟨x, L, rfl, _⟩ := h
    rfl
  · obtain ⟨x, L, rfl, hx, ok, k⟩ := h
    obtain ⟨a0, dx, fs, y, rfl, i2, i3, i4, ⟨q, vs, rfl, hq, hvs⟩, i6⟩ := hx
    have hl := all2_len hvs
    have ok' : L.parts.length ≤ 3 := ok.2.2.2.1
    refine ws_ret (ev_tupleOf (P := fun ys _ => ys = nums (zeroN L.parts.length)) (Ev.imp (ev_comp (P := fun _ v _ => v = .int 0) (own := [("share", 1)]) rfl sc_first.nd (blkOk_by (own := [("share", 1)]) (N := ["lot", "share"]) (sc := defScope s_first_standing) (by decide +kernel)) (src_list (ev_fld (ev_name 0 rfl) i2 T.cLot T.aLot_parts i4) (SqL.of hq)) (by omega) hG_l (fun i => isP_sx (v := fun _ => .int 0) 0) hY_at (fun i x Ha Hb hi ea g y => ?_)) fun H1 v H2 e1 e2 r => ?_) (fun _ _ _ _ h => h) T.n_tuple) fun v H2 e2 rv => ?_
    · exact ⟨_, fun s H0 C cl fp => tgt_name 1 sc_first.nd, rfl, rfl, fun _ s H0 C cl fp => (ev_int).fits fun _ _ => rfl⟩
    · have q := newL_P (newC_all (g := fun _ => .int 0) r)
      obtain ⟨p, xs, h1, h2, h3, h4⟩ := q
      refine ⟨p, xs, h1, h2, h3, ?_⟩
      show xs = _
      rw [h4, hl]
      unfold nums zeroN
      rw [List.map_map]
      rfl
    · obtain ⟨p, xs, rfl, h2, h3, rfl⟩ := rv
      exact k _ H2 e2 ⟨p, rfl, h3⟩
end
end TS
/-! ## D5 -/
namespace TS
open PySem PySem.Spec PyProof.Rows L2
/-! ### plain -/
def plusL (s g : List Nat) : List Nat := (List.range s.length).map fun i => s.getD i 0 + if i ∈ g then 1 else 0
def newIn (b g : List Nat) : List Nat := g.filter fun i => !decide (i ∈ b)
def gbOk (s l : List Nat) : Bool := (List.range s.length).all fun i => decide (s.getD i 0 ≤ l.getD i 0) && decide (l.getD i 0 ≤ s.getD i 0 + 1)
def gbSet (s l : List Nat) : List Nat := picked s.length fun i => decide (s.getD i 0 < l.getD i 0)
def gb (s l : List Nat) (most : Nat) : Option (List Nat) := if gbOk s l = true ∧ (gbSet s l).length ≤ most then some (gbSet s l) else none
theorem getD_of {ns : List Nat} {i n : Nat} (h : ns[i]? = some n) : ns.getD i 0 = n := by
  rw [List.getD_eq_getElem?_getD, h]
  rfl
theorem some_of {ns : List Nat} {i : Nat} (h : i < ns.length) : ns[i]? = some (ns.getD i 0) := by
  rw [List.getD_eq_getElem?_getD, List.getElem?_eq_getElem h]
  rfl
theorem filter_take_picked (g : List Nat) (p : Nat → Bool) : ∀ n, n ≤ g.length → ((picked n fun i => p (g.getD i 0)).map fun i => g.getD i 0) = (g.take n).filter p
  | 0, _ => rfl
  | n + 1, h => by
    rw [picked_succ, List.map_append, filter_take_picked g p n (Nat.le_of_succ_le h)]
    have e : g.take (n + 1) = g.take n ++ [g.getD n 0] := by
      rw [List.take_succ, some_of (by omega)]
      rfl
    rw [e, List.filter_append]
    congr 1
    cases hp : p (g.getD n 0)
    · rw [if_neg (by decide), List.filter_cons, if_neg (by rw [hp]; decide)]; rfl
    · rw [if_pos rfl, List.filter_cons, if_pos hp]; rfl
theorem filter_len_picked (g : List Nat) (p : Nat → Bool) : ((picked g.length fun i => p (g.getD i 0)).map fun i => g.getD i 0) = g.filter p := by
  rw [filter_take_picked g p g.length (Nat.le_refl _), List.take_length]
section
variable {X : Cx} {a b c e o : Expr} {es : List Expr} {σ : L2.St} {H H' : Hp} {x y z v : V} {R R' : RT} {pos : Pos}
theorem et_chainLe {i n m : Int} (ha : Ev X a σ H (is (.int i))) (hb : Ev X b σ H (is (.int n))) (hc : Ev X c σ H (is (.int m))) (hm : lastMarks [.LtE, .LtE] [b, c] = false := by rfl) : EvT X (.Compare a [.LtE, .LtE] [b, c] pos) σ H (decide (i ≤ n) && decide (n ≤ m)) := fun H1 e1 Q q =>
  wT_of (pt_chain op_le op_le pe_w pe_w pe_w hm) (ha H1 e1 _ fun x' H2 e2 rx => hb H2 (e1.trans e2) _ fun y' H3 e3 ry => by
    cases rx; cases ry
    refine ⟨i, n, rfl, rfl, _, rfl, ?_⟩
    have e13 := (e1.trans e2).trans e3
    cases hk : decide (i ≤ n) with
    | true => exact iteT (hc H3 e13 _ fun w' H5 e5 rw' => by
        cases rw'
        refine ⟨n, m, rfl, rfl, _, rfl, ?_⟩
        rw [hk] at q
        exact q H5 ((e2.trans e3).trans e5))
    | false =>
      rw [hk] at q
      exact iteF ⟨false, rfl, q H3 (e2.trans e3)⟩)
theorem ev_lenP {P : List V → Hp → Prop} {n : Nat} {pn : Pos} (ha : Ev X e σ H (newP P)) (hP : ∀ xs H, P xs H → xs.length = n) (hm : X.mg "len" = none) (hg : Gl X "len" := by rfl) (hs : starEach [e] X.env = (false, eval e X.env) :: starEach [] X.env := by rfl) :
    Ev X (.Call (.Name "len" pn) [e] [] pos) σ H (is (.int (n : Nat))) :=
  ev_callBG (R := is (.int (n : Nat))) call_len_seq hm (by decide +kernel) (eg_one ha hs) (fun H1 vs H2 e1 e2 t Q q => by
    obtain ⟨v, rfl, Hm, em, ⟨p, xs, rfl, hp, hl, hh⟩, rfl⟩ := t
    refine ⟨p, xs, rfl, .inl (SqL.of hl), ?_⟩
    rw [hP xs _ hh]
    exact q _ _ (Ex.refl _) rfl) hg (by decide) (by decide) hs rfl
end
section
variable {P : Program} {w : World} {K : PySem.W.Frag} {mg : Str → Option Value} {base : Heap} {CL CS CP : Addr}
theorem sc_step : FnScope ["standing", "given", "at", "had"] ["standing", "given"] (defScope s_step) := ⟨rfl, rfl, rfl, by decide +kernel, rfl, by decide +kernel, by decide +kernel⟩
def spStep : Sp := fun vs H Q _ => ∃ (x y : V) (s g : List Nat), vs = [x, y] ∧ TI s x H ∧ TI g y H ∧ s.length ≤ 1000 ∧ ∀ v H', Ex H H' → TI (plusL s g) v H' → Q v H'
theorem cal_step (T : Txt K mg CL CS CP) : C8.Cal P w K mg base 1 "step" spStep [] := by
  refine cal_mk T.d_step sc_step (fun vs H Q E h => ?_) fun f cdv A outer s H vs Q E hr h => ?_
  · obtain ⟨x, y, s, g, rfl, _⟩ := h
    rfl
  · obtain ⟨x, y, sn, g, rfl, ⟨ax, rfl, hx⟩, hy, hl, k⟩ := h
    refine ws_ret (ev_tupleOf (P := fun ys _ => ys = nums (plusL sn g)) (Ev.imp (ev_comp (P := fun i v _ => v = .int ((sn.getD i 0 + if i ∈ g then 1 else 0 : Nat) : Int)) (own := [("at", 2), ("had", 3)]) rfl sc_step.nd (blkOk_by (own := [("at", 2), ("had", 3)]) (N := ["standing", "given", "at", "had"]) (sc := defScope s_step) (by decide +kernel)) (src_en (ea_cons (ev_name 0 rfl) ea_nil) (SqT.of hx) T.n_enumerate) (by rw [nums_len]; omega) hG_t (fun i => isP_sx (v := fun i => .int ((sn.getD i 0 + if i ∈ g then 1 else 0 : Nat) : Int)) i) hY_pair (fun i x Ha Hb hi ea gg y => ?_)) fun H1 v H2 e1 e2 r => ?_) (fun _ _ _ _ h => h) T.n_tuple) fun v H2 e2 rv => ?_
    · obtain ⟨Tt, u, z, rfl, hn, rfl, h1, h2⟩ := y
      cases h1
      have hi' : i < sn.length := by rw [nums_len] at hi; exact hi
      have h2 : (nums sn)[i]? = some z := h2
      rw [nums_get (some_of hi')] at h2
      cases h2
      refine ⟨_, fun s H0 C cl fp => tgt_tup rfl (SqT.of upd_same) rfl (tgs_cons (tgt_name 2 sc_step.nd) (tgs_cons (tgt_name 3 sc_step.nd) tgs_nil)), rfl, rfl, fun _ s H0 C cl fp => ?_⟩
      refine Ev.fits (x := .int ((sn.getD i 0 + if i ∈ g then 1 else 0 : Nat) : Int)) ?_ fun _ _ => rfl
      refine ev_if (et_inTI (n := i) (ns := g) (ev_name 2 rfl) (ev_name 1 rfl) (hy.ex (ea.trans (Ex.new hn)))) (fun hk => ?_) fun hk => ?_
      · have hk := of_decide_eq_true hk
        exact (ev_add (ev_name 3 rfl) ev_int).is_ (by rw [if_pos hk]; rfl)
      · have hk := of_decide_eq_false hk
        exact (ev_name 3 rfl).is_ (by rw [if_neg hk]; rfl)
    · have q := newL_P (newC_all (g := fun i => .int ((sn.getD i 0 + if i ∈ g then 1 else 0 : Nat) : Int)) r)
      obtain ⟨p, xs, h1, h2, h3, h4⟩ := q
      refine ⟨p, xs, h1, h2, h3, ?_⟩
      show xs = _
      rw [h4, nums_len]
      unfold nums plusL
      rw [List.map_map]
      rfl
    · obtain ⟨p, xs, rfl, h2, h3, rfl⟩ := rv
      exact k _ H2 e2 ⟨p, rfl, h3⟩
theorem sc_starts_between : FnScope ["before", "given", "at"] ["before", "given"] (defScope s_starts_between) := ⟨rfl, rfl, rfl, by decide +kernel, rfl, by decide +kernel, by decide +kernel⟩
def spStarts : Sp := fun vs H Q _ => ∃ (x y : V) (b g : List Nat), vs = [x, y] ∧ TI b x H ∧ TI g y H ∧ g.length ≤ 1000 ∧ ∀ H', Ex H H' → Q (.int ((newIn b g).length : Nat)) H'
theorem cal_starts_between (T : Txt K mg CL CS CP) : C8.Cal P w K mg base 1 "starts_between" spStarts [] := by
  refine cal_mk T.d_starts_between sc_starts_between (fun vs H Q E h => ?_) fun f cdv A outer s H vs Q E hr h => ?_
  · obtain ⟨x, y, s, g, rfl, _⟩ := h
    rfl
  · obtain ⟨x, y, bn, gn, rfl, hx, ⟨ay, rfl, hy⟩, hl, k⟩ := h
    refine ws_ret (ev_lenP (P := fun ys _ => ys.length = (newIn bn gn).length) (Ev.imp (ev_compIf (P := fun i v _ => v = .int ((gn.getD i 0 : Nat) : Int)) (f := fun i => !decide (gn.getD i 0 ∈ bn)) (own := [("at", 2)]) rfl sc_starts_between.nd (blkOk_by (own := [("at", 2)]) (N := ["before", "given", "at"]) (sc := defScope s_starts_between) (by decide +kernel)) (src_tup (ev_name 1 rfl) (SqT.of hy)) (by rw [nums_len]; omega) hG_t (fun i => isP_sx (v := fun i => .int ((gn.getD i 0 : Nat) : Int)) i) hY_at (fun i x Ha Hb hi ea gg y => ?_)) fun H1 v H2 e1 e2 r => ?_) (fun _ _ h => h) T.n_len) fun v H2 e2 rv => ?_
    · obtain ⟨rfl, h2⟩ := y
      have hi' : i < gn.length := by rw [nums_len] at hi; exact hi
      rw [nums_get (some_of hi')] at h2
      cases h2
      exact ⟨_, fun s H0 C cl fp => tgt_name 2 sc_starts_between.nd, rfl, fun s H0 C cl fp => et_notInTI (ev_name 2 rfl) (ev_name 0 rfl) (hx.ex ea), fun _ s H0 C cl fp => Ev.fits (ev_name 2 rfl) fun _ _ => rfl⟩
    · obtain ⟨p, h1, h2, h3⟩ := newC_map (g := fun i => .int ((gn.getD i 0 : Nat) : Int)) r
      refine ⟨p, _, h1, h2, h3, ?_⟩
      show (List.map _ (picked (nums gn).length _)).length = _
      rw [List.length_map, nums_len]
      have q := congrArg List.length (filter_len_picked gn fun i => !decide (i ∈ bn))
      rw [List.length_map] at q
      exact q
    · cases rv
      exact k H2 e2
theorem sc_given_between : FnScope ["standing", "later", "most", "found", "at", "had"] ["standing", "later", "most"] (defScope s_given_between) := ⟨rfl, rfl, rfl, by decide +kernel, rfl, by decide +kernel, by decide +kernel⟩
/-- None or a tuple -/
def TO (g : Option (List Nat)) (v : V) (H : Hp) : Prop := match g with
  | none => v = .non
  | some g => TI g v H
theorem TO.sx {g : Option (List Nat)} : SMono (TO g) := fun v H H' e h => by
  cases g with
  | none => exact h
  | some g => exact TI.sx v H H' e h
def spGiven : Sp := fun vs H Q _ => ∃ (x y : V) (s l : List Nat) (m : Nat), vs = [x, y, .int m] ∧ TI s x H ∧ TI l y H ∧ s.length ≤ 1000 ∧ l.length = s.length ∧ ∀ v H', Ex H H' → TO (gb s l m) v H' → Q v H'
theorem gbOk_true {s l : List Nat} (h : ∀ i, i < s.length → s.getD i 0 ≤ l.getD i 0 ∧ l.getD i 0 ≤ s.getD i 0 + 1) : gbOk s l = true := List.all_eq_true.mpr fun i hi => by
  obtain ⟨h1, h2⟩ := h i (List.mem_range.mp hi)
  rw [decide_eq_true h1, decide_eq_true h2]
  rfl
theorem gbOk_false {s l : List Nat} {i : Nat} (hi : i < s.length) (h : ¬ (s.getD i 0 ≤ l.getD i 0 ∧ l.getD i 0 ≤ s.getD i 0 + 1)) : gbOk s l = false := by
  cases e : gbOk s l with
  | false => rfl
  | true =>
    have q := List.all_eq_true.mp e i (List.mem_range.mpr hi)
    rw [Bool.and_eq_true] at q
    exact absurd ⟨of_decide_eq_true q.1, of_decide_eq_true q.2⟩ h
theorem cal_given_between (T : Txt K mg CL CS CP) : C8.Cal P w K mg base 1 "given_between" spGiven [] := by
  refine cal_mk T.d_given_between sc_given_between (fun vs H Q E h => ?_) fun f cdv A outer s H vs Q E hr h => ?_
  · obtain ⟨x, y, s, g, m, rfl, _⟩ := h
    rfl
  · obtain ⟨x, y, sn, ln, m, rfl, ⟨ax, rfl, hx⟩, hy, hsl, hll, k⟩ := h
    refine ws_set 3 sc_given_between.nd (ev_lst ea_nil (by show 0 ≤ 100000; decide)) fun v H1 e1 ⟨fl, hv, hfn, hf⟩ => ?_
    subst hv
    refine ws_for PassesOwn.never rfl (src_en (ea_cons (ev_name 0 rfl) ea_nil) (SqT.of (e1 _ _ hx)) T.n_enumerate)
      (fun i σ' H' => (∃ x1 x2, σ' = [some (.ref ax), some y, some (.int m), some (.ref fl), x1, x2]) ∧ Ex H H' ∧ H' fl = some (.lst (nums (picked i fun i => decide (sn.getD i 0 < ln.getD i 0)))) ∧ ∀ j, j < i → sn.getD j 0 ≤ ln.getD j 0 ∧ ln.getD j 0 ≤ sn.getD j 0 + 1)
      (fun H2 e2 _ => ⟨⟨_, _, rfl⟩, e1.trans e2, e2 _ _ hf, fun j hj => absurd hj (Nat.not_lt_zero j)⟩) (fun i σ' H' _ p => SqT.of (p.2.1 _ _ hx)) (fun i x σ' Ha Hb hi p yy => ?_) fun σ' H' p => ?_
    · obtain ⟨⟨x1, x2, rfl⟩, ex, hfl, hok⟩ := p
      obtain ⟨Tt, u, z, rfl, hn, rfl, h1, h2⟩ := yy
      cases h1
      have hi' : i < sn.length := by rw [nums_len] at hi; exact hi
      have h2 : (nums sn)[i]? = some z := h2
      rw [nums_get (some_of hi')] at h2
      cases h2
      have e3 : Ex H (upd Ha Tt (.tup [.int (i : Nat), .int (sn.getD i 0 : Nat)])) := ex.trans (Ex.new hn)
      have hfl2 : (upd Ha Tt (.tup [.int (i : Nat), .int (sn.getD i 0 : Nat)])) fl = some (.lst (nums (picked i fun i => decide (sn.getD i 0 < ln.getD i 0)))) := Ex.new hn _ _ hfl
      have hli : ln[i]? = some (ln.getD i 0) := some_of (by omega)
      refine ⟨_, tgt_tup rfl (SqT.of upd_same) rfl (tgs_cons (tgt_name 4 sc_given_between.nd) (tgs_cons (tgt_name 5 sc_given_between.nd) tgs_nil)), ?_⟩
      refine ws_if (k := !(decide ((0 : Int) ≤ (ln.getD i 0 : Nat) - (sn.getD i 0 : Nat)) && decide (((ln.getD i 0 : Nat) : Int) - (sn.getD i 0 : Nat) ≤ 1))) (et_not (et_chainLe ev_int (ev_sub (ev_atTI (ev_name 1 rfl) (hy.ex e3) (ev_name 4 rfl) hli) (ev_name 5 rfl)) ev_int)) (fun hk H3 e4 => ?_) fun hk H3 e4 => ?_
      · refine ws_ret ev_non fun v H4 e5 rv => ?_
        cases rv
        refine k _ _ ((e3.trans e4).trans e5) ?_
        have hb : gb sn ln m = none := by
          unfold gb
          rw [gbOk_false hi' (fun z => ?_)]
          · simp
          · rw [decide_eq_true (by omega), decide_eq_true (by omega)] at hk
            cases hk
        rw [hb]
        exact rfl
      · have hin : sn.getD i 0 ≤ ln.getD i 0 ∧ ln.getD i 0 ≤ sn.getD i 0 + 1 := by
          simp only [Bool.not_eq_false', Bool.and_eq_true, decide_eq_true_eq] at hk
          omega
        have hok' : ∀ j, j < i + 1 → sn.getD j 0 ≤ ln.getD j 0 ∧ ln.getD j 0 ≤ sn.getD j 0 + 1 := fun j hj => by
          rcases Nat.lt_succ_iff_lt_or_eq.mp hj with q | q
          · exact hok j q
          · subst q; exact hin
        refine ws_nil ?_
        refine ws_if (et_gt (ev_atTI (ev_name 1 rfl) (hy.ex (e3.trans e4)) (ev_name 4 rfl) hli) (ev_name 5 rfl)) (fun hk H4 e5 => ?_) fun hk H4 e5 => ?_
        · have hlt : sn.getD i 0 < ln.getD i 0 := by
            have := of_decide_eq_true hk
            omega
          have hz : (nums (picked i fun i => decide (sn.getD i 0 < ln.getD i 0))).length < 100000 := by
            rw [nums_len]
            have := picked_len i fun i => decide (sn.getD i 0 < ln.getD i 0)
            omega
          refine ws_append (e5 _ _ (e4 _ _ hfl2)) hz (ev_name 3 rfl) (ev_name 4 rfl) fun v H5 e6 rv => ?_
          cases rv
          refine ws_nil (ws_nil ⟨⟨_, _, rfl⟩, ?_, ?_, hok'⟩)
          · exact Ex.mut (((e3.trans e4).trans e5).trans e6) hfn
          · rw [upd_same, picked_succ, if_pos (decide_eq_true hlt)]
            unfold nums
            rw [List.map_append]
            rfl
        · have hlt : ¬ sn.getD i 0 < ln.getD i 0 := by
            have := of_decide_eq_false hk
            omega
          refine ws_nil (ws_nil ⟨⟨_, _, rfl⟩, (e3.trans e4).trans e5, ?_, hok'⟩)
          rw [picked_succ, if_neg (by rw [decide_eq_false hlt]; decide), List.append_nil]
          exact e5 _ _ (e4 _ _ hfl2)
    · obtain ⟨⟨x1, x2, rfl⟩, ex, hfl, hok⟩ := p
      rw [nums_len] at hfl hok
      have hg : gbOk sn ln = true := gbOk_true hok
      refine ws_ret (R := fits (TO (gb sn ln m))) ?_ fun v H2 e2 rv => k _ _ (ex.trans e2) rv
      refine ev_if (et_le (i := ((gbSet sn ln).length : Nat)) (j := (m : Nat)) ((ev_lenQ (ev_name 3 rfl) (.inl (SqL.of hfl)) T.n_len).is_ (by rw [nums_len]; rfl)) (ev_name 2 rfl)) (fun hk => ?_) fun hk => ?_
      · have hk := of_decide_eq_true hk
        have hb : gb sn ln m = some (gbSet sn ln) := if_pos ⟨hg, by omega⟩
        rw [hb]
        refine ev_callTy (R := fits (TO (some (gbSet sn ln)))) call_tuple_of T.n_tuple (by decide +kernel) (ea_cons (ev_name 3 rfl) ea_nil) fun H1 e1 Q q => ⟨fl, _, rfl, .inl ⟨SqL.of (e1 _ _ hfl), fun l hl => q _ _ (Ex.new hl) ⟨l, rfl, upd_same⟩⟩⟩
      · have hk := of_decide_eq_false hk
        have hb : gb sn ln m = none := if_neg fun z => hk (by have := z.2; omega)
        rw [hb]
        exact ev_non.fits fun _ _ => rfl
end
end TS
/-! ## D6 -/
namespace TS
open PySem PySem.Spec PyProof.Rows L2
def spread (p : Nat × Nat) (t : Nat) (some : List Nat) : List (List Nat) := (List.range (highN p t + 1 - lowN p t)).map fun j => some ++ [lowN p t + j]
def standsStep (t : Nat) (found : List (List Nat)) (p : Nat × Nat) : List (List Nat) := found.flatMap (spread p t)
def standsAt (parts : List (Nat × Nat)) (t : Nat) : List (List Nat) := parts.foldl (standsStep t) [[]]
theorem foldl_take_succ {α β : Type} (f : β → α → β) (b : β) (l : List α) {i : Nat} {x : α} (h : l[i]? = some x) : (l.take (i + 1)).foldl f b = f ((l.take i).foldl f b) x := by
  rw [List.take_succ, h, List.foldl_append]
  rfl
theorem prs_map {α : Type} (m : Nat → Nat) (f : Nat × Nat → α) : ∀ n, (prs m n).map f = (List.range n).flatMap fun i => (List.range (m i)).map fun j => f (i, j) := fun n => by
  unfold prs
  rw [List.map_flatMap]
  congr 1
  funext i
  rw [List.map_map]
  rfl
theorem range_flat {α β : Type} [Inhabited α] (l : List α) (f : α → List β) : ((List.range l.length).flatMap fun i => f (l.getD i default)) = l.flatMap f := by
  have e : (List.range l.length).map (fun i => l.getD i default) = l := by
    refine List.ext_getElem? fun i => ?_
    rw [List.getElem?_map]
    by_cases h : i < l.length
    · rw [List.getElem?_range h]
      show some (l.getD i default) = l[i]?
      rw [List.getD_eq_getElem?_getD, List.getElem?_eq_getElem h]
      rfl
    · rw [List.getElem?_eq_none (by rw [List.length_range]; omega), List.getElem?_eq_none (by omega)]
      rfl
  conv => rhs; rw [← e]
  rw [List.flatMap_map]
theorem prsJ_len_const (m i j k : Nat) : (prsJ (fun _ => m) i j).length = i * m + j := by
  unfold prsJ prs
  rw [List.length_append, List.length_map, List.length_range]
  congr 1
  induction i with
  | zero => simp
  | succ i ih => rw [List.range_succ, List.flatMap_append, List.length_append, ih]; simp [Nat.succ_mul]
theorem high_le (p : Nat × Nat) (t : Nat) (h : 0 < p.2) : highN p t ≤ lowN p t + 1 := by
  unfold highN lowN
  have h1 := Nat.div_add_mod (t * p.1) p.2
  have h2 := Nat.mod_lt (t * p.1) h
  have : (t * p.1 + (p.2 - 1)) / p.2 < t * p.1 / p.2 + 2 := (Nat.div_lt_iff_lt_mul h).mpr (by rw [Nat.add_mul, Nat.mul_comm (t * p.1 / p.2)]; omega)
  omega
theorem spread_len (p : Nat × Nat) (t : Nat) (s : List Nat) (h : 0 < p.2) : (spread p t s).length ≤ 2 := by
  unfold spread
  rw [List.length_map (as := List.range _), List.length_range]
  have := high_le p t h
  omega
theorem flat_len {α β : Type} {f : α → List β} {k : Nat} : ∀ {l : List α}, (∀ a ∈ l, (f a).length ≤ k) → (l.flatMap f).length ≤ l.length * k
  | [], _ => by simp
  | a :: l, h => by
    rw [List.flatMap_cons, List.length_append, List.length_cons, Nat.succ_mul]
    have h1 := h a (List.mem_cons_self ..)
    have h2 := flat_len (l := l) fun b hb => h b (List.mem_cons_of_mem _ hb)
    omega
theorem standsTake_len (parts : List (Nat × Nat)) (t : Nat) (h : ∀ p ∈ parts, 0 < p.2) : ∀ i, i ≤ parts.length → ((parts.take i).foldl (standsStep t) [[]]).length ≤ 2 ^ i ∧ ∀ s ∈ (parts.take i).foldl (standsStep t) [[]], s.length = i
  | 0, _ => ⟨by simp, fun s hs => by simp at hs; rw [hs]; rfl⟩
  | i + 1, hi => by
    obtain ⟨h1, h2⟩ := standsTake_len parts t h i (Nat.le_of_succ_le hi)
    have hg : parts[i]? = some parts[i] := List.getElem?_eq_getElem hi
    have hp := h _ (List.mem_of_getElem? hg)
    rw [foldl_take_succ _ _ _ hg]
    refine ⟨?_, fun s hs => ?_⟩
    · have q := flat_len (f := spread parts[i] t) (k := 2) (l := (parts.take i).foldl (standsStep t) [[]]) fun a _ => spread_len _ _ _ hp
      rw [Nat.pow_succ]
      have q2 : (standsStep t ((parts.take i).foldl (standsStep t) [[]]) parts[i]).length ≤ ((parts.take i).foldl (standsStep t) [[]]).length * 2 := q
      omega
    · obtain ⟨u, hu, hs⟩ := List.mem_flatMap.mp hs
      obtain ⟨j, _, rfl⟩ := List.mem_map.mp hs
      rw [List.length_append, h2 u hu]
      rfl
theorem standsAt_len (parts : List (Nat × Nat)) (t : Nat) (h : ∀ p ∈ parts, 0 < p.2) : (standsAt parts t).length ≤ 2 ^ parts.length ∧ ∀ s ∈ standsAt parts t, s.length = parts.length := by
  have q := standsTake_len parts t h parts.length (Nat.le_refl _)
  rw [List.take_length] at q
  exact q
/-- a list of tuples of numbers -/
def TIs (ss : List (List Nat)) (vs : List V) (H : Hp) : Prop := All2 (fun s v => TI s v H) ss vs
def LTI (ss : List (List Nat)) (v : V) (H : Hp) : Prop := ∃ a vs, v = .ref a ∧ H a = some (.lst vs) ∧ TIs ss vs H
theorem TIs.sx {ss : List (List Nat)} {vs : List V} {H H' : Hp} (e : Sx H H') (h : TIs ss vs H) : TIs ss vs H' := h.imp fun s v z => TI.sx v H H' e z
theorem TIs.ex {ss : List (List Nat)} {vs : List V} {H H' : Hp} (h : TIs ss vs H) (e : Ex H H') : TIs ss vs H' := h.sx e.sx
theorem LTI.ex {ss : List (List Nat)} {v : V} {H H' : Hp} (h : LTI ss v H) (e : Ex H H') : LTI ss v H' := let ⟨a, vs, h1, h2, h3⟩ := h; ⟨a, vs, h1, e _ _ h2, h3.ex e⟩
theorem All2.nth {α β : Type} {F : α → β → Prop} {as : List α} {bs : List β} (h : All2 F as bs) {i : Nat} {b : β} (hb : bs[i]? = some b) (d : α) : F (as.getD i d) b := by
  obtain ⟨a, h1, h2⟩ := h.at hb
  rw [List.getD_eq_getElem?_getD, h1]
  exact h2
theorem All2.maps {α β γ : Type} {F : γ → β → Prop} {f : α → γ} : ∀ {as : List α} {bs : List β}, All2 (fun a b => F (f a) b) as bs → All2 F (as.map f) bs
  | _, _, .nil => .nil
  | _, _, .cons x t => .cons x (All2.maps t)
section
variable {X : Cx} {a b c e o : Expr} {es : List Expr} {σ : L2.St} {H H' : Hp} {x y z v : V} {R R' : RT} {pos : Pos}
theorem rng2_Y {m : Int} : ∀ (i : Nat) (H : Hp) (x : V) (H' : Hp), YFn (fun i : Nat => V.int (m + (i : Nat))) i H x H' → Ex H H' := hY_fn
end
section
variable {P : Program} {w : World} {K : PySem.W.Frag} {mg : Str → Option Value} {base : Heap} {CL CS CP : Addr}
abbrev nStands : List Str := ["lot", "moment", "found", "share", "low", "high", "some", "had"]
theorem sc_standings_at : FnScope nStands ["lot", "moment"] (defScope s_standings_at) := ⟨rfl, rfl, rfl, by decide +kernel, rfl, by decide +kernel, by decide +kernel⟩
def spStands (CL : Addr) : Sp := fun vs H Q _ => ∃ (x : V) (L : LotD) (t : Nat), vs = [x, .int t] ∧ IsLot CL L x H ∧ L.ok ∧ t < 1000 ∧ ∀ a us H', Ex H H' → H a = none → H' a = some (.lst us) → TIs (standsAt L.parts t) us H' → Q (.ref a) H'
theorem cal_standings_at (T : Txt K mg CL CS CP) : C8.Cal P w K mg base 2 "standings_at" (spStands CL) [] := by
  refine cal_mk T.d_standings_at sc_standings_at (fun vs H Q E h => ?_) fun f cdv A outer s H vs Q E hr h => ?_
  · obtain ⟨x, L, t, rfl, _⟩ := h
    rfl
  · obtain ⟨x, L, t, rfl, hx, ok, ht, k⟩ := h
    obtain ⟨a0, dx, fs, y, rfl, i2, i3, i4, ⟨q, vs, rfl, hq, hvs⟩, i6⟩ := hx
    have ok' : L.parts.length ≤ 3 := ok.2.2.2.1
    have pp := ok.2.2.2.2.1
    have hl := hvs.len
    have hp0 : ∀ p ∈ L.parts, 0 < p.2 := fun p hp => by have := pp p hp; omega
    refine ws_set 2 sc_standings_at.nd (ev_lstG (eg_one (ev_tup ea_nil (by show 0 ≤ 100000; decide))) (fun H1 vs H2 ⟨v, e, _⟩ => by rw [e]; show 1 ≤ 100000; decide)) fun v H1 e1 rv => ?_
    obtain ⟨ws, Hm, fl, rfl, em, ⟨u, rfl, Hm2, em2, ⟨p, rfl, hpn, hpt⟩, rfl⟩, hfn, hfn0, rfl⟩ := rv
    refine ws_for (σ := _) PassesOwn.never rfl (src_list (ev_fld (ev_name 0 rfl) (e1 _ _ i2) T.cLot T.aLot_parts i4) (SqL.of (e1 _ _ hq)))
      (fun i σ' H' => (∃ x1 x2 x3 x4 x5 fa us, σ' = [some (.ref a0), some (.int t), some (.ref fa), x1, x2, x3, x4, x5] ∧ H fa = none ∧ H' fa = some (.lst us) ∧ TIs ((L.parts.take i).foldl (standsStep t) [[]]) us H') ∧ Ex H H')
      (fun H2 e2 _ => ⟨⟨_, _, _, _, _, fl, [.ref p], rfl, hfn0, e2 _ _ upd_same, .cons ⟨p, rfl, e2 _ _ (Ex.new hfn _ _ hpt)⟩ .nil⟩, e1.trans e2⟩) (fun i σ' H' _ p => SqL.of (p.2 _ _ hq)) (fun i x σ' Ha Hb hi p yy => ?_) fun σ' H' p => ?_
    · obtain ⟨⟨x1, x2, x3, x4, x5, fa, us, rfl, fan, hfa, hus⟩, ex⟩ := p
      obtain ⟨rfl, hxi⟩ := yy
      obtain ⟨pr, hpr, hT⟩ := hvs.at hxi
      have hprm := List.mem_of_getElem? hpr
      have hpp := pp pr hprm
      have hil : i < L.parts.length := by omega
      refine ⟨_, tgt_name 3 sc_standings_at.nd, ?_⟩
      refine ws_asgT (R := fits (T2 (lowN pr t, highN pr t))) (ev_callG (T := fun _ vs _ => vs = [x, .int t]) (cal_ends_at (P := P) (w := w) (base := base) T) hr (Nat.le_refl 1) (EvA.g (ea_cons (ev_name 3 rfl) (ea_cons (ev_name 1 rfl) ea_nil))) fun H1 vs H2 e1 e2 tt Q q => by
        subst tt
        exact ⟨x, pr, t, rfl, hT.ex ((ex.trans e1).trans e2), by omega, by omega, by omega, by omega, fun v H' e3 h3 => q v H' e3 h3⟩) fun v H2 e2 rv => ?_
      obtain ⟨ta, rfl, hta⟩ := rv
      refine ⟨_, tgt_tup rfl (SqT.of hta) rfl (tgs_cons (tgt_name 4 sc_standings_at.nd) (tgs_cons (tgt_name 5 sc_standings_at.nd) tgs_nil)), ?_⟩
      obtain ⟨sl, sm⟩ := standsTake_len L.parts t hp0 i (Nat.le_of_lt hil)
      have h8 : 2 ^ i ≤ 2 ^ 3 := Nat.pow_le_pow_right (by decide) (by omega)
      have hul := hus.len
      have hhl := high_le pr t (hp0 pr hprm)
      have hlo : lowN pr t ≤ 6000 := by
        unfold lowN
        have h1 : t * pr.1 ≤ 1000 * 6 := Nat.mul_le_mul (by omega) (by omega)
        exact Nat.le_trans (Nat.div_le_self _ _) h1
      have usx := hus.ex e2
      refine ws_setC2 (n := us.length) 2 [("some", 6), ("had", 7)] [7] rfl sc_standings_at.nd (blkOk_by (own := [("some", 6), ("had", 7)]) (N := nStands) (sc := defScope s_standings_at) (by decide +kernel)) (by decide) (src_list (ev_name 2 rfl) (SqL.of (e2 _ _ hfa))) (fun _ => highN pr t + 1 - lowN pr t) (fun i' j' h1 h2 => ?_) hG_l (fun ij v Hx => TI (((L.parts.take i).foldl (standsStep t) [[]]).getD ij.1 [] ++ [lowN pr t + ij.2]) v Hx) (fun _ => TI.sx) hY_at (fun i' x' Hc Hd hi' ec gg yc => ?_) (fun v H3 e3 rv => ?_) (sw_true rfl rfl rfl (by decide +kernel))
      · rw [prsJ_len_const _ _ _ 0]
        have : i' * (highN pr t + 1 - lowN pr t) ≤ 8 * 2 := Nat.mul_le_mul (by omega) (by omega)
        omega
      · obtain ⟨rfl, hx'⟩ := yc
        have hTi := usx.nth hx' []
        obtain ⟨sa, rfl, hsa⟩ := hTi
        refine ⟨_, fun s H0 C cl fp => tgt_name 6 sc_standings_at.nd, rfl, YFn (fun i : Nat => V.int ((lowN pr t + i : Nat) : Int)), fun s H0 C cl fp => src_rangeN (n := highN pr t + 1) (ea_cons (ev_name 4 rfl) (ea_cons ((ev_add (ev_name 5 rfl) ev_int).is_ rfl) ea_nil)) (by omega) (by omega) T.n_range, hY_fn, fun j y He Hf hj ee yf => ?_⟩
        obtain ⟨rfl, rfl⟩ := yf
        refine ⟨_, fun s H0 C cl fp => tgt_name 7 sc_standings_at.nd, rfl, fun s H0 C cl fp => ?_⟩
        refine Ev.imp (ev_tup (ea_star (xs := nums (((L.parts.take i).foldl (standsStep t) [[]]).getD i' [])) (ev_name 6 rfl) (.inl (SqT.of (ee _ _ hsa))) (ea_cons (ev_name 7 rfl) ea_nil)) ?_) fun H5 v H6 e5 e6 rv => ?_
        · have hm : ((L.parts.take i).foldl (standsStep t) [[]]).getD i' [] ∈ (L.parts.take i).foldl (standsStep t) [[]] := by
            rw [List.getD_eq_getElem?_getD, List.getElem?_eq_getElem (by omega)]
            exact List.getElem_mem _
          rw [List.length_append, nums_len, sm _ hm]
          show i + 1 ≤ 100000
          omega
        · obtain ⟨p, rfl, _, h2⟩ := rv
          refine ⟨p, rfl, ?_⟩
          rw [h2]
          unfold nums
          rw [List.map_append]
          rfl
      · obtain ⟨p, xs, rfl, hp1, hp2, hp3⟩ := rv
        refine ws_nil ⟨⟨_, _, _, _, _, p, xs, rfl, ?_, hp2, ?_⟩, (ex.trans e2).trans e3⟩
        · exact (ex.trans e2).back hp1
        · rw [foldl_take_succ _ _ _ hpr]
          have z := All2.maps (F := fun s v => TI s v H3) hp3
          rw [prs_map (fun _ => highN pr t + 1 - lowN pr t) (fun ij : Nat × Nat => ((L.parts.take i).foldl (standsStep t) [[]]).getD ij.1 [] ++ [lowN pr t + ij.2])] at z
          have z2 := range_flat ((L.parts.take i).foldl (standsStep t) [[]]) (spread pr t)
          rw [hul] at z2
          have z3 : TIs (((List.range us.length).flatMap fun i_1 => spread pr t (((L.parts.take i).foldl (standsStep t) [[]]).getD i_1 []))) xs H3 := z
          have z4 : ((List.range us.length).flatMap fun i_1 => spread pr t (((L.parts.take i).foldl (standsStep t) [[]]).getD i_1 [])) = standsStep t ((L.parts.take i).foldl (standsStep t) [[]]) pr := z2
          rw [← z4]
          exact z3
    · obtain ⟨⟨x1, x2, x3, x4, x5, fa, us, rfl, fan, hfa, hus⟩, ex⟩ := p
      rw [← hl, List.take_length] at hus
      refine ws_ret (ev_name 2 rfl) fun v H2 e2 rv => ?_
      cases rv
      exact k fa us _ (ex.trans e2) fan (e2 _ _ hfa) (hus.ex e2)
end
end TS
/-! ## B5 -/
namespace TS
open PySem PySem.Spec PyProof.Rows L2
/-! ### fields as targets -/
theorem upd_id {H : Hp} {a : Addr} {o : HO} (h : H a = some o) : upd H a o = H := by
  funext b
  unfold upd
  by_cases e : b = a
  · rw [if_pos e, e, h]
  · rw [if_neg e]
/-- all but x stay -/
def ExB (x : Addr) (H H' : Hp) : Prop := ∀ b o, b ≠ x → H b = some o → H' b = some o
theorem ExB.refl (x : Addr) (H : Hp) : ExB x H H := fun _ _ _ h => h
theorem ExB.trans {x : Addr} {H H1 H2 : Hp} (a : ExB x H H1) (b : ExB x H1 H2) : ExB x H H2 := fun c o n h => b c o n (a c o n h)
theorem Ex.b {H H' : Hp} (h : Ex H H') (x : Addr) : ExB x H H' := fun b o _ e => h b o e
theorem ExB.upd (x : Addr) (H : Hp) (o : HO) : ExB x H (upd H x o) := fun b u n h => by rw [upd_ne n]; exact h
section
variable {X : Cx} {a b c e o : Expr} {es : List Expr} {σ : L2.St} {H H' : Hp} {x y z v : V} {R R' : RT} {pos : Pos} {r : R2} {k j : Bool} {D : Ends} {rest sts : List Stmt} {q C dx : Addr} {fs fs' fs2 : List (Str × V)}
def TgtU (X : Cx) (tg : Expr) (x : V) (σ : L2.St) (q C dx : Addr) (fs fs' : List (Str × V)) : Prop := ∀ H1 : Hp, H1 q = some (.ins C dx fs) → ∀ Q : L2.St → Hp → Prop, Q σ (upd H1 q (.ins C dx fs')) → wG X tg x σ H1 Q
def TgtUs (X : Cx) (ts : List Expr) (xs : List V) (σ : L2.St) (q C dx : Addr) (fs fs' : List (Str × V)) : Prop := ∀ H1 : Hp, H1 q = some (.ins C dx fs) → ∀ Q : L2.St → Hp → Prop, Q σ (upd H1 q (.ins C dx fs')) → wGs X ts xs σ H1 Q
theorem tgu_fld (i : Nat) {n f : Str} {pn : Pos} (hs : σ[i]? = some (some (.ref q))) (c : Cls X.K C) (hf : NoAttr X.K C f) (hl : fs.length < 1000) (hN : X.N[i]? = some n := by rfl) (hv : Vis X.env.scope n := by first | exact Or.inl rfl | exact Or.inr (Or.inl rfl) | exact Or.inr (Or.inr rfl))
    (hd : (n == ("__debug__" : Str)) = false := by decide) (hcd : (n == ("__classdict__" : Str)) = false := by decide) : TgtU X (.Attribute (.Name n pn) f pos) x σ q C dx fs (putF f x fs) := fun H1 h1 Q k pins s u I r =>
  PySem.W.kas_attr (thn ((pe_var (X := X) hN hv hd hcd).run pins s σ H1 (fun z H2 => z = .ref q ∧ H2 = H1) I ⟨.ref q, hs, rfl, rfl⟩) fun ov s2 ⟨z, H2, I2, rz, ez, eh⟩ => by
    subst ez eh
    obtain rfl : ov = Value.ref q := rz
    exact setattr_ok I2 h1 c hf hl r fun s3 I3 => ⟨σ, _, I3, k⟩)
theorem tgus_nil : TgtUs X [] [] σ q C dx fs fs := fun H1 h1 Q k pins s us I r => pgs_nil.run pins s σ H1 [] us Q I r ⟨rfl, by rw [upd_id h1] at k; exact k⟩
theorem tgus_cons {t : Expr} {ts : List Expr} {xs : List V} (h : TgtU X t x σ q C dx fs fs2) (h2 : TgtUs X ts xs σ q C dx fs2 fs') (hs : (assignEach (t :: ts) X.env).map (·.2) = assign t X.env :: (assignEach ts X.env).map (·.2) := by rfl) : TgtUs X (t :: ts) (x :: xs) σ q C dx fs fs' :=
  fun H1 h1 Q k pins s us I r => (pgs_cons pg_w pgs_w hs).run pins s σ H1 _ us Q I r ⟨x, xs, rfl, h H1 h1 _ (h2 _ upd_same Q (by rw [upd_upd]; exact k))⟩
/-- self.f, .. = (..) -/
theorem ws_flds {ts es : List Expr} {m m2 : Nat} {tp vp : Pos} {vs : List V} (hc : X.calm = true) (h : EvA X es σ H vs) (hl : vs.length ≤ 100000) (hq : H q = some (.ins C dx fs)) (ht : TgtUs X ts vs σ q C dx fs fs')
    (k : ∀ H1, Ex H H1 → wS X rest D σ (upd H1 q (.ins C dx fs'))) (hn : (assignEach ts X.env).length = vs.length := by rfl) (hst : (assignEach ts X.env).findIdx? (·.1) = none := by rfl)
    (hs : swapsWithSole [.Tuple ts m tp] (.Tuple es m2 vp) pos.line X.env = pure false := by rfl) (hw : swappedStores [.Tuple ts m tp] (.Tuple es m2 vp) X.env = pure none := by rfl)
    (h1 : (assignEach [.Tuple ts m tp] X.env).map (·.2) = [assign (.Tuple ts m tp) X.env] := by rfl) : wS X (.Assign [.Tuple ts m tp] (.Tuple es m2 vp) pos :: rest) D σ H :=
  ws_cons (ps_asg pe_w (pg_tup hc pgs_w hn hst) hs hw h1) (ev_tup h hl H (Ex.refl _) _ fun v H1 e1 ⟨p, hv, _, hp⟩ => by
    subst hv
    exact ⟨p, vs, rfl, SqT.of hp, rfl, ht H1 (e1 _ _ hq) _ (k H1 e1)⟩)
theorem ws_fldsG {ts es : List Expr} {m m2 : Nat} {tp vp : Pos} {n : Nat} {T : Hp → List V → Hp → Prop} (hc : X.calm = true) (h : EvG X es σ H T) (hl : ∀ H1 vs H2, T H1 vs H2 → vs.length = n) (hn2 : n ≤ 100000) (hq : H q = some (.ins C dx fs))
    (k : ∀ vs H1 p, Ex H H1 → T H vs H1 → H1 p = none → ∃ fs', TgtUs X ts vs σ q C dx fs fs' ∧ wS X rest D σ (upd (upd H1 p (.tup vs)) q (.ins C dx fs'))) (hn : (assignEach ts X.env).length = n := by rfl) (hst : (assignEach ts X.env).findIdx? (·.1) = none := by rfl)
    (hs : swapsWithSole [.Tuple ts m tp] (.Tuple es m2 vp) pos.line X.env = pure false := by rfl) (hw : swappedStores [.Tuple ts m tp] (.Tuple es m2 vp) X.env = pure none := by rfl)
    (h1 : (assignEach [.Tuple ts m tp] X.env).map (·.2) = [assign (.Tuple ts m tp) X.env] := by rfl) : wS X (.Assign [.Tuple ts m tp] (.Tuple es m2 vp) pos :: rest) D σ H :=
  ws_cons (ps_asg pe_w (pg_tup hc pgs_w hn hst) hs hw h1) (ev_tupG h (fun H1 vs H2 t => by rw [hl H1 vs H2 t]; exact hn2) H (Ex.refl _) _ fun v H1 e1 ⟨vs, H2, p, hv, e2, t, hp, _, he⟩ => by
    subst hv he
    obtain ⟨fs', ht, w⟩ := k vs H2 p e2 t hp
    exact ⟨p, vs, rfl, SqT.of upd_same, hl _ _ _ t, ht _ (Ex.new hp _ _ (e2 _ _ hq)) _ w⟩)
/-- self.f = e -/
theorem ws_fld (i : Nat) {n f : Str} {pn : Pos} {p2 : Pos} (he : Ev X e σ H R) (hs : σ[i]? = some (some (.ref q))) (hq : H q = some (.ins C dx fs)) (c : Cls X.K C) (hf : NoAttr X.K C f) (hl : fs.length < 1000)
    (k : ∀ v H1, Ex H H1 → R H v H1 → wS X rest D σ (upd H1 q (.ins C dx (putF f v fs)))) (hN : X.N[i]? = some n := by rfl) (hv : Vis X.env.scope n := by first | exact Or.inl rfl | exact Or.inr (Or.inl rfl) | exact Or.inr (Or.inr rfl))
    (hd : (n == ("__debug__" : Str)) = false := by decide) (hcd : (n == ("__classdict__" : Str)) = false := by decide) (hsw : swapsWith e (some (.Attribute (.Name n pn) f p2)) pos.line X.env = pure false := by rfl) : wS X (.Assign [.Attribute (.Name n pn) f p2] e pos :: rest) D σ H :=
  ws_cons (ps_fld (pe_var hN hv hd hcd) pe_w hsw) (he H (Ex.refl _) _ fun v H1 e1 rv => ⟨.ref q, hs, q, C, dx, fs, rfl, e1 _ _ hq, c, hf, hl, k v H1 e1 rv⟩)
/-! ### own classes -/
/-- xs.insert(0, e) -/
theorem ws_insert0 [Anti R] {l : Addr} {xs : List V} {ap cp pz : Pos} {kz : Nat} (hl : H l = some (.lst xs)) (hz : xs.length < 100000) (ho : Ev X o σ H (is (.ref l))) (he : Ev X e σ H R) (k : ∀ v H1, Ex H H1 → R H v H1 → wS X rest D σ (upd H1 l (.lst (v :: xs))))
    (h : ∀ {t : TE}, PE X (.Call (.Attribute o "insert" ap) [.Constant (.int 0) kz pz, e] [] cp) t → PS X (.Expr (.Call (.Attribute o "insert" ap) [.Constant (.int 0) kz pz, e] [] cp) pos) (tDrop t) := by exact fun h => ps_expr h)
    (pb : ∀ {to : TE} {t : TA}, PE X o to → PA X [.Constant (.int 0) kz pz, e] t → PE X (.Call (.Attribute o "insert" ap) [.Constant (.int 0) kz pz, e] [] cp) (tBM X.K "list" (fun x vs H Q => ∃ (l : Addr) (xs : List V) (i : Int) (y : V), x = .ref l ∧ vs = [.int i, y] ∧ H l = some (.lst xs) ∧ xs.length < sizeLine ∧ 0 ≤ i ∧ i < 2 ^ 63 ∧ Q .non (upd H l (.lst (xs.take i.toNat ++ [y] ++ xs.drop i.toNat)))) to t) := by exact fun h1 h2 => pe_bm PySem.F.plainAttrs_list PySem.F.slot_list_insert PySem.F.type_list_insert mt_insert h1 h2)
    (pa : ∀ {t1 t : TE}, PE X (.Constant (.int 0) kz pz) t1 → PE X e t → PA X [.Constant (.int 0) kz pz, e] (tCons t1 (tCons t tNil)) := by exact fun h1 h => pa_cons h1 (pa_cons h pa_nil)) : wS X (.Expr (.Call (.Attribute o "insert" ap) [.Constant (.int 0) kz pz, e] [] cp) pos :: rest) D σ H :=
  ws_cons (h (pb pe_w (pa pe_int pe_w))) (ho H (Ex.refl _) _ fun u H1 e1 ru => by
    cases ru
    refine ⟨.inl ⟨rfl, _, SqL.of (e1 _ _ hl)⟩, he H1 e1 _ fun v H2 e2 rv => ?_⟩
    exact ⟨l, xs, 0, v, rfl, rfl, e2 _ _ (e1 _ _ hl), sz_lt hz, Int.le_refl 0, by decide, by
      have q := k v H2 (e1.trans e2) (Anti.anti H H1 v H2 e1 rv)
      simpa using q⟩)
end
section
variable {P : Program} {w : World} {K : PySem.W.Frag} {mg : Str → Option Value} {base : Heap}
abbrev cxM (P : Program) (w : World) (K : PySem.W.Frag) (mg : Str → Option Value) (base : Heap) (N : List Str) (q : Str) (st : Stmt) (f : Addr) (cdv : Value) (A : Around) (outer : List Env) (s : Shared) (H : Hp) (E : XK) : Cx :=
  (cxOf C8.CX0 P w K mg base N q (defScope st) f cdv A outer s H E).nox
theorem mak_mk {x qual : Str} {C : Addr} {st : Stmt} {N ps : List Str} {k : Nat} {sp : Sp} (hm : mg x = some (.ref C)) (F : ∃ (f : Addr) (fd : FuncData), Mk K C f ∧ FunD K "__init__" qual (defArgs st) (defBody st) (defScope st) [] [] f fd ∧ Binds K fd ps []) (S : FnScope N ps (defScope st)) (len : ∀ vs H Q E, sp vs H Q E → vs.length = ps.length)
    (hbody : ∀ (f : Addr) (cdv : Value) (A : Around) (outer : List Env) (s : Shared) (H : Hp) (vs : List V) (Q : VK) (E : XK), Room k (A.deeper (envOfC qual (defScope st) s.heap.objs.size f cdv)) → sp vs H Q E →
      wS (cxD P w K mg base N qual st f cdv A outer s H E) (defBody st) { nx := fun _ H' => Q .non H', rt := Q } (start N vs) H) : C8.Mak P w K mg base (k + 1) x C sp [] := by
  obtain ⟨f, fd, M, F, hb⟩ := F
  exact ⟨f, fd, ps, [], M, F.ok S len fun cdv A outer s H vs Q E hr h => ⟨_, (ps_w (X := cxD P w K mg base N qual st f cdv A outer s H E)).nox, hbody f cdv A outer s H vs Q E hr h⟩, hm, hb, .nil⟩
theorem met_mk {m qual : Str} {C : Addr} {st : Stmt} {N ps : List Str} {k : Nat} {sp : Sp} (c : Cls K C) (F : ∃ (f : Addr) (fd : FuncData), Meth K C m f ∧ FunD K m qual (defArgs st) (defBody st) (defScope st) [] [] f fd ∧ Binds K fd ps []) (S : FnScope N ps (defScope st)) (len : ∀ vs H Q E, sp vs H Q E → vs.length = ps.length)
    (hbody : ∀ (f : Addr) (cdv : Value) (A : Around) (outer : List Env) (s : Shared) (H : Hp) (vs : List V) (Q : VK) (E : XK), Room k (A.deeper (envOfC qual (defScope st) s.heap.objs.size f cdv)) → sp vs H Q E →
      wS (cxD P w K mg base N qual st f cdv A outer s H E) (defBody st) { nx := fun _ H' => Q .non H', rt := Q } (start N vs) H) : C8.Met P w K mg base (k + 1) C m sp [] := by
  obtain ⟨f, fd, M, F, hb⟩ := F
  exact ⟨f, fd, ps, [], c, M, F.ok S len fun cdv A outer s H vs Q E hr h => ⟨_, (ps_w (X := cxD P w K mg base N qual st f cdv A outer s H E)).nox, hbody f cdv A outer s H vs Q E hr h⟩, hb, .nil⟩
end
section
variable {X : Cx} {a b c e o : Expr} {es : List Expr} {σ : L2.St} {H H' : Hp} {x y z v : V} {R R' : RT} {pos apos : Pos}
/-- C(e, ..) -/
theorem ev_makeG {T : Hp → List V → Hp → Prop} {n : Str} {p : Pos} {sp : Sp} {C : Addr} {kk jj : Nat} (cl : C8.Mak X.prog X.w X.K X.mg X.base kk n C sp []) (hr : Room jj X.A) (hk : kk + 1 ≤ jj) (ha : EvG X (e :: es) σ H T)
    (h : ∀ H1 vs H2, Ex H H1 → Ex H1 H2 → T H1 vs H2 → ∀ q dx, H2 q = none → H2 dx = none → dx ≠ q → ∀ Q : VK, (∀ H3, Ex H2 H3 → R H1 (.ref q) H3 → Q (.ref q) H3) → sp (.ref q :: vs) (upd (upd H2 dx (.own q)) q (.ins C dx [])) (fun v H3 => v = .non ∧ Q (.ref q) H3) C8.E0) (hg : Gl X n := by rfl) (hdb : (n == ("__debug__" : Str)) = false := by decide)
    (he : starEach (e :: es) X.env = (false, eval e X.env) :: starEach es X.env := by rfl) (hpl : (backTo pos (starEach es X.env)).any (·.1) = false := by rfl) : Ev X (.Call (.Name n p) (e :: es) [] pos) σ H R := fun H1 e1 Q q =>
  wE_of (C8.pe_mk cl hr hk hg pa_w hdb he hpl) (ha H1 e1 _ fun vs H2 e2 t => fun x dx hx hdx hne => by
    rw [List.append_nil]
    exact h H1 vs H2 e1 e2 t x dx hx hdx hne (fun v H3 => Q v H3) fun H3 e3 r3 => q _ H3 (e2.trans e3) r3)
/-- o.m(e, ..) -/
theorem ev_methG {T : Hp → List V → Hp → Prop} {m : Str} {pl : Sem Bool} {sp : Sp} {C dx q : Addr} {fs : List (Str × V)} {kk jj : Nat} (cl : C8.Met X.prog X.w X.K X.mg X.base kk C m sp []) (hr : Room jj X.A) (hk : kk ≤ jj) (ho : Ev X o σ H (is (.ref q))) (hq : H q = some (.ins C dx fs)) (hm : fs.lookup m = none) (ha : EvG X (e :: es) σ H T)
    (h : ∀ H1 vs H2, Ex H H1 → Ex H1 H2 → T H1 vs H2 → ∀ Q : VK, (∀ v H3, Ex H2 H3 → R H1 v H3 → Q v H3) → sp (.ref q :: vs) H2 Q C8.E0) (hR : ∀ H0 H1 v H2, Ex H0 H1 → R H1 v H2 → R H0 v H2)
    (hst : starEach (e :: es) X.env = (false, eval e X.env) :: starEach es X.env := by rfl) (hpl : (backTo pos (starEach es X.env)).any (·.1) = false := by rfl)
    (ht : eval (.Call (.Attribute o m apos) (e :: es) [] pos) X.env = (do
      let ov ← eval o X.env
      standAt apos.atName
      let (f, first) ← holding [ov] (getMethod ov m pl)
      callWith pos f first (backTo pos (starEach (e :: es) X.env)) (backToKw pos (keywordEach [] X.env))) := by rfl) : Ev X (.Call (.Attribute o m apos) (e :: es) [] pos) σ H R := fun H1 e1 Q qq =>
  wE_of (C8.pe_mt cl hr hk pe_w pa_w hst hpl ht) (ho H1 e1 _ fun v H2 e2 rv => by
    cases rv
    refine ⟨q, dx, fs, rfl, (e1.trans e2) _ _ hq, hm, ha H2 (e1.trans e2) _ fun vs H3 e3 t => ?_⟩
    rw [List.append_nil]
    exact h H2 vs H3 (e1.trans e2) e3 t Q fun v H4 e4 r4 => qq v H4 ((e2.trans e3).trans e4) (hR H1 H2 v H4 e2 r4))
/-! ### == of data -/
theorem dp_nums {K : PySem.W.Frag} {ns : List Nat} : DpAll K H (ns.map fun n => V.int (n : Nat)) (ns.map fun n => PyData.int (n : Nat)) := by
  induction ns with
  | nil => exact .nil
  | cons n ns ih => exact .cons (.int _) ih
theorem dp_all2 {K : PySem.W.Frag} {α : Type} {F : α → V → Prop} {f : α → PyData} (h : ∀ a v, F a v → Dp K H v (f a)) : ∀ {as : List α} {vs : List V}, All2 F as vs → DpAll K H vs (as.map f)
  | _, _, .nil => .nil
  | _, _, .cons x t => .cons (h _ _ x) (dp_all2 h t)
mutual
theorem dp_ex {K : PySem.W.Frag} {H H' : Hp} (e : Ex H H') : ∀ (d : PyData) (v : V), Dp K H v d → Dp K H' v d
  | .none, _, h => by cases h; exact .non
  | .bool b, _, h => by cases h; exact .bl _
  | .int i, _, h => by cases h; exact .int _
  | .str x, _, h => by cases h; exact .str _
  | .list xs, _, h => by cases h with | lst a b => exact .lst (ex_l e a) (dpA_ex e xs _ b)
  | .tuple xs, _, h => by cases h with | tup a b => exact .tup (ex_t e a) (dpA_ex e xs _ b)
  | .dict kvs, _, h => by cases h
theorem dpA_ex {K : PySem.W.Frag} {H H' : Hp} (e : Ex H H') : ∀ (ds : List PyData) (vs : List V), DpAll K H vs ds → DpAll K H' vs ds
  | [], _, h => by cases h; exact .nil
  | x :: xs, _, h => by cases h with | cons a b => exact .cons (dp_ex e x _ a) (dpA_ex e xs _ b)
end
end
end TS
/-! ## B6 -/
namespace TS
open PySem PySem.Spec PyProof.Rows L2
/-! ### dicts keyed by tuples of whole numbers -/
def keyN (ns : List Nat) : List L2.Key := ns.map fun (n : Nat) => Sum.inl ((n : Nat) : Int)
theorem keyN_nums (ns : List Nat) : (keyN ns).map kV = nums ns := by
  unfold keyN nums
  rw [List.map_map]
  rfl
theorem keyN_inj : ∀ {ns ms : List Nat}, keyN ns = keyN ms → ns = ms
  | [], [], _ => rfl
  | [], _ :: _, h => by cases h
  | _ :: _, [], h => by cases h
  | n :: ns, m :: ms, h => by
    have h1 := (List.cons.inj h).1
    have h2 := keyN_inj (ns := ns) (ms := ms) (List.cons.inj h).2
    have e2 : (n : Int) = (m : Int) := Sum.inl.inj h1
    rw [h2, show n = m by omega]
section
variable {X : Cx} {a b c e o d : Expr} {es : List Expr} {σ : L2.St} {H H' : Hp} {x y z v : V} {R R' : RT} {pos : Pos} {r : R2} {k j : Bool} {D : Ends} {rest sts : List Stmt}
theorem ev_dnew : Ev X (.Dict [] [] pos) σ H (fun H1 v H2 => ∃ p, v = .ref p ∧ H1 p = none ∧ H2 = upd H1 p (.dT [])) := fun H1 e1 Q q => wE_of pe_dnewT fun p hp => q _ _ (Ex.new hp) ⟨p, rfl, hp, rfl⟩
theorem ev_dgetN {p : Addr} {kvs : List (List L2.Key × V)} {ns : List Nat} (hu : X.A.units + 1 < cLine) (hd : Ev X d σ H (is (.ref p))) (hk : Ev X e σ H (is y)) (hy : TI ns y H) (hp : H p = some (.dT kvs)) (hv : valV kvs (keyN ns) = some v) (hs : NoSl e) : Ev X (.Subscript d e pos) σ H (is v) := fun H1 e1 Q q =>
  wE_of (pe_dget hu pe_w pe_w hs) (hd H1 e1 _ fun x' H2 e2 rx => hk H2 (e1.trans e2) _ fun y' H3 e3 ry => by
    cases rx; cases ry
    obtain ⟨t, rfl, ht⟩ := hy
    refine ⟨p, v, rfl, ?_, q v H3 (e2.trans e3) rfl⟩
    rw [← hv]
    exact DGet.t (((e1.trans e2).trans e3) _ _ hp) (by rw [keyN_nums]; exact ((e1.trans e2).trans e3) _ _ ht))
theorem et_dinN {p : Addr} {kvs : List (List L2.Key × V)} {ns : List Nat} (hu : X.A.units + 1 < cLine) (hk : Ev X e σ H (fits (TI ns))) (hd : Ev X d σ H (is (.ref p))) (hp : H p = some (.dT kvs)) (hvt : ∀ whole, isTrue (.Compare e [.In] [d] pos) X.env whole = (do let v ← whole; standAt pos; holding [v] (truthy v)) := by intro _; rfl) (hm : behindInMarks .In d = false := by rfl) :
    EvT X (.Compare e [.In] [d] pos) σ H (valV kvs (keyN ns)).isSome := fun H1 e1 Q q =>
  wT_of (pt_cmp (pc_din hu pe_w pe_w) hm) (hk H1 e1 _ fun y' H2 e2 ry => hd H2 (e1.trans e2) _ fun x' H3 e3 rx => by
    cases rx
    obtain ⟨t, rfl, ht⟩ := ry
    refine ⟨p, valV kvs (keyN ns), rfl, DGet.t (((e1.trans e2).trans e3) _ _ hp) (by rw [keyN_nums]; exact e3 _ _ ht), _, rfl, q H3 (e2.trans e3)⟩)
theorem ws_dputN {p : Addr} {kvs : List (List L2.Key × V)} {ns : List Nat} {p2 : Pos} (hu : X.A.units + 1 < cLine) (he : Ev X e σ H (is v)) (hd : Ev X d σ H (is (.ref p))) (hk : Ev X o σ H (is y)) (hy : TI ns y H) (hp : H p = some (.dT kvs)) (hl : kvs.length < 100000) (k : ∀ H1, Ex H H1 → wS X rest D σ (upd H1 p (.dT (putK kvs (keyN ns) v))))
    (hs : swapsWith e (some (.Subscript d o p2)) pos.line X.env = pure false := by rfl) : wS X (.Assign [.Subscript d o p2] e pos :: rest) D σ H :=
  ws_cons (ps_dput hu pe_w pe_w pe_w hs) (he H (Ex.refl _) _ fun v' H1 e1 rv => hd H1 e1 _ fun x' H2 e2 rx => hk H2 (e1.trans e2) _ fun y' H3 e3 ry => by
    cases rx; cases ry; cases rv
    obtain ⟨t, rfl, ht⟩ := hy
    exact ⟨p, _, rfl, DPut.t (((e1.trans e2).trans e3) _ _ hp) (by rw [keyN_nums]; exact ((e1.trans e2).trans e3) _ _ ht) (sz_lt hl), k H3 ((e1.trans e2).trans e3)⟩)
/-- x, y, z = a, b, c -/
theorem ws_par3G {T : Hp → List V → Hp → Prop} (i j l : Nat) {n m w : Str} {px py pz pt : Pos} {kt k2 : Nat} {pt2 : Pos} (hc : X.calm = true) (hN : X.N.Nodup) (he : EvG X [a, b, c] σ H T) (k : ∀ vs H1, Ex H H1 → T H vs H1 → ∃ v1 v2 v3, vs = [v1, v2, v3] ∧ wS X rest D (((σ.set i (some v1)).set j (some v2)).set l (some v3)) H1) (hi : X.N[i]? = some n := by rfl) (hj : X.N[j]? = some m := by rfl) (hl : X.N[l]? = some w := by rfl) (hij : i ≠ j := by decide) (hil : i ≠ l := by decide) (hjl : j ≠ l := by decide)
    (hx : X.env.scope.names.lookup n = some .local := by rfl) (hy : X.env.scope.names.lookup m = some .local := by rfl) (hz : X.env.scope.names.lookup w = some .local := by rfl)
    (hw : swappedStores [.Tuple [.Name n px, .Name m py, .Name w pz] kt pt] (.Tuple [a, b, c] k2 pt2) X.env = pure (some [n, m, w]) := by rfl)
    (hs : swapsWithSole [.Tuple [.Name n px, .Name m py, .Name w pz] kt pt] (.Tuple [a, b, c] k2 pt2) pos.line X.env = pure false := by rfl) : wS X (.Assign [.Tuple [.Name n px, .Name m py, .Name w pz] kt pt] (.Tuple [a, b, c] k2 pt2) pos :: rest) D σ H :=
  ws_cons (ps_par3 hc hN hi hj hl hij hil hjl hx hy hz pa_w hw hs) (he H (Ex.refl _) _ fun vs H1 e1 t => k vs H1 e1 t)
end
end TS
/-! ## Srt2 -/
/-! sorted(tuples of whole numbers, of any lengths, () among them) -/
namespace TS
open PySem PySem.W PySem.Calls PyProof.Rows
section order
theorem lexLt_self : ∀ a : List Int, HT.lexLt a a = false
  | [] => rfl
  | x :: r => by rw [HT.lexLt_cons, if_pos rfl]; exact lexLt_self r
theorem lexLt_asym : ∀ a b : List Int, HT.lexLt a b = true → HT.lexLt b a = false
  | [], [], h => by cases h
  | [], _ :: _, _ => rfl
  | _ :: _, [], h => by cases h
  | x :: xs, y :: ys, h => by
    rw [HT.lexLt_cons] at h ⊢
    by_cases e : x = y
    · subst e
      rw [if_pos rfl] at h ⊢
      exact lexLt_asym xs ys h
    · rw [if_neg e] at h
      rw [if_neg (fun z => e z.symm)]
      have h := of_decide_eq_true h
      exact decide_eq_false fun z => by omega
theorem lexLt_tr : ∀ a b c : List Int, HT.lexLt b a = false → HT.lexLt c b = false → HT.lexLt c a = false
  | [], _, [], _, _ => rfl
  | _ :: _, [], [], h, _ => by cases h
  | _ :: _, _ :: _, [], _, h => by cases h
  | [], [], _ :: _, _, _ => rfl
  | [], _ :: _, c :: cs, _, _ => rfl
  | _ :: _, [], _ :: _, h, _ => by cases h
  | x :: as, y :: bs, z :: cs, h1, h2 => by
    rw [HT.lexLt_cons] at h1 h2 ⊢
    by_cases e1 : y = x
    · subst e1
      rw [if_pos rfl] at h1
      by_cases e2 : z = y
      · subst e2
        rw [if_pos rfl] at h2 ⊢
        exact lexLt_tr as bs cs h1 h2
      · rw [if_neg e2] at h2 ⊢
        exact h2
    · rw [if_neg e1] at h1
      have h1 := of_decide_eq_false h1
      by_cases e2 : z = y
      · subst e2
        rw [if_neg e1]
        exact decide_eq_false h1
      · rw [if_neg e2] at h2
        have h2 := of_decide_eq_false h2
        by_cases e3 : z = x
        · exfalso
          omega
        · rw [if_neg e3]
          exact decide_eq_false fun z => by omega
theorem swo_tup {α : Type} (k : α → List Int) : SrtO.Swo fun v u => HT.lexLt (k v) (k u) := ⟨fun x y h => lexLt_asym _ _ h, fun x y z h1 h2 => lexLt_tr _ _ _ h1 h2⟩
end order
/-- the value v is a tuple of the whole numbers ks -/
def IsTupI (h : Heap) (v : Value) (ks : List Int) : Prop := ∃ a o us n, v = .ref a ∧ h.get? a = some o ∧ o.cls = .type "tuple" ∧ o.data = .seq us n ∧ IntsAre us.toList ks
theorem IsTupI.keeps {h h' : Heap} {v : Value} {ks : List Int} (t : IsTupI h v ks) (k : ∀ b o, h.get? b = some o → o.cls = .type "tuple" → h'.get? b = some o) : IsTupI h' v ks :=
  let ⟨a, o, us, n, h1, h2, h3, h4, h5⟩ := t
  ⟨a, o, us, n, h1, k a o h2 h3, h3, h4, h5⟩
section
variable {prog : Program} {w : World} {A : Around} {E : Value → Shared → Prop} {s : Shared}
theorem lexI_go {b fin : Bool} {Q : Bool → Shared → Prop} : ∀ (ps qs : List Value) (as bs : List Int) (i : Nat), IntsAre ps as → IntsAre qs bs → fin = decide (ps.length < qs.length) → Q (HT.lexLt as bs) s → KatLex prog w A b fin Q (ps.zip qs) i s
  | _, _, _, _, i, .nil, .nil, hf, h => by
    cases hf
    exact kat_nil h
  | _, _, _, _, i, .nil, .cons _ _ _, hf, h => by
    simp only [List.length_nil, List.length_cons, Nat.zero_lt_succ, decide_true] at hf
    subst hf
    exact kat_nil h
  | _, _, _, _, i, .cons _ _ _, .nil, hf, h => by
    simp only [List.length_nil, Nat.not_lt_zero, decide_false] at hf
    subst hf
    exact kat_nil h
  | _ :: ps, _ :: qs, _ :: as, _ :: bs, i, .cons x t ha, .cons y u hb, hf, h => by
    simp only [List.length_cons, Nat.add_lt_add_iff_right] at hf
    rw [HT.lexLt_cons] at h
    refine kat_cons (SeqAt.EqAt.int_int x t y u prog w _ _ ?_)
    refine kat_go (fun e => ?_) (fun e => ?_)
    · have ex : x = y := by simpa using e
      rw [if_pos ex] at h
      exact kat_yes (lexI_go ps qs as bs (i + 1) ha hb hf h)
    · have ex : ¬ x = y := by simpa using e
      rw [if_neg ex] at h
      exact kat_no (oneLt_any_int h)
theorem lt_tuples {b : Bool} {v u : Value} {as bs : List Int} {Q : Bool → Shared → Prop} (hv : IsTupI s.heap v as) (hu : IsTupI s.heap u bs) (h : Q (HT.lexLt as bs) s) : wpAny (model prog w) A (keyLt' (tuples' b) v u) Q E s := by
  obtain ⟨a, o, us, n, rfl, h1, h2, h3, h4⟩ := hv
  obtain ⟨a', o', us', n', rfl, k1, k2, k3, k4⟩ := hu
  exact kat_lt h1 h3 k1 k3 (lexI_go us.toList us'.toList as bs 0 h4 k4 (by rw [Array.length_toList, Array.length_toList]) h)
theorem lt_general {v u : Value} {as bs : List Int} {Q : Bool → Shared → Prop} (hv : IsTupI s.heap v as) (hu : IsTupI s.heap u bs) (hr : A.units < cLine) (h : Q (HT.lexLt as bs) s) : wpAny (model prog w) A (keyLt' general' v u) Q E s := by
  obtain ⟨a, o, us, n, rfl, h1, h2, h3, h4⟩ := hv
  obtain ⟨a', o', us', n', rfl, k1, k2, k3, k4⟩ := hu
  show wpAny (model prog w) A (oneLt' false (.ref a) (.ref a')) Q E s
  exact kat_one _ _ (HT.lt_tupInts ⟨o, h1, h2, n, h3⟩ ⟨o', k1, k2, n', k3⟩ h4 k4 hr h)
theorem lt_oneType {v u : Value} {as bs : List Int} {Q : Bool → Shared → Prop} (hv : IsTupI s.heap v as) (hu : IsTupI s.heap u bs) (hr : A.units < cLine) (h : Q (HT.lexLt as bs) s) : wpAny (model prog w) A (keyLt' oneType' v u) Q E s := by
  obtain ⟨a, ⟨cls, dd, data, sl⟩, us, n, rfl, h1, h2, h3, h4⟩ := hv
  obtain ⟨a', ⟨cls', dd', data', sl'⟩, us', n', rfl, k1, k2, k3, k4⟩ := hu
  simp only at h2 h3 k2 k3
  subst h2 h3 k2 k3
  show wpAny (model prog w) A (oneLt' true (.ref a) (.ref a')) Q E s
  rw [oneLt'_eq]
  simp only [if_true]
  refine wpAny_bind (wpAny_cRoomFor hr ?_)
  refine wpAny_bind (wpAny_callSpecialIfBound?_slot (T := "tuple") ⟨_, h1, rfl⟩ PySem.F.slot_tuple_lt (call_meets PySem.F.slot_tuple_lt ⟨_, h1, rfl⟩ PySem.F.entry_tuple_lt (PySem.F.args_tuple_lt_2 _ _) (HT.tuple_lt_ints a a' us us' n n' dd dd' sl sl' as bs h4 k4) ⟨h1, k1, ?_⟩))
  exact wpAny_truthy_bool h
/-- the first item of each, if it has one -/
inductive FirstOf (h : Heap) : List Value → List (Option Value) → Prop
  | nil : FirstOf h [] []
  | cons {a : Addr} {o : Obj} {us : Array Value} {n : Nat} {vs : List Value} {fs : List (Option Value)} : h.get? a = some o → o.cls = .type "tuple" → o.data = .seq us n → FirstOf h vs fs → FirstOf h (.ref a :: vs) (us[0]? :: fs)
theorem firsts_any {M : Model} : ∀ (vs : List Value) (fs : List (Option Value)) {Q : List (Option Value) → Shared → Prop}, FirstOf s.heap vs fs → Q fs s → wpAny M A (vs.mapM firstOfTuple') Q E s
  | _, _, _, .nil, h => by rw [List.mapM_nil]; exact wpAny_pure h
  | _, _, Q, .cons (vs := vs) (fs := fs) (us := us) ho hc hd t, h => by
    rw [List.mapM_cons]
    refine wpAny_bind ?_
    rw [kas_first_eq]
    refine wpAny_bind (Looks.here ((Looks.ld ho).andThen .now) ?_)
    rw [hc, if_neg (by decide)]
    refine wpAny_bind (listItems_at (xs := us) ho hd (wpAny_pure ?_))
    exact wpAny_bind (firsts_any vs fs (Q := fun bs s' => wpAny M A (pure (us[0]? :: bs)) Q E s') t (wpAny_pure h))
theorem firsts_is {h : Heap} : ∀ {vs : List Value} {k : Value → List Int}, (∀ v ∈ vs, IsTupI h v (k v)) → ∃ fs, FirstOf h vs fs ∧ fs.length = vs.length ∧ ∀ f ∈ fs, ∀ v, f = some v → ∃ x t, v = .int x t
  | [], _, _ => ⟨[], .nil, rfl, fun _ h => by cases h⟩
  | v :: vs, k, hv => by
    obtain ⟨fs, h1, h2, h3⟩ := firsts_is (vs := vs) (k := k) fun u hu => hv u (List.mem_cons_of_mem _ hu)
    obtain ⟨a, o, us, n, rfl, k1, k2, k3, k4⟩ := hv v (List.mem_cons_self ..)
    refine ⟨us[0]? :: fs, .cons k1 k2 k3 h1, congrArg (· + 1) h2, fun f hf u hu => ?_⟩
    rcases (List.mem_cons).mp hf with e | e
    · subst e
      have e2 : us.toList[0]? = some u := by simpa using hu
      cases hz : us.toList with
      | nil => rw [hz] at e2; cases e2
      | cons z zs =>
        rw [hz] at e2 k4
        cases e2
        generalize hkk : k (.ref a) = kk at k4
        cases k4 with
        | cons x t _ => exact ⟨x, t, rfl⟩
    · exact h3 f e u hu
theorem type_all {M : Model} {vs : List Value} {T : Value} {Q : Option Value → Shared → Prop} (hne : 0 < vs.length) (hT : ∀ v ∈ vs, Looks M s.heap (typeOf v) T) (hT2 : (T == T) = true) (h : Q (some T) s) : wpAny M A (oneTypeOnly' vs.toArray) Q E s := by
  rw [oneTypeOnly'_eq, List.mapM_toArray]
  rw [map_eq_pure_bind]
  refine wpAny_bind (wpAny_bind (kas_mapM (r := T) _ (fun v hv Q' hq => (hT v hv).here hq) (wpAny_pure ?_)))
  cases vs with
  | nil => cases hne
  | cons v vs =>
    have same : (((v :: vs).map fun _ => T).toArray.all fun x => x == T) = true := by
      rw [List.all_toArray, List.all_map]
      exact List.all_eq_true.mpr fun _ _ => hT2
    rw [show (((v :: vs).map fun _ => T).toArray)[0]? = some T by simp]
    simp only [same, if_true]
    exact wpAny_pure h
theorem tup_kinds {M : Model} {vs : List Value} {k : Value → List Int} {Q : SortKind → Shared → Prop} (hne : 0 < vs.length) (hv : ∀ v ∈ vs, IsTupI s.heap v (k v)) (q1 : Q (tuples' true) s) (q2 : Q general' s) (q3 : Q oneType' s) :
    ∃ κ, (κ = tuples' true ∨ κ = general' ∨ κ = oneType') ∧ ∀ (Q : SortKind → Shared → Prop) (E : Value → Shared → Prop), Q κ s → wpAny M A (keyKind' vs.toArray) Q E s := by
  obtain ⟨fs, f1, f2, f3⟩ := firsts_is hv
  cases hall : fs.all (·.isSome) with
  | true =>
    refine ⟨tuples' true, .inl rfl, fun Q E hq => ?_⟩
    rw [kat_kind_eq, List.mapM_toArray]
    rw [map_eq_pure_bind]
    refine wpAny_bind (wpAny_bind (firsts_any vs fs f1 (wpAny_pure ?_)))
    have ha : (fs.toArray.all fun x => x.isSome) = true := by rw [List.all_toArray]; exact hall
    rw [if_pos ha]
    refine wpAny_bind <| wpAny_rule ?_
    have hfm : (fs.toArray.filterMap id) = (fs.filterMap id).toArray := by simp
    rw [hfm]
    refine wpAny_bind (type_all (T := .type "int") ?_ (fun v hm => ?_) (by rfl) ?_)
    · cases fs with
      | nil => rw [← f2] at hne; exact absurd hne (by simp)
      | cons f fs =>
        rw [List.all_cons] at hall
        rw [Bool.and_eq_true] at hall
        cases f with
        | none => exact absurd hall.1 (by simp)
        | some f => simp
    · obtain ⟨f, hf, e⟩ := List.mem_filterMap.mp hm
      have e : f = some v := e
      obtain ⟨x, t, rfl⟩ := f3 f hf v e
      exact Looks.now
    · have e : (Option.any (fun x => x != Value.type "tuple") (some (Value.type "int"))) = true := by first | decide +kernel | rfl | decide
      rw [e]
      exact wpAny_pure hq
  | false =>
    have ha : ¬ (fs.toArray.all fun x => x.isSome) = true := by rw [List.all_toArray, hall]; decide
    cases fs with
    | nil => cases hall
    | cons f fs =>
      cases f with
      | some f0 =>
        refine ⟨general', .inr (.inl rfl), fun Q E hq => ?_⟩
        rw [kat_kind_eq, List.mapM_toArray]
        rw [map_eq_pure_bind]
        refine wpAny_bind (wpAny_bind (firsts_any vs _ f1 (wpAny_pure ?_)))
        rw [if_neg ha]
        have h0 : (((some f0 :: fs).toArray)[0]?.bind id).isSome = true := by simp
        rw [if_pos h0]
        exact wpAny_pure hq
      | none =>
        refine ⟨oneType', .inr (.inr rfl), fun Q E hq => ?_⟩
        rw [kat_kind_eq, List.mapM_toArray]
        rw [map_eq_pure_bind]
        refine wpAny_bind (wpAny_bind (firsts_any vs _ f1 (wpAny_pure ?_)))
        rw [if_neg ha]
        have h0 : ¬ ((((none : Option Value) :: fs).toArray)[0]?.bind id).isSome = true := by simp
        rw [if_neg h0]
        refine wpAny_bind (type_all (T := .type "tuple") hne (fun v hm => ?_) (by rfl) ?_)
        · obtain ⟨a, o, us, n, rfl, k1, k2, k3, k4⟩ := hv v hm
          have q : Looks M s.heap (typeOf (.ref a)) o.cls := (Looks.ld k1).andThen .now
          rw [k2] at q
          exact q
        · exact wpAny_pure hq
theorem tups_sortableO {a : Addr} {vs : List Value} {k : Value → List Int} (h0 : 0 < vs.length) (hr : A.units < cLine) (hp : ∀ v ∈ vs, IsTupI s.heap v (k v)) (ha : ∀ o, s.heap.get? a = some o → o.cls ≠ .type "tuple") : SrtO.SortableO prog w A s a vs fun v u => HT.lexLt (k v) (k u) := by
  intro h' keep
  have hp' : ∀ v ∈ vs, IsTupI h' v (k v) := fun v hm => (hp v hm).keeps fun b o e c => keep b o (fun z => by subst z; exact ha o e c) e
  obtain ⟨κ, hk, hq⟩ := tup_kinds (M := model prog w) (A := A) (s := { s with heap := h' }) (Q := fun _ _ => True) h0 hp' True.intro True.intro True.intro
  refine ⟨κ, fun Q E q => hq Q E q, fun p q hm hm' => ?_⟩
  have h1 := hp' _ hm
  have h2 := hp' _ hm'
  rcases hk with rfl | rfl | rfl
  · exact lt_tuples (s := { s with heap := h' }) h1 h2 ⟨rfl, rfl⟩
  · exact lt_general (s := { s with heap := h' }) h1 h2 hr ⟨rfl, rfl⟩
  · exact lt_oneType (s := { s with heap := h' }) h1 h2 hr ⟨rfl, rfl⟩
theorem sorted_tups {l : Addr} {vs : List Value} {k : Value → List Int} {Q : Value → Shared → Prop} (hl : s.heap.IsList l vs.toArray) (hz : vs.length ≤ sizeLine) (hr : A.in1.in1.units < cLine) (hp : ∀ v ∈ vs, IsTupI s.heap v (k v))
    (h : ∀ (h' : Heap) (d : Addr) (out : List Value), out.Perm vs → SrtO.Srtd (fun v u => HT.lexLt (k v) (k u)) out → (∀ b o, s.heap.get? b = some o → h'.get? b = some o) → s.heap.objs.size ≤ d → (∃ n, h'.get? d = some (seqObj "list" out.toArray n)) → Q (.ref d) { s with heap := h' }) :
    wpAny (model prog w) A (PySem.call (.builtin "sorted") [.ref l]) Q E s := by
  refine SrtO.sorted_ord (swo_tup k) hl hz (fun h2 h₁ a ha kk => ?_) fun out hs hb => ?_
  · refine tups_sortableO (s := { s with heap := h₁ }) (by omega) hr (fun v hm => (hp v hm).keeps fun b o e _ => (kk b o e).2) fun o e => ?_
    cases e.symm.trans ha
    exact fun c => absurd (Value.type.inj c) (by decide)
  · exact h _ _ out hb.perm hs (fun b o e => sortedAll_old e) (Nat.le_succ _) (sortedAll_at s.heap vs out.toArray)
end
end TS
namespace TS
open PySem PySem.Spec PyProof.Rows L2
/-- sorted(xs), xs a list of tuples of whole numbers -/
def rSortedTI (K : PySem.W.Frag) : List V → Hp → VK → Prop := fun vs H Q => ∃ (a : Addr) (xs : List V) (k : V → List Int), vs = [V.ref a] ∧ SqL K H a xs ∧ (∀ x ∈ xs, ∃ t, x = V.ref t ∧ H t = some (.tup ((k x).map V.int))) ∧
  ∀ ys p, ys.Perm xs → SrtO.Srtd (fun x y => HT.lexLt (k x) (k y)) ys → H p = none → Q (.ref p) (upd H p (.lst ys))
theorem cr_sortedTI {X : Cx} (hu : X.A.in1.in1.units < cLine) : CallR X (.builtin "sorted") (rSortedTI X.K) := by
  rintro pins s σ H _ us Q I r ⟨a, xs, k, rfl, hs, hx, q⟩
  obtain ⟨_, rfl, ru⟩ := vals1 r
  cases ru
  obtain ⟨_, rv, hl, hz⟩ := I.list hs
  obtain ⟨e1, e2⟩ := refs_back rv fun x m => let ⟨t, e, _⟩ := hx x m; ⟨t, e⟩
  refine sorted_tups (k := fun u => k (backV u)) hl.isList (by rw [← rv.length]; exact hz) hu (fun v hv => ?_) fun h' d out h2 h1 kp hd hn => ?_
  · obtain ⟨t, rfl⟩ := e2 v hv
    have hm : V.ref t ∈ xs := by
      rw [e1]
      exact List.mem_map_of_mem (f := backV) hv
    obtain ⟨t', e, ht⟩ := hx _ hm
    cases e
    obtain ⟨_, its2, r2, o, ho, hc, n, hd⟩ := I.hok t _ ht
    exact ⟨t, o, its2.toArray, n, rfl, ho, hc, hd, intsAre_of r2⟩
  · have h3 : ∀ u ∈ out, ∃ a, u = Value.ref a := fun u hu => e2 u (h2.mem_iff.mp hu)
    obtain ⟨n, hn⟩ := hn
    have hb : (out.map backV).Perm xs := by
      rw [e1]
      exact h2.map backV
    refine ⟨.ref d, upd H d (.lst (out.map backV)), I.laid (t' := s.toks) kp hd ⟨?_, out, n, vals_back h3, hn⟩, rfl, q _ d hb (SrtO.srtd_map h1) (I.hok.fresh hd)⟩
    rw [hb.length_eq]
    exact hz
end TS
/-! ## D7 -/
namespace TS
open PySem PySem.Spec PyProof.Rows L2
def givensOf (s : List Nat) (later : List (List Nat)) (most : Nat) : List (List Nat) := later.filterMap fun l => gb s l most
def LTI1 (ss : List (List Nat)) (v : V) (H : Hp) : Prop := LTI ss v H
def IsLead (most : Nat) (alive later : List (List Nat)) (v : V) (H : Hp) : Prop := ∃ d kvs, v = .ref d ∧ H d = some (.dT kvs) ∧ ∀ s ∈ alive, ∃ u gs, valV kvs (keyN s) = some u ∧ LTI gs u H ∧ gs.Perm (givensOf s later most)
theorem IsLead.ex {most : Nat} {alive later : List (List Nat)} {v : V} {H H' : Hp} (h : IsLead most alive later v H) (e : Ex H H') : IsLead most alive later v H' :=
  let ⟨d, kvs, h1, h2, h3⟩ := h
  ⟨d, kvs, h1, e _ _ h2, fun s hs => let ⟨u, gs, a, b, c⟩ := h3 s hs; ⟨u, gs, a, b.ex e, c⟩⟩
/-- the standings alive k ticks ahead of the circle's end -/
def aliveK (L : LotD) : Nat → List (List Nat)
  | 0 => standsAt L.parts L.circle
  | k + 1 => (standsAt L.parts (L.circle - (k + 1))).filter fun s => !(givensOf s (aliveK L k) L.many).isEmpty
def livingL (L : LotD) : Nat → List (List (List Nat))
  | 0 => [aliveK L 0]
  | k + 1 => aliveK L (k + 1) :: livingL L k
def leadL (L : LotD) : Nat → List (List (List Nat) × List (List Nat))
  | 0 => []
  | k + 1 => (aliveK L (k + 1), aliveK L k) :: leadL L k
def IsSheet (CL CS : Addr) (L : LotD) (v : V) (H : Hp) : Prop := ∃ a dx fs x lv le ls ds, v = .ref a ∧ H a = some (.ins CS dx fs) ∧ fs.lookup ("lot" : Str) = some x ∧ IsLot CL L x H ∧ fs.lookup ("living" : Str) = some (.ref lv) ∧ fs.lookup ("leads" : Str) = some (.ref le) ∧
  H lv = some (.lst ls) ∧ All2 (fun ss u => LTI ss u H) (livingL L L.circle) ls ∧ H le = some (.lst ds) ∧ All2 (fun p u => IsLead L.many p.1 p.2 u H) (leadL L L.circle) ds
theorem IsSheet.ex {CL CS : Addr} {L : LotD} {v : V} {H H' : Hp} (h : IsSheet CL CS L v H) (e : Ex H H') : IsSheet CL CS L v H' :=
  let ⟨a, dx, fs, x, lv, le, ls, ds, h1, h2, h3, h4, h5, h6, h7, h8, h9, h10⟩ := h
  ⟨a, dx, fs, x, lv, le, ls, ds, h1, e _ _ h2, h3, h4.ex e, h5, h6, e _ _ h7, h8.imp fun _ _ z => z.ex e, e _ _ h9, h10.imp fun _ _ z => z.ex e⟩
section
variable {P : Program} {w : World} {K : PySem.W.Frag} {mg : Str → Option Value} {base : Heap} {CL CS CP : Addr}
/-! ### Path -/
theorem sc_Path_init : FnScope ["self", "starts", "given", "before"] ["self", "starts", "given", "before"] (defScope s_Path_init) := ⟨rfl, rfl, rfl, by decide +kernel, rfl, by decide +kernel, by decide +kernel⟩
def pathFs (s g b : V) : List (Str × V) := putF "before" b (putF "given" g (putF "starts" s []))
def spPath (CP : Addr) : Sp := fun vs H Q _ => ∃ (q dx : Addr) (s g b : V), vs = [.ref q, s, g, b] ∧ H q = some (.ins CP dx []) ∧ ∀ H', ExB q H H' → H' q = some (.ins CP dx (pathFs s g b)) → Q .non H'
theorem mak_Path (T : Txt K mg CL CS CP) : C8.Mak P w K mg base 1 "Path" CP (spPath CP) [] := by
  refine mak_mk T.gPath T.iPath sc_Path_init (fun vs H Q E h => ?_) fun f cdv A outer s H vs Q E hr h => ?_
  · obtain ⟨q, dx, s, g, b, rfl, _⟩ := h
    rfl
  · obtain ⟨q, dx, s, g, b, rfl, hq, k⟩ := h
    refine ws_flds (fs' := pathFs s g b) rfl (ea_cons (ev_name 1 rfl) (ea_cons (ev_name 2 rfl) (ea_cons (ev_name 3 rfl) ea_nil))) (by show 3 ≤ 100000; decide) hq
      (tgus_cons (tgu_fld 0 rfl T.cPath T.aPath_starts (by decide)) (tgus_cons (tgu_fld 0 rfl T.cPath T.aPath_given (by show 1 < 1000; decide)) (tgus_cons (tgu_fld 0 rfl T.cPath T.aPath_before (by show 2 < 1000; decide)) tgus_nil))) fun H1 e1 => ?_
    exact ws_nil (k _ ((e1.b q).trans (ExB.upd q _ _)) upd_same)
theorem path_starts (s g b : V) : (pathFs s g b).lookup ("starts" : Str) = some s := rfl
theorem path_given (s g b : V) : (pathFs s g b).lookup ("given" : Str) = some g := rfl
theorem path_before (s g b : V) : (pathFs s g b).lookup ("before" : Str) = some b := rfl
/-! ### Sheet.between -/
theorem sc_between : FnScope ["self", "standing", "later", "other"] ["self", "standing", "later"] (defScope s_Sheet_between) := ⟨rfl, rfl, rfl, by decide +kernel, rfl, by decide +kernel, by decide +kernel⟩
def spBetween (CL CS : Addr) : Sp := fun vs H Q _ => ∃ (q dx : Addr) (fs : List (Str × V)) (x y z : V) (L : LotD) (s : List Nat) (later : List (List Nat)), vs = [.ref q, y, z] ∧ H q = some (.ins CS dx fs) ∧ fs.lookup ("lot" : Str) = some x ∧ IsLot CL L x H ∧ TI s y H ∧ LTI later z H ∧ s.length ≤ 1000 ∧ later.length ≤ 1000 ∧ (∀ l ∈ later, l.length = s.length) ∧
  ∀ a us H', Ex H H' → H a = none → H' a = some (.lst us) → All2 (fun l v => TO (gb s l L.many) v H') later us → Q (.ref a) H'
theorem met_between (T : Txt K mg CL CS CP) : C8.Met P w K mg base 2 CS "between" (spBetween CL CS) [] := by
  refine met_mk T.cSheet T.mBetween sc_between (fun vs H Q E h => ?_) fun f cdv A outer s H vs Q E hr h => ?_
  · obtain ⟨q, dx, fs, x, y, z, L, s, later, rfl, _⟩ := h
    rfl
  · obtain ⟨q, dx, fs, x, y, z, L, sn, later, rfl, hq, hlot, hL, hy, ⟨az, zs, rfl, hz, hzs⟩, hsl, hll, hlen, k⟩ := h
    have hzl := hzs.len
    refine ws_ret (ev_comp (P := fun i v H' => TO (gb sn (later.getD i []) L.many) v H') (own := [("other", 3)]) rfl sc_between.nd (blkOk_by (own := [("other", 3)]) (N := ["self", "standing", "later", "other"]) (sc := defScope s_Sheet_between) (by decide +kernel)) (src_list (ev_name 2 rfl) (SqL.of hz)) (by omega) hG_l (fun i => TO.sx) hY_at (fun i x' Ha Hb hi ea gg yy => ?_)) fun v H2 e2 rv => ?_
    · obtain ⟨rfl, hx'⟩ := yy
      have hT := hzs.nth hx' []
      have hm : later.getD i [] ∈ later := by
        rw [List.getD_eq_getElem?_getD, List.getElem?_eq_getElem (by omega)]
        exact List.getElem_mem _
      refine ⟨_, fun s H0 C cl fp => tgt_name 3 sc_between.nd, rfl, rfl, fun _ s H0 C cl fp => ?_⟩
      refine ev_callG (T := fun _ vs _ => vs = [y, x', .int (L.many : Nat)]) (cal_given_between (P := P) (w := w) (base := base) T) hr (Nat.le_refl 1) (EvA.g (ea_cons (ev_name 1 rfl) (ea_cons (ev_name 3 rfl) (ea_cons (ev_lotMany T.cLot T.aLot_many (ev_fld (ev_name 0 rfl) (ea _ _ hq) T.cSheet T.aSheet_lot hlot) (hL.ex ea)) ea_nil)))) fun H1 vs H2 e1 e2 tt Q q => ?_
      subst tt
      exact ⟨y, x', sn, later.getD i [], L.many, rfl, hy.ex ((ea.trans e1).trans e2), hT.ex ((ea.trans e1).trans e2), hsl, hlen _ hm, fun v H' e3 h3 => q v H' e3 h3⟩
    · obtain ⟨p, us, rfl, hp, hus, hall⟩ := rv
      refine k p us H2 e2 hp hus ?_
      rw [picked_all] at hall
      have q := All2.maps (F := fun (l : List Nat) v => TO (gb sn l L.many) v H2) (f := fun i => later.getD i []) hall
      have e : (List.range zs.length).map (fun i => later.getD i []) = later := by
        rw [← hzl]
        refine List.ext_getElem? fun i => ?_
        rw [List.getElem?_map]
        by_cases h : i < later.length
        · rw [List.getElem?_range h]
          show some (later.getD i []) = later[i]?
          rw [List.getD_eq_getElem?_getD, List.getElem?_eq_getElem h]
          rfl
        · rw [List.getElem?_eq_none (by rw [List.length_range]; omega), List.getElem?_eq_none (by omega)]
          rfl
      rw [e] at q
      exact q
end
end TS
/-! ## B7 -/
namespace TS
open PySem PySem.Spec PyProof.Rows L2
section
variable {X : Cx} {a b c e o : Expr} {es : List Expr} {σ : L2.St} {H H' : Hp} {x y z v : V} {R R' : RT} {pos : Pos} {r : R2} {k j : Bool} {D : Ends} {rest sts : List Stmt}
theorem EvG.imp {T T' : Hp → List V → Hp → Prop} (h : EvG X es σ H T) (f : ∀ H1 vs H2, Ex H H1 → Ex H1 H2 → T H1 vs H2 → T' H1 vs H2) : EvG X es σ H T' := fun H1 e1 Q q => h H1 e1 Q fun vs H2 e2 t => q vs H2 e2 (f H1 vs H2 e1 e2 t)
/-- a source whose list is new at each asking -/
def SrcE (X : Cx) (tg iter : Expr) (σ : L2.St) (H : Hp) (n : Nat) (Y : Nat → Hp → V → Hp → Prop) : Prop :=
  ∀ H1, Ex H H1 → ∀ R : It → Hp → Prop, (∀ J H2 (G : Hp → Prop), Ex H1 H2 → G H2 → (∀ Ha Hb, Ex Ha Hb → G Ha → G Hb) → Walk J n G Y → R J H2) → wI X tg iter σ H1 R
theorem src_call {tg : Expr} {n : Nat} {F : Nat → V → Hp → Prop} (h : Ev X e σ H R) (hx : ∀ H1 v H2, Ex H H1 → Ex H1 H2 → R H1 v H2 → ∃ a xs, v = .ref a ∧ SqL X.K H2 a xs ∧ xs.length = n ∧ ∀ i x H3, Ex H2 H3 → xs[i]? = some x → F i x H3)
    (hf : PI X tg e (iList X.K (wE X e))) : SrcE X tg e σ H n (fun i H x H' => H' = H ∧ F i x H) := fun H1 e1 R k =>
  wI_of hf (h H1 e1 _ fun v H2 e2 rv => by
    obtain ⟨a, xs, rfl, hq, hl, hF⟩ := hx H1 v H2 e1 e2 rv
    refine ⟨a, rfl, ⟨xs, hq⟩, k _ H2 (fun H3 => SqL X.K H3 a xs ∧ Ex H2 H3) e2 ⟨hq, Ex.refl _⟩ (fun Ha Hb eh g => ⟨ex_l eh g.1, g.2.trans eh⟩) ?_⟩
    rw [← hl]
    exact walk_list.mono (fun _ g => g.1) fun i H3 x H4 _ g y => ⟨y.1, hF i x H3 g.2 y.2⟩)
theorem comp_coreE {tg iter elt : Expr} {tst : Option Expr} {scope : Scope} {vs : List Nat} {n : Nat} {Y : Nat → Hp → V → Hp → Prop} (hs : SrcE X tg iter σ H n Y) (hn : n ≤ 90000) (f : Nat → Bool) (P : Nat → V → Hp → Prop) (hP : ∀ i, SMono (P i))
    (hY : ∀ i H x H', Y i H x H' → Ex H H')
    (turn : ∀ i x Ha Hb, i < n → Ex H Ha → Y i Ha x Hb → CTurn X scope tg elt tst vs σ x Hb (f i) (P i)) :
    EvTE (tLc (wI X tg iter) (gBlk X scope tg) (tTst X scope tst) (eBlk X scope elt) vs) σ H (newC n f P) := fun H1 e1 Q q => hs H1 e1 _ fun J H2 G e2 g hG w Dl hD => by
  refine lc_it w (fun i H' => Ex H2 H' ∧ ∃ acc, H' Dl = some (.lst acc) ∧ All2 (fun i v => P i v H') (picked i f) acc) ⟨Ex.new hD, [], upd_same, .nil⟩ (fun i H' _ p => hG _ _ p.1 g) (fun i x Ha Hb hi p y => ?_) fun H' p => ?_
  · obtain ⟨pe, acc, pd, pa⟩ := p
    have eb := hY i Ha x Hb y
    obtain ⟨σ2, tG, tw, tT, tE⟩ := turn i x Ha Hb hi ((e1.trans e2).trans pe) y
    intro s H0 C cl fp
    refine tG s H0 C cl fp Hb (Ex.refl _) _ ⟨tw, ?_⟩
    have stop : ∀ H3, Ex Hb H3 → f i = false → Ex H2 H3 ∧ ∃ acc, H3 Dl = some (.lst acc) ∧ All2 (fun i v => P i v H3) (picked (i + 1) f) acc := fun H3 e3 hf => by
      refine ⟨(pe.trans eb).trans e3, acc, e3 _ _ (eb _ _ pd), ?_⟩
      rw [picked_succ, hf]
      show All2 _ (picked i f ++ []) acc
      rw [List.append_nil]
      exact pa.imp fun j v z => hP j v _ _ (eb.trans e3).sx z
    have go : ∀ H3, Ex Hb H3 → f i = true → eBlk X scope elt σ2 H3 fun y H4 => ∃ acc, H4 Dl = some (.lst acc) ∧ acc.length < sizeLine ∧ (Ex H2 (upd H4 Dl (.lst (acc ++ [y]))) ∧ ∃ acc', upd H4 Dl (.lst (acc ++ [y])) Dl = some (.lst acc') ∧ All2 (fun i v => P i v (upd H4 Dl (.lst (acc ++ [y])))) (picked (i + 1) f) acc') := fun H3 e3 hf s H0 C cl fp => by
      refine tE hf s H0 C cl fp H3 e3 _ fun v H4 e4 pv => ?_
      have d4 : H4 Dl = some (.lst acc) := e4 _ _ (e3 _ _ (eb _ _ pd))
      have x4 : Sx H4 (upd H4 Dl (.lst (acc ++ [v]))) := (Sx.refl H4).mutL d4
      refine ⟨acc, d4, ?_, ((((pe.trans eb).trans e3).trans e4)).mut hD, acc ++ [v], upd_same, ?_⟩
      · have h1 := pa.len
        have h2 := picked_len i f
        exact sz_lt (by omega)
      · rw [picked_succ, hf]
        exact All2.snoc (F := fun j u => P j u (upd H4 Dl (HO.lst (acc ++ [v])))) (hP i v _ _ x4 pv) (pa.imp fun j u z => hP j u _ _ ((eb.trans (e3.trans e4)).sx.trans x4) z)
    cases tst with
    | none =>
      have hf : f i = true := tT
      simp only [tTst, tYes, if_true]
      exact go Hb (Ex.refl _) hf
    | some cnd =>
      intro s H0 C cl fp
      refine tT s H0 C cl fp Hb (Ex.refl _) _ fun H3 e3 => ?_
      cases hf : f i with
      | true => exact iteT (go H3 e3 hf)
      | false => exact iteF (stop H3 e3 hf)
  · obtain ⟨pe, acc, pd, pa⟩ := p
    exact q _ _ (e2.trans pe) ⟨Dl, acc, rfl, e2.back hD, pd, pa⟩
theorem ev_compE {tg iter elt : Expr} {scope : Scope} {n : Nat} {Y : Nat → Hp → V → Hp → Prop} (own : List (Str × Nat)) (hc : X.calm = true) (hN : X.N.Nodup) (ok : BlkOk X.N X.env.scope scope own) (hs : SrcE X tg iter σ H n Y) (hn : n ≤ 90000) (P : Nat → V → Hp → Prop) (hP : ∀ i, SMono (P i))
    (hY : ∀ i H x H', Y i H x H' → Ex H H') (turn : ∀ i x Ha Hb, i < n → Ex H Ha → Y i Ha x Hb → CTurn X scope tg elt none (own.map (·.2)) σ x Hb true (P i)) (hfs : ∀ x, foldedSetIterable iter X.env x = pure x := by intro _; rfl) :
    Ev X (.ListComp elt [⟨tg, iter, [], 0⟩] scope pos) σ H (newC n (fun _ => true) P) := fun H1 e1 Q q =>
  wE_of (pe_lc (own := own) hc hN pi_w ok (fun s H C cl fp => ⟨fun pins s' σ H' v u Q I r h => h s H C cl fp pins s' u I r⟩) (pts_w (tst := none)) (fun s H C cl fp => ⟨fun pins s' σ H' Q I h => h s H C cl fp pins s' I⟩) hfs)
    (comp_coreE (tst := none) hs hn (fun _ => true) P hP hY turn H1 e1 Q q)
theorem ev_compIfE {tg iter elt cnd : Expr} {scope : Scope} {n : Nat} {Y : Nat → Hp → V → Hp → Prop} (own : List (Str × Nat)) (hc : X.calm = true) (hN : X.N.Nodup) (ok : BlkOk X.N X.env.scope scope own) (hs : SrcE X tg iter σ H n Y) (hn : n ≤ 90000) (f : Nat → Bool) (P : Nat → V → Hp → Prop) (hP : ∀ i, SMono (P i))
    (hY : ∀ i H x H', Y i H x H' → Ex H H') (turn : ∀ i x Ha Hb, i < n → Ex H Ha → Y i Ha x Hb → CTurn X scope tg elt (some cnd) (own.map (·.2)) σ x Hb (f i) (P i)) (hfs : ∀ x, foldedSetIterable iter X.env x = pure x := by intro _; rfl) :
    Ev X (.ListComp elt [⟨tg, iter, [cnd], 0⟩] scope pos) σ H (newC n f P) := fun H1 e1 Q q =>
  wE_of (pe_lc (own := own) hc hN pi_w ok (fun s H C cl fp => ⟨fun pins s' σ H' v u Q I r h => h s H C cl fp pins s' u I r⟩) (pts_w (tst := some cnd)) (fun s H C cl fp => ⟨fun pins s' σ H' Q I h => h s H C cl fp pins s' I⟩) hfs)
    (comp_coreE (tst := some cnd) hs hn f P hP hY turn H1 e1 Q q)
/-- for tg in e, e a new list -/
theorem ws_forL {tg : Expr} {body : List Stmt} (hp : PassesOwn (model X.prog X.w) X.A X.env X.xe) (hc : X.calm = true) (he : Ev X e σ H R)
    (k : ∀ v H2, Ex H H2 → R H v H2 → ∃ (a : Addr) (xs : List V) (Pv : Nat → L2.St → Hp → Prop), v = .ref a ∧ SqL X.K H2 a xs ∧ Pv 0 σ H2 ∧ (∀ i σ' H', i ≤ xs.length → Pv i σ' H' → SqL X.K H' a xs) ∧
      (∀ i x σ' H', i < xs.length → Pv i σ' H' → xs[i]? = some x → ∃ σ2, Tgt X tg x σ' H' σ2 ∧ wS X body { D with nx := Pv (i + 1), ct := Pv (i + 1), bk := wS X rest D } σ2 H') ∧ (∀ σ' H', Pv xs.length σ' H' → wS X rest D σ' H'))
    (hf : PI X tg e (iList X.K (wE X e))) (hfs : ∀ x, foldedSetIterable e X.env x = pure x := by intro _; rfl) : wS X (.For tg e body [] pos :: rest) D σ H :=
  ws_cons (ps_for hp hc hf pg_w ps_w hfs) (he H (Ex.refl _) _ fun v H1 e1 rv => by
    obtain ⟨a, xs, Pv, rfl, hq, h0, hG, turn, hd⟩ := k v H1 e1 rv
    exact ⟨a, rfl, ⟨xs, hq⟩, for_it (walk_list (K := X.K) (a := a) (xs := xs)) (D := { D with nx := wS X rest D }) Pv h0 hG (fun i x σ' H' H'' hi p y => by
      obtain ⟨rfl, hx⟩ := y
      obtain ⟨σ2, t, q⟩ := turn i x σ' H'' hi p hx
      exact t H'' (Ex.refl _) _ q) hd⟩)
/-! ### all but one thing -/
def del (a : Addr) (H : Hp) : Hp := fun b => if b = a then none else H b
theorem del_ex (a : Addr) (H : Hp) : Ex (del a H) H := fun b o h => by
  unfold del at h
  split at h
  · cases h
  · exact h
theorem del_none (a : Addr) (H : Hp) : del a H a = none := if_pos rfl
theorem del_ne {a b : Addr} {H : Hp} (h : b ≠ a) : del a H b = H b := if_neg h
theorem ex_del {a : Addr} {H H' : Hp} (h : Ex H H') (n : H a = none) : Ex H (del a H') := fun b o e => by
  rw [del_ne (ne_of_none e n)]
  exact h b o e
theorem del_keep {a b : Addr} {H : Hp} (h : H b = none) : del a H b = none := by
  unfold del
  split
  · rfl
  · exact h
theorem exB_iff {a : Addr} {H H' : Hp} (h : Ex (del a H) H') : ExB a H H' := fun b o n e => h b o (by rw [del_ne n]; exact e)
end
end TS
/-! ## D8 -/
namespace TS
open PySem PySem.Spec PyProof.Rows L2
theorem All2.toList {α β : Type} {F : α → β → Prop} : ∀ {as : List α} {bs : List β}, All2 F as bs → ∀ b ∈ bs, ∃ a ∈ as, F a b
  | _, _, .nil, b, hb => by cases hb
  | _, _, .cons x t, b, hb => by
    rcases (List.mem_cons).mp hb with e | e
    · subst e; exact ⟨_, List.mem_cons_self .., x⟩
    · obtain ⟨a, h1, h2⟩ := All2.toList t b e
      exact ⟨a, List.mem_cons_of_mem _ h1, h2⟩
theorem all2_perm {α β : Type} {F : α → β → Prop} {bs cs : List β} (hp : cs.Perm bs) : ∀ {as : List α}, All2 F as bs → ∃ ds, ds.Perm as ∧ All2 F ds cs := by
  induction hp with
  | nil => intro as h; exact ⟨as, List.Perm.refl _, h⟩
  | cons x _ ih =>
    intro as h
    cases h with
    | cons h1 h2 =>
      obtain ⟨ds, p, q⟩ := ih h2
      exact ⟨_ :: ds, p.cons _, .cons h1 q⟩
  | swap x y l =>
    intro as h
    cases h with
    | cons h1 h2 =>
      cases h2 with
      | cons h3 h4 => exact ⟨_, List.Perm.swap _ _ _, .cons h3 (.cons h1 h4)⟩
  | trans _ _ ih1 ih2 =>
    intro as h
    obtain ⟨ds, p, q⟩ := ih2 h
    obtain ⟨es, p2, q2⟩ := ih1 q
    exact ⟨es, p2.trans p, q2⟩
/-- of the turns that are taken: what they gave -/
theorem all2_filterMap {α β : Type} {F : β → V → Prop} {g : α → Option β} {d : α} : ∀ (as : List α) (f : Nat → Bool) (n : Nat) (hn : n ≤ as.length) (xs : List V), (∀ i, i < n → f i = (g (as.getD i d)).isSome) →
    All2 (fun i v => ∃ b, g (as.getD i d) = some b ∧ F b v) (picked n f) xs → All2 F ((as.take n).filterMap g) xs
  | as, f, 0, _, xs, _, h => by
    have e : picked 0 f = [] := rfl
    rw [e] at h
    cases h
    simp
    exact .nil
  | as, f, n + 1, hn, xs, hf, h => by
    have hlt : n < as.length := hn
    have e : as.take (n + 1) = as.take n ++ [as.getD n d] := by
      rw [List.take_succ, List.getElem?_eq_getElem hlt, List.getD_eq_getElem?_getD, List.getElem?_eq_getElem hlt]
      rfl
    rw [e, List.filterMap_append]
    rw [picked_succ] at h
    cases hk : f n with
    | false =>
      rw [hk, if_neg (by decide), List.append_nil] at h
      have hg := hf n (Nat.lt_succ_self n)
      rw [hk] at hg
      have e2 : List.filterMap g [as.getD n d] = [] := by
        cases hq : g (as.getD n d) with
        | none => rw [List.filterMap_cons, hq]; rfl
        | some b => rw [hq] at hg; cases hg
      rw [e2, List.append_nil]
      exact all2_filterMap as f n (Nat.le_of_succ_le hn) xs (fun i hi => hf i (Nat.lt_succ_of_lt hi)) h
    | true =>
      rw [hk, if_pos rfl] at h
      obtain ⟨ys, z, rfl, h1, h2⟩ := all2_snoc_inv h
      obtain ⟨b, hb, hF⟩ := h2
      have e2 : List.filterMap g [as.getD n d] = [b] := by rw [List.filterMap_cons, hb]; rfl
      rw [e2]
      exact All2.snoc hF (all2_filterMap as f n (Nat.le_of_succ_le hn) ys (fun i hi => hf i (Nat.lt_succ_of_lt hi)) h1)
where
  all2_snoc_inv {α β : Type} {F : α → β → Prop} : ∀ {as : List α} {a : α} {bs : List β}, All2 F (as ++ [a]) bs → ∃ cs b, bs = cs ++ [b] ∧ All2 F as cs ∧ F a b
  | [], a, _, .cons x .nil => ⟨[], _, rfl, .nil, x⟩
  | c :: as, a, _, .cons x t => by
    obtain ⟨cs, b, h1, h2, h3⟩ := all2_snoc_inv (as := as) t
    exact ⟨_ :: cs, b, by rw [h1]; rfl, .cons x h2, h3⟩
section
variable {X : Cx} {a b c e o : Expr} {es : List Expr} {σ : L2.St} {H H' : Hp} {x y z v : V} {R R' : RT} {pos : Pos}
/-- sorted(a new list of tuples of numbers) -/
theorem ev_sortedTI {gs : List (List Nat)} {pn : Pos} (hu : X.A.in1.in1.units < cLine) (ha : Ev X e σ H (newP fun xs H2 => TIs gs xs H2)) (hm : X.mg "sorted" = none) (hg : Gl X "sorted" := by rfl) (hs : starEach [e] X.env = (false, eval e X.env) :: starEach [] X.env := by rfl) :
    Ev X (.Call (.Name "sorted" pn) [e] [] pos) σ H (fun H1 v H2 => ∃ gs' : List (List Nat), gs'.Perm gs ∧ newP (fun xs H2 => TIs gs' xs H2) H1 v H2) :=
  ev_callBG (R := fun H1 v H2 => ∃ gs' : List (List Nat), gs'.Perm gs ∧ newP (fun xs H2 => TIs gs' xs H2) H1 v H2) (cr_sortedTI hu) hm (by decide +kernel) (eg_one ha hs) (fun H1 vs H2 e1 e2 t Q q => by
    obtain ⟨v, rfl, Hm, em, ⟨p, xs, rfl, hp, hl, hh⟩, rfl⟩ := t
    refine ⟨p, xs, fun x => ((match x with | .ref t => (match Hm t with | some (.tup us) => us | _ => []) | _ => []) : List V).map fun u => match u with | .int i => i | _ => 0, rfl, SqL.of hl, fun x hx => ?_, fun ys d hy _ hd => ?_⟩
    · obtain ⟨ns, _, t, rfl, ht⟩ := All2.toList hh x hx
      refine ⟨t, rfl, ?_⟩
      dsimp only
      rw [ht]
      dsimp only
      unfold nums
      rw [List.map_map]
      rw [List.map_map]
      rfl
    · obtain ⟨gs', p1, q1⟩ := all2_perm hy hh
      exact q _ _ (Ex.new hd) ⟨gs', p1, d, ys, rfl, em.back hd, upd_same, TIs.ex q1 (Ex.new hd)⟩) hg (by decide) (by decide) hs rfl
theorem dp_TIs {K : PySem.W.Frag} {ss : List (List Nat)} {vs : List V} (h : TIs ss vs H) : DpAll K H vs (ss.map fun ns => .tuple (ns.map fun n => .int (n : Nat))) :=
  dp_all2 (fun ns v ⟨a, e, h⟩ => by rw [e]; exact .tup (SqT.of h) dp_nums) h
theorem canLay_ints : ∀ ns : List Nat, PyData.canLayAll0 (ns.map fun n => PyData.int (n : Nat)) = true := fun ns => by
  induction ns with
  | nil => rfl
  | cons n ns ih => simp [PyData.canLayAll0, PyData.canLay0, ih]
theorem canLay_tups : ∀ ss : List (List Nat), PyData.canLayAll0 (ss.map fun ns => PyData.tuple (ns.map fun n => PyData.int (n : Nat))) = true := fun ss => by
  induction ss with
  | nil => rfl
  | cons s ss ih => simp [PyData.canLayAll0, PyData.canLay0, canLay_ints, ih]
theorem depth_nums : ∀ ns : List Nat, PyData.depthAll (ns.map fun n => PyData.int (n : Nat)) = 0 := fun ns => by
  induction ns with
  | nil => rfl
  | cons n ns ih => simp [PyData.depthAll, PyData.depth, ih]
theorem depth_tups : ∀ ss : List (List Nat), PyData.depthAll (ss.map fun ns => PyData.tuple (ns.map fun n => PyData.int (n : Nat))) ≤ 1 := fun ss => by
  induction ss with
  | nil => simp [PyData.depthAll]
  | cons s ss ih => simp [PyData.depthAll, PyData.depth, depth_nums]; omega
theorem shaped_tups (ss : List (List Nat)) : SeqAt.shaped (.list (ss.map fun ns => .tuple (ns.map fun n => .int (n : Nat)))) = true := by
  unfold SeqAt.shaped
  rw [Bool.and_eq_true]
  refine ⟨?_, decide_eq_true ?_⟩
  · simp only [PyData.canLay0]
    exact canLay_tups ss
  · simp only [PyData.depth]
    have := depth_tups ss
    omega
theorem eqv_nil (ds : List PyData) : PyData.eqv (.list ds) (.list []) = ds.isEmpty := by
  cases ds <;> rfl
/-- xs == [], xs != [] of a list of tuples of numbers -/
theorem et_neNil {ss : List (List Nat)} {p2 : Pos} (hu : X.A.units + 64 < cLine) (ha : Ev X a σ H (is x)) (h : LTI ss x H) (hm : behindInMarks .NotEq (.List [] p2) = false := by rfl) : EvT X (.Compare a [.NotEq] [.List [] p2] pos) σ H (!ss.isEmpty) := fun H1 e1 Q q =>
  wT_of (pt_cmpR (op_neD hu) pe_w pe_w hm) (ha H1 e1 _ fun x' H2 e2 rx => (ev_lst (X := X) (σ := σ) (pos := p2) ea_nil (by show 0 ≤ 100000; decide)) H2 (Ex.refl _) _ fun y' H3 e3 ⟨p, ey, _, hp⟩ => by
    cases rx
    obtain ⟨l, vs, rfl, hl, hvs⟩ := h
    have e13 := (e1.trans e2).trans e3
    subst ey
    refine ⟨_, _, .lst (SqL.of (e13 _ _ hl)) (dp_TIs (hvs.ex e13)), .lst (SqL.of hp) .nil, shaped_tups ss, by decide, _, rfl, ?_⟩
    rw [eqv_nil, List.isEmpty_map]
    exact q H3 (e2.trans e3))
theorem et_eqNil {ss : List (List Nat)} {p2 : Pos} (hu : X.A.units + 64 < cLine) (ha : Ev X a σ H (is x)) (h : LTI ss x H) (hm : behindInMarks .Eq (.List [] p2) = false := by rfl) : EvT X (.Compare a [.Eq] [.List [] p2] pos) σ H ss.isEmpty := fun H1 e1 Q q =>
  wT_of (pt_cmpR (op_eqD hu) pe_w pe_w hm) (ha H1 e1 _ fun x' H2 e2 rx => (ev_lst (X := X) (σ := σ) (pos := p2) ea_nil (by show 0 ≤ 100000; decide)) H2 (Ex.refl _) _ fun y' H3 e3 ⟨p, ey, _, hp⟩ => by
    cases rx
    obtain ⟨l, vs, rfl, hl, hvs⟩ := h
    have e13 := (e1.trans e2).trans e3
    subst ey
    refine ⟨_, _, .lst (SqL.of (e13 _ _ hl)) (dp_TIs (hvs.ex e13)), .lst (SqL.of hp) .nil, shaped_tups ss, by decide, _, rfl, ?_⟩
    rw [eqv_nil, List.isEmpty_map]
    exact q H3 (e2.trans e3))
end
end TS
/-! ## L1 -/
namespace TS
open PySem PySem.Spec PyProof.Rows L2
section
variable {X : Cx} {a b c e o : Expr} {es : List Expr} {σ : L2.St} {H H' : Hp} {x y z v : V} {R R' : RT} {pos : Pos} {k : Bool}
theorem ev_eqNilP {ds : List PyData} {p2 : Pos} (hu : X.A.units + 64 < cLine) (ha : Ev X a σ H (newP fun xs H2 => DpAll X.K H2 xs ds)) (hs : SeqAt.shaped (.list ds) = true) (hm : behindInMarks .Eq (.List [] p2) = false := by rfl) : Ev X (.Compare a [.Eq] [.List [] p2] pos) σ H (is (.bl ds.isEmpty)) := fun H1 e1 Q q =>
  wE_of (pe_cmpR (op_eqD hu) pe_w pe_w hm) (ha H1 e1 _ fun x' H2 e2 ⟨l, xs, ex, _, hl, hd⟩ => (ev_lst (X := X) (σ := σ) (pos := p2) ea_nil (by show 0 ≤ 100000; decide)) H2 (Ex.refl _) _ fun y' H3 e3 ⟨p, ey, _, hp⟩ => by
    subst ex ey
    refine ⟨_, _, .lst (SqL.of (e3 _ _ hl)) (dpA_ex e3 _ _ hd), .lst (SqL.of hp) .nil, hs, by decide, ?_⟩
    rw [eqv_nil]
    exact q _ H3 (e2.trans e3) rfl)
theorem et_eqNilP {ds : List PyData} {p2 : Pos} (hu : X.A.units + 64 < cLine) (ha : Ev X a σ H (newP fun xs H2 => DpAll X.K H2 xs ds)) (hs : SeqAt.shaped (.list ds) = true) (hm : behindInMarks .Eq (.List [] p2) = false := by rfl) : EvT X (.Compare a [.Eq] [.List [] p2] pos) σ H ds.isEmpty := fun H1 e1 Q q =>
  wT_of (pt_cmpR (op_eqD hu) pe_w pe_w hm) (ha H1 e1 _ fun x' H2 e2 ⟨l, xs, ex, _, hl, hd⟩ => (ev_lst (X := X) (σ := σ) (pos := p2) ea_nil (by show 0 ≤ 100000; decide)) H2 (Ex.refl _) _ fun y' H3 e3 ⟨p, ey, _, hp⟩ => by
    subst ex ey
    refine ⟨_, _, .lst (SqL.of (e3 _ _ hl)) (dpA_ex e3 _ _ hd), .lst (SqL.of hp) .nil, hs, by decide, _, rfl, ?_⟩
    rw [eqv_nil]
    exact q H3 (e2.trans e3))
theorem et_neNilP {ds : List PyData} {p2 : Pos} (hu : X.A.units + 64 < cLine) (ha : Ev X a σ H (newP fun xs H2 => DpAll X.K H2 xs ds)) (hs : SeqAt.shaped (.list ds) = true) (hm : behindInMarks .NotEq (.List [] p2) = false := by rfl) : EvT X (.Compare a [.NotEq] [.List [] p2] pos) σ H (!ds.isEmpty) := fun H1 e1 Q q =>
  wT_of (pt_cmpR (op_neD hu) pe_w pe_w hm) (ha H1 e1 _ fun x' H2 e2 ⟨l, xs, ex, _, hl, hd⟩ => (ev_lst (X := X) (σ := σ) (pos := p2) ea_nil (by show 0 ≤ 100000; decide)) H2 (Ex.refl _) _ fun y' H3 e3 ⟨p, ey, _, hp⟩ => by
    subst ex ey
    refine ⟨_, _, .lst (SqL.of (e3 _ _ hl)) (dpA_ex e3 _ _ hd), .lst (SqL.of hp) .nil, hs, by decide, _, rfl, ?_⟩
    rw [eqv_nil]
    exact q H3 (e2.trans e3))
theorem shaped_ints (ns : List Nat) : SeqAt.shaped (.list (ns.map fun n => .int (n : Nat))) = true := by
  unfold SeqAt.shaped
  rw [Bool.and_eq_true]
  refine ⟨?_, decide_eq_true ?_⟩
  · simp only [PyData.canLay0]
    exact canLay_ints ns
  · simp only [PyData.depth]
    rw [depth_nums]
    decide
theorem ev_abs {i : Int} {pn : Pos} (ha : Ev X a σ H (is (.int i))) (hm : X.mg "abs" = none) (hg : Gl X "abs" := by rfl) (hs : starEach [a] X.env = (false, eval a X.env) :: starEach [] X.env := by rfl) : Ev X (.Call (.Name "abs" pn) [a] [] pos) σ H (is (.int (i.natAbs : Nat))) :=
  ev_callB (R := is (.int (i.natAbs : Nat))) call_abs hm (by decide +kernel) (ea_cons ha ea_nil hs) (fun H1 e1 Q q => ⟨i, rfl, by
    have e : (if i < 0 then -i else i) = ((i.natAbs : Nat) : Int) := by split <;> omega
    rw [e]
    exact q _ H1 (Ex.refl _) rfl⟩) hg (by decide) (by decide) hs rfl
theorem ev_intI {i : Int} {pn : Pos} (ha : Ev X a σ H (is (.int i))) (hm : X.mg "int" = none) (hg : Gl X "int" := by rfl) (hs : starEach [a] X.env = (false, eval a X.env) :: starEach [] X.env := by rfl) : Ev X (.Call (.Name "int" pn) [a] [] pos) σ H (is (.int i)) :=
  ev_callTy (R := is (.int i)) call_int1 hm (by decide +kernel) (ea_cons ha ea_nil hs) (fun H1 e1 Q q => .inl ⟨i, rfl, q _ H1 (Ex.refl _) rfl⟩) hg (by decide) (by decide) hs rfl
theorem ev_intB {k : Bool} {pn : Pos} (ha : Ev X a σ H (is (.bl k))) (hm : X.mg "int" = none) (hg : Gl X "int" := by rfl) (hs : starEach [a] X.env = (false, eval a X.env) :: starEach [] X.env := by rfl) : Ev X (.Call (.Name "int" pn) [a] [] pos) σ H (is (.int (if k then 1 else 0))) :=
  ev_callTy (R := is (.int (if k then 1 else 0))) call_int1 hm (by decide +kernel) (ea_cons ha ea_nil hs) (fun H1 e1 Q q => .inr ⟨k, rfl, q _ H1 (Ex.refl _) rfl⟩) hg (by decide) (by decide) hs rfl
/-- xs + ys, both new or standing -/
theorem ev_catL {Ra Rb : RT} {xs : Hp → V → Hp → Prop} (ha : Ev X a σ H Ra) (hb : ∀ H1 x H2, Ex H H1 → Ex H1 H2 → Ra H1 x H2 → Ev X b σ H2 Rb)
    (h : ∀ H1 x H2 y H3, Ex H H1 → Ex H1 H2 → Ra H1 x H2 → Ex H2 H3 → Rb H2 y H3 → ∃ l b us ws, x = .ref l ∧ y = .ref b ∧ H3 l = some (.lst us) ∧ H3 b = some (.lst ws) ∧ us.length + ws.length ≤ 100000 ∧ ∀ p H4, H3 p = none → H4 = upd H3 p (.lst (us ++ ws)) → R H1 (.ref p) H4) : Ev X (.BinOp a .Add b pos) σ H R := fun H1 e1 Q q =>
  wE_of (pe_op op_cat pe_w pe_w) (ha H1 e1 _ fun x H2 e2 ra => hb H1 x H2 e1 e2 ra H2 (Ex.refl _) _ fun y H3 e3 rb => by
    obtain ⟨l, b, us, ws, rfl, rfl, h1, h2, h3, h4⟩ := h H1 x H2 y H3 e1 e2 ra e3 rb
    exact ⟨l, b, us, ws, rfl, rfl, h1, h2, sz_of h3, fun p hp => q _ _ ((e2.trans e3).trans (Ex.new hp)) (h4 p _ hp rfl)⟩)
/-- t + (n,) -/
theorem ev_snocT {ns : List Nat} {n : Nat} {j : Nat} {p2 : Pos} (ha : Ev X a σ H (is x)) (hx : TI ns x H) (hb : Ev X b σ H (is (.int (n : Nat)))) (hl : ns.length ≤ 50000) (hs : starEach [b] X.env = (false, eval b X.env) :: starEach [] X.env := by rfl) : Ev X (.BinOp a .Add (.Tuple [b] j p2) pos) σ H (fits (TI (ns ++ [n]))) := fun H1 e1 Q q =>
  wE_of (pe_op op_catA pe_w pe_w) (ha H1 e1 _ fun x' H2 e2 rx => (ev_tup (pos := p2) (j := j) (ea_cons hb ea_nil hs) (by show 1 ≤ 100000; decide)) H2 (e1.trans e2) _ fun y' H3 e3 ⟨t, ey, _, ht⟩ => by
    cases rx
    subst ey
    obtain ⟨p, rfl, hp⟩ := hx
    have e13 := (e1.trans e2).trans e3
    refine ⟨p, t, nums ns, [.int (n : Nat)], rfl, rfl, SqT.of (e13 _ _ hp), SqT.of ht, ?_, fun hz => ?_, (fun _ hz => nomatch hz), fun _ _ r hr => q _ _ ((e2.trans e3).trans (Ex.new hr)) ⟨r, rfl, ?_⟩⟩
    · rw [nums_len]
      exact sz_of (by show ns.length + 1 ≤ 100000; omega)
    · refine q _ H3 (e2.trans e3) ⟨t, rfl, ?_⟩
      have : ns = [] := by
        cases ns with
        | nil => rfl
        | cons _ _ => cases hz
      rw [this]
      exact ht
    · rw [upd_same]
      unfold nums
      rw [List.map_append]
      rfl)
end
/-! ### the law's own lot -/
abbrev Wk := Str × (Nat × Nat)
def WK (w : Wk) (u : V) (H : Hp) : Prop := ∃ x q, u = .ref x ∧ H x = some (.tup [.str w.1, .ref q]) ∧ H q = some (.tup [.int (w.2.1 : Nat), .int (w.2.2 : Nat)])
theorem WK.sx {w : Wk} : SMono (WK w) := fun v H H' e ⟨x, q, h1, h2, h3⟩ => ⟨x, q, h1, e _ _ h2 rfl, e _ _ h3 rfl⟩
def IsOwn (L : LotD) (ws : List Wk) (v : V) (H : Hp) : Prop := L.parts = ws.map (·.2) ∧ ∃ t wl us, v = .ref t ∧ H t = some (.tup [.int (L.many : Nat), .ref wl]) ∧ H wl = some (.lst us) ∧ All2 (fun w u => WK w u H) ws us
theorem IsOwn.ex {L : LotD} {ws : List Wk} {v : V} {H H' : Hp} (h : IsOwn L ws v H) (e : Ex H H') : IsOwn L ws v H' := let ⟨h0, t, wl, us, h1, h2, h3, h4⟩ := h; ⟨h0, t, wl, us, h1, e _ _ h2, e _ _ h3, h4.imp fun _ _ z => WK.sx _ _ _ e.sx z⟩
def nearB (p : Nat × Nat) (m t : Nat) : Bool := decide ((((t * p.1 : Nat) : Int) - ((m * p.2 : Nat) : Int)).natAbs < p.2)
section
variable {P : Program} {w : World} {K : PySem.W.Frag} {mg : Str → Option Value} {base : Heap} {CL CS CP : Addr}
theorem sc_near : FnScope ["_law_share_here", "_law_many", "_law_t"] ["_law_share_here", "_law_many", "_law_t"] (defScope s_law_near) := ⟨rfl, rfl, rfl, by decide +kernel, rfl, by decide +kernel, by decide +kernel⟩
def spNear : Sp := fun vs H Q _ => ∃ (x : V) (p : Nat × Nat) (m t : Nat), vs = [x, .int m, .int t] ∧ T2 p x H ∧ p.1 < 1000 ∧ p.2 < 1000 ∧ ∀ H', Ex H H' → Q (.bl (nearB p m t)) H'
theorem cal_near (T : Txt K mg CL CS CP) : C8.Cal P w K mg base 1 "_law_near" spNear [] := by
  refine cal_mk T.d_law_near sc_near (fun vs H Q E h => ?_) fun f cdv A outer s H vs Q E hr h => ?_
  · obtain ⟨x, p, m, t, rfl, _⟩ := h
    rfl
  · obtain ⟨x, p, m, t, rfl, hx, h1, h2, k⟩ := h
    refine ws_ret (ev_lt (ev_abs (ev_sub (ev_mul (.inr ⟨by omega, by omega⟩) (ev_name 2 rfl) (ev_at0 (ev_name 0 rfl) hx)) (ev_mul (.inr ⟨by omega, by omega⟩) (ev_name 1 rfl) (ev_at1 (ev_name 0 rfl) hx))) T.n_abs) (ev_at1 (ev_name 0 rfl) hx)) fun v H2 e2 rv => ?_
    cases rv
    have q := k H2 e2
    unfold nearB at q
    have e : decide ((((((t : Nat) : Int) * ((p.1 : Nat) : Int) - ((m : Nat) : Int) * ((p.2 : Nat) : Int)).natAbs : Nat) : Int) < ((p.2 : Nat) : Int)) = decide ((((t * p.1 : Nat) : Int) - ((m * p.2 : Nat) : Int)).natAbs < p.2) := by
      have e1 : ((t * p.1 : Nat) : Int) = ((t : Nat) : Int) * ((p.1 : Nat) : Int) := by simp
      have e2 : ((m * p.2 : Nat) : Int) = ((m : Nat) : Int) * ((p.2 : Nat) : Int) := by simp
      rw [e1, e2]
      exact decide_eq_decide.mpr Int.ofNat_lt
    rw [e]
    exact q
theorem sc_lplus : FnScope ["_law_had", "_law_given", "_law_k"] ["_law_had", "_law_given"] (defScope s_law_plus) := ⟨rfl, rfl, rfl, by decide +kernel, rfl, by decide +kernel, by decide +kernel⟩
theorem cal_lplus (T : Txt K mg CL CS CP) : C8.Cal P w K mg base 1 "_law_plus" spStep [] := by
  refine cal_mk T.d_law_plus sc_lplus (fun vs H Q E h => ?_) fun f cdv A outer s H vs Q E hr h => ?_
  · obtain ⟨x, y, s, g, rfl, _⟩ := h
    rfl
  · obtain ⟨x, y, sn, g, rfl, hx, hy, hl, k⟩ := h
    obtain ⟨ax, rfl, hx⟩ := hx
    refine ws_ret (ev_tupleOf (P := fun ys _ => ys = nums (plusL sn g)) (Ev.imp (ev_comp (n := sn.length) (P := fun i v _ => v = .int ((sn.getD i 0 + if i ∈ g then 1 else 0 : Nat) : Int)) (own := [("_law_k", 2)]) rfl sc_lplus.nd (blkOk_by (own := [("_law_k", 2)]) (N := ["_law_had", "_law_given", "_law_k"]) (sc := defScope s_law_plus) (by decide +kernel)) (src_rangeK (ea_cons ((ev_lenQ (ev_name 0 rfl) (.inr (SqT.of hx)) T.n_len).is_ (by rw [nums_len])) ea_nil) (by omega) T.n_range) (by omega) hG_true (fun i => isP_sx (v := fun i => .int ((sn.getD i 0 + if i ∈ g then 1 else 0 : Nat) : Int)) i) hY_fn (fun i x Ha Hb hi ea gg y => ?_)) fun H1 v H2 e1 e2 r => ?_) (fun _ _ _ _ h => h) T.n_tuple) fun v H2 e2 rv => ?_
    · obtain ⟨rfl, rfl⟩ := y
      refine ⟨_, fun s H0 C cl fp => tgt_name 2 sc_lplus.nd, rfl, rfl, fun _ s H0 C cl fp => ?_⟩
      refine Ev.fits (x := .int ((sn.getD i 0 + if i ∈ g then 1 else 0 : Nat) : Int)) ?_ fun _ _ => rfl
      refine (ev_add (ev_atTI (ev_name 0 rfl) ⟨ax, rfl, ea _ _ hx⟩ (ev_name 2 rfl) (some_of hi)) (ev_intB (ev_inTI (ev_name 2 rfl) (ev_name 1 rfl) (hy.ex ea)) T.n_int)).is_ ?_
      by_cases h : i ∈ g
      · rw [if_pos h, decide_eq_true h]
        rfl
      · rw [if_neg h, decide_eq_false h]
        simp
    · have q := newL_P (newC_all (g := fun i => .int ((sn.getD i 0 + if i ∈ g then 1 else 0 : Nat) : Int)) r)
      obtain ⟨p, xs, h1, h2, h3, h4⟩ := q
      refine ⟨p, xs, h1, h2, h3, ?_⟩
      show xs = _
      rw [h4]
      unfold nums plusL
      rw [List.map_map]
      rfl
    · obtain ⟨p, xs, rfl, h2, h3, rfl⟩ := rv
      exact k _ H2 e2 ⟨p, rfl, h3⟩
theorem sc_kept : FnScope ["_law_lot_here", "_law_had", "_law_t", "_law_k"] ["_law_lot_here", "_law_had", "_law_t"] (defScope s_law_kept) := ⟨rfl, rfl, rfl, by decide +kernel, rfl, by decide +kernel, by decide +kernel⟩
def keptB (parts : List (Nat × Nat)) (had : List Nat) (t : Nat) : Bool := (List.range had.length).all fun i => nearB (parts.getD i (0, 0)) (had.getD i 0) t
def spKept : Sp := fun vs H Q _ => ∃ (x y : V) (L : LotD) (ws : List Wk) (had : List Nat) (t : Nat), vs = [x, y, .int t] ∧ IsOwn L ws x H ∧ L.ok ∧ TI had y H ∧ had.length = L.parts.length ∧ ∀ H', Ex H H' → Q (.bl (keptB L.parts had t)) H'
theorem cal_kept (T : Txt K mg CL CS CP) : C8.Cal P w K mg base 2 "_law_kept" spKept [] := by
  refine cal_mk T.d_law_kept sc_kept (fun vs H Q E h => ?_) fun f cdv A outer s H vs Q E hr h => ?_
  · obtain ⟨x, y, L, ws, had, t, rfl, _⟩ := h
    rfl
  · obtain ⟨x, y, L, ws, had, t, rfl, hx, ok, hy, hl, k⟩ := h
    obtain ⟨hpw, lt, wl, us, rfl, o1, o2, o3⟩ := hx
    obtain ⟨ay, rfl, hy⟩ := hy
    have hp3 := ok.2.2.2.1
    have hul := o3.len
    have hwl : ws.length = L.parts.length := by rw [hpw, List.length_map]
    refine ws_ret (ev_eqNilP (ds := (picked had.length fun i => !nearB (L.parts.getD i (0, 0)) (had.getD i 0) t).map fun n => .int (n : Nat)) hr.units (Ev.imp (ev_compIf (n := had.length) (P := fun i v _ => v = .int (i : Nat)) (f := fun i => !nearB (L.parts.getD i (0, 0)) (had.getD i 0) t) (own := [("_law_k", 3)]) rfl sc_kept.nd (blkOk_by (own := [("_law_k", 3)]) (N := ["_law_lot_here", "_law_had", "_law_t", "_law_k"]) (sc := defScope s_law_kept) (by decide +kernel)) (src_rangeK (ea_cons ((ev_lenQ (ev_name 1 rfl) (.inr (SqT.of hy)) T.n_len).is_ (by rw [nums_len])) ea_nil) (by omega) T.n_range) (by omega) hG_true (fun i => isP_sx (v := fun i => .int (i : Nat)) i) hY_fn (fun i x Ha Hb hi ea gg y => ?_)) fun H1 v H2 e1 e2 r => ?_) (shaped_ints _)) fun v H2 e2 rv => ?_
    · obtain ⟨rfl, rfl⟩ := y
      have hiw : i < ws.length := by omega
      obtain ⟨u, hu, xx, q, rfl, w1, w2⟩ := o3.get (List.getElem?_eq_getElem hiw)
      have hpi : L.parts.getD i (0, 0) = (ws[i]).2 := by
        rw [hpw, List.getD_eq_getElem?_getD, List.getElem?_map, List.getElem?_eq_getElem hiw]
        rfl
      have hpp : L.parts.getD i (0, 0) ∈ L.parts := by
        rw [List.getD_eq_getElem?_getD, List.getElem?_eq_getElem (by omega)]
        exact List.getElem_mem _
      have hb := ok.2.2.2.2.1 _ hpp
      refine ⟨_, fun s H0 C cl fp => tgt_name 3 sc_kept.nd, rfl, fun s H0 C cl fp => et_not (et_val (ev_call (R := is (.bl (nearB (L.parts.getD i (0, 0)) (had.getD i 0) t))) (cal_near (P := P) (w := w) (base := base) T) hr (by decide) (ea_cons (ev_ixT (ev_ixL (ev_ixT (ev_name 0 rfl) (ev_int (i := 1)) (SqT.of (ea _ _ o1)) rfl) (ev_name 3 rfl) (SqL.of (ea _ _ o2)) (atI_of hu)) (ev_int (i := 1)) (SqT.of (ea _ _ w1)) rfl) (ea_cons (ev_atTI (ev_name 1 rfl) ⟨ay, rfl, ea _ _ hy⟩ (ev_name 3 rfl) (some_of hi)) (ea_cons (ev_name 2 rfl) ea_nil))) fun H1 e1 Q kk => ?_)), fun _ s H0 C cl fp => Ev.fits (ev_name 3 rfl) fun _ _ => rfl⟩
      exact ⟨.ref q, L.parts.getD i (0, 0), had.getD i 0, t, rfl, ⟨q, rfl, by rw [hpi]; exact (ea.trans e1) _ _ w2⟩, by omega, by omega, fun H' e' => kk _ H' e' rfl⟩
    · obtain ⟨p, h1, h2, h3⟩ := newC_map (g := fun i => .int (i : Nat)) r
      exact ⟨p, _, h1, h2, h3, dp_nums⟩
    · cases rv
      have e : ((picked had.length fun i => !nearB (L.parts.getD i (0, 0)) (had.getD i 0) t).map fun n => PyData.int (n : Nat)).isEmpty = keptB L.parts had t := by
        rw [List.isEmpty_map]
        unfold picked keptB
        cases hk : (List.range had.length).all fun i => nearB (L.parts.getD i (0, 0)) (had.getD i 0) t with
        | true =>
          rw [List.isEmpty_iff, List.filter_eq_nil_iff]
          intro i hi
          rw [List.all_eq_true.mp hk i hi]
          decide
        | false =>
          rw [List.isEmpty_eq_false_iff]
          intro z
          rw [List.filter_eq_nil_iff] at z
          have : (List.range had.length).all (fun i => nearB (L.parts.getD i (0, 0)) (had.getD i 0) t) = true := List.all_eq_true.mpr fun i hi => by
            have := z i hi
            cases hn : nearB (L.parts.getD i (0, 0)) (had.getD i 0) t with
            | true => rfl
            | false => rw [hn] at this; exact absurd rfl this
          rw [hk] at this
          cases this
      rw [e]
      exact k H2 e2
end
end TS
/-! ## D9 -/
namespace TS
open PySem PySem.Spec PyProof.Rows L2
theorem isLot_del {CL q : Addr} {C dx : Addr} {L : LotD} {x : V} {H : Hp} (h : IsLot CL L x H) (hq : H q = some (.ins C dx [])) : IsLot CL L x (del q H) := by
  obtain ⟨a, dx', fs, y, h1, h2, h3, h4, ⟨p, vs, h5, h6, h7⟩, h8⟩ := h
  have na : a ≠ q := fun e => by
    subst e
    rw [hq] at h2
    cases h2
    cases h3
  have np : p ≠ q := fun e => by
    subst e
    rw [hq] at h6
    cases h6
  refine ⟨a, dx', fs, y, h1, by rw [del_ne na]; exact h2, h3, h4, ⟨p, vs, h5, by rw [del_ne np]; exact h6, h7.imp fun pr v hv => ?_⟩, h8⟩
  obtain ⟨t, e1, e2⟩ := hv
  refine ⟨t, e1, ?_⟩
  rw [del_ne (fun e => by subst e; rw [hq] at e2; cases e2)]
  exact e2
theorem tis_del {ss : List (List Nat)} {us : List V} {H : Hp} {a : Addr} (h : TIs ss us H) (ha : ∀ ys, H a ≠ some (.tup ys)) : TIs ss us (del a H) := h.imp fun ns v ⟨t, h1, h2⟩ => ⟨t, h1, by
  rw [del_ne (fun e => by subst e; exact ha _ h2)]
  exact h2⟩
theorem room_in2 {k : Nat} {A : Around} (h : Room k A) : A.in1.in1.units < cLine := by
  have := h.un
  show A.units + 1 + 1 < cLine
  omega
theorem room_u1 {k : Nat} {A : Around} (h : Room k A) : A.units + 1 < cLine := by
  have := h.un
  omega
theorem isEmpty_perm {α : Type} {l m : List α} (h : l.Perm m) : l.isEmpty = m.isEmpty := by
  cases l with
  | nil => rw [h.nil_eq]
  | cons a l =>
    cases m with
    | nil => exact absurd h.eq_nil (by simp)
    | cons b m => rfl
theorem take_succ_getD {α : Type} (l : List α) (d : α) {j : Nat} (h : j < l.length) : l.take (j + 1) = l.take j ++ [l.getD j d] := by
  rw [List.take_succ, List.getElem?_eq_getElem h, List.getD_eq_getElem?_getD, List.getElem?_eq_getElem h]
  rfl
theorem aliveK_len (L : LotD) (ok : L.ok) : ∀ k, (aliveK L k).length ≤ 8 ∧ ∀ s ∈ aliveK L k, s.length = L.parts.length := by
  have hp0 : ∀ p ∈ L.parts, 0 < p.2 := fun p hp => by have := ok.2.2.2.2.1 p hp; omega
  have h8 : 2 ^ L.parts.length ≤ 2 ^ 3 := Nat.pow_le_pow_right (by decide) ok.2.2.2.1
  have base : ∀ t, (standsAt L.parts t).length ≤ 8 ∧ ∀ s ∈ standsAt L.parts t, s.length = L.parts.length := fun t => by
    obtain ⟨h1, h2⟩ := standsAt_len L.parts t hp0
    exact ⟨by omega, h2⟩
  intro k
  cases k with
  | zero => exact base _
  | succ k =>
    obtain ⟨h1, h2⟩ := base (L.circle - (k + 1))
    exact ⟨Nat.le_trans (List.length_filter_le _ _) h1, fun s hs => h2 s (List.mem_filter.mp hs).1⟩
theorem livingL_head (L : LotD) : ∀ k, (livingL L k)[0]? = some (aliveK L k)
  | 0 => rfl
  | k + 1 => rfl
section
variable {P : Program} {w : World} {K : PySem.W.Frag} {mg : Str → Option Value} {base : Heap} {CL CS CP : Addr}
abbrev nSheet : List Str := ["self", "lot", "moment", "later", "alive_here", "leads", "standing", "found", "given"]
theorem sc_Sheet_init : FnScope nSheet ["self", "lot"] (defScope s_Sheet_init) := ⟨rfl, rfl, rfl, by decide +kernel, rfl, by decide +kernel, by decide +kernel⟩
def spSheet (CL CS : Addr) : Sp := fun vs H Q _ => ∃ (q dx : Addr) (x : V) (L : LotD), vs = [.ref q, x] ∧ H q = some (.ins CS dx []) ∧ IsLot CL L x H ∧ L.ok ∧ ∀ H', ExB q H H' → IsSheet CL CS L (.ref q) H' → Q .non H'
def sheetFs (x : V) (lv le : Addr) : List (Str × V) := putF "leads" (.ref le) (putF "living" (.ref lv) (putF "lot" x []))
def ShInv (CL CS : Addr) (L : LotD) (H : Hp) (q dx : Addr) (x : V) (lv le : Addr) (i : Nat) (σ' : L2.St) (H' : Hp) : Prop :=
  (∃ x2 x3 x4 x5 x6 x7 x8, σ' = [some (.ref q), some x, x2, x3, x4, x5, x6, x7, x8]) ∧ H' q = some (.ins CS dx (sheetFs x lv le)) ∧ ∃ HB ls ds, HB q = none ∧ HB lv = none ∧ HB le = none ∧ Ex HB H' ∧ Ex (del q H) HB ∧ H' lv = some (.lst ls) ∧ All2 (fun ss u => LTI ss u HB) (livingL L i) ls ∧
    H' le = some (.lst ds) ∧ All2 (fun p u => IsLead L.many p.1 p.2 u HB) (leadL L i) ds
def okS (L : LotD) (i : Nat) (s : List Nat) : Bool := !(givensOf s (aliveK L i) L.many).isEmpty
def InInv (L : LotD) (i : Nat) (H0 : Hp) (al ld ss : Addr) (us : List V) (σ0 : Option V → Option V → Option V → L2.St) (st : List (List Nat)) (j : Nat) (σ' : L2.St) (H' : Hp) : Prop :=
  (∃ x6 x7 x8, σ' = σ0 x6 x7 x8) ∧ ∃ HI vs kvs, HI al = none ∧ HI ld = none ∧ Ex H0 HI ∧ HI ss = some (.lst us) ∧ TIs st us HI ∧ Ex HI H' ∧ H' al = some (.lst vs) ∧ TIs ((st.take j).filter (okS L i)) vs HI ∧ H' ld = some (.dT kvs) ∧ kvs.length ≤ j ∧
    ∀ s ∈ (st.take j).filter (okS L i), ∃ u gs, valV kvs (keyN s) = some u ∧ LTI gs u HI ∧ gs.Perm (givensOf s (aliveK L i) L.many) ∧ ∃ t, u = .ref t ∧ H0 t = none
/-- one turn over the standings of a moment -/
theorem sheet_inner {X : Cx} {σ0 : Option V → Option V → Option V → L2.St} {D : Ends} {rest : List Stmt} {L : LotD} {i : Nat} {H0 Hs : Hp} {al ld q lv le dx : Addr} {x u0 mo : V} : True := True.intro
theorem mak_Sheet (T : Txt K mg CL CS CP) : C8.Mak P w K mg base 3 "Sheet" CS (spSheet CL CS) [] := by
  refine mak_mk T.gSheet T.iSheet sc_Sheet_init (fun vs H Q E h => ?_) fun f cdv A outer s H vs Q E hr h => ?_
  · obtain ⟨q, dx, x, L, rfl, _⟩ := h
    rfl
  · obtain ⟨q, dx, x, L, rfl, hq, hx, ok, k⟩ := h
    have hu := hr.un
    have hx0 := isLot_del hx hq
    have ic : L.circle ≤ 6 := ok.2.2.2.2.2.2
    have ic1 : 1 ≤ L.circle := ok.2.2.2.2.2.1
    -- self.lot, self.living = (lot, [standings_at(..)])
    refine ws_fldsG (n := 2) (T := fun H1 vs H2 => ∃ lv l0 us, vs = [x, .ref lv] ∧ H1 lv = none ∧ H2 lv = some (.lst [.ref l0]) ∧ l0 ≠ lv ∧ H1 l0 = none ∧ H2 l0 = some (.lst us) ∧ TIs (aliveK L 0) us (del lv H2)) rfl
      (EvG.imp (eg_cons (ev_name 1 rfl) fun H1 v H2 e1 e2 rv => eg_one (ev_lstG (eg_one (ev_callG (R := fun H1 v H2 => ∃ a us, v = .ref a ∧ H1 a = none ∧ H2 a = some (.lst us) ∧ TIs (standsAt L.parts L.circle) us H2) (T := fun _ vs _ => vs = [x, .int (L.circle : Nat)]) (cal_standings_at (P := P) (w := w) (base := base) T) hr (Nat.le_refl 2) (EvA.g (ea_cons (ev_name 1 rfl) (ea_cons (ev_lotCircle T.cLot T.aLot_circle (ev_name 1 rfl) (hx.ex (e1.trans e2))) ea_nil))) fun H3 vs H4 e3 e4 tt Q q => by
          subst tt
          exact ⟨x, L, L.circle, rfl, hx.ex (((e1.trans e2).trans e3).trans e4), ok, by omega, fun a us H' e5 ha hus hT => q _ _ e5 ⟨a, us, rfl, e4.back ha, hus, hT⟩⟩)) (fun H1 vs H2 ⟨v, e, _⟩ => by rw [e]; show 1 ≤ 100000; decide))) fun H1 vs H2 e1 e2 t => ?_) (fun H1 vs H2 ⟨lv, l0, us, e, _⟩ => by rw [e]; rfl) (by decide) hq fun vs H1 p e1 t hp => ?_
    · obtain ⟨v, r, Ha, rfl, ea, rv, eb, v2, hr2, Hb, ec, ⟨ws, Hc, lv, rfl, ed, ⟨u, rfl, Hd, ee, ⟨l0, us, rfl, g1, g2, g3⟩, rfl⟩, f1, f2, rfl⟩, rfl⟩ := t
      cases rv
      subst hr2
      refine ⟨lv, l0, us, rfl, ?_, upd_same, ?_, ?_, ?_, ?_⟩
      · exact ea.back f2
      · exact ne_of_none g2 f1
      · exact ea.back g1
      · rw [upd_ne (ne_of_none g2 f1)]
        exact g2
      · exact g3.ex (ex_del (Ex.new f1) f1)
    · obtain ⟨lv, l0, us, rfl, a1, a2, a3, a4, a5, a6⟩ := t
      have nq : lv ≠ q := ne_of_none hq a1 |>.symm
      have npq : p ≠ q := (ne_of_none (e1 _ _ hq) hp).symm
      refine ⟨_, tgus_cons (tgu_fld 0 rfl T.cSheet T.aSheet_lot (by decide)) (tgus_cons (tgu_fld 0 rfl T.cSheet T.aSheet_living (by show 1 < 1000; decide)) tgus_nil), ?_⟩
      refine ws_fld 0 (ev_lst ea_nil (by show 0 ≤ 100000; decide)) rfl upd_same T.cSheet T.aSheet_leads (by show 2 < 1000; decide) fun v H2 e2 rv => ?_
      obtain ⟨le, rfl, b1, b2⟩ := rv
      have w0 : Ex (del q H) (upd (upd H1 p (.tup [x, .ref lv])) q (.ins CS dx (putF "living" (.ref lv) (putF "lot" x [])))) := Ex.mut (((del_ex q H).trans e1).trans (Ex.new hp)) (del_none q H)
      have w1 : Ex (del q H) (upd H2 q (.ins CS dx (sheetFs x lv le))) := Ex.mut (w0.trans e2) (del_none q H)
      have lvp : lv ≠ p := fun e => by subst e; rw [a2] at hp; cases hp
      have lvH : (upd (upd H1 p (.tup [x, .ref lv])) q (.ins CS dx (putF "living" (.ref lv) (putF "lot" x [])))) lv = some (.lst [.ref l0]) := by
        rw [upd_ne nq, upd_ne lvp]; exact a2
      have leq : le ≠ q := (ne_of_none upd_same b1).symm
      have lel : lv ≠ le := ne_of_none lvH b1
      refine ws_for (σ := _) PassesOwn.never rfl (src_down (n := (L.circle : Nat)) (ea_cons (ev_sub (ev_lotCircle T.cLot T.aLot_circle (ev_name 1 rfl) (hx0.ex w1)) ev_int) (ea_cons (ev_neg ev_int) (ea_cons (ev_neg ev_int) ea_nil))) (by omega) T.n_range)
        (fun i σ' H' => ShInv CL CS L H q dx x lv le i σ' H') (fun H4 e4 _ => ?_) (fun i σ' H' _ p => True.intro) (fun i x' σ' Ha Hb hi p yy => ?_) fun σ' H' p => ?_
      · have hq4 : H4 q = some (.ins CS dx (sheetFs x lv le)) := e4 _ _ upd_same
        have wq : (del q (del lv H1)) q = none := del_none _ _
        have wl : (del q (del lv H1)) lv = none := del_keep (del_none _ _)
        have W1 : Ex (del q (del lv H1)) (upd (upd H1 p (.tup [x, .ref lv])) q (.ins CS dx (putF "living" (.ref lv) (putF "lot" x [])))) := Ex.mut (((del_ex _ _).trans (del_ex _ _)).trans (Ex.new hp)) wq
        have we : (del q (del lv H1)) le = none := W1.back b1
        have W4 : Ex (del q (del lv H1)) H4 := (Ex.mut (W1.trans e2) wq).trans e4
        have W5 : Ex (del q (del lv H1)) (del q (del lv (del le H4))) := ex_del (ex_del (ex_del W4 we) wl) wq
        have l0q : l0 ≠ q := fun e => by subst e; rw [hq] at a4; cases a4
        refine ⟨⟨_, _, _, _, _, _, _, rfl⟩, hq4, del q (del lv (del le H4)), [.ref l0], [], del_none _ _, del_keep (del_none _ _), del_keep (del_keep (del_none _ _)), ((del_ex _ _).trans (del_ex _ _)).trans (del_ex _ _), ?_, ?_, .cons ?_ .nil, ?_, .nil⟩
        · refine ex_del (ex_del (ex_del (w1.trans e4) ?_) ?_) (del_none q H)
          · exact w0.back b1
          · exact ((del_ex q H).back a1)
        · refine e4 _ _ ?_
          rw [upd_ne nq]
          exact e2 _ _ lvH
        · refine ⟨l0, us, rfl, W5 _ _ ?_, ?_⟩
          · rw [del_ne l0q, del_ne a3]
            exact a5
          · refine TIs.ex (H := del q (del lv H1)) ?_ W5
            refine a6.imp fun ns v ⟨t, h1, h2⟩ => ⟨t, h1, ?_⟩
            rw [del_ne (fun e => ?_)]
            · exact h2
            · subst e
              have := del_ex _ _ _ _ h2
              rw [e1 _ _ hq] at this
              cases this
        · refine e4 _ _ ?_
          rw [upd_ne leq]
          exact b2
      · obtain ⟨⟨x2, x3, x4, x5, x6, x7, x8, rfl⟩, hqa, HB, ls, ds, B1, B2, B3, eB, eH, hlv, hls, hle, hds⟩ := p
        obtain ⟨rfl, rfl⟩ := yy
        have hi' : i < L.circle := by omega
        obtain ⟨kl8, klen⟩ := aliveK_len L ok i
        obtain ⟨u0, hu0, hL0⟩ := hls.get (livingL_head L i)
        have hlotb : IsLot CL L x Hb := hx0.ex (eH.trans eB)
        refine ⟨_, tgt_name 2 sc_Sheet_init.nd, ?_⟩
        refine ws_par3G (T := fun H1 vs H2 => ∃ al ld, vs = [u0, .ref al, .ref ld] ∧ H1 al = none ∧ H1 ld = none ∧ al ≠ ld ∧ H2 al = some (.lst []) ∧ H2 ld = some (.dT [])) 3 4 5 rfl sc_Sheet_init.nd
          (EvG.imp (eg_cons (ev_ixL (ev_fld (ev_name 0 rfl) hqa T.cSheet T.aSheet_living rfl) (ev_int (i := 0)) (SqL.of hlv) (atI_of (i := 0) hu0)) fun H1 v H2 e1 e2 rv => eg_cons (ev_lst ea_nil (by show 0 ≤ 100000; decide)) fun H3 v3 H4 e3 e4 rv3 => eg_one ev_dnew) fun H1 vs H2 e1 e2 t => ?_) fun vs H2 e2 t => ?_
        · obtain ⟨v, r, Hc, rfl, ea, rv, eb, v2, r2, Hd, rfl, ec, ⟨al, rfl, g1, g2⟩, ed, v3, rfl, Hf, ef, ⟨ld, rfl, k1, rfl⟩, rfl⟩ := t
          cases rv
          exact ⟨al, ld, rfl, ea.back g1, (ea.trans ec).back k1, ne_of_none g2 k1, Ex.new k1 _ _ g2, upd_same⟩
        · obtain ⟨al, ld, rfl, n1, n2, n3, g1, g2⟩ := t
          refine ⟨u0, .ref al, .ref ld, rfl, ?_⟩
          -- the standings of the moment
          have hmo : (((L.circle : Nat) : Int) - 1 - (i : Nat)) = ((L.circle - (i + 1) : Nat) : Int) := by omega
          have hst := standsAt_len L.parts (L.circle - (i + 1)) (fun p hp => by have := ok.2.2.2.2.1 p hp; omega)
          have h8 : 2 ^ L.parts.length ≤ 2 ^ 3 := Nat.pow_le_pow_right (by decide) ok.2.2.2.1
          refine ws_forL (σ := [some (.ref q), some x, some (.int (((L.circle : Nat) : Int) - 1 - (i : Nat))), some u0, some (.ref al), some (.ref ld), x6, x7, x8]) PassesOwn.never rfl (ev_callG (R := fun H1 v H2 => ∃ a us, v = .ref a ∧ H1 a = none ∧ H2 a = some (.lst us) ∧ TIs (standsAt L.parts (L.circle - (i + 1))) us H2) (T := fun _ vs _ => vs = [x, .int ((L.circle - (i + 1) : Nat) : Int)]) (cal_standings_at (P := P) (w := w) (base := base) T) hr (Nat.le_refl 2) (EvA.g (ea_cons (ev_name 1 rfl) (ea_cons ((ev_name 2 rfl).is_ (congrArg V.int hmo)) ea_nil))) fun H3 vs H4 e3 e4 tt Q q => by
            subst tt
            exact ⟨x, L, L.circle - (i + 1), rfl, hlotb.ex ((e2.trans e3).trans e4), ok, by omega, fun a us H' e5 ha hus hT => q _ _ e5 ⟨a, us, rfl, e4.back ha, hus, hT⟩⟩) (fun v H3 e3 rv => ?_) (pi_list pe_w)
          obtain ⟨ss, us, rfl, s1, s2, s3⟩ := rv
          have hul := s3.len
          have ssal : ss ≠ al := fun e => by subst e; rw [g1] at s1; cases s1
          have ssld : ss ≠ ld := fun e => by subst e; rw [g2] at s1; cases s1
          refine ⟨ss, us, InInv L i Hb al ld ss us (fun a b c => [some (.ref q), some x, some (.int (((L.circle : Nat) : Int) - 1 - (i : Nat))), some u0, some (.ref al), some (.ref ld), a, b, c]) (standsAt L.parts (L.circle - (i + 1))), rfl, SqL.of s2, ?_, ?_, ?_, ?_⟩
          · refine ⟨⟨_, _, _, rfl⟩, del al (del ld H3), [], [], del_none _ _, del_keep (del_none _ _), ex_del (ex_del (e2.trans e3) n2) n1, ?_, ?_, (del_ex _ _).trans (del_ex _ _), e3 _ _ g1, .nil, e3 _ _ g2, Nat.le_refl 0, fun s hs => by cases hs⟩
            · rw [del_ne ssal, del_ne ssld]
              exact s2
            · refine tis_del (tis_del s3 fun ys z => ?_) fun ys z => ?_
              · rw [e3 _ _ g2] at z; cases z
              · have z := del_ex _ _ _ _ z
                rw [e3 _ _ g1] at z; cases z
          · rintro j σ' H' _ ⟨_, HI, vs, kvs, i1, i2, i3, i4, i5, i6, i7⟩
            exact SqL.of (i6 _ _ i4)
          · rintro j xj σ' Hj hj ⟨⟨x6, x7, x8, rfl⟩, HI, vs, kvs, i1, i2, i3, i4, i5, i6, i7, i8, i9, i10, i11⟩ hxj
            have hTj := i5.nth hxj []
            generalize hsj : (standsAt L.parts (L.circle - (i + 1))).getD j [] = sj at hTj
            have hjl : j < (standsAt L.parts (L.circle - (i + 1))).length := by omega
            have hsm : sj ∈ standsAt L.parts (L.circle - (i + 1)) := by
              rw [← hsj, List.getD_eq_getElem?_getD, List.getElem?_eq_getElem hjl]
              exact List.getElem_mem _
            have hsl := hst.2 sj hsm
            have hpl := ok.2.2.2.1
            have eBj : Ex Hb Hj := i3.trans i6
            have hL0b : LTI (aliveK L i) u0 Hb := hL0.ex eB
            have hlen2 : ∀ l ∈ aliveK L i, l.length = sj.length := fun l hl => by rw [hsl]; exact klen l hl
            refine ⟨_, tgt_name 6 sc_Sheet_init.nd, ?_⟩
            refine ws_set 7 sc_Sheet_init.nd (ev_sortedTI (gs := givensOf sj (aliveK L i) L.many) (room_in2 hr) (Ev.imp (ev_compIfE (P := fun i' v H' => ∃ g, gb sj ((aliveK L i).getD i' []) L.many = some g ∧ TI g v H') (f := fun i' => (gb sj ((aliveK L i).getD i' []) L.many).isSome) (n := (aliveK L i).length) (own := [("given", 8)]) rfl sc_Sheet_init.nd (blkOk_by (own := [("given", 8)]) (N := nSheet) (sc := defScope s_Sheet_init) (by decide +kernel))
              (src_call (F := fun i' v H' => TO (gb sj ((aliveK L i).getD i' []) L.many) v H') (ev_methG (T := fun _ vs _ => vs = [xj, u0]) (R := fun H1 v H2 => ∃ a us', v = .ref a ∧ H2 a = some (.lst us') ∧ All2 (fun l v => TO (gb sj l L.many) v H2) (aliveK L i) us') (met_between (P := P) (w := w) (base := base) T) hr (Nat.le_refl 2) (ev_name 0 rfl) (eBj _ _ hqa) rfl (EvA.g (ea_cons (ev_name 6 rfl) (ea_cons (ev_name 3 rfl) ea_nil))) (fun H5 vs5 H6 e5 e6 tt Q qq => ?_) (fun _ _ _ _ _ h => h)) (fun H5 v H6 e5 e6 rv => ?_) (pi_list pe_w)) (by omega) (fun i' => ?_) (fun _ _ _ _ h => by rw [h.1]; exact Ex.refl _) (fun i' x5 Hc Hd hi5 ec yc => ?_)) (fun H5 v H6 e5 e6 rv => ?_)) T.n_sorted) fun v H4 e4 rv => ?_
            · subst tt
              exact ⟨q, dx, sheetFs x lv le, x, xj, u0, L, sj, aliveK L i, rfl, (eBj.trans (e5.trans e6)) _ _ hqa, rfl, hlotb.ex (eBj.trans (e5.trans e6)), hTj.ex (i6.trans (e5.trans e6)), hL0b.ex (eBj.trans (e5.trans e6)), by omega, by omega, hlen2, fun a us' H' e7 _ hus' hall => qq _ _ e7 ⟨a, us', rfl, hus', hall⟩⟩
            · obtain ⟨a, us', rfl, ha, hall⟩ := rv
              exact ⟨a, us', rfl, SqL.of ha, hall.len.symm, fun i' x5 H7 e7 hx5 => TO.sx _ _ _ e7.sx (hall.nth hx5 [])⟩
            · rintro v H7 H8 e7 ⟨g, h1, h2⟩
              exact ⟨g, h1, TI.sx _ _ _ e7 h2⟩
            · obtain ⟨rfl, hTO⟩ := yc
              refine ⟨_, fun s H0 C cl fp => tgt_name 8 sc_Sheet_init.nd, rfl, fun s H0 C cl fp => ?_, fun hk s H0 C cl fp => ?_⟩
              · refine EvT.is_ (et_notN (ev_name 8 rfl)) ?_
                cases hg : gb sj ((aliveK L i).getD i' []) L.many with
                | none => rw [hg] at hTO; cases hTO; rfl
                | some g => rw [hg] at hTO; obtain ⟨t, rfl, _⟩ := hTO; rfl
              · cases hg : gb sj ((aliveK L i).getD i' []) L.many with
                | none => rw [hg] at hk; cases hk
                | some g =>
                  rw [hg] at hTO
                  exact Ev.fits (ev_name 8 rfl) fun H7 e7 => ⟨g, rfl, TI.ex hTO e7⟩
            · obtain ⟨p5, xs, rfl, hp5, hxs, hall⟩ := rv
              refine ⟨p5, xs, rfl, hp5, hxs, ?_⟩
              have z := all2_filterMap (F := fun g v => TI g v H6) (g := fun l => gb sj l L.many) (d := []) (aliveK L i) (fun i' => (gb sj ((aliveK L i).getD i' []) L.many).isSome) (aliveK L i).length (Nat.le_refl _) xs (fun _ _ => rfl) hall
              rw [List.take_length] at z
              exact z
            · obtain ⟨gs', hperm, p4, xs, rfl, hp4, hxs, hall⟩ := rv
              have hemp : gs'.isEmpty = (givensOf sj (aliveK L i) L.many).isEmpty := isEmpty_perm hperm
              have hLf : LTI gs' (.ref p4) H4 := ⟨p4, xs, rfl, hxs, hall⟩
              have tk : (standsAt L.parts (L.circle - (i + 1))).take (j + 1) = (standsAt L.parts (L.circle - (i + 1))).take j ++ [sj] := by rw [← hsj]; exact take_succ_getD _ [] hjl
              have n1I : HI al = none := i1
              have e6' := i6.trans e4
              refine ws_if (et_neNil hr.units (ev_name 7 rfl) hLf) (fun hk H5 e5 => ?_) fun hk H5 e5 => ?_
              · have hyes : okS L i sj = true := by
                  unfold okS
                  rw [← hemp]
                  exact hk
                have hz : vs.length < 100000 := by
                  have h1 := i8.len
                  have h2 := List.length_filter_le (okS L i) ((standsAt L.parts (L.circle - (i + 1))).take j)
                  rw [List.length_take] at h2
                  omega
                have alld : al ≠ ld := n3
                refine ws_append (e5 _ _ (e4 _ _ i7)) hz (ev_name 4 rfl) (ev_name 6 rfl) fun v6 H6 e6 rv6 => ?_
                cases rv6
                have E6 : Ex HI H6 := (e6'.trans e5).trans e6
                have ldH6 : (upd H6 al (.lst (vs ++ [xj]))) ld = some (.dT kvs) := by
                  rw [upd_ne alld.symm]
                  exact e6 _ _ (e5 _ _ (e4 _ _ i9))
                have E7 : Ex HI (upd H6 al (.lst (vs ++ [xj]))) := E6.mut n1I
                refine ws_dputN (v := .ref p4) (ns := sj) (p := ld) (room_u1 hr) (ev_name 7 rfl) (ev_name 5 rfl) (ev_name 6 rfl) (hTj.ex E7) ldH6 (by omega) fun H8 e8 => ?_
                have E8 : Ex HI (upd H8 ld (.dT (putK kvs (keyN sj) (.ref p4)))) := (E7.trans e8).mut i2
                have p4al : p4 ≠ al := fun e => by subst e; rw [i7] at hp4; cases hp4
                have p4ld : p4 ≠ ld := fun e => by subst e; rw [i9] at hp4; cases hp4
                have X8 : Ex HI (del al (del ld (upd H8 ld (.dT (putK kvs (keyN sj) (.ref p4)))))) := ex_del (ex_del E8 i2) i1
                have hLf8 : LTI gs' (.ref p4) (del al (del ld (upd H8 ld (.dT (putK kvs (keyN sj) (.ref p4)))))) := by
                  refine ⟨p4, xs, rfl, ?_, ?_⟩
                  · rw [del_ne p4al, del_ne p4ld, upd_ne p4ld]
                    refine e8 _ _ ?_
                    rw [upd_ne p4al]
                    exact e6 _ _ (e5 _ _ hxs)
                  · refine hall.imp fun ns v5 ⟨t, h1, h2⟩ => ⟨t, h1, ?_⟩
                    have tal : t ≠ al := fun e => by subst e; rw [e4 _ _ i7] at h2; cases h2
                    have tld : t ≠ ld := fun e => by subst e; rw [e4 _ _ i9] at h2; cases h2
                    rw [del_ne tal, del_ne tld, upd_ne tld]
                    refine e8 _ _ ?_
                    rw [upd_ne tal]
                    exact e6 _ _ (e5 _ _ h2)
                refine ws_nil (ws_nil ⟨⟨_, _, _, rfl⟩, del al (del ld (upd H8 ld (.dT (putK kvs (keyN sj) (.ref p4))))), vs ++ [xj], _, del_none _ _, del_keep (del_none _ _), i3.trans X8, X8 _ _ i4, i5.ex X8, (del_ex _ _).trans (del_ex _ _), ?_, ?_, upd_same, ?_, ?_⟩)
                · rw [upd_ne alld]
                  exact e8 _ _ upd_same
                · rw [tk, List.filter_append, List.filter_cons, hyes]
                  exact All2.snoc (F := fun s v => TI s v (del al (del ld (upd H8 ld (.dT (putK kvs (keyN sj) (.ref p4))))))) (hTj.ex X8) (i8.ex X8)
                · have := length_putK kvs (keyN sj) (.ref p4)
                  omega
                · intro s2 hs2
                  rw [tk, List.filter_append, List.filter_cons, hyes] at hs2
                  by_cases he : s2 = sj
                  · subst he
                    exact ⟨.ref p4, gs', by rw [valV_put, if_pos rfl], hLf8, hperm, p4, rfl, eBj.back hp4⟩
                  · have hs3 : s2 ∈ ((standsAt L.parts (L.circle - (i + 1))).take j).filter (okS L i) := by
                      rcases List.mem_append.mp hs2 with h | h
                      · exact h
                      · exact absurd (List.mem_singleton.mp h) he
                    obtain ⟨u, gs, a1, a2, a3, a4⟩ := i11 s2 hs3
                    exact ⟨u, gs, by rw [valV_put, if_neg (fun e => he (keyN_inj e))]; exact a1, a2.ex X8, a3, a4⟩
              · have hno : okS L i sj = false := by
                  unfold okS
                  rw [← hemp]
                  exact hk
                refine ws_nil (ws_nil ⟨⟨_, _, _, rfl⟩, HI, vs, kvs, i1, i2, i3, i4, i5, e6'.trans e5, e5 _ _ (e4 _ _ i7), ?_, e5 _ _ (e4 _ _ i9), by omega, ?_⟩)
                · rw [tk, List.filter_append, List.filter_cons, hno]
                  simpa using i8
                · rw [tk, List.filter_append, List.filter_cons, hno]
                  simpa using i11
          · rintro σ' Hj ⟨⟨x6, x7, x8, rfl⟩, HI, vs, kvs, i1, i2, i3, i4, i5, i6, i7, i8, i9, i10, i11⟩
            have eBj : Ex Hb Hj := i3.trans i6
            have tk : (standsAt L.parts (L.circle - (i + 1))).take us.length = standsAt L.parts (L.circle - (i + 1)) := by rw [← hul, List.take_length]
            rw [← hul, List.take_length] at i8 i11
            have allv : al ≠ lv := fun e => by subst e; rw [hlv] at n1; cases n1
            have alle : al ≠ le := fun e => by subst e; rw [hle] at n1; cases n1
            have alq : al ≠ q := fun e => by subst e; rw [hqa] at n1; cases n1
            have ldlv : ld ≠ lv := fun e => by subst e; rw [hlv] at n2; cases n2
            have ldle : ld ≠ le := fun e => by subst e; rw [hle] at n2; cases n2
            have ldq : ld ≠ q := fun e => by subst e; rw [hqa] at n2; cases n2
            have hlen : ls.length < 100000 := by
              have h1 := hls.len
              have h2 : ∀ k, (livingL L k).length = k + 1 := fun k => by
                induction k with
                | zero => rfl
                | succ k ih => show (livingL L k).length + 1 = _; rw [ih]
              rw [h2] at h1
              omega
            have hlen2 : ds.length < 100000 := by
              have h1 := hds.len
              have h2 : ∀ k, (leadL L k).length = k := fun k => by
                induction k with
                | zero => rfl
                | succ k ih => show (leadL L k).length + 1 = _; rw [ih]
              rw [h2] at h1
              omega
            refine ws_insert0 (R := is (.ref al)) (l := lv) (xs := ls) (eBj _ _ hlv) hlen (ev_fld (ev_name 0 rfl) (eBj _ _ hqa) T.cSheet T.aSheet_living rfl) (ev_name 4 rfl) fun v6 H6 e6 rv6 => ?_
            cases rv6
            have eB6 : Ex Hb H6 := eBj.trans e6
            have hq6 : (upd H6 lv (.lst (.ref al :: ls))) q = some (.ins CS dx (sheetFs x lv le)) := by rw [upd_ne nq.symm]; exact eB6 _ _ hqa
            have hle6 : (upd H6 lv (.lst (.ref al :: ls))) le = some (.lst ds) := by rw [upd_ne lel.symm]; exact eB6 _ _ hle
            refine ws_insert0 (R := is (.ref ld)) (l := le) (xs := ds) hle6 hlen2 (ev_fld (ev_name 0 rfl) hq6 T.cSheet T.aSheet_leads rfl) (ev_name 5 rfl) fun v7 H7 e7 rv7 => ?_
            cases rv7
            -- the new base
            have XB : Ex HB (del q (del lv (del le (upd H7 le (.lst (.ref ld :: ds)))))) := ex_del (ex_del (ex_del ((((eB.trans eB6).mut B2).trans e7).mut B3) B3) B2) B1
            have keep : ∀ b o, Hj b = some o → b ≠ q → b ≠ lv → b ≠ le → (del q (del lv (del le (upd H7 le (.lst (.ref ld :: ds)))))) b = some o := fun b o hb k1 k2 k3 => by
              rw [del_ne k1, del_ne k2, del_ne k3, upd_ne k3]
              refine e7 _ _ ?_
              rw [upd_ne k2]
              exact e6 _ _ hb
            have keepT : ∀ ns v, TI ns v HI → TI ns v (del q (del lv (del le (upd H7 le (.lst (.ref ld :: ds)))))) := fun ns v ⟨t, h1, h2⟩ => ⟨t, h1, keep _ _ (i6 _ _ h2) (fun e => by subst e; rw [i3 _ _ hqa] at h2; cases h2) (fun e => by subst e; rw [i3 _ _ hlv] at h2; cases h2) (fun e => by subst e; rw [i3 _ _ hle] at h2; cases h2)⟩
            refine ws_nil ⟨⟨_, _, _, _, _, _, _, rfl⟩, ?_, del q (del lv (del le (upd H7 le (.lst (.ref ld :: ds))))), .ref al :: ls, .ref ld :: ds, del_none _ _, del_keep (del_none _ _), del_keep (del_keep (del_none _ _)), ((del_ex _ _).trans (del_ex _ _)).trans (del_ex _ _), eH.trans XB, ?_, .cons ⟨al, vs, rfl, keep _ _ i7 alq allv alle, i8.imp fun ns v z => keepT ns v z⟩ (hls.imp fun ns v z => z.ex XB), upd_same, .cons ⟨ld, kvs, rfl, keep _ _ i9 ldq ldlv ldle, fun s2 hs2 => ?_⟩ (hds.imp fun ns v z => z.ex XB)⟩
            · rw [upd_ne leq.symm]
              exact e7 _ _ hq6
            · rw [upd_ne lel]
              exact e7 _ _ upd_same
            · obtain ⟨u, gs, a1, ⟨t, us2, ht1, ht2, ht3⟩, a3, t', ht', hn'⟩ := i11 s2 hs2
              rw [ht1] at ht'
              cases ht'
              exact ⟨u, gs, a1, ⟨t, us2, ht1, keep _ _ (i6 _ _ ht2) (fun e => by subst e; rw [i3 _ _ hqa] at ht2; cases ht2) (fun e => by subst e; rw [hlv] at hn'; cases hn') (fun e => by subst e; rw [hle] at hn'; cases hn'), ht3.imp fun ns v z => keepT ns v z⟩, a3⟩
      · obtain ⟨⟨x2, x3, x4, x5, x6, x7, x8, rfl⟩, hqa, HB, ls, ds, B1, B2, B3, eB, eH, hlv, hls, hle, hds⟩ := p
        have hc : (((L.circle : Nat) : Int)).toNat = L.circle := by omega
        rw [hc] at hls hds
        refine ws_nil (k _ (exB_iff (eH.trans eB)) ⟨q, dx, sheetFs x lv le, x, lv, le, ls, ds, rfl, hqa, rfl, hx0.ex (eH.trans eB), rfl, rfl, hlv, hls.imp fun _ _ z => z.ex eB, hle, hds.imp fun _ _ z => z.ex eB⟩)
end
end TS
/-! ## LL2 -/
namespace TS
open PySem PySem.Spec PyProof.Rows L2
theorem near_low (p : Nat × Nat) (t : Nat) (h : 0 < p.2) : nearB p (lowN p t) t = true := by
  unfold nearB lowN
  refine decide_eq_true ?_
  have h1 := Nat.div_add_mod (t * p.1) p.2
  have h2 := Nat.mod_lt (t * p.1) h
  rw [Nat.mul_comm] at h1
  omega
theorem near_low1 (p : Nat × Nat) (t : Nat) (h : 0 < p.2) : nearB p (lowN p t + 1) t = decide (highN p t = lowN p t + 1) := by
  unfold nearB lowN highN
  have h1 := Nat.div_add_mod (t * p.1) p.2
  have h2 := Nat.mod_lt (t * p.1) h
  have h3 : (t * p.1 + (p.2 - 1)) / p.2 = t * p.1 / p.2 + if t * p.1 % p.2 = 0 then 0 else 1 := by
    generalize t * p.1 = m at h1 h2
    generalize p.2 = q at h h1 h2
    generalize hk : m / q = k at h1
    generalize hr : m % q = r at h1 h2
    clear hk hr
    by_cases hz : r = 0
    · rw [if_pos hz]
      refine Nat.div_eq_of_lt_le ?_ ?_
      · rw [Nat.add_zero, Nat.mul_comm]; omega
      · have e : (k + 0 + 1) * q = q * k + q := by rw [Nat.add_zero, Nat.add_mul, Nat.one_mul, Nat.mul_comm]
        rw [e]; omega
    · rw [if_neg hz]
      refine Nat.div_eq_of_lt_le ?_ ?_
      · have e : (k + 1) * q = q * k + q := by rw [Nat.add_mul, Nat.one_mul, Nat.mul_comm]
        rw [e]; omega
      · have e : (k + 1 + 1) * q = q * k + q + q := by rw [Nat.add_mul, Nat.add_mul, Nat.one_mul, Nat.mul_comm]
        rw [e]; omega
  rw [h3]
  refine decide_eq_decide.mpr ?_
  generalize t * p.1 = m at h1 h2
  generalize p.2 = q at h h1 h2
  generalize hk : m / q = k at h1
  generalize hr : m % q = r at h1 h2
  clear hk hr
  rw [Nat.add_mul, Nat.mul_comm k, Nat.one_mul]
  by_cases hz : r = 0
  · rw [if_pos hz]
    omega
  · rw [if_neg hz]
    omega
theorem high_cases (p : Nat × Nat) (t : Nat) (h : 0 < p.2) : lowN p t ≤ highN p t ∧ highN p t ≤ lowN p t + 1 := by
  refine ⟨?_, high_le p t h⟩
  unfold lowN highN
  exact Nat.div_le_div_right (Nat.le_add_right _ _)
theorem spread_of (p : Nat × Nat) (t : Nat) (h : 0 < p.2) (some : List Nat) {xs : List V} {H : Hp} (hx : All2 (fun i v => TI (some ++ [lowN p t + i]) v H) (picked 2 fun i => nearB p (lowN p t + i) t) xs) : TIs (spread p t some) xs H := by
  have e : spread p t some = (picked 2 fun i => nearB p (lowN p t + i) t).map fun i => some ++ [lowN p t + i] := by
    unfold spread
    congr 1
    have h0 : nearB p (lowN p t + 0) t = true := near_low p t h
    have h1 := near_low1 p t h
    obtain ⟨h2, h3⟩ := high_cases p t h
    rw [picked_succ, picked_succ]
    show List.range _ = ((picked 0 _ ++ if nearB p (lowN p t + 0) t = true then [0] else []) ++ if nearB p (lowN p t + 1) t = true then [1] else [])
    rw [h0, if_pos rfl, h1]
    by_cases hc : highN p t = lowN p t + 1
    · rw [if_pos (decide_eq_true hc), hc, show lowN p t + 1 + 1 - lowN p t = 2 by omega]
      rfl
    · rw [if_neg (by rw [decide_eq_false hc]; decide), show highN p t + 1 - lowN p t = 1 by omega]
      rfl
  rw [e]
  exact All2.maps hx
theorem two_at {low m : Nat} {x : V} (hm : ([V.int (low : Nat), V.int ((low : Nat) + 1 : Int)] : List V)[m]? = some x) : x = .int ((low + m : Nat) : Int) := by
  match m, hm with
  | 0, hm => cases hm; simp
  | 1, hm => cases hm; simp
  | m + 2, hm => simp at hm
def retE : List Stmt → Expr
  | .Return (some e) _ :: _ => e
  | _ :: r => retE r
  | [] => .Constant .none 0 ⟨0, 0, 0, 0⟩
def argE : Expr → Expr
  | .Call _ (e :: _) _ _ => e
  | e => e
def lcScope : Expr → Scope
  | .ListComp _ _ sc _ => sc
  | _ => { kind := .function, names := [], isGenerator := false, isCoroutine := false, more := [] }
section
variable {P : Program} {w : World} {K : PySem.W.Frag} {mg : Str → Option Value} {base : Heap} {CL CS CP : Addr}
abbrev nAllAt : List Str := ["_law_lot_here", "_law_t", "_law_found", "_law_tag", "_law_e", "_law_p", "_law_low", "_law_later", "_law_some", "_law_many"]
theorem sc_all_at : FnScope nAllAt ["_law_lot_here", "_law_t"] (defScope s_law_all_at) := ⟨rfl, rfl, rfl, by decide +kernel, rfl, by decide +kernel, by decide +kernel⟩
def spAllAt : Sp := fun vs H Q _ => ∃ (x : V) (L : LotD) (ws : List Wk) (t : Nat), vs = [x, .int t] ∧ IsOwn L ws x H ∧ L.ok ∧ t < 1000 ∧ ∀ a us H', Ex H H' → H a = none → H' a = some (.lst us) → TIs (standsAt L.parts t) us H' → Q (.ref a) H'
theorem cal_all_at (T : Txt K mg CL CS CP) : C8.Cal P w K mg base 2 "_law_all_at" spAllAt [] := by
  refine cal_mk T.d_law_all_at sc_all_at (fun vs H Q E h => ?_) fun f cdv A outer s H vs Q E hr h => ?_
  · obtain ⟨x, L, ws, t, rfl, _⟩ := h
    rfl
  · obtain ⟨x, L, ws, t, rfl, hx, ok, ht, k⟩ := h
    obtain ⟨hpw, lt, wl, us, rfl, o1, o2, o3⟩ := hx
    have hp3 := ok.2.2.2.1
    have pp := ok.2.2.2.2.1
    have hul := o3.len
    have hwl : ws.length = L.parts.length := by rw [hpw, List.length_map]
    have hp0 : ∀ p ∈ L.parts, 0 < p.2 := fun p hp => by have := pp p hp; omega
    refine ws_set 2 sc_all_at.nd (ev_lstG (eg_one (ev_tup ea_nil (by show 0 ≤ 100000; decide))) (fun H1 vs H2 ⟨v, e, _⟩ => by rw [e]; show 1 ≤ 100000; decide)) fun v H1 e1 rv => ?_
    obtain ⟨vs1, Hm, fl, rfl, em, ⟨u, rfl, Hm2, em2, ⟨p, rfl, hpn, hpt⟩, rfl⟩, hfn, hfn0, rfl⟩ := rv
    refine ws_for (σ := _) PassesOwn.never rfl (src_list (ev_ixT (ev_name 0 rfl) (ev_int (i := 1)) (SqT.of (e1 _ _ o1)) rfl) (SqL.of (e1 _ _ o2)))
      (fun i σ' H' => (∃ x3 x4 x5 x6 x7 x8 x9 fa fs, σ' = [some (.ref lt), some (.int t), some (.ref fa), x3, x4, x5, x6, x7, x8, x9] ∧ H fa = none ∧ H' fa = some (.lst fs) ∧ TIs ((L.parts.take i).foldl (standsStep t) [[]]) fs H') ∧ Ex H H')
      (fun H2 e2 _ => ⟨⟨_, _, _, _, _, _, _, fl, [.ref p], rfl, hfn0, e2 _ _ upd_same, .cons ⟨p, rfl, e2 _ _ (Ex.new hfn _ _ hpt)⟩ .nil⟩, e1.trans e2⟩) (fun i σ' H' _ p => SqL.of (p.2 _ _ o2)) (fun i x σ' Ha Hb hi p yy => ?_) fun σ' H' p => ?_
    · obtain ⟨⟨x3, x4, x5, x6, x7, x8, x9, fa, fs, rfl, fan, hfa, hus⟩, ex⟩ := p
      obtain ⟨rfl, hxi⟩ := yy
      obtain ⟨wk, hwk, xt, qt, rfl, w1, w2⟩ := o3.at hxi
      have hil : i < L.parts.length := by omega
      have hpr : L.parts[i]? = some wk.2 := by rw [hpw, List.getElem?_map, hwk]; rfl
      have hprm := List.mem_of_getElem? hpr
      have hpp := pp _ hprm
      have hp02 := hp0 _ hprm
      refine ⟨_, tgt_tup rfl (SqT.of (ex _ _ w1)) rfl (tgs_cons (tgt_name 3 sc_all_at.nd) (tgs_cons (tgt_tup rfl (SqT.of (ex _ _ w2)) rfl (tgs_cons (tgt_name 4 sc_all_at.nd) (tgs_cons (tgt_name 5 sc_all_at.nd) tgs_nil))) tgs_nil)), ?_⟩
      refine ws_parG (T := fun H1 vs H2 => ∃ lt, vs = [.int (lowN wk.2 t : Nat), .ref lt] ∧ H1 lt = none ∧ H2 lt = some (.lst [])) 6 7 rfl sc_all_at.nd (EvG.imp (eg_cons (ev_fdiv ⟨by omega, by omega⟩ (ev_mul (.inr ⟨by omega, by omega⟩) (ev_name 1 rfl) (ev_name 4 rfl)) (ev_name 5 rfl)) fun H1 v H2 e1 e2 rv => eg_one (ev_lst ea_nil (by show 0 ≤ 100000; decide))) fun H1 vs H2 e1 e2 tt => ?_) fun vs H2 e2 tt => ?_
      · obtain ⟨v, r, Hm, rfl, em, rv, e3, v2, rfl, Hn, en, ⟨lt2, rfl, hn2, hl2⟩, rfl⟩ := tt
        cases rv
        refine ⟨lt2, ?_, em.back hn2, hl2⟩
        unfold lowN
        simp
      · obtain ⟨lt2, rfl, ln, hlt2⟩ := tt
        refine ⟨_, _, rfl, ?_⟩
        obtain ⟨sl, sm⟩ := standsTake_len L.parts t hp0 i (Nat.le_of_lt hil)
        have h8 : 2 ^ i ≤ 2 ^ 3 := Nat.pow_le_pow_right (by decide) (by omega)
        have hfl := hus.len
        have hlo : lowN wk.2 t ≤ 6000 := by
          unfold lowN
          have h1 : t * wk.2.1 ≤ 1000 * 6 := Nat.mul_le_mul (by omega) (by omega)
          exact Nat.le_trans (Nat.div_le_self _ _) h1
        refine ws_for PassesOwn.never rfl (src_list (ev_name 2 rfl) (SqL.of (e2 _ _ hfa)))
          (fun j σ3 H3 => (∃ x8 x9 la ls, σ3 = [some (.ref lt), some (.int t), some (.ref fa), some (.str wk.1), some (.int (wk.2.1 : Nat)), some (.int (wk.2.2 : Nat)), some (.int (lowN wk.2 t : Nat)), some (.ref la), x8, x9] ∧ Hb la = none ∧ H3 la = some (.lst ls) ∧ TIs (((L.parts.take i).foldl (standsStep t) [[]]).take j |>.flatMap (spread wk.2 t)) ls H3) ∧ Ex Hb H3)
          (fun H3 e3 _ => ⟨⟨_, _, lt2, [], rfl, ln, e3 _ _ hlt2, .nil⟩, e2.trans e3⟩) (fun j σ3 H3 _ p => SqL.of (p.2 _ _ hfa)) (fun j xj σ3 Hc Hd hj p yj => ?_) fun σ3 H3 p => ?_
        · obtain ⟨⟨y8, y9, la, ls, rfl, lan, hla, hls⟩, exc⟩ := p
          obtain ⟨rfl, hxj⟩ := yj
          have hTj := hus.nth hxj []
          have hjl : j < ((L.parts.take i).foldl (standsStep t) [[]]).length := by omega
          have tk := take_succ_getD ((L.parts.take i).foldl (standsStep t) [[]]) [] hjl
          generalize hsj : ((L.parts.take i).foldl (standsStep t) [[]]).getD j [] = sj at hTj tk
          have hsm : sj ∈ (L.parts.take i).foldl (standsStep t) [[]] := by
            rw [← hsj, List.getD_eq_getElem?_getD, List.getElem?_eq_getElem hjl]
            exact List.getElem_mem _
          have hsl := sm sj hsm
          refine ⟨_, tgt_name 8 sc_all_at.nd, ?_⟩
          refine ws_set 7 sc_all_at.nd (R := newP fun xs H2 => TIs (((L.parts.take i).foldl (standsStep t) [[]]).take (j + 1) |>.flatMap (spread wk.2 t)) xs H2) (ev_catL (xs := fun _ _ _ => True) (Ra := is (.ref la)) (Rb := newP fun xs H2 => TIs (spread wk.2 t sj) xs H2) (ev_name 7 rfl) (fun H4 x4 H5 e4 e5 rx => Ev.imp (ev_compIfE (n := 2) (P := fun m v H' => TI (sj ++ [lowN wk.2 t + m]) v H') (f := fun m => nearB wk.2 (lowN wk.2 t + m) t) (own := [("_law_many", 9)]) rfl sc_all_at.nd (blkOk_by (own := [("_law_many", 9)]) (N := nAllAt) (sc := defScope s_law_all_at) (by decide +kernel)) (src_call (F := fun m v _ => v = .int ((lowN wk.2 t + m : Nat) : Int)) (ev_lst (ea_cons (ev_name 6 rfl) (ea_cons (ev_add (ev_name 6 rfl) ev_int) ea_nil)) (by show 2 ≤ 100000; decide)) (fun H6 v H7 e6 e7 ⟨l, hv, _, hl⟩ => ⟨l, _, hv, SqL.of hl, rfl, fun m x8 H8 _ hm => two_at hm⟩) (pi_list pe_w)) (by decide) (fun m => TI.sx) (fun _ _ _ _ h => by rw [h.1]; exact Ex.refl _) (fun m x8 He Hf hm ee ye => ?_)) (fun H6 v H7 e6 e7 rv => ?_)) (fun H4 x4 H5 y5 H6 e4 e5 r4 e6 r5 => ?_)) fun v H4 e4 rv => ?_
          · obtain ⟨rfl, rfl⟩ := ye
            have hTe : TI sj xj Hf := hTj.ex ((exc.trans (e4.trans e5)).trans ee)
            refine ⟨_, fun s H0 C cl fp => tgt_name 9 sc_all_at.nd, rfl, fun s H0 C cl fp => et_val (ev_callG (R := is (.bl (nearB wk.2 (lowN wk.2 t + m) t))) (T := fun _ vs H2 => ∃ z, vs = [z, .int ((lowN wk.2 t + m : Nat) : Int), .int t] ∧ T2 wk.2 z H2) (cal_near (P := P) (w := w) (base := base) T) hr (by decide) (EvG.imp (eg_cons (ev_tup (ea_cons (ev_name 4 rfl) (ea_cons (ev_name 5 rfl) ea_nil)) (by show 2 ≤ 100000; decide)) fun H7 v H8 e7 e8 rv => EvA.g (ea_cons (ev_name 9 rfl) (ea_cons (ev_name 1 rfl) ea_nil))) fun H7 vs H8 e7 e8 tt => ?_) fun H7 vs H8 e7 e8 tt Q q => ?_), fun _ s H0 C cl fp => ev_snocT (ev_name 8 rfl) hTe (ev_name 9 rfl) (by omega)⟩
            · obtain ⟨v, r, Hm, rfl, em, ⟨tp, rfl, _, htp⟩, e9, rfl⟩ := tt
              exact ⟨_, rfl, tp, rfl, e9 _ _ htp⟩
            · obtain ⟨z, rfl, hz⟩ := tt
              exact ⟨z, wk.2, _, t, rfl, hz, by omega, by omega, fun H' e' => q _ H' e' rfl⟩
          · obtain ⟨pp, xs, rfl, hpp1, hpp2, hpp3⟩ := rv
            exact ⟨pp, xs, rfl, hpp1, hpp2, spread_of _ _ hp02 _ hpp3⟩
          · cases r4
            obtain ⟨b5, ws5, rfl, b5n, hb5, hT5⟩ := r5
            have e46 : Ex Hd H6 := (e4.trans e5).trans e6
            refine ⟨la, b5, ls, ws5, rfl, rfl, e46 _ _ hla, hb5, ?_, fun pn H7 hpn hH7 => ⟨pn, _, rfl, (e5.trans e6).back hpn, by subst hH7; exact upd_same, ?_⟩⟩
            · have h1 := hls.len
              have h2 := hT5.len
              have h3 := flat_len (f := spread wk.2 t) (k := 2) (l := ((L.parts.take i).foldl (standsStep t) [[]]).take j) fun a _ => spread_len _ _ _ hp02
              have h4 := spread_len wk.2 t sj hp02
              rw [List.length_take] at h3
              omega
            · rw [tk, List.flatMap_append, List.flatMap_cons, List.flatMap_nil, List.append_nil]
              exact All2.app (hls.ex (e46.trans (by rw [hH7]; exact Ex.new hpn))) (hT5.ex (by rw [hH7]; exact Ex.new hpn))
          · obtain ⟨pn, xs, rfl, hpn, hxs, hT⟩ := rv
            exact ws_nil ⟨⟨_, _, pn, xs, rfl, exc.back hpn, hxs, hT⟩, exc.trans e4⟩
        · obtain ⟨⟨y8, y9, la, ls, rfl, lan, hla, hls⟩, exc⟩ := p
          rw [← hfl, List.take_length] at hls
          refine ws_set 2 sc_all_at.nd (ev_name 7 rfl) fun v H4 e4 rv => ?_
          cases rv
          refine ws_nil ⟨⟨_, _, _, _, _, _, _, la, ls, rfl, ex.back lan, e4 _ _ hla, ?_⟩, (ex.trans exc).trans e4⟩
          rw [foldl_take_succ _ _ _ hpr]
          exact hls.ex e4
    · obtain ⟨⟨x3, x4, x5, x6, x7, x8, x9, fa, fs, rfl, fan, hfa, hus⟩, ex⟩ := p
      rw [← hul, hwl, List.take_length] at hus
      refine ws_ret (ev_name 2 rfl) fun v H2 e2 rv => ?_
      cases rv
      exact k fa fs _ (ex.trans e2) fan (e2 _ _ hfa) (hus.ex e2)
end
end TS
/-! ## DL -/
/-! dicts by tuples of whole numbers: dict(pairs), and != {} -/
namespace TS
open PySem PySem.Spec PyProof.Rows L2
abbrev KVT := List (List L2.Key × V)
def mergeT (acc more : KVT) : KVT := more.foldl (fun acc kv => putK acc kv.1 kv.2) acc
theorem mergeT_len : ∀ (more acc : KVT), (mergeT acc more).length ≤ acc.length + more.length
  | [], acc => Nat.le_refl _
  | p :: r, acc => by
    have h1 := mergeT_len r (putK acc p.1 p.2)
    have h2 := length_putK acc p.1 p.2
    show (mergeT (putK acc p.1 p.2) r).length ≤ _
    rw [List.length_cons]
    omega
theorem kt_merge {H : Hp} : ∀ {more : KVT} {ps : List (List L2.Key × Addr × Value)} {acc : KVT} {xs : List (List L2.Key × Addr × Value)}, KT H more ps → KT H acc xs → KT H (mergeT acc more) (storedAllH xs ps) := by
  intro more ps acc xs r
  induction r generalizing acc xs with
  | nil => exact fun h => h
  | @cons p q more ps h t ih =>
    intro h0
    refine ih (acc := putK acc p.1 p.2) (xs := storedH xs q.1 q.2.1 q.2.2) ?_
    have := h0.put p.1 (y := p.2) (u := q.2.2) h.2.1 h.2.2
    rw [← h.1]
    exact this
theorem kt_keys {H : Hp} {kvs : KVT} {xs : List (List L2.Key × Addr × Value)} (r : KT H kvs xs) : ∀ x ∈ xs, H x.2.1 = some (.tup (x.1.map kV)) := by
  induction r with
  | nil => exact fun x hx => nomatch hx
  | cons h t ih =>
    intro x hx
    rcases (List.mem_cons).mp hx with rfl | hx
    · obtain ⟨h1, h2, _⟩ := h
      rw [h1] at h2
      exact h2
    · exact ih x hx
theorem mergeT_val : ∀ (more acc : KVT) (k : List L2.Key), (valV (mergeT acc more) k).isSome = ((valV acc k).isSome || more.any fun kv => decide (kv.1 = k))
  | [], acc, k => by simp [mergeT]
  | p :: r, acc, k => by
    show (valV (mergeT (putK acc p.1 p.2) r) k).isSome = _
    rw [mergeT_val r, valV_put, List.any_cons]
    by_cases h : k = p.1
    · subst h
      simp
    · rw [if_neg h, decide_eq_false (fun z => h z.symm), Bool.false_or]
section
variable {X : Cx}
/-- one pair of the argument -/
def PairK (K : PySem.W.Frag) (H : Hp) (p : Addr) (kv : List L2.Key × V) : Prop := ∃ t, SqT K H p [.ref t, kv.2] ∧ H t = some (.tup (kv.1.map kV))
theorem pairsT_of {pins : List (Addr × Obj)} {σ : L2.St} {H : Hp} {s : Shared} (I : Inv X pins σ H s) : ∀ {ps : List Addr} {kvs : KVT}, All2 (PairK X.K H) ps kvs →
    ∃ psH : List (List L2.Key × Addr × Value), KT H kvs psH ∧ psH.length = ps.length ∧ ∀ (j : Nat) (q : List L2.Key × Addr × Value), psH[j]? = some q → ∃ b : Addr, ps[j]? = some b ∧ IsTup s.heap b #[.ref q.2.1, q.2.2]
  | _, _, .nil => ⟨[], .nil, rfl, fun j q (e : ([] : List _)[j]? = some q) => by cases j <;> cases e⟩
  | p :: ps, kv :: kvs, .cons h t => by
    obtain ⟨psH, r, hl, hp⟩ := pairsT_of I t
    obtain ⟨t0, hs, ht0⟩ := h
    obtain ⟨its, rv, ht, _⟩ := I.tuple hs
    obtain ⟨_, y, rfl, ru, ry⟩ := vals2 rv
    cases ru
    refine ⟨(kv.1, t0, y) :: psH, .cons ⟨rfl, ht0, ry⟩ r, by rw [List.length_cons, List.length_cons, hl], fun j q e => ?_⟩
    cases j with
    | zero =>
      have e' : (kv.1, t0, y) = q := Option.some.inj e
      subst e'
      exact ⟨p, rfl, ht⟩
    | succ j =>
      obtain ⟨b, e1, e2⟩ := hp j q (by simpa using e)
      exact ⟨b, by simpa using e1, e2⟩
theorem call_dictT (hcalm : X.calm = true) (hu : X.A.units + 8 < cLine) : CallR X (.type "dict") (fun xs H Q => ∃ (a : Addr) (ps : List Addr) (kvs : KVT), xs = [.ref a] ∧ SqL X.K H a (ps.map V.ref) ∧ All2 (PairK X.K H) ps kvs ∧
    ∀ p, H p = none → Q (.ref p) (upd H p (.dT (mergeT [] kvs)))) := by
  rintro pins s σ H _ us Q I r ⟨a, ps, kvs, rfl, hq, hp, q⟩
  obtain ⟨_, rfl, rx⟩ := vals1 r
  cases rx
  obtain ⟨_, rv, pl, hz⟩ := I.list hq
  cases refs_at rv
  rw [List.length_map] at hz
  obtain ⟨psH, rel, hl, hpr⟩ := pairsT_of I hp
  have hkl : kvs.length = psH.length := rel.length
  have hkey : ∀ x ∈ psH, H x.2.1 = some (.tup (x.1.map kV)) := fun x hx => by
    exact kt_keys rel x hx
  let prs : List (Value × Value) := psH.map fun q => (.ref q.2.1, q.2.2)
  have hpl : prs.length = psH.length := List.length_map _
  have PA := PairArg.list (prog := X.prog) (w := X.w) a (ps.map Value.ref).toArray (fun j => ps.getD j 0) prs
  have items : PairItems s.heap (ps.map Value.ref).toArray (fun j => ps.getD j 0) prs := by
    refine ⟨by simp [hpl, hl], fun j k v hj => ?_⟩
    rw [List.getElem?_map] at hj
    cases hq' : psH[j]? with
    | none => rw [hq'] at hj; cases hj
    | some q' =>
      rw [hq'] at hj
      obtain ⟨b, e1, e2⟩ := hpr j q' hq'
      cases hj
      have eg : ps.getD j 0 = b := by rw [List.getD_eq_getElem?_getD, e1]; rfl
      refine ⟨by simp [e1], .inl ?_⟩
      show s.heap.IsTuple (ps.getD j 0) _
      rw [eg]
      exact e2
  refine call_dict_pairsH (knd := tupleKind (mixKind X.prog X.w)) (ps := psH) PA (I.ok.hd hcalm) (by show X.A.units + 1 + 1 < cLine; omega) ⟨pl, items⟩ ?_ (fun h' hk x hx => ?_) (by rw [hpl, hl]; exact hz) fun h' tk hd' hk => ?_
  · refine ⟨hpl.symm, fun i key v hi => ?_⟩
    have hi' : prs[i]? = some (key, v) := hi
    rw [List.getElem?_map] at hi'
    cases hq' : psH[i]? with
    | none => rw [hq'] at hi'; cases hi'
    | some q' =>
      rw [hq'] at hi'
      cases hi'
      exact ⟨q'.1, q'.2.1, rfl, rfl⟩
  · obtain ⟨o, items', n, h1, h2, h3, h4⟩ := key_of I.hok (hkey x hx)
    exact ⟨o, items', n, hk _ _ (Nat.ne_of_lt (Heap.lt_size h1)) (fun z => nomatch z) h1, h2, h3, h4⟩
  · have k0 : ∀ b o, s.heap.get? b = some o → h'.get? b = some o := fun b o e => hk b o (fun z => nomatch z) e
    have hm := beq_eq_false_iff_ne.mpr (Nat.ne_of_gt I.big)
    have hlen : (mergeT [] kvs).length ≤ sizeLine := by
      refine Nat.le_trans (mergeT_len kvs []) ?_
      rw [List.length_nil, Nat.zero_add, hkl, hl]
      exact hz
    have hn := I.hok.fresh (a := s.heap.objs.size) (Nat.le_refl _)
    obtain ⟨o, es, ep, h1, h2, h3, h4, _, h5⟩ := hd'
    have rel' : KT H (mergeT [] kvs) (storedAllH [] psH) := kt_merge rel .nil
    exact ⟨.ref s.heap.objs.size, upd H s.heap.objs.size (.dT (mergeT [] kvs)), I.laid (t' := tk) k0 (Nat.le_refl _) (show ObjOk X.prog X.w _ _ _ (.dT (mergeT [] kvs)) from
      ⟨hlen, hm, storedAllH [] psH, rel'.keeps fun c ys ec => by rw [upd_ne (ne_of_none ec hn)]; exact ec, o, es, ep, h1, h2, h3, h4, h5⟩), rfl, q _ hn⟩
/-- samePairs of a dict and one with no entries -/
theorem samePairs0 {prog : Program} {w : World} {A : Around} {E : Value → Shared → Prop} {s : Shared} {K : Type} [DecidableEq K] {knd : HeapKind prog w K} {nm : String} {a b : Addr} {ka : List (K × Addr × Value)} {Q : Bool → Shared → Prop} (ha : (a == sysModules) = false) (hb : (b == sysModules) = false)
    (da : s.heap.DictOfH knd a ka) (db : s.heap.DictOfH knd b []) (h : Q ka.isEmpty s) : wpAny (model prog w) A (Builtin.Dict.samePairs nm a b) Q E s := by
  obtain ⟨_, es, _, ga, _, ca, la, _⟩ := da
  obtain ⟨_, es', _, gb, _, cb, lb, _⟩ := db
  have hla : es.size = ka.length := by rw [← Array.length_toList, la, List.length_map]
  have hlb : es'.size = 0 := by rw [← Array.length_toList, lb]; rfl
  have na : ¬ (a == sysModules) = true := by rw [ha]; decide
  have nb : ¬ (b == sysModules) = true := by rw [hb]; decide
  unfold Builtin.Dict.samePairs
  unfold Builtin.Dict.showsAll
  rw [if_neg na, if_neg nb]
  refine wpAny_bind (wpAny_pure (wpAny_bind (wpAny_pure (wpAny_bind (wpAny_dictEntries ga ca ?_)))))
  dsimp only
  refine wpAny_bind (wpAny_dictEntries (es := es') gb cb ?_)
  cases ka with
  | cons k ka =>
    have hne : (es.size != es'.size) = true := by
      rw [hla, hlb, List.length_cons]
      rfl
    rw [if_pos hne]
    exact wpAny_bind <| wpAny_rule <| wpAny_pure h
  | nil =>
    have hz : es.size = 0 := hla
    rw [if_neg (by rw [hz, hlb]; decide)]
    refine wpAny_bind (wpAny_dictEpoch ga ca (wpAny_bind ?_))
    rw [hz, Std.Legacy.Range.forIn_eq_forIn_range']
    exact wpAny_pure <| wpAny_pure h
theorem op_neDE (hu : X.A.units < cLine) : OpR X (compareOp .NotEq) (fun x y H Q => ∃ a b kvs, x = .ref a ∧ y = .ref b ∧ H a = some (.dT kvs) ∧ H b = some (.dT []) ∧ Q (.bl (!kvs.isEmpty)) H) := by
  rintro pins s σ H _ _ v u Q I rx ry ⟨a, b, kvs, rfl, rfl, ea, eb, q⟩
  cases rx
  cases ry
  obtain ⟨_, ya, xa, ra, da⟩ := dt_of I.hok ea
  obtain ⟨_, yb, xb, rb, db⟩ := dt_of I.hok eb
  cases rb
  have hl : xa.isEmpty = kvs.isEmpty := by
    cases ra with
    | nil => rfl
    | cons h t => rfl
  have ta := da.typeIs
  have tb := db.typeIs
  refine wpAny_richCompare_same_room (op := .NotEq) ta tb PySem.F.slot_dict_ne (wpAny_call_entry PySem.F.slot_dict_ne ta PySem.F.entry_dict_ne ?_ (PySem.F.args_dict_ne_2 _ _)) hu
  have two : ∀ {A' : Around} {E' : Value → Shared → Prop} {W : Value × Value → Shared → Prop}, W (.ref a, .ref b) s → wpAny (model X.prog X.w) A' (Builtin.Dict.dictSlotArgs "__ne__" ⟨[.ref a, .ref b], []⟩) W E' s := fun {A' E' W} z => by
    unfold PySem.Builtin.Dict.dictSlotArgs
    exact wpAny_bind (wpAny_notOrdered_dict ta (wpAny_pure z))
  refine wpAny_bind (two (wpAny_bind (wpAny_isInstance (T := "dict") tb PySem.F.sub_dict_dict ?_)))
  simp only [if_false, Bool.not_true, Bool.false_eq_true]
  refine wpAny_bind (wpAny_pure (wpAny_bind (wpAny_pure (wpAny_bind (samePairs0 ya yb da db (wpAny_pure ⟨_, rfl, ?_, ?_⟩))))))
  · exact fun x => nomatch x
  · rw [hl]
    exact fin_bl I q (by cases kvs.isEmpty <;> rfl)
end
end TS
/-! ## LL3 -/
namespace TS
open PySem PySem.Spec PyProof.Rows L2
theorem range_getD {α : Type} (l : List α) (d : α) : (List.range l.length).map (fun i => l.getD i d) = l := by
  apply List.ext_getElem
  · simp
  · intro i h1 h2
    simp [h2]
theorem picked_getD {α : Type} (l : List α) (d : α) (b : α → Bool) : (picked l.length fun i => b (l.getD i d)).map (fun i => l.getD i d) = l.filter b := by
  conv => rhs; rw [← range_getD l d, List.filter_map]
  rfl
def setsN (n : Nat) : List (List Nat) := (List.range n).foldl (fun found k => found ++ found.map fun s => s ++ [k]) [[]]
theorem setsN_succ (n : Nat) : setsN (n + 1) = setsN n ++ (setsN n).map fun s => s ++ [n] := by
  unfold setsN
  rw [List.range_succ]
  rw [List.foldl_append]
  rfl
theorem setsN_len : ∀ n, (setsN n).length = 2 ^ n
  | 0 => rfl
  | n + 1 => by
    rw [setsN_succ, List.length_append, List.length_map, setsN_len n, Nat.pow_succ]
    omega
theorem setsN_mem_len : ∀ n, ∀ s ∈ setsN n, s.length ≤ n
  | 0, s, h => by
    rw [show setsN 0 = [[]] from rfl, List.mem_singleton] at h
    subst h
    exact Nat.le_refl 0
  | n + 1, s, h => by
    rw [setsN_succ] at h
    rcases (List.mem_append).mp h with h | h
    · exact Nat.le_succ_of_le (setsN_mem_len n s h)
    · obtain ⟨t, ht, rfl⟩ := List.mem_map.mp h
      have := setsN_mem_len n t ht
      rw [List.length_append]
      show t.length + 1 ≤ n + 1
      omega
def setsLe (n m : Nat) : List (List Nat) := (setsN n).filter fun s => decide (s.length ≤ m)
section
variable {P : Program} {w : World} {K : PySem.W.Frag} {mg : Str → Option Value} {base : Heap} {CL CS CP : Addr}
abbrev nSets : List Str := ["_law_many", "_law_most", "_law_found", "_law_k", "_law_some"]
theorem sc_sets : FnScope nSets ["_law_many", "_law_most"] (defScope s_law_sets) := ⟨rfl, rfl, rfl, by decide +kernel, rfl, by decide +kernel, by decide +kernel⟩
def spSets : Sp := fun vs H Q _ => ∃ (n m : Nat), vs = [.int n, .int m] ∧ n ≤ 6 ∧ ∀ a us gs H', Ex H H' → H a = none → H' a = some (.lst us) → TIs gs us H' → gs.Perm (setsLe n m) → Q (.ref a) H'
theorem cal_sets (T : Txt K mg CL CS CP) : C8.Cal P w K mg base 2 "_law_sets" spSets [] := by
  refine cal_mk T.d_law_sets sc_sets (fun vs H Q E h => ?_) fun f cdv A outer s H vs Q E hr h => ?_
  · obtain ⟨n, m, rfl, _⟩ := h
    rfl
  · obtain ⟨n, m, rfl, hn, k⟩ := h
    refine ws_set 2 sc_sets.nd (ev_lstG (eg_one (ev_tup ea_nil (by show 0 ≤ 100000; decide))) (fun H1 vs H2 ⟨v, e, _⟩ => by rw [e]; show 1 ≤ 100000; decide)) fun v H1 e1 rv => ?_
    obtain ⟨vs1, Hm, fl, rfl, em, ⟨u, rfl, Hm2, em2, ⟨p, rfl, hpn, hpt⟩, rfl⟩, hfn, hfn0, rfl⟩ := rv
    refine ws_for (σ := _) PassesOwn.never rfl (src_rangeK (n := n) (ea_cons (ev_name 0 rfl) ea_nil) (by omega) T.n_range)
      (fun i σ' H' => (∃ x3 x4 fa fs, σ' = [some (.int n), some (.int m), some (.ref fa), x3, x4] ∧ H fa = none ∧ H' fa = some (.lst fs) ∧ TIs (setsN i) fs H') ∧ Ex H H')
      (fun H2 e2 _ => ⟨⟨_, _, fl, [.ref p], rfl, hfn0, e2 _ _ upd_same, .cons ⟨p, rfl, e2 _ _ (Ex.new hfn _ _ hpt)⟩ .nil⟩, e1.trans e2⟩) (fun i σ' H' _ p => True.intro) (fun i x σ' Ha Hb hi p yy => ?_) fun σ' H' p => ?_
    · obtain ⟨⟨x3, x4, fa, fs, rfl, fan, hfa, hus⟩, ex⟩ := p
      obtain ⟨rfl, rfl⟩ := yy
      have hfl := hus.len
      have h8 : 2 ^ i ≤ 2 ^ 6 := Nat.pow_le_pow_right (by decide) (by omega)
      have hl2 := setsN_len i
      refine ⟨_, tgt_name 3 sc_sets.nd, ?_⟩
      refine ws_set 2 sc_sets.nd (R := newP fun xs H2 => TIs (setsN (i + 1)) xs H2) (ev_catL (xs := fun _ _ _ => True) (Ra := is (.ref fa)) (Rb := newP fun xs H2 => TIs ((setsN i).map fun s => s ++ [i]) xs H2) (ev_name 2 rfl) (fun H4 x4 H5 e4 e5 rx => Ev.imp (ev_comp (n := fs.length) (P := fun j v H' => TI ((setsN i).getD j [] ++ [i]) v H') (own := [("_law_some", 4)]) rfl sc_sets.nd (blkOk_by (own := [("_law_some", 4)]) (N := nSets) (sc := defScope s_law_sets) (by decide +kernel)) (src_list (ev_name 2 rfl) (SqL.of ((e4.trans e5) _ _ hfa))) (by omega) hG_l (fun j => TI.sx) hY_at (fun j xj He Hf hj ee _ ye => ?_)) (fun H6 v H7 e6 e7 rv => ?_)) (fun H4 x4 H5 y5 H6 e4 e5 r4 e6 r5 => ?_)) fun v H4 e4 rv => ?_
      · obtain ⟨rfl, hxj⟩ := ye
        have hTj := hus.nth hxj []
        have hsm := setsN_mem_len i _ (by
          have hjl : j < (setsN i).length := by omega
          show (setsN i).getD j [] ∈ setsN i
          rw [List.getD_eq_getElem?_getD, List.getElem?_eq_getElem hjl]
          exact List.getElem_mem _)
        exact ⟨_, fun s H0 C cl fp => tgt_name 4 sc_sets.nd, rfl, rfl, fun _ s H0 C cl fp => ev_snocT (ev_name 4 rfl) (hTj.ex ((e4.trans e5).trans ee)) (ev_name 3 rfl) (by omega)⟩
      · obtain ⟨pp, xs, rfl, hpp1, hpp2, hpp3⟩ := rv
        refine ⟨pp, xs, rfl, hpp1, hpp2, ?_⟩
        rw [picked_all, ← hfl] at hpp3
        have := All2.maps (F := fun (s : List Nat) v => TI s v H7) (f := fun j => (setsN i).getD j [] ++ [i]) hpp3
        have e : (List.range (setsN i).length).map (fun j => (setsN i).getD j [] ++ [i]) = (setsN i).map fun s => s ++ [i] := by
          conv => rhs; rw [← range_getD (setsN i) []]
          rw [List.map_map]
          rfl
        rw [e] at this
        exact this
      · cases r4
        obtain ⟨b5, ws5, rfl, b5n, hb5, hT5⟩ := r5
        have e46 : Ex Hb H6 := (e4.trans e5).trans e6
        refine ⟨fa, b5, fs, ws5, rfl, rfl, e46 _ _ hfa, hb5, ?_, fun pn H7 hpn hH7 => ⟨pn, _, rfl, (e5.trans e6).back hpn, by subst hH7; exact upd_same, ?_⟩⟩
        · have h2 := hT5.len
          rw [List.length_map] at h2
          omega
        · rw [setsN_succ]
          exact All2.app (hus.ex (e46.trans (by rw [hH7]; exact Ex.new hpn))) (hT5.ex (by rw [hH7]; exact Ex.new hpn))
      · obtain ⟨pn, xs, rfl, hpn, hxs, hT⟩ := rv
        exact ws_nil ⟨⟨_, _, pn, xs, rfl, ex.back hpn, hxs, hT⟩, ex.trans e4⟩
    · obtain ⟨⟨x3, x4, fa, fs, rfl, fan, hfa, hus⟩, ex⟩ := p
      have hfl := hus.len
      have h8 : 2 ^ n ≤ 2 ^ 6 := Nat.pow_le_pow_right (by decide) (by omega)
      have hl2 := setsN_len n
      refine ws_ret (ev_sortedTI (gs := setsLe n m) (room_in2 hr) (Ev.imp (ev_compIf (n := fs.length) (P := fun j v H' => TI ((setsN n).getD j []) v H') (f := fun j => decide (((setsN n).getD j []).length ≤ m)) (own := [("_law_some", 4)]) rfl sc_sets.nd (blkOk_by (own := [("_law_some", 4)]) (N := nSets) (sc := defScope s_law_sets) (by decide +kernel)) (src_list (ev_name 2 rfl) (SqL.of hfa)) (by omega) hG_l (fun j => TI.sx) hY_at (fun j xj He Hf hj ee _ ye => ?_)) (fun H6 v H7 e6 e7 rv => ?_)) T.n_sorted) fun v H2 e2 rv => ?_
      · obtain ⟨rfl, hxj⟩ := ye
        have hTj := (hus.nth hxj []).ex ee
        obtain ⟨aj, rfl, haj⟩ := hTj
        refine ⟨_, fun s H0 C cl fp => tgt_name 4 sc_sets.nd, rfl, fun s H0 C cl fp => (et_le ((ev_lenQ (ev_name 4 rfl) (.inr (SqT.of haj)) T.n_len).is_ (by rw [nums_len])) (ev_name 1 rfl)).is_ (decide_eq_decide.mpr Int.ofNat_le), fun _ s H0 C cl fp => Ev.fits (ev_name 4 rfl) fun _ e => ⟨aj, rfl, e _ _ haj⟩⟩
      · obtain ⟨pp, xs, rfl, hpp1, hpp2, hpp3⟩ := rv
        refine ⟨pp, xs, rfl, hpp1, hpp2, ?_⟩
        rw [← hfl] at hpp3
        have := All2.maps (F := fun (s : List Nat) v => TI s v H7) (f := fun j => (setsN n).getD j []) hpp3
        rw [picked_getD (setsN n) [] fun s => decide (s.length ≤ m)] at this
        exact this
      · obtain ⟨gs, hp, a, us, rfl, h2, h3, h4⟩ := rv
        exact k a us gs H2 (ex.trans e2) (ex.back h2) h3 h4 hp
end
end TS
/-! ## LL4 -/
namespace TS
open PySem PySem.Spec PyProof.Rows L2
def subE : Expr → Expr
  | .Subscript a _ _ => a
  | e => e
/-- the left of the first condition of a comprehension -/
def ifE : Expr → Expr
  | .ListComp _ (⟨_, _, (.Compare a _ _ _) :: _, _⟩ :: _) _ _ => a
  | e => e
/-- the least circle -/
def LotD.tight (L : LotD) : Prop := ∀ k, 1 ≤ k → (∀ p ∈ L.parts, p.2 ∣ k) → L.circle ≤ k
section
variable {X : Cx} {σ : L2.St} {H : Hp} {a b e : Expr} {pos : Pos} {R : RT} {x y v : V}
theorem ev_ixP {F : List V → Hp → Prop} {i : Int} (ha : Ev X a σ H (newP F)) (hb : ∀ H', Ex H H' → Ev X b σ H' (is (.int i))) (hv : ∀ xs H', F xs H' → atI xs i = some v) (hs : PlainIx b := by exact fun _ _ => rfl) : Ev X (.Subscript a b pos) σ H (is v) := fun H1 e1 Q q =>
  wE_of (pe_ix ix_list pe_w pe_w hs) (ha H1 e1 _ fun x' H2 e2 ⟨p, xs, ex, hn, hp, hF⟩ => hb H2 (e1.trans e2) H2 (Ex.refl _) _ fun y' H3 e3 ry => by
    cases ry
    subst ex
    exact ⟨p, xs, i, v, rfl, rfl, SqL.of (e3 _ _ hp), hv _ _ hF, q _ H3 (e2.trans e3) rfl⟩)
end
section
variable {P : Program} {w : World} {K : PySem.W.Frag} {mg : Str → Option Value} {base : Heap} {CL CS CP : Addr}
abbrev nSpan : List Str := ["_law_lot_here", "_law_k", "_law_tag", "_law_e", "_law_p"]
theorem sc_span : FnScope nSpan ["_law_lot_here"] (defScope s_law_span) := ⟨rfl, rfl, rfl, by decide +kernel, rfl, by decide +kernel, by decide +kernel⟩
def spSpan : Sp := fun vs H Q _ => ∃ (x : V) (L : LotD) (ws : List Wk), vs = [x] ∧ IsOwn L ws x H ∧ L.ok ∧ L.tight ∧ ∀ H', Ex H H' → Q (.int (L.circle : Nat)) H'
def divs (ws : List Wk) (k : Nat) : Bool := ((picked ws.length fun j => !decide (k % (ws.getD j ("", 0, 0)).2.2 = 0)).map fun j => PyData.int ((ws.getD j ("", 0, 0)).2.2 : Nat)).isEmpty
theorem divs_iff (ws : List Wk) (k : Nat) : divs ws k = true ↔ ∀ w ∈ ws, w.2.2 ∣ k := by
  unfold divs picked
  rw [List.isEmpty_map, List.isEmpty_iff, List.filter_eq_nil_iff]
  constructor
  · intro h w hw
    obtain ⟨j, hj⟩ := List.getElem?_of_mem hw
    have hl : j < ws.length := (List.getElem?_eq_some_iff.mp hj).1
    have := h j (List.mem_range.mpr hl)
    have e : ws.getD j ("", 0, 0) = w := by rw [List.getD_eq_getElem?_getD, hj]; rfl
    rw [e] at this
    exact Nat.dvd_of_mod_eq_zero (by simpa using this)
  · intro h j hj
    have hl := List.mem_range.mp hj
    have : ws.getD j ("", 0, 0) ∈ ws := by
      rw [List.getD_eq_getElem?_getD, List.getElem?_eq_getElem hl]
      exact List.getElem_mem _
    have h2 := Nat.mod_eq_zero_of_dvd (h _ this)
    simpa using h2
theorem span_head {L : LotD} {ws : List Wk} (h : L.parts = ws.map (·.2)) (ok : L.ok) (ti : L.tight) : (picked 12 fun i => divs ws (1 + i))[0]? = some (L.circle - 1) := by
  have h1 := ok.2.2.2.2.2.1
  have h2 := ok.2.2.2.2.2.2
  unfold picked
  rw [← List.head?_eq_getElem?, List.head?_filter, List.find?_range_eq_some]
  have e : 1 + (L.circle - 1) = L.circle := by omega
  refine ⟨?_, List.mem_range.mpr (by omega), fun j hj => ?_⟩
  · rw [e, divs_iff]
    intro w hw
    exact (ok.2.2.2.2.1 w.2 (by rw [h]; exact List.mem_map.mpr ⟨w, hw, rfl⟩)).2.2.2
  · rw [Bool.not_eq_true']
    cases hd : divs ws (1 + j) with
    | false => rfl
    | true =>
      rw [divs_iff] at hd
      have := ti (1 + j) (by omega) fun p hp => by
        rw [h] at hp
        obtain ⟨w, hw, rfl⟩ := List.mem_map.mp hp
        exact hd w hw
      omega
theorem ok_span2 : BlkOk nSpan ⟨.function, [(".0", .local), ("_law_k", .cell), ("_law_lot_here", .cell)], false, false, []⟩ ⟨.function, [(".0", .local), ("_law_tag", .local), ("_law_e", .local), ("_law_p", .local), ("int", .globalImplicit), ("_law_k", .free)], false, false, []⟩ [("_law_tag", 2), ("_law_e", 3), ("_law_p", 4)] := blkOk_by (by decide +kernel)
theorem cal_span (T : Txt K mg CL CS CP) : C8.Cal P w K mg base 2 "_law_span" spSpan [] := by
  refine cal_mk T.d_law_span sc_span (fun vs H Q E h => ?_) fun f cdv A outer s H vs Q E hr h => ?_
  · obtain ⟨x, L, ws, rfl, _⟩ := h
    rfl
  · obtain ⟨x, L, ws, rfl, hx, ok, ti, k⟩ := h
    obtain ⟨hpw, lt, wl, us, rfl, o1, o2, o3⟩ := hx
    have hp3 := ok.2.2.2.1
    have pp := ok.2.2.2.2.1
    have hul := o3.len
    have hwl : ws.length = L.parts.length := by rw [hpw, List.length_map]
    refine ws_ret (ev_ixP (F := fun xs _ => xs = (picked 12 fun i => divs ws (1 + i)).map fun i => V.int ((1 + i : Nat) : Int)) (v := .int (L.circle : Nat)) (i := 0) (Ev.imp (ev_compIf (n := 13 - 1) (P := fun i v _ => v = .int ((1 + i : Nat) : Int)) (f := fun i => divs ws (1 + i)) (own := [("_law_k", 1)]) rfl sc_span.nd (blkOk_by (own := [("_law_k", 1)]) (N := nSpan) (sc := defScope s_law_span) (by decide +kernel)) (src_rangeN (m := 1) (n := 13) (ea_cons (ev_int (i := 1)) (ea_cons (ev_int (i := 13)) ea_nil)) (by decide) (by decide) T.n_range) (by decide) hG_true (fun i => isP_sx (v := fun i => .int ((1 + i : Nat) : Int)) i) hY_fn (fun i x Ha Hb hi ea gg y => ?_)) fun H1 v H2 e1 e2 r => newL_P (newC_map (g := fun i => .int ((1 + i : Nat) : Int)) r)) (fun H' _ => ev_int) fun xs H' hF => ?_) fun v H2 e2 rv => ?_
    · obtain ⟨rfl, rfl⟩ := y
      refine ⟨_, fun s H0 C cl fp => tgt_name 1 sc_span.nd, rfl, fun s H0 C cl fp => ?_, fun _ s H0 C cl fp => Ev.fits (ev_name 1 rfl) fun _ _ => rfl⟩
      refine et_eqNilP (ds := (picked ws.length fun j => !decide ((1 + i) % (ws.getD j ("", 0, 0)).2.2 = 0)).map fun j => PyData.int ((ws.getD j ("", 0, 0)).2.2 : Nat)) hr.units (Ev.imp (ev_compIf (n := us.length) (P := fun j v _ => v = .int ((ws.getD j ("", 0, 0)).2.2 : Nat)) (f := fun j => !decide ((1 + i) % (ws.getD j ("", 0, 0)).2.2 = 0)) (own := [("_law_tag", 2), ("_law_e", 3), ("_law_p", 4)]) rfl sc_span.nd ok_span2 (src_list (ev_ixT (ev_name 0 rfl) (ev_int (i := 1)) (SqT.of (ea _ _ o1)) rfl) (SqL.of (ea _ _ o2))) (by omega) hG_l (fun j => isP_sx (v := fun j => .int ((ws.getD j ("", 0, 0)).2.2 : Nat)) j) hY_at (fun j xj He Hf hj ee _ yj => ?_)) (fun H6 v H7 e6 e7 rv => ?_)) (by
        rw [show ((picked ws.length fun j => !decide ((1 + i) % (ws.getD j ("", 0, 0)).2.2 = 0)).map fun j => PyData.int ((ws.getD j ("", 0, 0)).2.2 : Nat)) = (((picked ws.length fun j => !decide ((1 + i) % (ws.getD j ("", 0, 0)).2.2 = 0)).map fun j => (ws.getD j ("", 0, 0)).2.2).map fun n => PyData.int (n : Nat)) by rw [List.map_map]; rfl]
        exact shaped_ints _)
      · obtain ⟨rfl, hxj⟩ := yj
        have hjw : j < ws.length := by omega
        obtain ⟨wk, hwk, xt, qt, rfl, w1, w2⟩ := o3.at hxj
        have eg : ws.getD j ("", 0, 0) = wk := by rw [List.getD_eq_getElem?_getD, hwk]; rfl
        have hpr : wk.2 ∈ L.parts := by rw [hpw]; exact List.mem_map.mpr ⟨wk, List.mem_of_getElem? hwk, rfl⟩
        have hpp := pp _ hpr
        have e2 := ea.trans ee
        rw [eg]
        refine ⟨_, fun s H0 C cl fp => tgt_tup rfl (SqT.of (e2 _ _ w1)) rfl (tgs_cons (tgt_name 2 sc_span.nd) (tgs_cons (tgt_tup rfl (SqT.of (e2 _ _ w2)) rfl (tgs_cons (tgt_name 3 sc_span.nd) (tgs_cons (tgt_name 4 sc_span.nd) tgs_nil))) tgs_nil)), rfl, fun s H0 C cl fp => ?_, fun _ s H0 C cl fp => Ev.fits (ev_name 4 rfl) fun _ _ => rfl⟩
        refine (et_neS (x := .int (((1 + i : Nat) : Int) % (wk.2.2 : Nat))) (y := .int 0) rfl (ev_mod (by omega) (ev_intI (ev_name 1 rfl) T.n_int) (ev_name 4 rfl)) ev_int).is_ ?_
        congr 1
        refine decide_eq_decide.mpr ⟨fun h => ?_, fun h => ?_⟩
        · injection h with h
          omega
        · congr 1
          omega
      · obtain ⟨pp, h1, h2, h3⟩ := newC_map (g := fun j => .int ((ws.getD j ("", 0, 0)).2.2 : Nat)) rv
        refine ⟨pp, _, h1, h2, h3, ?_⟩
        rw [← hul]
        have := dp_nums (K := K) (H := H7) (ns := (picked ws.length fun j => !decide ((1 + i) % (ws.getD j ("", 0, 0)).2.2 = 0)).map fun j => (ws.getD j ("", 0, 0)).2.2)
        rw [List.map_map, List.map_map] at this
        exact this
    · subst hF
      have hc := ok.2.2.2.2.2.1
      have := span_head hpw ok ti
      have e : ((picked 12 fun i => divs ws (1 + i)).map fun i => V.int ((1 + i : Nat) : Int))[0]? = some (V.int (L.circle : Nat)) := by
        rw [List.getElem?_map, this]
        show some (V.int ((1 + (L.circle - 1) : Nat) : Int)) = _
        rw [show 1 + (L.circle - 1) = L.circle by omega]
      exact atI_of (i := 0) e
    · cases rv
      exact k H2 e2
end
end TS
/-! ## LL5 -/
namespace TS
open PySem PySem.Spec PyProof.Rows L2
def lawSets (L : LotD) : List (List Nat) := setsLe L.parts.length L.many
def hasNext (L : LotD) (S : List (List Nat)) (s : List Nat) : Bool := (lawSets L).any fun g => decide (plusL s g ∈ S)
def aliveS (L : LotD) : Nat → List (List Nat)
  | 0 => standsAt L.parts L.circle
  | k + 1 => (standsAt L.parts (L.circle - (k + 1))).filter (hasNext L (aliveS L k))
def livS (L : LotD) : Nat → List (List (List Nat))
  | 0 => [aliveS L 0]
  | k + 1 => aliveS L (k + 1) :: livS L k
theorem livS_len (L : LotD) : ∀ k, (livS L k).length = k + 1
  | 0 => rfl
  | k + 1 => by show (livS L k).length + 1 = _; rw [livS_len L k]
theorem livS_head (L : LotD) : ∀ k, (livS L k)[0]? = some (aliveS L k)
  | 0 => rfl
  | k + 1 => rfl
def livF (L : LotD) : List (List (List Nat)) := if (aliveS L L.circle).isEmpty then List.replicate (L.circle + 1) [] else livS L L.circle
/-- a dict by the standings of S -/
def LivD (S : List (List Nat)) (d : V) (H : Hp) : Prop := ∃ p kvs, d = .ref p ∧ H p = some (.dT kvs) ∧ kvs.length ≤ 100 ∧ kvs.isEmpty = S.isEmpty ∧ ∀ s, (valV kvs (keyN s)).isSome = decide (s ∈ S)
theorem LivD.ex {S : List (List Nat)} {d : V} {H H' : Hp} (h : LivD S d H) (e : Ex H H') : LivD S d H' := let ⟨p, kvs, h1, h2, h3⟩ := h; ⟨p, kvs, h1, e _ _ h2, h3⟩
def kvOf (ss : List (List Nat)) : KVT := ss.map fun s => (keyN s, .bl true)
theorem kvOf_any (ss : List (List Nat)) (s : List Nat) : ((kvOf ss).any fun kv => decide (kv.1 = keyN s)) = decide (s ∈ ss) := by
  unfold kvOf
  rw [List.any_map, Bool.eq_iff_iff, List.any_eq_true, decide_eq_true_iff]
  constructor
  · rintro ⟨t, ht, h⟩
    have h' : keyN t = keyN s := of_decide_eq_true h
    rw [← keyN_inj h']
    exact ht
  · exact fun h => ⟨s, h, decide_eq_true rfl⟩
theorem mergeT_empty : ∀ (more acc : KVT), (mergeT acc more).isEmpty = (acc.isEmpty && more.isEmpty)
  | [], acc => by simp [mergeT]
  | p :: r, acc => by
    show (mergeT (putK acc p.1 p.2) r).isEmpty = _
    rw [mergeT_empty r]
    have : (putK acc p.1 p.2).isEmpty = false := by
      have h := valV_put acc p.1 p.1 p.2
      rw [if_pos rfl] at h
      cases hp : putK acc p.1 p.2 with
      | nil => rw [hp] at h; cases h
      | cons _ _ => rfl
    rw [this]
    simp
theorem livD_of {ss : List (List Nat)} {p : Addr} {H : Hp} (h : H p = some (.dT (mergeT [] (kvOf ss)))) (hl : ss.length ≤ 100) : LivD ss (.ref p) H := by
  refine ⟨p, _, rfl, h, ?_, ?_, fun s => ?_⟩
  · have := mergeT_len (kvOf ss) []
    unfold kvOf at this
    rw [List.length_map] at this
    exact Nat.le_trans this (by rw [List.length_nil]; omega)
  · rw [mergeT_empty]
    unfold kvOf
    rw [List.isEmpty_map]
    rfl
  · rw [mergeT_val, kvOf_any]
    rfl
section
variable {X : Cx} {σ : L2.St} {H : Hp} {a b e : Expr} {pos : Pos} {R : RT} {x y v : V}
/-- what a pair of the argument of dict() is -/
def PairT (s : List Nat) (v : V) (H : Hp) : Prop := ∃ p t, v = .ref p ∧ H p = some (.tup [.ref t, .bl true]) ∧ H t = some (.tup (nums s))
theorem PairT.sx {s : List Nat} : SMono (PairT s) := fun v H H' e ⟨p, t, h1, h2, h3⟩ => ⟨p, t, h1, e _ _ h2 rfl, e _ _ h3 rfl⟩
theorem pairs_args {K : PySem.W.Frag} {H : Hp} : ∀ {ss : List (List Nat)} {vs : List V}, All2 (fun s v => PairT s v H) ss vs → ∃ ps : List Addr, vs = ps.map V.ref ∧ All2 (PairK K H) ps (kvOf ss)
  | _, _, .nil => ⟨[], rfl, .nil⟩
  | _, _, .cons h t => by
    obtain ⟨ps, rfl, h2⟩ := pairs_args (K := K) t
    obtain ⟨p, t0, rfl, h3, h4⟩ := h
    exact ⟨p :: ps, rfl, .cons ⟨t0, SqT.of h3, by rw [keyN_nums]; exact h4⟩ h2⟩
theorem ev_dictOf {ss : List (List Nat)} {pn : Pos} (hc : X.calm = true) (hu : X.A.units + 64 < cLine) (hl : ss.length ≤ 100) (ha : Ev X e σ H (newP fun xs H2 => All2 (fun s v => PairT s v H2) ss xs)) (hm : X.mg "dict" = none) (hg : Gl X "dict" := by rfl) (hs : starEach [e] X.env = (false, eval e X.env) :: starEach [] X.env := by rfl) :
    Ev X (.Call (.Name "dict" pn) [e] [] pos) σ H (fun H1 v H2 => ∃ p, v = .ref p ∧ H1 p = none ∧ LivD ss v H2) :=
  ev_callTyG (R := fun H1 v H2 => ∃ p, v = .ref p ∧ H1 p = none ∧ LivD ss v H2) (call_dictT hc (by omega)) hm (by decide +kernel) (eg_one ha hs) (fun H1 vs H2 e1 e2 t Q q => by
    obtain ⟨v, rfl, Hm, em, ⟨p, xs, rfl, hp, hl', hh⟩, rfl⟩ := t
    obtain ⟨ps, rfl, h2⟩ := pairs_args (K := X.K) hh
    exact ⟨p, ps, kvOf ss, rfl, SqL.of hl', h2, fun d hd => q _ _ (Ex.new hd) ⟨d, rfl, em.back hd, livD_of upd_same hl⟩⟩) hg (by decide) (by decide) hs rfl
theorem et_neDE {S : List (List Nat)} {p2 : Pos} (hu : X.A.units < cLine) (ha : Ev X a σ H (is x)) (h : LivD S x H) (hm : behindInMarks .NotEq (.Dict [] [] p2) = false := by rfl) : EvT X (.Compare a [.NotEq] [.Dict [] [] p2] pos) σ H (!S.isEmpty) := fun H1 e1 Q q =>
  wT_of (pt_cmpR (op_neDE hu) pe_w pe_w hm) (ha H1 e1 _ fun x' H2 e2 rx => (ev_dnew (X := X) (σ := σ) (pos := p2)) H2 (Ex.refl _) _ fun y' H3 e3 ⟨p, ey, hp, hH3⟩ => by
    cases rx
    obtain ⟨d, kvs, rfl, h1, h2, h3, h4⟩ := h
    subst ey
    refine ⟨d, p, kvs, rfl, rfl, ((e1.trans e2).trans e3) _ _ h1, by rw [hH3, upd_same], _, rfl, ?_⟩
    rw [h3]
    exact q H3 (e2.trans e3))
end
end TS
/-! ## LL6 -/
namespace TS
open PySem PySem.Spec PyProof.Rows L2
theorem all2_repl {α β γ : Type} {F : γ → β → Prop} {G : α → β → Prop} {c : γ} (h : ∀ a b, G a b → F c b) : ∀ {as : List α} {bs : List β}, All2 G as bs → All2 F (List.replicate as.length c) bs
  | _, _, .nil => .nil
  | _, _, .cons a t => .cons (h _ _ a) (all2_repl h t)
theorem perm_any {α : Type} {l m : List α} (h : l.Perm m) (p : α → Bool) : l.any p = m.any p := by
  rw [Bool.eq_iff_iff, List.any_eq_true (l := l), List.any_eq_true (l := m)]
  exact ⟨fun ⟨x, hx, hp⟩ => ⟨x, h.mem_iff.mp hx, hp⟩, fun ⟨x, hx, hp⟩ => ⟨x, h.mem_iff.mpr hx, hp⟩⟩
theorem filter_any {α : Type} (l : List α) (p : α → Bool) : (!(l.filter p).isEmpty) = l.any p := by
  induction l with
  | nil => rfl
  | cons a l ih =>
    rw [List.filter_cons, List.any_cons]
    cases h : p a with
    | true => simp
    | false => simpa using ih
theorem tab_len (L : LotD) (ok : L.ok) : ∀ t, (standsAt L.parts t).length ≤ 8 ∧ ∀ s ∈ standsAt L.parts t, s.length = L.parts.length := fun t => by
  have h8 : 2 ^ L.parts.length ≤ 2 ^ 3 := Nat.pow_le_pow_right (by decide) ok.2.2.2.1
  obtain ⟨h1, h2⟩ := standsAt_len L.parts t fun p hp => by have := ok.2.2.2.2.1 p hp; omega
  exact ⟨by omega, h2⟩
section
variable {X : Cx} {σ : L2.St} {H : Hp} {d e : Expr} {pos : Pos}
theorem et_dinM {p : Addr} {kvs : List (List L2.Key × V)} {ns : List Nat} (hu : X.A.units + 1 < cLine) (hk : Ev X e σ H (fits (TI ns))) (hd : Ev X d σ H (is (.ref p))) (hp : H p = some (.dT kvs)) (hm : behindInMarks .In d = false := by rfl) :
    EvT X (.Compare e [.In] [d] pos) σ H (valV kvs (keyN ns)).isSome := fun H1 e1 Q q =>
  wT_of (pt_cmp (pc_din hu pe_w pe_w) hm) (hk H1 e1 _ fun y' H2 e2 ry => hd H2 (e1.trans e2) _ fun x' H3 e3 rx => by
    cases rx
    obtain ⟨t, rfl, ht⟩ := ry
    refine ⟨p, valV kvs (keyN ns), rfl, DGet.t (((e1.trans e2).trans e3) _ _ hp) (by rw [keyN_nums]; exact e3 _ _ ht), _, rfl, q H3 (e2.trans e3)⟩)
end
def newSets (S : List (List Nat)) : RT := fun H1 v H2 => ∃ a us gs, v = .ref a ∧ H1 a = none ∧ H2 a = some (.lst us) ∧ TIs gs us H2 ∧ gs.Perm S
instance {S : List (List Nat)} : Anti (newSets S) := ⟨fun _ _ _ _ e ⟨a, us, gs, h1, h2, h3⟩ => ⟨a, us, gs, h1, e.back h2, h3⟩⟩
section
variable {P : Program} {w : World} {K : PySem.W.Frag} {mg : Str → Option Value} {base : Heap} {CL CS CP : Addr}
abbrev nLiving : List Str := ["_law_lot_here", "_law_span_here", "_law_had", "_law_found", "_law_sets_here", "_law_t", "_law_here", "_law_s", "_law_row"]
theorem sc_living : FnScope nLiving ["_law_lot_here"] (defScope s_law_living) := ⟨rfl, rfl, rfl, by decide +kernel, rfl, by decide +kernel, by decide +kernel⟩
def spLiving : Sp := fun vs H Q _ => ∃ (x : V) (L : LotD) (ws : List Wk), vs = [x] ∧ IsOwn L ws x H ∧ L.ok ∧ L.tight ∧ ∀ a us H', Ex H H' → H a = none → H' a = some (.lst us) → All2 (fun S u => LivD S u H') (livF L) us → Q (.ref a) H'
def LvInv (L : LotD) (H : Hp) (lt fl sa : Addr) (gs : List (List Nat)) (ss : List V) (i : Nat) (σ' : L2.St) (H' : Hp) : Prop :=
  (∃ x2 x5 x6 x7 x8, σ' = [some (.ref lt), some (.int (L.circle : Nat)), x2, some (.ref fl), some (.ref sa), x5, x6, x7, x8]) ∧
  ∃ HB ls, HB fl = none ∧ Ex H HB ∧ HB sa = some (.lst ss) ∧ TIs gs ss HB ∧ Ex HB H' ∧ H' fl = some (.lst ls) ∧ All2 (fun S u => LivD S u HB) (livS L i) ls
def LiInv (L : LotD) (i : Nat) (Hb : Hp) (lt fl sa hd st : Addr) (us : List V) (j : Nat) (σ' : L2.St) (H' : Hp) : Prop :=
  (∃ x2 x7 x8, σ' = [some (.ref lt), some (.int (L.circle : Nat)), x2, some (.ref fl), some (.ref sa), some (.int ((L.circle - (i + 1) : Nat) : Int)), some (.ref hd), x7, x8]) ∧
  ∃ HI kvs, HI hd = none ∧ Ex Hb HI ∧ HI st = some (.lst us) ∧ TIs (standsAt L.parts (L.circle - (i + 1))) us HI ∧ Ex HI H' ∧ H' hd = some (.dT kvs) ∧ kvs.length ≤ j ∧
    kvs.isEmpty = (((standsAt L.parts (L.circle - (i + 1))).take j).filter (hasNext L (aliveS L i))).isEmpty ∧
    ∀ s, (valV kvs (keyN s)).isSome = decide (s ∈ ((standsAt L.parts (L.circle - (i + 1))).take j).filter (hasNext L (aliveS L i)))
theorem cal_living (T : Txt K mg CL CS CP) : C8.Cal P w K mg base 3 "_law_living" spLiving [] := by
  refine cal_mk T.d_law_living sc_living (fun vs H Q E h => ?_) fun f cdv A outer s H vs Q E hr h => ?_
  · obtain ⟨x, L, ws, rfl, _⟩ := h
    rfl
  · obtain ⟨x, L, ws, rfl, hx, ok, ti, k⟩ := h
    have hx0 := hx
    obtain ⟨hpw, lt, wl, us0, rfl, o1, o2, o3⟩ := hx
    have hp3 := ok.2.2.2.1
    have pp := ok.2.2.2.2.1
    have hc1 := ok.2.2.2.2.2.1
    have hc6 := ok.2.2.2.2.2.2
    have hul := o3.len
    have hwl : ws.length = L.parts.length := by rw [hpw, List.length_map]
    have tl := tab_len L ok
    refine ws_set 1 sc_living.nd (ev_call (R := is (.int (L.circle : Nat))) (cal_span (P := P) (w := w) (base := base) T) hr (by decide) (ea_cons (ev_name 0 rfl) ea_nil) fun H1 e1 Q q => ⟨_, L, ws, rfl, hx0.ex e1, ok, ti, fun H' e' => q _ H' e' rfl⟩) fun v H1 e1 rv => ?_
    cases rv
    refine ws_set 3 sc_living.nd (ev_lstG (eg_one (ev_dictOf (ss := standsAt L.parts L.circle) rfl hr.units (Nat.le_trans (tl _).1 (by decide)) (Ev.imp (ev_compE (n := (standsAt L.parts L.circle).length) (P := fun i v H' => PairT ((standsAt L.parts L.circle).getD i []) v H') (own := [("_law_had", 2)]) rfl sc_living.nd (blkOk_by (own := [("_law_had", 2)]) (N := nLiving) (sc := defScope s_law_living) (by decide +kernel)) (src_call (F := fun i v H' => TI ((standsAt L.parts L.circle).getD i []) v H') (ev_call (R := fits fun v H2 => ∃ a us, v = .ref a ∧ H2 a = some (.lst us) ∧ TIs (standsAt L.parts L.circle) us H2) (cal_all_at (P := P) (w := w) (base := base) T) hr (by decide) (ea_cons (ev_name 0 rfl) (ea_cons (ev_name 1 rfl) ea_nil)) fun H2 e2 Q q => ?A) (fun H2 v H3 e2 e3 rv => ?B) (pi_list pe_w)) (Nat.le_trans (tl _).1 (by decide)) (fun i => PairT.sx) (fun _ _ _ _ h => by rw [h.1]; exact Ex.refl _) (fun i xi Hc Hd hi ec yc => ?C)) fun H2 v H3 e2 e3 rv => ?D) T.n_dict)) (fun H1 vs H2 ⟨v, e, _⟩ => by rw [e]; show 1 ≤ 100000; decide)) fun v H2 e2 rv => ?E
    case A => exact ⟨_, L, ws, L.circle, rfl, hx0.ex (e1.trans e2), ok, by omega, fun a us H' e' _ h1 h2 => q _ H' e' ⟨a, us, rfl, h1, h2⟩⟩
    case B =>
      obtain ⟨a, us, rfl, h1, h2⟩ := rv
      exact ⟨a, us, rfl, SqL.of h1, h2.len.symm, fun i x H4 e4 hx4 => (h2.nth hx4 []).ex e4⟩
    case C =>
      obtain ⟨rfl, t, rfl, ht⟩ := yc
      refine ⟨_, fun s H0 C cl fp => tgt_name 2 sc_living.nd, rfl, rfl, fun _ s H0 C cl fp => Ev.imp (ev_tup (ea_cons (ev_name 2 rfl) (ea_cons ev_bl ea_nil)) (by show 2 ≤ 100000; decide)) fun H6 v H7 e6 e7 rv => ?_⟩
      obtain ⟨p, rfl, hp1, hp2⟩ := rv
      exact ⟨p, t, rfl, hp2, (e6.trans e7) _ _ ht⟩
    case D =>
      obtain ⟨p, xs, rfl, h1, h2, h3⟩ := rv
      refine ⟨p, xs, rfl, h1, h2, ?_⟩
      rw [picked_all] at h3
      have := All2.maps (F := fun (s : List Nat) v => PairT s v H3) (f := fun i => (standsAt L.parts L.circle).getD i []) h3
      rw [range_getD] at this
      exact this
    obtain ⟨vs1, Hm, fl, rfl, em, ⟨u, rfl, Hm2, em2, ⟨d0, rfl, hd0n, hLiv⟩, rfl⟩, hfn, hfn1, rfl⟩ := rv
    have hfnH : H fl = none := e1.back hfn1
    have EHm : Ex H Hm2 := e1.trans em
    refine ws_set 4 sc_living.nd (ev_call (R := newSets (lawSets L)) (cal_sets (P := P) (w := w) (base := base) T) hr (by decide) (ea_cons (ev_lenQ (ev_ixT (ev_name 0 rfl) (ev_int (i := 1)) (SqT.of ((e1.trans e2) _ _ o1)) rfl) (.inl (SqL.of ((e1.trans e2) _ _ o2))) T.n_len) (ea_cons (ev_ixT (ev_name 0 rfl) (ev_int (i := 0)) (SqT.of ((e1.trans e2) _ _ o1)) rfl) ea_nil)) fun H3 e3 Q q => ⟨us0.length, L.many, rfl, by omega, fun a us gs H' e' h0 h1 h2 h3 => q _ H' e' ⟨a, us, gs, rfl, h0, h1, h2, by
      have : lawSets L = setsLe us0.length L.many := by
        unfold lawSets
        rw [← hul, hwl]
      rw [this]
      exact h3⟩⟩) fun v H3 e3 rv => ?_
    obtain ⟨sa, ss, gs, rfl, hsan, hsa, hss, hgp⟩ := rv
    have hsafl : sa ≠ fl := fun e => by subst e; rw [upd_same] at hsan; cases hsan
    refine ws_for (σ := _) PassesOwn.never rfl (src_down (n := (L.circle : Nat)) (ea_cons (ev_sub (ev_name 1 rfl) ev_int) (ea_cons (ev_neg ev_int) (ea_cons (ev_neg ev_int) ea_nil))) (by omega) T.n_range)
      (fun i σ' H' => LvInv L H lt fl sa gs ss i σ' H') (fun H4 e4 _ => ?_) (fun i σ' H' _ p => True.intro) (fun i x' σ' Ha Hb hi p yy => ?_) fun σ' H' p => ?_
    · have EX : Ex Hm2 (del fl H4) := ex_del ((Ex.new hfn).trans (e3.trans e4)) hfn
      refine ⟨⟨_, _, _, _, _, rfl⟩, del fl H4, [.ref d0], del_none _ _, EHm.trans EX, ?_, ?_, del_ex _ _, ?_, .cons (hLiv.ex EX) .nil⟩
      · rw [del_ne hsafl]
        exact e4 _ _ hsa
      · refine tis_del (hss.ex e4) fun ys z => ?_
        rw [e4 _ _ (e3 _ _ upd_same)] at z
        cases z
      · exact e4 _ _ (e3 _ _ upd_same)
    · obtain ⟨⟨x2, x5, x6, x7, x8, rfl⟩, HB, ls, B1, B2, B3, B4, B5, B6, B7⟩ := p
      obtain ⟨rfl, hY2⟩ := yy
      have hi' : i < L.circle := by omega
      have hmo : (((L.circle : Nat) : Int) - 1 - (i : Nat)) = ((L.circle - (i + 1) : Nat) : Int) := by omega
      obtain rfl : x' = .int ((L.circle - (i + 1) : Nat) : Int) := hY2.trans (congrArg V.int hmo)
      obtain ⟨u0, hu0, hL0⟩ := B7.get (livS_head L i)
      obtain ⟨p0, kvs0, rfl, k1, k2, k3, k4⟩ := hL0
      refine ⟨_, tgt_name 5 sc_living.nd, ?_⟩
      refine ws_set 6 sc_living.nd ev_dnew fun v H5 e5 rv => ?_
      obtain ⟨hd, rfl, hdn, rfl⟩ := rv
      have hown : IsOwn L ws (.ref lt) Hb := hx0.ex (B2.trans B5)
      refine ws_forL (σ := _) PassesOwn.never rfl (ev_callG (R := fun H1 v H2 => ∃ a us, v = .ref a ∧ H1 a = none ∧ H2 a = some (.lst us) ∧ TIs (standsAt L.parts (L.circle - (i + 1))) us H2) (T := fun _ vs _ => vs = [.ref lt, .int ((L.circle - (i + 1) : Nat) : Int)]) (cal_all_at (P := P) (w := w) (base := base) T) hr (by decide) (EvA.g (ea_cons (ev_name 0 rfl) (ea_cons (ev_name 5 rfl) ea_nil))) fun H3 vs H4 e3 e4 tt Q q => by
        subst tt
        exact ⟨_, L, ws, _, rfl, hown.ex ((e5.trans e3).trans e4), ok, by omega, fun a us H' e6 ha hus hT => q _ _ e6 ⟨a, us, rfl, e4.back ha, hus, hT⟩⟩) (fun v H6 e6 rv => ?_) (pi_list pe_w)
      obtain ⟨st, us, rfl, s1, s2, s3⟩ := rv
      have hul2 := s3.len
      have sthd : st ≠ hd := fun e => by subst e; rw [upd_same] at s1; cases s1
      refine ⟨st, us, LiInv L i Hb lt fl sa hd st us, rfl, SqL.of s2, ?_, ?_, ?_, ?_⟩
      · refine ⟨⟨_, _, _, rfl⟩, del hd H6, [], del_none _ _, ex_del (e5.trans e6) hdn, ?_, ?_, del_ex _ _, e6 _ _ upd_same, Nat.le_refl 0, rfl, fun s => rfl⟩
        · rw [del_ne sthd]
          exact s2
        · refine tis_del s3 fun ys z => ?_
          rw [e6 _ _ upd_same] at z
          cases z
      · rintro j σ' H' _ ⟨_, HI, kvs, i1, i2, i3, i4, i5, _⟩
        exact SqL.of (i5 _ _ i3)
      · rintro j xj σ' Hj hj ⟨⟨y2, y7, y8, rfl⟩, HI, kvs, i1, i2, i3, i4, i5, i6, i7, i8, i9⟩ hxj
        have hTj := i4.nth hxj []
        have hjl : j < (standsAt L.parts (L.circle - (i + 1))).length := by omega
        have tk := take_succ_getD (standsAt L.parts (L.circle - (i + 1))) [] hjl
        generalize hsj : (standsAt L.parts (L.circle - (i + 1))).getD j [] = sj at hTj tk
        have hsm : sj ∈ standsAt L.parts (L.circle - (i + 1)) := by
          rw [← hsj, List.getD_eq_getElem?_getD, List.getElem?_eq_getElem hjl]
          exact List.getElem_mem _
        have hsl := (tl _).2 sj hsm
        have EB : Ex HB Hj := B5.trans (i2.trans i5)
        have gl := hss.len
        have gl2 : gs.length ≤ 64 := by
          have h1 := hgp.length_eq
          have h2 : (lawSets L).length ≤ (setsN L.parts.length).length := List.length_filter_le _ _
          rw [setsN_len] at h2
          have h8 : 2 ^ L.parts.length ≤ 2 ^ 3 := Nat.pow_le_pow_right (by decide) hp3
          omega
        refine ⟨_, tgt_name 2 sc_living.nd, ?_⟩
        have hany : (!((gs.filter fun g => decide (plusL sj g ∈ aliveS L i)).map fun ns => PyData.tuple (ns.map fun n => .int (n : Nat))).isEmpty) = hasNext L (aliveS L i) sj := by
          rw [List.isEmpty_map, filter_any, perm_any hgp]
          rfl
        refine ws_if ((et_neNilP (ds := (gs.filter fun g => decide (plusL sj g ∈ aliveS L i)).map fun ns => PyData.tuple (ns.map fun n => .int (n : Nat))) hr.units (Ev.imp (ev_compIf (n := ss.length) (P := fun m v H' => TI (gs.getD m []) v H') (f := fun m => decide (plusL sj (gs.getD m []) ∈ aliveS L i)) (own := [("_law_s", 7)]) rfl sc_living.nd (blkOk_by (own := [("_law_s", 7)]) (N := nLiving) (sc := defScope s_law_living) (by decide +kernel)) (src_list (ev_name 4 rfl) (SqL.of (EB _ _ B3))) (by omega) hG_l (fun m => TI.sx) hY_at (fun m xm Hc Hd hm ec _ yc => ?F)) (fun H7 v H8 e7 e8 rv => ?G)) (shaped_tups _)).is_ hany) (fun hk H7 e7 => ?_) fun hk H7 e7 => ?_
        case F =>
          obtain ⟨rfl, hxm⟩ := yc
          have hTm := (B4.nth hxm []).ex (EB.trans ec)
          obtain ⟨am, rfl, ham⟩ := hTm
          refine ⟨_, fun s H0 C cl fp => tgt_name 7 sc_living.nd, rfl, fun s H0 C cl fp => (et_dinM (kvs := kvs0) (p := p0) (ns := plusL sj (gs.getD m [])) (room_u1 hr) (ev_call (R := fits (TI (plusL sj (gs.getD m [])))) (cal_lplus (P := P) (w := w) (base := base) T) hr (by decide) (ea_cons (ev_name 2 rfl) (ea_cons (ev_name 7 rfl) ea_nil)) fun H9 e9 Q q => ⟨_, _, sj, gs.getD m [], rfl, hTj.ex ((i5.trans ec).trans e9), ⟨am, rfl, e9 _ _ ham⟩, by omega, fun v H' e' hv => q v H' e' hv⟩) (ev_ixL (ev_name 3 rfl) (ev_int (i := 0)) (SqL.of ((i2.trans (i5.trans ec)) _ _ B6)) (atI_of (i := 0) hu0)) ((EB.trans ec) _ _ k1)).is_ (k4 _), fun _ s H0 C cl fp => Ev.fits (ev_name 7 rfl) fun _ e => ⟨am, rfl, e _ _ ham⟩⟩
        case G =>
          obtain ⟨pp, xs, rfl, h1, h2, h3⟩ := rv
          refine ⟨pp, xs, rfl, h1, h2, ?_⟩
          rw [← gl] at h3
          have := All2.maps (F := fun (s : List Nat) v => TI s v H8) (f := fun m => gs.getD m []) h3
          rw [picked_getD gs [] fun g => decide (plusL sj g ∈ aliveS L i)] at this
          exact dp_TIs this
        · have E7 : Ex HI H7 := i5.trans e7
          refine ws_dputN (v := .bl true) (ns := sj) (p := hd) (room_u1 hr) ev_bl (ev_name 6 rfl) (ev_name 2 rfl) (hTj.ex E7) (e7 _ _ i6) (by have := (tl (L.circle - (i + 1))).1; omega) fun H8 e8 => ?_
          have E8 : Ex HI (upd H8 hd (.dT (putK kvs (keyN sj) (.bl true)))) := (E7.trans e8).mut i1
          refine ws_nil (ws_nil ⟨⟨_, _, _, rfl⟩, HI, _, i1, i2, i3, i4, E8, upd_same, ?_, ?_, fun s2 => ?_⟩)
          · have := length_putK kvs (keyN sj) (.bl true)
            omega
          · rw [tk, List.filter_append, List.filter_cons, hk]
            have : (putK kvs (keyN sj) (.bl true)).isEmpty = false := by
              have h := valV_put kvs (keyN sj) (keyN sj) (.bl true)
              rw [if_pos rfl] at h
              cases hp : putK kvs (keyN sj) (.bl true) with
              | nil => rw [hp] at h; cases h
              | cons _ _ => rfl
            rw [this]
            simp
          · rw [tk, List.filter_append, List.filter_cons, hk, valV_put]
            by_cases he : s2 = sj
            · subst he
              rw [if_pos rfl]
              simp
            · rw [if_neg (fun e => he (keyN_inj e)), i9 s2]
              refine decide_eq_decide.mpr ?_
              simp [he]
        · refine ws_nil (ws_nil ⟨⟨_, _, _, rfl⟩, HI, kvs, i1, i2, i3, i4, i5.trans e7, e7 _ _ i6, by omega, ?_, fun s2 => ?_⟩)
          · rw [tk, List.filter_append, List.filter_cons, hk, i8]
            simp
          · rw [tk, List.filter_append, List.filter_cons, hk, i9 s2]
            simp
      · rintro σ' Hj ⟨⟨y2, y7, y8, rfl⟩, HI, kvs, i1, i2, i3, i4, i5, i6, i7, i8, i9⟩
        rw [← hul2, List.take_length] at i8 i9
        have EB : Ex HB Hj := B5.trans (i2.trans i5)
        have hdfl : hd ≠ fl := fun e => by subst e; rw [B6] at hdn; cases hdn
        have hlen : ls.length < 100000 := by
          have h1 := B7.len
          rw [livS_len] at h1
          omega
        refine ws_insert0 ((i2.trans i5) _ _ B6) hlen (ev_name 3 rfl) (ev_name 6 rfl) fun v H8 e8 rv => ?_
        cases rv
        have EN : Ex HB (del fl (upd H8 fl (.lst (.ref hd :: ls)))) := ex_del ((EB.trans e8).mut B1) B1
        refine ws_nil ⟨⟨_, _, _, _, _, rfl⟩, _, .ref hd :: ls, del_none _ _, B2.trans EN, EN _ _ B3, B4.ex EN, del_ex _ _, upd_same, .cons ⟨hd, kvs, rfl, ?_, ?_, i8, i9⟩ (B7.imp fun S u z => z.ex EN)⟩
        · rw [del_ne hdfl, upd_ne hdfl]
          exact e8 _ _ i6
        · have := (tl (L.circle - (i + 1))).1
          omega
    · obtain ⟨⟨x2, x5, x6, x7, x8, rfl⟩, HB, ls, B1, B2, B3, B4, B5, B6, B7⟩ := p
      have hcn : ((L.circle : Nat) : Int).toNat = L.circle := by omega
      rw [hcn] at B7
      obtain ⟨u0, hu0, hL0⟩ := B7.get (livS_head L L.circle)
      have hll := B7.len
      rw [livS_len] at hll
      refine ws_ret (R := fits fun v H2 => ∃ a us, v = .ref a ∧ H a = none ∧ H2 a = some (.lst us) ∧ All2 (fun S u => LivD S u H2) (livF L) us) (ev_if (et_neDE (S := aliveS L L.circle) (Nat.lt_of_le_of_lt (Nat.le_add_right _ 64) hr.units) (ev_ixL (ev_name 3 rfl) (ev_int (i := 0)) (SqL.of B6) (atI_of (i := 0) hu0)) (hL0.ex B5)) (fun hk => Ev.fits (ev_name 3 rfl) fun H4 e4 => ⟨fl, ls, rfl, hfnH, e4 _ _ B6, ?_⟩) fun hk => Ev.imp (ev_comp (n := ls.length) (P := fun m v H' => ∃ p, v = .ref p ∧ H' p = some (.dT [])) (own := [("_law_row", 8)]) rfl sc_living.nd (blkOk_by (own := [("_law_row", 8)]) (N := nLiving) (sc := defScope s_law_living) (by decide +kernel)) (src_list (ev_name 3 rfl) (SqL.of B6)) (by omega) hG_l (fun m v H1 H2 e ⟨p, h1, h2⟩ => ⟨p, h1, e _ _ h2 rfl⟩) hY_at (fun m xm Hc Hd hm ec _ yc => ?_)) fun H4 v H5 e4 e5 rv => ?_) fun v H2 e2 rv => ?_
      · have he : (aliveS L L.circle).isEmpty = false := by simpa using hk
        unfold livF
        rw [if_neg (by rw [he]; decide)]
        exact B7.imp fun S u z => z.ex (B5.trans e4)
      · obtain ⟨rfl, _⟩ := yc
        exact ⟨_, fun s H0 C cl fp => tgt_name 8 sc_living.nd, rfl, rfl, fun _ s H0 C cl fp => Ev.imp ev_dnew fun H6 v H7 e6 e7 ⟨p, h1, h2, h3⟩ => ⟨p, h1, by rw [h3, upd_same]⟩⟩
      · obtain ⟨pp, xs, rfl, h1, h2, h3⟩ := rv
        have he : (aliveS L L.circle).isEmpty = true := by simpa using hk
        refine ⟨pp, xs, rfl, (B2.trans (B5.trans e4)).back h1, h2, ?_⟩
        unfold livF
        rw [if_pos he]
        rw [picked_all] at h3
        have := all2_repl (F := fun (S : List (List Nat)) u => LivD S u H5) (c := []) (fun m v ⟨p, h1, h2⟩ => ⟨p, [], h1, h2, by decide, rfl, fun s => rfl⟩) h3
        rw [List.length_range, ← hll] at this
        exact this
      · obtain ⟨a, us, rfl, h1, h2, h3⟩ := rv
        exact k a us H2 (B2.trans (B5.trans e2)) h1 h2 h3
end
end TS
/-! ## LL7 -/
namespace TS
open PySem PySem.Spec PyProof.Rows L2
theorem picked_congr {n : Nat} {f g : Nat → Bool} (h : ∀ i, i < n → f i = g i) : picked n f = picked n g := by
  unfold picked
  exact List.filter_congr fun i hi => h i (List.mem_range.mp hi)
theorem mem_setsN : ∀ (n : Nat) (g : List Nat), g ∈ setsN n ↔ ∃ f, g = picked n f
  | 0, g => by
    rw [show setsN 0 = [[]] from rfl, List.mem_singleton]
    exact ⟨fun h => ⟨fun _ => true, h⟩, fun ⟨f, h⟩ => h⟩
  | n + 1, g => by
    rw [setsN_succ, List.mem_append, mem_setsN n, List.mem_map]
    constructor
    · rintro (⟨f, rfl⟩ | ⟨t, ht, rfl⟩)
      · refine ⟨fun i => decide (i < n) && f i, ?_⟩
        rw [picked_succ, picked_congr (g := fun i => decide (i < n) && f i) fun i hi => by simp [hi]]
        simp
      · obtain ⟨f, rfl⟩ := (mem_setsN n t).mp ht
        refine ⟨fun i => decide (i = n) || f i, ?_⟩
        rw [picked_succ, picked_congr (g := fun i => decide (i = n) || f i) fun i hi => by simp [Nat.ne_of_lt hi]]
        simp
    · rintro ⟨f, rfl⟩
      rw [picked_succ]
      cases h : f n with
      | true => exact .inr ⟨_, (mem_setsN n _).mpr ⟨f, rfl⟩, rfl⟩
      | false => exact .inl ⟨f, by simp⟩
theorem setsN_lt {n : Nat} {g : List Nat} (h : g ∈ setsN n) {i : Nat} (hi : i ∈ g) : i < n := by
  obtain ⟨f, rfl⟩ := (mem_setsN n g).mp h
  exact List.mem_range.mp (List.mem_filter.mp hi).1
theorem setsN_nodup : ∀ n, (setsN n).Nodup
  | 0 => by simp [setsN]
  | n + 1 => by
    rw [setsN_succ, List.nodup_append]
    refine ⟨setsN_nodup n, ?_, ?_⟩
    · refine List.Pairwise.map _ (fun a b h z => h ?_) (setsN_nodup n)
      exact List.append_cancel_right z
    · intro a ha b hb e
      subst e
      obtain ⟨t, ht, rfl⟩ := List.mem_map.mp hb
      have := setsN_lt ha (i := n) (by simp)
      omega
theorem setsLe_nodup (n m : Nat) : (setsLe n m).Nodup := (setsN_nodup n).filter _
theorem plusL_len (s g : List Nat) : (plusL s g).length = s.length := by
  unfold plusL
  rw [List.length_map (as := List.range _), List.length_range]
theorem plusL_get (s g : List Nat) {i : Nat} (h : i < s.length) : (plusL s g).getD i 0 = s.getD i 0 + if i ∈ g then 1 else 0 := by
  unfold plusL
  rw [List.getD_eq_getElem?_getD, List.getElem?_map]
  rw [List.getElem?_range h]
  rfl
theorem plusL_det {s g l : List Nat} (h : g ∈ setsN s.length) (e : plusL s g = l) : g = picked s.length fun i => decide (s.getD i 0 < l.getD i 0) := by
  obtain ⟨f, hf⟩ := (mem_setsN _ g).mp h
  rw [hf]
  refine picked_congr fun i hi => ?_
  rw [← e, plusL_get _ _ hi]
  have hm : i ∈ g ↔ f i = true := by
    rw [hf]
    unfold picked
    rw [List.mem_filter, List.mem_range]
    exact ⟨fun h => h.2, fun h => ⟨hi, h⟩⟩
  by_cases h2 : f i = true
  · rw [if_pos (hm.mpr h2), h2]
    exact Eq.symm (decide_eq_true (by omega))
  · rw [if_neg (fun z => h2 (hm.mp z))]
    rw [decide_eq_false fun z => by omega]
    simpa using h2
theorem filter_one {α : Type} {l : List α} (hn : l.Nodup) {p : α → Bool} {c : α} (h : ∀ x ∈ l, p x = true → x = c) : (l.filter p).length ≤ 1 := by
  have hnd := hn.filter p
  have hall : ∀ x ∈ l.filter p, x = c := fun x hx => by
    obtain ⟨h1, h2⟩ := List.mem_filter.mp hx
    exact h x h1 h2
  match hq : l.filter p, hnd, hall with
  | [], _, _ => exact Nat.zero_le _
  | [a], _, _ => exact Nat.le_refl _
  | a :: b :: r, hnd, hall =>
    have ha := hall a (by simp)
    have hb := hall b (by simp)
    rw [ha, hb] at hnd
    simp at hnd
theorem livS_get (L : LotD) : ∀ (k j : Nat), j ≤ k → (livS L k)[j]? = some (aliveS L (k - j))
  | 0, j, h => by
    obtain rfl : j = 0 := by omega
    rfl
  | k + 1, 0, _ => rfl
  | k + 1, j + 1, h => by
    show (livS L k)[j]? = _
    rw [livS_get L k j (by omega), Nat.add_sub_add_right]
theorem livF_len (L : LotD) : (livF L).length = L.circle + 1 := by
  unfold livF
  split
  · rw [List.length_replicate]
  · exact livS_len L _
def livAt (L : LotD) (t : Nat) : List (List Nat) := (livF L).getD t []
theorem livAt_get (L : LotD) {t : Nat} (h : t ≤ L.circle) : (livF L)[t]? = some (livAt L t) := by
  unfold livAt
  rw [List.getD_eq_getElem?_getD, List.getElem?_eq_getElem (by rw [livF_len]; omega)]
  rfl
abbrev Ent := List (List Nat) × List Nat
def extE (S gs : List (List Nat)) (e : Ent) : List Ent := (gs.filter fun g => decide (plusL e.2 g ∈ S)).map fun g => (e.1 ++ [g], plusL e.2 g)
def tabS (L : LotD) (gs : List (List Nat)) : Nat → List Ent
  | 0 => if zeroN L.parts.length ∈ livAt L 0 then [([], zeroN L.parts.length)] else []
  | t + 1 => (tabS L gs t).flatMap (extE (livAt L (t + 1)) gs)
theorem zeroN_len (n : Nat) : (zeroN n).length = n := by
  unfold zeroN
  rw [List.length_map (as := List.range _), List.length_range]
theorem tabS_mem (L : LotD) (gs : List (List Nat)) : ∀ t, ∀ e ∈ tabS L gs t, e.1.length = t ∧ e.2.length = L.parts.length
  | 0, e, h => by
    unfold tabS at h
    split at h
    · rw [List.mem_singleton] at h
      subst h
      exact ⟨rfl, zeroN_len _⟩
    · cases h
  | t + 1, e, h => by
    obtain ⟨e0, h0, h1⟩ := List.mem_flatMap.mp h
    obtain ⟨g, hg, rfl⟩ := List.mem_map.mp h1
    obtain ⟨a, b⟩ := tabS_mem L gs t e0 h0
    exact ⟨by simp [a], by rw [plusL_len]; exact b⟩
theorem low_at {p : Nat × Nat} {c : Nat} (h : 0 < p.2) (d : p.2 ∣ c) : highN p c = lowN p c := by
  obtain ⟨k, rfl⟩ := d
  unfold highN lowN
  have e : p.2 * k * p.1 = p.2 * (k * p.1) := by rw [Nat.mul_assoc]
  rw [e, Nat.mul_div_cancel_left _ h, Nat.add_comm, Nat.add_mul_div_left _ _ h, Nat.div_eq_of_lt (by omega), Nat.zero_add]
theorem stands_end (parts : List (Nat × Nat)) (c : Nat) (h : ∀ p ∈ parts, 0 < p.2 ∧ p.2 ∣ c) : ∀ (acc : List (List Nat)), (parts.foldl (standsStep c) acc).length = acc.length := by
  induction parts with
  | nil => exact fun _ => rfl
  | cons p ps ih =>
    intro acc
    rw [List.foldl_cons, ih fun q hq => h q (List.mem_cons_of_mem _ hq)]
    obtain ⟨h1, h2⟩ := h p List.mem_cons_self
    have := low_at h1 h2
    unfold standsStep
    have e : spread p c = fun s => [s ++ [lowN p c]] := by
      funext s
      unfold spread
      rw [this, show lowN p c + 1 - lowN p c = 1 by omega]
      rfl
    rw [e]
    induction acc with
    | nil => rfl
    | cons a acc iha => rw [List.flatMap_cons, List.length_append, iha]; simp; omega
theorem livAt_end (L : LotD) (ok : L.ok) : (livAt L L.circle).length ≤ 1 := by
  have h := livAt_get L (Nat.le_refl L.circle)
  unfold livF at h
  split at h
  · rw [List.getElem?_replicate] at h
    split at h
    · rw [← Option.some.inj h]
      exact Nat.zero_le 1
    · cases h
  · rw [livS_get L _ _ (Nat.le_refl _), Nat.sub_self] at h
    rw [← Option.some.inj h]
    show (standsAt L.parts L.circle).length ≤ 1
    unfold standsAt
    rw [stands_end L.parts L.circle (fun p hp => by
      have := ok.2.2.2.2.1 p hp
      exact ⟨by omega, this.2.2.2⟩)]
    exact Nat.le_refl 1
theorem lawSets_len (L : LotD) (ok : L.ok) : (lawSets L).length ≤ 8 := by
  have h2 : (lawSets L).length ≤ (setsN L.parts.length).length := List.length_filter_le _ _
  rw [setsN_len] at h2
  have h8 : 2 ^ L.parts.length ≤ 2 ^ 3 := Nat.pow_le_pow_right (by decide) ok.2.2.2.1
  omega
theorem tabS_len (L : LotD) (ok : L.ok) (gs : List (List Nat)) (hp : gs.Perm (lawSets L)) : ∀ t, (tabS L gs t).length ≤ 8 ^ t
  | 0 => by
    unfold tabS
    split
    · exact Nat.le_refl 1
    · exact Nat.zero_le _
  | t + 1 => by
    have h := flat_len (f := extE (livAt L (t + 1)) gs) (k := 8) (l := tabS L gs t) fun e _ => by
      unfold extE
      rw [List.length_map]
      refine Nat.le_trans (List.length_filter_le _ _) ?_
      rw [hp.length_eq]
      exact lawSets_len L ok
    have ih := tabS_len L ok gs hp t
    show ((tabS L gs t).flatMap _).length ≤ _
    rw [Nat.pow_succ]
    exact Nat.le_trans h (Nat.mul_le_mul_right 8 ih)
theorem tabS_end (L : LotD) (ok : L.ok) (gs : List (List Nat)) (hp : gs.Perm (lawSets L)) : ∀ t, t + 1 = L.circle → (tabS L gs (t + 1)).length ≤ (tabS L gs t).length := fun t ht => by
  have h := flat_len (f := extE (livAt L (t + 1)) gs) (k := 1) (l := tabS L gs t) fun e he => by
    unfold extE
    rw [List.length_map]
    have hl := livAt_end L ok
    rw [← ht] at hl
    have hel := (tabS_mem L gs t e he).2
    refine filter_one (c := picked e.2.length fun i => decide (e.2.getD i 0 < ((livAt L (t + 1)).getD 0 []).getD i 0)) (hp.nodup_iff.mpr (setsLe_nodup _ _)) fun g hg hm => ?_
    have hg2 := hp.mem_iff.mp hg
    have hg3 : g ∈ setsN L.parts.length := (List.mem_filter.mp hg2).1
    rw [← hel] at hg3
    have hm2 : plusL e.2 g ∈ livAt L (t + 1) := of_decide_eq_true hm
    refine plusL_det hg3 ?_
    match hq : livAt L (t + 1), hl, hm2 with
    | [], _, hm2 => cases hm2
    | [c], _, hm2 => exact List.mem_singleton.mp hm2
    | _ :: _ :: _, hl, _ => simp at hl
  rw [Nat.mul_one] at h
  exact h
theorem tabS_bound (L : LotD) (ok : L.ok) (gs : List (List Nat)) (hp : gs.Perm (lawSets L)) {t : Nat} (h : t ≤ L.circle) : (tabS L gs t).length ≤ 32768 := by
  have h6 := ok.2.2.2.2.2.2
  have h5 : ∀ j, j ≤ 5 → (tabS L gs j).length ≤ 32768 := fun j hj => Nat.le_trans (tabS_len L ok gs hp j) (Nat.le_trans (Nat.pow_le_pow_right (by decide) hj) (by decide))
  by_cases ht : t ≤ 5
  · exact h5 t ht
  · obtain rfl : t = 5 + 1 := by omega
    exact Nat.le_trans (tabS_end L ok gs hp 5 (by omega)) (h5 5 (Nat.le_refl 5))
end TS
/-! ## LL8 -/
namespace TS
open PySem PySem.Spec PyProof.Rows L2
/-- a tuple of tuples -/
def TR (rows : List (List Nat)) (v : V) (H : Hp) : Prop := ∃ t us, v = .ref t ∧ H t = some (.tup us) ∧ TIs rows us H
theorem TR.sx {rows : List (List Nat)} : SMono (TR rows) := fun v H H' e ⟨t, us, h1, h2, h3⟩ => ⟨t, us, h1, e _ _ h2 rfl, h3.sx e⟩
theorem TR.ex {rows : List (List Nat)} {v : V} {H H' : Hp} (h : TR rows v H) (e : Ex H H') : TR rows v H' := TR.sx _ _ _ e.sx h
def EN (e : Ent) (v : V) (H : Hp) : Prop := ∃ p r h, v = .ref p ∧ H p = some (.tup [r, h]) ∧ TR e.1 r H ∧ TI e.2 h H
theorem EN.sx {e : Ent} : SMono (EN e) := fun v H H' x ⟨p, r, h, h1, h2, h3, h4⟩ => ⟨p, r, h, h1, x _ _ h2 rfl, TR.sx _ _ _ x h3, TI.sx _ _ _ x h4⟩
theorem EN.sx' {e : Ent} {v : V} {H H' : Hp} (h : EN e v H) (x : Ex H H') : EN e v H' := EN.sx _ _ _ x.sx h
def ENs (es : List Ent) (vs : List V) (H : Hp) : Prop := All2 (fun e v => EN e v H) es vs
theorem ENs.sx {es : List Ent} {vs : List V} {H H' : Hp} (e : Sx H H') (h : ENs es vs H) : ENs es vs H' := h.imp fun a v z => EN.sx v H H' e z
theorem ENs.ex {es : List Ent} {vs : List V} {H H' : Hp} (h : ENs es vs H) (e : Ex H H') : ENs es vs H' := h.sx e.sx
theorem zeroN_nums (n : Nat) : nums (zeroN n) = List.replicate n (.int 0) := by
  unfold nums zeroN
  rw [List.map_map]
  exact List.map_const'.trans (by rw [List.length_range]; rfl)
theorem rep_flat (n : Nat) : (List.replicate n [V.int 0]).flatten = List.replicate n (V.int 0) := by
  induction n with
  | zero => rfl
  | succ n ih => rw [List.replicate_succ, List.flatten_cons, List.replicate_succ]; exact congrArg _ ih
section
variable {X : Cx} {σ : L2.St} {H : Hp} {a b d e : Expr} {pos : Pos} {x y v : V}
theorem ev_snocV {us : List V} {t : Addr} {j : Nat} {p2 : Pos} (ha : Ev X a σ H (is (.ref t))) (hx : H t = some (.tup us)) (hb : Ev X b σ H (is x)) (hl : us.length ≤ 50000) (hs : starEach [b] X.env = (false, eval b X.env) :: starEach [] X.env := by rfl) : Ev X (.BinOp a .Add (.Tuple [b] j p2) pos) σ H (fits fun v H' => ∃ p, v = .ref p ∧ H' p = some (.tup (us ++ [x]))) := fun H1 e1 Q q =>
  wE_of (pe_op op_catA pe_w pe_w) (ha H1 e1 _ fun x' H2 e2 rx => (ev_tup (pos := p2) (j := j) (ea_cons hb ea_nil hs) (by show 1 ≤ 100000; decide)) H2 (e1.trans e2) _ fun y' H3 e3 ⟨u, ey, _, ht⟩ => by
    cases rx
    subst ey
    have e13 := (e1.trans e2).trans e3
    refine ⟨t, u, us, [x], rfl, rfl, SqT.of (e13 _ _ hx), SqT.of ht, sz_of (by show us.length + 1 ≤ 100000; omega), fun hz => ?_, (fun _ hz => nomatch hz), fun _ _ r hr => q _ _ ((e2.trans e3).trans (Ex.new hr)) ⟨r, rfl, upd_same⟩⟩
    refine q _ H3 (e2.trans e3) ⟨u, rfl, ?_⟩
    have : us = [] := by
      cases us with
      | nil => rfl
      | cons _ _ => cases hz
    rw [this]
    exact ht)
theorem ev_rep0 {n : Nat} {j : Nat} {p0 p2 : Pos} (hb : Ev X b σ H (is (.int (n : Nat)))) (hn : n ≤ 1000) (hs : starEach [.Constant (.int 0) j p0] X.env = (false, eval (.Constant (.int 0) j p0) X.env) :: starEach [] X.env := by rfl) : Ev X (.BinOp (.List [.Constant (.int 0) j p0] p2) .Mult b pos) σ H (newL (List.replicate n (.int 0))) := fun H1 e1 Q q =>
  wE_of (pe_op op_rep pe_w pe_w) ((ev_lst (pos := p2) (ea_cons ev_int ea_nil hs) (by show 1 ≤ 100000; decide)) H1 e1 _ fun x' H2 e2 ⟨l, ex, hl, hh⟩ => hb H2 (e1.trans e2) _ fun y' H3 e3 ry => by
    subst ex
    cases ry
    refine ⟨l, (n : Nat), [.int 0], rfl, rfl, e3 _ _ hh, by omega, by omega, ?_, fun p hp => q _ _ ((e2.trans e3).trans (Ex.new hp)) ⟨p, rfl, (e2.trans e3).back hp, ?_⟩⟩
    · refine sz_of ?_
      show 1 * ((n : Nat) : Int).toNat ≤ 100000
      omega
    · rw [upd_same]
      have : (List.replicate ((n : Nat) : Int).toNat [V.int 0]).flatten = List.replicate n (V.int 0) := by
        rw [show ((n : Nat) : Int).toNat = n by omega]
        exact rep_flat n
      rw [this])
end
section
variable {P : Program} {w : World} {K : PySem.W.Frag} {mg : Str → Option Value} {base : Heap} {CL CS CP : Addr}
abbrev nTabs : List Str := ["_law_lot_here", "_law_most", "_law_living_here", "_law_sets_here", "_law_zero", "_law_found", "_law_t", "_law_later", "_law_rows", "_law_had", "_law_s"]
theorem sc_tables : FnScope nTabs ["_law_lot_here", "_law_most"] (defScope s_law_tables) := ⟨rfl, rfl, rfl, by decide +kernel, rfl, by decide +kernel, by decide +kernel⟩
def spTables : Sp := fun vs H Q _ => ∃ (x : V) (L : LotD) (ws : List Wk), vs = [x, .int 100000] ∧ IsOwn L ws x H ∧ L.ok ∧ L.tight ∧ ∀ a us gs H', Ex H H' → H a = none → H' a = some (.lst us) → gs.Perm (lawSets L) → All2 (fun (e : Ent) u => TR e.1 u H') (tabS L gs L.circle) us → Q (.ref a) H'
def TbInv (L : LotD) (H1 : Hp) (x0 x2 x3 x4 : V) (gs : List (List Nat)) (t : Nat) (σ' : L2.St) (H' : Hp) : Prop :=
  ∃ fa fs x6 x7 x8 x9 x10, σ' = [some x0, some (.int 100000), some x2, some x3, some x4, some (.ref fa), x6, x7, x8, x9, x10] ∧ H1 fa = none ∧ H' fa = some (.lst fs) ∧ ENs (tabS L gs t) fs H' ∧ Ex H1 H'
theorem tabs_pre {L : LotD} (ok : L.ok) {gs : List (List Nat)} (hp : gs.Perm (lawSets L)) {t j : Nat} (ht : t + 1 ≤ L.circle) (hj : j < (tabS L gs t).length) (m : Nat) :
    (((tabS L gs t).take j).flatMap (extE (livAt L (t + 1)) gs)).length + ((gs.take m).filter fun g => decide (plusL ((tabS L gs t).getD j ([], [])).2 g ∈ livAt L (t + 1))).length ≤ 32768 := by
  have hb := tabS_bound L ok gs hp ht
  have e : tabS L gs (t + 1) = (tabS L gs t).flatMap (extE (livAt L (t + 1)) gs) := rfl
  rw [e] at hb
  have e2 : (tabS L gs t).flatMap (extE (livAt L (t + 1)) gs) = ((tabS L gs t).take (j + 1)).flatMap (extE (livAt L (t + 1)) gs) ++ ((tabS L gs t).drop (j + 1)).flatMap (extE (livAt L (t + 1)) gs) := by
    rw [← List.flatMap_append, List.take_append_drop]
  rw [e2, take_succ_getD _ ([], []) hj, List.flatMap_append, List.flatMap_cons, List.flatMap_nil, List.append_nil, List.length_append, List.length_append] at hb
  have e3 : (extE (livAt L (t + 1)) gs ((tabS L gs t).getD j ([], []))).length = (gs.filter fun g => decide (plusL ((tabS L gs t).getD j ([], [])).2 g ∈ livAt L (t + 1))).length := by
    unfold extE
    rw [List.length_map]
  have e4 : ((gs.take m).filter fun g => decide (plusL ((tabS L gs t).getD j ([], [])).2 g ∈ livAt L (t + 1))).length ≤ (gs.filter fun g => decide (plusL ((tabS L gs t).getD j ([], [])).2 g ∈ livAt L (t + 1))).length :=
    ((List.take_sublist m gs).filter _).length_le
  omega
theorem cal_tables (T : Txt K mg CL CS CP) : C8.Cal P w K mg base 4 "_law_tables" spTables [] := by
  refine cal_mk T.d_law_tables sc_tables (fun vs H Q E h => ?_) fun f cdv A outer s H vs Q E hr h => ?_
  · obtain ⟨x, L, ws, rfl, _⟩ := h
    rfl
  · obtain ⟨x, L, ws, rfl, hx, ok, ti, k⟩ := h
    have hx0 := hx
    obtain ⟨hpw, lt, wl, us0, rfl, o1, o2, o3⟩ := hx
    have hp3 := ok.2.2.2.1
    have hc1 := ok.2.2.2.2.2.1
    have hc6 := ok.2.2.2.2.2.2
    have hul := o3.len
    have hwl : ws.length = L.parts.length := by rw [hpw, List.length_map]
    have hn : us0.length = L.parts.length := by omega
    refine ws_parG (T := fun H1 vs H2 => ∃ la ls sa ss gs, vs = [.ref la, .ref sa] ∧ H2 la = some (.lst ls) ∧ All2 (fun S u => LivD S u H2) (livF L) ls ∧ H2 sa = some (.lst ss) ∧ TIs gs ss H2 ∧ gs.Perm (lawSets L)) 2 3 rfl sc_tables.nd (EvG.imp (eg_cons (ev_call (R := fits fun v H2 => ∃ la ls, v = .ref la ∧ H2 la = some (.lst ls) ∧ All2 (fun S u => LivD S u H2) (livF L) ls) (cal_living (P := P) (w := w) (base := base) T) hr (by decide) (ea_cons (ev_name 0 rfl) ea_nil) fun H1 e1 Q q => ⟨_, L, ws, rfl, hx0.ex e1, ok, ti, fun a us H' e' _ h1 h2 => q _ H' e' ⟨a, us, rfl, h1, h2⟩⟩) fun H1 v H2 e1 e2 rv => eg_one (ev_call (R := newSets (lawSets L)) (cal_sets (P := P) (w := w) (base := base) T) hr (by decide) (ea_cons (ev_lenQ (ev_ixT (ev_name 0 rfl) (ev_int (i := 1)) (SqT.of ((e1.trans e2) _ _ o1)) rfl) (.inl (SqL.of ((e1.trans e2) _ _ o2))) T.n_len) (ea_cons (ev_ixT (ev_name 0 rfl) (ev_int (i := 0)) (SqT.of ((e1.trans e2) _ _ o1)) rfl) ea_nil)) fun H3 e3 Q q => ⟨us0.length, L.many, rfl, by omega, fun a us gs H' e' h0 h1 h2 h3 => q _ H' e' ⟨a, us, gs, rfl, h0, h1, h2, by unfold lawSets; rw [← hn]; exact h3⟩⟩)) fun H1 vs H2 e1 e2 tt => ?_) fun vs H1 e1 tt => ?_
    · obtain ⟨v, r, Hm, rfl, em, ⟨la, ls, rfl, h1, h2⟩, e3, v2, rfl, Hn, en, ⟨sa, ss, gs, rfl, hsn, h3, h4, h5⟩, rfl⟩ := tt
      exact ⟨la, ls, sa, ss, gs, rfl, en _ _ h1, h2.imp fun S u z => z.ex en, h3, h4, h5⟩
    · obtain ⟨la, ls, sa, ss, gs, rfl, h1, h2, h3, h4, h5⟩ := tt
      refine ⟨_, _, rfl, ?_⟩
      have gl := h4.len
      have gl8 : gs.length ≤ 8 := by rw [h5.length_eq]; exact lawSets_len L ok
      refine ws_set 4 sc_tables.nd (ev_tupleOf (P := fun ys _ => ys = nums (zeroN us0.length)) (Ev.imp (ev_rep0 (ev_lenQ (ev_ixT (ev_name 0 rfl) (ev_int (i := 1)) (SqT.of (e1 _ _ o1)) rfl) (.inl (SqL.of (e1 _ _ o2))) T.n_len) (by omega)) fun H2 v H3 e2 e3 ⟨p, q1, q2, q3⟩ => ⟨p, _, q1, q2, q3, (zeroN_nums _).symm⟩) (fun _ _ _ _ h => h) T.n_tuple) fun v H2 e2 rv => ?_
      obtain ⟨zt, zs, rfl, hzn, hzt, rfl⟩ := rv
      rw [hn] at hzt
      have hZ : TI (zeroN L.parts.length) (.ref zt) H2 := ⟨zt, rfl, hzt⟩
      obtain ⟨u0, hu0, pl0, kv0, rfl, k1, k2, k3, k4⟩ := h2.get (livAt_get L (Nat.zero_le _))
      refine ws_set 5 sc_tables.nd (R := newP fun xs H3 => ENs (tabS L gs 0) xs H3) (ev_if (et_dinM (room_u1 hr) (Ev.fits (ev_name 4 rfl) fun H' e => hZ.ex e) (ev_ixL (ev_name 2 rfl) (ev_int (i := 0)) (SqL.of (e2 _ _ h1)) (atI_of (i := 0) hu0)) (e2 _ _ k1)) (fun hk => Ev.imp (ev_lstG (eg_one (ev_tupG (eg_cons (ev_tup ea_nil (by show 0 ≤ 100000; decide)) fun H3 v H4 e3 e4 rv => EvA.g (ea_cons (ev_name 4 rfl) ea_nil)) (fun H3 vs H4 ⟨v, r, Hm, ev, _, _, _, er⟩ => by rw [ev, er]; show 2 ≤ 100000; decide))) (fun H1 vs H2 ⟨v, e, _⟩ => by rw [e]; show 1 ≤ 100000; decide)) fun H3 v H4 e3 e4 rv => ?A) (fun hk => Ev.imp (ev_lst ea_nil (by show 0 ≤ 100000; decide)) fun H3 v H4 e3 e4 rv => ?B)) fun v H3 e3 rv => ?C
      case A =>
        obtain ⟨vs, Hm, p, rfl, em, ⟨v, rfl, Hm2, em2, ⟨vs2, Hm3, p2, rfl, em3, ⟨v3, r, Hm4, rfl, em4, ⟨et, rfl, hetn, het⟩, em5, rfl⟩, hp2, hp2n, rfl⟩, rfl⟩, hpn, hpn0, rfl⟩ := rv
        refine ⟨p, _, rfl, hpn0, upd_same, ?_⟩
        have hm : zeroN L.parts.length ∈ livAt L 0 := by
          have := k4 (zeroN L.parts.length)
          rw [hk] at this
          exact of_decide_eq_true this.symm
        unfold tabS
        rw [if_pos hm]
        refine .cons ⟨p2, _, _, rfl, Ex.new hpn _ _ upd_same, ⟨et, [], rfl, ?_, .nil⟩, hZ.ex (e3.trans ((em3.trans (Ex.new hp2)).trans (Ex.new hpn)))⟩ .nil
        exact ((em5.trans (Ex.new hp2)).trans (Ex.new hpn)) _ _ het
      case B =>
        obtain ⟨p, rfl, hpn, hp⟩ := rv
        refine ⟨p, [], rfl, hpn, hp, ?_⟩
        have hm : ¬ zeroN L.parts.length ∈ livAt L 0 := by
          have := k4 (zeroN L.parts.length)
          rw [hk] at this
          exact of_decide_eq_false this.symm
        unfold tabS
        rw [if_neg hm]
        exact .nil
      obtain ⟨fa0, fs0, rfl, fan0, hfa0, hfs0⟩ := rv
      have E3 : Ex H H3 := e1.trans (e2.trans e3)
      have E13 : Ex H1 H3 := e2.trans e3
      refine ws_for (σ := _) PassesOwn.never rfl (src_rangeK (n := L.circle) (ea_cons (ev_call (R := is (.int (L.circle : Nat))) (cal_span (P := P) (w := w) (base := base) T) hr (by decide) (ea_cons (ev_name 0 rfl) ea_nil) fun H4 e4 Q q => ⟨_, L, ws, rfl, hx0.ex (E3.trans e4), ok, ti, fun H' e' => q _ H' e' rfl⟩) ea_nil) (by omega) T.n_range)
        (fun t σ' H' => TbInv L H1 (.ref lt) (.ref la) (.ref sa) (.ref zt) gs t σ' H') (fun H4 e4 _ => ⟨fa0, fs0, _, _, _, _, _, rfl, e2.back fan0, e4 _ _ hfa0, hfs0.ex e4, E13.trans e4⟩) (fun i σ' H' _ p => True.intro) (fun t x' σ' Ha Hb htl p yy => ?_) fun σ' H' p => ?_
      · obtain ⟨fa, fs, x6, x7, x8, x9, x10, rfl, fan, hfa, hfs, E⟩ := p
        obtain ⟨rfl, rfl⟩ := yy
        have hfl := hfs.len
        obtain ⟨u1, hu1, pl1, kv1, rfl, q1, q2, q3, q4⟩ := h2.get (livAt_get L (t := t + 1) (by omega))
        refine ⟨_, tgt_name 6 sc_tables.nd, ?_⟩
        refine ws_set 7 sc_tables.nd (ev_lst ea_nil (by show 0 ≤ 100000; decide)) fun v H4 e4 rv => ?_
        obtain ⟨lr, rfl, lrn, hlr⟩ := rv
        refine ws_for (σ := _) PassesOwn.never rfl (src_list (ev_name 5 rfl) (SqL.of (e4 _ _ hfa)))
          (fun j σ3 H5 => (∃ x8 x9 x10 rs, σ3 = [some (.ref lt), some (.int 100000), some (.ref la), some (.ref sa), some (.ref zt), some (.ref fa), some (.int (t : Nat)), some (.ref lr), x8, x9, x10] ∧ H5 lr = some (.lst rs) ∧ ENs (((tabS L gs t).take j).flatMap (extE (livAt L (t + 1)) gs)) rs H5) ∧ Ex Hb H5)
          (fun H5 e5 _ => ⟨⟨_, _, _, [], rfl, e5 _ _ hlr, .nil⟩, e4.trans e5⟩) (fun j σ3 H5 _ p => SqL.of (p.2 _ _ hfa)) (fun j xj σ3 Hc Hd hj p yj => ?_) fun σ3 H5 p => ?_
        · obtain ⟨⟨y8, y9, y10, rs, rfl, hrs, hrsE⟩, E5⟩ := p
          obtain ⟨rfl, hxj⟩ := yj
          have hjl : j < (tabS L gs t).length := by omega
          have hE := hfs.nth hxj ([], [])
          have tk := take_succ_getD (tabS L gs t) ([], []) hjl
          have hpre := tabs_pre ok h5 (show t + 1 ≤ L.circle by omega) hjl
          have hem : (tabS L gs t).getD j ([], []) ∈ tabS L gs t := by
            rw [List.getD_eq_getElem?_getD, List.getElem?_eq_getElem hjl]
            exact List.getElem_mem _
          obtain ⟨el1, el2⟩ := tabS_mem L gs t _ hem
          generalize hej : (tabS L gs t).getD j ([], []) = ej at hE tk hpre el1 el2
          obtain ⟨pe, pr, ph, rfl, z1, ⟨rt, rus, rfl, z2, z3⟩, z4⟩ := hE
          have rl := z3.len
          refine ⟨_, tgt_tup rfl (SqT.of (E5 _ _ z1)) rfl (tgs_cons (tgt_name 8 sc_tables.nd) (tgs_cons (tgt_name 9 sc_tables.nd) tgs_nil)), ?_⟩
          refine ws_for (σ := _) PassesOwn.never rfl (src_list (ev_name 3 rfl) (SqL.of ((E.trans E5) _ _ h3)))
            (fun m σ4 H6 => (∃ x10 rs, σ4 = [some (.ref lt), some (.int 100000), some (.ref la), some (.ref sa), some (.ref zt), some (.ref fa), some (.int (t : Nat)), some (.ref lr), some (.ref rt), some ph, x10] ∧ H6 lr = some (.lst rs) ∧ ENs (((tabS L gs t).take j).flatMap (extE (livAt L (t + 1)) gs) ++ ((gs.take m).filter fun g => decide (plusL ej.2 g ∈ livAt L (t + 1))).map fun g => (ej.1 ++ [g], plusL ej.2 g)) rs H6) ∧ Ex Hb H6)
            (fun H6 e6 _ => ⟨⟨_, rs, rfl, e6 _ _ hrs, by
              show ENs (_ ++ []) rs H6
              rw [List.append_nil]
              exact hrsE.ex e6⟩, E5.trans e6⟩) (fun m σ4 H6 _ p => SqL.of ((E.trans p.2) _ _ h3)) (fun m xm σ4 He Hf hm p ym => ?_) fun σ4 H6 p => ?_
          · obtain ⟨⟨y10, rs2, rfl, hrs2, hrsE2⟩, E6⟩ := p
            obtain ⟨rfl, hxm⟩ := ym
            have hml : m < gs.length := by omega
            have hTm := (h4.nth hxm [])
            have tkm := take_succ_getD gs [] hml
            generalize hgm : gs.getD m [] = gm at hTm tkm
            have hTm' := hTm.ex (E.trans E6)
            obtain ⟨am, rfl, ham⟩ := hTm'
            have z4' := z4.ex E6
            have hlen2 := hrsE2.len
            rw [List.length_append, List.length_map] at hlen2
            have hpm := hpre m
            refine ⟨_, tgt_name 10 sc_tables.nd, ?_⟩
            refine ws_if (EvW.et (ew_and (j := true) (et_dinM (ns := plusL ej.2 gm) (room_u1 hr) (ev_call (R := fits (TI (plusL ej.2 gm))) (cal_lplus (P := P) (w := w) (base := base) T) hr (by decide) (ea_cons (ev_name 9 rfl) (ea_cons (ev_name 10 rfl) ea_nil)) fun H7 e7 Q q => ⟨_, _, ej.2, gm, rfl, z4'.ex e7, ⟨am, rfl, e7 _ _ ham⟩, by omega, fun v H' e' hv => q v H' e' hv⟩) (ev_ixL (ev_name 2 rfl) (ev_add (ev_name 6 rfl) ev_int) (SqL.of ((E.trans E6) _ _ h1)) (atI_of (i := t + 1) hu1)) ((E.trans E6) _ _ q1)) fun _ => ew_and1 ((et_lt (ev_lenQ (ev_name 7 rfl) (.inl (SqL.of hrs2)) T.n_len) (ev_name 1 rfl)).is_ (decide_eq_true (by omega))))) (fun hk H7 e7 => ?_) fun hk H7 e7 => ?_
            · have hk' : decide (plusL ej.2 gm ∈ livAt L (t + 1)) = true := by
                rw [← q4, ← hk, Bool.and_true]
              refine ws_append (R := fits (EN (ej.1 ++ [gm], plusL ej.2 gm))) (e7 _ _ hrs2) (by omega) (ev_name 7 rfl) (Ev.imp (ev_tupG (eg_cons (ev_snocV (ev_name 8 rfl) ((E6.trans e7) _ _ z2) (ev_name 10 rfl) (by omega)) fun H8 v H9 e8 e9 rv => eg_one (ev_call (R := fits (TI (plusL ej.2 gm))) (cal_lplus (P := P) (w := w) (base := base) T) hr (by decide) (ea_cons (ev_name 9 rfl) (ea_cons (ev_name 10 rfl) ea_nil)) fun H10 e10 Q q => ⟨_, _, ej.2, gm, rfl, z4'.ex (e7.trans ((e8.trans e9).trans e10)), ⟨am, rfl, (e7.trans ((e8.trans e9).trans e10)) _ _ ham⟩, by omega, fun v H' e' hv => q v H' e' hv⟩)) (fun H8 vs H9 ⟨v, r, Hm, ev, _, _, _, v2, er, _⟩ => by rw [ev, er]; show 2 ≤ 100000; decide)) fun H8 v H9 e8 e9 rv => ?_) fun v H8 e8 rv => ?_
              · obtain ⟨vs, Hm, p, rfl, em, ⟨v1, r, Hm2, rfl, em2, ⟨p1, rfl, hp1⟩, em3, v2, rfl, Hm3, em4, hv2, rfl⟩, hpn, hpn0, rfl⟩ := rv
                refine ⟨p, _, _, rfl, upd_same, ⟨p1, _, rfl, (em3.trans (Ex.new hpn)) _ _ hp1, ?_⟩, TI.ex hv2 (Ex.new hpn)⟩
                have EE : Ex Hb (upd Hm3 p (.tup [.ref p1, v2])) := E6.trans (e7.trans (e8.trans (em.trans (Ex.new hpn))))
                exact All2.snoc (F := fun s v => TI s v _) ⟨am, rfl, (e7.trans (e8.trans (em.trans (Ex.new hpn)))) _ _ ham⟩ (z3.ex EE)
              · refine ws_nil (ws_nil ⟨⟨_, _, rfl, upd_same, ?_⟩, (E6.trans (e7.trans e8)).mut lrn⟩)
                have S8 : Sx H8 (upd H8 lr (.lst (rs2 ++ [v]))) := (Sx.refl H8).mutL (e8 _ _ (e7 _ _ hrs2))
                rw [tkm, List.filter_append, List.filter_cons, hk', List.map_append, ← List.append_assoc]
                exact All2.snoc (F := fun e v => EN e v _) (EN.sx _ _ _ S8 rv) ((hrsE2.ex (e7.trans e8)).sx S8)
            · have hk' : decide (plusL ej.2 gm ∈ livAt L (t + 1)) = false := by
                rw [← q4, ← hk, Bool.and_true]
              refine ws_nil (ws_nil ⟨⟨_, _, rfl, e7 _ _ hrs2, ?_⟩, E6.trans e7⟩)
              rw [tkm, List.filter_append, List.filter_cons, hk']
              have := hrsE2.ex e7
              simpa using this
          · obtain ⟨⟨y10, rs2, rfl, hrs2, hrsE2⟩, E6⟩ := p
            refine ws_nil ⟨⟨_, _, _, rs2, rfl, hrs2, ?_⟩, E6⟩
            rw [← gl, List.take_length] at hrsE2
            rw [tk, List.flatMap_append, List.flatMap_cons, List.flatMap_nil, List.append_nil]
            exact hrsE2
        · obtain ⟨⟨y8, y9, y10, rs, rfl, hrs, hrsE⟩, E5⟩ := p
          rw [← hfl, List.take_length] at hrsE
          refine ws_set 5 sc_tables.nd (ev_name 7 rfl) fun v H6 e6 rv => ?_
          cases rv
          exact ws_nil ⟨lr, rs, _, _, _, _, _, rfl, E.back lrn, e6 _ _ hrs, hrsE.ex e6, E.trans (E5.trans e6)⟩
      · obtain ⟨fa, fs, x6, x7, x8, x9, x10, rfl, fan, hfa, hfs, E⟩ := p
        have hfl := hfs.len
        have hb := tabS_bound L ok gs h5 (Nat.le_refl L.circle)
        refine ws_ret (ev_comp (n := fs.length) (P := fun m v H' => TR ((tabS L gs L.circle).getD m ([], [])).1 v H') (own := [("_law_rows", 8), ("_law_had", 9)]) rfl sc_tables.nd (blkOk_by (own := [("_law_rows", 8), ("_law_had", 9)]) (N := nTabs) (sc := defScope s_law_tables) (by decide +kernel)) (src_list (ev_name 5 rfl) (SqL.of hfa)) (by omega) hG_l (fun m => TR.sx) hY_at (fun m xm Hc Hd hm ec _ yc => ?_)) fun v H2 e2 rv => ?_
        · obtain ⟨rfl, hxm⟩ := yc
          obtain ⟨pe, pr, ph, rfl, z1, z2, z3⟩ := (hfs.nth hxm ([], [])).sx' ec
          exact ⟨_, fun s H0 C cl fp => tgt_tup rfl (SqT.of z1) rfl (tgs_cons (tgt_name 8 sc_tables.nd) (tgs_cons (tgt_name 9 sc_tables.nd) tgs_nil)), rfl, rfl, fun _ s H0 C cl fp => Ev.fits (ev_name 8 rfl) fun _ e => z2.ex e⟩
        · obtain ⟨pp, xs, rfl, y1, y2, y3⟩ := rv
          rw [picked_all, ← hfl] at y3
          have := All2.maps (F := fun (e : Ent) u => TR e.1 u H2) (f := fun m => (tabS L gs L.circle).getD m ([], [])) y3
          rw [range_getD] at this
          exact k pp xs gs H2 (e1.trans (E.trans e2)) ((e1.trans E).back y1) y2 h5 this
end
end TS
/-! ## LL9 -/
namespace TS
open PySem PySem.Spec PyProof.Rows L2
def prevAt (gs : List (List Nat)) (t : Nat) : List Nat := if t = 0 then gs.getD (gs.length - 1) [] else gs.getD (t - 1) []
def startsL (gs : List (List Nat)) : Nat := ((List.range gs.length).map fun t => (newIn (prevAt gs t) (gs.getD t [])).length).sum
theorem ofNat_sum : ∀ ns : List Nat, ((ns.map fun (n : Nat) => (n : Int)).sum : Int) = ((ns.sum : Nat) : Int)
  | [] => rfl
  | n :: ns => by
    rw [List.map_cons, List.sum_cons, List.sum_cons, ofNat_sum ns]
    omega
section
variable {X : Cx} {σ : L2.St} {H : Hp} {e : Expr} {pos : Pos}
theorem ev_sumP {ns : List Nat} {pn : Pos} (hc : X.calm = true) (ha : Ev X e σ H (newL (nums ns))) (hm : X.mg "sum" = none) (hg : Gl X "sum" := by rfl) (hs : starEach [e] X.env = (false, eval e X.env) :: starEach [] X.env := by rfl) :
    Ev X (.Call (.Name "sum" pn) [e] [] pos) σ H (is (.int (ns.sum : Nat))) :=
  ev_callBG (R := is (.int (ns.sum : Nat))) (cr_sum hc) hm (by decide +kernel) (eg_one ha hs) (fun H1 vs H2 e1 e2 t Q q => by
    obtain ⟨v, rfl, Hm, em, ⟨p, rfl, hp, hl⟩, rfl⟩ := t
    refine ⟨p, ns.map fun (n : Nat) => (n : Int), rfl, ?_, ?_⟩
    · rw [List.map_map]
      exact SqL.of hl
    · rw [ofNat_sum]
      exact q _ _ (Ex.refl _) rfl) hg (by decide) (by decide) hs rfl
end
section
variable {P : Program} {w : World} {K : PySem.W.Frag} {mg : Str → Option Value} {base : Heap} {CL CS CP : Addr}
abbrev nSt : List Str := ["_law_rows", "_law_t", "_law_k"]
theorem sc_lstarts : FnScope nSt ["_law_rows"] (defScope s_law_starts) := ⟨rfl, rfl, rfl, by decide +kernel, rfl, by decide +kernel, by decide +kernel⟩
def spLStarts : Sp := fun vs H Q _ => ∃ (x : V) (gs : List (List Nat)), vs = [x] ∧ TR gs x H ∧ gs.length ≤ 1000 ∧ (∀ g ∈ gs, g.length ≤ 1000) ∧ ∀ H', Ex H H' → Q (.int (startsL gs : Nat)) H'
theorem ok_lstarts2 : BlkOk nSt ⟨.function, [(".0", .local), ("_law_t", .cell), ("len", .globalImplicit), ("_law_rows", .cell)], false, false, []⟩ ⟨.function, [(".0", .local), ("_law_k", .local), ("_law_rows", .free), ("_law_t", .free)], false, false, []⟩ [("_law_k", 2)] := blkOk_by (by decide +kernel)
theorem cal_lstarts (T : Txt K mg CL CS CP) : C8.Cal P w K mg base 1 "_law_starts" spLStarts [] := by
  refine cal_mk T.d_law_starts sc_lstarts (fun vs H Q E h => ?_) fun f cdv A outer s H vs Q E hr h => ?_
  · obtain ⟨x, gs, rfl, _⟩ := h
    rfl
  · obtain ⟨x, gs, rfl, hx, hl, hg, k⟩ := h
    obtain ⟨t, us, rfl, h1, h2⟩ := hx
    have hul := h2.len
    refine ws_ret (ev_sumP (ns := (List.range gs.length).map fun t => (newIn (prevAt gs t) (gs.getD t [])).length) rfl (Ev.imp (ev_comp (n := us.length) (P := fun i v _ => v = .int ((newIn (prevAt gs i) (gs.getD i [])).length : Nat)) (own := [("_law_t", 1)]) rfl sc_lstarts.nd (blkOk_by (own := [("_law_t", 1)]) (N := nSt) (sc := defScope s_law_starts) (by decide +kernel)) (src_rangeK (ea_cons (ev_lenQ (ev_name 0 rfl) (.inr (SqT.of h1)) T.n_len) ea_nil) (by omega) T.n_range) (by omega) hG_true (fun i => isP_sx (v := fun i => .int ((newIn (prevAt gs i) (gs.getD i [])).length : Nat)) i) hY_fn (fun i x Ha Hb hi ea gg y => ?_)) fun H1 v H2 e1 e2 r => ?_) T.n_sum) fun v H2 e2 rv => ?_
    · obtain ⟨rfl, rfl⟩ := y
      have hil : i < gs.length := by omega
      obtain ⟨ui, hui, ai, rfl, hai⟩ := h2.get (List.getElem?_eq_getElem hil)
      have egi : gs.getD i [] = gs[i] := by rw [List.getD_eq_getElem?_getD, List.getElem?_eq_getElem hil]; rfl
      have hgi := hg _ (List.getElem_mem hil)
      have hprev : ∃ u, atI us ((i : Int) - 1) = some u ∧ TI (prevAt gs i) u H := by
        unfold prevAt
        by_cases hz : i = 0
        · subst hz
          rw [if_pos rfl]
          have hl1 : gs.length - 1 < gs.length := by omega
          obtain ⟨u, hu, hT⟩ := h2.get (List.getElem?_eq_getElem hl1)
          refine ⟨u, ?_, ?_⟩
          · rw [show ((0 : Nat) : Int) - 1 = -1 by omega]
            unfold atI ixN
            rw [if_neg (by omega), if_pos (by omega), ← hul]
            show us[((gs.length : Nat) + (-1) : Int).toNat]? = _
            rw [show ((gs.length : Nat) + (-1) : Int).toNat = gs.length - 1 by omega]
            exact hu
          · rw [List.getD_eq_getElem?_getD, List.getElem?_eq_getElem hl1]
            exact hT
        · rw [if_neg hz]
          have hl1 : i - 1 < gs.length := by omega
          obtain ⟨u, hu, hT⟩ := h2.get (List.getElem?_eq_getElem hl1)
          refine ⟨u, ?_, ?_⟩
          · rw [show (i : Int) - 1 = ((i - 1 : Nat) : Int) by omega]
            exact atI_of hu
          · rw [List.getD_eq_getElem?_getD, List.getElem?_eq_getElem hl1]
            exact hT
      obtain ⟨up, hup, hTp⟩ := hprev
      refine ⟨_, fun s H0 C cl fp => tgt_name 1 sc_lstarts.nd, rfl, rfl, fun _ s H0 C cl fp => Ev.imp (ev_lenP (n := (newIn (prevAt gs i) (gs.getD i [])).length) (P := fun xs _ => xs.length = (newIn (prevAt gs i) (gs.getD i [])).length) (Ev.imp (ev_compIf (n := (nums gs[i]).length) (P := fun j v _ => v = .int ((gs[i]).getD j 0 : Nat)) (f := fun j => !decide ((gs[i]).getD j 0 ∈ prevAt gs i)) (own := [("_law_k", 2)]) rfl sc_lstarts.nd ok_lstarts2 (src_tup (ev_ixT (ev_name 0 rfl) (ev_name 1 rfl) (SqT.of (ea _ _ h1)) (atI_of hui)) (SqT.of (ea _ _ hai))) (by rw [nums_len]; omega) hG_t (fun j => isP_sx (v := fun j => .int ((gs[i]).getD j 0 : Nat)) j) hY_at (fun j xj He Hf hj ee _ yj => ?_)) fun H5 v H6 e5 e6 rv => ?_) (fun xs H h => h) T.n_len) fun H5 v H6 e5 e6 rv => rv⟩
      · obtain ⟨rfl, hxj⟩ := yj
        have hxj' : xj = .int ((gs[i]).getD j 0 : Nat) := by
          unfold nums at hxj
          rw [List.getElem?_map] at hxj
          cases hq : (gs[i])[j]? with
          | none => rw [hq] at hxj; cases hxj
          | some z =>
            rw [hq] at hxj
            rw [List.getD_eq_getElem?_getD, hq]
            exact (Option.some.inj hxj).symm
        subst hxj'
        refine ⟨_, fun s H0 C cl fp => tgt_name 2 sc_lstarts.nd, rfl, fun s H0 C cl fp => et_notInTI (ev_name 2 rfl) (ev_ixT (ev_name 0 rfl) (ev_sub (ev_name 1 rfl) ev_int) (SqT.of ((ea.trans ee) _ _ h1)) hup) (hTp.ex (ea.trans ee)), fun _ s H0 C cl fp => Ev.fits (ev_name 2 rfl) fun _ _ => rfl⟩
      · obtain ⟨pp, xs, rfl, y1, y2, y3⟩ := rv
        refine ⟨pp, xs, rfl, y1, y2, ?_⟩
        show xs.length = _
        rw [← y3.len, egi]
        unfold newIn
        rw [nums_len, ← List.length_map (f := fun j => (gs[i]).getD j 0), picked_getD (gs[i]) 0 fun k => !decide (k ∈ prevAt gs i)]
    · have q := newC_all (g := fun i => .int ((newIn (prevAt gs i) (gs.getD i [])).length : Nat)) r
      rw [← hul] at q
      unfold nums
      rw [List.map_map]
      exact q
    · cases rv
      exact k H2 e2
end
end TS
/-! ## LL10 -/
namespace TS
open PySem PySem.Spec PyProof.Rows L2
/-- a list of three whole numbers, whichever -/
def jarO (a : Addr) : HO := .ext fun h => ∃ (i j k : Int) (its : List Value) (n : Nat), Vals [.int i, .int j, .int k] its ∧ h.get? a = some { cls := .type "list", data := .seq its.toArray n }
/-- told by what it holds, or by what is true of it -/
def loose : HO → Bool
  | .lst _ => true
  | .ext _ => true
  | _ => false
section
variable {X : Cx} {pins : List (Addr × Obj)} {σ : L2.St} {H H' : Hp} {s : Shared}
theorem inv_view {a : Addr} {o o' : HO} (I : Inv X pins σ H s) (ha : H a = some o) (hl : loose o = true) (hl' : loose o' = true) (h : ObjOk X.prog X.w (upd H a o') s.heap a o') : Inv X pins σ (upd H a o') s := by
  have ntup : ∀ {b : Addr} {u : HO}, H b = some u → loose u = false → b ≠ a := fun hb hu e => by
    subst e
    rw [ha] at hb
    cases hb
    rw [hl] at hu
    cases hu
  have nn : ∀ {b : Addr}, H b = none → b ≠ a := fun hb e => by
    subst e
    rw [ha] at hb
    cases hb
  have ud : ∀ {b : Addr}, H b = none → upd H a o' b = none := fun hb => by
    rw [upd_ne (nn hb)]
    exact hb
  have uk : ∀ {b : Addr} {u : HO}, H b = some u → loose u = false → upd H a o' b = some u := fun hb hu => by
    rw [upd_ne (ntup hb hu)]
    exact hb
  refine ⟨I.ok, I.os, I.bare, ⟨I.base.keep, I.base.slot, fun b ob h1 h2 h3 => ud (I.base.free b ob h1 h2 h3), I.base.there, fun b xs h1 => uk (I.base.tups b xs h1) rfl, fun b ob u h1 => uk (I.base.frzs b ob u h1) rfl, fun b ps h1 => ?_⟩, I.loc, I.cell, ud I.free, fun x c h1 => ud (I.freeC x c h1), fun p hp => ?_, fun b u hb => ?_, I.len⟩
  · obtain ⟨more, hm⟩ := I.base.tbls b ps h1
    exact ⟨more, uk hm rfl⟩
  · obtain ⟨h1, h2, h3, h4, h5⟩ := I.pin p hp
    exact ⟨h1, ud h2, h3, h4, h5⟩
  · by_cases e : b = a
    · subst e
      rw [upd_same] at hb
      cases hb
      exact h
    · rw [upd_ne e] at hb
      exact (I.hok b u hb).stay (fun c v _ q => q) (fun c q => uk q rfl) fun c xs q => uk q rfl
theorem jar_open {a : Addr} (I : Inv X pins σ H s) (ha : H a = some (jarO a)) : ∃ i j k : Int, Inv X pins σ (upd H a (.lst [.int i, .int j, .int k])) s := by
  obtain ⟨⟨i, j, k, its, n, r, e⟩, _, _⟩ := (show ObjOk X.prog X.w H s.heap a (jarO a) from I.hok a _ ha)
  exact ⟨i, j, k, inv_view I ha rfl rfl ⟨by show 3 ≤ sizeLine; decide, its, n, r, e⟩⟩
theorem jar_shut {a : Addr} {i j k : Int} (I : Inv X pins σ H s) (ha : H a = some (.lst [.int i, .int j, .int k])) : Inv X pins σ (upd H a (jarO a)) s := by
  obtain ⟨_, its, n, r, e⟩ := (show ObjOk X.prog X.w H s.heap a (.lst [.int i, .int j, .int k]) from I.hok a _ ha)
  exact inv_view I ha rfl rfl ⟨⟨i, j, k, its, n, r, e⟩, ⟨_, e⟩, fun h1 h2 ⟨i, j, k, its, n, r, e⟩ q => ⟨i, j, k, its, n, r, q _ e⟩⟩
/-- a heap with the jar at a shut -/
def Shut (a : Addr) (H H' : Hp) : Prop := ∃ i j k : Int, H a = some (.lst [.int i, .int j, .int k]) ∧ H' = upd H a (jarO a)
theorem ws_openJ {sts : List Stmt} {D : Ends} {a : Addr} (ha : H a = some (jarO a)) (h : ∀ i j k : Int, wS X sts { nx := fun σ' H' => ∃ H2, Shut a H' H2 ∧ D.nx σ' H2, rt := fun v H' => ∃ H2, Shut a H' H2 ∧ D.rt v H2 } σ (upd H a (.lst [.int i, .int j, .int k]))) : wS X sts D σ H := fun pins s I => by
  obtain ⟨i, j, k, I2⟩ := jar_open I ha
  refine thn (h i j k pins s I2) fun f s' q => ?_
  cases f with
  | next =>
    obtain ⟨σ', H', I3, H2, ⟨i, j, k, h1, rfl⟩, q⟩ := q
    exact ⟨σ', _, jar_shut I3 h1, q⟩
  | brk => obtain ⟨_, _, _, q⟩ := q; exact q.elim
  | cont => obtain ⟨_, _, _, q⟩ := q; exact q.elim
  | ret u =>
    obtain ⟨v, σ', H', I3, r, H2, ⟨i, j, k, h1, rfl⟩, q⟩ := q
    exact ⟨v, σ', _, jar_shut I3 h1, r, q⟩
/-- the jar that is made is shut -/
theorem ws_shutJ {sts : List Stmt} {D : Ends} (h : wS X sts { nx := D.nx, rt := fun v H' => ∃ a H2, Shut a H' H2 ∧ D.rt v H2 } σ H) : wS X sts D σ H := fun pins s I => by
  refine thn (h pins s I) fun f s' q => ?_
  cases f with
  | next => exact q
  | brk => obtain ⟨_, _, _, q⟩ := q; exact q.elim
  | cont => obtain ⟨_, _, _, q⟩ := q; exact q.elim
  | ret u =>
    obtain ⟨v, σ', H', I3, r, a, H2, ⟨i, j, k, h1, rfl⟩, q⟩ := q
    exact ⟨v, σ', _, jar_shut I3 h1, r, q⟩
end
section
variable {X : Cx} {σ : L2.St} {H : Hp} {a b o e : Expr} {pos : Pos} {D : Ends} {rest : List Stmt} {v : V}
theorem ws_lset {l : Addr} {xs : List V} {i : Int} {j : Nat} {p2 : Pos} (he : Ev X e σ H (is v)) (ho : Ev X o σ H (is (.ref l))) (hi : Ev X b σ H (is (.int i))) (hl : H l = some (.lst xs)) (hj : ixN xs.length i = some j) (k : ∀ H1, Ex H H1 → wS X rest D σ (upd H1 l (.lst (xs.set j v))))
    (h : ∀ {to ti : TE} {te : TE}, PE X e te → PE X o to → PE X b ti → PS X (.Assign [.Subscript o b p2] e pos) (tAsg te (gSub to ti rSetL)) := by exact fun h1 h2 h3 => ps_asg h1 (pg_sub h2 h3 set_list)) : wS X (.Assign [.Subscript o b p2] e pos :: rest) D σ H :=
  ws_cons (h pe_w pe_w pe_w) (he H (Ex.refl _) _ fun x H1 e1 rx => ho H1 e1 _ fun y H2 e2 ry => hi H2 (e1.trans e2) _ fun z H3 e3 rz => by
    cases rx; cases ry; cases rz
    exact ⟨l, xs, i, j, rfl, rfl, ((e1.trans e2).trans e3) _ _ hl, hj, k H3 ((e1.trans e2).trans e3)⟩)
end
end TS
/-! ## LL11 -/
namespace TS
open PySem PySem.Spec PyProof.Rows L2
section
variable {X : Cx} {σ : L2.St} {H : Hp} {a b o e t1 t2 tg : Expr} {pos : Pos} {D : Ends} {rest : List Stmt} {v x y : V} {R : RT} {Q : L2.St → Hp → Prop}
theorem ws_asgG (he : Ev X e σ H R) (k : ∀ v H1, Ex H H1 → R H v H1 → wG X tg v σ H1 (wS X rest D)) (hs : swapsWithSole [tg] e pos.line X.env = pure false := by rfl) (hw : swappedStores [tg] e X.env = pure none := by rfl)
    (h1 : (assignEach [tg] X.env).map (·.2) = [assign tg X.env] := by rfl) : wS X (.Assign [tg] e pos :: rest) D σ H :=
  ws_cons (ps_asg pe_w pg_w hs hw h1) (he H (Ex.refl _) _ fun x H1 e1 rx => k x H1 e1 rx)
theorem wG_pair {q : Addr} {m : Nat} (hc : X.calm = true) (hq : H q = some (.tup [x, y])) (h : wG X t1 x σ H fun σ1 H1 => wG X t2 y σ1 H1 Q) (hn : (assignEach [t1, t2] X.env).length = 2 := by rfl) (hst : (assignEach [t1, t2] X.env).findIdx? (·.1) = none := by rfl)
    (hs : (assignEach [t1, t2] X.env).map (·.2) = assign t1 X.env :: (assignEach [t2] X.env).map (·.2) := by rfl) (hs2 : (assignEach [t2] X.env).map (·.2) = assign t2 X.env :: (assignEach [] X.env).map (·.2) := by rfl) : wG X (.Tuple [t1, t2] m pos) (.ref q) σ H Q :=
  fun pins s u I r => (pg_tup hc (pgs_cons pg_w (pgs_cons pg_w pgs_nil hs2) hs) hn hst).run pins s σ H _ u Q I r ⟨q, [x, y], rfl, SqT.of hq, rfl, x, [y], rfl, fun pins s u I r => thn (h pins s u I r) fun _ s' ⟨σ1, H1, I1, k⟩ => ⟨σ1, H1, I1, y, [], rfl, fun pins s u I r => thn (k pins s u I r) fun _ s' ⟨σ2, H2, I2, k2⟩ => ⟨σ2, H2, I2, rfl, k2⟩⟩⟩
theorem wG_lset {l : Addr} {xs : List V} {i : Int} {j : Nat} (ho : Ev X o σ H (is (.ref l))) (hi : Ev X b σ H (is (.int i))) (hl : H l = some (.lst xs)) (hj : ixN xs.length i = some j) (k : ∀ H1, Ex H H1 → Q σ (upd H1 l (.lst (xs.set j v))))
    (h : ∀ {to ti : TE}, PE X o to → PE X b ti → PG X (.Subscript o b pos) (gSub to ti rSetL) := by exact fun h2 h3 => pg_sub h2 h3 set_list) : wG X (.Subscript o b pos) v σ H Q := fun pins s u I r =>
  (h pe_w pe_w).run pins s σ H v u Q I r (ho H (Ex.refl _) _ fun y H2 e2 ry => hi H2 e2 _ fun z H3 e3 rz => by
    cases ry; cases rz
    exact ⟨l, xs, i, j, rfl, rfl, (e2.trans e3) _ _ hl, hj, k H3 (e2.trans e3)⟩)
theorem ev_to4 {l : Addr} {xs : List V} {j : Nat} {p1 p2 : Pos} (ha : Ev X a σ H (is (.ref l))) (hl : SqL X.K H l xs) : Ev X (.Subscript a (.Slice none (some (.Constant (.int 4) j p1)) none p2) pos) σ H (newL (xs.take 4)) := fun H1 e1 Q q =>
  wE_of (pe_slice sl_list pe_w po_none (po_some pe_int)) (ha H1 e1 _ fun v H2 e2 rv => by
    cases rv
    refine ⟨4, rfl, l, xs, rfl, ex_l (e1.trans e2) hl, fun p hp => q _ _ (e2.trans (Ex.new hp)) ⟨p, rfl, e2.back hp, ?_⟩⟩
    rw [upd_same]
    have e : cutV xs none (some 4) = xs.take 4 := by
      unfold cutV
      rw [HT.sIx_none]
      have : HT.sIx xs.length xs.length (some 4) = min 4 xs.length := HT.sIx_nat xs.length xs.length 4
      rw [this, List.drop_zero, Nat.sub_zero, Nat.min_comm, ← List.take_take, List.take_of_length_le (by rw [List.length_take]; omega)]
    rw [e])
end
section
variable {P : Program} {w : World} {K : PySem.W.Frag} {mg : Str → Option Value} {base : Heap} {CL CS CP : Addr}
abbrev nCell : List Str := ["_law_cells", "_law_spot", "_law_mixed", "_law_number"]
theorem sc_cell : FnScope nCell ["_law_cells", "_law_spot"] (defScope s_law_cell) := ⟨rfl, rfl, rfl, by decide +kernel, rfl, by decide +kernel, by decide +kernel⟩
def spLCell (K : PySem.W.Frag) : Sp := fun vs H Q _ => ∃ (a : Addr) (ns : List Int) (j : Nat), vs = [.ref a, .int j] ∧ SqL K H a (ns.map V.int) ∧ j ≤ 1000 ∧ ns.length ≤ 1000 ∧ ∀ i H', Ex H H' → Q (.int i) H'
theorem cal_cell (T : Txt K mg CL CS CP) : C8.Cal P w K mg base 1 "_law_cell" (spLCell K) [] := by
  refine cal_mk T.d_law_cell sc_cell (fun vs H Q E h => ?_) fun f cdv A outer s H vs Q E hr h => ?_
  · obtain ⟨a, ns, j, rfl, _⟩ := h
    rfl
  · obtain ⟨a, ns, j, rfl, hs, hj, hn, k⟩ := h
    refine ws_if (et_lt (ev_name 1 rfl) (ev_lenQ (ev_name 0 rfl) (.inl hs) T.n_len)) (fun hk H1 e1 => ?_) fun hk H1 e1 => ?_
    · have hlt : j < ns.length := by
        have := of_decide_eq_true hk
        rw [List.length_map] at this
        omega
      refine ws_ret (ev_intI (i := ns[j]) (ev_ixL (ev_name 0 rfl) (ev_name 1 rfl) (ex_l e1 hs) (atI_of (by rw [List.getElem?_map, List.getElem?_eq_getElem hlt]; rfl))) T.n_int) fun v H2 e2 rv => ?_
      cases rv
      exact k _ H2 (e1.trans e2)
    · refine ws_nil (ws_set 2 sc_cell.nd (ev_add (ev_mul (.inl ⟨by decide, by decide⟩) ev_int (ev_name 1 rfl)) ev_int) fun v H2 e2 rv => ?_)
      cases rv
      refine ws_forL (σ := _) PassesOwn.never rfl (ev_to4 (ev_name 0 rfl) (ex_l (e1.trans e2) hs)) (fun v H3 e3 rv => ?_) (pi_list pe_w)
      obtain ⟨p, rfl, hpn, hp⟩ := rv
      refine ⟨p, (ns.map V.int).take 4, fun i σ' H' => (∃ m : Int, ∃ x3, σ' = [some (.ref a), some (.int (j : Nat)), some (.int m), x3]) ∧ H' p = some (.lst ((ns.map V.int).take 4)) ∧ Ex H H', rfl, SqL.of hp, ⟨⟨_, _, rfl⟩, hp, (e1.trans e2).trans e3⟩, fun i σ' H' _ q => SqL.of q.2.1, fun i x σ' H' hi ⟨⟨m, x3, hσ⟩, hp', ex⟩ hx => ?_, fun σ' H' ⟨⟨m, x3, hσ⟩, hp', ex⟩ => ?_⟩
      · subst hσ
        have hxi : ∃ n, x = .int n := by
          have := List.mem_of_getElem? hx
          obtain ⟨n, _, rfl⟩ := List.mem_map.mp (List.mem_of_mem_take this)
          exact ⟨n, rfl⟩
        obtain ⟨n, rfl⟩ := hxi
        refine ⟨_, tgt_name 3 sc_cell.nd, ?_⟩
        refine ws_set 2 sc_cell.nd (ev_mod (by decide) (ev_intI (ev_add (ev_add (ev_mul (.inr ⟨by decide, by decide⟩) (ev_name 2 rfl) ev_int) (ev_name 3 rfl)) ev_int) T.n_int) ev_int) fun v H4 e4 rv => ?_
        cases rv
        exact ws_nil ⟨⟨_, _, rfl⟩, e4 _ _ hp', ex.trans e4⟩
      · subst hσ
        refine ws_ret (ev_name 2 rfl) fun v H4 e4 rv => ?_
        cases rv
        exact k _ H4 (ex.trans e4)
abbrev nJar : List Str := ["_law_cells", "_law_spot", "_law_cell_here"]
theorem sc_jar : FnScope nJar ["_law_cells", "_law_spot"] (defScope s_law_jar) := ⟨rfl, rfl, rfl, by decide +kernel, rfl, by decide +kernel, by decide +kernel⟩
def spJar (K : PySem.W.Frag) : Sp := fun vs H Q _ => ∃ (a : Addr) (ns : List Int) (j : Nat), vs = [.ref a, .int j] ∧ SqL K H a (ns.map V.int) ∧ j ≤ 1000 ∧ ns.length ≤ 1000 ∧ ∀ p H', Ex H H' → H p = none → H' p = some (jarO p) → Q (.ref p) H'
theorem cal_jar (T : Txt K mg CL CS CP) : C8.Cal P w K mg base 2 "_law_jar" (spJar K) [] := by
  refine cal_mk T.d_law_jar sc_jar (fun vs H Q E h => ?_) fun f cdv A outer s H vs Q E hr h => ?_
  · obtain ⟨a, ns, j, rfl, _⟩ := h
    rfl
  · obtain ⟨a, ns, j, rfl, hs, hj, hn, k⟩ := h
    refine ws_shutJ ?_
    refine ws_set 2 sc_jar.nd (R := fits fun v _ => ∃ i : Nat, v = .int (i : Nat)) (ev_callBG (R := fits fun v _ => ∃ i : Nat, v = .int (i : Nat)) call_abs T.n_abs (by decide +kernel) (eg_one (ev_call (R := fits fun v _ => ∃ i, v = .int i) (cal_cell (P := P) (w := w) (base := base) T) hr (by decide) (ea_cons (ev_name 0 rfl) (ea_cons (ev_name 1 rfl) ea_nil)) fun H2 e2 Q q => ⟨a, ns, j, rfl, ex_l e2 hs, hj, hn, fun i H' e' => q _ H' e' ⟨i, rfl⟩⟩)) (fun H1 vs H2 e1 e2 tt Q q => ?_)) fun v H1 e1 rv => ?_
    · obtain ⟨v, rfl, Hm, em, ⟨i, rfl⟩, rfl⟩ := tt
      refine ⟨i, rfl, ?_⟩
      have e : (if i < 0 then -i else i) = ((i.natAbs : Nat) : Int) := by split <;> omega
      rw [e]
      exact q _ _ (Ex.refl _) ⟨_, rfl⟩
    obtain ⟨i, rfl⟩ := rv
    refine ws_ret (ev_lst (ea_cons (ev_name 2 rfl) (ea_cons (ev_mod (by decide) (ev_intI (ev_add (ev_name 2 rfl) (ev_mul (.inl ⟨by decide, by decide⟩) ev_int (ev_name 1 rfl))) T.n_int) ev_int) (ea_cons ev_int ea_nil))) (by show 3 ≤ 100000; decide)) fun v H2 e2 rv => ?_
    obtain ⟨p, rfl, hpn, hp⟩ := rv
    have hn0 : H p = none := e1.back hpn
    exact ⟨p, _, ⟨_, _, _, hp, rfl⟩, k p _ ((e1.trans e2).mut hn0) hn0 upd_same⟩
abbrev nDig : List Str := ["_law_jar_here", "_law_many", "_law_mixed", "_law_digit"]
theorem sc_dig : FnScope nDig ["_law_jar_here", "_law_many"] (defScope s_law_dig) := ⟨rfl, rfl, rfl, by decide +kernel, rfl, by decide +kernel, by decide +kernel⟩
def spDig : Sp := fun vs H Q _ => ∃ (a : Addr) (n : Nat), vs = [.ref a, .int n] ∧ H a = some (jarO a) ∧ 1 ≤ n ∧ n ≤ 1000 ∧ ∀ (d : Nat) H', Ex H H' → d < n → Q (.int d) H'
theorem cal_dig (T : Txt K mg CL CS CP) : C8.Cal P w K mg base 1 "_law_dig" spDig [] := by
  refine cal_mk T.d_law_dig sc_dig (fun vs H Q E h => ?_) fun f cdv A outer s H vs Q E hr h => ?_
  · obtain ⟨a, n, rfl, _⟩ := h
    rfl
  · obtain ⟨a, n, rfl, ha, h1, h2, k⟩ := h
    refine ws_openJ ha fun i j l => ?_
    refine ws_lset (v := .int (l + 1)) (xs := [.int i, .int j, .int l]) (i := 2) (j := 2) (ev_add (ev_ixL (ev_name 0 rfl) (ev_int (i := 2)) (SqL.of upd_same) rfl) ev_int) (ev_name 0 rfl) ev_int upd_same rfl fun H1 e1 => ?_
    refine ws_set 2 sc_dig.nd (ev_intI (i := j) (ev_ixL (ev_name 0 rfl) (ev_int (i := 1)) (SqL.of upd_same) rfl) T.n_int) fun v H2 e2 rv => ?_
    cases rv
    have a2 : H2 a = some (.lst [.int i, .int j, .int (l + 1)]) := e2 _ _ upd_same
    have hm : ∀ z : Int, -(2 ^ 64) < z % 29989 + 40013 ∧ z % 29989 + 40013 < 2 ^ 64 := fun z => by omega
    refine ws_lset (xs := [.int i, .int j, .int (l + 1)]) (i := 1) (j := 1) (ev_mod (by decide) (ev_intI (ev_add (ev_add (ev_mul (.inr (hm j)) (ev_name 2 rfl) (ev_add (ev_mod (by decide) (ev_intI (ev_name 2 rfl) T.n_int) ev_int) ev_int)) (ev_mul (.inr ⟨by decide, by decide⟩) (ev_ixL (ev_name 0 rfl) (ev_int (i := 2)) (SqL.of a2) rfl) ev_int)) ev_int) T.n_int) ev_int) (ev_name 0 rfl) ev_int a2 rfl fun H3 e3 => ?_
    generalize hj2 : (j * (j % 29989 + 40013) + (l + 1) * 65521 + 7) % 2147483587 = j2
    have a3 : (upd H3 a (.lst [.int i, .int j2, .int (l + 1)])) a = some (.lst [.int i, .int j2, .int (l + 1)]) := upd_same
    have EX : ∀ {H' : Hp}, Ex (upd H3 a (.lst [.int i, .int j2, .int (l + 1)])) H' → Ex H (upd H' a (jarO a)) := fun {H'} ee => by
      intro b ob hb
      by_cases e : b = a
      · subst e
        rw [ha] at hb
        cases hb
        exact upd_same
      · rw [upd_ne e]
        refine ee _ _ ?_
        rw [upd_ne e]
        refine e3 _ _ (e2 _ _ ?_)
        rw [upd_ne e]
        refine e1 _ _ ?_
        rw [upd_ne e]
        exact hb
    refine ws_if (et_gt (ev_ixL (ev_name 0 rfl) (ev_int (i := 0)) (SqL.of a3) rfl) ev_int) (fun hk H4 e4 => ?_) fun hk H4 e4 => ?_
    · have hi0 : 0 < i := of_decide_eq_true hk
      have a4 := e4 _ _ a3
      refine ws_asgG (R := newT [.int (i / (n : Nat)), .int (i % (n : Nat))]) (ev_callB call_divmod T.n_divmod (by decide +kernel) (ea_cons (ev_ixL (ev_name 0 rfl) (ev_int (i := 0)) (SqL.of a4) rfl) (ea_cons (ev_name 1 rfl) ea_nil)) fun H5 e5 Q q => ⟨i, (n : Nat), rfl, ⟨by omega, by omega⟩, fun p hp => q _ _ (Ex.new hp) ⟨p, rfl, hp, upd_same⟩⟩) fun v H5 e5 rv => ?_
      obtain ⟨p, rfl, hpn, hp⟩ := rv
      have a5 := e5 _ _ a4
      refine wG_pair rfl hp (wG_lset (ev_name 0 rfl) (ev_int (i := 0)) a5 rfl fun H6 e6 => ?_)
      refine (tgt_name (x := .int (i % (n : Nat))) (H := upd H6 a (.lst ([V.int i, .int j2, .int (l + 1)].set 0 (.int (i / (n : Nat)))))) 3 sc_dig.nd) _ (Ex.refl _) _ ?_
      refine ws_ret (ev_name 3 rfl) fun v H7 e7 rv => ?_
      cases rv
      have hn0 : (0 : Int) < (n : Nat) := by omega
      have hm1 := Int.emod_nonneg i (by omega : ((n : Nat) : Int) ≠ 0)
      have hm2 := Int.emod_lt_of_pos i hn0
      have ed : i % (n : Nat) = (((i % (n : Nat)).toNat : Nat) : Int) := by omega
      refine ⟨_, ⟨_, _, _, e7 _ _ upd_same, rfl⟩, ?_⟩
      show Q (.int (i % (n : Nat))) _
      rw [ed]
      refine k _ _ ?_ (by omega)
      intro b ob hb
      by_cases e : b = a
      · subst e
        rw [ha] at hb
        cases hb
        exact upd_same
      · rw [upd_ne e]
        refine e7 _ _ ?_
        rw [upd_ne e]
        refine e6 _ _ (e5 _ _ ?_)
        have := EX e4 b ob hb
        rw [upd_ne e] at this
        exact this
    · refine ws_nil (ws_ret (ev_mod (by omega) (ev_intI (ev_fdiv ⟨by decide, by decide⟩ (ev_ixL (ev_name 0 rfl) (ev_int (i := 1)) (SqL.of (e4 _ _ a3)) rfl) ev_int) T.n_int) (ev_name 1 rfl)) fun v H5 e5 rv => ?_)
      cases rv
      have hn0 : (0 : Int) < (n : Nat) := by omega
      have hm1 := Int.emod_nonneg (j2 / 128) (by omega : ((n : Nat) : Int) ≠ 0)
      have hm2 := Int.emod_lt_of_pos (j2 / 128) hn0
      have ed : j2 / 128 % (n : Nat) = (((j2 / 128 % (n : Nat)).toNat : Nat) : Int) := by omega
      refine ⟨_, ⟨_, _, _, (e4.trans e5) _ _ a3, rfl⟩, ?_⟩
      show Q (.int (j2 / 128 % (n : Nat))) _
      rw [ed]
      exact k _ _ (EX (e4.trans e5)) (by omega)
end
end TS
/-! ## LL12 -/
namespace TS
open PySem PySem.Spec PyProof.Rows L2
/-! ### comprehensions of a count not known ahead -/
section
variable {X : Cx} {σ : L2.St} {H : Hp} {a b e c : Expr} {es : List Expr} {pos : Pos} {D : Ends} {rest : List Stmt} {v x y : V} {R : RT}
def SrcV (X : Cx) (tg iter : Expr) (σ : L2.St) (H : Hp) (B : Nat → Prop) (Y : Nat → Hp → V → Hp → Prop) : Prop :=
  ∀ H1, Ex H H1 → ∀ R : It → Hp → Prop, (∀ n J H2, B n → Ex H1 H2 → Walk J n (fun _ => True) Y → R J H2) → wI X tg iter σ H1 R
theorem src_rangeV {tg : Expr} {p : Pos} {B : Nat → Prop} (h : Ev X a σ H (fits fun v _ => ∃ n : Nat, B n ∧ v = .int (n : Nat))) (hB : ∀ n, B n → n ≤ 90000) (hm : X.mg "range" = none) (hs1 : starEach (a :: []) X.env = (false, eval a X.env) :: starEach [] X.env := by rfl) (hf : X.mg "range" = none → PI X tg (.Call (.Name "range" p) [a] [] pos) (iRng1 (wA X [a])) := by exact fun hm => pi_range1 rfl hm pa_w) :
    SrcV X tg (.Call (.Name "range" p) [a] [] pos) σ H B (YFn fun i => .int (i : Nat)) := fun H1 e1 R k =>
  wI_of (hf hm) ((eg_one h hs1) H1 e1 _ fun vs H2 e2 ⟨v, hv, Hm, em, ⟨n, hb, hn⟩, hh⟩ => by
    subst hv hn hh
    have := hB n hb
    refine ⟨(n : Nat), rfl, by omega, by omega, ?_⟩
    have w := k n (Itr 0 ((n : Nat) : Int).toNat) Hm hb e2
    rw [show ((n : Nat) : Int).toNat = n by omega] at w ⊢
    exact w (walk_range.mono (fun _ h => h) fun i H x H' _ _ y => ⟨y.1, by rw [y.2]; show V.int (0 + (i : Int)) = V.int (i : Int); rw [Int.zero_add]⟩))
theorem comp_coreV {tg iter elt : Expr} {scope : Scope} {vs : List Nat} {B : Nat → Prop} {Y : Nat → Hp → V → Hp → Prop} (hs : SrcV X tg iter σ H B Y) (hB : ∀ n, B n → n ≤ 90000) (P : Nat → V → Hp → Prop) (hP : ∀ i, SMono (P i))
    (hY : ∀ i H x H', Y i H x H' → Ex H H')
    (turn : ∀ n i x Ha Hb, B n → i < n → Ex H Ha → Y i Ha x Hb → CTurn X scope tg elt none vs σ x Hb true (P i)) :
    EvTE (tLc (wI X tg iter) (gBlk X scope tg) (tTst X scope none) (eBlk X scope elt) vs) σ H (fun H1 v H2 => ∃ n, B n ∧ newC n (fun _ => true) P H1 v H2) := fun H1 e1 Q q => hs H1 e1 _ fun n J H2 hb e2 w Dl hD => by
  have hn := hB n hb
  refine lc_it w (fun i H' => Ex H2 H' ∧ ∃ acc, H' Dl = some (.lst acc) ∧ All2 (fun i v => P i v H') (picked i fun _ => true) acc) ⟨Ex.new hD, [], upd_same, .nil⟩ (fun i H' _ p => True.intro) (fun i x Ha Hb hi p y => ?_) fun H' p => ?_
  · obtain ⟨pe, acc, pd, pa⟩ := p
    have eb := hY i Ha x Hb y
    obtain ⟨σ2, tG, tw, tT, tE⟩ := turn n i x Ha Hb hb hi ((e1.trans e2).trans pe) y
    intro s H0 C cl fp
    refine tG s H0 C cl fp Hb (Ex.refl _) _ ⟨tw, ?_⟩
    simp only [tTst, tYes, if_true]
    intro s H0 C cl fp
    refine tE rfl s H0 C cl fp Hb (Ex.refl _) _ fun v H4 e4 pv => ?_
    have d4 : H4 Dl = some (.lst acc) := e4 _ _ (eb _ _ pd)
    have x4 : Sx H4 (upd H4 Dl (.lst (acc ++ [v]))) := (Sx.refl H4).mutL d4
    refine ⟨acc, d4, ?_, ((pe.trans eb).trans e4).mut hD, acc ++ [v], upd_same, ?_⟩
    · have h1 := pa.len
      have h2 := picked_len i fun _ => true
      exact sz_lt (by omega)
    · rw [picked_succ, if_pos rfl]
      exact All2.snoc (F := fun j u => P j u (upd H4 Dl (HO.lst (acc ++ [v])))) (hP i v _ _ x4 pv) (pa.imp fun j u z => hP j u _ _ ((eb.trans e4).sx.trans x4) z)
  · obtain ⟨pe, acc, pd, pa⟩ := p
    exact q _ _ (e2.trans pe) ⟨n, hb, Dl, acc, rfl, e2.back hD, pd, pa⟩
theorem ws_setCV {tg iter elt : Expr} {scope : Scope} {B : Nat → Prop} {Y : Nat → Hp → V → Hp → Prop} {y : Str} {py p2 : Pos} (i : Nat) (own : List (Str × Nat)) (hc : X.calm = true) (hN : X.N.Nodup) (ok : BlkOk X.N X.env.scope scope own) (hs : SrcV X tg iter σ H B Y) (hB : ∀ n, B n → n ≤ 90000) (P : Nat → V → Hp → Prop) (hP : ∀ i, SMono (P i))
    (hY : ∀ i H x H', Y i H x H' → Ex H H') (turn : ∀ n i x Ha Hb, B n → i < n → Ex H Ha → Y i Ha x Hb → CTurn X scope tg elt none (own.map (·.2)) σ x Hb true (P i)) (k : ∀ n v H1, B n → Ex H H1 → newC n (fun _ => true) P H v H1 → wS X rest D (σ.set i (some v)) H1)
    (hsw : swapsWith (.ListComp elt [⟨tg, iter, [], 0⟩] scope p2) (some (.Name y py)) pos.line X.env = pure true) (hy : X.N[i]? = some y := by rfl) (hyl : X.env.scope.names.lookup y = some .local := by rfl) (hfs : ∀ x, foldedSetIterable iter X.env x = pure x := by intro _; rfl) :
    wS X (.Assign [.Name y py] (.ListComp elt [⟨tg, iter, [], 0⟩] scope p2) pos :: rest) D σ H :=
  ws_cons (ps_setLc (own := own) hc hN hy hyl hsw pi_w ok (fun s H C cl fp => ⟨fun pins s' σ H' v u Q I r h => h s H C cl fp pins s' u I r⟩) (pts_w (tst := none)) (fun s H C cl fp => ⟨fun pins s' σ H' Q I h => h s H C cl fp pins s' I⟩) hfs)
    (comp_coreV hs hB P hP hY turn H (Ex.refl _) _ fun v H1 e1 ⟨n, hb, r1⟩ => k n v H1 hb e1 r1)
/-! ### values not known ahead -/
theorem ev_opF {op : Operator} {r : R2} {F G J : V → Hp → Prop} (ho : OpR X (binaryOp op) r) (ha : Ev X a σ H (fits F)) (hb : Ev X b σ H (fits G)) (hF : ∀ v H H', Ex H H' → F v H → F v H') (hr : ∀ x y H', Ex H H' → F x H' → G y H' → ∀ Q : VK, (∀ v H2, Ex H' H2 → J v H2 → Q v H2) → r x y H' Q) : Ev X (.BinOp a op b pos) σ H (fits J) := fun H1 e1 Q q =>
  wE_of (pe_op ho pe_w pe_w) (ha H1 e1 _ fun x H2 e2 fx => hb H2 (e1.trans e2) _ fun y H3 e3 gy => hr x y H3 ((e1.trans e2).trans e3) (hF _ _ _ e3 fx) gy Q fun v H4 e4 j => q v H4 ((e2.trans e3).trans e4) j)
theorem ev_eqF {F : V → Hp → Prop} {j : Int} (hF : ∀ v H, F v H → ∃ i, v = .int i) (ha : Ev X a σ H (fits F)) (hb : Ev X b σ H (is (.int j))) (hm : behindInMarks .Eq b = false := by first | exact nobehind _ (by decide) (by decide) | rfl) : Ev X (.Compare a [.Eq] [b] pos) σ H (fits fun v _ => ∃ k, v = .bl k) := fun H1 e1 Q q =>
  wE_of (pe_cmpR op_eq pe_w pe_w hm) (ha H1 e1 _ fun x' H2 e2 fx => hb H2 (e1.trans e2) _ fun y' H3 e3 ry => by
    cases ry
    obtain ⟨i, rfl⟩ := hF _ _ fx
    exact ⟨rfl, q _ H3 (e2.trans e3) ⟨_, rfl⟩⟩)
theorem ev_ixF {p : Addr} {xs : List V} {F : V → Hp → Prop} (ha : Ev X a σ H (is (.ref p))) (hl : H p = some (.lst xs)) (hb : Ev X b σ H (fits F)) (hF : ∀ v H, F v H → ∃ i : Nat, i < xs.length ∧ v = .int (i : Nat)) (hs : PlainIx b := by exact fun _ _ => rfl) : Ev X (.Subscript a b pos) σ H (fits fun v _ => v ∈ xs) := fun H1 e1 Q q =>
  wE_of (pe_ix ix_list pe_w pe_w hs) (ha H1 e1 _ fun x' H2 e2 rx => hb H2 (e1.trans e2) _ fun y' H3 e3 fy => by
    cases rx
    obtain ⟨i, hi, rfl⟩ := hF _ _ fy
    exact ⟨p, xs, (i : Nat), xs[i], rfl, rfl, SqL.of (((e1.trans e2).trans e3) _ _ hl), atI_of (List.getElem?_eq_getElem hi), q _ H3 (e2.trans e3) (List.getElem_mem hi)⟩)
/-- pairs of constants -/
theorem ev_pairC {i j : Int} {p : Nat × Nat} {k k1 k2 : Nat} {p1 p2 : Pos} (hi : i = (p.1 : Nat) := by rfl) (hj : j = (p.2 : Nat) := by rfl) (hs : starEach [.Constant (.int i) k1 p1, .Constant (.int j) k2 p2] X.env = (false, eval (.Constant (.int i) k1 p1) X.env) :: starEach [.Constant (.int j) k2 p2] X.env := by rfl) (hs2 : starEach [.Constant (.int j) k2 p2] X.env = (false, eval (.Constant (.int j) k2 p2) X.env) :: starEach [] X.env := by rfl) :
    Ev X (.Tuple [.Constant (.int i) k1 p1, .Constant (.int j) k2 p2] k pos) σ H (fits (T2 p)) :=
  Ev.imp (ev_tup (ea_cons ev_int (ea_cons ev_int ea_nil hs2) hs) (by show 2 ≤ 100000; decide)) fun H1 v H2 e1 e2 ⟨q, h1, h2, h3⟩ => ⟨q, h1, by rw [h3, hi, hj]⟩
def T2s (ps : List (Nat × Nat)) : Hp → List V → Hp → Prop := fun _ vs H2 => All2 (fun p v => T2 p v H2) ps vs
theorem eg_nilT : EvG X [] σ H (T2s []) := fun H1 e1 Q q => ea_nil H1 e1 _ fun H2 e2 => q [] H2 e2 .nil
theorem eg_consT {p : Nat × Nat} {ps : List (Nat × Nat)} (h : Ev X e σ H (fits (T2 p))) (hr : EvG X es σ H (T2s ps)) (hs : starEach (e :: es) X.env = (false, eval e X.env) :: starEach es X.env := by rfl) : EvG X (e :: es) σ H (T2s (p :: ps)) := fun H1 e1 Q q =>
  wA_of (pa_cons pe_w pa_w hs) (h H1 e1 _ fun v H2 e2 rv => hr H2 (e1.trans e2) _ fun vs H3 e3 t => q _ H3 (e2.trans e3) (.cons (T2.sx _ _ _ e3.sx rv) t))
end
end TS
/-! ## LL13 -/
namespace TS
open PySem PySem.Spec PyProof.Rows L2
def menuN : List (Nat × Nat) := [(1, 1), (1, 2), (1, 3), (2, 3), (1, 6), (5, 6), (1, 2)]
def headsS : List Str := ["a", "ab", "abc"]
def chK (k : Nat) : Str := ⟨#[("xyz" : Str).cps.toList.getD k 0]⟩
def wkAt (k : Nat) : List Wk := headsS.flatMap fun h => menuN.map fun p => (h ++ chK k, p)
def okWs (ws : List Wk) : Prop := 1 ≤ ws.length ∧ ws.length ≤ 3 ∧ ∀ k w, ws[k]? = some w → w ∈ wkAt k
def lotOf (m : Nat) (ws : List Wk) : LotD := { many := m, parts := ws.map (·.2), circle := (ws.map (·.2.2)).foldl Nat.lcm 1 }
theorem wkAt_share {k : Nat} {w : Wk} (h : w ∈ wkAt k) : w.2 ∈ menuN := by
  obtain ⟨h0, _, h1⟩ := List.mem_flatMap.mp h
  obtain ⟨p, hp, rfl⟩ := List.mem_map.mp h1
  exact hp
theorem menu_facts : ∀ p ∈ menuN, 1 ≤ p.1 ∧ p.1 ≤ p.2 ∧ p.2 ≤ 6 ∧ p.2 ∣ 6 ∧ 1 ≤ 6 * p.1 / p.2 ∧ 6 * p.1 / p.2 ≤ 6 := by decide
theorem t2s_len {H1 H2 : Hp} {vs : List V} (t : T2s menuN H1 vs H2) : vs.length ≤ 100000 := by
  have h : menuN.length = vs.length := All2.len t
  have h2 : menuN.length = 7 := rfl
  omega
theorem all2_pick {α β γ : Type} {R : α → γ → Prop} {F : γ → β → Prop} : ∀ {as : List α} {xs : List β}, All2 (fun a v => ∃ w, R a w ∧ F w v) as xs → ∃ ws, All2 F ws xs ∧ All2 R as ws
  | _, _, .nil => ⟨[], .nil, .nil⟩
  | _, _, .cons ⟨w, r, f⟩ t => let ⟨ws, h1, h2⟩ := all2_pick t; ⟨w :: ws, .cons f h1, .cons r h2⟩
/-! ### displays of constants, told behind a wall (else the elaborator runs them) -/
section
variable {X : Cx} {σ : L2.St} {H : Hp} {e : Expr} {es : List Expr} {pos : Pos} {D : Ends} {rest sts : List Stmt}
structure WS (X : Cx) (sts : List Stmt) (D : Ends) (σ : L2.St) (H : Hp) : Prop where
  run : wS X sts D σ H
structure EGT (X : Cx) (es : List Expr) (σ : L2.St) (H : Hp) (ps : List (Nat × Nat)) : Prop where
  run : EvG X es σ H (T2s ps)
structure EFT (X : Cx) (e : Expr) (σ : L2.St) (H : Hp) (p : Nat × Nat) : Prop where
  run : Ev X e σ H (fits (T2 p))
structure EAS (X : Cx) (es : List Expr) (σ : L2.St) (H : Hp) (vs : List V) : Prop where
  run : EvA X es σ H vs
theorem ws_by {b : List Stmt} (h : b = sts) (w : WS X sts D σ H) : wS X b D σ H := by
  rw [h]
  exact w.run
theorem egt_nil : EGT X [] σ H [] := ⟨eg_nilT⟩
theorem egt_cons {p : Nat × Nat} {ps : List (Nat × Nat)} (h : EFT X e σ H p) (hr : EGT X es σ H ps) (hs : starEach (e :: es) X.env = (false, eval e X.env) :: starEach es X.env := by rfl) : EGT X (e :: es) σ H (p :: ps) := ⟨eg_consT h.run hr.run hs⟩
theorem eft_pair {i j : Int} {p : Nat × Nat} {k k1 k2 : Nat} {p1 p2 : Pos} (hi : i = (p.1 : Nat) := by rfl) (hj : j = (p.2 : Nat) := by rfl) (hs : starEach [.Constant (.int i) k1 p1, .Constant (.int j) k2 p2] X.env = (false, eval (.Constant (.int i) k1 p1) X.env) :: starEach [.Constant (.int j) k2 p2] X.env := by rfl) (hs2 : starEach [.Constant (.int j) k2 p2] X.env = (false, eval (.Constant (.int j) k2 p2) X.env) :: starEach [] X.env := by rfl) :
    EFT X (.Tuple [.Constant (.int i) k1 p1, .Constant (.int j) k2 p2] k pos) σ H p := ⟨ev_pairC hi hj hs hs2⟩
theorem eas_nil : EAS X [] σ H [] := ⟨ea_nil⟩
theorem eas_str {z : Str} {k : Nat} {p : Pos} {vs : List V} (hr : EAS X es σ H vs) (hs : starEach (.Constant (.str z) k p :: es) X.env = (false, eval (.Constant (.str z) k p) X.env) :: starEach es X.env := by rfl) : EAS X (.Constant (.str z) k p :: es) σ H (.str z :: vs) := ⟨ea_cons ev_str hr.run hs⟩
theorem ws_setT2 {ps : List (Nat × Nat)} (i : Nat) {n : Str} {p p2 : Pos} (hN : X.N.Nodup) (he : EGT X es σ H ps) (hl : ps.length ≤ 100000) (k : ∀ ml ms H1, Ex H H1 → H ml = none → H1 ml = some (.lst ms) → All2 (fun p v => T2 p v H1) ps ms → WS X rest D (σ.set i (some (.ref ml))) H1) (hi : X.N[i]? = some n := by rfl) (hx : Loc X.env.scope n := by first | exact Or.inl rfl | exact Or.inr rfl)
    (hs : swapsWith (.List es p2) (some (.Name n p)) pos.line X.env = pure false := by rfl) (hf : X.fn n = true ∨ X.env.scope.names.lookup n = some .local := by first | exact .inl rfl | exact .inr rfl) : WS X (.Assign [.Name n p] (.List es p2) pos :: rest) D σ H :=
  ⟨ws_set i hN (ev_lstG he.run (fun H1 vs H2 t => by
    have h : ps.length = vs.length := All2.len t
    omega)) (fun v H1 e1 rv => by
    obtain ⟨ms, Hm, ml, rfl, em, hms, hmn, hmn0, rfl⟩ := rv
    exact (k ml ms _ (em.trans (Ex.new hmn)) hmn0 upd_same (hms.imp fun p v z => z.ex (Ex.new hmn))).run) hi hx hs hf⟩
theorem ws_setAS {vs : List V} (i : Nat) {n : Str} {p p2 : Pos} (hN : X.N.Nodup) (he : EAS X es σ H vs) (hl : vs.length ≤ 100000) (k : ∀ ml H1, Ex H H1 → H ml = none → H1 ml = some (.lst vs) → WS X rest D (σ.set i (some (.ref ml))) H1) (hi : X.N[i]? = some n := by rfl) (hx : Loc X.env.scope n := by first | exact Or.inl rfl | exact Or.inr rfl)
    (hs : swapsWith (.List es p2) (some (.Name n p)) pos.line X.env = pure false := by rfl) (hf : X.fn n = true ∨ X.env.scope.names.lookup n = some .local := by first | exact .inl rfl | exact .inr rfl) : WS X (.Assign [.Name n p] (.List es p2) pos :: rest) D σ H :=
  ⟨ws_set i hN (ev_lst he.run hl) (fun v H1 e1 rv => by
    obtain ⟨ml, rfl, h1, h2⟩ := rv
    exact (k ml H1 e1 h1 h2).run) hi hx hs hf⟩
end
section
variable {P : Program} {w : World} {K : PySem.W.Frag} {mg : Str → Option Value} {base : Heap} {CL CS CP : Addr}
theorem cal_mkW {x : Str} {st : Stmt} {N ps : List Str} {k : Nat} {sp : Sp} (F : DefN K mg x st ps) (S : FnScope N ps (defScope st)) (len : ∀ vs H Q E, sp vs H Q E → vs.length = ps.length)
    (hbody : ∀ (f : Addr) (cdv : Value) (A : Around) (outer : List Env) (s : Shared) (H : Hp) (vs : List V) (Q : VK) (E : XK), Room k (A.deeper (envOfC x (defScope st) s.heap.objs.size f cdv)) → sp vs H Q E →
      WS (cxD P w K mg base N x st f cdv A outer s H E) (defBody st) { nx := fun _ H' => Q .non H', rt := Q } (start N vs) H) : C8.Cal P w K mg base (k + 1) x sp [] :=
  cal_mk F S len fun f cdv A outer s H vs Q E hr h => (hbody f cdv A outer s H vs Q E hr h).run
theorem sc_take : FnScope ["_law_jar_here", "_law_some"] ["_law_jar_here", "_law_some"] (defScope s_law_take) := ⟨rfl, rfl, rfl, by decide +kernel, rfl, by decide +kernel, by decide +kernel⟩
def spTake : Sp := fun vs H Q _ => ∃ (a l : Addr) (xs : List V), vs = [.ref a, .ref l] ∧ H a = some (jarO a) ∧ H l = some (.lst xs) ∧ 1 ≤ xs.length ∧ xs.length ≤ 1000 ∧ ∀ x H', Ex H H' → x ∈ xs → Q x H'
theorem cal_take (T : Txt K mg CL CS CP) : C8.Cal P w K mg base 2 "_law_take" spTake [] := by
  refine cal_mk T.d_law_take sc_take (fun vs H Q E h => ?_) fun f cdv A outer s H vs Q E hr h => ?_
  · obtain ⟨a, l, xs, rfl, _⟩ := h
    rfl
  · obtain ⟨a, l, xs, rfl, ha, hl, h1, h2, k⟩ := h
    refine ws_ret (ev_ixF (F := fun v _ => ∃ d : Nat, d < xs.length ∧ v = .int (d : Nat)) (ev_name 1 rfl) hl (ev_call (R := fits fun v _ => ∃ d : Nat, d < xs.length ∧ v = .int (d : Nat)) (cal_dig (P := P) (w := w) (base := base) T) hr (by decide) (ea_cons (ev_name 0 rfl) (ea_cons (ev_lenQ (ev_name 1 rfl) (.inl (SqL.of hl)) T.n_len) ea_nil)) fun H1 e1 Q q => ⟨a, xs.length, rfl, e1 _ _ ha, h1, h2, fun d H' e' hd => q _ H' e' ⟨d, hd, rfl⟩⟩) fun v _ h => h) fun v H2 e2 rv => ?_
    exact k v H2 e2 rv
abbrev nSmall : List Str := ["_law_jar_here", "_law_menu", "_law_heads", "_law_works", "_law_needed", "_law_k", "_law_tag", "_law_e", "_law_p"]
theorem sc_small : FnScope nSmall ["_law_jar_here"] (defScope s_law_small) := ⟨rfl, rfl, rfl, by decide +kernel, rfl, by decide +kernel, by decide +kernel⟩
def spSmall : Sp := fun vs H Q _ => ∃ (a : Addr), vs = [.ref a] ∧ H a = some (jarO a) ∧ ∀ (m : Nat) ws v H', Ex H H' → okWs ws → 1 ≤ m → m ≤ 3 → IsOwn (lotOf m ws) ws v H' → Q v H'
theorem cal_small (T : Txt K mg CL CS CP) : C8.Cal P w K mg base 3 "_law_small" spSmall [] := by
  refine cal_mkW T.d_law_small sc_small (fun vs H Q E h => ?_) fun f cdv A outer s H vs Q E hr h => ?_
  · obtain ⟨a, rfl, _⟩ := h
    rfl
  · obtain ⟨a, rfl, ha, k⟩ := h
    refine ws_setT2 (ps := menuN) 1 sc_small.nd (egt_cons eft_pair (egt_cons eft_pair (egt_cons eft_pair (egt_cons eft_pair (egt_cons eft_pair (egt_cons eft_pair (egt_cons eft_pair egt_nil))))))) (by show 7 ≤ 100000; decide) fun ml ms Hm em hmn0 hmlm hms => ?_
    have hmsl : ms.length = 7 := hms.len.symm
    refine ws_setAS 2 sc_small.nd (eas_str (eas_str (eas_str eas_nil))) (by show 3 ≤ 100000; decide) fun hl H2 e2 hln hhl => ?_
    have hml2 : H2 ml = some (.lst ms) := e2 _ _ hmlm
    have hms2 : All2 (fun p v => T2 p v H2) menuN ms := hms.imp fun p v z => z.ex e2
    have E2 : Ex H H2 := em.trans e2
    refine ⟨?_⟩
    refine ws_setCV (B := fun n => 1 ≤ n ∧ n ≤ 3) 3 (P := fun i v H' => ∃ w, w ∈ wkAt i ∧ WK w v H') (own := [("_law_k", 5)]) rfl sc_small.nd (blkOk_by (own := [("_law_k", 5)]) (N := nSmall) (sc := defScope s_law_small) (by decide +kernel)) (src_rangeV (ev_opF (F := fun v _ => v = .int 1) (G := fun v _ => ∃ d : Nat, d < 3 ∧ v = .int (d : Nat)) op_add (Ev.fits ev_int fun _ _ => rfl) (ev_call (R := fits fun v _ => ∃ d : Nat, d < 3 ∧ v = .int (d : Nat)) (cal_dig (P := P) (w := w) (base := base) T) hr (by decide) (ea_cons (ev_name 0 rfl) (ea_cons ev_int ea_nil)) fun H3 e3 Q q => ⟨a, 3, rfl, (E2.trans e3) _ _ ha, by decide, by decide, fun d H' e' hd => q _ H' e' ⟨d, hd, rfl⟩⟩) (fun _ _ _ _ h => h) fun x y H' e' fx ⟨d, hd, hy⟩ Q q => ⟨1, (d : Nat), fx, hy, q _ H' (Ex.refl _) ⟨1 + d, ⟨by omega, by omega⟩, by simp⟩⟩) (fun n hn => by omega) T.n_range) (fun n hn => by omega) (fun i v H1 H2 e ⟨w, h1, h2⟩ => ⟨w, h1, WK.sx _ _ _ e h2⟩) hY_fn (fun n i x Ha Hb hb hi ee yy => ?_) (fun n v H3 hb e3 r => ?_) (sw_true rfl rfl rfl (by decide +kernel))
    · obtain ⟨rfl, rfl⟩ := yy
      have hi3 : i < 3 := by omega
      have hch : atI ("xyz" : Str).cps.toList (i : Int) = some (("xyz" : Str).cps.toList.getD i 0) := by
        match i, hi3 with
        | 0, _ => rfl
        | 1, _ => rfl
        | 2, _ => rfl
      refine ⟨_, fun s H0 C cl fp => tgt_name 5 sc_small.nd, rfl, rfl, fun _ s H0 C cl fp => ?_⟩
      refine Ev.imp (ev_tupG (eg_cons (ev_opF (F := fun v _ => ∃ h ∈ headsS, v = .str h) (G := fun v _ => v = .str (chK i)) (J := fun v _ => ∃ h ∈ headsS, v = .str (h ++ chK i)) op_add_str (ev_call (R := fits fun v _ => ∃ h ∈ headsS, v = .str h) (cal_take (P := P) (w := w) (base := base) T) hr (by decide) (ea_cons (ev_name 0 rfl) (ea_cons (ev_name 2 rfl) ea_nil)) fun H3 e3 Q q => ⟨a, hl, _, rfl, ((E2.trans ee).trans e3) _ _ ha, (ee.trans e3) _ _ hhl, by decide, by decide, fun x H' e' hx => q _ H' e' ?_⟩) (Ev.fits (ev_ixS (w := "xyz") (i := (i : Nat)) ev_str (ev_name 5 rfl) (by decide) hch) fun _ _ => rfl) (fun _ _ _ _ h => h) fun x y H' e' ⟨h, hh, hx⟩ hy Q q => ⟨h, chK i, hx, hy, ?_, q _ H' (Ex.refl _) ⟨h, hh, rfl⟩⟩) fun H3 v3 H4 e3 e4 rv3 => eg_one (ev_call (R := fits fun v H' => ∃ p ∈ menuN, T2 p v H') (cal_take (P := P) (w := w) (base := base) T) hr (by decide) (ea_cons (ev_name 0 rfl) (ea_cons (ev_name 1 rfl) ea_nil)) fun H5 e5 Q q => ⟨a, ml, ms, rfl, ((E2.trans ee).trans ((e3.trans e4).trans e5)) _ _ ha, (ee.trans ((e3.trans e4).trans e5)) _ _ hml2, by omega, by omega, fun x H' e' hx => q _ H' e' ?_⟩)) (fun H8 vs H9 ⟨v, r, Hm, ev, _, _, _, v2, er, _⟩ => by rw [ev, er]; show 2 ≤ 100000; decide)) fun H3 v H4 e3 e4 rv => ?_
      · have : x ∈ headsS.map V.str := hx
        obtain ⟨h, hh, rfl⟩ := List.mem_map.mp this
        exact ⟨h, hh, rfl⟩
      · refine sz_of ?_
        have : ∀ h ∈ headsS, h.length ≤ 3 := by decide +kernel
        have h1 := this h hh
        have h2 : (chK i).length = 1 := rfl
        omega
      · obtain ⟨p, hp, hT⟩ := All2.toList hms2 x hx
        exact ⟨p, hp, hT.ex ((ee.trans ((e3.trans e4).trans e5)).trans e')⟩
      · obtain ⟨vs, Hm2, p, rfl, em2, ⟨v1, r, Hm3, rfl, em3, ⟨h, hh, rfl⟩, em4, v2, rfl, Hm4, em5, ⟨q, hq, t, rfl, ht⟩, rfl⟩, hpn, hpn0, rfl⟩ := rv
        exact ⟨(h ++ chK i, q), List.mem_flatMap.mpr ⟨h, hh, List.mem_map.mpr ⟨q, hq, rfl⟩⟩, p, t, rfl, upd_same, Ex.new hpn _ _ ht⟩
    · obtain ⟨wl, xs, rfl, hwn, hwl, hall⟩ := r
      rw [picked_all] at hall
      obtain ⟨ws, hW, hR⟩ := all2_pick hall
      have hwsl : ws.length = n := by rw [← hR.len, List.length_range]
      have hxsl := hW.len
      have hok : okWs ws := by
        refine ⟨by omega, by omega, fun k w hk => ?_⟩
        obtain ⟨j, hj, hm⟩ := hR.at hk
        have hkn : k < n := by
          have := (List.getElem?_eq_some_iff.mp hk).1
          omega
        rw [List.getElem?_range hkn] at hj
        cases hj
        exact hm
      have hfac : ∀ w ∈ ws, 1 ≤ w.2.1 ∧ w.2.1 ≤ w.2.2 ∧ w.2.2 ≤ 6 ∧ w.2.2 ∣ 6 ∧ 1 ≤ 6 * w.2.1 / w.2.2 ∧ 6 * w.2.1 / w.2.2 ≤ 6 := fun w hw => by
        obtain ⟨k, hk⟩ := List.getElem?_of_mem hw
        exact menu_facts _ (wkAt_share (hok.2.2 k w hk))
      refine ws_set 4 sc_small.nd (ev_neg (ev_fdiv (j := 6) ⟨by decide, by decide⟩ (ev_neg (ev_sumP (ns := ws.map fun w => 6 * w.2.1 / w.2.2) rfl (Ev.imp (ev_comp (n := xs.length) (P := fun i v _ => v = .int ((6 * (ws.getD i ("", 0, 0)).2.1 / (ws.getD i ("", 0, 0)).2.2 : Nat) : Int)) (own := [("_law_tag", 6), ("_law_e", 7), ("_law_p", 8)]) rfl sc_small.nd (blkOk_by (own := [("_law_tag", 6), ("_law_e", 7), ("_law_p", 8)]) (N := nSmall) (sc := defScope s_law_small) (by decide +kernel)) (src_list (ev_name 3 rfl) (SqL.of hwl)) (by omega) hG_l (fun i => isP_sx (v := fun i => .int ((6 * (ws.getD i ("", 0, 0)).2.1 / (ws.getD i ("", 0, 0)).2.2 : Nat) : Int)) i) hY_at (fun i xi Hc Hd hi ec _ yc => ?_)) fun H4 v H5 e4 e5 r => ?_) T.n_sum)) ev_int)) fun v H4 e4 rv => ?_
      · obtain ⟨rfl, hxi⟩ := yc
        obtain ⟨wk, hwk, xt, qt, rfl, w1, w2⟩ := hW.at hxi
        have eg : ws.getD i ("", 0, 0) = wk := by rw [List.getD_eq_getElem?_getD, hwk]; rfl
        have hf := hfac wk (List.mem_of_getElem? hwk)
        rw [eg]
        refine ⟨_, fun s H0 C cl fp => tgt_tup rfl (SqT.of (ec _ _ w1)) rfl (tgs_cons (tgt_name 6 sc_small.nd) (tgs_cons (tgt_tup rfl (SqT.of (ec _ _ w2)) rfl (tgs_cons (tgt_name 7 sc_small.nd) (tgs_cons (tgt_name 8 sc_small.nd) tgs_nil))) tgs_nil)), rfl, rfl, fun _ s H0 C cl fp => Ev.fits ((ev_fdiv ⟨by omega, by omega⟩ (ev_mul (.inl ⟨by decide, by decide⟩) ev_int (ev_name 7 rfl)) (ev_name 8 rfl)).is_ (by simp)) fun _ _ => rfl⟩
      · have q := newC_all (g := fun i => .int ((6 * (ws.getD i ("", 0, 0)).2.1 / (ws.getD i ("", 0, 0)).2.2 : Nat) : Int)) r
        have e : (List.range xs.length).map (fun i => V.int ((6 * (ws.getD i ("", 0, 0)).2.1 / (ws.getD i ("", 0, 0)).2.2 : Nat) : Int)) = nums (ws.map fun w => 6 * w.2.1 / w.2.2) := by
          unfold nums
          rw [List.map_map, ← hxsl]
          conv => rhs; rw [← range_getD ws ("", 0, 0)]
          rw [List.map_map]
          rfl
        rw [e] at q
        exact q
      · cases rv
        have hsum : 1 ≤ (ws.map fun w => 6 * w.2.1 / w.2.2).sum ∧ (ws.map fun w => 6 * w.2.1 / w.2.2).sum ≤ 18 := by
          have hl1 := hok.1
          have hl3 := hok.2.1
          have hall2 : ∀ w ∈ ws, 1 ≤ 6 * w.2.1 / w.2.2 ∧ 6 * w.2.1 / w.2.2 ≤ 6 := fun w hw => (hfac w hw).2.2.2.2
          have gen : ∀ l : List Wk, (∀ w ∈ l, 1 ≤ 6 * w.2.1 / w.2.2 ∧ 6 * w.2.1 / w.2.2 ≤ 6) → l.length ≤ (l.map fun w => 6 * w.2.1 / w.2.2).sum ∧ (l.map fun w => 6 * w.2.1 / w.2.2).sum ≤ 6 * l.length := fun l => by
            induction l with
            | nil => exact fun _ => ⟨Nat.le_refl _, Nat.le_refl _⟩
            | cons w l ih =>
              intro h
              obtain ⟨a1, a2⟩ := ih fun w hw => h w (List.mem_cons_of_mem _ hw)
              obtain ⟨b1, b2⟩ := h w List.mem_cons_self
              rw [List.map_cons, List.sum_cons, List.length_cons]
              omega
          obtain ⟨a1, a2⟩ := gen ws hall2
          omega
        generalize (ws.map fun w => 6 * w.2.1 / w.2.2).sum = S at hsum
        refine ws_ret (ev_tupG (eg_cons (ev_callBG (R := fits fun v _ => ∃ m : Nat, 1 ≤ m ∧ m ≤ 3 ∧ v = .int (m : Nat)) (call_max2 rfl) T.n_max (by decide +kernel) (eg_cons ev_int fun H5 v H6 e5 e6 rv => eg_one (ev_opF (F := fun v _ => v = .int (-(-((S : Nat) : Int) / 6))) (G := fun v _ => ∃ b : Bool, v = .int (if b then 1 else 0)) (J := fun v _ => ∃ b : Bool, v = .int (-(-((S : Nat) : Int) / 6) - (if b then 1 else 0))) op_sub (Ev.fits (ev_name 4 rfl) fun _ _ => rfl) (ev_callTyG (R := fits fun v _ => ∃ b : Bool, v = .int (if b then 1 else 0)) call_int1 T.n_int (by decide +kernel) (eg_one (ev_eqF (F := fun v _ => ∃ d : Nat, d < 6 ∧ v = .int (d : Nat)) (fun v _ ⟨d, _, h⟩ => ⟨_, h⟩) (ev_call (R := fits fun v _ => ∃ d : Nat, d < 6 ∧ v = .int (d : Nat)) (cal_dig (P := P) (w := w) (base := base) T) hr (by decide) (ea_cons (ev_name 0 rfl) (ea_cons ev_int ea_nil)) fun H7 e7 Q q => ⟨a, 6, rfl, ((E2.trans e3).trans (e4.trans ((e5.trans e6).trans e7))) _ _ ha, by decide, by decide, fun d H' e' hd => q _ H' e' ⟨d, hd, rfl⟩⟩) ev_int)) (fun H7 vs H8 e7 e8 tt Q q => ?_)) (fun _ _ _ _ h => h) fun x y H' e' hx ⟨b, hy⟩ Q q => ⟨_, _, hx, hy, q _ H' (Ex.refl _) ⟨b, rfl⟩⟩)) (fun H7 vs H8 e7 e8 tt Q q => ?_)) fun H5 v H6 e5 e6 rv => EvA.g (ea_cons (ev_name 3 rfl) ea_nil)) (fun H8 vs H9 ⟨v, r, Hm, ev, _, _, _, er⟩ => by rw [ev, er]; show 2 ≤ 100000; decide)) fun v H5 e5 rv => ?_
        · obtain ⟨v, rfl, Hm5, em5, ⟨b, rfl⟩, rfl⟩ := tt
          exact .inr ⟨b, rfl, q _ _ (Ex.refl _) ⟨b, rfl⟩⟩
        · obtain ⟨v, r, Hm5, rfl, em5, rv, em6, v2, rfl, Hm6, em7, ⟨b, rfl⟩, rfl⟩ := tt
          cases rv
          refine ⟨_, _, rfl, ?_⟩
          generalize hz : -(-((S : Nat) : Int) / 6) - (if b then 1 else 0) = z
          have hz3 : z ≤ 3 := by
            cases b <;> simp at hz <;> omega
          refine q _ _ (Ex.refl _) ?_
          by_cases hz1 : z > 1
          · rw [if_pos hz1]
            exact ⟨z.toNat, by omega, by omega, by congr 1; omega⟩
          · rw [if_neg hz1]
            exact ⟨1, Nat.le_refl 1, by decide, rfl⟩
        · obtain ⟨vs, Hm5, p, rfl, em5, ⟨v1, r, Hm6, rfl, em6, ⟨m, h1, h3, rfl⟩, em7, rfl⟩, hpn, hpn0, rfl⟩ := rv
          have EE : Ex H3 (upd Hm5 p (.tup [.int (m : Nat), .ref wl])) := e4.trans (em5.trans (Ex.new hpn))
          exact k m ws _ _ (E2.trans (e3.trans EE)) hok h1 h3 ⟨rfl, p, wl, xs, rfl, upd_same, EE _ _ hwl, hW.imp fun w u z => WK.sx _ _ _ EE.sx z⟩
end
end TS
/-! ## LL14 -/
namespace TS
open PySem PySem.Spec PyProof.Rows L2
def natS (n : Nat) : Str := Str.ofString (toString ((n : Nat) : Int))
def shareS (p : Nat × Nat) : Str := (natS p.1 ++ "/") ++ natS p.2
def rowS (w : Wk) : Str := (((("work " : Str) ++ w.1) ++ " ") ++ natS w.2.1 ++ "/") ++ natS w.2.2
def headS (m : Nat) : Str := ("hands " : Str) ++ natS m
def textS (m : Nat) (ws : List Wk) : Str := Txt.join "\n" (headS m :: ws.map rowS)
def wkAll : List Wk := wkAt 0 ++ wkAt 1 ++ wkAt 2
theorem okWs_mem {ws : List Wk} (h : okWs ws) : ∀ w ∈ ws, w ∈ wkAll := fun w hw => by
  obtain ⟨k, hk⟩ := List.getElem?_of_mem hw
  have hl := (List.getElem?_eq_some_iff.mp hk).1
  have h3 := h.2.1
  have hm := h.2.2 k w hk
  unfold wkAll
  match k, (by omega : k < 3), hm with
  | 0, _, hm => simp [hm]
  | 1, _, hm => simp [hm]
  | 2, _, hm => simp [hm]
theorem row_len : ∀ w ∈ wkAll, w.1.length ≤ 4 ∧ (natS w.2.1).length ≤ 1 ∧ (natS w.2.2).length ≤ 1 ∧ ("work " ++ w.1 : Str).length ≤ 20 ∧ ("work " ++ w.1 ++ " " : Str).length ≤ 20 ∧ ("work " ++ w.1 ++ " " ++ natS w.2.1 : Str).length ≤ 20 ∧ ("work " ++ w.1 ++ " " ++ natS w.2.1 ++ "/" : Str).length ≤ 20 ∧ (rowS w).length ≤ 20 := by decide +kernel
theorem head_len : ∀ m, m < 4 → (natS m).length ≤ 1 ∧ (headS m).length ≤ 20 := by decide +kernel
section
variable {X : Cx} {σ : L2.St} {H : Hp} {a b e o : Expr} {es : List Expr} {pos : Pos} {R : RT}
theorem ev_catS {x y : Str} (ha : Ev X a σ H (is (.str x))) (hb : Ev X b σ H (is (.str y))) (hl : x.length + y.length ≤ 100000) : Ev X (.BinOp a .Add b pos) σ H (is (.str (x ++ y))) := ev_op op_add_str ha hb (RV.val fun _ _ _ q => ⟨x, y, rfl, rfl, sz_of hl, q⟩)
theorem ev_strI {n : Nat} {pn : Pos} (ha : Ev X e σ H (is (.int (n : Nat)))) (hn : n ≤ 100000) (hm : X.mg "str" = none) (hg : Gl X "str" := by rfl) (hs : starEach [e] X.env = (false, eval e X.env) :: starEach [] X.env := by rfl) : Ev X (.Call (.Name "str" pn) [e] [] pos) σ H (is (.str (natS n))) :=
  ev_callTy (R := is (.str (natS n))) call_str_int hm (by decide +kernel) (ea_cons ha ea_nil hs) (fun H1 e1 Q q => ⟨(n : Nat), rfl, by
    show (((n : Nat) : Int).natAbs).log2 < 1920
    rw [Int.natAbs_natCast]
    refine Nat.lt_of_le_of_lt ?_ (by decide : 17 < 1920)
    by_cases h0 : n = 0
    · subst h0
      decide
    · have := (Nat.log2_lt h0 (k := 18)).mpr (by omega)
      omega, q _ H1 (Ex.refl _) rfl⟩) hg (by decide) (by decide) hs rfl
theorem ev_joinP {sep : Str} {ys : List Str} {ap : Pos} (ho : Ev X o σ H (is (.str sep))) (he : ∀ H', Ex H H' → Ev X e σ H' (newL (ys.map V.str))) (hz : (ys.map (·.length)).sum + ys.length * sep.length ≤ 16777216) (hs : starEach [e] X.env = [(false, eval e X.env)] := by rfl)
    (hbase : attributeBase o "join" X.env (eval o X.env) = eval o X.env := by rfl) (hline : (ap.endLine == pos.line) = true := by rfl) : Ev X (.Call (.Attribute o "join" ap) [e] [] pos) σ H (is (.str (Txt.join sep ys))) := fun H1 e1 Q q =>
  wE_of (pe_m1 F.slot_str_join F.type_str_join mt_join pe_w pe_w hs hbase hline) (ho H1 e1 _ fun x H2 e2 rx => by
    cases rx
    refine ⟨⟨sep, rfl⟩, he H2 (e1.trans e2) H2 (Ex.refl _) _ fun y H3 e3 ry => ?_⟩
    obtain ⟨p, rfl, hpn, hp⟩ := ry
    exact ⟨sep, p, ys, rfl, rfl, .inl (SqL.of hp), hz, q _ H3 (e2.trans e3) rfl⟩)
end
theorem sum_len {ws : List Wk} (h : ∀ w ∈ ws, (rowS w).length ≤ 20) : ((ws.map rowS).map (·.length)).sum ≤ 20 * ws.length := by
  induction ws with
  | nil => exact Nat.le_refl _
  | cons w ws ih =>
    have h1 := ih fun x hx => h x (List.mem_cons_of_mem _ hx)
    have h2 := h w List.mem_cons_self
    rw [List.map_cons, List.map_cons, List.sum_cons, List.length_cons]
    omega
section
variable {P : Program} {w : World} {K : PySem.W.Frag} {mg : Str → Option Value} {base : Heap} {CL CS CP : Addr}
abbrev nText : List Str := ["_law_lot_here", "_law_rows", "_law_tag", "_law_e", "_law_p"]
theorem sc_text : FnScope nText ["_law_lot_here"] (defScope s_law_text) := ⟨rfl, rfl, rfl, by decide +kernel, rfl, by decide +kernel, by decide +kernel⟩
def spText0 : Sp := fun vs H Q _ => ∃ (x : V) (m : Nat) (ws : List Wk), vs = [x] ∧ IsOwn (lotOf m ws) ws x H ∧ okWs ws ∧ m ≤ 3 ∧ ∀ H', Ex H H' → Q (.str (textS m ws)) H'
theorem cal_text (T : Txt K mg CL CS CP) : C8.Cal P w K mg base 1 "_law_text" spText0 [] := by
  refine cal_mk T.d_law_text sc_text (fun vs H Q E h => ?_) fun f cdv A outer s H vs Q E hr h => ?_
  · obtain ⟨x, m, ws, rfl, _⟩ := h
    rfl
  · obtain ⟨x, m, ws, rfl, hx, ok, hm, k⟩ := h
    obtain ⟨_, lt, wl, us, rfl, o1, o2, o3⟩ := hx
    have hul := o3.len
    have hw3 := ok.2.1
    have hmem := okWs_mem ok
    obtain ⟨hm1, hm2⟩ := head_len m (by omega)
    have h6 : ("hands " : Str).length = 6 := by decide +kernel
    refine ws_set 1 sc_text.nd (ev_lst (ea_cons (ev_catS ev_str (ev_strI (n := m) (ev_ixT (ev_name 0 rfl) (ev_int (i := 0)) (SqT.of o1) rfl) (by omega) T.n_str) (by omega)) ea_nil) (by show 1 ≤ 100000; decide)) fun v H1 e1 rv => ?_
    obtain ⟨rl, rfl, rn, hrl⟩ := rv
    refine ws_ret (ev_joinP (ys := headS m :: ws.map rowS) ev_str (fun H2 e2 => Ev.imp (ev_catL (xs := fun _ _ _ => True) (R := newP fun ys _ => ys = (headS m :: ws.map rowS).map V.str) (Ra := is (.ref rl)) (Rb := newL ((ws.map rowS).map V.str)) (ev_name 1 rfl) (fun H4 x4 H5 e4 e5 rx => Ev.imp (ev_comp (n := us.length) (P := fun i v _ => v = .str (rowS (ws.getD i ("", 0, 0)))) (own := [("_law_tag", 2), ("_law_e", 3), ("_law_p", 4)]) rfl sc_text.nd (blkOk_by (own := [("_law_tag", 2), ("_law_e", 3), ("_law_p", 4)]) (N := nText) (sc := defScope s_law_text) (by decide +kernel)) (src_list (ev_ixT (ev_name 0 rfl) (ev_int (i := 1)) (SqT.of ((e1.trans (e2.trans (e4.trans e5))) _ _ o1)) rfl) (SqL.of ((e1.trans (e2.trans (e4.trans e5))) _ _ o2))) (by omega) hG_l (fun i => isP_sx (v := fun i => .str (rowS (ws.getD i ("", 0, 0)))) i) hY_at (fun i xi Hc Hd hi ec _ yc => ?A)) fun H6 v H7 e6 e7 r => ?B) (fun H4 x4 H5 y5 H6 e4 e5 r4 e6 r5 => ?C)) fun H4 v H5 e4 e5 ⟨p, xs, h1, h2, h3, h4⟩ => ⟨p, h1, h2, by rw [h3, h4]⟩) ?D) fun v H2 e2 rv => ?E
    case A =>
      obtain ⟨rfl, hxi⟩ := yc
      obtain ⟨wk, hwk, xt, qt, rfl, w1, w2⟩ := o3.at hxi
      have eg : ws.getD i ("", 0, 0) = wk := by rw [List.getD_eq_getElem?_getD, hwk]; rfl
      obtain ⟨l1, l2, l3, l4, l5, l6, l7, l8⟩ := row_len wk (hmem wk (List.mem_of_getElem? hwk))
      have hf := menu_facts _ (wkAt_share (ok.2.2 i wk hwk))
      rw [eg]
      have EE := e1.trans ((e2.trans (e4.trans e5)).trans ec)
      have k5 : ("work " : Str).length = 5 := by decide +kernel
      have k1 : (" " : Str).length = 1 := by decide +kernel
      have k2 : ("/" : Str).length = 1 := by decide +kernel
      refine ⟨_, fun s H0 C cl fp => tgt_tup rfl (SqT.of (EE _ _ w1)) rfl (tgs_cons (tgt_name 2 sc_text.nd) (tgs_cons (tgt_tup rfl (SqT.of (EE _ _ w2)) rfl (tgs_cons (tgt_name 3 sc_text.nd) (tgs_cons (tgt_name 4 sc_text.nd) tgs_nil))) tgs_nil)), rfl, rfl, fun _ s H0 C cl fp => Ev.fits (ev_catS (ev_catS (ev_catS (ev_catS (ev_catS ev_str (ev_name 2 rfl) (by omega)) ev_str (by omega)) (ev_strI (ev_name 3 rfl) (by omega) T.n_str) (by omega)) ev_str (by omega)) (ev_strI (ev_name 4 rfl) (by omega) T.n_str) (by omega)) fun _ _ => rfl⟩
    case B =>
      have q := newC_all (g := fun i => .str (rowS (ws.getD i ("", 0, 0)))) r
      have e : (List.range us.length).map (fun i => V.str (rowS (ws.getD i ("", 0, 0)))) = (ws.map rowS).map V.str := by
        rw [List.map_map, ← hul]
        conv => rhs; rw [← range_getD ws ("", 0, 0)]
        rw [List.map_map]
        rfl
      rw [e] at q
      exact q
    case C =>
      cases r4
      obtain ⟨b5, rfl, hb5n, hb5⟩ := r5
      refine ⟨rl, b5, _, _, rfl, rfl, (e2.trans (e4.trans (e5.trans e6))) _ _ hrl, hb5, ?_, fun pn H7 hpn hH7 => ⟨pn, _, rfl, (e5.trans e6).back hpn, by subst hH7; exact upd_same, rfl⟩⟩
      rw [List.length_map, List.length_map]
      show 1 + ws.length ≤ 100000
      omega
    case D =>
      have hs := sum_len (ws := ws) fun w hw => (row_len w (hmem w hw)).2.2.2.2.2.2.2
      have hsep : ("\n" : Str).length = 1 := by decide +kernel
      rw [List.map_cons, List.sum_cons, List.length_cons, List.length_map]
      rw [hsep]
      omega
    case E =>
      cases rv
      exact k H2 (e1.trans e2)
end
end TS
/-! ## P1 -/
namespace TS
open PySem PySem.Spec PyProof.Rows L2
section
variable {X : Cx} {σ : L2.St} {H : Hp} {a b c e o : Expr} {es : List Expr} {pos : Pos} {R : RT} {x y v : V}
/-- isinstance(x, T) of a type that is built in -/
theorem ev_isT {x : V} {t u : String} {n : Str} {k : Bool} {pn p2 : Pos} (ha : Ev X a σ H (is x)) (hx : ∀ H', Ex H H' → TyX X.K H' x (.type t)) (hk : kitB t u = some k) (hm2 : X.mg n = none) (hv : bootBuiltins n = some (.type u)) (hm : X.mg "isinstance" = none) (hg : Gl X "isinstance" := by rfl) (hg2 : Gl X n := by rfl) (hn : n ≠ "__name__" := by decide) (hd : (n == ("__debug__" : Str)) = false := by decide)
    (hs : starEach [a, .Name n p2] X.env = (false, eval a X.env) :: starEach [.Name n p2] X.env := by rfl) (hs2 : starEach [.Name n p2] X.env = (false, eval (.Name n p2) X.env) :: starEach [] X.env := by rfl) (hpl : (backTo pos (starEach [.Name n p2] X.env)).any (·.1) = false := by rfl) : Ev X (.Call (.Name "isinstance" pn) [a, .Name n p2] [] pos) σ H (is (.bl k)) :=
  ev_callB (R := is (.bl k)) call_isi hm (by decide +kernel) (ea_cons ha (ea_cons (ev_bltn (v := .ty u) hm2 hv rfl hg2 hn hd) ea_nil hs2) hs) (fun H1 e1 Q q => ⟨x, .ty u, .type t, .type u, k, rfl, .ty u, hx H1 e1, kit_ty hk, q _ H1 (Ex.refl _) rfl⟩) hg (by decide) (by decide) hs hpl
/-- all([.. for sign in z]) -/
theorem ev_allP {bs : List Bool} {pn : Pos} (hc : X.calm = true) (ha : Ev X e σ H (newL (bs.map V.bl))) (hm : X.mg "all" = none) (hg : Gl X "all" := by rfl) (hs : starEach [e] X.env = (false, eval e X.env) :: starEach [] X.env := by rfl) :
    Ev X (.Call (.Name "all" pn) [e] [] pos) σ H (is (.bl (bs.all id))) :=
  ev_callBG (R := is (.bl (bs.all id))) (cr_all hc) hm (by decide +kernel) (eg_one ha hs) (fun H1 vs H2 e1 e2 t Q q => by
    obtain ⟨v, rfl, Hm, em, ⟨p, rfl, hp, hl⟩, rfl⟩ := t
    exact ⟨p, bs, rfl, SqL.of hl, q _ _ (Ex.refl _) rfl⟩) hg (by decide) (by decide) hs rfl
theorem ev_inSign {ch : Nat} {z : Str} (ha : Ev X a σ H (is (.str ⟨#[ch]⟩))) (hb : Ev X b σ H (is (.str z))) (hm : behindInMarks .In b = false := by rfl) : Ev X (.Compare a [.In] [b] pos) σ H (is (.bl (decide (ch ∈ z.cps.toList)))) :=
  ev_cmp op_in_sign ha hb (RV.val fun _ _ _ q => ⟨ch, z, rfl, rfl, q⟩) hm
end
section
variable {P : Program} {w : World} {K : PySem.W.Frag} {mg : Str → Option Value} {base : Heap} {CL CS CP : Addr}
theorem sc_is_integer : FnScope ["value"] ["value"] (defScope s_is_integer) := ⟨rfl, rfl, rfl, by decide +kernel, rfl, by decide +kernel, by decide +kernel⟩
def spIsInt : Sp := fun vs H Q _ => ∃ i : Int, vs = [.int i] ∧ ∀ H', Ex H H' → Q (.bl true) H'
theorem cal_is_integer (T : Txt K mg CL CS CP) : C8.Cal P w K mg base 1 "is_integer" spIsInt [] := by
  refine cal_mk T.d_is_integer sc_is_integer (fun vs H Q E h => ?_) fun f cdv A outer s H vs Q E hr h => ?_
  · obtain ⟨i, rfl, _⟩ := h
    rfl
  · obtain ⟨i, rfl, k⟩ := h
    refine ws_ret (ev_and (k := true) (j := true) (ev_isT (t := "int") (u := "int") (ev_name 0 rfl) (fun _ _ => .base (.int _)) (by decide +kernel) T.n_int (by decide +kernel) T.n_isinstance) fun _ => ev_one ((ev_not (k := false) (ev_isT (t := "int") (u := "bool") (ev_name 0 rfl) (fun _ _ => .base (.int _)) (by decide +kernel) T.n_bool (by decide +kernel) T.n_isinstance)))) fun v H2 e2 rv => ?_
    cases rv
    exact k H2 e2
theorem sc_is_between : FnScope ["value", "low", "high"] ["value", "low", "high"] (defScope s_is_between) := ⟨rfl, rfl, rfl, by decide +kernel, rfl, by decide +kernel, by decide +kernel⟩
def spIsBtw : Sp := fun vs H Q _ => ∃ i l h : Int, vs = [.int i, .int l, .int h] ∧ ∀ H', Ex H H' → Q (.bl (decide (l ≤ i) && decide (i ≤ h))) H'
theorem cal_is_between (T : Txt K mg CL CS CP) : C8.Cal P w K mg base 2 "is_between" spIsBtw [] := by
  refine cal_mk T.d_is_between sc_is_between (fun vs H Q E h => ?_) fun f cdv A outer s H vs Q E hr h => ?_
  · obtain ⟨i, l, h, rfl, _⟩ := h
    rfl
  · obtain ⟨i, l, h, rfl, k⟩ := h
    refine ws_ret (ev_and (k := true) (j := decide (l ≤ i) && decide (i ≤ h)) (ev_call (R := is (.bl true)) (cal_is_integer (P := P) (w := w) (base := base) T) hr (by decide) (ea_cons (ev_name 0 rfl) ea_nil) fun H1 e1 Q q => ⟨i, rfl, fun H' e' => q _ H' e' rfl⟩) fun _ => ev_one (ev_chainLe (ev_name 1 rfl) (ev_name 0 rfl) (ev_name 2 rfl))) fun v H2 e2 rv => ?_
    cases rv
    exact k H2 e2
abbrev lettersL : List Nat := ("abcdefghijklmnopqrstuvwxyz" : Str).cps.toList
abbrev digitsL : List Nat := ("0123456789" : Str).cps.toList
theorem sc_is_name : FnScope ["value", "sign"] ["value"] (defScope s_is_name) := ⟨rfl, rfl, rfl, by decide +kernel, rfl, by decide +kernel, by decide +kernel⟩
def spIsName : Sp := fun vs H Q _ => ∃ z : Str, vs = [.str z] ∧ 1 ≤ z.length ∧ z.length ≤ 8 ∧ (z.cps.toList.all fun c => decide (c ∈ lettersL)) = true ∧ ∀ H', Ex H H' → Q (.bl true) H'
theorem ev_allSigns {X : Cx} {σ : L2.St} {H : Hp} {iter t2 : Expr} {scope : Scope} {z D : Str} {n : Str} {i : Nat} {pn p1 p2 p3 p4 pos : Pos} (hc : X.calm = true) (hN : X.N.Nodup) (ok : BlkOk X.N X.env.scope scope [(n, i)]) (hz : z.length ≤ 1000) (hi : Ev X iter σ H (is (.str z)))
    (turn : ∀ c Hb, Ex H Hb → CTurn X scope (.Name n p1) (.Compare (.Name n p2) [.In] [t2] p3) none [i] σ (.str ⟨#[c]⟩) Hb true (fun v _ => v = .bl (decide (c ∈ D.cps.toList)))) (hm : X.mg "all" = none) (hg : Gl X "all" := by rfl) (hfs : ∀ x, foldedSetIterable iter X.env x = pure x := by intro _; rfl)
    (hs : starEach [.ListComp (.Compare (.Name n p2) [.In] [t2] p3) [⟨.Name n p1, iter, [], 0⟩] scope p4] X.env = (false, eval (.ListComp (.Compare (.Name n p2) [.In] [t2] p3) [⟨.Name n p1, iter, [], 0⟩] scope p4) X.env) :: starEach [] X.env := by rfl) :
    Ev X (.Call (.Name "all" pn) [.ListComp (.Compare (.Name n p2) [.In] [t2] p3) [⟨.Name n p1, iter, [], 0⟩] scope p4] [] pos) σ H (is (.bl (z.cps.toList.all fun c => decide (c ∈ D.cps.toList)))) := by
  have hsz : z.cps.size = z.cps.toList.length := Array.length_toList.symm
  refine (ev_allP (bs := (z.cps.toList.map fun c => decide (c ∈ D.cps.toList))) hc (Ev.imp (ev_comp (n := z.cps.size) (P := fun j v _ => v = .bl (decide (z.cps.toList.getD j 0 ∈ D.cps.toList))) [(n, i)] hc hN ok (src_str hi) (Nat.le_trans hz (by decide)) hG_true (fun j => isP_sx (v := fun j => .bl (decide (z.cps.toList.getD j 0 ∈ D.cps.toList))) j) (fun _ _ _ _ h => by rw [h.1]; exact Ex.refl _) (fun j x Ha Hb hj ea _ y => ?_) hfs) fun H1 v H2 e1 e2 r => ?_) hm hg hs).is_ ?_
  · obtain ⟨rfl, c, hcj, rfl⟩ := y
    have e : z.cps.toList.getD j 0 = c := by rw [List.getD_eq_getElem?_getD, Array.getElem?_toList, hcj]; rfl
    rw [e]
    exact turn c _ ea
  · have q := newC_all (g := fun j => .bl (decide (z.cps.toList.getD j 0 ∈ D.cps.toList))) r
    have e : (List.range z.cps.size).map (fun j => V.bl (decide (z.cps.toList.getD j 0 ∈ D.cps.toList))) = (z.cps.toList.map fun c => decide (c ∈ D.cps.toList)).map V.bl := by
      rw [List.map_map, hsz]
      conv => rhs; rw [← range_getD z.cps.toList 0]
      rw [List.map_map]
      rfl
    rw [e] at q
    exact q
  · congr 1
    rw [List.all_map]
    rfl
theorem cal_is_name (T : Txt K mg CL CS CP) : C8.Cal P w K mg base 1 "is_name" spIsName [] := by
  refine cal_mk T.d_is_name sc_is_name (fun vs H Q E h => ?_) fun f cdv A outer s H vs Q E hr h => ?_
  · obtain ⟨z, rfl, _⟩ := h
    rfl
  · obtain ⟨z, rfl, h1, h2, h3, k⟩ := h
    obtain ⟨tl, hL⟩ := T.t_LETTERS
    refine ws_ret (ev_and (k := true) (j := true && (true && true)) (ev_isT (t := "str") (u := "str") (ev_name 0 rfl) (fun _ _ => .base (.str _)) (by decide +kernel) T.n_str (by decide +kernel) T.n_isinstance) fun _ => ev_and (k := true) (j := true && true) ((ev_chainLe (ev_int (i := 1)) (ev_lenS (ev_name 0 rfl) (by omega) T.n_len) (ev_globI T.i_LONGEST)).is_ ?_) fun _ => ev_one ((ev_allSigns (D := "abcdefghijklmnopqrstuvwxyz") (z := z) rfl sc_is_name.nd (blkOk_by (own := [("sign", 1)]) (N := ["value", "sign"]) (sc := defScope s_is_name) (by decide +kernel)) (by omega) (ev_name 0 rfl) (fun c Hb e => ⟨_, fun s H0 C cl fp => tgt_name 1 sc_is_name.nd, rfl, rfl, fun _ s H0 C cl fp => Ev.fits (ev_inSign (ev_name 1 rfl) (ev_glob hL ⟨tl, rfl⟩)) fun _ _ => rfl⟩) T.n_all).is_ ?_)) fun v H2 e2 rv => ?_
    · have e1 : decide ((1 : Int) ≤ (z.length : Nat)) = true := decide_eq_true (by omega)
      have e2 : decide (((z.length : Nat) : Int) ≤ 8) = true := decide_eq_true (by omega)
      rw [e1, e2]
      rfl
    · rw [h3]
      rfl
    · cases rv
      exact k H2 e2
end
end TS
/-! ## P2 -/
namespace TS
open PySem PySem.Spec PyProof.Rows L2
theorem natS_dg : ∀ n, n < 10 → natS n = ⟨#[48 + n]⟩ := by decide +kernel
theorem intText_nat : ∀ n, n < 10 → PySem.intText? (natS n) = some ((n : Nat) : Int) := by decide +kernel
theorem dg_in : ∀ n, n < 10 → (decide (48 + n ∈ ("0123456789" : Str).cps.toList)) = true := by decide +kernel
theorem menu_lt : ∀ p ∈ menuN, p.1 < 10 ∧ p.2 < 10 ∧ 1 ≤ p.1 ∧ 1 ≤ p.2 ∧ p.1 ≤ p.2 ∧ p.2 ≤ 16 ∧ Nat.gcd p.1 p.2 = 1 := by decide
section
variable {X : Cx} {σ : L2.St} {H : Hp} {a b c e o : Expr} {es : List Expr} {pos : Pos} {R : RT} {x y v : V}
theorem ev_intS {z : Str} {i : Int} {pn : Pos} (ha : Ev X e σ H (is (.str z))) (hz : PySem.intText? z = some i) (hl : z.length ≤ 640) (hm : X.mg "int" = none) (hg : Gl X "int" := by rfl) (hs : starEach [e] X.env = (false, eval e X.env) :: starEach [] X.env := by rfl) : Ev X (.Call (.Name "int" pn) [e] [] pos) σ H (is (.int i)) :=
  ev_callTy (R := is (.int i)) call_int_str hm (by decide +kernel) (ea_cons ha ea_nil hs) (fun H1 e1 Q q => ⟨z, i, rfl, hz, hl, q _ H1 (Ex.refl _) rfl⟩) hg (by decide) (by decide) hs rfl
end
section
variable {P : Program} {w : World} {K : PySem.W.Frag} {mg : Str → Option Value} {base : Heap} {CL CS CP : Addr}
theorem sc_read_number : FnScope ["word", "sign"] ["word"] (defScope s_read_number) := ⟨rfl, rfl, rfl, by decide +kernel, rfl, by decide +kernel, by decide +kernel⟩
def spRdNum : Sp := fun vs H Q _ => ∃ n : Nat, vs = [.str (natS n)] ∧ 1 ≤ n ∧ n < 10 ∧ ∀ H', Ex H H' → Q (.int (n : Nat)) H'
theorem cal_read_number (T : Txt K mg CL CS CP) : C8.Cal P w K mg base 1 "read_number" spRdNum [] := by
  refine cal_mk T.d_read_number sc_read_number (fun vs H Q E h => ?_) fun f cdv A outer s H vs Q E hr h => ?_
  · obtain ⟨n, rfl, _⟩ := h
    rfl
  · obtain ⟨n, rfl, h1, h2, k⟩ := h
    obtain ⟨tl, hL⟩ := T.t_DIGITS
    have hd := natS_dg n h2
    have hlen : (natS n).length = 1 := by rw [hd]; rfl
    have hne : natS n ≠ "" := fun z => by
      have := congrArg Str.length z
      rw [hlen] at this
      cases this
    have hall : ((natS n).cps.toList.all fun c => decide (c ∈ ("0123456789" : Str).cps.toList)) = true := by
      rw [hd]
      show (decide (48 + n ∈ ("0123456789" : Str).cps.toList) && true) = true
      rw [dg_in n h2]
      rfl
    refine ws_ifF (EvW.et (ew_or (k := false) (j := false) ((et_eqS (x := .str (natS n)) (y := .str "") rfl (ev_name 0 rfl) ev_str).is_ (decide_eq_false fun z => hne (V.str.inj z))) fun _ => ew_or (k := false) (j := false) ((et_not (k := true) (et_val ((ev_allSigns (D := "0123456789") (z := natS n) rfl sc_read_number.nd (blkOk_by (own := [("sign", 1)]) (N := ["word", "sign"]) (sc := defScope s_read_number) (by decide +kernel)) (by omega) (ev_name 0 rfl) (fun c Hb e => ⟨_, fun s H0 C cl fp => tgt_name 1 sc_read_number.nd, rfl, rfl, fun _ s H0 C cl fp => Ev.fits (ev_inSign (ev_name 1 rfl) (ev_glob hL ⟨tl, rfl⟩)) fun _ _ => rfl⟩) T.n_all).is_ (congrArg V.bl hall))))) fun _ => ew_or1 (EvW.et (ew_and (k := false) (j := false) ((et_eqS (x := .str ⟨#[48 + n]⟩) (y := .str "0") rfl (ev_ixS (i := 0) (ev_name 0 rfl) ev_int (by omega) (by rw [hd]; rfl)) ev_str).is_ (decide_eq_false fun z => ?_)) fun h => nomatch h)))) fun H1 e1 => ?_
    · have := V.str.inj z
      have h0 : ("0" : Str) = ⟨#[48]⟩ := by decide +kernel
      rw [h0] at this
      injection this with this
      injection this with this
      injection this with this
      omega
    · refine ws_nil (ws_ret (ev_intS (ev_name 0 rfl) (intText_nat n h2) (by omega) T.n_int) fun v H2 e2 rv => ?_)
      cases rv
      exact k H2 (e1.trans e2)
theorem sc_is_share : FnScope ["value"] ["value"] (defScope s_is_share) := ⟨rfl, rfl, rfl, by decide +kernel, rfl, by decide +kernel, by decide +kernel⟩
def spIsSh : Sp := fun vs H Q _ => ∃ (x : V) (p : Nat × Nat), vs = [x] ∧ T2 p x H ∧ p ∈ menuN ∧ ∀ H', Ex H H' → Q (.bl true) H'
theorem cal_is_share (T : Txt K mg CL CS CP) : C8.Cal P w K mg base 3 "is_share" spIsSh [] := by
  refine cal_mk T.d_is_share sc_is_share (fun vs H Q E h => ?_) fun f cdv A outer s H vs Q E hr h => ?_
  · obtain ⟨x, p, rfl, _⟩ := h
    rfl
  · obtain ⟨x, p, rfl, hx, hp, k⟩ := h
    obtain ⟨m1, m2, m3, m4, m5, m6, m7⟩ := menu_lt p hp
    obtain ⟨a, rfl, ha⟩ := hx
    have hx : T2 p (.ref a) H := ⟨a, rfl, ha⟩
    refine ws_ifF (EvW.et (ew_or (k := false) (j := false) (et_not (k := true) (et_val (ev_isT (t := "tuple") (u := "tuple") (ev_name 0 rfl) (fun H' e => .base (.tup (e _ _ ha))) (by decide +kernel) T.n_tuple (by decide +kernel) T.n_isinstance))) fun _ => ew_or (k := false) (j := false) ((et_neS (x := .int (2 : Nat)) (y := .int 2) rfl (ev_lenQ (ev_name 0 rfl) (.inr (SqT.of ha)) T.n_len) ev_int).is_ (by decide)) fun _ => ew_or1 (et_not (k := true) (et_val (ev_call (R := is (.bl true)) (cal_is_integer (P := P) (w := w) (base := base) T) hr (by decide) (ea_cons (ev_at0 (ev_name 0 rfl) hx) ea_nil) fun H1 e1 Q q => ⟨_, rfl, fun H' e' => q _ H' e' rfl⟩))))) fun H1 e1 => ?_
    have hx1 := hx.ex e1
    refine ws_nil (ws_ret (ev_and (k := true) (j := true && true) (ev_call (R := is (.bl true)) (cal_is_between (P := P) (w := w) (base := base) T) hr (by decide) (ea_cons (ev_at1 (ev_name 0 rfl) hx1) (ea_cons ev_int (ea_cons (ev_globI T.i_MOST_PERIOD) ea_nil))) fun H2 e2 Q q => ⟨_, _, _, rfl, fun H' e' => q _ H' e' ?_⟩) fun _ => ev_and (k := true) (j := true) ((ev_chainLe ev_int (ev_at0 (ev_name 0 rfl) hx1) (ev_at1 (ev_name 0 rfl) hx1)).is_ ?_) fun _ => ev_one ((ev_cmp op_eq (x := .int (Nat.gcd p.1 p.2 : Nat)) (y := .int 1) (ev_call (R := is (.int (Nat.gcd p.1 p.2 : Nat))) (cal_divisor (P := P) (w := w) (base := base) T) hr (by decide) (ea_cons (ev_at0 (ev_name 0 rfl) hx1) (ea_cons (ev_at1 (ev_name 0 rfl) hx1) ea_nil)) fun H2 e2 Q q => ⟨p.1, p.2, rfl, fun H' e' => q _ H' e' rfl⟩) ev_int (RV.val fun _ _ _ q => ⟨rfl, q⟩)).is_ ?_)) fun v H2 e2 rv => ?_)
    · have e1 : decide ((1 : Int) ≤ (p.2 : Nat)) = true := decide_eq_true (by omega)
      have e2 : decide (((p.2 : Nat) : Int) ≤ 16) = true := decide_eq_true (by omega)
      rw [e1, e2]
      rfl
    · have e1 : decide ((1 : Int) ≤ (p.1 : Nat)) = true := decide_eq_true (by omega)
      have e2 : decide (((p.1 : Nat) : Int) ≤ (p.2 : Nat)) = true := decide_eq_true (by omega)
      rw [e1, e2]
      rfl
    · rw [m7]
      rfl
    · cases rv
      exact k H2 (e1.trans e2)
end
end TS
/-! ## P3 -/
namespace TS
open PySem PySem.Spec PyProof.Rows L2
theorem share_part : ∀ p ∈ menuN, Txt.partition (shareS p) "/" = (natS p.1, ("/" : Str), natS p.2) := fun p hp => by
  obtain ⟨m1, m2, m3, m4, m5, m6, m7⟩ := menu_lt p hp
  refine TL.partition_app (y := "/") (s := 47) (S := []) (by decide +kernel) ?_
  rw [natS_dg _ m1]
  show ¬ 47 ∈ [48 + p.1]
  intro h
  have := List.mem_singleton.mp h
  omega
theorem row_spl : ∀ w ∈ wkAll, TL.spl [32] 0 [] (rowS w).cps.toList = [("work" : Str).cps.toList, w.1.cps.toList, (shareS w.2).cps.toList] := by decide +kernel
theorem S_tl (s : Str) : SX.S s.cps.toList = s := by
  cases s with
  | mk c => cases c; rfl
theorem row_split {w : Wk} (h : w ∈ wkAll) : Txt.split (rowS w) " " = [("work" : Str), w.1, shareS w.2] := by
  have e1 : (" " : Str) = SX.S [32] := by decide +kernel
  rw [e1, ← S_tl (rowS w), SX.split_S (by decide) (by decide), row_spl w h, List.map_cons, List.map_cons, List.map_cons, List.map_nil, S_tl, S_tl, S_tl]
theorem row_name : ∀ w ∈ wkAll, 1 ≤ w.1.length ∧ w.1.length ≤ 8 ∧ (w.1.cps.toList.all fun c => decide (c ∈ lettersL)) = true ∧ w.2 ∈ menuN := by decide +kernel
section
variable {X : Cx} {σ : L2.St} {H : Hp} {a b c e o : Expr} {es : List Expr} {pos : Pos} {R : RT} {x y v : V}
theorem ev_splitS {z sep : Str} {ap : Pos} (ho : Ev X o σ H (is (.str z))) (he : Ev X e σ H (is (.str sep))) (hb : (sep.length == 0) = false) (hz : z.length + 2 ≤ 100000) (hs : starEach [e] X.env = [(false, eval e X.env)] := by rfl)
    (hbase : attributeBase o "split" X.env (eval o X.env) = eval o X.env := by rfl) (hline : (ap.endLine == pos.line) = true := by rfl) : Ev X (.Call (.Attribute o "split" ap) [e] [] pos) σ H (newL ((Txt.split z sep).map V.str)) := fun H1 e1 Q q =>
  wE_of (pe_m1 F.slot_str_split F.type_str_split mt_split pe_w pe_w hs hbase hline) (ho H1 e1 _ fun x H2 e2 rx => by
    cases rx
    refine ⟨⟨z, rfl⟩, he H2 (e1.trans e2) _ fun y H3 e3 ry => ?_⟩
    cases ry
    exact ⟨z, sep, rfl, rfl, hb, sz_of hz, fun p hp => q _ _ ((e2.trans e3).trans (Ex.new hp)) ⟨p, rfl, (e2.trans e3).back hp, upd_same⟩⟩)
theorem ev_partS {z sep : Str} {ap : Pos} (ho : Ev X o σ H (is (.str z))) (he : Ev X e σ H (is (.str sep))) (hb : (sep.length == 0) = false) (hz : z.length ≤ 100000) (hs : starEach [e] X.env = [(false, eval e X.env)] := by rfl)
    (hbase : attributeBase o "partition" X.env (eval o X.env) = eval o X.env := by rfl) (hline : (ap.endLine == pos.line) = true := by rfl) : Ev X (.Call (.Attribute o "partition" ap) [e] [] pos) σ H (newT [.str (Txt.partition z sep).1, .str (Txt.partition z sep).2.1, .str (Txt.partition z sep).2.2]) := fun H1 e1 Q q =>
  wE_of (pe_m1 F.slot_str_partition F.type_str_partition mt_partition pe_w pe_w hs hbase hline) (ho H1 e1 _ fun x H2 e2 rx => by
    cases rx
    refine ⟨⟨z, rfl⟩, he H2 (e1.trans e2) _ fun y H3 e3 ry => ?_⟩
    cases ry
    exact ⟨z, sep, rfl, rfl, hb, sz_of hz, fun p hp => q _ _ ((e2.trans e3).trans (Ex.new hp)) ⟨p, rfl, (e2.trans e3).back hp, upd_same⟩⟩)
end
section
variable {P : Program} {w : World} {K : PySem.W.Frag} {mg : Str → Option Value} {base : Heap} {CL CS CP : Addr}
abbrev nRdSh : List Str := ["word", "top", "mark", "bottom", "found"]
theorem sc_read_share : FnScope nRdSh ["word"] (defScope s_read_share) := ⟨rfl, rfl, rfl, by decide +kernel, rfl, by decide +kernel, by decide +kernel⟩
theorem share_len : ∀ p ∈ menuN, (shareS p).length ≤ 10 := by decide +kernel
def spRdSh : Sp := fun vs H Q _ => ∃ p : Nat × Nat, vs = [.str (shareS p)] ∧ p ∈ menuN ∧ ∀ v H', Ex H H' → T2 p v H' → Q v H'
theorem cal_read_share (T : Txt K mg CL CS CP) : C8.Cal P w K mg base 2 "read_share" spRdSh [] := by
  refine cal_mk T.d_read_share sc_read_share (fun vs H Q E h => ?_) fun f cdv A outer s H vs Q E hr h => ?_
  · obtain ⟨p, rfl, _⟩ := h
    rfl
  · obtain ⟨p, rfl, hp, k⟩ := h
    obtain ⟨m1, m2, m3, m4, m5, m6, m7⟩ := menu_lt p hp
    have hl := share_len p hp
    refine ws_asgT (ev_partS (z := shareS p) (sep := "/") (ev_name 0 rfl) ev_str (by decide +kernel) (by omega)) fun v H1 e1 rv => ?_
    rw [share_part p hp] at rv
    obtain ⟨t, rfl, _, ht⟩ := rv
    refine ⟨_, tgt_tup rfl (SqT.of ht) rfl (tgs_cons (tgt_name 1 sc_read_share.nd) (tgs_cons (tgt_name 2 sc_read_share.nd) (tgs_cons (tgt_name 3 sc_read_share.nd) tgs_nil))), ?_⟩
    refine ws_set 4 sc_read_share.nd (ev_tup (ea_cons (ev_call (R := is (.int (p.1 : Nat))) (cal_read_number (P := P) (w := w) (base := base) T) hr (by decide) (ea_cons (ev_name 1 rfl) ea_nil) fun H2 e2 Q q => ⟨p.1, rfl, m3, m1, fun H' e' => q _ H' e' rfl⟩) (ea_cons (ev_call (R := is (.int (p.2 : Nat))) (cal_read_number (P := P) (w := w) (base := base) T) hr (by decide) (ea_cons (ev_name 3 rfl) ea_nil) fun H2 e2 Q q => ⟨p.2, rfl, m4, m2, fun H' e' => q _ H' e' rfl⟩) ea_nil)) (by show 2 ≤ 100000; decide)) fun v H2 e2 rv => ?_
    obtain ⟨q, rfl, _, hq⟩ := rv
    refine ws_ret (R := is (.ref q)) (ev_ifT (EvW.et (ew_and (k := true) (j := true) ((et_neS (x := .str "/") (y := .str "") rfl (ev_name 2 rfl) ev_str).is_ (by decide +kernel)) fun _ => ew_and1 ((et_cmp op_notIn_seq (x := .non) ev_non (ev_name 4 rfl) (rv_notIn (.inr (SqT.of hq)) rfl rfl) rfl).is_ rfl))) (ev_name 4 rfl)) fun v H3 e3 rv => ?_
    cases rv
    exact k _ H3 (e1.trans (e2.trans e3)) ⟨q, rfl, e3 _ _ hq⟩
abbrev nRdWk : List Str := ["row", "words", "share"]
theorem sc_read_work : FnScope nRdWk ["row"] (defScope s_read_work) := ⟨rfl, rfl, rfl, by decide +kernel, rfl, by decide +kernel, by decide +kernel⟩
def spRdWk : Sp := fun vs H Q _ => ∃ wk : Wk, vs = [.str (rowS wk)] ∧ wk ∈ wkAll ∧ ∀ v H', Ex H H' → WK wk v H' → Q v H'
theorem cal_read_work (T : Txt K mg CL CS CP) : C8.Cal P w K mg base 4 "read_work" spRdWk [] := by
  refine cal_mk T.d_read_work sc_read_work (fun vs H Q E h => ?_) fun f cdv A outer s H vs Q E hr h => ?_
  · obtain ⟨wk, rfl, _⟩ := h
    rfl
  · obtain ⟨wk, rfl, hw, k⟩ := h
    obtain ⟨n1, n2, n3, n4⟩ := row_name wk hw
    have hl := (row_len wk hw).2.2.2.2.2.2.2
    obtain ⟨tl, hG⟩ := T.t_GAP
    refine ws_set 1 sc_read_work.nd (ev_splitS (z := rowS wk) (sep := " ") (ev_name 0 rfl) (ev_glob hG ⟨tl, rfl⟩) (by decide +kernel) (by omega)) fun v H1 e1 rv => ?_
    rw [row_split hw] at rv
    obtain ⟨t, rfl, _, ht⟩ := rv
    refine ws_ifF (EvW.et (ew_or (k := false) (j := false) ((et_neS (x := .int (3 : Nat)) (y := .int 3) rfl (ev_lenQ (ev_name 1 rfl) (.inl (SqL.of ht)) T.n_len) ev_int).is_ (by decide)) fun _ => ew_or (k := false) (j := false) ((et_neS (x := .str "work") (y := .str "work") rfl (ev_ixL (ev_name 1 rfl) (ev_int (i := 0)) (SqL.of ht) rfl) ev_str).is_ (by decide +kernel)) fun _ => ew_or1 (et_not (k := true) (et_val (ev_call (R := is (.bl true)) (cal_is_name (P := P) (w := w) (base := base) T) hr (by decide) (ea_cons (ev_ixL (ev_name 1 rfl) (ev_int (i := 1)) (SqL.of ht) rfl) ea_nil) fun H2 e2 Q q => ⟨wk.1, rfl, n1, n2, n3, fun H' e' => q _ H' e' rfl⟩))))) fun H2 e2 => ?_
    refine ws_nil (ws_set 2 sc_read_work.nd (R := fits (T2 wk.2)) (ev_call (R := fits (T2 wk.2)) (cal_read_share (P := P) (w := w) (base := base) T) hr (by decide) (ea_cons (ev_ixL (ev_name 1 rfl) (ev_int (i := 2)) (SqL.of (e2 _ _ ht)) rfl) ea_nil) fun H3 e3 Q q => ⟨wk.2, rfl, n4, fun v H' e' hv => q v H' e' hv⟩) fun v H3 e3 rv => ?_)
    obtain ⟨q, rfl, hq⟩ := rv
    refine ws_ret (R := newT [.str wk.1, .ref q]) (ev_ifT (EvW.et (ew_and (k := true) (j := true) ((et_notN (ev_name 2 rfl)).is_ rfl) fun _ => ew_and1 (et_val (ev_call (R := is (.bl true)) (cal_is_share (P := P) (w := w) (base := base) T) hr (by decide) (ea_cons (ev_name 2 rfl) ea_nil) fun H4 e4 Q qq => ⟨_, wk.2, rfl, ⟨q, rfl, e4 _ _ hq⟩, n4, fun H' e' => qq _ H' e' rfl⟩)))) (ev_tup (ea_cons (ev_ixL (ev_name 1 rfl) (ev_int (i := 1)) (SqL.of ((e2.trans e3) _ _ ht)) rfl) (ea_cons (ev_name 2 rfl) ea_nil)) (by show 2 ≤ 100000; decide))) fun v H4 e4 rv => ?_
    obtain ⟨r, rfl, _, hrr⟩ := rv
    exact k _ H4 (e1.trans (e2.trans (e3.trans e4))) ⟨r, q, rfl, hrr, e4 _ _ hq⟩
end
end TS
/-! ## P4 -/
namespace TS
open PySem PySem.Spec PyProof.Rows L2
theorem row_nl : ∀ w ∈ wkAll, ¬ 10 ∈ (rowS w).cps.toList := by decide +kernel
theorem head_facts : ∀ m, m < 4 → ¬ 10 ∈ (headS m).cps.toList ∧ TL.spl [32] 0 [] (headS m).cps.toList = [("hands" : Str).cps.toList, (natS m).cps.toList] := by decide +kernel
theorem head_split {m : Nat} (h : m < 4) : Txt.split (headS m) " " = [("hands" : Str), natS m] := by
  have e1 : (" " : Str) = SX.S [32] := by decide +kernel
  rw [e1, ← S_tl (headS m), SX.split_S (by decide) (by decide), (head_facts m h).2, List.map_cons, List.map_cons, List.map_nil, S_tl, S_tl]
theorem text_split {m : Nat} {ws : List Wk} (h : m < 4) (ok : okWs ws) : Txt.split (textS m ws) "\n" = headS m :: ws.map rowS := by
  have e1 : ("\n" : Str) = SX.S [10] := by decide +kernel
  have e2 : headS m :: ws.map rowS = ((headS m :: ws.map rowS).map fun s => s.cps.toList).map SX.S := by
    rw [List.map_map]
    conv => lhs; rw [← List.map_id (headS m :: ws.map rowS)]
    exact List.map_congr_left fun s _ => (S_tl s).symm
  unfold textS
  rw [e1]
  conv => lhs; rw [e2]
  rw [SX.join_S, SX.split_S (by decide) (by decide), SX.spl_join (by simp) fun p hp => ?_, ← e2]
  obtain ⟨s, hs, rfl⟩ := List.mem_map.mp hp
  rcases (List.mem_cons).mp hs with rfl | hs
  · exact (head_facts m h).1
  · obtain ⟨w, hw, rfl⟩ := List.mem_map.mp hs
    exact row_nl w (okWs_mem ok w hw)
theorem text_len {m : Nat} {ws : List Wk} (h : m < 4) (ok : okWs ws) : (textS m ws).length ≤ 1000 := by
  have e1 : ("\n" : Str) = SX.S [10] := by decide +kernel
  have hr : ∀ w ∈ ws, (rowS w).length ≤ 20 := fun w hw => (row_len w (okWs_mem ok w hw)).2.2.2.2.2.2.2
  have hl := ok.2.1
  have hh := (head_len m h).2
  have gen : ∀ (parts : List (List Nat)), (∀ p ∈ parts, p.length ≤ 20) → (TL.joinL [10] parts).length ≤ 21 * parts.length := fun parts => by
    induction parts with
    | nil => exact fun _ => Nat.le_refl _
    | cons p r ih =>
      intro hp
      have h1 := hp p List.mem_cons_self
      have h2 := ih fun q hq => hp q (List.mem_cons_of_mem _ hq)
      cases r with
      | nil =>
        show p.length ≤ _
        rw [List.length_cons, List.length_nil]
        omega
      | cons q r =>
        show (p ++ ([10] ++ TL.joinL [10] (q :: r))).length ≤ _
        rw [List.length_append, List.length_append, List.length_cons (as := q :: r)]
        simp only [List.length_singleton]
        omega
  have e2 : headS m :: ws.map rowS = ((headS m :: ws.map rowS).map fun s => s.cps.toList).map SX.S := by
    rw [List.map_map]
    conv => lhs; rw [← List.map_id (headS m :: ws.map rowS)]
    exact List.map_congr_left fun s _ => (S_tl s).symm
  unfold textS
  rw [e1, e2, SX.join_S]
  have hlen : ∀ s : Str, s.cps.toList.length = s.length := fun s => Array.length_toList
  have := gen ((headS m :: ws.map rowS).map fun s => s.cps.toList) fun p hp => by
    obtain ⟨s, hs, rfl⟩ := List.mem_map.mp hp
    rw [hlen]
    rcases (List.mem_cons).mp hs with rfl | hs
    · exact hh
    · obtain ⟨w, hw, rfl⟩ := List.mem_map.mp hs
      exact hr w hw
  rw [List.length_map, List.length_cons, List.length_map] at this
  have e3 : (SX.S (TL.joinL [10] ((headS m :: ws.map rowS).map fun s => s.cps.toList))).length = (TL.joinL [10] ((headS m :: ws.map rowS).map fun s => s.cps.toList)).length := List.size_toArray
  rw [e3]
  omega
theorem names_ne : ∀ i, i < 3 → ∀ j, j < 3 → i ≠ j → ∀ w ∈ wkAt i, ∀ w' ∈ wkAt j, w.1 ≠ w'.1 := by decide +kernel
theorem names_nodup {ws : List Wk} (ok : okWs ws) : (ws.map fun w => (Sum.inr w.1 : L2.Key)).Nodup := by
  rw [List.Nodup, List.pairwise_iff_getElem]
  intro i j hi hj hij
  rw [List.length_map] at hi hj
  have h3 := ok.2.1
  rw [List.getElem_map, List.getElem_map]
  intro e
  have e' := Sum.inr.inj e
  exact names_ne i (by omega) j (by omega) (by omega) _ (ok.2.2 i _ (List.getElem?_eq_getElem hi)) _ (ok.2.2 j _ (List.getElem?_eq_getElem hj)) e'
theorem mergeK_len : ∀ (more acc : List (L2.Key × V)), (∀ kv ∈ more, valV acc kv.1 = none) → (more.map (·.1)).Nodup → (mergeK acc more).length = acc.length + more.length
  | [], acc, _, _ => rfl
  | p :: r, acc, h, n => by
    have h0 := h p List.mem_cons_self
    rw [List.map_cons, List.nodup_cons] at n
    show (mergeK (putK acc p.1 p.2) r).length = _
    rw [mergeK_len r _ (fun kv hkv => ?_) n.2, putK_new _ h0, List.length_append, List.length_cons]
    · show acc.length + 1 + r.length = acc.length + (r.length + 1)
      omega
    · rw [valV_put, if_neg (fun e => n.1 (by rw [← e]; exact List.mem_map.mpr ⟨kv, hkv, rfl⟩))]
      exact h kv (List.mem_cons_of_mem _ hkv)
def wkD (w : Wk) : PyData := .tuple [.str w.1, .tuple [.int (w.2.1 : Nat), .int (w.2.2 : Nat)]]
theorem name_ok : ∀ w ∈ wkAll, PyData.strOk w.1 = true := by decide +kernel
theorem canLay_wks : ∀ ws : List Wk, (∀ w ∈ ws, w ∈ wkAll) → PyData.canLayAll0 (ws.map wkD) = true := fun ws => by
  induction ws with
  | nil => exact fun _ => rfl
  | cons s ss ih =>
    intro h
    have h1 := name_ok s (h s List.mem_cons_self)
    have h2 := ih fun w hw => h w (List.mem_cons_of_mem _ hw)
    simp [PyData.canLayAll0, PyData.canLay0, wkD, h1, h2]
theorem depth_wks : ∀ ws : List Wk, PyData.depthAll (ws.map wkD) ≤ 2 := fun ws => by
  induction ws with
  | nil => simp [PyData.depthAll]
  | cons s ss ih => simp [PyData.depthAll, PyData.depth, wkD]; omega
theorem shaped_wks (ws : List Wk) (h : ∀ w ∈ ws, w ∈ wkAll) : SeqAt.shaped (.list (ws.map wkD)) = true := by
  unfold SeqAt.shaped
  rw [Bool.and_eq_true]
  refine ⟨?_, decide_eq_true ?_⟩
  · simp only [PyData.canLay0]
    exact canLay_wks ws h
  · simp only [PyData.depth]
    have := depth_wks ws
    omega
theorem none_wks (ws : List Wk) : ((ws.map wkD).any fun z => PyData.eqv z .none) = false := by
  induction ws with
  | nil => rfl
  | cons w ws ih =>
    rw [List.map_cons, List.any_cons, ih]
    rfl
section
variable {X : Cx} {σ : L2.St} {H : Hp} {a b c e o : Expr} {es : List Expr} {pos : Pos} {R : RT} {x y v : V} {D : Ends} {rest : List Stmt}
theorem ws_setCE {tg iter elt : Expr} {scope : Scope} {n : Nat} {Y : Nat → Hp → V → Hp → Prop} {y : Str} {py p2 : Pos} (i : Nat) (own : List (Str × Nat)) (hc : X.calm = true) (hN : X.N.Nodup) (ok : BlkOk X.N X.env.scope scope own) (hs : SrcE X tg iter σ H n Y) (hn : n ≤ 90000) (P : Nat → V → Hp → Prop) (hP : ∀ i, SMono (P i))
    (hY : ∀ i H x H', Y i H x H' → Ex H H') (turn : ∀ i x Ha Hb, i < n → Ex H Ha → Y i Ha x Hb → CTurn X scope tg elt none (own.map (·.2)) σ x Hb true (P i)) (k : ∀ v H1, Ex H H1 → newC n (fun _ => true) P H v H1 → wS X rest D (σ.set i (some v)) H1)
    (hsw : swapsWith (.ListComp elt [⟨tg, iter, [], 0⟩] scope p2) (some (.Name y py)) pos.line X.env = pure true) (hy : X.N[i]? = some y := by rfl) (hyl : X.env.scope.names.lookup y = some .local := by rfl) (hfs : ∀ x, foldedSetIterable iter X.env x = pure x := by intro _; rfl) :
    wS X (.Assign [.Name y py] (.ListComp elt [⟨tg, iter, [], 0⟩] scope p2) pos :: rest) D σ H :=
  ws_cons (ps_setLc (own := own) hc hN hy hyl hsw pi_w ok (fun s H C cl fp => ⟨fun pins s' σ H' v u Q I r h => h s H C cl fp pins s' u I r⟩) (pts_w (tst := none)) (fun s H C cl fp => ⟨fun pins s' σ H' Q I h => h s H C cl fp pins s' I⟩) hfs)
    (comp_coreE (tst := none) hs hn (fun _ => true) P hP hY turn H (Ex.refl _) _ fun v H1 e1 r1 => k v H1 e1 r1)
theorem et_noneIn {ws : List Wk} {us : List V} {l : Addr} (hu : X.A.units + 65 < cLine) (ha : Ev X a σ H (is .non)) (hb : Ev X b σ H (is (.ref l))) (hl : H l = some (.lst us)) (hw : All2 (fun w u => WK w u H) ws us) (hall : ∀ w ∈ ws, w ∈ wkAll) (hm : behindInMarks .In b = false := by rfl) : EvT X (.Compare a [.In] [b] pos) σ H false :=
  et_cmp (op_inD hu) ha hb (RV.val fun H1 e1 Q q => ⟨.none, ws.map wkD, .non, .lst (SqL.of (e1 _ _ hl)) (dpA_ex e1 _ _ (dp_all2 (fun w u ⟨x, q, e, h1, h2⟩ => by rw [e]; exact .tup (SqT.of h1) (.cons (.str _) (.cons (.tup (SqT.of h2) (.cons (.int _) (.cons (.int _) .nil))) .nil))) hw)), by decide, shaped_wks ws hall, by rw [none_wks]; exact q⟩) hm
theorem pairs_wk {K : PySem.W.Frag} {H : Hp} : ∀ {ws : List Wk} {us : List V}, All2 (fun w u => WK w u H) ws us → ∃ (ps : List Addr) (kvs : List (L2.Key × V)), us = ps.map V.ref ∧ Paired (fun p (kv : L2.Key × V) => SqT K H p [kV kv.1, kv.2]) ps kvs ∧ kvs.map (·.1) = ws.map fun w => (Sum.inr w.1 : L2.Key)
  | _, _, .nil => ⟨[], [], rfl, .nil, rfl⟩
  | w :: ws, _, .cons ⟨x, q, e, h1, h2⟩ t => by
    obtain ⟨ps, kvs, rfl, h3, h4⟩ := pairs_wk (K := K) t
    subst e
    exact ⟨x :: ps, (.inr w.1, .ref q) :: kvs, rfl, .cons (SqT.of h1) h3, by rw [List.map_cons, List.map_cons, h4]⟩
theorem ev_lenDict {ws : List Wk} {us : List V} {l : Addr} {p1 p2 : Pos} (hc : X.calm = true) (ok : okWs ws) (he : Ev X e σ H (is (.ref l))) (hl : H l = some (.lst us)) (hw : All2 (fun w u => WK w u H) ws us) (hm : X.mg "dict" = none) (hm2 : X.mg "len" = none) (hg : Gl X "dict" := by rfl) (hg2 : Gl X "len" := by rfl) (hs : starEach [e] X.env = (false, eval e X.env) :: starEach [] X.env := by rfl)
    (hs2 : starEach [.Call (.Name "dict" p1) [e] [] pos] X.env = (false, eval (.Call (.Name "dict" p1) [e] [] pos) X.env) :: starEach [] X.env := by rfl) {pos2 : Pos} : Ev X (.Call (.Name "len" p2) [.Call (.Name "dict" p1) [e] [] pos] [] pos2) σ H (is (.int (ws.length : Nat))) :=
  ev_callBG (R := is (.int (ws.length : Nat))) call_lenD hm2 (by decide +kernel) (eg_one (ev_callTyG (R := fun H1 v H2 => ∃ p kvs, v = .ref p ∧ H2 p = some (.dK kvs) ∧ kvs.length = ws.length) (call_dictP hc) hm (by decide +kernel) (eg_one he hs) (fun H1 vs H2 e1 e2 t Q q => by
    obtain ⟨v, rfl, Hm, em, rv, rfl⟩ := t
    cases rv
    obtain ⟨ps, kvs, rfl, h3, h4⟩ := pairs_wk (K := X.K) (hw.imp fun w u z => WK.sx _ _ _ (e1.trans e2).sx z)
    refine ⟨l, ps, kvs, rfl, SqL.of ((e1.trans e2) _ _ hl), h3, fun d hd => q _ _ (Ex.new hd) ⟨d, _, rfl, upd_same, ?_⟩⟩
    rw [mergeK_len kvs [] (fun _ _ => rfl) (by rw [h4]; exact names_nodup ok), List.length_nil, Nat.zero_add, ← List.length_map (f := (·.1)), h4, List.length_map]) hg (by decide) (by decide) hs rfl) hs2) (fun H1 vs H2 e1 e2 t Q q => by
    obtain ⟨v, rfl, Hm, em, ⟨p, kvs, rfl, h1, h2⟩, rfl⟩ := t
    refine ⟨p, kvs, rfl, h1, ?_⟩
    rw [h2]
    exact q _ _ (Ex.refl _) rfl) hg2 (by decide) (by decide) hs2 rfl
end
end TS
/-! ## ND -/
/-! dicts keyed by pairs of tuples of whole numbers, their values things of the heap -/
namespace TS
open PySem PySem.Spec PyProof.Rows L2
abbrev NK := List Nat × List Nat
abbrev NEnt := NK × Addr × Addr
def nk (k : NK) : NestedKey := .tup [.tup (k.1.map fun (n : Nat) => .num (n : Int)), .tup (k.2.map fun (n : Nat) => .num (n : Int))]
theorem nums_inj : ∀ {ns ms : List Nat}, (ns.map fun (n : Nat) => NestedKey.num (n : Int)) = (ms.map fun (n : Nat) => NestedKey.num (n : Int)) → ns = ms
  | [], [], _ => rfl
  | [], _ :: _, h => by cases h
  | _ :: _, [], h => by cases h
  | n :: ns, m :: ms, h => by
    have h1 := (List.cons.inj h).1
    have h2 := nums_inj (ns := ns) (ms := ms) (List.cons.inj h).2
    have e2 : (n : Int) = (m : Int) := NestedKey.num.inj h1
    rw [h2, show n = m by omega]
theorem nk_inj {a b : NK} (h : nk a = nk b) : a = b := by
  have h1 := NestedKey.tup.inj h
  have h2 := List.cons.inj h1
  have h3 := List.cons.inj h2.2
  exact Prod.ext (nums_inj (NestedKey.tup.inj h2.1)) (nums_inj (NestedKey.tup.inj h3.1))
theorem depth_numsK : ∀ ns : List Nat, NestedKey.depthAll (ns.map fun (n : Nat) => NestedKey.num (n : Int)) = 0
  | [] => by simp [NestedKey.depthAll]
  | n :: ns => by simp [NestedKey.depthAll, NestedKey.depth, depth_numsK ns]
theorem nk_depth (k : NK) : (nk k).depth ≤ 8 := by
  unfold nk
  simp [NestedKey.depth, NestedKey.depthAll, depth_numsK]
def kEnt (x : NEnt) : NestedKey × Addr × Value := (nk x.1, x.2.1, .ref x.2.2)
def fixO (d : Addr) (o : Obj) : HO := .ext fun h => h.get? d = some o
def KeyAt (H : Hp) (k : NK) (t : Addr) : Prop := ∃ a b, H t = some (.tup [.ref a, .ref b]) ∧ H a = some (.tup (nums k.1)) ∧ H b = some (.tup (nums k.2))
theorem KeyAt.sx {H H' : Hp} {k : NK} {t : Addr} (h : KeyAt H k t) (e : Sx H H') : KeyAt H' k t := let ⟨a, b, h1, h2, h3⟩ := h; ⟨a, b, e _ _ h1 rfl, e _ _ h2 rfl, e _ _ h3 rfl⟩
def ND (P : Program) (w : World) (H : Hp) (d : Addr) (xs : List NEnt) : Prop := (d == sysModules) = false ∧ xs.length ≤ 90000 ∧ (∀ x ∈ xs, KeyAt H x.1 x.2.1) ∧ (xs.map (·.1)).Nodup ∧
  ∃ o es ep, H d = some (fixO d o) ∧ o.ExactDict ∧ o.data = .dict es ep ∧ es.toList = xs.map fun x => entryOfKey (nestedKind P w) (kEnt x)
theorem ND.ex {P : Program} {w : World} {H H' : Hp} {d : Addr} {xs : List NEnt} (h : ND P w H d xs) (e : Ex H H') : ND P w H' d xs :=
  let ⟨h1, h2, h3, h4, o, es, ep, h5, h6⟩ := h
  ⟨h1, h2, fun x hx => (h3 x hx).sx e.sx, h4, o, es, ep, e _ _ h5, h6⟩
def atE (xs : List NEnt) (k : NK) : Option Addr := (xs.find? fun x => decide (x.1 = k)).map (·.2.2)
def putE (xs : List NEnt) (k : NK) (t v : Addr) : List NEnt := if (atE xs k).isSome then xs.map fun x => if x.1 = k then (x.1, x.2.1, v) else x else xs ++ [(k, t, v)]
theorem at_kEnt (xs : List NEnt) (k : NK) : (atKey (xs.map kEnt) (nk k)).map (·.2) = (atE xs k).map fun v => Value.ref v := by
  induction xs with
  | nil => rfl
  | cons x xs ih =>
    by_cases h : x.1 = k
    · subst h
      simp [atKey, atE, kEnt]
    · have h' : ¬ nk x.1 = nk k := fun e => h (nk_inj e)
      simpa [atKey, atE, kEnt, h, h'] using ih
theorem atSome_kEnt (xs : List NEnt) (k : NK) : (atKey (xs.map kEnt) (nk k)).isSome = (atE xs k).isSome := by
  have h := congrArg Option.isSome (at_kEnt xs k)
  rw [Option.isSome_map, Option.isSome_map] at h
  exact h
theorem put_kEnt (xs : List NEnt) (k : NK) (t v : Addr) : storedH (xs.map kEnt) (nk k) t (.ref v) = (putE xs k t v).map kEnt := by
  unfold storedH putE
  rw [atSome_kEnt]
  split
  · rw [List.map_map, List.map_map]
    refine List.map_congr_left fun x hx => ?_
    by_cases h : x.1 = k
    · simp [putAt, kEnt, h]
    · have h' : ¬ nk x.1 = nk k := fun e => h (nk_inj e)
      simp [putAt, kEnt, h, h']
  · simp [kEnt]
theorem atE_put (xs : List NEnt) (k : NK) (t v : Addr) (j : NK) : atE (putE xs k t v) j = if j = k then some v else atE xs j := by
  unfold putE
  cases hs : (atE xs k).isSome with
  | true =>
    rw [if_pos rfl]
    induction xs with
    | nil => cases hs
    | cons x xs ih =>
      by_cases hx : x.1 = k
      · by_cases hj : j = k
        · subst hj
          simp [atE, hx]
        · have : ¬ x.1 = j := fun e => hj (e.symm.trans hx)
          have hk : ¬ k = j := fun e => hj e.symm
          rw [if_neg hj]
          cases hs2 : (atE xs k).isSome with
          | true =>
            have q := ih hs2
            rw [if_neg hj] at q
            simpa [atE, hx, this, hk] using q
          | false =>
            have q : (xs.map fun x => if x.1 = k then (x.1, x.2.1, v) else x) = xs := by
              refine (List.map_congr_left fun y hy => ?_).trans (List.map_id _)
              have : ¬ y.1 = k := fun e => by
                unfold atE at hs2
                rw [Option.isSome_map, Option.isSome_eq_false_iff, Option.isNone_iff_eq_none, List.find?_eq_none] at hs2
                exact hs2 y hy (decide_eq_true e)
              rw [if_neg this]
              rfl
            simp only [List.map_cons, q]
            simp [atE, hx, hk]
      · have hs2 : (atE xs k).isSome = true := by simpa [atE, hx] using hs
        have q := ih hs2
        by_cases hj : x.1 = j
        · have : ¬ j = k := fun e => hx (hj.trans e)
          rw [if_neg this]
          simp [atE, hx, hj, this]
        · simpa [atE, hx, hj] using q
  | false =>
    rw [if_neg (by decide)]
    have hn : xs.find? (fun x => decide (x.1 = k)) = none := by
      unfold atE at hs
      rw [Option.isSome_map, Option.isSome_eq_false_iff, Option.isNone_iff_eq_none] at hs
      exact hs
    unfold atE
    rw [List.find?_append]
    by_cases hj : j = k
    · subst hj
      rw [hn, if_pos rfl]
      simp
    · rw [if_neg hj]
      have : ¬ k = j := fun e => hj e.symm
      cases hf : xs.find? (fun x => decide (x.1 = j)) with
      | none => simp [this]
      | some y => simp
theorem putE_keys (xs : List NEnt) (k : NK) (t v : Addr) : ∀ x ∈ putE xs k t v, (∃ y ∈ xs, x.1 = y.1 ∧ x.2.1 = y.2.1) ∨ (x.1 = k ∧ x.2.1 = t) := fun x hx => by
  unfold putE at hx
  split at hx
  · obtain ⟨y, hy, rfl⟩ := List.mem_map.mp hx
    refine .inl ⟨y, hy, ?_⟩
    by_cases h : y.1 = k
    · rw [if_pos h]; exact ⟨rfl, rfl⟩
    · rw [if_neg h]; exact ⟨rfl, rfl⟩
  · rcases List.mem_append.mp hx with h | h
    · exact .inl ⟨x, h, rfl, rfl⟩
    · rw [List.mem_singleton.mp h]; exact .inr ⟨rfl, rfl⟩
theorem putE_len (xs : List NEnt) (k : NK) (t v : Addr) : (putE xs k t v).length ≤ xs.length + 1 := by
  unfold putE
  split
  · rw [List.length_map]; omega
  · rw [List.length_append]; exact Nat.le_refl _
theorem putE_nodup (xs : List NEnt) (k : NK) (t v : Addr) (h : (xs.map (·.1)).Nodup) : ((putE xs k t v).map (·.1)).Nodup := by
  unfold putE
  cases hs : (atE xs k).isSome with
  | true =>
    rw [if_pos rfl, List.map_map]
    have e : ((fun (x : NEnt) => x.1) ∘ fun x => if x.1 = k then (x.1, x.2.1, v) else x) = fun x => x.1 := by
      funext x
      show (if x.1 = k then (x.1, x.2.1, v) else x).1 = x.1
      split <;> rfl
    rw [e]
    exact h
  | false =>
    rw [if_neg (by decide), List.map_append]
    refine List.nodup_append.mpr ⟨h, (by simp), fun a ha b hb => ?_⟩
    rw [List.map_cons, List.map_nil, List.mem_singleton] at hb
    subst hb
    intro e
    subst e
    obtain ⟨y, hy, e⟩ := List.mem_map.mp ha
    unfold atE at hs
    rw [Option.isSome_map, Option.isSome_eq_false_iff, Option.isNone_iff_eq_none, List.find?_eq_none] at hs
    exact hs y hy (decide_eq_true e)
theorem atE_mem {xs : List NEnt} {k : NK} {v : Addr} (h : atE xs k = some v) : ∃ t, (k, t, v) ∈ xs := by
  unfold atE at h
  cases hf : xs.find? (fun x => decide (x.1 = k)) with
  | none => rw [hf] at h; exact nomatch h
  | some y =>
    rw [hf] at h
    have h1 := List.find?_some hf
    have h2 := List.mem_of_find?_eq_some hf
    have e : y.1 = k := of_decide_eq_true h1
    cases h
    exact ⟨y.2.1, by rw [← e]; exact h2⟩
theorem atE_of_mem {xs : List NEnt} (hn : (xs.map (·.1)).Nodup) {k : NK} {t v : Addr} (h : (k, t, v) ∈ xs) : atE xs k = some v := by
  induction xs with
  | nil => cases h
  | cons x xs ih =>
    rw [List.map_cons] at hn
    rw [List.nodup_cons] at hn
    rcases (List.mem_cons).mp h with e | e
    · subst e
      simp [atE]
    · have : ¬ x.1 = k := fun z => hn.1 (by rw [z]; exact List.mem_map.mpr ⟨_, e, rfl⟩)
      have q := ih hn.2 e
      simpa [atE, this] using q
section
variable {X : Cx} {s : Shared} {pins : List (Addr × Obj)} {σ : L2.St} {H : Hp}
theorem nested_nums {h : Heap} : ∀ {ns : List Nat} {us : List Value}, Vals (nums ns) us → NestedAll h (ns.map fun (n : Nat) => NestedKey.num (n : Int)) us
  | [], _, r => by cases r; exact .nil
  | n :: ns, _, r => by
    cases r with
    | cons r1 r2 =>
      obtain ⟨t, rfl⟩ := r1
      exact .cons (.int _ _) (nested_nums r2)
theorem nested_at (I : Inv X pins σ H s) {a : Addr} {ns : List Nat} (h : H a = some (.tup (nums ns))) : NestedIs s.heap (.tup (ns.map fun (n : Nat) => .num (n : Int))) (.ref a) := by
  obtain ⟨_, its, rv, o, ho, hc, n, hd⟩ := I.hok _ _ h
  exact .tup ho hc hd (nested_nums rv)
theorem nk_is (I : Inv X pins σ H s) {k : NK} {t : Addr} (h : KeyAt H k t) : (nestedKind X.prog X.w).is s.heap (nk k) t := by
  obtain ⟨a, b, h1, h2, h3⟩ := h
  obtain ⟨_, its, rv, o, ho, hc, n, hd⟩ := I.hok _ _ h1
  obtain ⟨u1, u2, rfl, r1, r2⟩ := vals2 rv
  cases r1
  cases r2
  exact ⟨.tup ho hc hd (.cons (nested_at I h2) (.cons (nested_at I h3) .nil)), nk_depth k⟩
theorem nd_dict (I : Inv X pins σ H s) {d : Addr} {xs : List NEnt} (h : ND X.prog X.w H d xs) : s.heap.DictOfH (nestedKind X.prog X.w) d (xs.map kEnt) := by
  obtain ⟨h1, h2, h3, h4, o, es, ep, h5, h6, h7, h8⟩ := h
  obtain ⟨ho, _, _⟩ := I.hok _ _ h5
  refine ⟨o, es, ep, ho, h6, h7, by rw [List.map_map]; exact h8, fun x hx => ?_, ?_⟩
  · obtain ⟨y, hy, rfl⟩ := List.mem_map.mp hx
    exact nk_is I (h3 y hy)
  · rw [List.map_map]
    have e : ((fun (x : NestedKey × Addr × Value) => x.1) ∘ kEnt) = nk ∘ fun (x : NEnt) => x.1 := rfl
    rw [e, ← List.map_map]
    exact List.Pairwise.map _ (fun a b hab z => hab (nk_inj z)) h4
theorem fix_ok {P : Program} {w : World} {H : Hp} {h : Heap} {d : Addr} {o : Obj} (e : h.get? d = some o) : ObjOk P w H h d (fixO d o) := ⟨e, ⟨o, e⟩, fun h1 h2 q k => k _ q⟩
end
section
variable {X : Cx} {a b c e o d i value : Expr} {es : List Expr} {σ : L2.St} {H H' : Hp} {x y z v : V} {R R' : RT} {pos pos' apos cpos : Pos} {D : Ends} {rest sts : List Stmt} {td ty tv : TE}
/-! ### {} -/
def tNnew (P : Program) (w : World) : TE := fun _ H Q => ∀ p ob, H p = none → ND P w (upd H p (fixO p ob)) p [] → Q (.ref p) (upd H p (fixO p ob))
theorem pe_nnew : PE X (.Dict [] [] pos) (tNnew X.prog X.w) := ⟨fun pins s σ H Q I h => by
  have hn := I.hok.fresh (a := s.heap.objs.size) (Nat.le_refl _)
  have hg : (s.heap.push { cls := .type "dict", data := .dict #[] }).get? s.heap.objs.size = some { cls := .type "dict", data := .dict #[] } := Heap.get?_push_size _ rfl
  refine wpAny_Dict_empty ⟨.ref s.heap.objs.size, _, I.laid (a := s.heap.objs.size) (o := fixO s.heap.objs.size { cls := .type "dict", data := .dict #[] }) (t' := s.toks) (fun _ _ q => Heap.get?_push_of_some _ q) (Nat.le_refl _) (fix_ok hg), rfl, h _ _ hn ⟨?_, Nat.zero_le _, fun (x : NEnt) (hx : x ∈ ([] : List NEnt)) => (nomatch hx), List.nodup_nil, _, #[], 0, upd_same, ?_, rfl, rfl⟩⟩
  · exact beq_eq_false_iff_ne.mpr (Nat.ne_of_gt I.big)
  · obtain ⟨o2, es2, ep2, e2, c2, d2, _⟩ := Heap.DictOfH.new (knd := nestedKind X.prog X.w) s.heap
    rw [hg] at e2
    cases e2
    exact c2⟩
/-! ### k not in d -/
def tNnotin (P : Program) (w : World) (ty td : TE) : TE := fun σ H Q => ty σ H fun y H1 => td σ H1 fun x H2 => ∃ t d k xs, y = .ref t ∧ x = .ref d ∧ KeyAt H2 k t ∧ ND P w H2 d xs ∧ Q (.bl (!(atE xs k).isSome)) H2
theorem room_n {A : Around} (h : A.units + 64 < cLine) : (nestedKind X.prog X.w).room A.in1 := by
  show A.units + 1 + 8 < cLine
  omega
theorem pc_nnotin (hu : X.A.units + 64 < cLine) (hi : PE X i ty) (ho : PE X o td) : PC X .NotIn i o (tNnotin X.prog X.w ty td) := by
  refine ⟨fun pins s σ H Q I h => ?_⟩
  refine thn (hi.run pins s σ H _ I h) fun iv s1 ⟨y, H1, I1, ry, q1⟩ => thn (ho.run pins s1 σ H1 _ I1 q1) fun u s2 ⟨x, H2, I2, rx, t, d, k, xs, ey, ex, hk, hd, q2⟩ => ?_
  subst ex ey
  cases (show u = Value.ref d from rx)
  obtain rfl : iv = Value.ref t := ry
  refine notIn_keyed (room_n hu) (nk_is I2 hk) hd.1 ⟨_, nd_dict I2 hd, rfl⟩ ?_
  rw [valueAt_pairsH, Option.isSome_map, atSome_kEnt]
  exact ⟨.bl (!(atE xs k).isSome), H2, I2.tok _, rfl, q2⟩
/-! ### d[k] -/
def tNget (P : Program) (w : World) (td ty : TE) : TE := fun σ H Q => td σ H fun x H1 => ty σ H1 fun y H2 => ∃ t d k xs v, y = .ref t ∧ x = .ref d ∧ KeyAt H2 k t ∧ ND P w H2 d xs ∧ atE xs k = some v ∧ Q (.ref v) H2
theorem pe_nget (hu : X.A.units + 64 < cLine) (ho : PE X o td) (hi : PE X i ty) (hs : NoSl i) : PE X (.Subscript o i pos) (tNget X.prog X.w td ty) := by
  refine ⟨fun pins s σ H Q I h => ?_⟩
  refine subD_of PySem.F.slot_dict_getitem.lookup hs (thn (ho.run pins s σ H _ I h) fun u s1 ⟨x, H1, I1, rx, q1⟩ => thn (hi.run pins s1 σ H1 _ I1 q1) fun iv s2 ⟨y, H2, I2, ry, t, d, k, xs, v, ey, ex, hk, hd, hv, q2⟩ => ?_)
  subst ex ey
  cases (show u = Value.ref d from rx)
  obtain rfl : iv = Value.ref t := ry
  have dd := nd_dict I2 hd
  have hp := at_kEnt xs k
  rw [hv] at hp
  obtain ⟨p, hp1, hp2⟩ := Option.map_eq_some_iff.mp hp
  refine ⟨dd.typeIs, wpAny_getItem_heap (room_n hu) (nk_is I2 hk) dd hp1 ?_⟩
  rw [hp2]
  exact ⟨.ref v, H2, I2.tok _, rfl, q2⟩
/-! ### d[k] = v -/
def sNput (P : Program) (w : World) (td ty tv : TE) : TS := fun D σ H => tv σ H fun v H1 => td σ H1 fun x H2 => ty σ H2 fun y H3 => ∃ t d k xs p, y = .ref t ∧ x = .ref d ∧ v = .ref p ∧ KeyAt H3 k t ∧ ND P w H3 d xs ∧ xs.length < 90000 ∧ ∀ ob, ND P w (upd H3 d (fixO d ob)) d (putE xs k t p) → D.nx σ (upd H3 d (fixO d ob))
theorem ps_nput (hu : X.A.units + 64 < cLine) (ho : PE X o td) (hi : PE X i ty) (hv : PE X value tv) (hs : swapsWith value (some (.Subscript o i pos')) pos.line X.env = pure false) :
    PS X (.Assign [.Subscript o i pos'] value pos) (sNput X.prog X.w td ty tv) := by
  refine ⟨fun pins s σ H D I h => ?_⟩
  refine wpAny_Assign_Subscript (thn (hv.run pins s σ H _ I h) fun r s1 ⟨v, H1, I1, rv, q1⟩ => thn (ho.run pins s1 σ H1 _ I1 q1) fun u s2 ⟨x, H2, I2, rx, q2⟩ => thn (hi.run pins s2 σ H2 _ I2 q2) fun iv s3 ⟨y, H3, I3, ry, t, d, k, xs, p, ey, ex, ev, hk, hd, hl, q3⟩ => ?_) hs
  subst ex ey ev
  cases (show u = Value.ref d from rx)
  obtain rfl : iv = Value.ref t := ry
  obtain rfl : r = Value.ref p := rv
  have dd := nd_dict I3 hd
  have hz : (xs.map kEnt).length ≤ sizeLine := by rw [List.length_map]; exact sz_of (by omega)
  refine wpAny_setItem_heap (hsz := hz) (room_n hu) (nk_is I3 hk) dd fun h' dd' hsb => ?_
  rw [put_kEnt] at dd'
  obtain ⟨ob, es', ep', g1, g2, g3, g4, g5, g6⟩ := dd'
  obtain ⟨n1, n2, n3, n4, o0, es0, ep0, n5, _⟩ := hd
  have hw : Inv X pins σ (upd H3 d (fixO d ob)) { s3 with heap := h', toks := s3.toks + (nestedKind X.prog X.w).draws (nk k) } := d_write I3 (by rw [n5]; exact True.intro) hsb ⟨ob, g1⟩ (fix_ok g1)
  have stay : ∀ k t, KeyAt H3 k t → KeyAt (upd H3 d (fixO d ob)) k t := fun k t ⟨a, b, z1, z2, z3⟩ => by
    have ne : ∀ c ys, H3 c = some (.tup ys) → c ≠ d := fun c ys q e => by
      subst e
      rw [n5] at q
      cases q
    exact ⟨a, b, by rw [upd_ne (ne _ _ z1)]; exact z1, by rw [upd_ne (ne _ _ z2)]; exact z2, by rw [upd_ne (ne _ _ z3)]; exact z3⟩
  refine ⟨σ, _, hw, q3 ob ⟨n1, Nat.le_trans (putE_len xs k t p) hl, fun x hx => ?_, putE_nodup xs k t p n4, ob, es', ep', upd_same, g2, g3, by rw [List.map_map] at g4; exact g4⟩⟩
  rcases putE_keys xs k t p x hx with ⟨y, hy, e1, e2⟩ | ⟨e1, e2⟩
  · rw [e1, e2]
    exact stay _ _ (n3 y hy)
  · rw [e1, e2]
    exact stay _ _ hk
/-! ### {k: v} -/
def tNdisp (P : Program) (w : World) (tk tv : TE) : TE := fun σ H Q => ∀ d ob, H d = none → tk σ (upd H d (fixO d ob)) fun y H1 => tv σ H1 fun v H2 => H2 d = some (fixO d ob) ∧ ∃ t k p, y = .ref t ∧ v = .ref p ∧ KeyAt H2 k t ∧ ∀ ob', ND P w (upd H2 d (fixO d ob')) d [(k, t, p)] → Q (.ref d) (upd H2 d (fixO d ob'))
theorem pe_ndisp {k0 v0 : Expr} {tk tv : TE} (hu : X.A.units + 64 < cLine) (hk : PE X k0 tk) (hv : PE X v0 tv) : PE X (.Dict [some k0] [v0] pos) (tNdisp X.prog X.w tk tv) := by
  constructor
  intro pins s σ H Q I q
  have hn := I.hok.fresh (a := s.heap.objs.size) (Nat.le_refl _)
  have hg : (s.heap.push { cls := .type "dict", data := .dict #[] }).get? s.heap.objs.size = some { cls := .type "dict", data := .dict #[] } := Heap.get?_push_size _ rfl
  have I1 : Inv X pins σ (upd H s.heap.objs.size (fixO s.heap.objs.size { cls := .type "dict", data := .dict #[] })) { s with heap := s.heap.push { cls := .type "dict", data := .dict #[] }, toks := s.toks } := I.laid (a := s.heap.objs.size) (fun _ _ q => Heap.get?_push_of_some _ q) (Nat.le_refl _) (fix_ok hg)
  have hl : (pairTrees [some k0] [v0] X.env pos).length = 1 := pairTrees_length [some k0] [v0] X.env pos rfl rfl
  have hne : pairTrees [some k0] [v0] X.env pos ≠ [] := fun e => by rw [e] at hl; cases hl
  rw [arm_eval_Dict, zip_pairTrees [some k0] [v0] X.env pos rfl rfl, dictDisplay_pairs _ hne (by rw [hl]; decide)]
  refine wpAny_bind (wpAny_standAt (wpAny_bind (wpAny_subDictH (knd := nestedKind X.prog X.w) (Q := fun d s' => wpAny (model X.prog X.w) X.A (pure (Value.ref d)) (EP X pins σ Q) X.xe s') (by show X.A.units + 8 < cLine; omega) (by rw [hl]; decide) ?_)))
  refine pairTrees_cons_walk (thn (hk.run pins _ σ _ _ I1 (q s.heap.objs.size { cls := .type "dict", data := .dict #[] } hn)) fun u1 s1 ⟨y, H1, I1', r11, q1⟩ => thn (hv.run pins s1 σ H1 _ I1' q1) fun u2 s2 ⟨v, H2, I2, r12, hd2, t, k, p, ey, ev, hka, q3⟩ => pairTrees_nil_walk ?_)
  subst ey ev
  obtain rfl : u1 = Value.ref t := r11
  obtain rfl : u2 = Value.ref p := r12
  obtain ⟨hob, _, _⟩ := I2.hok _ _ hd2
  have dd : s2.heap.DictOfH (nestedKind X.prog X.w) s.heap.objs.size [] := ⟨_, #[], 0, hob, by
    obtain ⟨o2, es2, ep2, e2, c2, d2, _⟩ := Heap.DictOfH.new (knd := nestedKind X.prog X.w) s.heap
    rw [hg] at e2
    cases e2
    exact c2, rfl, rfl, (fun x hx => nomatch hx), List.nodup_nil⟩
  refine ⟨[(nk k, t, .ref p)], ⟨rfl, rfl, nk_is I2 hka, True.intro⟩, dd, fun h' tk' dd' hsb => wpAny_pure ?_⟩
  obtain ⟨ob, es', ep', g1, g2, g3, g4, g5, g6⟩ := dd'
  have hw : Inv X pins σ (upd H2 s.heap.objs.size (fixO s.heap.objs.size ob)) { s2 with heap := h', toks := tk' } := d_write I2 (by rw [hd2]; exact True.intro) hsb ⟨ob, g1⟩ (fix_ok g1)
  have ne : ∀ c ys, H2 c = some (.tup ys) → c ≠ s.heap.objs.size := fun c ys q e => by
    subst e
    rw [hd2] at q
    cases q
  refine ⟨.ref s.heap.objs.size, _, hw, rfl, q3 ob ⟨beq_eq_false_iff_ne.mpr (Nat.ne_of_gt I.big), (by show 1 ≤ 90000; decide), fun x hx => ?_, by simp, ob, es', ep', upd_same, g2, g3, g4⟩⟩
  rw [List.mem_singleton.mp hx]
  obtain ⟨a, b, z1, z2, z3⟩ := hka
  exact ⟨a, b, by rw [upd_ne (ne _ _ z1)]; exact z1, by rw [upd_ne (ne _ _ z2)]; exact z2, by rw [upd_ne (ne _ _ z3)]; exact z3⟩
/-! ### for k, v in d.items() -/
def ItND (P : Program) (w : World) (d : Addr) (o : Obj) (xs : List NEnt) : It :=
  ⟨fun i H => H d = some (fixO d o) ∧ i < xs.length, fun i H v H' => ∃ T x, xs[i]? = some x ∧ v = .ref T ∧ H T = none ∧ H' = upd H T (.tup [.ref x.2.1, .ref x.2.2]), fun i H => H d = some (fixO d o) ∧ xs.length ≤ i⟩
theorem turn_nd {P : Program} {w : World} {K : PySem.W.Frag} {elts : List Expr} {kk : Nat} {tpos : Pos} {d : Addr} {ob : Obj} {xs : List NEnt} {esA : Array DictEntry} {ep : Nat} (it : Addr) (hx : ob.ExactDict) (hod : ob.data = .dict esA ep) (hes : esA.toList = xs.map fun x => entryOfKey (nestedKind P w) (kEnt x)) :
    Turn P w K (.Tuple elts kk tpos) (ItND P w d ob xs) [it] it (fun i h => ∃ ok ov, IsItemIter h it d i esA.size ep ok ov) where
  mem := by simp
  obj := fun i h st b hb => by
    obtain ⟨_, _, e⟩ := st
    cases List.mem_singleton.mp hb
    exact ⟨_, e, fun _ z => nomatch z⟩
  keep := fun i h h' ⟨ok, ov, e⟩ k => ⟨ok, ov, k it List.mem_cons_self _ e⟩
  item := by
    rintro X rfl rfl rfl hc i pins s σ H E I hf st ⟨hd, hi⟩
    obtain ⟨hgd, _, _⟩ := I.hok _ _ hd
    have raw : s.heap.DictRaw d esA ep := ⟨ob, hgd, hx, hod⟩
    have hsz : esA.size = xs.length := by rw [← Array.length_toList, hes, List.length_map]
    obtain ⟨ok, ov, he⟩ := st
    have hlt := Heap.lt_size he
    have hi' : i < esA.size := by omega
    have hent : esA[i] = entryOfKey (nestedKind X.prog X.w) (kEnt xs[i]) := by
      have q : esA.toList[i]? = (xs.map fun x => entryOfKey (nestedKind X.prog X.w) (kEnt x))[i]? := by rw [hes]
      rw [List.getElem?_map, List.getElem?_eq_getElem hi] at q
      rw [Array.getElem?_toList, Array.getElem?_eq_getElem hi'] at q
      exact Option.some.inj q
    refine wpAny_pyNext_items_item_raw he raw hi' fun h' ho hT hz hk => ?_
    rw [hent] at ho hT
    refine ⟨_, rfl, wpAny_letOwnedTupleGo_items ho (s := { s with heap := h' }) fun h'' he' sb => ?_⟩
    have hT2 : h''.get? s.heap.objs.size = some { cls := .type "tuple", data := .seq #[.ref xs[i].2.1, .ref xs[i].2.2] } := (sb.2 _ (Nat.ne_of_gt hlt)).trans hT
    have new : ObjOk X.prog X.w (upd H s.heap.objs.size (.tup [.ref xs[i].2.1, .ref xs[i].2.2])) h'' s.heap.objs.size (.tup [.ref xs[i].2.1, .ref xs[i].2.2]) :=
      ⟨by show 2 ≤ sizeLine; decide, [.ref xs[i].2.1, .ref xs[i].2.2], .cons rfl (.cons rfl .nil), ⟨_, hT2, rfl, _, rfl⟩⟩
    have I1 : Inv X pins σ (upd H s.heap.objs.size (.tup [.ref xs[i].2.1, .ref xs[i].2.2])) { s with heap := h'' } :=
      I.turnedNew (ch := [it]) (t' := s.toks) (fun b ob nb e => (sb.2 b fun z => nb (List.mem_singleton.mpr z)).trans (hk b ob (fun z => nb (List.mem_singleton.mpr z)) e)) hf (Nat.le_refl _) new
    refine ⟨.ref s.heap.objs.size, _, I1, rfl, ⟨_, xs[i], List.getElem?_eq_getElem hi, rfl, I.hok.fresh (Nat.le_refl _), rfl⟩, ⟨_, _, he'⟩, fun b hb => ?_⟩
    cases List.mem_singleton.mp hb
    exact (upd_ne (Nat.ne_of_lt hlt)).trans (hf it List.mem_cons_self).1
  done := by
    rintro X rfl rfl rfl hc i pins s σ H E I hf st ⟨hd, hi⟩
    obtain ⟨f0, f1, _, f3, f4, f5⟩ := hf it List.mem_cons_self
    obtain ⟨hgd, _, _⟩ := I.hok _ _ hd
    have raw : s.heap.DictRaw d esA ep := ⟨ob, hgd, hx, hod⟩
    have hsz : esA.size = xs.length := by rw [← Array.length_toList, hes, List.length_map]
    obtain ⟨ok, ov, he⟩ := st
    exact wpAny_pyNext_items_end_raw (I.ok.hd hc) he raw (by omega) fun h' eb => ⟨rfl, I.turned (t' := s.toks) (fun b ob hb e => eb b ob hb e) f0 f1 f3 f4 f5⟩
  self := fun _ _ _ _ _ ⟨_, _, e⟩ h => PySem.W.kcp_self e h
def iND (P : Program) (w : World) (td : TE) : L2.TI := fun σ H R => td σ H fun x H1 => ∃ d ob esA ep xs, x = .ref d ∧ (d == sysModules) = false ∧ H1 d = some (fixO d ob) ∧ ob.ExactDict ∧ ob.data = .dict esA ep ∧ esA.toList = (xs.map fun x => entryOfKey (nestedKind P w) (kEnt x)) ∧ R (ItND P w d ob xs) H1
theorem pi_nitems {elts : List Expr} {kk : Nat} {tpos : Pos} (he : PE X e td) (hbase : attributeBase e "items" X.env (eval e X.env) = eval e X.env := by rfl) (hline : (apos.endLine == cpos.line) = true := by rfl) :
    PI X (.Tuple elts kk tpos) (.Call (.Attribute e "items" apos) [] [] cpos) (iND X.prog X.w td) := by
  constructor
  intro pins s σ H R I h
  refine wpAny_Call_method (T := "dict") (id := "dict.items") hbase rfl hline PySem.F.plainAttrs_dict PySem.F.slot_dict_items PySem.F.type_dict_items (thn (he.run pins s σ H _ I h) fun u s1 ⟨x, H1, I1, rx, d, ob, esA, ep, xs, ex, hsys, hd, hx, hod, hes, q⟩ => ?_)
  subst ex
  cases (show u = Value.ref d from rx)
  obtain ⟨hgd, _, _⟩ := I1.hok _ _ hd
  have raw : s1.heap.DictRaw d esA ep := ⟨ob, hgd, hx, hod⟩
  refine ⟨raw.typeIs, fun b e => by cases e; exact ⟨ob, hgd, hx.2.1⟩, ?_⟩
  have I2 := I1.kept (h' := s1.heap.push { cls := .type "dict_items", data := .fields #[.ref d] }) (t' := s1.toks) fun b ob q => Heap.get?_push_of_some _ q
  have fin : wpAny (model X.prog X.w) X.A (pyIter (.ref s1.heap.objs.size)) (PIE X pins σ (.Tuple elts kk tpos) R) X.xe { s1 with heap := s1.heap.push { cls := .type "dict_items", data := .fields #[.ref d] } } :=
    wpAny_pyIter_items_raw (d := d) ⟨_, Heap.get?_push_size _ rfl, rfl, rfl⟩ (raw.at fun o e => Heap.get?_push_of_some _ e) (pi_one (tk := s1.toks) I2 _ (turn_nd _ hx hod hes) ⟨.none, .none, Heap.get?_push_size _ rfl⟩ q)
  show wpAny (model X.prog X.w) X.A (callWith cpos (.builtin "dict.items") [.ref d] [] []) _ X.xe s1
  exact method_meetsIn PySem.F.slot_dict_items PySem.F.entry_dict_items rfl (PySem.evalArgs_none ⟨rfl, raw.typeIs, PySem.F.args_dict_items_1 _, _, meets_dict_items_raw d hsys, ⟨esA, ep, raw⟩, fin⟩)
end
end TS
/-! ## ND2 -/
namespace TS
open PySem PySem.Spec PyProof.Rows L2
section
variable {X : Cx} {a b c e o d i value : Expr} {es : List Expr} {σ : L2.St} {H H' : Hp} {x y z v : V} {R R' : RT} {pos pos' apos cpos : Pos} {D : Ends} {rest sts : List Stmt} {dd t p : Addr} {xs : List NEnt} {k : NK}
theorem ev_nnew : Ev X (.Dict [] [] pos) σ H (fun H1 v H2 => ∃ q, v = .ref q ∧ H1 q = none ∧ ND X.prog X.w H2 q []) := fun H1 e1 Q q => wE_of pe_nnew fun p ob hp hd => q _ _ (Ex.new hp) ⟨p, rfl, hp, hd⟩
theorem et_nnotin (hu : X.A.units + 64 < cLine) (hk : Ev X e σ H (is (.ref t))) (hd : Ev X d σ H (is (.ref dd))) (hkey : KeyAt H k t) (hnd : ND X.prog X.w H dd xs) (hm : behindInMarks .NotIn d = false := by rfl) :
    EvT X (.Compare e [.NotIn] [d] pos) σ H (!(atE xs k).isSome) := fun H1 e1 Q q =>
  wT_of (pt_cmp (pc_nnotin hu pe_w pe_w) hm) (hk H1 e1 _ fun y' H2 e2 ry => hd H2 (e1.trans e2) _ fun x' H3 e3 rx => by
    cases rx; cases ry
    exact ⟨t, dd, k, xs, rfl, rfl, hkey.sx ((e1.trans e2).trans e3).sx, hnd.ex ((e1.trans e2).trans e3), _, rfl, q H3 (e2.trans e3)⟩)
theorem ev_nget (hu : X.A.units + 64 < cLine) (hd : Ev X d σ H (is (.ref dd))) (hk : Ev X e σ H (is (.ref t))) (hkey : KeyAt H k t) (hnd : ND X.prog X.w H dd xs) (hv : atE xs k = some p) (hs : NoSl e) : Ev X (.Subscript d e pos) σ H (is (.ref p)) := fun H1 e1 Q q =>
  wE_of (pe_nget hu pe_w pe_w hs) (hd H1 e1 _ fun x' H2 e2 rx => hk H2 (e1.trans e2) _ fun y' H3 e3 ry => by
    cases rx; cases ry
    exact ⟨t, dd, k, xs, p, rfl, rfl, hkey.sx ((e1.trans e2).trans e3).sx, hnd.ex ((e1.trans e2).trans e3), hv, q _ H3 (e2.trans e3) rfl⟩)
theorem ws_nput {p2 : Pos} {F : Hp → Addr → Hp → Prop} (hu : X.A.units + 64 < cLine) (he : Ev X e σ H (fun H1 v H2 => ∃ p, v = .ref p ∧ F H1 p H2)) (hd : Ev X d σ H (is (.ref dd))) (hk : Ev X o σ H (is (.ref t))) (hkey : KeyAt H k t) (hnd : ND X.prog X.w H dd xs) (hl : xs.length < 90000)
    (kk : ∀ p H1 H2 ob, Ex H H1 → F H p H1 → Ex H1 H2 → ND X.prog X.w (upd H2 dd (fixO dd ob)) dd (putE xs k t p) → wS X rest D σ (upd H2 dd (fixO dd ob))) (hs : swapsWith e (some (.Subscript d o p2)) pos.line X.env = pure false := by rfl) : wS X (.Assign [.Subscript d o p2] e pos :: rest) D σ H :=
  ws_cons (ps_nput hu pe_w pe_w pe_w hs) (he H (Ex.refl _) _ fun v' H1 e1 ⟨p, rv, f⟩ => hd H1 e1 _ fun x' H2 e2 rx => hk H2 (e1.trans e2) _ fun y' H3 e3 ry => by
    cases rx; cases ry; subst rv
    exact ⟨t, dd, k, xs, p, rfl, rfl, rfl, hkey.sx ((e1.trans e2).trans e3).sx, hnd.ex ((e1.trans e2).trans e3), hl, fun ob h => kk p H1 H3 ob e1 f (e2.trans e3) h⟩)
theorem ev_ndisp {k0 v0 : Expr} {k : NK} {F : Hp → Addr → Hp → Prop} (hu : X.A.units + 64 < cLine) (hk : Ev X k0 σ H (fun _ v H2 => ∃ t, v = .ref t ∧ KeyAt H2 k t)) (hv : ∀ H1, Ex H H1 → Ev X v0 σ H1 (fun H1 v H2 => ∃ p, v = .ref p ∧ F H1 p H2)) :
    Ev X (.Dict [some k0] [v0] pos) σ H (fun H1 v H2 => ∃ d t p Ha Hb, v = .ref d ∧ H1 d = none ∧ Ex H1 Ha ∧ Ex Ha Hb ∧ F Ha p Hb ∧ Ex H1 H2 ∧ Sx Hb H2 ∧ ND X.prog X.w H2 d [(k, t, p)]) := fun H1 e1 Q q =>
  wE_of (pe_ndisp hu pe_w pe_w) fun d ob hd => hk _ (e1.trans (Ex.new hd)) _ fun y Ha ea ⟨t, ey, hka⟩ => (hv Ha ((e1.trans (Ex.new hd)).trans ea)) Ha (Ex.refl _) _ fun v Hb eb ⟨p, ev, f⟩ => by
    subst ey ev
    have e1b : Ex H1 Hb := ((Ex.new hd).trans ea).trans eb
    have hdb : Hb d = some (fixO d ob) := (ea.trans eb) _ _ upd_same
    refine ⟨hdb, t, k, p, rfl, rfl, hka.sx eb.sx, fun ob' hnd => q _ _ (e1b.mut hd) ⟨d, t, p, Ha, Hb, rfl, hd, (Ex.new hd).trans ea, eb, f, e1b.mut hd, ?_, hnd⟩⟩
    intro b o hb so
    rw [upd_ne (fun z => by
      subst z
      rw [hdb] at hb
      cases hb
      cases so)]
    exact hb
theorem src_nitems {es : List Expr} {m : Nat} {tp : Pos} (he : Ev X e σ H (is (.ref dd))) (hnd : ND X.prog X.w H dd xs) (hf : PI X (.Tuple es m tp) (.Call (.Attribute e "items" apos) [] [] cpos) (iND X.prog X.w (wE X e))) :
    ∃ ob, H dd = some (fixO dd ob) ∧ Src X (.Tuple es m tp) (.Call (.Attribute e "items" apos) [] [] cpos) σ H xs.length (fun H => H dd = some (fixO dd ob)) (fun i H v H' => ∃ T x, xs[i]? = some x ∧ v = .ref T ∧ H T = none ∧ H' = upd H T (.tup [.ref x.2.1, .ref x.2.2])) := by
  obtain ⟨h1, h2, h3, h4, ob, es', ep, h5, h6, h7, h8⟩ := hnd
  refine ⟨ob, h5, fun H1 e1 R k => wI_of hf (he H1 e1 _ fun v H2 e2 rv => ?_)⟩
  cases rv
  exact ⟨dd, ob, es', ep, xs, rfl, h1, (e1.trans e2) _ _ h5, h6, h7, h8, k _ H2 e2 ((e1.trans e2) _ _ h5) ⟨fun i H hi g => ⟨g, hi⟩, fun H g => ⟨g, Nat.le_refl _⟩, fun i H x H' hi g y => y⟩⟩
/-- for .. in d.items() -/
theorem ws_forN {es : List Expr} {m : Nat} {tp : Pos} {body : List Stmt} (hp : PassesOwn (model X.prog X.w) X.A X.env X.xe) (hc : X.calm = true) (he : Ev X e σ H (is (.ref dd))) (hnd : ND X.prog X.w H dd xs)
    (k : ∀ ob, H dd = some (fixO dd ob) → ∃ Pv : Nat → L2.St → Hp → Prop, (∀ H1, Ex H H1 → Pv 0 σ H1) ∧ (∀ i σ' H', i ≤ xs.length → Pv i σ' H' → H' dd = some (fixO dd ob)) ∧
      (∀ i x T σ' H', i < xs.length → Pv i σ' H' → xs[i]? = some x → H' T = none → ∃ σ2, Tgt X (.Tuple es m tp) (.ref T) σ' (upd H' T (.tup [.ref x.2.1, .ref x.2.2])) σ2 ∧ wS X body { D with nx := Pv (i + 1), ct := Pv (i + 1), bk := wS X rest D } σ2 (upd H' T (.tup [.ref x.2.1, .ref x.2.2]))) ∧ (∀ σ' H', Pv xs.length σ' H' → wS X rest D σ' H'))
    (hf : PI X (.Tuple es m tp) (.Call (.Attribute e "items" apos) [] [] cpos) (iND X.prog X.w (wE X e))) (hfs : ∀ x, foldedSetIterable (.Call (.Attribute e "items" apos) [] [] cpos) X.env x = pure x := by intro _; rfl) : wS X (.For (.Tuple es m tp) (.Call (.Attribute e "items" apos) [] [] cpos) body [] pos :: rest) D σ H := by
  obtain ⟨ob, hob, src⟩ := src_nitems (es := es) (m := m) (tp := tp) he hnd hf
  obtain ⟨Pv, h0, hG, turn, hd⟩ := k ob hob
  exact ws_for hp hc src Pv (fun H1 e1 _ => h0 H1 e1) hG (fun i x σ' H' H'' hi p ⟨T, z, hz, ex, hT, eh⟩ => by
    subst ex eh
    exact turn i z T σ' H' hi p hz hT) hd hfs
end
end TS
/-! ## D10 -/
namespace TS
open PySem PySem.Spec PyProof.Rows L2
/-! ### plain: tables tick by tick -/
/-- the first ticks of a table that begins with g0: how many, where it stands, the last row, the starts so far, the rows from the last -/
inductive Pre (L : LotD) (g0 : List Nat) : Nat → List Nat → List Nat → Nat → List (List Nat) → Prop
  | one : g0 ∈ givensOf (zeroN L.parts.length) (aliveK L (L.circle - 1)) L.many → Pre L g0 1 (plusL (zeroN L.parts.length) g0) g0 0 [g0]
  | step {t : Nat} {s b g : List Nat} {c : Nat} {rows : List (List Nat)} : Pre L g0 t s b c rows → t < L.circle → g ∈ givensOf s (aliveK L (L.circle - t - 1)) L.many → Pre L g0 (t + 1) (plusL s g) g (c + (newIn b g).length) (g :: rows)
theorem gb_some {s l g : List Nat} {m : Nat} (h : gb s l m = some g) : gbOk s l = true ∧ (gbSet s l).length ≤ m ∧ g = gbSet s l := by
  unfold gb at h
  split at h
  · rename_i hh
    exact ⟨hh.1, hh.2, (Option.some.inj h).symm⟩
  · cases h
theorem plus_gb {s l g : List Nat} {m : Nat} (hl : l.length = s.length) (h : gb s l m = some g) : plusL s g = l := by
  obtain ⟨h1, _, rfl⟩ := gb_some h
  refine List.ext_getElem? fun i => ?_
  unfold plusL
  rw [List.getElem?_map]
  by_cases hi : i < s.length
  · rw [List.getElem?_range hi]
    have q := List.all_eq_true.mp h1 i (List.mem_range.mpr hi)
    rw [Bool.and_eq_true] at q
    have q1 := of_decide_eq_true q.1
    have q2 := of_decide_eq_true q.2
    rw [some_of (by omega)]
    show some (s.getD i 0 + if i ∈ gbSet s l then 1 else 0) = _
    congr 1
    by_cases hb : s.getD i 0 < l.getD i 0
    · have : i ∈ gbSet s l := List.mem_filter.mpr ⟨List.mem_range.mpr hi, decide_eq_true hb⟩
      rw [if_pos this]
      omega
    · have : i ∉ gbSet s l := fun z => hb (of_decide_eq_true (List.mem_filter.mp z).2)
      rw [if_neg this]
      omega
  · rw [List.getElem?_eq_none (by rw [List.length_range]; omega), List.getElem?_eq_none (by omega)]
    rfl
theorem givens_alive {L : LotD} {s g : List Nat} {later : List (List Nat)} (hl : ∀ l ∈ later, l.length = s.length) (h : g ∈ givensOf s later L.many) : plusL s g ∈ later ∧ ∃ l ∈ later, gb s l L.many = some g := by
  obtain ⟨l, hl1, hg⟩ := List.mem_filterMap.mp h
  exact ⟨by rw [plus_gb (hl l hl1) hg]; exact hl1, l, hl1, hg⟩
theorem picked_mem {n : Nat} {f : Nat → Bool} {i : Nat} (h : i ∈ picked n f) : i < n := List.mem_range.mp (List.mem_filter.mp h).1
theorem given_len {s g : List Nat} {later : List (List Nat)} {m : Nat} (h : g ∈ givensOf s later m) : g.length ≤ s.length := by
  obtain ⟨l, _, hg⟩ := List.mem_filterMap.mp h
  obtain ⟨_, _, rfl⟩ := gb_some hg
  exact picked_len _ _
theorem standsAt_zero (parts : List (Nat × Nat)) (h : ∀ p ∈ parts, 0 < p.2) : standsAt parts 0 = [zeroN parts.length] := by
  have q : ∀ i, i ≤ parts.length → (parts.take i).foldl (standsStep 0) [[]] = [zeroN i] := fun i => by
    induction i with
    | zero => intro _; rfl
    | succ i ih =>
      intro hi
      have hg : parts[i]? = some parts[i] := List.getElem?_eq_getElem hi
      rw [foldl_take_succ _ _ _ hg, ih (Nat.le_of_succ_le hi)]
      have h1 : lowN parts[i] 0 = 0 := by unfold lowN; simp
      have h2 : highN parts[i] 0 = 0 := by
        unfold highN
        have := h _ (List.mem_of_getElem? hg)
        simp
        omega
      unfold standsStep spread
      rw [h1, h2]
      simp [zeroN, List.range_succ, List.map_append]
  have z := q parts.length (Nat.le_refl _)
  rw [List.take_length] at z
  exact z
theorem aliveK_mem {L : LotD} {k : Nat} {s : List Nat} (h : s ∈ aliveK L (k + 1)) : ∃ g, g ∈ givensOf s (aliveK L k) L.many := by
  have h := (List.mem_filter.mp h).2
  cases hg : givensOf s (aliveK L k) L.many with
  | nil => rw [hg] at h; cases h
  | cons g gs => exact ⟨g, List.mem_cons_self ..⟩
theorem Pre.facts {L : LotD} (ok : L.ok) {g0 : List Nat} {t : Nat} {s b : List Nat} {c : Nat} {rows : List (List Nat)} (h : Pre L g0 t s b c rows) : 1 ≤ t ∧ t ≤ L.circle ∧ s ∈ aliveK L (L.circle - t) ∧ s.length = L.parts.length ∧ b.length ≤ 3 ∧ g0.length ≤ 3 ∧ c ≤ 3 * (t - 1) ∧ rows.length = t ∧ rows.head? = some b := by
  have hp := ok.2.2.2.1
  induction h with
  | one hg =>
    have hl := (aliveK_len L ok (L.circle - 1)).2
    have zl : (zeroN L.parts.length).length = L.parts.length := by unfold zeroN; rw [List.length_map (as := List.range _), List.length_range]
    obtain ⟨h1, _⟩ := givens_alive (L := L) (fun l hl' => by rw [hl l hl', zl]) hg
    have := given_len hg
    have h1c := ok.2.2.2.2.2.1
    exact ⟨Nat.le_refl _, h1c, h1, by rw [plusL_len, zl], by omega, by omega, Nat.zero_le _, rfl, rfl⟩
  | step hpre ht hg ih =>
    obtain ⟨i1, i2, i3, i4, i5, i6, i7, i8, i9⟩ := ih
    rename_i t s b g c rows
    have hl := (aliveK_len L ok (L.circle - t - 1)).2
    obtain ⟨h1, _⟩ := givens_alive (L := L) (fun l hl' => by rw [hl l hl', i4]) hg
    have hgl := given_len hg
    have hn : (newIn b g).length ≤ g.length := List.length_filter_le _ _
    refine ⟨by omega, by omega, by rw [show L.circle - (t + 1) = L.circle - t - 1 by omega]; exact h1, by rw [plusL_len, i4], by omega, i6, by omega, by rw [List.length_cons, i8], rfl⟩
/-! ### paths in the heap -/
/-- the rows told from the last by the chain of paths -/
inductive Chain (CP : Addr) : List (List Nat) → V → Hp → Prop
  | nil {H : Hp} : Chain CP [] .non H
  | cons {g : List Nat} {gs : List (List Nat)} {p dx : Addr} {s gv b : V} {H : Hp} : H p = some (.ins CP dx (pathFs s gv b)) → TI g gv H → Chain CP gs b H → Chain CP (g :: gs) (.ref p) H
theorem Chain.sx {CP : Addr} {gs : List (List Nat)} {v : V} {H H' : Hp} (e : Sx H H') (h : Chain CP gs v H) : Chain CP gs v H' := by
  induction h with
  | nil => exact .nil
  | cons h1 h2 _ ih => exact .cons (e _ _ h1 rfl) (TI.sx _ _ _ e h2) (ih e)
def PathC (CP : Addr) (p : Addr) (c : Nat) (H : Hp) : Prop := ∃ dx g b, H p = some (.ins CP dx (pathFs (.int (c : Nat)) g b))
theorem PathC.sx {CP p : Addr} {c : Nat} {H H' : Hp} (e : Sx H H') (h : PathC CP p c H) : PathC CP p c H' := let ⟨dx, g, b, h1⟩ := h; ⟨dx, g, b, e _ _ h1 rfl⟩
theorem pathFs_inj {s g b s' g' b' : V} (h : pathFs s g b = pathFs s' g' b') : s = s' ∧ g = g' ∧ b = b' := by
  have h1 := congrArg (List.lookup ("starts" : Str)) h
  have h2 := congrArg (List.lookup ("given" : Str)) h
  have h3 := congrArg (List.lookup ("before" : Str)) h
  exact ⟨Option.some.inj h1, Option.some.inj h2, Option.some.inj h3⟩
theorem PathC.inj {CP p : Addr} {c c' : Nat} {H : Hp} (h : PathC CP p c H) (h' : PathC CP p c' H) : c = c' := by
  obtain ⟨dx, g, b, h1⟩ := h
  obtain ⟨dx', g', b', h2⟩ := h'
  rw [h1] at h2
  have e := (HO.ins.inj (Option.some.inj h2)).2.2
  have e2 := V.int.inj (pathFs_inj e).1
  omega
/-- all the entries are tables' beginnings -/
def SoundN (CP : Addr) (L : LotD) (g0 : List Nat) (t : Nat) (xs : List NEnt) (H : Hp) : Prop := ∀ x ∈ xs, ∃ c rows, Pre L g0 t x.1.1 x.1.2 c rows ∧ PathC CP x.2.2 c H ∧ Chain CP rows (.ref x.2.2) H
theorem SoundN.sx {CP : Addr} {L : LotD} {g0 : List Nat} {t : Nat} {xs : List NEnt} {H H' : Hp} (e : Sx H H') (h : SoundN CP L g0 t xs H) : SoundN CP L g0 t xs H' := fun x hx => let ⟨c, rows, h1, h2, h3⟩ := h x hx; ⟨c, rows, h1, h2.sx e, h3.sx e⟩
/-- the key has an entry of at most c starts -/
def HasN (CP : Addr) (xs : List NEnt) (k : NK) (c : Nat) (H : Hp) : Prop := ∃ p c', atE xs k = some p ∧ PathC CP p c' H ∧ c' ≤ c
theorem HasN.sx {CP : Addr} {xs : List NEnt} {k : NK} {c : Nat} {H H' : Hp} (e : Sx H H') (h : HasN CP xs k c H) : HasN CP xs k c H' := let ⟨p, c', h1, h2, h3⟩ := h; ⟨p, c', h1, h2.sx e, h3⟩
theorem HasN.put {CP : Addr} {xs : List NEnt} {k j : NK} {c c0 : Nat} {t v : Addr} {H : Hp} (h : HasN CP xs j c H) (hv : PathC CP v c0 H) (hlt : ∀ p c', atE xs k = some p → PathC CP p c' H → c0 ≤ c') : HasN CP (putE xs k t v) j c H := by
  obtain ⟨p, c', h1, h2, h3⟩ := h
  by_cases e : j = k
  · subst e
    exact ⟨v, c0, by rw [atE_put, if_pos rfl], hv, Nat.le_trans (hlt p c' h1 h2) h3⟩
  · exact ⟨p, c', by rw [atE_put, if_neg e]; exact h1, h2, h3⟩
def FullN (CP : Addr) (L : LotD) (g0 : List Nat) (t : Nat) (xs : List NEnt) (H : Hp) : Prop := ∀ s b c rows, Pre L g0 t s b c rows → HasN CP xs (s, b) c H
end TS
/-! ## D11 -/
namespace TS
open PySem PySem.Spec PyProof.Rows L2
section
variable {X : Cx} {a b c e o d i value : Expr} {es : List Expr} {σ : L2.St} {H H' : Hp} {x y z v : V} {R R' : RT} {pos pos' apos cpos : Pos} {D : Ends} {rest sts : List Stmt}
theorem ws_ifE {P1 P2 : Prop} {c : Expr} {s1 s2 : List Stmt} (h : ∃ k, EvT X c σ H k ∧ (k = true → P1) ∧ (k = false → P2)) (h1 : P1 → ∀ H1, Ex H H1 → wS X s1 { D with nx := wS X rest D } σ H1) (h2 : P2 → ∀ H1, Ex H H1 → wS X s2 { D with nx := wS X rest D } σ H1) : wS X (.If c s1 s2 pos :: rest) D σ H := by
  obtain ⟨k, t, a, b⟩ := h
  exact ws_if t (fun hk => h1 (a hk)) (fun hk => h2 (b hk))
/-- xs[1:] -/
theorem ev_from1 {l : Addr} {xs : List V} {j : Nat} {p1 p2 : Pos} (ha : Ev X a σ H (is (.ref l))) (hl : H l = some (.lst xs)) (hx : 1 ≤ xs.length) : Ev X (.Subscript a (.Slice (some (.Constant (.int 1) j p1)) none none p2) pos) σ H (newL (xs.drop 1)) := fun H1 e1 Q q =>
  wE_of (pe_slice sl_list pe_w (po_some pe_int) po_none) (ha H1 e1 _ fun v H2 e2 rv => by
    cases rv
    refine ⟨1, rfl, l, xs, rfl, SqL.of ((e1.trans e2) _ _ hl), fun p hp => q _ _ (e2.trans (Ex.new hp)) ⟨p, rfl, e2.back hp, ?_⟩⟩
    rw [upd_same]
    have e : cutV xs (some 1) none = xs.drop 1 := by
      unfold cutV
      rw [HT.sIx_none]
      have : HT.sIx xs.length 0 (some 1) = 1 := by
        have q := HT.sIx_nat xs.length 0 1
        have q2 : min 1 xs.length = 1 := by omega
        rw [q2] at q
        exact q
      rw [this]
      exact List.take_of_length_le (by simp only [List.length_drop]; omega)
    rw [e])
end
section
variable {P : Program} {w : World} {K : PySem.W.Frag} {mg : Str → Option Value} {base : Heap} {CL CS CP : Addr}
theorem ev_path {X : Cx} {T : Txt X.K X.mg CL CS CP} {jj : Nat} {e : Expr} {es : List Expr} {σ : L2.St} {H : Hp} {s g b : V} {p pos : Pos} (hr : Room jj X.A) (hj : 2 ≤ jj) (ha : EvA X (e :: es) σ H [s, g, b]) (hg : Gl X "Path" := by rfl)
    (hpl : (backTo pos (starEach es X.env)).any (·.1) = false := by rfl) (he : starEach (e :: es) X.env = (false, eval e X.env) :: starEach es X.env := by rfl) :
    Ev X (.Call (.Name "Path" p) (e :: es) [] pos) σ H (fun H1 v H2 => ∃ q, v = .ref q ∧ (H1 q = none ∧ ∃ dx, H2 q = some (.ins CP dx (pathFs s g b)))) :=
  ev_makeG (T := fun _ vs _ => vs = [s, g, b]) (mak_Path (P := X.prog) (w := X.w) (base := X.base) T) hr hj ha.g (fun H1 vs H2 e1 e2 t q dx hq hdx hne Q k => by
    subst t
    refine ⟨q, dx, s, g, b, rfl, upd_same, fun H' ex hq' => ⟨rfl, k H' (fun b o h => ?_) ⟨q, rfl, e2.back hq, dx, hq'⟩⟩⟩
    refine ex b o (ne_of_none h hq) ?_
    rw [upd_ne (ne_of_none h hq), upd_ne (ne_of_none h hdx)]
    exact h) hg (by decide) he hpl
abbrev nCalm : List Str := ["sheet", "first", "standing", "reached", "leads", "later", "before", "path", "given", "spot", "starts", "found", "last"]
theorem sc_calmest_from : FnScope nCalm ["sheet", "first"] (defScope s_calmest_from) := ⟨rfl, rfl, rfl, by decide +kernel, rfl, by decide +kernel, by decide +kernel⟩
def EndP (CP : Addr) (L : LotD) (g0 : List Nat) (c : Nat) (p : Addr) (H : Hp) : Prop   := ∃ (dx q : Addr) (s b : List Nat) (c0 : Nat) (rows : List (List Nat)), H p = some (.ins CP dx (pathFs (.int (c : Nat)) .non (.ref q))) ∧ Pre L g0 L.circle s b c0 rows ∧ c = c0 + (newIn b g0).length ∧ Chain CP rows (.ref q) H
theorem EndP.sx {CP p : Addr} {L : LotD} {g0 : List Nat} {c : Nat} {H H' : Hp} (e : Sx H H') (h : EndP CP L g0 c p H) : EndP CP L g0 c p H' := let ⟨dx, q, s, b, c0, rows, h1, h2, h3, h4⟩ := h; ⟨dx, q, s, b, c0, rows, e _ _ h1 rfl, h2, h3, h4.sx e⟩
/-- the loop over the ticks: what holds ahead of the t-th -/
def TickInv (P : Program) (w : World) (CP : Addr) (L : LotD) (g0 : List Nat) (H0 : Hp) (x y : V) (i : Nat) (σ' : L2.St) (H' : Hp) : Prop :=
  (∃ x2 rd x4 x5 x6 x7 x8 x9 x10 x11 x12 xs, σ' = [some x, some y, x2, some (.ref rd), x4, x5, x6, x7, x8, x9, x10, x11, x12] ∧ ND P w H' rd xs ∧ xs.length ≤ 8 ^ i ∧ SoundN CP L g0 (i + 1) xs H' ∧ FullN CP L g0 (i + 1) xs H') ∧ Ex H0 H'
/-- within one: i entries are done, and j rows of the next -/
def MidInv (P : Program) (w : World) (CP : Addr) (L : LotD) (g0 : List Nat) (t : Nat) (xs : List NEnt) (H0 : Hp) (σ0 : (Nat → Option V) → L2.St) (ld : Addr) (i j : Nat) (σ' : L2.St) (H' : Hp) : Prop :=
  (∃ f, σ' = σ0 f) ∧ Ex H0 H' ∧ ∃ ys, ND P w H' ld ys ∧ ys.length ≤ i * 8 + j ∧ SoundN CP L g0 (t + 1) ys H' ∧ ∀ i', i' < i → ∀ x c, xs[i']? = some x → PathC CP x.2.2 c H0 → ∀ g ∈ givensOf x.1.1 (aliveK L (L.circle - t - 1)) L.many, HasN CP ys (plusL x.1.1 g, g) (c + (newIn x.1.2 g).length) H'
theorem leadL_get (L : LotD) : ∀ (n i : Nat), i < n → (leadL L n)[i]? = some (aliveK L (n - i), aliveK L (n - i - 1))
  | 0, i, h => absurd h (Nat.not_lt_zero i)
  | n + 1, 0, _ => rfl
  | n + 1, i + 1, h => by
    have q := leadL_get L n i (Nat.lt_of_succ_lt_succ h)
    rw [Nat.add_sub_add_right]
    exact q
theorem leadL_len (L : LotD) : ∀ n, (leadL L n).length = n
  | 0 => rfl
  | n + 1 => congrArg (· + 1) (leadL_len L n)
def tailD (D : Ends) (Pv : L2.St → Hp → Prop) : Ends := { D with nx := Pv }
/-- one tick -/
theorem cal_calmest_from_body (T : Txt K mg CL CS CP) {L : LotD} (ok : L.ok) {g0 : List Nat} {f : Addr} {cdv : Value} {A : Around} {outer : List Env} {s : Shared} {H : Hp} {E : XK} {D : Ends} {x y : V} (hr : Room 3 (A.deeper (envOfC "calmest_from" (defScope s_calmest_from) s.heap.objs.size f cdv)))
    (hx : IsSheet CL CS L x H) (hy : TI g0 y H) (hg0 : g0 ∈ givensOf (zeroN L.parts.length) (aliveK L (L.circle - 1)) L.many)
    (fin : ∀ (σ' : L2.St) (H' : Hp) (fl : Addr) (cs : List (Nat × Addr)), Ex H H' → σ'[11]? = some (some (.ref fl)) → H' fl = some (.lst (cs.map fun z => .ref z.2)) → cs.length ≤ 90000 → (∀ z ∈ cs, EndP CP L g0 z.1 z.2 H') → (∀ s b c rows, Pre L g0 L.circle s b c rows → ∃ z ∈ cs, z.1 ≤ c + (newIn b g0).length) → wS (cxD P w K mg base nCalm "calmest_from" s_calmest_from f cdv A outer s H E) ((defBody s_calmest_from).drop 5) D σ' H') :
    wS (cxD P w K mg base nCalm "calmest_from" s_calmest_from f cdv A outer s H E) (defBody s_calmest_from) D (start nCalm [x, y]) H := by
  obtain ⟨a0, dx, fs, lo, lv, le, ls, ds, rfl, s2, s3, s4, s5, s6, s7, s8, s9, s10⟩ := hx
  have hc1 := ok.2.2.2.2.2.1
  have hc6 := ok.2.2.2.2.2.2
  have hp3 := ok.2.2.2.1
  have hds := s10.len
  rw [leadL_len] at hds
  have zl : (zeroN L.parts.length).length = L.parts.length := by unfold zeroN; rw [List.length_map, List.length_range]
  -- standing
  refine ws_set 2 sc_calmest_from.nd (R := fits (TI (plusL (zeroN L.parts.length) g0))) (ev_callG (T := fun _ vs H2 => ∃ z, vs = [z, y] ∧ TI (zeroN L.parts.length) z H2) (cal_step (P := P) (w := w) (base := base) T) hr (by decide) (EvG.imp (eg_cons (ev_callG (R := fits (TI (zeroN L.parts.length))) (T := fun _ vs _ => vs = [lo]) (cal_first_standing (P := P) (w := w) (base := base) T) hr (by decide) (EvA.g (ea_cons (ev_fld (ev_name 0 rfl) s2 T.cSheet T.aSheet_lot s3) ea_nil)) fun H1 vs H2 e1 e2 tt Q q => ?_) fun H1 v H2 e1 e2 rv => eg_one (ev_name 1 rfl)) fun H1 vs H2 e1 e2 tt => ?_) fun H1 vs H2 e1 e2 tt Q q => ?_) fun v0 H1 e1 hv0 => ?_
  · subst tt
    exact ⟨lo, L, rfl, s4.ex (e1.trans e2), ok, fun v H' e3 h => q v H' e3 h⟩
  · obtain ⟨v, r, Hm, rfl, em, rv, e3, v2, rfl, Hn, en, r2, rfl⟩ := tt
    cases r2
    exact ⟨v, rfl, TI.ex rv e3⟩
  · obtain ⟨z, rfl, hz⟩ := tt
    exact ⟨z, y, _, g0, rfl, hz, hy.ex (e1.trans e2), by omega, fun v H' e3 h => q v H' e3 h⟩
  -- reached
  have hv0 : TI (plusL (zeroN L.parts.length) g0) v0 H1 := hv0
  obtain ⟨va, rfl, hva⟩ := hv0
  obtain ⟨ya, rfl, hya⟩ := hy
  refine ws_set 3 sc_calmest_from.nd (ev_ndisp (k := (plusL (zeroN L.parts.length) g0, g0)) (F := fun H1 p H2 => H1 p = none ∧ ∃ dx, H2 p = some (.ins CP dx (pathFs (.int 0) (.ref ya) .non))) hr.units (Ev.imp (ev_tup (ea_cons (ev_name 2 rfl) (ea_cons (ev_name 1 rfl) ea_nil)) (by show 2 ≤ 100000; decide)) fun H2 v H3 e2 e3 ⟨t, hv, _, ht⟩ => ⟨t, hv, va, ya, ht, (e2.trans e3) _ _ hva, ((e1.trans e2).trans e3) _ _ hya⟩)
    (fun H2 e2 => ev_path (T := T) hr (by decide) (ea_cons ev_int (ea_cons (ev_name 1 rfl) (ea_cons ev_non ea_nil))))) fun v1 H2 e2 r1 => ?_
  obtain ⟨rd, kt, p0, Ha, Hb, rfl, n1, ea, eb, ⟨f1, dxp, f2⟩, e12, sx, hnd⟩ := r1
  have hp0 : H2 p0 = some (.ins CP dxp (pathFs (.int 0) (.ref ya) .non)) := sx _ _ f2 rfl
  have hpre0 : Pre L g0 1 (plusL (zeroN L.parts.length) g0) g0 0 [g0] := Pre.one hg0
  -- the ticks
  refine ws_forL PassesOwn.never rfl (ev_from1 (ev_fld (ev_name 0 rfl) ((e1.trans e2) _ _ s2) T.cSheet T.aSheet_leads s6) ((e1.trans e2) _ _ s9) (by omega)) (fun v3 H3 e3 r3 => ?_) (pi_list pe_w)
  obtain ⟨sl, rfl, q1, q2⟩ := r3
  refine ⟨sl, ds.drop 1, TickInv P w CP L g0 H3 (.ref a0) (.ref ya), rfl, SqL.of q2, ⟨⟨_, rd, _, _, _, _, _, _, _, _, _, _, rfl, hnd.ex e3, Nat.le_refl _, fun z hz => ?_, fun s b c rows hp => ?_⟩, Ex.refl _⟩, fun i σ' H' _ p => SqL.of (p.2 _ _ q2), fun i u σ' H' hi p hu => ?_, fun σ' H' p => ?_⟩
  · rw [List.mem_singleton.mp hz]
    exact ⟨0, [g0], hpre0, ⟨dxp, _, _, e3 _ _ hp0⟩, .cons (e3 _ _ hp0) ⟨ya, rfl, e3 _ _ ((e1.trans e2) _ _ hya)⟩ .nil⟩
  · cases hp with
    | one _ => exact ⟨p0, 0, by simp [atE], ⟨dxp, _, _, e3 _ _ hp0⟩, Nat.le_refl _⟩
    | step h1 _ _ =>
      have := (h1.facts ok).1
      omega
  · obtain ⟨⟨x2, rd, x4, x5, x6, x7, x8, x9, x10, x11, x12, xs, rfl, hxs, hxl, hso, hfu⟩, ex⟩ := p
    have hiL : i + 1 < L.circle := by
      rw [List.length_drop] at hi
      omega
    have hu2 : ds[i + 1]? = some u := by
      rw [List.getElem?_drop] at hu
      rw [show i + 1 = 1 + i by omega]
      exact hu
    obtain ⟨pr, hpr, d, kvs, rfl, hd, hlead⟩ := s10.at hu2
    rw [leadL_get L L.circle (i + 1) hiL] at hpr
    cases hpr
    have e0 : Ex H H' := ((e1.trans e2).trans e3).trans ex
    refine ⟨_, tgt_name 4 sc_calmest_from.nd, ?_⟩
    refine ws_set 5 sc_calmest_from.nd ev_nnew fun v4 H4 e4 r4 => ?_
    obtain ⟨ld, rfl, ln, hld⟩ := r4
    have hxs4 := hxs.ex e4
    have rdld : rd ≠ ld := fun e => by
      subst e
      obtain ⟨_, _, _, _, o, _, _, h5, _⟩ := hxs
      rw [ln] at h5
      cases h5
    have pow8 : 8 ^ i ≤ 8 ^ 4 := Nat.pow_le_pow_right (by decide) (by omega)
    refine ws_forN PassesOwn.never rfl (ev_name 3 rfl) hxs4 (fun ob hob => ⟨fun i' σ2 H2 => MidInv P w CP L g0 (i + 1) xs H' (fun f => [some (.ref a0), some (.ref ya), f 2, some (.ref rd), some (.ref d), some (.ref ld), f 6, f 7, f 8, f 9, f 10, f 11, f 12]) ld i' 0 σ2 H2 ∧ H2 rd = some (fixO rd ob), fun H5 e5 => ?_, fun i' σ2 H2 _ p => p.2, fun i' xx Tt σ2 Hc hi' p hxx hTt => ?_, fun σ2 H2 p => ?_⟩) (pi_nitems pe_w)
    · exact ⟨⟨⟨fun n => [none, none, x2, none, none, none, x6, x7, x8, x9, x10, x11, x12].getD n none, rfl⟩, e4.trans e5, [], hld.ex e5, Nat.zero_le _, fun (z : NEnt) (hz : z ∈ ([] : List NEnt)) => (nomatch hz), fun _ h => absurd h (Nat.not_lt_zero _)⟩, e5 _ _ hob⟩
    · obtain ⟨⟨⟨fσ, rfl⟩, exc, ys, hys, hyl, hyso, hyfu⟩, hrd⟩ := p
      have hxm := List.mem_of_getElem? hxx
      obtain ⟨ka, kb, k1, k2, k3⟩ := hxs.2.2.1 xx hxm
      obtain ⟨c, rows, hpre, hpc, hch⟩ := hso xx hxm
      obtain ⟨pf1, pf2, pf3, pf4, pf5, pf6, pf7, pf8, pf9⟩ := hpre.facts ok
      have exd : Ex H' (upd Hc Tt (.tup [.ref xx.2.1, .ref xx.2.2])) := exc.trans (Ex.new hTt)
      refine ⟨_, tgt_tup rfl (SqT.of upd_same) rfl (tgs_cons (tgt_tup rfl (SqT.of (exd _ _ k1)) rfl (tgs_cons (tgt_name 2 sc_calmest_from.nd) (tgs_cons (tgt_name 6 sc_calmest_from.nd) tgs_nil))) (tgs_cons (tgt_name 7 sc_calmest_from.nd) tgs_nil)), ?_⟩
      generalize hHd : upd Hc Tt (.tup [.ref xx.2.1, .ref xx.2.2]) = Hd at exd ⊢
      have hcd : Ex Hc Hd := by rw [← hHd]; exact Ex.new hTt
      obtain ⟨u', gs, hu', ⟨gl, gv, rfl, hgl, hgs⟩, hperm⟩ := hlead xx.1.1 pf3
      have hgsl := hgs.len
      have hgn : gs.length ≤ 8 := by
        rw [hperm.length_eq]
        exact Nat.le_trans (List.length_filterMap_le _ _) (aliveK_len L ok _).1
      refine ws_for PassesOwn.never rfl (src_list (ev_dgetN (room_u1 hr) (ev_name 4 rfl) (ev_name 2 rfl) ⟨ka, rfl, exd _ _ k2⟩ ((e0.trans exd) _ _ hd) hu' (by exact fun _ _ => rfl)) (SqL.of ((e0.trans exd) _ _ hgl)))
        (fun j σ3 H3 => (∃ f : Nat → Option V, σ3 = [some (.ref a0), some (.ref ya), some (.ref ka), some (.ref rd), some (.ref d), some (.ref ld), some (.ref kb), some (.ref xx.2.2), f 8, f 9, f 10, f 11, f 12]) ∧ Ex H' H3 ∧ H3 rd = some (fixO rd ob) ∧ ∃ ys, ND P w H3 ld ys ∧ ys.length ≤ i' * 8 + j ∧ SoundN CP L g0 (i + 1 + 1) ys H3 ∧
          (∀ i2, i2 < i' → ∀ x c, xs[i2]? = some x → PathC CP x.2.2 c H' → ∀ g ∈ givensOf x.1.1 (aliveK L (L.circle - (i + 1) - 1)) L.many, HasN CP ys (plusL x.1.1 g, g) (c + (newIn x.1.2 g).length) H3) ∧ ∀ g ∈ gs.take j, HasN CP ys (plusL xx.1.1 g, g) (c + (newIn xx.1.2 g).length) H3)
        (fun H3 e3 _ => ?_) (fun j σ3 H3 _ p => SqL.of (p.2.1 _ _ (e0 _ _ hgl))) (fun j gval σ3 H3 H4' hj p yj => ?_) fun σ3 H3 p => ?_
      · exact ⟨⟨fσ, rfl⟩, exd.trans e3, (hcd.trans e3) _ _ hrd, ys, hys.ex (hcd.trans e3), hyl, hyso.sx (hcd.trans e3).sx, fun i2 h2 x2 c2 hx2 hc2 g hg => (hyfu i2 h2 x2 c2 hx2 hc2 g hg).sx (hcd.trans e3).sx, fun g hg => by cases hg⟩
      · obtain ⟨⟨fσ3, rfl⟩, exa, hrd3, ys3, hys3, hyl3, hyso3, hyfu3, hdone⟩ := p
        obtain ⟨rfl, hgj⟩ := yj
        have hTg := hgs.nth hgj []
        generalize hgg : gs.getD j [] = g at hTg
        have hjl : j < gs.length := by omega
        have hgm : g ∈ gs := by
          rw [← hgg, List.getD_eq_getElem?_getD, List.getElem?_eq_getElem hjl]
          exact List.getElem_mem _
        have hgg2 : g ∈ givensOf xx.1.1 (aliveK L (L.circle - (i + 1) - 1)) L.many := hperm.mem_iff.mp hgm
        have hgle := given_len hgg2
        have tk : gs.take (j + 1) = gs.take j ++ [g] := by rw [← hgg]; exact take_succ_getD _ [] hjl
        have hpre2 : Pre L g0 (i + 1 + 1) (plusL xx.1.1 g) g (c + (newIn xx.1.2 g).length) (g :: rows) := Pre.step hpre hiL hgg2
        have hTg3 : TI g gval H4' := hTg.ex (e0.trans exa)
        refine ⟨_, tgt_name 8 sc_calmest_from.nd, ?_⟩
        -- spot, starts
        refine ws_parG (T := fun H1 vs H2 => ∃ sp, vs = [.ref sp, .int ((c + (newIn xx.1.2 g).length : Nat) : Int)] ∧ KeyAt H2 (plusL xx.1.1 g, g) sp) 9 10 rfl sc_calmest_from.nd (EvG.imp (eg_cons (ev_tupG (EvG.imp (T' := fun _ vs H2 => ∃ z, vs = [z, gval] ∧ TI (plusL xx.1.1 g) z H2) (eg_cons (ev_callG (R := fits (TI (plusL xx.1.1 g))) (T := fun _ vs _ => vs = [.ref ka, gval]) (cal_step (P := P) (w := w) (base := base) T) hr (by decide) (EvA.g (ea_cons (ev_name 2 rfl) (ea_cons (ev_name 8 rfl) ea_nil))) fun H1 vs H2 e1 e2 tt Q q => ?_) fun H1 v H2 e1 e2 rv => eg_one (ev_name 8 rfl)) fun H1 vs H2 e1 e2 tt => ?_) fun H1 vs H2 ⟨z, e, _⟩ => by rw [e]; show 2 ≤ 100000; decide) fun H1 v H2 e1 e2 rv => eg_one (ev_add (ev_fld (a := .Name "path" _) (f := "starts") (v := .int (c : Nat)) (ev_name 7 rfl) ((exa.trans (e1.trans e2)) _ _ hpc.choose_spec.choose_spec.choose_spec) T.cPath T.aPath_starts (path_starts _ _ _)) (ev_call (R := is (.int ((newIn xx.1.2 g).length : Nat))) (cal_starts_between (P := P) (w := w) (base := base) T) hr (by decide) (ea_cons (ev_name 6 rfl) (ea_cons (ev_name 8 rfl) ea_nil)) fun H3 e3 Q q => ?_))) fun H1 vs H2 e1 e2 tt => ?_) fun vs H5 e5 tt => ?_
        · subst tt
          exact ⟨.ref ka, gval, xx.1.1, g, rfl, ⟨ka, rfl, (exa.trans (e1.trans e2)) _ _ k2⟩, hTg3.ex (e1.trans e2), by omega, fun v H' e3 h => q v H' e3 h⟩
        · obtain ⟨v, r, Hm, rfl, em, rv, e3, v2, rfl, Hn, en, r2, rfl⟩ := tt
          cases r2
          exact ⟨v, rfl, TI.ex rv e3⟩
        · exact ⟨.ref kb, gval, xx.1.2, g, rfl, ⟨kb, rfl, (exa.trans ((e1.trans e2).trans e3)) _ _ k3⟩, hTg3.ex ((e1.trans e2).trans e3), by omega, fun H' e4 => q _ H' e4 rfl⟩
        · obtain ⟨v, r, Hm, rfl, em, ⟨ws2, Hk, sp, rfl, ek, ⟨z, rfl, za, rfl, hz⟩, spn, _, rfl⟩, e3, v2, rfl, Hn, en, r2, rfl⟩ := tt
          cases r2
          obtain ⟨ga, rfl, hga⟩ := hTg3
          have ne : ∀ b ys, Hk b = some (HO.tup ys) → b ≠ sp := fun b ys q => ne_of_none q spn
          refine ⟨sp, by simp, za, ga, en _ _ upd_same, en _ _ (by rw [upd_ne (ne _ _ hz)]; exact hz), en _ _ ?_⟩
          have hgk : Hk ga = some (.tup (nums g)) := (e1.trans ek) _ _ hga
          rw [upd_ne (ne _ _ hgk)]
          exact hgk
        · obtain ⟨sp, rfl, hkey⟩ := tt
          refine ⟨_, _, rfl, ?_⟩
          have exb := exa.trans e5
          have hys5 := hys3.ex e5
          have hpc5 : PathC CP xx.2.2 c H5 := hpc.sx exb.sx
          have hso5 := hyso3.sx e5.sx
          refine ws_ifE (P1 := ∀ p c', atE ys3 (plusL xx.1.1 g, g) = some p → PathC CP p c' H5 → c + (newIn xx.1.2 g).length ≤ c') (P2 := ∃ p c', atE ys3 (plusL xx.1.1 g, g) = some p ∧ PathC CP p c' H5 ∧ c' ≤ c + (newIn xx.1.2 g).length) ?_ (fun hlt H6 e6 => ?_) fun hge H6 e6 => ?_
          · cases hat : atE ys3 (plusL xx.1.1 g, g) with
            | none =>
              refine ⟨true, EvW.et (ew_or (k := true) (j := false) (EvT.is_ (et_nnotin hr.units (ev_name 9 rfl) (ev_name 5 rfl) hkey hys5) (by rw [hat]; rfl)) (fun h => nomatch h)), fun _ => ?_, fun h => ?_⟩
              · intro p c' hp
                cases hp
              · cases h
            | some p =>
              obtain ⟨tp, hmem⟩ := atE_mem hat
              obtain ⟨c', rows', _, hpc', _⟩ := hso5 _ hmem
              have hpc'' := hpc'
              obtain ⟨dx', g', b', hins⟩ := hpc''
              refine ⟨_, EvW.et (ew_or (k := false) (j := decide (((c + (newIn xx.1.2 g).length : Nat) : Int) < (c' : Nat))) (EvT.is_ (et_nnotin hr.units (ev_name 9 rfl) (ev_name 5 rfl) hkey hys5) (by rw [hat]; rfl)) (fun _ => ew_or1 (et_lt (ev_name 10 rfl) (ev_fld (ev_nget hr.units (ev_name 5 rfl) (ev_name 9 rfl) hkey hys5 hat (by exact fun _ _ => rfl)) hins T.cPath T.aPath_starts (path_starts _ _ _))))), fun hk => ?_, fun hk => ?_⟩
              · intro p2 c2 hp2 hc2
                cases hp2
                obtain rfl := hpc'.inj hc2
                rw [Bool.false_or] at hk
                have := of_decide_eq_true hk
                omega
              · rw [Bool.false_or] at hk
                have := of_decide_eq_false hk
                exact ⟨p, c', rfl, hpc', by omega⟩
          · refine ws_nput (F := fun H1 q H2 => H1 q = none ∧ ∃ dx, H2 q = some (.ins CP dx (pathFs (.int ((c + (newIn xx.1.2 g).length : Nat) : Int)) gval (.ref xx.2.2)))) hr.units (ev_path (T := T) hr (by decide) (ea_cons (ev_name 10 rfl) (ea_cons (ev_name 8 rfl) (ea_cons (ev_name 7 rfl) ea_nil)))) (ev_name 5 rfl) (ev_name 9 rfl) (hkey.sx e6.sx) (hys5.ex e6) (by omega) fun q H7 H8 ob8 e7 ⟨_, dxq, hq7⟩ e8 hnd8 => ?_
            have hldnone : ∀ o, H5 ld = some o → sturdy o = false := fun o ho => by
              obtain ⟨_, _, _, _, o1, _, _, h5, _⟩ := hys5
              rw [h5] at ho
              cases ho
              rfl
            have e58 : Ex H5 H8 := (e6.trans e7).trans e8
            have sx8 : Sx H8 (upd H8 ld (fixO ld ob8)) := fun b o hb so => by
              rw [upd_ne (fun z => ?_)]
              · exact hb
              · subst z
                obtain ⟨_, _, _, _, o1, _, _, h5, _⟩ := hys5.ex e58
                rw [h5] at hb
                cases hb
                cases so
            have sx58 : Sx H5 (upd H8 ld (fixO ld ob8)) := e58.sx.trans sx8
            have hq8 : (upd H8 ld (fixO ld ob8)) q = some (.ins CP dxq (pathFs (.int ((c + (newIn xx.1.2 g).length : Nat) : Int)) gval (.ref xx.2.2))) := sx8 _ _ (e8 _ _ hq7) rfl
            have hpq : PathC CP q (c + (newIn xx.1.2 g).length) (upd H8 ld (fixO ld ob8)) := ⟨dxq, _, _, hq8⟩
            have hch8 : Chain CP (g :: rows) (.ref q) (upd H8 ld (fixO ld ob8)) := .cons hq8 (TI.sx _ _ _ (e5.sx.trans sx58) hTg3) (hch.sx (exb.sx.trans sx58))
            have low : ∀ p c', atE ys3 (plusL xx.1.1 g, g) = some p → PathC CP p c' (upd H8 ld (fixO ld ob8)) → c + (newIn xx.1.2 g).length ≤ c' := fun p c' hat hpc' => by
              obtain ⟨tp, hmem⟩ := atE_mem hat
              obtain ⟨c2, _, _, hpc2, _⟩ := hso5 _ hmem
              obtain rfl := hpc'.inj (hpc2.sx sx58)
              exact hlt p _ hat hpc2
            have exf : Ex H' (upd H8 ld (fixO ld ob8)) := (exb.trans e58).mut ln
            refine ws_nil (ws_nil ⟨⟨fun n => [none, none, none, none, none, none, none, none, some gval, some (.ref sp), some (.int ((c + (newIn xx.1.2 g).length : Nat) : Int)), fσ3 11, fσ3 12].getD n none, rfl⟩, exf, ?_, _, hnd8, ?_, fun z hz => ?_, fun i2 h2 x2 c2 hx2 hc2 g2 hg2 => ?_, fun g2 hg2 => ?_⟩)
            · rw [upd_ne rdld]
              exact e58 _ _ (e5 _ _ hrd3)
            · have := putE_len ys3 (plusL xx.1.1 g, g) sp q
              omega
            · have hnod := hnd8.2.2.2.1
              by_cases hk : z.1 = (plusL xx.1.1 g, g)
              · have e1z : atE (putE ys3 (plusL xx.1.1 g, g) sp q) z.1 = some z.2.2 := atE_of_mem hnod (t := z.2.1) (by obtain ⟨a1, a2, a3⟩ := z; exact hz)
                rw [atE_put, if_pos hk] at e1z
                cases e1z
                rw [hk]
                exact ⟨_, _, hpre2, hpq, hch8⟩
              · have e1z : atE (putE ys3 (plusL xx.1.1 g, g) sp q) z.1 = some z.2.2 := atE_of_mem hnod (t := z.2.1) (by obtain ⟨a1, a2, a3⟩ := z; exact hz)
                rw [atE_put, if_neg hk] at e1z
                obtain ⟨tz, hmz⟩ := atE_mem e1z
                obtain ⟨c2, r2, w1, w2, w3⟩ := hso5 _ hmz
                exact ⟨c2, r2, w1, w2.sx sx58, w3.sx sx58⟩
            · exact ((hyfu3 i2 h2 x2 c2 hx2 hc2 g2 hg2).sx (e5.sx.trans sx58)).put hpq low
            · rw [tk] at hg2
              rcases List.mem_append.mp hg2 with h | h
              · exact ((hdone g2 h).sx (e5.sx.trans sx58)).put hpq low
              · rw [List.mem_singleton.mp h]
                exact ⟨q, _, by rw [atE_put, if_pos rfl], hpq, Nat.le_refl _⟩
          · obtain ⟨p, c', hat, hpc', hle⟩ := hge
            refine ws_nil (ws_nil ⟨⟨fun n => [none, none, none, none, none, none, none, none, some gval, some (.ref sp), some (.int ((c + (newIn xx.1.2 g).length : Nat) : Int)), fσ3 11, fσ3 12].getD n none, rfl⟩, exb.trans e6, (e5.trans e6) _ _ hrd3, ys3, hys5.ex e6, by omega, hso5.sx e6.sx, fun i2 h2 x2 c2 hx2 hc2 g2 hg2 => (hyfu3 i2 h2 x2 c2 hx2 hc2 g2 hg2).sx (e5.trans e6).sx, fun g2 hg2 => ?_⟩)
            rw [tk] at hg2
            rcases List.mem_append.mp hg2 with h | h
            · exact (hdone g2 h).sx (e5.trans e6).sx
            · rw [List.mem_singleton.mp h]
              exact ⟨p, c', hat, hpc'.sx e6.sx, hle⟩
      · obtain ⟨⟨fσ3, rfl⟩, exa, hrd3, ys3, hys3, hyl3, hyso3, hyfu3, hdone⟩ := p
        rw [← hgsl, List.take_length] at hdone
        refine ws_nil ⟨⟨⟨fun n => [none, none, some (.ref ka), none, none, none, some (.ref kb), some (.ref xx.2.2), fσ3 8, fσ3 9, fσ3 10, fσ3 11, fσ3 12].getD n none, rfl⟩, exa, ys3, hys3, by omega, hyso3, fun i2 h2 x2 c2 hx2 hc2 g hg => ?_⟩, hrd3⟩
        rcases Nat.lt_succ_iff_lt_or_eq.mp h2 with h | h
        · exact hyfu3 i2 h x2 c2 hx2 hc2 g hg
        · subst h
          rw [hxx] at hx2
          cases hx2
          obtain rfl := hpc.inj hc2
          exact hdone g (hperm.mem_iff.mpr hg)
    · obtain ⟨⟨⟨fσ, rfl⟩, exc, ys, hys, hyl, hyso, hyfu⟩, hrd⟩ := p
      refine ws_set 3 sc_calmest_from.nd (ev_name 5 rfl) fun v6 H6 e6 r6 => ?_
      cases r6
      refine ws_nil ⟨⟨_, ld, _, _, _, _, _, _, _, _, _, ys, rfl, hys.ex e6, ?_, hyso.sx e6.sx, fun s b c rows hp => ?_⟩, (ex.trans exc).trans e6⟩
      · rw [Nat.pow_succ]
        omega
      · cases hp with
        | step h1 h2 h3 =>
          obtain ⟨p1, c1, q1', q2', q3'⟩ := hfu _ _ _ _ h1
          obtain ⟨t1, hm1⟩ := atE_mem q1'
          obtain ⟨i2, hi2⟩ := List.mem_iff_getElem?.mp hm1
          have hlt : i2 < xs.length := (List.getElem?_eq_some_iff.mp hi2).1
          obtain ⟨p2, c2, z1, z2, z3⟩ := hyfu i2 hlt _ _ hi2 q2' _ h3
          exact ⟨p2, c2, z1, z2.sx e6.sx, Nat.le_trans z3 (Nat.add_le_add_right q3' _)⟩
  · obtain ⟨⟨x2, rd, x4, x5, x6, x7, x8, x9, x10, x11, x12, xs, rfl, hxs, hxl, hso, hfu⟩, ex⟩ := p
    have hdl : (ds.drop 1).length = L.circle - 1 := by rw [List.length_drop]; omega
    rw [hdl] at hxl hso hfu
    rw [show L.circle - 1 + 1 = L.circle by omega] at hso hfu
    have pow8 : 8 ^ (L.circle - 1) ≤ 8 ^ 5 := Nat.pow_le_pow_right (by decide) (by omega)
    have e0 : Ex H H' := ((e1.trans e2).trans e3).trans ex
    refine ws_set 11 sc_calmest_from.nd (ev_lst ea_nil (by show 0 ≤ 100000; decide)) fun v4 H4 e4 r4 => ?_
    obtain ⟨fl, rfl, fln, hfl⟩ := r4
    refine ws_forN PassesOwn.never rfl (ev_name 3 rfl) (hxs.ex e4) (fun ob hob => ⟨fun i' σ2 H2 => (∃ f : Nat → Option V, σ2 = [some (.ref a0), some (.ref ya), f 2, some (.ref rd), f 4, f 5, f 6, f 7, f 8, f 9, f 10, some (.ref fl), f 12]) ∧ Ex H' H2 ∧ H2 rd = some (fixO rd ob) ∧ ∃ cs : List (Nat × Addr), H2 fl = some (.lst (cs.map fun z => .ref z.2)) ∧ cs.length = i' ∧ (∀ z ∈ cs, EndP CP L g0 z.1 z.2 H2) ∧
      ∀ i2, i2 < i' → ∀ x c, xs[i2]? = some x → PathC CP x.2.2 c H' → ∃ z ∈ cs, z.1 = c + (newIn x.1.2 g0).length, fun H5 e5 => ?_, fun i' σ2 H2 _ p => p.2.2.1, fun i' xx Tt σ2 Hc hi' p hxx hTt => ?_, fun σ2 H2 p => ?_⟩) (pi_nitems pe_w)
    · exact ⟨⟨fun n => [none, none, x2, none, x4, x5, x6, x7, x8, x9, x10, none, x12].getD n none, rfl⟩, e4.trans e5, e5 _ _ hob, [], e5 _ _ hfl, rfl, fun (z : Nat × Addr) (hz : z ∈ ([] : List (Nat × Addr))) => (nomatch hz), fun _ h => absurd h (Nat.not_lt_zero _)⟩
    · obtain ⟨⟨fσ, rfl⟩, exc, hrd, cs, hcs, hcl, hce, hcf⟩ := p
      have hxm := List.mem_of_getElem? hxx
      obtain ⟨ka, kb, k1, k2, k3⟩ := hxs.2.2.1 xx hxm
      obtain ⟨c, rows, hpre, hpc, hch⟩ := hso xx hxm
      obtain ⟨pf1, pf2, pf3, pf4, pf5, pf6, pf7, pf8, pf9⟩ := hpre.facts ok
      have exd : Ex H' (upd Hc Tt (.tup [.ref xx.2.1, .ref xx.2.2])) := exc.trans (Ex.new hTt)
      refine ⟨_, tgt_tup rfl (SqT.of upd_same) rfl (tgs_cons (tgt_tup rfl (SqT.of (exd _ _ k1)) rfl (tgs_cons (tgt_name 2 sc_calmest_from.nd) (tgs_cons (tgt_name 12 sc_calmest_from.nd) tgs_nil))) (tgs_cons (tgt_name 7 sc_calmest_from.nd) tgs_nil)), ?_⟩
      generalize hHd : upd Hc Tt (.tup [.ref xx.2.1, .ref xx.2.2]) = Hd at exd ⊢
      have hcd : Ex Hc Hd := by rw [← hHd]; exact Ex.new hTt
      obtain ⟨dxp', gp, bp, hins⟩ := id hpc
      have hg03 : g0.length ≤ 3 := pf6
      haveI : Anti (fun H1 v H2 => ∃ q, v = V.ref q ∧ (H1 q = none ∧ ∃ dx, H2 q = some (HO.ins CP dx (pathFs (.int ((c + (newIn xx.1.2 g0).length : Nat) : Int)) .non (.ref xx.2.2))))) := ⟨fun H1 H2 v H3 e ⟨q, h1, h2, h3⟩ => ⟨q, h1, e.back h2, h3⟩⟩
      refine ws_append (l := fl) (xs := cs.map fun z => .ref z.2) (hcd _ _ hcs) (by rw [List.length_map]; omega) (ev_name 11 rfl) (ev_path (T := T) (s := .int ((c + (newIn xx.1.2 g0).length : Nat) : Int)) (g := .non) (b := .ref xx.2.2) hr (by decide) (ea_cons (ev_add (ev_fld (ev_name 7 rfl) (exd _ _ hins) T.cPath T.aPath_starts (path_starts _ _ _)) (ev_call (R := is (.int ((newIn xx.1.2 g0).length : Nat))) (cal_starts_between (P := P) (w := w) (base := base) T) hr (by decide) (ea_cons (ev_name 12 rfl) (ea_cons (ev_name 1 rfl) ea_nil)) fun H3 e3' Q q => ?_)) (ea_cons ev_non (ea_cons (ev_name 7 rfl) ea_nil)))) fun v5 H5 e5 r5 => ?_
      · exact ⟨.ref kb, .ref ya, xx.1.2, g0, rfl, ⟨kb, rfl, (exd.trans e3') _ _ k3⟩, ⟨ya, rfl, ((e0.trans exd).trans e3') _ _ hya⟩, by omega, fun H' e4 => q _ H' e4 rfl⟩
      · obtain ⟨q, rfl, qn, dxq, hq⟩ := r5
        have hclH5 : H5 fl = some (.lst (cs.map fun z => .ref z.2)) := (hcd.trans e5) _ _ hcs
        have sx5 : Sx H5 (upd H5 fl (.lst ((cs.map fun z => V.ref z.2) ++ [.ref q]))) := (Sx.refl H5).mutL hclH5
        have sxc : Sx Hc (upd H5 fl (.lst ((cs.map fun z => V.ref z.2) ++ [.ref q]))) := (hcd.trans e5).sx.trans sx5
        have flr : rd ≠ fl := fun e => by
          subst e
          rw [hrd] at hcs
          cases hcs
        refine ws_nil ⟨⟨fun n => [none, none, some (.ref ka), none, fσ 4, fσ 5, fσ 6, some (.ref xx.2.2), fσ 8, fσ 9, fσ 10, none, some (.ref kb)].getD n none, rfl⟩, (exd.trans e5).mut fln, ?_, cs ++ [(c + (newIn xx.1.2 g0).length, q)], ?_, by rw [List.length_append, hcl]; rfl, fun z hz => ?_, fun i2 h2 x2 c2 hx2 hc2 => ?_⟩
        · rw [upd_ne flr]
          exact (hcd.trans e5) _ _ hrd
        · rw [upd_same, List.map_append]
          rfl
        · rcases List.mem_append.mp hz with h | h
          · exact (hce z h).sx sxc
          · rw [List.mem_singleton.mp h]
            exact ⟨dxq, xx.2.2, xx.1.1, xx.1.2, c, rows, sx5 _ _ hq rfl, hpre, rfl, hch.sx (exc.sx.trans sxc)⟩
        · rcases Nat.lt_succ_iff_lt_or_eq.mp h2 with h | h
          · obtain ⟨z, hz, e⟩ := hcf i2 h x2 c2 hx2 hc2
            exact ⟨z, List.mem_append_left _ hz, e⟩
          · subst h
            rw [hxx] at hx2
            cases hx2
            obtain rfl := hpc.inj hc2
            exact ⟨_, List.mem_append_right _ (List.mem_singleton.mpr rfl), rfl⟩
    · obtain ⟨⟨fσ, rfl⟩, exc, hrd, cs, hcs, hcl, hce, hcf⟩ := p
      refine fin _ H2 fl cs (e0.trans exc) rfl hcs (by omega) hce fun s b c rows hp => ?_
      obtain ⟨p1, c1, q1', q2', q3'⟩ := hfu _ _ _ _ hp
      obtain ⟨t1, hm1⟩ := atE_mem q1'
      obtain ⟨i2, hi2⟩ := List.mem_iff_getElem?.mp hm1
      have hlt : i2 < xs.length := (List.getElem?_eq_some_iff.mp hi2).1
      obtain ⟨z, hz, e⟩ := hcf i2 hlt _ _ hi2 q2'
      refine ⟨z, hz, ?_⟩
      rw [e]
      exact Nat.add_le_add_right q3' _
end
end TS
/-! ## P5 -/
namespace TS
open PySem PySem.Spec PyProof.Rows L2
section
variable {P : Program} {w : World} {K : PySem.W.Frag} {mg : Str → Option Value} {base : Heap} {CL CS CP : Addr}
abbrev nRdLot : List Str := ["text", "rows", "head", "number", "works", "row"]
theorem sc_read_lot : FnScope nRdLot ["text"] (defScope s_read_lot) := ⟨rfl, rfl, rfl, by decide +kernel, rfl, by decide +kernel, by decide +kernel⟩
def spRdLot : Sp := fun vs H Q _ => ∃ (m : Nat) (ws : List Wk), vs = [.str (textS m ws)] ∧ okWs ws ∧ 1 ≤ m ∧ m ≤ 3 ∧ ∀ v H', Ex H H' → IsOwn (lotOf m ws) ws v H' → Q v H'
theorem cal_read_lot (T : Txt K mg CL CS CP) : C8.Cal P w K mg base 5 "read_lot" spRdLot [] := by
  refine cal_mk T.d_read_lot sc_read_lot (fun vs H Q E h => ?_) fun f cdv A outer s H vs Q E hr h => ?_
  · obtain ⟨m, ws, rfl, _⟩ := h
    rfl
  · obtain ⟨m, ws, rfl, ok, h1, h3, k⟩ := h
    have h4 : m < 4 := by omega
    have htl := text_len h4 ok
    have hhl := (head_len m h4).2
    have hw1 := ok.1
    have hw3 := ok.2.1
    have hmem := okWs_mem ok
    obtain ⟨tg, hG⟩ := T.t_GAP
    refine ws_set 1 sc_read_lot.nd (ev_splitS (z := textS m ws) (sep := "\n") (ev_name 0 rfl) ev_str (by decide +kernel) (by omega)) fun v H1 e1 rv => ?_
    rw [text_split h4 ok] at rv
    obtain ⟨rl, rfl, _, hrl⟩ := rv
    refine ws_set 2 sc_read_lot.nd (ev_splitS (z := headS m) (sep := " ") (ev_ixL (ev_name 1 rfl) (ev_int (i := 0)) (SqL.of hrl) (atI_of (i := 0) rfl)) (ev_glob hG ⟨tg, rfl⟩) (by decide +kernel) (by omega)) fun v H2 e2 rv => ?_
    rw [head_split h4] at rv
    obtain ⟨hl, rfl, _, hhl2⟩ := rv
    refine ws_set 3 sc_read_lot.nd (R := is (.int (m : Nat))) (ev_ifT (EvW.et (ew_and (k := true) (j := true) ((et_eqS (x := .int (2 : Nat)) (y := .int 2) rfl (ev_lenQ (ev_name 2 rfl) (.inl (SqL.of hhl2)) T.n_len) ev_int).is_ (by decide)) fun _ => ew_and1 ((et_eqS (x := .str "hands") (y := .str "hands") rfl (ev_ixL (ev_name 2 rfl) (ev_int (i := 0)) (SqL.of hhl2) rfl) ev_str).is_ (by decide +kernel)))) (ev_call (R := is (.int (m : Nat))) (cal_read_number (P := P) (w := w) (base := base) T) hr (by decide) (ea_cons (ev_ixL (ev_name 2 rfl) (ev_int (i := 1)) (SqL.of hhl2) rfl) ea_nil) fun H3 e3 Q q => ⟨m, rfl, h1, by omega, fun H' e' => q _ H' e' rfl⟩)) fun v H3 e3 rv => ?_
    cases rv
    refine ws_setCE 4 (n := ws.length) (P := fun i v H' => WK (ws.getD i ("", 0, 0)) v H') (own := [("row", 5)]) rfl sc_read_lot.nd (blkOk_by (own := [("row", 5)]) (N := nRdLot) (sc := defScope s_read_lot) (by decide +kernel)) (src_call (F := fun i v _ => v = .str (rowS (ws.getD i ("", 0, 0)))) (ev_from1 (ev_name 1 rfl) ((e2.trans e3) _ _ hrl) (by show 1 ≤ _; rw [List.length_map, List.length_cons]; omega)) (fun H4 v H5 e4 e5 ⟨l, hv, _, hl⟩ => ⟨l, _, hv, SqL.of hl, by simp, fun i x H6 _ hx => ?_⟩) (pi_list pe_w)) (by omega) (fun i => WK.sx) (fun _ _ _ _ h => by rw [h.1]; exact Ex.refl _) (fun i xi Hc Hd hi ec yc => ?_) (fun v H4 e4 r => ?_) (sw_true rfl rfl rfl (by decide +kernel))
    · have hx' : ((ws.map rowS).map V.str)[i]? = some x := hx
      rw [List.getElem?_map, List.getElem?_map] at hx'
      cases hq : ws[i]? with
      | none => rw [hq] at hx'; cases hx'
      | some wk =>
        rw [hq] at hx'
        rw [List.getD_eq_getElem?_getD, hq]
        exact (Option.some.inj hx').symm
    · obtain ⟨rfl, rfl⟩ := yc
      have hwm : ws.getD i ("", 0, 0) ∈ wkAll := by
        rw [List.getD_eq_getElem?_getD, (List.getElem?_eq_getElem hi)]
        exact hmem _ (List.getElem_mem hi)
      exact ⟨_, fun s H0 C cl fp => tgt_name 5 sc_read_lot.nd, rfl, rfl, fun _ s H0 C cl fp => ev_call (R := fits (WK (ws.getD i ("", 0, 0)))) (cal_read_work (P := P) (w := w) (base := base) T) hr (by decide) (ea_cons (ev_name 5 rfl) ea_nil) fun H5 e5 Q q => ⟨_, rfl, hwm, fun v H' e' hv => q v H' e' hv⟩⟩
    · obtain ⟨wl, us, rfl, hwn, hwl, hall⟩ := r
      rw [picked_all] at hall
      have hW : All2 (fun w u => WK w u H4) ws us := by
        have := All2.maps (F := fun (w : Wk) u => WK w u H4) (f := fun i => ws.getD i ("", 0, 0)) hall
        rw [range_getD] at this
        exact this
      have hul := hW.len
      refine ws_ifF (EvW.et (ew_or (k := false) (j := false) ((et_isN (ev_name 3 rfl)).is_ rfl) fun _ => ew_or (k := false) (j := false) (et_not (k := true) ((et_chainLe (ev_int (i := 1)) (ev_name 3 rfl) (ev_globI T.i_MOST_HANDS)).is_ ?_)) fun _ => ew_or (k := false) (j := false) (et_not (k := true) ((et_chainLe (ev_int (i := 1)) (ev_lenQ (ev_name 4 rfl) (.inl (SqL.of hwl)) T.n_len) (ev_globI T.i_MOST_WORKS)).is_ ?_)) fun _ => ew_or1 (et_noneIn (by have := hr.un; show (A.deeper (envOfC "read_lot" (defScope s_read_lot) s.heap.objs.size f cdv)).units + 65 < cLine; omega) ev_non (ev_name 4 rfl) hwl hW hmem))) fun H5 e5 => ?_
      · have a1 : decide ((1 : Int) ≤ (m : Nat)) = true := decide_eq_true (by omega)
        have a2 : decide (((m : Nat) : Int) ≤ 6) = true := decide_eq_true (by omega)
        rw [a1, a2]
        rfl
      · have a1 : decide ((1 : Int) ≤ (us.length : Nat)) = true := decide_eq_true (by omega)
        have a2 : decide (((us.length : Nat) : Int) ≤ 6) = true := decide_eq_true (by omega)
        rw [a1, a2]
        rfl
      · refine ws_nil (ws_ret (R := newT [.int (m : Nat), .ref wl]) (ev_ifT ((et_eqS (x := .int (ws.length : Nat)) (y := .int (us.length : Nat)) rfl (ev_lenDict rfl ok (ev_name 4 rfl) (e5 _ _ hwl) (hW.imp fun w u z => WK.sx _ _ _ e5.sx z) T.n_dict T.n_len) (ev_lenQ (ev_name 4 rfl) (.inl (SqL.of (e5 _ _ hwl))) T.n_len)).is_ (by rw [hul]; exact decide_eq_true rfl)) (ev_tup (ea_cons (ev_name 3 rfl) (ea_cons (ev_name 4 rfl) ea_nil)) (by show 2 ≤ 100000; decide))) fun v H6 e6 rv => ?_)
        obtain ⟨t, rfl, _, ht⟩ := rv
        exact k _ H6 (e1.trans (e2.trans (e3.trans (e4.trans (e5.trans e6))))) ⟨rfl, t, wl, us, rfl, ht, (e5.trans e6) _ _ hwl, hW.imp fun w u z => WK.sx _ _ _ (e5.trans e6).sx z⟩
end
end TS
/-! ## P6 -/
namespace TS
open PySem PySem.Spec PyProof.Rows L2
def lotFs (txt : V) (m : Nat) (wl ol pl sm ci : V) : List (Str × V) := [("told", txt), ("many", .int (m : Nat)), ("works", wl), ("order", ol), ("parts", pl), ("summed", sm), ("circle", ci)]
abbrev lotF3 (txt : V) (m : Nat) (wl : V) : List (Str × V) := [("told", txt), ("many", .int (m : Nat)), ("works", wl)]
abbrev lotF5 (txt : V) (m : Nat) (wl ol pl : V) : List (Str × V) := [("told", txt), ("many", .int (m : Nat)), ("works", wl), ("order", ol), ("parts", pl)]
def circ (ws : List Wk) (i : Nat) : Nat := ((ws.take i).map (·.2.2)).foldl Nat.lcm 1
theorem circ_succ {ws : List Wk} {i : Nat} {w : Wk} (h : ws[i]? = some w) : circ ws (i + 1) = Nat.lcm (circ ws i) w.2.2 := by
  unfold circ
  have : ws.take (i + 1) = ws.take i ++ [w] := by rw [List.take_succ, h]; rfl
  rw [this, List.map_append, List.foldl_append]
  rfl
theorem circ_all (ws : List Wk) (m : Nat) : circ ws ws.length = (lotOf m ws).circle := by
  unfold circ lotOf
  rw [List.take_length]
theorem fold_lcm_dvd {n : Nat} : ∀ (l : List Nat) (a : Nat), a ∣ n → (∀ x ∈ l, x ∣ n) → l.foldl Nat.lcm a ∣ n
  | [], a, h, _ => h
  | x :: l, a, h, hl => fold_lcm_dvd l _ (Nat.lcm_dvd h (hl x List.mem_cons_self)) fun y hy => hl y (List.mem_cons_of_mem _ hy)
theorem dvd_fold_lcm : ∀ (l : List Nat) (a : Nat), a ∣ l.foldl Nat.lcm a ∧ ∀ x ∈ l, x ∣ l.foldl Nat.lcm a
  | [], a => ⟨Nat.dvd_refl a, fun _ h => nomatch h⟩
  | x :: l, a => by
    obtain ⟨h1, h2⟩ := dvd_fold_lcm l (Nat.lcm a x)
    refine ⟨Nat.dvd_trans (Nat.dvd_lcm_left a x) h1, fun y hy => ?_⟩
    rcases (List.mem_cons).mp hy with rfl | hy
    · exact Nat.dvd_trans (Nat.dvd_lcm_right a y) h1
    · exact h2 y hy
theorem okWs_menu {ws : List Wk} (ok : okWs ws) : ∀ w ∈ ws, w.2 ∈ menuN := fun w hw => by
  obtain ⟨k, hk⟩ := List.getElem?_of_mem hw
  exact wkAt_share (ok.2.2 k w hk)
theorem circ_dvd {ws : List Wk} (ok : okWs ws) (i : Nat) : circ ws i ∣ 6 := by
  unfold circ
  refine fold_lcm_dvd _ _ (by decide) fun x hx => ?_
  obtain ⟨w, hw, rfl⟩ := List.mem_map.mp hx
  exact (menu_facts _ (okWs_menu ok w (List.mem_of_mem_take hw))).2.2.2.1
theorem circ_le {ws : List Wk} (ok : okWs ws) (i : Nat) : 1 ≤ circ ws i ∧ circ ws i ≤ 6 := by
  have h := circ_dvd ok i
  exact ⟨Nat.pos_of_dvd_of_pos h (by decide), Nat.le_of_dvd (by decide) h⟩
theorem lotOf_ok {m : Nat} {ws : List Wk} (ok : okWs ws) (h1 : 1 ≤ m) (h3 : m ≤ 3) : (lotOf m ws).ok := by
  refine ⟨h1, h3, ?_, ?_, fun p hp => ?_, ?_⟩
  · show 1 ≤ (ws.map _).length
    rw [List.length_map]
    exact ok.1
  · show (ws.map _).length ≤ 3
    rw [List.length_map]
    exact ok.2.1
  · obtain ⟨w, hw, rfl⟩ := List.mem_map.mp hp
    obtain ⟨a, b, c, _⟩ := menu_facts _ (okWs_menu ok w hw)
    exact ⟨a, b, c, (dvd_fold_lcm (ws.map (·.2.2)) 1).2 _ (List.mem_map.mpr ⟨w, hw, rfl⟩)⟩
  · rw [← circ_all]
    exact circ_le ok _
theorem lotOf_tight {m : Nat} {ws : List Wk} : (lotOf m ws).tight := fun k h1 hk => by
  refine Nat.le_of_dvd (by omega) (fold_lcm_dvd _ _ (Nat.one_dvd k) fun x hx => ?_)
  obtain ⟨w, hw, rfl⟩ := List.mem_map.mp hx
  exact hk w.2 (List.mem_map.mpr ⟨w, hw, rfl⟩)
section
variable {P : Program} {w : World} {K : PySem.W.Frag} {mg : Str → Option Value} {base : Heap} {CL CS CP : Addr}
abbrev nLot : List Str := ["self", "text", "found", "share", "name"]
theorem sc_Lot_init : FnScope nLot ["self", "text"] (defScope s_Lot_init) := ⟨rfl, rfl, rfl, by decide +kernel, rfl, by decide +kernel, by decide +kernel⟩
def spLot (CL : Addr) : Sp := fun vs H Q _ => ∃ (q dx : Addr) (m : Nat) (ws : List Wk), vs = [.ref q, .str (textS m ws)] ∧ H q = some (.ins CL dx []) ∧ okWs ws ∧ 1 ≤ m ∧ m ≤ 3 ∧ ∀ H', ExB q H H' → IsLot CL (lotOf m ws) (.ref q) H' → Q .non H'
theorem mak_Lot (T : Txt K mg CL CS CP) : C8.Mak P w K mg base 6 "Lot" CL (spLot CL) [] := by
  refine mak_mk T.gLot T.iLot sc_Lot_init (fun vs H Q E h => ?_) fun f cdv A outer s H vs Q E hr h => ?_
  · obtain ⟨q, dx, m, ws, rfl, _⟩ := h
    rfl
  · obtain ⟨q, dx, m, ws, rfl, hq, ok, h1, h3, k⟩ := h
    have hw3 := ok.2.1
    refine ws_set 2 sc_Lot_init.nd (R := fits (IsOwn (lotOf m ws) ws)) (ev_ifT (et_val (ev_isT (t := "str") (u := "str") (ev_name 1 rfl) (fun _ _ => .base (.str _)) (by decide +kernel) T.n_str (by decide +kernel) T.n_isinstance)) (ev_call (R := fits (IsOwn (lotOf m ws) ws)) (cal_read_lot (P := P) (w := w) (base := base) T) hr (by decide) (ea_cons (ev_name 1 rfl) ea_nil) fun H1 e1 Q qq => ⟨m, ws, rfl, ok, h1, h3, fun v H' e' hv => qq v H' e' hv⟩)) fun v H1 e1 rv => ?_
    obtain ⟨_, t, wl, us, rfl, ht, hwl, hW⟩ := rv
    have hul := hW.len
    refine ws_ifF ((et_isN (ev_name 2 rfl)).is_ rfl) fun H2 e2 => ?_
    have q2 : H2 q = some (.ins CL dx []) := (e1.trans e2) _ _ hq
    refine ws_nil (ws_flds (fs' := (lotF3 (.str (textS m ws)) m (.ref wl))) rfl (ea_cons (ev_name 1 rfl) (ea_cons (ev_ixT (ev_name 2 rfl) (ev_int (i := 0)) (SqT.of (e2 _ _ ht)) rfl) (ea_cons (ev_ixT (ev_name 2 rfl) (ev_int (i := 1)) (SqT.of (e2 _ _ ht)) rfl) ea_nil))) (by show 3 ≤ 100000; decide) q2
      (tgus_cons (tgu_fld 0 rfl T.cLot T.aLot_told (by decide)) (tgus_cons (tgu_fld 0 rfl T.cLot T.aLot_many (by show 1 < 1000; decide)) (tgus_cons (tgu_fld 0 rfl T.cLot T.aLot_works (by show 2 < 1000; decide)) tgus_nil))) fun H3 e3 => ?_)
    have wlq : wl ≠ q := fun e => by subst e; rw [e1 _ _ hq] at hwl; cases hwl
    have E3 : Ex (del q H) (upd H3 q (.ins CL dx (lotF3 (.str (textS m ws)) m (.ref wl)))) := Ex.mut ((del_ex q H).trans (e1.trans (e2.trans e3))) (del_none q H)
    have hwl3 : (upd H3 q (.ins CL dx (lotF3 (.str (textS m ws)) m (.ref wl)))) wl = some (.lst us) := by
      rw [upd_ne wlq]
      exact (e2.trans e3) _ _ hwl
    have hW3 : All2 (fun w u => WK w u (upd H3 q (.ins CL dx (lotF3 (.str (textS m ws)) m (.ref wl))))) ws us := hW.imp fun w u ⟨x, y, a, b, c⟩ => by
      refine ⟨x, y, a, ?_, ?_⟩
      · rw [upd_ne (fun e => by subst e; rw [e1 _ _ hq] at b; cases b)]
        exact (e2.trans e3) _ _ b
      · rw [upd_ne (fun e => by subst e; rw [e1 _ _ hq] at c; cases c)]
        exact (e2.trans e3) _ _ c
    generalize hH3 : upd H3 q (.ins CL dx (lotF3 (.str (textS m ws)) m (.ref wl))) = G3 at E3 hwl3 hW3
    have q3 : G3 q = some (.ins CL dx (lotF3 (.str (textS m ws)) m (.ref wl))) := by rw [← hH3]; exact upd_same
    refine ws_fldsG (n := 2) (T := fun H1 vs H2 => ∃ ol pl ps, vs = [.ref ol, .ref pl] ∧ H1 pl = none ∧ H2 pl = some (.lst ps) ∧ All2 (fun p u => T2 p u H2) (ws.map (·.2)) ps) rfl
      (EvG.imp (eg_cons (ev_comp (n := us.length) (P := fun i v _ => v = .str (ws.getD i ("", 0, 0)).1) (own := [("name", 4), ("share", 3)]) rfl sc_Lot_init.nd (blkOk_by (own := [("name", 4), ("share", 3)]) (N := nLot) (sc := defScope s_Lot_init) (by decide +kernel)) (src_list (ev_fld (ev_name 0 rfl) q3 T.cLot T.aLot_works rfl) (SqL.of hwl3)) (by omega) hG_l (fun i => isP_sx (v := fun i => .str (ws.getD i ("", 0, 0)).1) i) hY_at (fun i xi Hc Hd hi ec _ yc => ?A)) fun H4 v H5 e4 e5 rv => eg_one (ev_comp (n := us.length) (P := fun i v H' => T2 (ws.getD i ("", 0, 0)).2 v H') (own := [("name", 4), ("share", 3)]) rfl sc_Lot_init.nd (blkOk_by (own := [("name", 4), ("share", 3)]) (N := nLot) (sc := defScope s_Lot_init) (by decide +kernel)) (src_list (ev_fld (ev_name 0 rfl) ((e4.trans e5) _ _ q3) T.cLot T.aLot_works rfl) (SqL.of ((e4.trans e5) _ _ hwl3))) (by omega) hG_l (fun i => T2.sx) hY_at (fun i xi Hc Hd hi ec _ yc => ?B))) fun H4 vs H5 e4 e5 tt => ?C) (fun H1 vs H2 ⟨ol, pl, ps, e, _⟩ => by rw [e]; rfl) (by decide) q3 fun vs H4 p e4 tt hp => ?D
    case A =>
      obtain ⟨rfl, hxi⟩ := yc
      obtain ⟨wk, hwk, xt, qt, rfl, w1, w2⟩ := hW3.at hxi
      have eg : ws.getD i ("", 0, 0) = wk := by rw [List.getD_eq_getElem?_getD, hwk]; rfl
      rw [eg]
      exact ⟨_, fun s H0 C cl fp => tgt_tup rfl (SqT.of (ec _ _ w1)) rfl (tgs_cons (tgt_name 4 sc_Lot_init.nd) (tgs_cons (tgt_name 3 sc_Lot_init.nd) tgs_nil)), rfl, rfl, fun _ s H0 C cl fp => Ev.fits (ev_name 4 rfl) fun _ _ => rfl⟩
    case B =>
      obtain ⟨rfl, hxi⟩ := yc
      obtain ⟨wk, hwk, xt, qt, rfl, w1, w2⟩ := hW3.at hxi
      have eg : ws.getD i ("", 0, 0) = wk := by rw [List.getD_eq_getElem?_getD, hwk]; rfl
      have EE := (e4.trans e5).trans ec
      rw [eg]
      exact ⟨_, fun s H0 C cl fp => tgt_tup rfl (SqT.of (EE _ _ w1)) rfl (tgs_cons (tgt_name 4 sc_Lot_init.nd) (tgs_cons (tgt_name 3 sc_Lot_init.nd) tgs_nil)), rfl, rfl, fun _ s H0 C cl fp => Ev.fits (ev_name 3 rfl) fun _ e => ⟨qt, rfl, (EE.trans e) _ _ w2⟩⟩
    case C =>
      obtain ⟨v, r, Hm, rfl, em, ⟨ol, xs, rfl, _, _, _⟩, en, v2, rfl, Hm2, em2, ⟨pl, ps, rfl, hpn, hpl, hall⟩, rfl⟩ := tt
      rw [picked_all, ← hul] at hall
      have := All2.maps (F := fun (p : Nat × Nat) u => T2 p u Hm2) (f := fun i => (ws.getD i ("", 0, 0)).2) hall
      have e : (List.range ws.length).map (fun i => (ws.getD i ("", 0, 0)).2) = ws.map (·.2) := by
        conv => rhs; rw [← range_getD ws ("", 0, 0)]
        rw [List.map_map]
        rfl
      rw [e] at this
      exact ⟨ol, pl, ps, rfl, em.back hpn, hpl, this⟩
    obtain ⟨ol, pl, ps, rfl, hpn, hpl, hps⟩ := tt
    have plq : pl ≠ q := fun e => by subst e; rw [q3] at hpn; cases hpn
    have hpq : p ≠ q := (ne_of_none (e4 _ _ q3) hp).symm
    have plp : pl ≠ p := fun e => by subst e; rw [hpl] at hp; cases hp
    refine ⟨_, tgus_cons (tgu_fld 0 rfl T.cLot T.aLot_order (by show 3 < 1000; decide)) (tgus_cons (tgu_fld 0 rfl T.cLot T.aLot_parts (by show 4 < 1000; decide)) tgus_nil), ?_⟩
    have hfs : putF "parts" (V.ref pl) (putF "order" (V.ref ol) (lotF3 (.str (textS m ws)) m (.ref wl))) = (lotF5 (.str (textS m ws)) m (.ref wl) (.ref ol) (.ref pl)) := rfl
    have E5 : Ex (del q H) (upd (upd H4 p (.tup [.ref ol, .ref pl])) q (.ins CL dx (lotF5 (.str (textS m ws)) m (.ref wl) (.ref ol) (.ref pl)))) := Ex.mut ((E3.trans e4).trans (Ex.new hp)) (del_none q H)
    have hpl5 : (upd (upd H4 p (.tup [.ref ol, .ref pl])) q (.ins CL dx (lotF5 (.str (textS m ws)) m (.ref wl) (.ref ol) (.ref pl)))) pl = some (.lst ps) := by
      rw [upd_ne plq, upd_ne plp]
      exact hpl
    have hps5 : All2 (fun p' u => T2 p' u (upd (upd H4 p (.tup [.ref ol, .ref pl])) q (.ins CL dx (lotF5 (.str (textS m ws)) m (.ref wl) (.ref ol) (.ref pl))))) (ws.map (·.2)) ps := hps.imp fun w u ⟨x, a, b⟩ => by
      refine ⟨x, a, ?_⟩
      rw [upd_ne (fun e => by subst e; rw [e4 _ _ q3] at b; cases b), upd_ne (fun e => by subst e; rw [hp] at b; cases b)]
      exact b
    generalize hG5 : upd (upd H4 p (.tup [.ref ol, .ref pl])) q (.ins CL dx (lotF5 (.str (textS m ws)) m (.ref wl) (.ref ol) (.ref pl))) = G5 at E5 hpl5 hps5
    have q5 : G5 q = some (.ins CL dx (lotF5 (.str (textS m ws)) m (.ref wl) (.ref ol) (.ref pl))) := by rw [← hG5]; exact upd_same
    rw [hfs, hG5]
    refine ws_fldsG (n := 2) (T := fun H1 vs H2 => ∃ su, vs = [.ref su, .int 1] ∧ T2 (0, 1) (.ref su) H2) rfl (EvG.imp (eg_cons (ev_pairC (p := (0, 1))) fun H6 v H7 e6 e7 rv => EvA.g (ea_cons ev_int ea_nil)) fun H6 vs H7 e6 e7 tt => ?F) (fun H1 vs H2 ⟨su, e, _⟩ => by rw [e]; rfl) (by decide) q5 fun vs H6 p6 e6 tt hp6 => ?G
    case F =>
      obtain ⟨v, r, Hm, rfl, em, rv, en, rfl⟩ := tt
      obtain ⟨su, rfl, hsu⟩ := rv
      exact ⟨su, rfl, su, rfl, en _ _ hsu⟩
    obtain ⟨su, rfl, hsu⟩ := tt
    have hp6q : p6 ≠ q := (ne_of_none (e6 _ _ q5) hp6).symm
    refine ⟨_, tgus_cons (tgu_fld 0 rfl T.cLot T.aLot_summed (by show 5 < 1000; decide)) (tgus_cons (tgu_fld 0 rfl T.cLot T.aLot_circle (by show 6 < 1000; decide)) tgus_nil), ?_⟩
    have hfs2 : putF "circle" (V.int 1) (putF "summed" (V.ref su) (lotF5 (.str (textS m ws)) m (.ref wl) (.ref ol) (.ref pl))) = lotFs (.str (textS m ws)) m (.ref wl) (.ref ol) (.ref pl) (.ref su) (.int 1) := rfl
    rw [hfs2]
    have E7 : Ex (del q G5) (upd (upd H6 p6 (.tup [.ref su, .int 1])) q (.ins CL dx (lotFs (.str (textS m ws)) m (.ref wl) (.ref ol) (.ref pl) (.ref su) (.int 1)))) := Ex.mut (((del_ex q G5).trans e6).trans (Ex.new hp6)) (del_none q G5)
    have hT7 : T2 (0, 1) (.ref su) (upd (upd H6 p6 (.tup [.ref su, .int 1])) q (.ins CL dx (lotFs (.str (textS m ws)) m (.ref wl) (.ref ol) (.ref pl) (.ref su) (.int 1)))) := by
      obtain ⟨x, a, b⟩ := hsu
      refine ⟨x, a, ?_⟩
      rw [upd_ne (fun e => by subst e; rw [e6 _ _ q5] at b; cases b), upd_ne (fun e => by subst e; rw [hp6] at b; cases b)]
      exact b
    have hplD : (del q G5) pl = some (.lst ps) := by rw [del_ne plq]; exact hpl5
    have hpsD : All2 (fun p' u => T2 p' u (del q G5)) (ws.map (·.2)) ps := hps5.imp fun w u ⟨x, a, b⟩ => by
      refine ⟨x, a, ?_⟩
      rw [del_ne (fun e => by subst e; rw [q5] at b; cases b)]
      exact b
    have hpsl := hpsD.len
    rw [List.length_map] at hpsl
    have EHG : Ex (del q H) (del q G5) := ex_del E5 (del_none q H)
    refine ws_for (σ := _) PassesOwn.never rfl (src_list (ev_fld (ev_name 0 rfl) upd_same T.cLot T.aLot_parts rfl) (SqL.of (E7 _ _ hplD)))
      (fun i σ' H' => ∃ x3 x4 sm a b, σ' = [some (.ref q), some (.str (textS m ws)), some (.ref t), x3, x4] ∧ H' q = some (.ins CL dx (lotFs (.str (textS m ws)) m (.ref wl) (.ref ol) (.ref pl) sm (.int (circ ws i : Nat)))) ∧ Ex (del q G5) H' ∧ T2 (a, b) sm H' ∧ a ≤ i * 6 ^ i ∧ b ≤ 6 ^ i ∧ 0 < b)
      (fun H8 e8 _ => ⟨_, _, _, 0, 1, rfl, e8 _ _ upd_same, E7.trans e8, hT7.ex e8, by decide, by decide, by decide⟩) (fun i σ' H' _ ⟨_, _, _, _, _, _, _, ee, _⟩ => SqL.of (ee _ _ hplD)) (fun i x σ' Ha Hb hi pp yy => ?_) fun σ' H' pp => ?_
    · obtain ⟨x3, x4, sm, a, b, rfl, hqa, ee, hT, ha, hb, hb0⟩ := pp
      obtain ⟨rfl, hxi⟩ := yy
      obtain ⟨w2, hw2, hTx⟩ := hpsD.at hxi
      rw [List.getElem?_map] at hw2
      cases hwi : ws[i]? with
      | none => rw [hwi] at hw2; cases hw2
      | some wk =>
        rw [hwi] at hw2
        obtain rfl : wk.2 = w2 := Option.some.inj hw2
        have hi3 : i < 3 := by omega
        obtain ⟨f1, f2, f3, f4, _⟩ := menu_facts _ (okWs_menu ok wk (List.mem_of_getElem? hwi))
        have hcle := circ_le ok i
        have hpow : 6 ^ i ≤ 6 ^ 2 := Nat.pow_le_pow_right (by decide) (by omega)
        have hi6 : i * 6 ^ i ≤ 2 * 6 ^ 2 := Nat.mul_le_mul (by omega) hpow
        have hTx' := hTx.ex ee
        refine ⟨_, tgt_name 3 sc_Lot_init.nd, ?_⟩
        refine ws_fld 0 (R := fun _ v H2 => ∃ u z, u ≤ a * wk.2.2 + wk.2.1 * b ∧ z ≤ b * wk.2.2 ∧ 0 < z ∧ T2 (u, z) v H2) (ev_callG (R := fun _ v H2 => ∃ u z, u ≤ a * wk.2.2 + wk.2.1 * b ∧ z ≤ b * wk.2.2 ∧ 0 < z ∧ T2 (u, z) v H2) (T := fun _ vs _ => vs = [sm, x]) (cal_plus (P := P) (w := w) (base := base) T) hr (by decide) (EvA.g (ea_cons (ev_fld (ev_name 0 rfl) hqa T.cLot T.aLot_summed rfl) (ea_cons (ev_name 3 rfl) ea_nil))) fun H8 vs H9 e8 e9 tt Q qq => by
          subst tt
          exact ⟨sm, x, a, b, wk.2.1, wk.2.2, rfl, hT.ex (e8.trans e9), hTx'.ex (e8.trans e9), hb0, by omega, by omega, by omega, by omega, by omega, fun v H' u z h1 h2 h3 e' hv => qq v H' e' ⟨u, z, h1, h2, h3, hv⟩⟩) rfl hqa T.cLot T.aLot_summed (by show 7 < 1000; decide) fun v H8 e8 rv => ?_
        obtain ⟨u, z, g1, g2, g3, hTv⟩ := rv
        have hfs3 : putF "summed" v (lotFs (.str (textS m ws)) m (.ref wl) (.ref ol) (.ref pl) sm (.int (circ ws i : Nat))) = lotFs (.str (textS m ws)) m (.ref wl) (.ref ol) (.ref pl) v (.int (circ ws i : Nat)) := rfl
        rw [hfs3]
        have E8 : Ex (del q G5) (upd H8 q (.ins CL dx (lotFs (.str (textS m ws)) m (.ref wl) (.ref ol) (.ref pl) v (.int (circ ws i : Nat))))) := Ex.mut (ee.trans e8) (del_none q G5)
        have hTv8 : T2 (u, z) v (upd H8 q (.ins CL dx (lotFs (.str (textS m ws)) m (.ref wl) (.ref ol) (.ref pl) v (.int (circ ws i : Nat))))) := by
          obtain ⟨y, rfl, hy⟩ := hTv
          refine ⟨y, rfl, ?_⟩
          rw [upd_ne (fun e => by subst e; rw [e8 _ _ hqa] at hy; cases hy)]
          exact hy
        refine ws_fld 0 (R := is (.int (Nat.lcm (circ ws i) wk.2.2 : Nat))) (ev_call (R := is (.int (Nat.lcm (circ ws i) wk.2.2 : Nat))) (cal_multiple (P := P) (w := w) (base := base) T) hr (by decide) (ea_cons (ev_fld (ev_name 0 rfl) upd_same T.cLot T.aLot_circle rfl) (ea_cons (ev_at1 (ev_name 3 rfl) (hTx.ex E8)) ea_nil)) fun H9 e9 Q qq => ⟨circ ws i, wk.2.2, rfl, by omega, by omega, by omega, by omega, fun H' e' => qq _ H' e' rfl⟩) rfl upd_same T.cLot T.aLot_circle (by show 7 < 1000; decide) fun v9 H9 e9 rv => ?_
        cases rv
        have hfs4 : putF "circle" (V.int (Nat.lcm (circ ws i) wk.2.2 : Nat)) (lotFs (.str (textS m ws)) m (.ref wl) (.ref ol) (.ref pl) v (.int (circ ws i : Nat))) = lotFs (.str (textS m ws)) m (.ref wl) (.ref ol) (.ref pl) v (.int (Nat.lcm (circ ws i) wk.2.2 : Nat)) := rfl
        rw [hfs4, ← circ_succ hwi]
        refine ws_nil ⟨_, _, v, u, z, rfl, upd_same, Ex.mut (E8.trans e9) (del_none q G5), ?_, ?_, ?_, g3⟩
        · obtain ⟨y, rfl, hy⟩ := hTv8
          refine ⟨y, rfl, ?_⟩
          rw [upd_ne (fun e => by subst e; rw [upd_same] at hy; cases hy)]
          exact e9 _ _ hy
        · have k1 : a * wk.2.2 ≤ i * 6 ^ i * 6 := Nat.mul_le_mul ha f3
          have k2 : wk.2.1 * b ≤ 6 * 6 ^ i := Nat.mul_le_mul (by omega) hb
          have k3 : (i + 1) * 6 ^ (i + 1) = i * 6 ^ i * 6 + 6 * 6 ^ i := by
            rw [Nat.pow_succ, Nat.add_mul, Nat.one_mul, Nat.mul_assoc, Nat.mul_comm (6 ^ i) 6]
          omega
        · have k1 : b * wk.2.2 ≤ 6 ^ i * 6 := Nat.mul_le_mul hb f3
          rw [Nat.pow_succ]
          omega
    · obtain ⟨x3, x4, sm, a, b, rfl, hqa, ee, hT, _⟩ := pp
      rw [← hpsl, circ_all ws m] at hqa
      refine ws_nil (k H' (exB_iff (EHG.trans ee)) ⟨q, dx, _, .ref pl, rfl, hqa, rfl, rfl, ⟨pl, ps, rfl, ee _ _ hplD, hpsD.imp fun p' u z => z.ex ee⟩, rfl⟩)
end
end TS
/-! ## MinK -/
/-! min(xs, key=lambda x: x.f) -/
namespace TS
open PySem PySem.Spec PyProof.Rows LamX L2
/-- one parameter n and globals -/
structure LamS2 (scope : Scope) (n : Str) : Prop where
  kind : scope.kind = .function
  gen : false = scope.isGenerator
  co : false = scope.isCoroutine
  nocell : ∀ y ∈ scope.names, y.2 ≠ .cell
  nofree : ∀ y ∈ scope.names, y.2 ≠ .free
  loc : scope.names.lookup n = some .local
/-- the things of a heap that are neither of the base nor at L -/
def others (h base : Heap) (L : Addr) : List (Addr × Obj) := (List.range h.objs.size).filterMap fun b => if b = L then none else if (base.get? b).isSome = true then none else (h.get? b).map fun o => (b, o)
theorem others_mem {h base : Heap} {L b : Addr} {o : Obj} (e : h.get? b = some o) (n : b ≠ L) (nb : base.get? b = none) : (b, o) ∈ others h base L :=
  List.mem_filterMap.mpr ⟨b, List.mem_range.mpr (Heap.lt_size e), by rw [if_neg n, nb, if_neg (by decide), e]; rfl⟩
theorem others_of {h base : Heap} {L : Addr} {p : Addr × Obj} (hp : p ∈ others h base L) : h.get? p.1 = some p.2 ∧ p.1 ≠ L ∧ base.get? p.1 = none := by
  obtain ⟨b, -, e⟩ := List.mem_filterMap.mp hp
  by_cases n : b = L
  · rw [if_pos n] at e
    cases e
  · rw [if_neg n] at e
    by_cases nb : (base.get? b).isSome = true
    · rw [if_pos nb] at e
      cases e
    · rw [if_neg nb] at e
      obtain ⟨o, ho, e2⟩ := Option.map_eq_some_iff.mp e
      subst e2
      refine ⟨ho, n, ?_⟩
      cases hb : base.get? b with
      | none => rfl
      | some o' => rw [hb] at nb; exact absurd rfl nb
section
variable {X : Cx} {s : Shared} {pins : List (Addr × Obj)} {σ : L2.St} {H : Hp}
/-- all but the frame's own object stand, and it tells the same -/
theorem inv_but {m : Str → Option Value} {h' : Heap} {tk : Nat} (I : Inv X pins σ H s) (hm : ∀ (i : Nat) (x : Str) (v : V), X.N[i]? = some x → σ[i]? = some (some v) → Vis X.env.scope x → ∃ u, RelV v u ∧ Look X.env s.heap m x u)
    (k : ∀ b o, b ≠ X.env.locals → s.heap.get? b = some o → h'.get? b = some o) (hn : h'.Ns X.env.locals m) : Inv X pins σ H { s with heap := h', toks := tk } := by
  have low : ∀ b o, X.s_0.heap.get? b = some o → b ≠ X.env.locals := fun b o e z => absurd (Nat.lt_of_lt_of_le (Heap.lt_size e) I.ok.above) (by rw [z]; exact Nat.lt_irrefl _)
  have hl : ∀ x c, X.env.cells.lookup x = some c → c ≠ X.env.locals := fun x c hx z => by
    obtain ⟨v, o, ho, hd⟩ := I.cell x c hx
    obtain ⟨_, ⟨o2, es, ep, ho2, hd2, _⟩, _⟩ := I.loc
    rw [z, ho2] at ho
    cases ho
    rw [hd] at hd2
    cases hd2
  have cellK : ∀ {x c v}, X.env.cells.lookup x = some c → s.heap.IsCell c v → h'.IsCell c v := fun {x c v} hx ⟨o, ho, hd⟩ => ⟨o, k _ _ (hl x c hx) ho, hd⟩
  refine ⟨I.ok, I.os, I.bare, ⟨fun b o e n h1 h2 => k _ _ (low b o e) (I.base.keep b o e n h1 h2), fun b o e n h1 h2 => ?_, I.base.free, fun b o e h2 => ?_, I.base.tups, I.base.frzs, I.base.tbls⟩, ⟨m, hn, fun i x v e1 e2 e3 => ?_⟩, fun x c e => ?_, I.free, I.freeC, fun p hp => ?_, fun a o e => ?_, I.len⟩
  · obtain ⟨sl, q⟩ := I.base.slot b o e n h1 h2
    exact ⟨sl, k _ _ (low b o e) q⟩
  · obtain ⟨o', q⟩ := I.base.there b o e h2
    exact ⟨o', k _ _ (low b o e) q⟩
  · obtain ⟨u, r, q⟩ := hm i x v e1 e2 e3
    refine ⟨u, r, ?_⟩
    rcases q with q | ⟨q1, c, q2, q3⟩
    · exact .inl q
    · exact .inr ⟨q1, c, q2, cellK q2 q3⟩
  · obtain ⟨cv, q⟩ := I.cell x c e
    exact ⟨cv, cellK e q⟩
  · obtain ⟨p1, p2, p3, p4, p5⟩ := I.pin p hp
    exact ⟨k _ _ p3 p1, p2, p3, p4, p5⟩
  · refine (I.hok a o e).stay (fun b u hb q => k b u (fun z => ?_) q) (fun b q => q) fun b xs q => q
    rcases hb with z2 | z2
    · rw [← z2, z, I.free] at e
      cases e
    · rw [z, I.free] at z2
      cases z2
/-! ### the rule -/
def tMinK (K : PySem.W.Frag) (T : List (Addr × Str)) (te : TE) (f : Str) : TE := fun σ H Q => te σ H fun x H1 => ∃ (l : Addr) (ps : List (Addr × Int)), x = .ref l ∧ SqL K H1 l (ps.map fun z => V.ref z.1) ∧ ps ≠ [] ∧
  (∀ z ∈ ps, ∃ C dx fs, H1 z.1 = some (.ins C dx fs) ∧ Cls K C ∧ NoAttr K C f ∧ fs.lookup f = some (.int z.2)) ∧ Tabs T H1 ∧ ∀ z ∈ ps, (∀ z' ∈ ps, z.2 ≤ z'.2) → ∀ H2, ExtN H1 H2 → Tabs T H2 → Q (.ref z.1) H2
theorem vals_refs {α : Type} {g : α → Addr} : ∀ {ps : List α} {us : List Value}, Vals (ps.map fun z => V.ref (g z)) us → us = ps.map fun z => Value.ref (g z)
  | [], _, r => by cases r; rfl
  | z :: ps, _, r => by
    cases r with
    | cons r1 r2 =>
      rename_i u us
      have e : u = Value.ref (g z) := r1
      rw [e, vals_refs r2]
      rfl
theorem sq_exN {K : PySem.W.Frag} {H H' : Hp} {a : Addr} {xs : List V} (e : ExtN H H') (h : SqL K H a xs) : SqL K H' a xs := by
  rcases h with (h | ⟨fo, h⟩) | h
  · exact .inl (.inl (e _ _ h fun _ z => nomatch z))
  · exact .inl (.inr ⟨fo, e _ _ h fun _ z => nomatch z⟩)
  · exact .inr h
theorem pe_minkey {T : List (Addr × Str)} {c Pt : Addr} {e : Expr} {te : TE} {n f : Str} {params : Arguments} {scope : Scope} {p pos lp kp pa pn : Pos} (hc : X.calm = true) (hg : Gl X "min") (hm : X.mg "min" = none) (ha : PE X e te) (TB : TabB X.base X.mg c Pt) (hcode : X.env.code = .ref c) (hmT : (Pt, X.env.qual ++ "<lambda>") ∈ T) (hu : ∀ q ∈ T, q.1 = Pt → q.2 = X.env.qual ++ "<lambda>")
    (hr : Room 2 X.A) (L : LamS2 scope n) (hdef : defaultsOf params X.env = ([], []))
    (hbind : ∀ (q : Str) (cl : List (Str × Addr)) (pm cv ctv v : Value), bindArgs (PySem.W.kla_fn "<lambda>" q params (.Attribute (.Name n pn) f pa) scope cl pm cv ctv) ⟨[v], []⟩ = pure [(n, v)]) (hdn : (n == ("__debug__" : Str)) = false := by decide)
    (he : backTo pos (starEach [e] X.env) = (false, eval e X.env) :: backTo pos (starEach [] X.env) := by rfl) (hpl : (backTo pos (starEach [e] X.env)).any (·.1) = false := by rfl)
    (hall : (backToKw pos (keywordEach [⟨some "key", .Lambda params (.Attribute (.Name n pn) f pa) scope lp, kp⟩] X.env)).all (·.1.isSome) = true := by rfl) (hnone : (backToKw pos (keywordEach [⟨some "key", .Lambda params (.Attribute (.Name n pn) f pa) scope lp, kp⟩] X.env)).any (·.1.isNone) = false := by rfl)
    (hks : (backToKw pos (keywordEach [⟨some "key", .Lambda params (.Attribute (.Name n pn) f pa) scope lp, kp⟩] X.env)).filterMap (·.1) = [Str.ofString "key"] := by rfl) :
    PE X (.Call (.Name "min" p) [e] [⟨some "key", .Lambda params (.Attribute (.Name n pn) f pa) scope lp, kp⟩] pos) (tMinK X.K T te f) := by
  refine ⟨fun pins s σ H Q I h => ?_⟩
  refine wpAny_Call_Name_kw (ld_blt I hg hm (show bootBuiltins "min" = some (.builtin "min") by decide +kernel) ?_)
  refine PyProof.Rows.callWith_kw ?_ he hpl hall hnone
  rw [he, hks]
  refine Calls.spliced_cons (thn (ha.run pins s σ H _ I h) fun u s1 ⟨x, H1, I1, rx, l, ps, ex, hq, hne, hps, hT, q⟩ => ?_)
  subst ex
  obtain rfl : u = Value.ref l := rx
  refine Calls.spliced_nil ?_
  show wpAny _ _ (evalAll [(do let v ← eval (.Lambda params (.Attribute (.Name n pn) f pa) scope lp) X.env; standAt pos; pure v)]) _ _ s1
  refine wpAny_evalAll_cons (wpAny_bind (lam_make2 I1 TB hcode hmT hu hT hdef (fun y hy e => absurd e (L.nofree y hy)) fun fa c' pm' ctv H2 s2 I2 eN T2 hf hfn hfr hco => wpAny_bind (wpAny_standAt (wpAny_pure (wpAny_evalAll_nil ?_)))))
  -- the call
  have hq2 := sq_exN eN hq
  obtain ⟨its, rv, hl, hz⟩ := I2.list hq2
  obtain rfl : its = ps.map fun z => Value.ref z.1 := vals_refs rv
  obtain ⟨m, hns, hlook⟩ := I2.loc
  have Fb : Fr X.base X.env.locals s2.heap m := ⟨hns, I2.bk, Nat.le_trans I2.ok.bsz I2.ok.above⟩
  have nObj : ∀ b o, s2.heap.get? b = some o → b ≠ X.env.locals → ∀ h', Fr X.base X.env.locals h' m → News X.base X.env.locals h' (others s2.heap X.base X.env.locals) → h'.get? b = some o := fun b o e n h' F N => by
    cases hb : X.base.get? b with
    | none => exact (N _ (others_mem e n hb)).1
    | some o' =>
      have e2 := I2.bk b o' hb
      rw [e] at e2
      cases e2
      exact F.keep b o hb
  have back : ∀ h' tk', Fr X.base X.env.locals h' m → News X.base X.env.locals h' (others s2.heap X.base X.env.locals) → Inv X pins σ H2 { s2 with heap := h', toks := tk' } := fun h' tk' F N => inv_but I2 hlook (fun b o n e => nObj b o e n h' F N) F.ns
  have lL : l ≠ X.env.locals := fun z => by
    rw [z] at hl
    obtain ⟨o1, h1, h2, k1, h5⟩ := hl.isList
    obtain ⟨o2, es, ep, h3, h4, _⟩ := hns
    rw [h1] at h3
    cases h3
    rw [h4] at h5
    cases h5
  have fL : fa ≠ X.env.locals := fun z => by
    obtain ⟨o2, es, ep, h3, h4, _⟩ := hns
    rw [← z, hf] at h3
    cases h3
    cases h4
  have hps2 : ∀ z ∈ ps, ∃ C dx fs, H2 z.1 = some (.ins C dx fs) ∧ Cls X.K C ∧ NoAttr X.K C f ∧ fs.lookup f = some (.int z.2) := fun z hz => by
    obtain ⟨C, dx, fs, h1, h2, h3, h4⟩ := hps z hz
    exact ⟨C, dx, fs, (eN _ _ h1 fun _ w => nomatch w), h2, h3, h4⟩
  have hN0 : News X.base X.env.locals s2.heap (others s2.heap X.base X.env.locals) := fun p hp => others_of hp
  refine PyProof.Rows.kmk_min (h₀ := X.base) (L := X.env.locals) (m := m) (news := others s2.heap X.base X.env.locals) (vs := ps.map fun z => Value.ref z.1) (fun i => (ps.getD i (0, 0)).2) (I2.ok.hd hc) Fb hN0 (fun h' F N => ?_) (by rw [List.length_map]; exact List.length_pos_iff.mpr hne) (fun i v hv h' tk' own F N => ?_) fun i v h' tk' hv hb F N => ?_
  · obtain ⟨o1, h1, h2, k1, h5⟩ := hl.isList
    exact ⟨o1, nObj l o1 h1 lL h' F N, h2, k1, h5⟩
  · rw [List.getElem?_map] at hv
    obtain ⟨z, hz1, hz2⟩ := Option.map_eq_some_iff.mp hv
    subst hz2
    have hgd : ps.getD i (0, 0) = z := by rw [List.getD_eq_getElem?_getD, hz1]; rfl
    rw [hgd]
    have I3 := back h' tk' F fun p hp => N p (List.mem_append_left _ hp)
    have hf3 : h'.get? fa = some _ := nObj fa _ hf fL h' F fun p hp => N p (List.mem_append_left _ hp)
    obtain ⟨C, dx, fs, p1, p2, p3, p4⟩ := hps2 z (List.mem_of_getElem? hz1)
    obtain ⟨⟨oc, cvs, ct, hoc, hdc, hvc⟩, _, _⟩ := I3.hok c' _ hco
    have hdep : X.A.in1.depth < recursionLimit := hr.depth
    refine wpAny_call (PySem.W.kla_callFunE (R := fun r s' => _) hdep hf3 rfl L.co.symm L.gen.symm rfl ⟨c', oc, cvs, ct, rfl, hoc, hdc, hvc⟩ ?_)
    rw [hbind]
    refine wpAny_pure (wpAny_newFunctionEnv (fun y hy => L.nocell y hy) (fun y hy => ?_) (fun h₁ hns1 hsb => ⟨I3.nolimit.fresh _ hsb, PySem.W.kla_codeExpr ?_⟩) L.kind)
    · rw [List.mem_singleton.mp hy]
      exact L.loc
    · have kp : ∀ b o, h'.get? b = some o → h₁.get? b = some o := fun b o e => hsb.extBut b o (Nat.ne_of_lt (Heap.lt_size e)) (Heap.get?_push_of_some _ e)
      have hok1 : HOk X.prog X.w H2 h₁ := I3.hok.kept kp
      obtain ⟨mA, O, r, _, _, _⟩ := ins_get hok1 p1
      obtain ⟨u, hu2, ru⟩ := RelO.some_of (v := .int z.2) (o := mA f) (by rw [← p4]; exact r f)
      obtain ⟨t, rfl⟩ := ru
      refine attr_of (by rfl) (wpAny_Name (wpAny_loadName_local L.kind L.loc hns1 (v := .ref z.1) (by simp) ?_) hdn)
      refine get_map (I3.kIn.keeps kp) O (p2.get f) p2.hd p3 hu2 (by rfl) ?_
      refine ⟨h₁, _, t, rfl, rfl, ⟨?_, fun b o e => kp b o (F.keep b o e), F.above⟩, fun p hp => ?_⟩
      · obtain ⟨o, es, ep, e, rr⟩ := F.ns
        exact ⟨o, es, ep, kp _ _ e, rr⟩
      · obtain ⟨n1, n2, n3⟩ := N p hp
        exact ⟨kp _ _ n1, n2, n3⟩
  · rw [List.getElem?_map] at hv
    obtain ⟨z, hz1, hz2⟩ := Option.map_eq_some_iff.mp hv
    subst hz2
    have hgd : ps.getD i (0, 0) = z := by rw [List.getD_eq_getElem?_getD, hz1]; rfl
    refine ⟨.ref z.1, H2, back h' tk' F N, rfl, q z (List.mem_of_getElem? hz1) (fun z' hz' => ?_) H2 eN T2⟩
    obtain ⟨j, hj⟩ := List.mem_iff_getElem?.mp hz'
    have hjl : j < ps.length := (List.getElem?_eq_some_iff.mp hj).1
    have w := (hb j (by rw [List.length_map]; exact hjl)).1
    have hgj : ps.getD j (0, 0) = z' := by rw [List.getD_eq_getElem?_getD, hj]; rfl
    rw [hgd, hgj] at w
    exact w
end
end TS
/-! ## D12 -/
namespace TS
open PySem PySem.Spec PyProof.Rows LamX L2
theorem Pre.ext {L : LotD} (ok : L.ok) {g0 : List Nat} (hg0 : g0 ∈ givensOf (zeroN L.parts.length) (aliveK L (L.circle - 1)) L.many) : ∀ t, t + 1 ≤ L.circle → ∃ s b c rows, Pre L g0 (t + 1) s b c rows
  | 0, _ => ⟨_, _, _, _, .one hg0⟩
  | t + 1, ht => by
    obtain ⟨s, b, c, rows, h⟩ := Pre.ext ok hg0 t (by omega)
    have hs := (h.facts ok).2.2.1
    rw [show L.circle - (t + 1) = (L.circle - (t + 1) - 1) + 1 by omega] at hs
    obtain ⟨g, hg⟩ := aliveK_mem hs
    exact ⟨_, _, _, _, .step h (by omega) hg⟩
/-- the tables of the two defs that make a lambda -/
def tabT (pF pC : Addr) : List (Addr × Str) := [(pF, "calmest_from.<locals>.<lambda>"), (pC, "calmest.<locals>.<lambda>")]
structure DefT (K : PySem.W.Frag) (mg : Str → Option Value) (x : Str) (st : Stmt) (ps : List Str) (c : Addr) : Prop where
  ex : ∃ (f : Addr) (fd : FuncData), FunD K x x (defArgs st) (defBody st) (defScope st) [] [] f fd ∧ mg x = some (.ref f) ∧ Binds K fd ps [] ∧ fd.code = .ref c
section
variable {P : Program} {w : World} {K : PySem.W.Frag} {mg : Str → Option Value} {base : Heap} {CL CS CP : Addr}
theorem cal_mkT {x : Str} {st : Stmt} {N ps : List Str} {k : Nat} {c : Addr} {sp : Sp} (F : DefT K mg x st ps c) (S : FnScope N ps (defScope st)) (len : ∀ vs H Q E, sp vs H Q E → vs.length = ps.length)
    (hbody : ∀ (f : Addr) (A : Around) (outer : List Env) (s : Shared) (H : Hp) (vs : List V) (Q : VK) (E : XK), Room k (A.deeper (envOfC x (defScope st) s.heap.objs.size f (.ref c))) → sp vs H Q E →
      wS (cxD P w K mg base N x st f (.ref c) A outer s H E) (defBody st) { nx := fun _ H' => Q .non H', rt := Q } (start N vs) H) : C8.Cal P w K mg base (k + 1) x sp [] := by
  obtain ⟨f, fd, F, hm, hb, hcode⟩ := F.ex
  refine ⟨f, fd, ps, [], ?_, hm, F.kp, hb, .nil⟩
  obtain ⟨_, _, dV, kV, doc, pm, an, cdv, ct, _, rfl, lk, hcd, _, _⟩ := F.ex
  have e : cdv = .ref c := hcode
  subst e
  exact fn_of lk hcd S len fun A outer s H vs Q E hr h => ⟨_, (ps_w (X := cxD P w K mg base N x st f (.ref c) A outer s H E)).nox, hbody f A outer s H vs Q E hr h⟩
def spCalmFrom (CL CS CP : Addr) (T : List (Addr × Str)) : Sp := fun vs H Q _ => ∃ (x y : V) (L : LotD) (g0 : List Nat), vs = [x, y] ∧ IsSheet CL CS L x H ∧ L.ok ∧ TI g0 y H ∧ g0 ∈ givensOf (zeroN L.parts.length) (aliveK L (L.circle - 1)) L.many ∧ Tabs T H ∧
  ∀ p c H', ExtN H H' → Tabs T H' → EndP CP L g0 c p H' → (∀ s b c' rows, Pre L g0 L.circle s b c' rows → c ≤ c' + (newIn b g0).length) → Q (.ref p) H'
theorem cal_calmest_from (T : Txt K mg CL CS CP) {cF pF pC : Addr} (DT : DefT K mg "calmest_from" s_calmest_from ["sheet", "first"] cF) (TB : TabB base mg cF pF) (hne : pF ≠ pC) : C8.Cal P w K mg base 4 "calmest_from" (spCalmFrom CL CS CP (tabT pF pC)) [] := by
  refine cal_mkT DT sc_calmest_from (fun vs H Q E h => ?_) fun f A outer s H vs Q E hr h => ?_
  · obtain ⟨x, y, L, g0, rfl, _⟩ := h
    rfl
  · obtain ⟨x, y, L, g0, rfl, hx, ok, hy, hg0, hT, k⟩ := h
    refine cal_calmest_from_body T ok hr hx hy hg0 fun σ' H' fl cs e hfl hcs hcl hce hcf => ?_
    have hne0 : cs ≠ [] := fun z => by
      obtain ⟨s1, b1, c1, r1, h1⟩ := Pre.ext ok hg0 (L.circle - 1) (by have := ok.2.2.2.2.2.1; omega)
      rw [show L.circle - 1 + 1 = L.circle by have := ok.2.2.2.2.2.1; omega] at h1
      obtain ⟨z1, hz1, _⟩ := hcf _ _ _ _ h1
      rw [z] at hz1
      cases hz1
    refine wS_of (X := cxD P w K mg base nCalm "calmest_from" s_calmest_from f (.ref cF) A outer s H E) (pss_one (ps_ret (pe_minkey (X := cxD P w K mg base nCalm "calmest_from" s_calmest_from f (.ref cF) A outer s H E) (T := tabT pF pC) (c := cF) (Pt := pF) rfl rfl T.n_min pe_w TB rfl (List.mem_cons_self ..) (fun q hq hq1 => ?_) (hr.mono (by decide)) ⟨rfl, rfl, rfl, by decide +kernel, by decide +kernel, rfl⟩ rfl (fun _ _ _ _ _ _ => rfl)))) ?_
    · rcases (List.mem_cons).mp hq with rfl | hq
      · rfl
      · rw [List.mem_singleton.mp hq] at hq1
        exact absurd hq1.symm hne
    · refine (ev_name (X := cxD P w K mg base nCalm "calmest_from" s_calmest_from f (.ref cF) A outer s H E) (n := "found") 11 hfl) H' (Ex.refl _) _ fun v H1 e1 rv => ?_
      cases rv
      refine ⟨fl, cs.map fun z => (z.2, ((z.1 : Nat) : Int)), rfl, SqL.of ?_, by simpa using hne0, fun z hz => ?_, hT.ext (e.trans e1), fun z hz hmin H2 e2 T2 => ?_⟩
      · rw [List.map_map]
        exact e1 _ _ hcs
      · obtain ⟨z', hz', rfl⟩ := List.mem_map.mp hz
        obtain ⟨dx, q, s1, b1, c0, rows, h1, _⟩ := hce z' hz'
        exact ⟨CP, dx, _, e1 _ _ h1, T.cPath, T.aPath_starts, path_starts _ _ _⟩
      · obtain ⟨z', hz', rfl⟩ := List.mem_map.mp hz
        have eN : ExtN H H2 := (ExtN.of (e.trans e1)).trans e2
        refine k z'.2 z'.1 H2 eN T2 ((hce z' hz').sx ((e1.sx).trans fun b o hb so => e2 b o hb fun ps z => by subst z; cases so)) fun s1 b1 c1 rows h1 => ?_
        obtain ⟨z2, hz2, hle⟩ := hcf s1 b1 c1 rows h1
        have := hmin (z2.2, ((z2.1 : Nat) : Int)) (List.mem_map.mpr ⟨z2, hz2, rfl⟩)
        have h3 : ((z'.1 : Nat) : Int) ≤ ((z2.1 : Nat) : Int) := this
        omega
end
end TS
/-! ## EvN -/
/-! steps that may lengthen the tables of code objects -/
namespace TS
open PySem PySem.Spec PyProof.Rows LamX L2
def noT (H : Hp) : Hp := fun b => match H b with
  | some (.tbl _) => none
  | o => o
theorem noT_get {H : Hp} {b : Addr} {o : HO} (h : H b = some o) (n : ∀ ps, o ≠ .tbl ps) : noT H b = some o := by
  unfold noT
  rw [h]
  cases o with
  | tbl ps => exact absurd rfl (n ps)
  | _ => rfl
theorem noT_of {H : Hp} {b : Addr} {o : HO} (h : noT H b = some o) : H b = some o ∧ ∀ ps, o ≠ .tbl ps := by
  unfold noT at h
  cases hb : H b with
  | none => rw [hb] at h; exact nomatch h
  | some u =>
    rw [hb] at h
    cases u with
    | tbl ps => cases h
    | _ => cases h; exact ⟨rfl, fun _ z => nomatch z⟩
theorem noT_ex (H : Hp) : Ex (noT H) H := fun b o h => (noT_of h).1
theorem exN_no {H H' : Hp} (e : ExtN H H') : Ex (noT H) H' := fun b o h => e b o (noT_of h).1 (noT_of h).2
theorem exN_no2 {H H' : Hp} (e : ExtN H H') : Ex (noT H) (noT H') := fun b o h => noT_get (e b o (noT_of h).1 (noT_of h).2) (noT_of h).2
theorem exN_sx {H H' : Hp} (e : ExtN H H') : Sx H H' := fun b o h s => e b o h fun ps z => by subst z; cases s
theorem sx_no (H : Hp) : Sx H (noT H) := fun b o h s => noT_get h fun ps z => by subst z; cases s
theorem exN_mut {H H' : Hp} {p : Addr} {o : HO} (e : ExtN H H') (h : H p = none) : ExtN H (upd H' p o) := fun a u ha n => by
  rw [upd_ne (ne_of_none ha h)]
  exact e a u ha n
theorem exN_back {H H' : Hp} {p : Addr} (e : ExtN H H') (hT : noT H p = H p) (h : H' p = none) : H p = none := by
  cases h1 : H p with
  | none => rfl
  | some o =>
    rw [h1] at hT
    have q := e p o h1 (noT_of hT).2
    rw [h] at q
    cases q
theorem tabs_upd {T : List (Addr × Str)} {H : Hp} {a : Addr} {o o' : HO} (hT : Tabs T H) (ha : H a = some o) (h1 : ∀ ps, o ≠ .tbl ps) (h2 : ∀ q, o ≠ CodeO a q) : Tabs T (upd H a o') := fun p hp => by
  obtain ⟨ps, t1, t2, t3⟩ := hT p hp
  refine ⟨ps, ?_, t2, fun pos cv hc => ?_⟩
  · rw [upd_ne (fun z => by rw [z, ha] at t1; exact h1 ps (Option.some.inj t1))]
    exact t1
  · obtain ⟨c, e1, e2⟩ := t3 pos cv hc
    refine ⟨c, e1, ?_⟩
    rw [upd_ne (fun z => by subst z; rw [ha] at e2; exact h2 _ (Option.some.inj e2))]
    exact e2
theorem codeO_lst {c : Addr} {q : Str} (xs : List V) : HO.lst xs ≠ CodeO c q := fun z => by
  unfold CodeO at z
  cases z
theorem TI.no {ns : List Nat} {v : V} {H : Hp} (h : TI ns v H) : TI ns v (noT H) := TI.sx _ _ _ (sx_no H) h
theorem TIs.no {ss : List (List Nat)} {vs : List V} {H : Hp} (h : TIs ss vs H) : TIs ss vs (noT H) := h.sx (sx_no H)
theorem LTI.no {ss : List (List Nat)} {v : V} {H : Hp} (h : LTI ss v H) : LTI ss v (noT H) := let ⟨a, vs, h1, h2, h3⟩ := h; ⟨a, vs, h1, (noT_get h2 fun _ z => nomatch z), h3.no⟩
theorem IsLot.no {CL : Addr} {L : LotD} {v : V} {H : Hp} (h : IsLot CL L v H) : IsLot CL L v (noT H) := by
  obtain ⟨a, dx, fs, x, h1, h2, h3, h4, ⟨p, vs, h5, h6, h7⟩, h8⟩ := h
  exact ⟨a, dx, fs, x, h1, noT_get h2 (fun _ z => nomatch z), h3, h4, ⟨p, vs, h5, noT_get h6 (fun _ z => nomatch z), h7.imp fun p u z => T2.sx _ _ _ (sx_no H) z⟩, h8⟩
theorem IsSheet.no {CL CS : Addr} {L : LotD} {v : V} {H : Hp} (h : IsSheet CL CS L v H) : IsSheet CL CS L v (noT H) := by
  obtain ⟨a, dx, fs, x, lv, le, ls, ds, h1, h2, h3, h4, h5, h6, h7, h8, h9, h10⟩ := h
  refine ⟨a, dx, fs, x, lv, le, ls, ds, h1, noT_get h2 (fun _ z => nomatch z), h3, h4.no, h5, h6, noT_get h7 (fun _ z => nomatch z), h8.imp fun _ _ z => z.no, noT_get h9 (fun _ z => nomatch z), h10.imp fun p u z => ?_⟩
  obtain ⟨d, kvs, e1, e2, e3⟩ := z
  exact ⟨d, kvs, e1, noT_get e2 (fun _ z => nomatch z), fun s hs => let ⟨u, gs, a, b, c⟩ := e3 s hs; ⟨u, gs, a, b.no, c⟩⟩
def EvN (T : List (Addr × Str)) (X : Cx) (e : Expr) (σ : L2.St) (H : Hp) (R : RT) : Prop := ∀ H1, ExtN H H1 → Tabs T H1 → ∀ Q : VK, (∀ v H2, ExtN H1 H2 → Tabs T H2 → R H1 v H2 → Q v H2) → wE X e σ H1 Q
section
variable {X : Cx} {T : List (Addr × Str)} {a b c e o d : Expr} {es : List Expr} {σ : L2.St} {H H' : Hp} {x y z v : V} {R R' : RT} {pos : Pos} {D : Ends} {rest sts : List Stmt} {k : Bool}
theorem Ev.n (h : Ev X e σ (noT H) R) : EvN T X e σ H R := fun H1 e1 t1 Q q => h H1 (exN_no e1) Q fun v H2 e2 r => q v H2 (ExtN.of e2) (t1.ext e2) r
/-- own defs whose promise is of that kind -/
theorem evN_call {n : Str} {p : Pos} {vs : List V} {sp : Sp} {kk jj : Nat} (cl : C8.Cal X.prog X.w X.K X.mg X.base kk n sp []) (hr : Room jj X.A) (hk : kk ≤ jj) (ha : EvA X (e :: es) σ (noT H) vs)
    (hR : ∀ Ha Hb v Hc, Ex Ha Hb → R Hb v Hc → R Ha v Hc) (h : ∀ H1, ExtN H H1 → Tabs T H1 → ∀ Q : VK, (∀ v H2, ExtN H1 H2 → Tabs T H2 → R H1 v H2 → Q v H2) → sp vs H1 Q C8.E0) (hg : Gl X n := by rfl) (hdb : (n == ("__debug__" : Str)) = false := by decide)
    (he : starEach (e :: es) X.env = (false, eval e X.env) :: starEach es X.env := by rfl) (hpl : (backTo pos (starEach es X.env)).any (·.1) = false := by rfl) : EvN T X (.Call (.Name n p) (e :: es) [] pos) σ H R := fun H1 e1 t1 Q q =>
  wE_of (C8.pe_c cl hr hk hg pa_w hdb he hpl) (ha H1 (exN_no e1) _ fun H2 e2 => by
    show sp (vs ++ []) H2 Q C8.E0
    rw [List.append_nil]
    exact h H2 (e1.trans (ExtN.of e2)) (t1.ext e2) Q fun v H3 e3 t3 r3 => q v H3 ((ExtN.of e2).trans e3) t3 (hR _ _ _ _ e2 r3))
theorem ws_setN (i : Nat) {n : Str} {p : Pos} (hN : X.N.Nodup) (hT : Tabs T H) (he : EvN T X e σ H R) (k : ∀ v H1, ExtN H H1 → Tabs T H1 → R H v H1 → wS X rest D (σ.set i (some v)) H1) (hi : X.N[i]? = some n := by rfl) (hx : Loc X.env.scope n := by first | exact Or.inl rfl | exact Or.inr rfl)
    (hs : swapsWith e (some (.Name n p)) pos.line X.env = pure false := by rfl) (hf : X.fn n = true ∨ X.env.scope.names.lookup n = some .local := by first | exact .inl rfl | exact .inr rfl) : wS X (.Assign [.Name n p] e pos :: rest) D σ H :=
  ws_cons (ps_set hN hi hx pe_w hs hf) (he H (ExtN.refl _) hT _ fun v H1 e1 t1 r1 => k v H1 e1 t1 r1)
theorem ws_retN (hT : Tabs T H) (he : EvN T X e σ H R) (k : ∀ v H1, ExtN H H1 → Tabs T H1 → R H v H1 → D.rt v H1) : wS X (.Return (some e) pos :: rest) D σ H :=
  ws_cons (ps_ret pe_w) (he H (ExtN.refl _) hT _ fun v H1 e1 t1 r1 => k v H1 e1 t1 r1)
/-- name = [elt for tg in iter] -/
theorem compN_core {tg iter elt : Expr} {scope : Scope} {vs : List Nat} {n : Nat} {G : Hp → Prop} {Y : Nat → Hp → V → Hp → Prop} (hs : Src X tg iter σ H n G Y) (hT : Tabs T H) (hn : n ≤ 90000) (hG : ∀ H H', ExtN H H' → G H → G H') (P : Nat → V → Hp → Prop) (hP : ∀ i, SMono (P i))
    (hY : ∀ i H x H', Y i H x H' → Ex H H')
    (turn : ∀ i x Ha Hb, i < n → ExtN H Ha → G Ha → Y i Ha x Hb → ∃ σ2, BlkG X scope tg x (wipe σ vs) Hb σ2 ∧ wipe σ2 vs = wipe σ vs ∧ ∀ (s : Shared) (H0 : Hp) (C : Addr) (cl : List (Str × Addr)) (fp : List Addr), EvN T (X.blk s H0 scope (compEnvC scope cl C X.env) fp) elt σ2 Hb (fits (P i))) :
    ∀ Q : VK, (∀ v H2, ExtN H H2 → Tabs T H2 → newC n (fun _ => true) P H v H2 → Q v H2) → tLc (wI X tg iter) (gBlk X scope tg) tYes (eBlk X scope elt) vs σ H Q := fun Q q => hs H (Ex.refl _) _ fun J H2 e2 g w Dl hD => by
  refine lc_it w (fun i H' => ExtN H2 H' ∧ Tabs T H' ∧ ∃ acc, H' Dl = some (.lst acc) ∧ All2 (fun i v => P i v H') (picked i fun _ => true) acc) ⟨ExtN.of (Ex.new hD), (hT.ext e2).ext (Ex.new hD), [], upd_same, .nil⟩ (fun i H' _ p => hG _ _ p.1 g) (fun i x Ha Hb hi p y => ?_) fun H' p => ?_
  · obtain ⟨pe, pT, acc, pd, pa⟩ := p
    have eb := hY i Ha x Hb y
    obtain ⟨σ2, tG, tw, tE⟩ := turn i x Ha Hb hi ((ExtN.of e2).trans pe) (hG _ _ pe g) y
    intro s H0 C cl fp
    refine tG s H0 C cl fp Hb (Ex.refl _) _ ⟨tw, ?_⟩
    simp only [tYes, if_true]
    intro s H0 C cl fp
    refine tE s H0 C cl fp Hb (ExtN.refl _) (pT.ext eb) _ fun v H4 e4 t4 pv => ?_
    have d4 : H4 Dl = some (.lst acc) := e4 _ _ (eb _ _ pd) fun _ z => nomatch z
    have x4 : Sx H4 (upd H4 Dl (.lst (acc ++ [v]))) := (Sx.refl H4).mutL d4
    refine ⟨acc, d4, ?_, exN_mut ((pe.trans (ExtN.of eb)).trans e4) hD, tabs_upd t4 d4 (fun _ z => nomatch z) (fun _ => codeO_lst _), acc ++ [v], upd_same, ?_⟩
    · have h1 := pa.len
      have h2 := picked_len i fun _ => true
      exact sz_lt (by omega)
    · rw [picked_succ, if_pos rfl]
      exact All2.snoc (F := fun j u => P j u (upd H4 Dl (HO.lst (acc ++ [v])))) (hP i v _ _ x4 pv) (pa.imp fun j u z => hP j u _ _ ((eb.sx.trans (exN_sx e4)).trans x4) z)
  · obtain ⟨pe, pT, acc, pd, pa⟩ := p
    exact q _ _ ((ExtN.of e2).trans pe) pT ⟨Dl, acc, rfl, e2.back hD, pd, pa⟩
theorem ws_setCN {tg iter elt : Expr} {scope : Scope} {n : Nat} {G : Hp → Prop} {Y : Nat → Hp → V → Hp → Prop} {y : Str} {py p2 : Pos} (i : Nat) (own : List (Str × Nat)) (hc : X.calm = true) (hN : X.N.Nodup) (ok : BlkOk X.N X.env.scope scope own) (hs : Src X tg iter σ H n G Y) (hT : Tabs T H) (hn : n ≤ 90000) (hG : ∀ H H', ExtN H H' → G H → G H') (P : Nat → V → Hp → Prop) (hP : ∀ i, SMono (P i))
    (hY : ∀ i H x H', Y i H x H' → Ex H H') (turn : ∀ i x Ha Hb, i < n → ExtN H Ha → G Ha → Y i Ha x Hb → ∃ σ2, BlkG X scope tg x (wipe σ (own.map (·.2))) Hb σ2 ∧ wipe σ2 (own.map (·.2)) = wipe σ (own.map (·.2)) ∧ ∀ (s : Shared) (H0 : Hp) (C : Addr) (cl : List (Str × Addr)) (fp : List Addr), EvN T (X.blk s H0 scope (compEnvC scope cl C X.env) fp) elt σ2 Hb (fits (P i)))
    (k : ∀ v H1, ExtN H H1 → Tabs T H1 → newC n (fun _ => true) P H v H1 → wS X rest D (σ.set i (some v)) H1)
    (hsw : swapsWith (.ListComp elt [⟨tg, iter, [], 0⟩] scope p2) (some (.Name y py)) pos.line X.env = pure true) (hy : X.N[i]? = some y := by rfl) (hyl : X.env.scope.names.lookup y = some .local := by rfl) (hfs : ∀ x, foldedSetIterable iter X.env x = pure x := by intro _; rfl) :
    wS X (.Assign [.Name y py] (.ListComp elt [⟨tg, iter, [], 0⟩] scope p2) pos :: rest) D σ H :=
  ws_cons (ps_setLc (own := own) hc hN hy hyl hsw pi_w ok (fun s H C cl fp => ⟨fun pins s' σ H' v u Q I r h => h s H C cl fp pins s' u I r⟩) (fun _ _ _ _ _ => pts_nil) (fun s H C cl fp => ⟨fun pins s' σ H' Q I h => h s H C cl fp pins s' I⟩) hfs)
    (compN_core hs hT hn hG P hP hY turn _ fun v H1 e1 t1 r1 => k v H1 e1 t1 r1)
end
end TS
/-! ## D13 -/
namespace TS
open PySem PySem.Spec PyProof.Rows LamX L2
section
variable {X : Cx} {a b c e o d : Expr} {es : List Expr} {σ : L2.St} {H H' : Hp} {x y z v : V} {R R' : RT} {pos : Pos}
theorem ev_dgetG {p : Addr} {kvs : List (List L2.Key × V)} {ns : List Nat} (hu : X.A.units + 1 < cLine) (hd : Ev X d σ H (is (.ref p))) (hk : Ev X e σ H (fits (TI ns))) (hp : H p = some (.dT kvs)) (hv : valV kvs (keyN ns) = some v) (hs : NoSl e) : Ev X (.Subscript d e pos) σ H (is v) := fun H1 e1 Q q =>
  wE_of (pe_dget hu pe_w pe_w hs) (hd H1 e1 _ fun x' H2 e2 rx => hk H2 (e1.trans e2) _ fun y' H3 e3 ry => by
    cases rx
    obtain ⟨t, rfl, ht⟩ := ry
    refine ⟨p, v, rfl, ?_, q v H3 (e2.trans e3) rfl⟩
    rw [← hv]
    exact DGet.t (((e1.trans e2).trans e3) _ _ hp) (by rw [keyN_nums]; exact ht))
end
/-- a whole table of a lot: its starts are counted round, from the last row to the first -/
def Tab (L : LotD) (g0 : List Nat) (c : Nat) (rows : List (List Nat)) : Prop := ∃ s b c0, g0 ∈ givensOf (zeroN L.parts.length) (aliveK L (L.circle - 1)) L.many ∧ Pre L g0 L.circle s b c0 rows ∧ c = c0 + (newIn b g0).length
/-- None where there is no table, else a path whose chain is a table of fewest starts -/
def BestR (CP : Addr) (L : LotD) (v : V) (H : Hp) : Prop :=
  (v = .non ∧ aliveK L L.circle = []) ∨ ∃ (p dx q : Addr) (g0 : List Nat) (c : Nat) (rows : List (List Nat)), v = .ref p ∧ H p = some (.ins CP dx (pathFs (.int (c : Nat)) .non (.ref q))) ∧ Tab L g0 c rows ∧ Chain CP rows (.ref q) H ∧ aliveK L L.circle ≠ [] ∧ ∀ g0' c' rows', Tab L g0' c' rows' → c ≤ c'
theorem all2_choose {α β : Type} {F : α → V → Prop} {G : α → Addr → β → Prop} (h : ∀ a v, F a v → ∃ p c, v = .ref p ∧ G a p c) : ∀ {as : List α} {us : List V}, All2 F as us → ∃ ps : List (Addr × β), us = (ps.map fun z => V.ref z.1) ∧ All2 (fun a z => G a z.1 z.2) as ps
  | _, _, .nil => ⟨[], rfl, .nil⟩
  | _, _, .cons x t => by
    obtain ⟨p, c, e, g⟩ := h _ _ x
    obtain ⟨ps, e2, g2⟩ := all2_choose h t
    exact ⟨(p, c) :: ps, by rw [e, e2]; rfl, .cons g g2⟩
theorem BestR.sx {CP : Addr} {L : LotD} {v : V} {H H' : Hp} (e : Sx H H') (h : BestR CP L v H) : BestR CP L v H' := by
  rcases h with h | ⟨p, dx, q, g0, c, rows, h1, h2, h3, h4, h5⟩
  · exact .inl h
  · exact .inr ⟨p, dx, q, g0, c, rows, h1, e _ _ h2 rfl, h3, h4.sx e, h5⟩
section
variable {P : Program} {w : World} {K : PySem.W.Frag} {mg : Str → Option Value} {base : Heap} {CL CS CP : Addr}
theorem sc_calmest : FnScope ["lot", "sheet", "paths", "first"] ["lot"] (defScope s_calmest) := ⟨rfl, rfl, rfl, by decide +kernel, rfl, by decide +kernel, by decide +kernel⟩
def spCalm (CL CP : Addr) (T : List (Addr × Str)) : Sp := fun vs H Q _ => ∃ (x : V) (L : LotD), vs = [x] ∧ IsLot CL L x H ∧ L.ok ∧ Tabs T H ∧ ∀ v H', ExtN H H' → Tabs T H' → BestR CP L v H' → Q v H'
theorem cal_calmest (T : Txt K mg CL CS CP) {cF pF cC pC : Addr} (DF : DefT K mg "calmest_from" s_calmest_from ["sheet", "first"] cF) (TF : TabB base mg cF pF) (DC : DefT K mg "calmest" s_calmest ["lot"] cC) (TC : TabB base mg cC pC) (hne : pF ≠ pC) : C8.Cal P w K mg base 5 "calmest" (spCalm CL CP (tabT pF pC)) [] := by
  refine cal_mkT DC sc_calmest (fun vs H Q E h => ?_) fun f A outer s H vs Q E hr h => ?_
  · obtain ⟨x, L, rfl, _⟩ := h
    rfl
  · obtain ⟨x, L, rfl, hx, ok, hT, k⟩ := h
    have hc1 := ok.2.2.2.2.2.1
    refine ws_set 1 sc_calmest.nd (ev_makeG (R := fun _ v H2 => IsSheet CL CS L v H2) (T := fun _ vs _ => vs = [x]) (mak_Sheet (P := P) (w := w) (base := base) T) hr (by decide) (EvA.g (ea_cons (ev_name 0 rfl) ea_nil)) fun H1 vs H2 e1 e2 tt q dx hq hdx hne Q kk => ?_) fun v0 H1 e1 hsh => ?_
    · subst tt
      have ex : Ex H2 (upd (upd H2 dx (.own q)) q (.ins CS dx [])) := (Ex.new hdx).trans (Ex.new (by rw [upd_ne hne.symm]; exact hq))
      refine ⟨q, dx, x, L, rfl, upd_same, hx.ex ((e1.trans e2).trans ex), ok, fun H' eb hsh => ⟨rfl, kk H' (fun b o h => ?_) hsh⟩⟩
      refine eb b o (ne_of_none h hq) ?_
      rw [upd_ne (ne_of_none h hq), upd_ne (ne_of_none h hdx)]
      exact h
    · obtain ⟨a0, dx, fs, lo, lv, le, ls, ds, rfl, s2, s3, s4, s5, s6, s7, s8, s9, s10⟩ := id hsh
      obtain ⟨u0, hu0, hL0⟩ := s8.get (livingL_head L L.circle)
      refine ws_if (et_eqNil hr.units (ev_ixL (ev_fld (ev_name 1 rfl) s2 T.cSheet T.aSheet_living s5) (ev_int (i := 0)) (SqL.of s7) (atI_of (i := 0) hu0)) hL0) (fun hk H2 e2 => ?_) fun hk H2 e2 => ?_
      · refine ws_ret ev_non fun v H3 e3 rv => ?_
        cases rv
        exact k _ _ (ExtN.of ((e1.trans e2).trans e3)) (hT.ext ((e1.trans e2).trans e3)) (.inl ⟨rfl, List.isEmpty_iff.mp hk⟩)
      · refine ws_nil ?_
        have hal : aliveK L L.circle ≠ [] := fun z => by rw [z] at hk; cases hk
        have hz : zeroN L.parts.length ∈ aliveK L L.circle := by
          obtain ⟨n, hn⟩ : ∃ n, L.circle = n + 1 := ⟨L.circle - 1, by omega⟩
          cases hc : aliveK L L.circle with
          | nil => exact absurd hc hal
          | cons s ss =>
            have hs : s ∈ aliveK L L.circle := by rw [hc]; exact List.mem_cons_self ..
            rw [hn] at hs
            have h2 := (List.mem_filter.mp hs).1
            rw [hn, Nat.sub_self, standsAt_zero _ (fun p hp => by have := ok.2.2.2.2.1 p hp; omega)] at h2
            rw [List.mem_singleton.mp h2]
            exact List.mem_cons_self ..
        have hsh2 := hsh.ex e2
        have hds := s10.len
        rw [leadL_len] at hds
        have hd0 : ds[0]? = some (ds[0]'(by omega)) := List.getElem?_eq_getElem _
        generalize (ds[0]'(by omega)) = d0 at hd0
        obtain ⟨pr, hpr, dd, kvs, rfl, hd, hlead⟩ := s10.at hd0
        rw [leadL_get L L.circle 0 (by omega)] at hpr
        cases hpr
        obtain ⟨u', gs, hu', ⟨gl, gv, rfl, hgl, hgs⟩, hperm⟩ := hlead _ hz
        have hperm : gs.Perm (givensOf (zeroN L.parts.length) (aliveK L (L.circle - 1)) L.many) := hperm
        have hgsl := hgs.len
        have hT2 : Tabs (tabT pF pC) H2 := hT.ext (e1.trans e2)
        refine ws_setCN (T := tabT pF pC) 2 [("first", 3)] rfl sc_calmest.nd (blkOk_by (own := [("first", 3)]) (N := ["lot", "sheet", "paths", "first"]) (sc := defScope s_calmest) (by decide +kernel)) (src_list (ev_dgetG (room_u1 hr) (ev_ixL (ev_fld (ev_name 1 rfl) (e2 _ _ s2) T.cSheet T.aSheet_leads s6) (ev_int (i := 0)) (SqL.of (e2 _ _ s9)) (atI_of (i := 0) hd0)) (ev_callG (R := fits (TI (zeroN L.parts.length))) (T := fun _ vs _ => vs = [x]) (cal_first_standing (P := P) (w := w) (base := base) T) hr (by decide) (EvA.g (ea_cons (ev_name 0 rfl) ea_nil)) fun H3 vs H4 e3 e4 tt Q q => ?_) (e2 _ _ hd) hu' (by exact fun _ _ => rfl)) (SqL.of (e2 _ _ hgl))) hT2 (by
            have h1 := hperm.length_eq
            have h2 := List.length_filterMap_le (fun l => gb (zeroN L.parts.length) l L.many) (aliveK L (L.circle - 1))
            have h3 := (aliveK_len L ok (L.circle - 1)).1
            unfold givensOf at h1
            omega) (fun _ _ e h => sq_exN e h) (fun i v H' => ∃ (p : Addr) (c : Nat), v = .ref p ∧ EndP CP L (gs.getD i []) c p H' ∧ ∀ s b c' rows, Pre L (gs.getD i []) L.circle s b c' rows → c ≤ c' + (newIn b (gs.getD i [])).length) (fun i v Ha Hb e ⟨p, c, h1, h2, h3⟩ => ⟨p, c, h1, h2.sx e, h3⟩) hY_at (fun i x' Ha Hb hi eN gg yy => ?_) (fun v H3 e3 t3 rv => ?_) (sw_true rfl rfl rfl (by decide +kernel))
        · subst tt
          exact ⟨x, L, rfl, hx.ex ((e1.trans e2).trans (e3.trans e4)), ok, fun v H' e5 h => q v H' e5 h⟩
        · obtain ⟨rfl, hx'⟩ := yy
          have hTi := hgs.nth hx' []
          have hgm : gs.getD i [] ∈ gs := by
            rw [List.getD_eq_getElem?_getD, List.getElem?_eq_getElem (by omega)]
            exact List.getElem_mem _
          have hgm2 := hperm.mem_iff.mp hgm
          refine ⟨_, fun s H0 C cl fp => tgt_name 3 sc_calmest.nd, rfl, fun s H0 C cl fp => ?_⟩
          refine evN_call (vs := [.ref a0, x']) (cal_calmest_from (P := P) (w := w) T DF TF hne) hr (by decide) (ea_cons (ev_name 1 rfl) (ea_cons (ev_name 3 rfl) ea_nil)) (fun _ _ _ _ _ h => h) fun H4 e4 t4 Q q => ?_
          have e24 : ExtN H2 H4 := eN.trans e4
          exact ⟨.ref a0, x', L, gs.getD i [], rfl, hsh2.no.ex (exN_no e24), ok, (TI.no (hTi.ex e2)).ex (exN_no e24), hgm2, t4, fun p c H' e5 t5 h5 h6 => q _ _ e5 t5 ⟨p, c, rfl, h5, h6⟩⟩
        · obtain ⟨pl, us, rfl, hpn, hus, hall⟩ := rv
          rw [picked_all] at hall
          obtain ⟨ps, rfl, hps⟩ := all2_choose (G := fun i p c => EndP CP L (gs.getD i []) c p H3 ∧ ∀ s b c' rows, Pre L (gs.getD i []) L.circle s b c' rows → c ≤ c' + (newIn b (gs.getD i [])).length) (fun i v ⟨p, c, h1, h2, h3⟩ => ⟨p, c, h1, h2, h3⟩) hall
          have hpl := hps.len
          rw [List.length_range] at hpl
          have hgne : gs ≠ [] := fun z => by
            rw [z] at hperm
            obtain ⟨m, hm⟩ : ∃ m, L.circle = m + 1 := ⟨L.circle - 1, by omega⟩
            rw [hm] at hz
            obtain ⟨g, hg⟩ := aliveK_mem hz
            rw [show L.circle - 1 = m by omega] at hperm
            have := hperm.mem_iff.mpr hg
            cases this
          have hpne : ps ≠ [] := fun z => by
            rw [z] at hpl
            rw [← hgsl] at hpl
            exact hgne (List.length_eq_zero_iff.mp hpl)
          refine wS_of (X := cxD P w K mg base ["lot", "sheet", "paths", "first"] "calmest" s_calmest f (.ref cC) A outer s H E) (pss_one (ps_ret (pe_minkey (X := cxD P w K mg base ["lot", "sheet", "paths", "first"] "calmest" s_calmest f (.ref cC) A outer s H E) (T := tabT pF pC) (c := cC) (Pt := pC) rfl rfl T.n_min pe_w TC rfl (List.mem_cons_of_mem _ (List.mem_cons_self ..)) (fun q hq hq1 => ?_) (hr.mono (by decide)) ⟨rfl, rfl, rfl, by decide +kernel, by decide +kernel, rfl⟩ rfl (fun _ _ _ _ _ _ => rfl)))) ?_
          · rcases (List.mem_cons).mp hq with rfl | hq
            · exact absurd hq1 hne
            · rw [(List.mem_singleton).mp hq]
              rfl
          · refine (ev_name (X := cxD P w K mg base ["lot", "sheet", "paths", "first"] "calmest" s_calmest f (.ref cC) A outer s H E) (n := "paths") 2 rfl) H3 (Ex.refl _) _ fun v H4 e4 rv => ?_
            cases rv
            refine ⟨pl, ps.map fun z => (z.1, ((z.2 : Nat) : Int)), rfl, SqL.of ?_, by simpa using hpne, fun z hz => ?_, t3.ext e4, fun z hzz hmin H5 e5 T5 => ?_⟩
            · rw [List.map_map]
              exact e4 _ _ hus
            · obtain ⟨z', hz', rfl⟩ := List.mem_map.mp hz
              obtain ⟨i, hi⟩ := List.mem_iff_getElem?.mp hz'
              obtain ⟨_, _, ⟨dx, q, s1, b1, c0, rows, h1, _⟩, _⟩ := hps.at hi
              exact ⟨CP, dx, _, e4 _ _ h1, T.cPath, T.aPath_starts, path_starts _ _ _⟩
            · obtain ⟨z', hz', rfl⟩ := List.mem_map.mp hzz
              obtain ⟨i, hi⟩ := List.mem_iff_getElem?.mp hz'
              obtain ⟨i', hi', ⟨dx, q, s1, b1, c0, rows, h1, h2, h3, h4⟩, hb⟩ := hps.at hi
              have hi2 : i' < gs.length := by
                rw [hgsl]
                exact List.mem_range.mp (List.mem_of_getElem? hi')
              have hgm : gs.getD i' [] ∈ gs := by
                rw [List.getD_eq_getElem?_getD, List.getElem?_eq_getElem hi2]
                exact List.getElem_mem _
              have sx5 : Sx H3 H5 := (e4.sx).trans (exN_sx e5)
              refine k _ H5 (((ExtN.of (e1.trans e2)).trans e3).trans ((ExtN.of e4).trans e5)) T5 (.inr ⟨z'.1, dx, q, gs.getD i' [], z'.2, rows, rfl, sx5 _ _ h1 rfl, ⟨s1, b1, c0, hperm.mem_iff.mp hgm, h2, h3⟩, h4.sx sx5, hal, fun g0' c' rows' ⟨s2, b2, c2, k1, k2, k3⟩ => ?_⟩)
              obtain ⟨j, hj⟩ := List.mem_iff_getElem?.mp (hperm.mem_iff.mpr k1)
              have hjl : j < gs.length := (List.getElem?_eq_some_iff.mp hj).1
              have hgj : gs.getD j [] = g0' := by rw [List.getD_eq_getElem?_getD, hj]; rfl
              obtain ⟨zj, hzj, hz3, hz4⟩ := hps.get (i := j) (a := j) (by rw [List.getElem?_range (by omega)])
              have h7 := hmin (zj.1, ((zj.2 : Nat) : Int)) (List.mem_map.mpr ⟨zj, List.mem_of_getElem? hzj, rfl⟩)
              have h8 : ((z'.2 : Nat) : Int) ≤ ((zj.2 : Nat) : Int) := h7
              rw [hgj] at hz4
              have h9 := hz4 _ _ _ _ k2
              omega
end
end TS
/-! ## D14 -/
namespace TS
open PySem PySem.Spec PyProof.Rows LamX L2
section
variable {X : Cx} {T : List (Addr × Str)} {a b c e o d : Expr} {es : List Expr} {σ : L2.St} {H H' : Hp} {x y z v : V} {R R' : RT} {pos : Pos} {D : Ends} {rest sts : List Stmt} {k : Bool}
theorem ws_expr (he : Ev X e σ H R) (k : ∀ v H1, Ex H H1 → R H v H1 → wS X rest D σ H1) (hs : swapsWith e none pos.line X.env = pure false := by rfl) : wS X (.Expr e pos :: rest) D σ H :=
  ws_cons (ps_expr pe_w hs) (he H (Ex.refl _) _ fun v H1 e1 r1 => k v H1 e1 r1)
end
/-- a def that may be called by its name, its one argument positional or by name -/
structure CalK (P : Program) (w : World) (K : PySem.W.Frag) (mg : Str → Option Value) (base : Heap) (k : Nat) (x p : Str) (sp : Sp) : Prop where
  ex : ∃ (f : Addr) (fd : FuncData), FnOk P w K mg base C8.CX0 k f fd [p] sp ∧ mg x = some (.ref f) ∧ PySem.W.keepIn K (.ref f) = true ∧ Binds K fd [p] [] ∧ KBinds K fd [p] [p] (fun us ws => us ++ ws) (fun vs zs => vs ++ zs)
section
variable {P : Program} {w : World} {K : PySem.W.Frag} {mg : Str → Option Value} {base : Heap} {CL CS CP : Addr}
theorem CalK.cal {k : Nat} {x p : Str} {sp : Sp} (c : CalK P w K mg base k x p sp) : C8.Cal P w K mg base k x sp [] := by
  obtain ⟨f, fd, F, hm, kp, b, _⟩ := c.ex
  exact ⟨f, fd, [p], [], F, hm, kp, b, .nil⟩
theorem calK_mk {x p : Str} {st : Stmt} {N : List Str} {k : Nat} {sp : Sp} (F : DefN K mg x st [p]) (S : FnScope N [p] (defScope st)) (len : ∀ vs H Q E, sp vs H Q E → vs.length = 1)
    (hb0 : ∀ (kV doc pm : Value) (an : Option Addr) (cdv ct u : Value), bindArgs (PySem.W.fnOf x x (defArgs st) (defBody st) (defScope st) .none kV doc pm an cdv ct) ⟨[u], []⟩ = pure [(p, u)])
    (hb1 : ∀ (kV doc pm : Value) (an : Option Addr) (cdv ct u : Value), bindArgs (PySem.W.fnOf x x (defArgs st) (defBody st) (defScope st) .none kV doc pm an cdv ct) ⟨[], [(p, u)]⟩ = pure [(p, u)])
    (hbody : ∀ (f : Addr) (cdv : Value) (A : Around) (outer : List Env) (s : Shared) (H : Hp) (vs : List V) (Q : VK) (E : XK), Room k (A.deeper (envOfC x (defScope st) s.heap.objs.size f cdv)) → sp vs H Q E →
      wS (cxD P w K mg base N x st f cdv A outer s H E) (defBody st) { nx := fun _ H' => Q .non H', rt := Q } (start N vs) H) : CalK P w K mg base (k + 1) x p sp := by
  obtain ⟨f, fd, F, hm, hb⟩ := F.ex
  refine ⟨f, fd, F.ok S len fun cdv A outer s H vs Q E hr h => ⟨_, (ps_w (X := cxD P w K mg base N x st f cdv A outer s H E)).nox, hbody f cdv A outer s H vs Q E hr h⟩, hm, F.kp, hb, ?_⟩
  obtain ⟨_, _, dV, kV, doc, pm, an, cdv, ct, _, rfl, _, _, hD, _⟩ := F.ex
  rcases hD with ⟨_, rfl⟩ | ⟨ne, _⟩
  · refine ⟨fun s us ws hk hl => ?_, fun r1 r2 => r1.append r2⟩
    match us, ws, hl with
    | [u], [], _ => exact BindsTo.of_eq (hb0 kV doc pm an cdv ct u)
    | [], [u], _ => exact BindsTo.of_eq (hb1 kV doc pm an cdv ct u)
    | [], [], hl => cases hl
    | [_], _ :: _, hl => cases hl
    | _ :: _ :: _, _, hl => cases hl
    | [], _ :: _ :: _, hl => cases hl
  · exact absurd rfl ne
end
section
variable {X : Cx} {T : List (Addr × Str)} {e : Expr} {σ : L2.St} {H : Hp} {x : V} {R : RT} {pos kp : Pos}
theorem evN_callK {n p : Str} {pp : Pos} {sp : Sp} {kk jj : Nat} (cl : CalK X.prog X.w X.K X.mg X.base kk n p sp) (hr : Room jj X.A) (hk : kk ≤ jj) (ha : Ev X e σ (noT H) (is x))
    (hR : ∀ Ha Hb v Hc, Ex Ha Hb → R Hb v Hc → R Ha v Hc) (h : ∀ H1, ExtN H H1 → Tabs T H1 → ∀ Q : VK, (∀ v H2, ExtN H1 H2 → Tabs T H2 → R H1 v H2 → Q v H2) → sp [x] H1 Q C8.E0) (hg : Gl X n := by rfl) (hdb : (n == ("__debug__" : Str)) = false := by decide)
    (hall : (backToKw pos (keywordEach [⟨some p, e, kp⟩] X.env)).all (·.1.isSome) = true := by rfl) (hks : (backToKw pos (keywordEach [⟨some p, e, kp⟩] X.env)).filterMap (·.1) = [p] := by rfl)
    (hpl : ((backTo pos (starEach [] X.env)).any (·.1) || (backToKw pos (keywordEach [⟨some p, e, kp⟩] X.env)).any (·.1.isNone)) = false := by rfl) : EvN T X (.Call (.Name n pp) [] [⟨some p, e, kp⟩] pos) σ H R := fun H1 e1 t1 Q q => by
  obtain ⟨f, fd, F, hm, kpn, _, hb⟩ := cl.ex
  refine wE_of (t := fun σ H Q => wE X e σ H fun z H2 => sp [z] H2 Q C8.E0) ⟨fun pins s σ H Q I h => ?_⟩ (ha H1 (exN_no e1) _ fun z H2 e2 rz => by
    cases rz
    exact h H2 (e1.trans (ExtN.of e2)) (t1.ext e2) Q fun v H3 e3 t3 r3 => q v H3 ((ExtN.of e2).trans e3) t3 (hR _ _ _ _ e2 r3))
  refine wpAny_Call_Name_kw (ld_glob I hg hm (PySem.W.callWith_KW0 (h₀ := X.base) I.ok.mod.kin kpn hall ?_ hpl) hdb)
  refine thn ((pk_cons (kpos := kp) (nm := some p) (pe_w (X := X) (e := e)) pk_nil).run pos pins s σ H (fun zs H2 => ∃ z, zs = [z] ∧ sp [z] H2 Q C8.E0) I ?_) fun ws s2 ⟨zs, H2, I2, rz, z, ez, q2⟩ => ⟨I2.kIn, ?_⟩
  · intro pins' s' I'
    exact thn (h pins' s' I') fun u s3 ⟨z, H3, I3, r3, q3⟩ => ⟨z, H3, I3, r3, z, rfl, q3⟩
  · subst ez
    rw [hks]
    exact run_fnk F (hr.mono hk) hb C8.pass0 I2 .nil rz q2
end
/-! ### check_both, fewest_starts, calm_table -/
def FewR (L : LotD) (v : V) : Prop := (v = .non ∧ aliveK L L.circle = []) ∨ ∃ g0 c rows, v = .int ((c : Nat) : Int) ∧ Tab L g0 c rows ∧ aliveK L L.circle ≠ [] ∧ ∀ g0' c' rows', Tab L g0' c' rows' → c ≤ c'
def CalmR (L : LotD) (v : V) (H : Hp) : Prop := (v = .non ∧ aliveK L L.circle = []) ∨ ∃ (g0 : List Nat) (c : Nat) (rows : List (List Nat)) (t : Addr) (vs : List V), v = .ref t ∧ H t = some (.tup vs) ∧ TIs rows.reverse vs H ∧ Tab L g0 c rows ∧ aliveK L L.circle ≠ [] ∧ ∀ g0' c' rows', Tab L g0' c' rows' → c ≤ c'
section
variable {P : Program} {w : World} {K : PySem.W.Frag} {mg : Str → Option Value} {base : Heap} {CL CS CP : Addr}
theorem sc_check_lot : FnScope ["value"] ["value"] (defScope s_check_lot) := ⟨rfl, rfl, rfl, by decide +kernel, rfl, by decide +kernel, by decide +kernel⟩
def spChk (CL : Addr) : Sp := fun vs H Q _ => ∃ (x : V) (L : LotD), vs = [x] ∧ IsLot CL L x H ∧ L.ok ∧ ∀ H', Ex H H' → Q .non H'
theorem ev_isLot {X : Cx} {L : LotD} {a b : Expr} {σ : L2.St} {H : Hp} {x : V} {pn pos : Pos} (c : C8.InsC X.K CL) (ha : Ev X a σ H (is x)) (hx : IsLot CL L x H) (hb : Ev X b σ H (is (.ref CL))) (hm : X.mg "isinstance" = none) (hg : Gl X "isinstance" := by rfl)
    (hs : starEach [a, b] X.env = (false, eval a X.env) :: starEach [b] X.env := by rfl) (hs2 : starEach [b] X.env = (false, eval b X.env) :: starEach [] X.env := by rfl) (hpl : (backTo pos (starEach [b] X.env)).any (·.1) = false := by rfl) : Ev X (.Call (.Name "isinstance" pn) [a, b] [] pos) σ H (is (.bl true)) := by
  obtain ⟨q, dx, fs, y, rfl, h2, _⟩ := hx
  exact ev_callB (R := is (.bl true)) (C8.call_isC c) hm (by decide +kernel) (ea_cons ha (ea_cons hb ea_nil hs2) hs) (fun H1 e1 Q k => ⟨q, dx, fs, rfl, e1 _ _ h2, k _ H1 (Ex.refl _) rfl⟩) hg (by decide) (by decide) hs hpl
theorem cal_check_lot (T : Txt K mg CL CS CP) : C8.Cal P w K mg base 1 "check_lot" (spChk CL) [] := by
  refine cal_mk T.d_check_lot sc_check_lot (fun vs H Q E h => ?_) fun f cdv A outer s H vs Q E hr h => ?_
  · obtain ⟨x, L, rfl, _⟩ := h
    rfl
  · obtain ⟨x, L, rfl, hx, ok, k⟩ := h
    refine ws_ifF (et_not (k := true) (et_val (ev_isLot T.insL (ev_name 0 rfl) hx (ev_glob T.gLot rfl) T.n_isinstance))) fun H1 e1 => ?_
    exact ws_nil (ws_nil (k _ e1))
theorem sc_check_round : FnScope ["lot"] ["lot"] (defScope s_check_round) := ⟨rfl, rfl, rfl, by decide +kernel, rfl, by decide +kernel, by decide +kernel⟩
theorem cal_check_round (T : Txt K mg CL CS CP) : C8.Cal P w K mg base 1 "check_round" (spChk CL) [] := by
  refine cal_mk T.d_check_round sc_check_round (fun vs H Q E h => ?_) fun f cdv A outer s H vs Q E hr h => ?_
  · obtain ⟨x, L, rfl, _⟩ := h
    rfl
  · obtain ⟨x, L, rfl, hx, ok, k⟩ := h
    have hc := ok.2.2.2.2.2.2
    refine ws_if (et_gt (ev_lotCircle T.cLot T.aLot_circle (ev_name 0 rfl) hx) (ev_globI T.i_MOST_ROUND)) (fun hk => ?_) fun _ H1 e1 => ?_
    · have := of_decide_eq_true hk
      omega
    · exact ws_nil (ws_nil (k _ e1))
theorem sc_check_both : FnScope ["lot"] ["lot"] (defScope s_check_both) := ⟨rfl, rfl, rfl, by decide +kernel, rfl, by decide +kernel, by decide +kernel⟩
theorem cal_check_both (T : Txt K mg CL CS CP) : C8.Cal P w K mg base 2 "check_both" (spChk CL) [] := by
  refine cal_mk T.d_check_both sc_check_both (fun vs H Q E h => ?_) fun f cdv A outer s H vs Q E hr h => ?_
  · obtain ⟨x, L, rfl, _⟩ := h
    rfl
  · obtain ⟨x, L, rfl, hx, ok, k⟩ := h
    refine ws_expr (ev_callG (R := fun _ _ _ => True) (T := fun _ vs _ => vs = [x]) (cal_check_lot (P := P) (w := w) (base := base) T) hr (by decide) (EvA.g (ea_cons (ev_name 0 rfl) ea_nil)) fun H1 vs H2 e1 e2 tt Q q => ?_) fun v H1 e1 _ => ?_
    · subst tt
      exact ⟨x, L, rfl, hx.ex (e1.trans e2), ok, fun H' e => q _ _ e True.intro⟩
    refine ws_expr (ev_callG (R := fun _ _ _ => True) (T := fun _ vs _ => vs = [x]) (cal_check_round (P := P) (w := w) (base := base) T) hr (by decide) (EvA.g (ea_cons (ev_name 0 rfl) ea_nil)) fun H1 vs H2 e1 e2 tt Q q => ?_) fun v H2 e2 _ => ?_
    · subst tt
      rename_i Hx _ _ _
      exact ⟨x, L, rfl, hx.ex (by first | exact (‹Ex H _›.trans (e1.trans e2))), ok, fun H' e => q _ _ e True.intro⟩
    · exact ws_nil (k _ (e1.trans e2))
end
end TS
/-! ## D15 -/
namespace TS
open PySem PySem.Spec PyProof.Rows LamX L2
section
variable {P : Program} {w : World} {K : PySem.W.Frag} {mg : Str → Option Value} {base : Heap} {CL CS CP : Addr}
theorem sc_fewest : FnScope ["lot", "path"] ["lot"] (defScope s_fewest_starts) := ⟨rfl, rfl, rfl, by decide +kernel, rfl, by decide +kernel, by decide +kernel⟩
def spFew (CL : Addr) (T : List (Addr × Str)) : Sp := fun vs H Q _ => ∃ (x : V) (L : LotD), vs = [x] ∧ IsLot CL L x H ∧ L.ok ∧ Tabs T H ∧ ∀ v H', ExtN H H' → Tabs T H' → FewR L v → Q v H'
theorem cal_fewest (T : Txt K mg CL CS CP) {cF pF cC pC : Addr} (DF : DefT K mg "calmest_from" s_calmest_from ["sheet", "first"] cF) (TF : TabB base mg cF pF) (DC : DefT K mg "calmest" s_calmest ["lot"] cC) (TC : TabB base mg cC pC) (hne : pF ≠ pC) : CalK P w K mg base 6 "fewest_starts" "lot" (spFew CL (tabT pF pC)) := by
  refine calK_mk T.d_fewest_starts sc_fewest (fun vs H Q E h => ?_) (fun _ _ _ _ _ _ _ => rfl) (fun _ _ _ _ _ _ _ => rfl) fun f cdv A outer s H vs Q E hr h => ?_
  · obtain ⟨x, L, rfl, _⟩ := h
    rfl
  · obtain ⟨x, L, rfl, hx, ok, hT, k⟩ := h
    refine ws_expr (ev_callG (R := fun _ _ _ => True) (T := fun _ vs _ => vs = [x]) (cal_check_both (P := P) (w := w) (base := base) T) hr (by decide) (EvA.g (ea_cons (ev_name 0 rfl) ea_nil)) fun H1 vs H2 e1 e2 tt Q q => ?_) fun v H1 e1 _ => ?_
    · subst tt
      exact ⟨x, L, rfl, hx.ex (e1.trans e2), ok, fun H' e => q _ _ e True.intro⟩
    refine ws_setN (T := tabT pF pC) (R := fun _ v H2 => BestR CP L v H2) 1 sc_fewest.nd (hT.ext e1) (evN_call (vs := [x]) (cal_calmest (P := P) (w := w) T DF TF DC TC hne) hr (by decide) (ea_cons (ev_name 0 rfl) ea_nil) (fun _ _ _ _ _ h => h) fun H2 e2 t2 Q q => ?_) fun v2 H2 e2 t2 hb => ?_
    · exact ⟨x, L, rfl, (hx.ex e1).no.ex (exN_no e2), ok, t2, fun v H' e3 t3 h3 => q v H' e3 t3 h3⟩
    · have eN : ExtN H H2 := (ExtN.of e1).trans e2
      rcases hb with ⟨rfl, hal⟩ | ⟨p, dx, q, g0, c, rows, rfl, hp, htab, hch, hal, hbest⟩
      · refine ws_ret (R := is .non) (ev_ifT (EvT.is_ (et_isN (ev_name 1 rfl)) rfl) ev_non) fun v H3 e3 rv => ?_
        cases rv
        exact k _ H3 (eN.trans (ExtN.of e3)) (t2.ext e3) (.inl ⟨rfl, hal⟩)
      · refine ws_ret (R := is (.int ((c : Nat) : Int))) (ev_ifF (EvT.is_ (et_isN (ev_name 1 rfl)) rfl) (ev_fld (ev_name 1 rfl) hp T.cPath T.aPath_starts (path_starts _ _ _))) fun v H3 e3 rv => ?_
        cases rv
        exact k _ H3 (eN.trans (ExtN.of e3)) (t2.ext e3) (.inr ⟨g0, c, rows, rfl, htab, hal, hbest⟩)
theorem sc_calm_table : FnScope ["lot", "path", "found"] ["lot"] (defScope s_calm_table) := ⟨rfl, rfl, rfl, by decide +kernel, rfl, by decide +kernel, by decide +kernel⟩
def spTable (CL : Addr) (T : List (Addr × Str)) : Sp := fun vs H Q _ => ∃ (x : V) (L : LotD), vs = [x] ∧ IsLot CL L x H ∧ L.ok ∧ Tabs T H ∧ ∀ v H', ExtN H H' → Tabs T H' → CalmR L v H' → Q v H'
theorem cal_calm_table (T : Txt K mg CL CS CP) {cF pF cC pC : Addr} (DF : DefT K mg "calmest_from" s_calmest_from ["sheet", "first"] cF) (TF : TabB base mg cF pF) (DC : DefT K mg "calmest" s_calmest ["lot"] cC) (TC : TabB base mg cC pC) (hne : pF ≠ pC) : CalK P w K mg base 6 "calm_table" "lot" (spTable CL (tabT pF pC)) := by
  refine calK_mk T.d_calm_table sc_calm_table (fun vs H Q E h => ?_) (fun _ _ _ _ _ _ _ => rfl) (fun _ _ _ _ _ _ _ => rfl) fun f cdv A outer s H vs Q E hr h => ?_
  · obtain ⟨x, L, rfl, _⟩ := h
    rfl
  · obtain ⟨x, L, rfl, hx, ok, hT, k⟩ := h
    refine ws_expr (ev_callG (R := fun _ _ _ => True) (T := fun _ vs _ => vs = [x]) (cal_check_both (P := P) (w := w) (base := base) T) hr (by decide) (EvA.g (ea_cons (ev_name 0 rfl) ea_nil)) fun H1 vs H2 e1 e2 tt Q q => ?_) fun v H1 e1 _ => ?_
    · subst tt
      exact ⟨x, L, rfl, hx.ex (e1.trans e2), ok, fun H' e => q _ _ e True.intro⟩
    refine ws_cons (ps_par (i := 1) (j := 2) rfl sc_calm_table.nd rfl rfl (by decide) rfl rfl (pa_cons pe_w (pa_cons pe_w pa_nil)) (by rfl) (by rfl)) ?_
    refine (evN_call (T := tabT pF pC) (R := fun _ v H2 => BestR CP L v H2) (H := H1) (vs := [x]) (cal_calmest (P := P) (w := w) T DF TF DC TC hne) hr (by decide) (ea_cons (ev_name 0 rfl) ea_nil) (fun _ _ _ _ _ h => h) fun H2 e2 t2 Q q => ?_) H1 (ExtN.refl _) (hT.ext e1) _ fun v2 H2 e2 t2 hb => ?_
    · exact ⟨x, L, rfl, (hx.ex e1).no.ex (exN_no e2), ok, t2, fun v H' e3 t3 h3 => q v H' e3 t3 h3⟩
    refine (ev_lst (σ := [some x, none, none]) ea_nil (by show 0 ≤ 100000; decide)) H2 (Ex.refl _) _ fun v3 H3 e3 r3 => ?_
    obtain ⟨fl, rfl, fn, hfl⟩ := r3
    refine ⟨v2, .ref fl, rfl, ?_⟩
    have eN : ExtN H H3 := ((ExtN.of e1).trans e2).trans (ExtN.of e3)
    have t3 := t2.ext e3
    rcases hb with ⟨rfl, hal⟩ | ⟨p, dx, q, g0, c, rows, rfl, hp, htab, hch, hal, hbest⟩
    · refine ws_ifT (EvT.is_ (et_isN (ev_name 1 rfl)) rfl) fun H4 e4 => ?_
      refine ws_ret ev_non fun v H5 e5 rv => ?_
      cases rv
      exact k _ H5 (eN.trans (ExtN.of (e4.trans e5))) (t3.ext (e4.trans e5)) (.inl ⟨rfl, hal⟩)
    · refine ws_ifF (EvT.is_ (et_isN (ev_name 1 rfl)) rfl) fun H4 e4 => ?_
      refine ws_nil ?_
      refine ws_set 1 sc_calm_table.nd (ev_fld (ev_name 1 rfl) ((e3.trans e4) _ _ hp) T.cPath T.aPath_before (path_before _ _ _)) fun v5 H5 e5 rv => ?_
      cases rv
      have hch5 : Chain CP rows (.ref q) H5 := hch.sx ((e3.trans e4).trans e5).sx
      have hrl : rows.length ≤ 6 := by
        obtain ⟨s1, b1, c0, _, hpre, _⟩ := htab
        have := (hpre.facts ok)
        have h1 := this.2.2.2.2.2.2.2.1
        have := ok.2.2.2.2.2.2
        omega
      refine ws_while PassesOwn.never (fun m σ' H' => ∃ (v : V) (done rest : List (List Nat)) (vs : List V), σ' = [some x, some v, some (.ref fl)] ∧ m = rest.length ∧ rows = done ++ rest ∧ Chain CP rest v H' ∧ ExtN H2 H' ∧ Tabs (tabT pF pC) H' ∧ H' fl = some (.lst vs) ∧ TIs done.reverse vs H') rows.length
        ⟨.ref q, [], rows, [], rfl, rfl, rfl, hch5, ExtN.of ((e3.trans e4).trans e5), t3.ext (e4.trans e5), (e4.trans e5) _ _ hfl, .nil⟩ fun m σ' H' ⟨v, done, rest, vs, hσ, hm, hr2, hc, eN2, tT, hf, hv⟩ => ?_
      subst hσ
      refine ⟨_, et_notN (ev_name 1 rfl), fun hk H6 e6 => ?_, fun hk H6 e6 => ?_⟩
      · cases hc with
        | nil => cases hk
        | @cons g gs p6 dx6 s6 gv6 b6 _ c1 c2 c3 =>
          refine ⟨fun σ2 H2' => ∃ (v : V) (done rest : List (List Nat)) (vs : List V), σ2 = [some x, some v, some (.ref fl)] ∧ gs.length = rest.length ∧ rows = done ++ rest ∧ Chain CP rest v H2' ∧ ExtN H2 H2' ∧ Tabs (tabT pF pC) H2' ∧ H2' fl = some (.lst vs) ∧ TIs done.reverse vs H2', fun σ2 H2' h => ⟨gs.length, by rw [hm]; exact Nat.lt_succ_self _, h⟩, ?_⟩
          have hvl : vs.length ≤ 6 := by
            have h1 := hv.len
            have h2 := congrArg List.length hr2
            rw [List.length_append] at h2
            rw [List.length_reverse] at h1
            omega
          refine ws_insert0 (R := is gv6) (l := fl) (xs := vs) (e6 _ _ hf) (by omega) (ev_name 2 rfl) (ev_fld (ev_name 1 rfl) (e6 _ _ c1) T.cPath T.aPath_given (path_given _ _ _)) fun v7 H7 e7 rv => ?_
          cases rv
          have hfl7 : H7 fl = some (.lst vs) := e7 _ _ (e6 _ _ hf)
          have sx8 : Sx H' (upd H7 fl (.lst (gv6 :: vs))) := ((e6.trans e7).sx).trans ((Sx.refl H7).mutL hfl7)
          refine ws_set 1 sc_calm_table.nd (ev_fld (ev_name 1 rfl) (sx8 _ _ c1 rfl) T.cPath T.aPath_before (path_before _ _ _)) fun v8 H8 e8 rv => ?_
          cases rv
          refine ws_nil ⟨b6, done ++ [g], gs, gv6 :: vs, rfl, rfl, by rw [hr2, List.append_assoc]; rfl, c3.sx (sx8.trans e8.sx), ?_, (tabs_upd ((tT.ext e6).ext e7) hfl7 (fun _ z => nomatch z) (fun _ => codeO_lst _)).ext e8, e8 _ _ upd_same, ?_⟩
          · exact (exN_mut (eN2.trans (ExtN.of (e6.trans e7))) fn).trans (ExtN.of e8)
          · rw [List.reverse_append]
            exact .cons (TI.sx _ _ _ (sx8.trans e8.sx) c2) (hv.sx (sx8.trans e8.sx))
      · cases hc with
        | cons _ _ _ => cases hk
        | nil =>
          rw [List.append_nil] at hr2
          subst hr2
          refine ws_ret (ev_callTy (R := fits fun v H2 => ∃ t, v = .ref t ∧ H2 t = some (.tup vs)) (X := cxD P w K mg base ["lot", "path", "found"] "calm_table" s_calm_table f cdv A outer s H E) call_tuple_of T.n_tuple (by decide +kernel) (ea_cons (ev_name 2 rfl) ea_nil) fun H7 e7 Q q => ⟨fl, _, rfl, .inl ⟨SqL.of (e7 _ _ (e6 _ _ hf)), fun l hl => q _ _ (Ex.new hl) ⟨l, rfl, upd_same⟩⟩⟩) fun v9 H9 e9 r9 => ?_
          obtain ⟨t9, rfl, ht9⟩ := r9
          exact k _ H9 ((((ExtN.of e1).trans e2).trans eN2).trans (ExtN.of (e6.trans e9))) (tT.ext (e6.trans e9)) (.inr ⟨g0, c, _, t9, vs, rfl, ht9, hv.ex (e6.trans e9), htab, hal, hbest⟩)
end
end TS
/-! ## M1 -/
namespace TS
open PySem PySem.Spec PyProof.Rows L2
/-! ### the law's tables are the program's -/
theorem givens_iff {L : LotD} {s g : List Nat} {later : List (List Nat)} (hs : s.length = L.parts.length) (hl : ∀ l ∈ later, l.length = s.length) : g ∈ givensOf s later L.many ↔ g ∈ lawSets L ∧ plusL s g ∈ later := by
  constructor
  · intro h
    obtain ⟨l, hl1, hg⟩ := List.mem_filterMap.mp h
    have e := plus_gb (hl l hl1) hg
    obtain ⟨_, h2, rfl⟩ := gb_some hg
    refine ⟨?_, by rw [e]; exact hl1⟩
    unfold lawSets setsLe
    exact List.mem_filter.mpr ⟨(mem_setsN _ _).mpr ⟨fun i => decide (s.getD i 0 < l.getD i 0), by rw [← hs]; rfl⟩, decide_eq_true h2⟩
  · rintro ⟨h1, h2⟩
    obtain ⟨h3, h4⟩ := List.mem_filter.mp h1
    refine List.mem_filterMap.mpr ⟨_, h2, ?_⟩
    have hd : g = gbSet s (plusL s g) := plusL_det (by rw [hs]; exact h3) rfl
    have hok : gbOk s (plusL s g) = true := gbOk_true fun i hi => by
      rw [plusL_get _ _ hi]
      split <;> omega
    unfold gb
    rw [← hd, if_pos ⟨hok, of_decide_eq_true h4⟩]
theorem alive_eq (L : LotD) (ok : L.ok) : ∀ k, aliveK L k = aliveS L k
  | 0 => rfl
  | k + 1 => by
    show List.filter _ _ = List.filter _ _
    rw [← alive_eq L ok k]
    refine List.filter_congr fun s hs => ?_
    have hs1 := (tab_len L ok _).2 s hs
    have hl : ∀ l ∈ aliveK L k, l.length = s.length := fun l h => by rw [(aliveK_len L ok k).2 l h, hs1]
    unfold hasNext
    cases e : givensOf s (aliveK L k) L.many with
    | nil =>
      symm
      show _ = false
      refine List.any_eq_false.mpr fun g hg => ?_
      rw [decide_eq_true_eq]
      intro h
      have := (givens_iff hs1 hl).mpr ⟨hg, h⟩
      rw [e] at this
      cases this
    | cons g gs =>
      symm
      show _ = true
      obtain ⟨h1, h2⟩ := (givens_iff hs1 hl).mp (by rw [e]; exact List.mem_cons_self : g ∈ givensOf s (aliveK L k) L.many)
      exact List.any_eq_true.mpr ⟨g, h1, decide_eq_true h2⟩
theorem livAt_eq (L : LotD) (ok : L.ok) (hne : aliveK L L.circle ≠ []) {t : Nat} (ht : t ≤ L.circle) : livAt L t = aliveK L (L.circle - t) := by
  have h := livAt_get L ht
  unfold livF at h
  rw [if_neg (by rw [← alive_eq L ok]; intro z; exact hne (List.isEmpty_iff.mp z)), livS_get L _ _ ht, ← alive_eq L ok] at h
  exact (Option.some.inj h).symm
theorem livAt_none (L : LotD) (ok : L.ok) (he : aliveK L L.circle = []) : livAt L 0 = [] := by
  have h := livAt_get L (Nat.zero_le L.circle)
  unfold livF at h
  rw [if_pos (by rw [← alive_eq L ok, he]; rfl)] at h
  exact (Option.some.inj h).symm
theorem tabS_none (L : LotD) (ok : L.ok) (gs : List (List Nat)) (he : aliveK L L.circle = []) : ∀ t, tabS L gs t = []
  | 0 => by
    unfold tabS
    rw [livAt_none L ok he, if_neg (fun z => nomatch z)]
  | t + 1 => by
    show (tabS L gs t).flatMap _ = []
    rw [tabS_none L ok gs he t]
    rfl
theorem zero_alive (L : LotD) (ok : L.ok) (hne : aliveK L L.circle ≠ []) : zeroN L.parts.length ∈ aliveK L L.circle := by
  have h1 := ok.2.2.2.2.2.1
  obtain ⟨k, hk⟩ : ∃ k, L.circle = k + 1 := ⟨L.circle - 1, by omega⟩
  have hsub : ∀ s ∈ aliveK L L.circle, s = zeroN L.parts.length := fun s hs => by
    have h2 : aliveK L L.circle = (standsAt L.parts (L.circle - (k + 1))).filter fun s => !(givensOf s (aliveK L k) L.many).isEmpty := by
      rw [hk]
      show (standsAt L.parts (L.circle - (k + 1))).filter _ = _
      rw [hk]
    rw [h2, show L.circle - (k + 1) = 0 by omega, standsAt_zero L.parts fun p hp => by have := ok.2.2.2.2.1 p hp; omega] at hs
    exact List.mem_singleton.mp (List.mem_filter.mp hs).1
  cases e : aliveK L L.circle with
  | nil => exact absurd e hne
  | cons s ss =>
    have := hsub s (by rw [e]; exact List.mem_cons_self)
    rw [← this]
    exact List.mem_cons_self
theorem pre_tabS {L : LotD} (ok : L.ok) {gs : List (List Nat)} (hp : gs.Perm (lawSets L)) (hne : aliveK L L.circle ≠ []) {g0 : List Nat} {t : Nat} {s b : List Nat} {c : Nat} {rows : List (List Nat)} (h : Pre L g0 t s b c rows) : (rows.reverse, s) ∈ tabS L gs t := by
  induction h with
  | one hg =>
    have h1 := ok.2.2.2.2.2.1
    obtain ⟨a, b⟩ := (givens_iff (L := L) (zeroN_len _) (fun l h => by rw [(aliveK_len L ok _).2 l h, zeroN_len])).mp hg
    show _ ∈ (tabS L gs 0).flatMap _
    refine List.mem_flatMap.mpr ⟨([], zeroN L.parts.length), ?_, ?_⟩
    · unfold tabS
      rw [livAt_eq L ok hne (Nat.zero_le _), Nat.sub_zero, if_pos (zero_alive L ok hne)]
      exact List.mem_singleton.mpr rfl
    · refine List.mem_map.mpr ⟨g0, List.mem_filter.mpr ⟨hp.mem_iff.mpr a, ?_⟩, rfl⟩
      rw [livAt_eq L ok hne h1]
      exact decide_eq_true b
  | step hpre ht hg ih =>
    rename_i t s b g c rows
    have hf := hpre.facts ok
    obtain ⟨a, b⟩ := (givens_iff (L := L) hf.2.2.2.1 (fun l h => by rw [(aliveK_len L ok _).2 l h, hf.2.2.2.1])).mp hg
    show _ ∈ (tabS L gs t).flatMap _
    refine List.mem_flatMap.mpr ⟨_, ih, ?_⟩
    refine List.mem_map.mpr ⟨g, List.mem_filter.mpr ⟨hp.mem_iff.mpr a, ?_⟩, by rw [List.reverse_cons]⟩
    rw [livAt_eq L ok hne ht]
    exact decide_eq_true b
theorem tabS_pre {L : LotD} (ok : L.ok) {gs : List (List Nat)} (hp : gs.Perm (lawSets L)) (hne : aliveK L L.circle ≠ []) : ∀ t, t + 1 ≤ L.circle → ∀ e ∈ tabS L gs (t + 1), ∃ g0 b c, Pre L g0 (t + 1) e.2 b c e.1.reverse
  | 0, ht, e, he => by
    obtain ⟨e0, h0, h1⟩ := List.mem_flatMap.mp he
    obtain ⟨g, hg, rfl⟩ := List.mem_map.mp h1
    obtain ⟨h2, h3⟩ := List.mem_filter.mp hg
    have h3 := of_decide_eq_true h3
    rw [livAt_eq L ok hne ht] at h3
    unfold tabS at h0
    split at h0
    · rw [List.mem_singleton] at h0
      subst h0
      exact ⟨g, g, 0, .one ((givens_iff (L := L) (zeroN_len _) (fun l h => by rw [(aliveK_len L ok _).2 l h, zeroN_len])).mpr ⟨hp.mem_iff.mp h2, h3⟩)⟩
    · cases h0
  | t + 1, ht, e, he => by
    obtain ⟨e0, h0, h1⟩ := List.mem_flatMap.mp he
    obtain ⟨g, hg, rfl⟩ := List.mem_map.mp h1
    obtain ⟨h2, h3⟩ := List.mem_filter.mp hg
    have h3 := of_decide_eq_true h3
    rw [livAt_eq L ok hne ht] at h3
    obtain ⟨g0, b, c, hpre⟩ := tabS_pre ok hp hne t (by omega) e0 h0
    have hf := hpre.facts ok
    refine ⟨g0, g, c + (newIn b g).length, ?_⟩
    show Pre L g0 (t + 1 + 1) (plusL e0.2 g) g _ (e0.1 ++ [g]).reverse
    rw [List.reverse_append]
    exact .step hpre (by omega) ((givens_iff (L := L) hf.2.2.2.1 (fun l h => by rw [(aliveK_len L ok _).2 l h, hf.2.2.2.1])).mpr ⟨hp.mem_iff.mp h2, by rw [Nat.sub_sub]; exact h3⟩)
theorem Pre.first {L : LotD} {g0 : List Nat} {t : Nat} {s b : List Nat} {c : Nat} {rows : List (List Nat)} (h : Pre L g0 t s b c rows) : g0 ∈ givensOf (zeroN L.parts.length) (aliveK L (L.circle - 1)) L.many := by
  induction h with
  | one hg => exact hg
  | step _ _ _ ih => exact ih
/-! ### starts -/
theorem getD_appL {α : Type} (l m : List α) (d : α) {n : Nat} (h : n < l.length) : (l ++ m).getD n d = l.getD n d := by
  rw [List.getD_eq_getElem?_getD, List.getD_eq_getElem?_getD, List.getElem?_append_left h]
theorem getD_appR {α : Type} (l m : List α) (d : α) {n : Nat} (h : l.length ≤ n) : (l ++ m).getD n d = m.getD (n - l.length) d := by
  rw [List.getD_eq_getElem?_getD, List.getD_eq_getElem?_getD, List.getElem?_append_right h]
def linkF (gs : List (List Nat)) : Nat := ((List.range (gs.length - 1)).map fun t => (newIn (gs.getD t []) (gs.getD (t + 1) [])).length).sum
theorem linkF_snoc (gs : List (List Nat)) (g b : List Nat) (h : gs.getLast? = some b) : linkF (gs ++ [g]) = linkF gs + (newIn b g).length := by
  cases hn : gs.length with
  | zero =>
    have : gs = [] := List.length_eq_zero_iff.mp hn
    subst this
    cases h
  | succ n =>
    unfold linkF
    have hb : gs.getD n [] = b := by
      rw [List.getLast?_eq_getElem?, hn] at h
      rw [List.getD_eq_getElem?_getD, show n = n + 1 - 1 from rfl, h]
      rfl
    rw [List.length_append, hn, show n + 1 + [g].length - 1 = n + 1 from rfl, show n + 1 - 1 = n from rfl, List.range_succ, List.map_append, List.sum_append]
    congr 1
    · congr 1
      refine List.map_congr_left fun t ht => ?_
      have ht := List.mem_range.mp ht
      rw [getD_appL _ _ _ (by omega), getD_appL _ _ _ (by omega)]
    · show (newIn ((gs ++ [g]).getD n []) ((gs ++ [g]).getD (n + 1) [])).length + 0 = _
      rw [getD_appL _ _ _ (by omega), getD_appR _ _ _ (by omega), hn, Nat.sub_self, hb]
      rfl
theorem startsL_link (gs : List (List Nat)) (g0 b : List Nat) (h0 : gs.head? = some g0) (h1 : gs.getLast? = some b) : startsL gs = linkF gs + (newIn b g0).length := by
  cases hn : gs.length with
  | zero =>
    have : gs = [] := List.length_eq_zero_iff.mp hn
    subst this
    cases h1
  | succ n =>
    unfold startsL linkF
    have hb : gs.getD n [] = b := by
      rw [List.getLast?_eq_getElem?, hn] at h1
      rw [List.getD_eq_getElem?_getD, show n = n + 1 - 1 from rfl, h1]
      rfl
    have ha : gs.getD 0 [] = g0 := by
      rw [List.head?_eq_getElem?] at h0
      rw [List.getD_eq_getElem?_getD, h0]
      rfl
    rw [hn, show n + 1 - 1 = n from rfl, List.range_succ_eq_map, List.map_cons, List.sum_cons, List.map_map, Nat.add_comm]
    congr 1
    unfold prevAt
    rw [if_pos rfl, hn, show n + 1 - 1 = n from rfl, hb, ha]
theorem Pre.links {L : LotD} {g0 : List Nat} {t : Nat} {s b : List Nat} {c : Nat} {rows : List (List Nat)} (h : Pre L g0 t s b c rows) : rows.reverse.head? = some g0 ∧ rows.reverse.getLast? = some b ∧ c = linkF rows.reverse := by
  induction h with
  | one hg => exact ⟨rfl, rfl, rfl⟩
  | step hpre ht hg ih =>
    rename_i t s b g c rows
    obtain ⟨i1, i2, i3⟩ := ih
    rw [List.reverse_cons]
    refine ⟨by rw [List.head?_append, i1]; rfl, by rw [List.getLast?_append]; rfl, ?_⟩
    rw [linkF_snoc _ _ _ i2, i3]
theorem tab_starts {L : LotD} {g0 : List Nat} {c : Nat} {rows : List (List Nat)} (h : Tab L g0 c rows) : c = startsL rows.reverse := by
  obtain ⟨s, b, c0, _, hp, rfl⟩ := h
  obtain ⟨h1, h2, h3⟩ := hp.links
  rw [startsL_link _ _ _ h1 h2, h3]
theorem tab_in {L : LotD} (ok : L.ok) {gs : List (List Nat)} (hp : gs.Perm (lawSets L)) (hne : aliveK L L.circle ≠ []) {g0 : List Nat} {c : Nat} {rows : List (List Nat)} (h : Tab L g0 c rows) : ∃ e ∈ tabS L gs L.circle, startsL e.1 = c := by
  obtain ⟨s, b, c0, _, hpre, _⟩ := id h
  exact ⟨_, pre_tabS ok hp hne hpre, (tab_starts h).symm⟩
theorem in_tab {L : LotD} (ok : L.ok) {gs : List (List Nat)} (hp : gs.Perm (lawSets L)) (hne : aliveK L L.circle ≠ []) {e : Ent} (h : e ∈ tabS L gs L.circle) : ∃ g0, Tab L g0 (startsL e.1) e.1.reverse := by
  have h1 := ok.2.2.2.2.2.1
  obtain ⟨k, hk⟩ : ∃ k, L.circle = k + 1 := ⟨L.circle - 1, by omega⟩
  obtain ⟨g0, b, c, hpre⟩ := tabS_pre ok hp hne k (by omega) e (by rw [← hk]; exact h)
  rw [← hk] at hpre
  have ht : Tab L g0 (c + (newIn b g0).length) e.1.reverse := ⟨_, _, _, hpre.first, hpre, rfl⟩
  refine ⟨g0, ?_⟩
  have := tab_starts ht
  rw [List.reverse_reverse] at this
  rw [← this]
  exact ht
/-! ### a table is right -/
def runN (n : Nat) (gs : List (List Nat)) (t : Nat) : List Nat := (gs.take t).foldl plusL (zeroN n)
theorem runN_succ {n : Nat} {gs : List (List Nat)} {t : Nat} {g : List Nat} (h : gs[t]? = some g) : runN n gs (t + 1) = plusL (runN n gs t) g := foldl_take_succ _ _ _ h
theorem stands_near (parts : List (Nat × Nat)) (t : Nat) (h : ∀ p ∈ parts, 0 < p.2) : ∀ i, i ≤ parts.length → ∀ s ∈ (parts.take i).foldl (standsStep t) [[]], s.length = i ∧ ∀ j, j < i → nearB (parts.getD j (0, 0)) (s.getD j 0) t = true
  | 0, _, s, hs => by
    rw [List.take_zero, List.foldl_nil, List.mem_singleton] at hs
    subst hs
    exact ⟨rfl, fun j hj => absurd hj (Nat.not_lt_zero _)⟩
  | i + 1, hi, s, hs => by
    have hg : parts[i]? = some parts[i] := List.getElem?_eq_getElem hi
    have hp := h _ (List.mem_of_getElem? hg)
    rw [foldl_take_succ _ _ _ hg] at hs
    obtain ⟨u, hu, hs⟩ := List.mem_flatMap.mp hs
    obtain ⟨j, hj, rfl⟩ := List.mem_map.mp hs
    obtain ⟨i1, i2⟩ := stands_near parts t h i (Nat.le_of_succ_le hi) u hu
    have hj := List.mem_range.mp hj
    refine ⟨by rw [List.length_append, i1]; rfl, fun k hk => ?_⟩
    by_cases hki : k < i
    · rw [getD_appL _ _ _ (by omega)]
      exact i2 k hki
    · obtain rfl : k = i := by omega
      rw [getD_appR _ _ _ (by omega), i1, Nat.sub_self]
      have e : parts.getD k (0, 0) = parts[k] := by
        rw [List.getD_eq_getElem?_getD, hg]
        rfl
      rw [e]
      show nearB parts[k] (lowN parts[k] t + j) t = true
      obtain ⟨c1, c2⟩ := high_cases parts[k] t hp
      by_cases hj0 : j = 0
      · subst hj0
        exact near_low _ _ hp
      · obtain rfl : j = 1 := by omega
        rw [near_low1 _ _ hp]
        exact decide_eq_true (Nat.le_antisymm c2 (by omega))
theorem stands_kept {L : LotD} (ok : L.ok) {t : Nat} {s : List Nat} (h : s ∈ standsAt L.parts t) : keptB L.parts s t = true := by
  have hp0 : ∀ p ∈ L.parts, 0 < p.2 := fun p hp => by have := ok.2.2.2.2.1 p hp; omega
  have q := stands_near L.parts t hp0 L.parts.length (Nat.le_refl _) s (by rw [List.take_length]; exact h)
  exact List.all_eq_true.mpr fun i hi => q.2 i (by have := List.mem_range.mp hi; omega)
theorem alive_stands {L : LotD} {k : Nat} {s : List Nat} (h : s ∈ aliveK L k) : s ∈ standsAt L.parts (L.circle - k) := by
  cases k with
  | zero => exact h
  | succ k => exact (List.mem_filter.mp h).1
theorem Pre.right {L : LotD} (ok : L.ok) {g0 : List Nat} {t : Nat} {s b : List Nat} {c : Nat} {rows : List (List Nat)} (h : Pre L g0 t s b c rows) : runN L.parts.length rows.reverse t = s ∧ (∀ g ∈ rows, g ∈ lawSets L) ∧ ∀ i, i < t → keptB L.parts (runN L.parts.length rows.reverse (i + 1)) (i + 1) = true := by
  induction h with
  | one hg =>
    have h1 := ok.2.2.2.2.2.1
    obtain ⟨a, b⟩ := (givens_iff (L := L) (zeroN_len _) (fun l h => by rw [(aliveK_len L ok _).2 l h, zeroN_len])).mp hg
    refine ⟨rfl, fun g hg => by rw [List.mem_singleton] at hg; subst hg; exact a, fun i hi => ?_⟩
    obtain rfl : i = 0 := by omega
    have q := alive_stands b
    rw [show L.circle - (L.circle - 1) = 1 by omega] at q
    exact stands_kept ok q
  | step hpre ht hg ih =>
    rename_i t s b g c rows
    obtain ⟨i1, i2, i3⟩ := ih
    have hf := hpre.facts ok
    have hlen := hf.2.2.2.2.2.2.2.1
    obtain ⟨a, b⟩ := (givens_iff (L := L) hf.2.2.2.1 (fun l h => by rw [(aliveK_len L ok _).2 l h, hf.2.2.2.1])).mp hg
    have tk : ∀ i, i ≤ t → runN L.parts.length (g :: rows).reverse i = runN L.parts.length rows.reverse i := fun i hi => by
      unfold runN
      rw [List.reverse_cons, List.take_append_of_le_length (by rw [List.length_reverse]; omega)]
    have e1 : runN L.parts.length (g :: rows).reverse (t + 1) = plusL s g := by
      rw [runN_succ (g := g), tk t (Nat.le_refl _), i1]
      rw [List.reverse_cons, List.getElem?_append_right (by rw [List.length_reverse]; omega), List.length_reverse, hlen, Nat.sub_self]
      rfl
    refine ⟨e1, fun g' hg' => ?_, fun i hi => ?_⟩
    · rcases List.mem_cons.mp hg' with rfl | h
      · exact a
      · exact i2 g' h
    · by_cases hit : i < t
      · rw [tk (i + 1) hit]
        exact i3 i hit
      · obtain rfl : i = t := by omega
        rw [e1]
        have q := alive_stands b
        rw [show L.circle - (L.circle - i - 1) = i + 1 by omega] at q
        exact stands_kept ok q
/-- what is asked of a table -/
def RightT (L : LotD) (gs : List (List Nat)) : Prop := gs.length = L.circle ∧ (∀ g ∈ gs, g ∈ lawSets L) ∧ ∀ i, i < L.circle → keptB L.parts (runN L.parts.length gs (i + 1)) (i + 1) = true
theorem tab_right {L : LotD} (ok : L.ok) {g0 : List Nat} {c : Nat} {rows : List (List Nat)} (h : Tab L g0 c rows) : RightT L rows.reverse := by
  obtain ⟨s, b, c0, _, hp, _⟩ := h
  obtain ⟨h1, h2, h3⟩ := hp.right ok
  exact ⟨by rw [List.length_reverse]; exact (hp.facts ok).2.2.2.2.2.2.2.1, fun g hg => h2 g (List.mem_reverse.mp hg), h3⟩
end TS
/-! ## G1 -/
/-! defs that are called from where no repr is under way (repr asks the stack) -/
namespace TS
open PySem PySem.Spec PyProof.Rows LamX L2
section
variable {P : Program} {w : World} {K : PySem.W.Frag} {mg : Str → Option Value} {base : Heap}
/-- as FnOk, where no guard stands -/
structure FnG (P : Program) (w : World) (K : PySem.W.Frag) (mg : Str → Option Value) (base : Heap) (k : Nat) (f : Addr) (fd : FuncData) (ps : List Str) (sp : Sp) : Prop where
  len : ∀ (vs : List V) (H : Hp) (Q : VK) (E : XK), sp vs H Q E → vs.length = ps.length
  run : ∀ (A : Around) (out : List Env) (s : Shared) (H : Hp) (args : Args) (us : List Value) (vs : List V) (Q : VK) (E : XK), A.guards = some [] → Room k A → Env0 P w K mg base A out s H → BindsTo s fd args (ps.zip us) → Vals vs us → sp vs H Q E →
    codeAny (model P w) A (.call (.ref f) args) (CR C8.CX0 out P w H s Q E) s
structure CalG (P : Program) (w : World) (K : PySem.W.Frag) (mg : Str → Option Value) (base : Heap) (k : Nat) (x : Str) (sp : Sp) : Prop where
  ex : ∃ (f : Addr) (fd : FuncData) (ps : List Str), FnG P w K mg base k f fd ps sp ∧ mg x = some (.ref f) ∧ PySem.W.keepIn K (.ref f) = true ∧ Binds K fd ps []
theorem fnG_of {x : Str} {st : Stmt} {N ps : List Str} {k : Nat} {sp : Sp} {f : Addr} {fd : FuncData} (F : FunD K x x (defArgs st) (defBody st) (defScope st) [] [] f fd) (S : FnScope N ps (defScope st)) (len : ∀ vs H Q E, sp vs H Q E → vs.length = ps.length)
    (hbody : ∀ (cdv : Value) (A : Around) (outer : List Env) (s : Shared) (H : Hp) (vs : List V) (Q : VK) (E : XK), A.guards = some [] → Room k (A.deeper (envOfC x (defScope st) s.heap.objs.size f cdv)) → sp vs H Q E →
      wS (cxD P w K mg base N x st f cdv A outer s H E) (defBody st) { nx := fun _ H' => Q .non H', rt := Q } (start N vs) H) : FnG P w K mg base (k + 1) f fd ps sp := by
  obtain ⟨oc, od, dV, kV, doc, pm, an, cdv, ct, osl, e, lk, hcd, _, _⟩ := F.ex
  subst e
  refine ⟨len, fun A out s H args us vs Q E hgd hr e0 hb rv hsp => ?_⟩
  have up : ∀ b o, base.get? b = some o → s.heap.get? b = some o := fun b o z => (e0.bs b o z).1
  have KX := e0.mod.kin.keeps up
  refine codeAny_call_function hr.depth (KX _ _ lk) rfl S.co S.gen rfl (PySem.W.codeRec_of KX hcd) (hb _ _ _ _ (wpAny_newFunctionEnv_cells S.kind (fun ⟨n, v⟩ hy => ?_) fun env he s1 xc => ?_))
  · exact (S.par n (List.of_mem_zip hy).1).elim .inl fun q => .inr ⟨q, PySem.W.cellsFrom_some _ _ _ (.inl q)⟩
  · subst he
    refine ⟨(e0.mod.nolimit.keeps up).keeps xc.toInCall.keep, codeAny_func ?_⟩
    have I := inv_start (CX := C8.CX0) (N := N) (qual := x) (f := f) (cd := cdv) (E := E) S hr.hd e0 (len _ _ _ _ hsp) rv xc
    have ht := (ps_w (X := cxD P w K mg base N x st f cdv A out s H E) (sts := defBody st)).nox
    refine wpAny_mono (ht.run [] s1 (start N vs) H _ I (hbody cdv A out s H vs Q E hgd (hr.deeper _) hsp)) (fun fl s' hs => ?_) fun _ _ hs => hs
    match fl, hs with
    | .ret u, ⟨v, σ', H', J, rv', q⟩ => exact ⟨v, H', J.os, J.bare, J.base, J.hok, rv', q⟩
    | .next, ⟨σ', H', J, q⟩ => exact ⟨V.non, H', J.os, J.bare, J.base, J.hok, (rfl : RelV V.non Value.none), q⟩
    | .brk, ⟨_, _, _, q⟩ => exact q.elim
    | .cont, ⟨_, _, _, q⟩ => exact q.elim
theorem calG_mk {x : Str} {st : Stmt} {N ps : List Str} {k : Nat} {sp : Sp} (F : DefN K mg x st ps) (S : FnScope N ps (defScope st)) (len : ∀ vs H Q E, sp vs H Q E → vs.length = ps.length)
    (hbody : ∀ (f : Addr) (cdv : Value) (A : Around) (outer : List Env) (s : Shared) (H : Hp) (vs : List V) (Q : VK) (E : XK), A.guards = some [] → Room k (A.deeper (envOfC x (defScope st) s.heap.objs.size f cdv)) → sp vs H Q E →
      wS (cxD P w K mg base N x st f cdv A outer s H E) (defBody st) { nx := fun _ H' => Q .non H', rt := Q } (start N vs) H) : CalG P w K mg base (k + 1) x sp := by
  obtain ⟨f, fd, F, hm, hb⟩ := F.ex
  exact ⟨f, fd, ps, fnG_of F S len (hbody f), hm, F.kp, hb⟩
end
section
variable {X : Cx} {T : List (Addr × Str)} {e : Expr} {es : List Expr} {σ : L2.St} {H : Hp} {R : RT} {pos : Pos}
theorem pe_cG {n : Str} {p : Pos} {sp : Sp} {kk jj : Nat} (cl : CalG X.prog X.w X.K X.mg X.base kk n sp) (hgd : X.A.guards = some []) (hr : Room jj X.A) (hk : kk ≤ jj) (hg : Gl X n) {t : TA} (ha : PA X (e :: es) t) (hdb : (n == ("__debug__" : Str)) = false := by decide)
    (he : starEach (e :: es) X.env = (false, eval e X.env) :: starEach es X.env := by rfl) (hpl : (backTo pos (starEach es X.env)).any (·.1) = false := by rfl) : PE X (.Call (.Name n p) (e :: es) [] pos) (tCall sp [] C8.E0 t) := by
  obtain ⟨f, fd, ps, F, hm, kp, b⟩ := cl.ex
  refine ⟨fun pins s σ H Q I h => wpAny_Call_Name_kw (ld_glob I hg hm (PySem.W.callWith_K (h₀ := X.base) I.ok.mod.kin kp (thn (ha.run pos pins s σ H _ I h) fun us s1 ⟨vs, H1, I1, r, q⟩ => ⟨I1.kIn, ?_⟩) he hpl) hdb)⟩
  have q : sp (vs ++ []) H1 Q C8.E0 := q
  rw [List.append_nil] at q
  have hl : us.length = ps.length := by rw [← r.length]; exact F.len _ _ _ _ q
  have hb := b s1 us I1.kIn (by rw [List.append_nil]; exact hl)
  rw [List.append_nil] at hb
  refine wpAny_call (codeAny_mono (F.run X.A X.stack s1 H1 ⟨us, []⟩ us vs Q C8.E0 hgd (hr.mono hk) I1.env0 hb r q) fun r s' hq => ?_)
  match r, hq with
  | .error z, hq => exact C8.pass0 (E := C8.E0) pins σ H1 s1 z s' I1 hq
  | .ok (.ret u), hq => exact I1.after hq
  | .ok .next, hq => exact hq.elim
  | .ok .brk, hq => exact hq.elim
  | .ok .cont, hq => exact hq.elim
theorem ev_callGd [Anti R] {n : Str} {p : Pos} {vs : List V} {sp : Sp} {kk jj : Nat} (cl : CalG X.prog X.w X.K X.mg X.base kk n sp) (hgd : X.A.guards = some []) (hr : Room jj X.A) (hk : kk ≤ jj) (ha : EvA X (e :: es) σ H vs)
    (h : ∀ H1, Ex H H1 → ∀ Q : VK, (∀ v H2, Ex H1 H2 → R H1 v H2 → Q v H2) → sp vs H1 Q C8.E0) (hg : Gl X n := by rfl) (hdb : (n == ("__debug__" : Str)) = false := by decide)
    (he : starEach (e :: es) X.env = (false, eval e X.env) :: starEach es X.env := by rfl) (hpl : (backTo pos (starEach es X.env)).any (·.1) = false := by rfl) : Ev X (.Call (.Name n p) (e :: es) [] pos) σ H R := fun H1 e1 Q q =>
  wE_of (pe_cG cl hgd hr hk hg pa_w hdb he hpl) (ha H1 e1 _ fun H2 e2 => by
    show sp (vs ++ []) H2 Q C8.E0
    rw [List.append_nil]
    exact h H2 (e1.trans e2) Q fun v H3 e3 r3 => q v H3 (e2.trans e3) (Anti.anti H1 H2 v H3 e2 r3))
theorem evN_callGd {n : Str} {p : Pos} {R2 : RT} {R1 : RT} {sp : Sp} {kk jj : Nat} (cl : CalG X.prog X.w X.K X.mg X.base kk n sp) (hgd : X.A.guards = some []) (hr : Room jj X.A) (hk : kk ≤ jj) (ha : Ev X e σ (noT H) R1)
    (hR : ∀ Ha Hb v Hc, Ex Ha Hb → R2 Hb v Hc → R2 Ha v Hc) (h : ∀ H0 x H1, ExtN H H0 → Ex H0 H1 → R1 H0 x H1 → Tabs T H1 → ∀ Q : VK, (∀ v H2, ExtN H1 H2 → Tabs T H2 → R2 H1 v H2 → Q v H2) → sp [x] H1 Q C8.E0) (hg : Gl X n := by rfl) (hdb : (n == ("__debug__" : Str)) = false := by decide)
    (he : starEach (e :: []) X.env = (false, eval e X.env) :: starEach [] X.env := by rfl) : EvN T X (.Call (.Name n p) [e] [] pos) σ H R2 := fun H1 e1 t1 Q q =>
  wE_of (pe_cG cl hgd hr hk hg pa_w hdb he rfl) (eg_one ha he H1 (exN_no e1) _ fun vs H2 e2 ⟨v, ev, Hm, em, rv, eHm⟩ => by
    subst ev eHm
    show sp ([v] ++ []) Hm Q C8.E0
    exact h H1 v Hm e1 e2 rv (t1.ext e2) Q fun v H3 e3 t3 r3 => q v H3 ((ExtN.of e2).trans e3) t3 (hR _ _ _ _ e2 r3))
end
end TS
/-! ## G2 -/
/-! the law's end: tables of code objects, no guard -/
namespace TS
open PySem PySem.Spec PyProof.Rows LamX L2
section
variable {P : Program} {w : World} {K : PySem.W.Frag} {mg mb : Str → Option Value} {k : Nat} {fa a : Addr} {cs : List (Addr × Addr)} {fd : FuncData} {x : Str} {sp : Sp} {s1 : Shared} {vs : List Value} {ns : List Int}
abbrev listO (vs : List Value) : Obj := { cls := .type "list", data := .seq vs.toArray }
abbrev tabO : Obj := { cls := .none, data := .fields #[] }
abbrev LawEnd (s1 : Shared) (r : Result) (s' : Shared) : Prop := r = .ok (.ret (.bool true)) ∧ OldK s1.heap s'.heap ∧ s'.os = s1.os ∧ AllBare s'.gens
/-- what the heap of the start tells: empty tables, the script -/
def StartH (K : PySem.W.Frag) (cs : List (Addr × Addr)) (a : Addr) (vs : List Value) (ns : List Int) (H : Hp) : Prop := ∀ b u, H b = some u → (u = .tbl #[] ∧ ∃ p ∈ cs, b = p.2) ∨ (u = .frz (listO vs) (.lst (ns.map V.int)) ∧ b = a ∧ K.lookup a = none)
theorem law_from {H : Hp} (hH : StartH K cs a vs ns H) (hHt : ∀ p ∈ cs, H p.2 = some (.tbl #[])) (hS : SqL K H a (ns.map V.int))
    (KX : K.In s1.heap) (hns : s1.heap.Ns mainGlobals mg) (hb : s1.heap.Ns builtinsNs mb) (hbb : ∀ x : Str, x ≠ "__name__" → mb x = bootBuiltins x) (hlim : s1.heap.NoLimit) (hg : s1.gens = #[])
    (hT : ∀ p ∈ cs, s1.heap.get? p.2 = some tabO) (nT : ∀ p ∈ cs, K.lookup p.2 = none) (C : ∀ p ∈ cs, PySem.W.CodeHd s1.heap p.1 p.2)
    (hbm : ∃ (bm : Addr) (ob : Obj), mg "__builtins__" = some (.ref bm) ∧ bm ≠ builtinsNs ∧ s1.heap.get? bm = some ob ∧ ob.cls = .type "module" ∧ ob.dict = some builtinsNs ∧ ob.data = .plain)
    (ha : s1.heap.get? a = some (listO vs)) (hi : IntsAre vs ns) (hl : ns.length ≤ sizeLine) (hr : Room k callerA)
    (F : ∀ base : Heap, K.In base → base.Ns mainGlobals mg → (∀ p ∈ cs, TabB base mg p.1 p.2) → FnG P w K mg base k fa fd [x] sp) (hbind : ∀ (s : Shared) (u : Value), BindsTo s fd ⟨[u], []⟩ [(x, u)])
    (hsp : sp [.ref a] H (fun v _ => v = .bl true) fun _ _ _ => False) : codeAny (model P w) callerA (.call (.ref fa) ⟨[.ref a], []⟩) (LawEnd s1) s1 := by
  have hok : HOk P w H s1.heap := fun b u q => by
    rcases hH b u q with ⟨rfl, p, hp, rfl⟩ | ⟨rfl, rfl, _⟩
    · exact hT p hp
    · exact ⟨ha, Nat.le_trans (Nat.le_of_eq (List.length_map ..)) hl, vs, _, vals_ints hi, ha⟩
  -- what is neither a list nor an empty table is not tracked
  have free : ∀ (b : Addr) (o : Obj), s1.heap.get? b = some o → (∀ us n, o.data ≠ .seq us n) → o.data ≠ .fields #[] → H b = none := fun b o e n1 n2 => by
    cases q : H b with
    | none => rfl
    | some u =>
      rcases hH b u q with ⟨_, p, hp, rfl⟩ | ⟨_, rfl, _⟩
      · cases e.symm.trans (hT p hp); exact absurd rfl n2
      · cases e.symm.trans ha; exact absurd rfl (n1 _ _)
  have stay : ∀ (b : Addr) (o : Obj), s1.heap.get? b = some o → (∀ us n, o.data ≠ .seq us n) → o.data ≠ .fields #[] → (hidT s1.heap H).get? b = some o := fun b o e n1 n2 => hidT_get e (free b o e n1 n2)
  have nsB : ∀ (b : Addr) (m : Str → Option Value), s1.heap.Ns b m → (hidT s1.heap H).Ns b m := fun b m z => by
    obtain ⟨o, es, ep, e, hd, r⟩ := z
    exact ⟨o, es, ep, stay b o e (fun us n z => by rw [hd] at z; cases z) (fun z => by rw [hd] at z; cases z), hd, r⟩
  have KB : K.In (hidT s1.heap H) := fun b o e => hidT_get (KX b o e) (by
    cases q : H b with
    | none => rfl
    | some u =>
      rcases hH b u q with ⟨_, p, hp, rfl⟩ | ⟨_, rfl, n⟩
      · cases e.symm.trans (nT p hp)
      · cases e.symm.trans n)
  have MB : L2.Mod K mg (hidT s1.heap H) := by
    obtain ⟨mc, c1, c2⟩ := hlim
    exact ⟨KB, nsB _ _ hns, ⟨mb, nsB _ _ hb, hbb⟩, ⟨mc, nsB _ _ c1, c2⟩⟩
  have TB : ∀ p ∈ cs, TabB (hidT s1.heap H) mg p.1 p.2 := fun p hp => by
    refine ⟨?_, ?_, fun z => ?_⟩
    · have q := C p hp
      obtain ⟨o, us, file, tf, flags, tg, inF, text, tt, e1, r1, r2, r3, r4⟩ := q
      exact ⟨o, us, file, tf, flags, tg, inF, text, tt, stay _ _ e1 (fun _ _ z => by rw [r2] at z; cases z) (fun z => by rw [r2] at z; cases z; simp at r3), r1, r2, r3, r4⟩
    · obtain ⟨bm, ob, b1, b2, b3, q⟩ := hbm
      obtain ⟨b4, b5, b6⟩ := q
      refine ⟨bm, ob, b1, b2, fun z => ?_, fun z => ?_, stay _ _ b3 (fun _ _ z => by rw [b6] at z; cases z) (fun z => by rw [b6] at z; cases z), b4, b5, b6⟩
      · obtain ⟨_, es, ep, e, hd, _⟩ := hns
        rw [z, e] at b3
        cases b3
        rw [hd] at b6
        cases b6
      · rw [z, hT p hp] at b3
        cases b3
        cases b6
    · obtain ⟨_, es, ep, e, hd, _⟩ := hns
      rw [z, hT p hp] at e
      cases e
      cases hd
  have E0 : Env0 P w K mg (hidT s1.heap H) callerA [] s1 H := ⟨rfl, MB, fun _ _ e => of_hidT e, Nat.le_of_eq (hidT_size _ _), trivial, fun _ z => (List.not_mem_nil z).elim, hok, .of_eq hg⟩
  refine codeAny_mono ((F _ KB (nsB _ _ hns) TB).run callerA [] s1 H _ [.ref a] [.ref a] _ _ rfl hr E0 (hbind s1 (.ref a)) (.cons rfl .nil) hsp) fun r s' h => ?_
  match r, h with
  | .error _, h => exact h.elim
  | .ok .next, h => exact h.elim
  | .ok .brk, h => exact h.elim
  | .ok .cont, h => exact h.elim
  | .ok (.ret u), ⟨v, H', os, bare, un, hok', r', q⟩ =>
    obtain rfl : v = .bl true := q
    cases (show u = Value.bool true from r')
    have more : ∀ p ∈ cs, ∃ ms : Array Value, s'.heap.get? p.2 = some { cls := .none, data := .fields ms } := fun p hp => by
      obtain ⟨ms, z⟩ := un.tbls p.2 #[] (hHt p hp)
      exact ⟨_, hok' p.2 _ z⟩
    have same : ∀ b o, (∀ p ∈ cs, b ≠ p.2) → s1.heap.get? b = some o → s'.heap.get? b = some o := fun b o nb e => by
      cases q : H b with
      | none => exact un.keep b o e q (fun z => (List.not_mem_nil z).elim) (fun z => (List.not_mem_nil z).elim)
      | some u =>
        rcases hH b u q with ⟨_, p, hp, z⟩ | ⟨rfl, rfl, _⟩
        · exact absurd z (nb p hp)
        · obtain ⟨e1, _⟩ := hok b _ q
          obtain ⟨e2, _⟩ := hok' b _ (un.frzs b _ _ q)
          cases e.symm.trans e1
          exact e2
    refine ⟨rfl, ⟨fun b o (e : s1.heap.get? b = some o) => ?_, fun b o e => ?_⟩, os, bare⟩
    · by_cases hb : ∃ p ∈ cs, b = p.2
      · obtain ⟨p, hp, rfl⟩ := hb
        obtain ⟨ms, hm⟩ := more p hp
        cases e.symm.trans (hT p hp)
        exact .inr (.inl ⟨((C p hp).tab (hT p hp)).isCodeTable, rfl, #[], ms, rfl, by rw [Array.empty_append]; exact hm⟩)
      · exact .inl (same b o (fun p hp z => hb ⟨p, hp, z⟩) e)
    · by_cases hb : ∃ p ∈ cs, b = p.2
      · obtain ⟨p, hp, rfl⟩ := hb
        exact let ⟨ms, hm⟩ := more p hp; ⟨_, hm⟩
      · exact ⟨o, same b o (fun p hp z => hb ⟨p, hp, z⟩) e⟩
def tabsH (cs : List (Addr × Addr)) : Hp := fun b => if ∃ p ∈ cs, b = p.2 then some (.tbl #[]) else none
theorem law_start (KX : K.In s1.heap) (hT : ∀ p ∈ cs, s1.heap.get? p.2 = some tabO) (ha : s1.heap.get? a = some (listO vs)) (hi : IntsAre vs ns) (hl : ns.length ≤ sizeLine) : ∃ H : Hp, StartH K cs a vs ns H ∧ (∀ p ∈ cs, H p.2 = some (.tbl #[])) ∧ SqL K H a (ns.map V.int) := by
  have tb : ∀ p ∈ cs, tabsH cs p.2 = some (.tbl #[]) := fun p hp => if_pos ⟨p, hp, rfl⟩
  have ot : ∀ b u, tabsH cs b = some u → u = .tbl #[] ∧ ∃ p ∈ cs, b = p.2 := fun b u z => by
    by_cases hb : ∃ p ∈ cs, b = p.2
    · exact ⟨(Option.some.inj ((if_pos hb).symm.trans z)).symm, hb⟩
    · cases (if_neg hb).symm.trans z
  have na : ∀ p ∈ cs, p.2 ≠ a := fun p hp z => by
    have q := hT p hp
    rw [z, ha] at q
    cases congrArg Obj.data (Option.some.inj q)
  cases hk : K.lookup a with
  | some o =>
    have e := KX a o hk
    rw [ha] at e
    cases e
    exact ⟨tabsH cs, fun b u z => .inl (ot b u z), tb, .inr ⟨_, vs.toArray, _, hk, rfl, rfl, rfl, by rw [List.size_toArray, hi.length]; exact hl, by simpa using vals_ints hi⟩⟩
  | none =>
    refine ⟨upd (tabsH cs) a (.frz (listO vs) (.lst (ns.map V.int))), fun b u z => ?_, fun p hp => by rw [upd_ne (na p hp)]; exact tb p hp, .inl (.inr ⟨listO vs, upd_same⟩)⟩
    by_cases hba : b = a
    · subst hba
      rw [upd_same] at z
      exact .inr ⟨(Option.some.inj z).symm, rfl, hk⟩
    · rw [upd_ne hba] at z
      exact .inl (ot b u z)
end
theorem walk_ofG {l : PySem.W.OpenLaw} {n k : Nat} {q : Program} {loose : List Str} {XP : (Str → Option Value) → Heap → Prop} {YP : World → Heap → Prop} {d : DefRec} {x : Str}
    (hn : l.most = some n) (hn2 : n ≤ sizeLine) (hr : Room k callerA) (hdf : d.params.defaults = [])
    (F : ∀ (w : World) (mg : Str → Option Value) (fa : Addr) (h : Heap), YP w h → h.Ns mainGlobals mg → mg d.name = some (.ref fa) → ∃ (K : PySem.W.Frag) (fd : FuncData) (cs : List (Addr × Addr)) (sp : Sp), K.In h ∧ (∀ p ∈ cs, h.get? p.2 = some tabO) ∧ (∀ p ∈ cs, K.lookup p.2 = none) ∧ (∀ p ∈ cs, PySem.W.CodeHd h p.1 p.2) ∧ (∀ (s : Shared) (u : Value), BindsTo s fd ⟨[u], []⟩ [(x, u)]) ∧
      (∀ (H : Hp) (a : Addr) (ns : List Int), ns.length ≤ n → (∀ p ∈ cs, H p.2 = some (.tbl #[])) → SqL K H a (ns.map V.int) → sp [.ref a] H (fun v _ => v = .bl true) fun _ _ _ => False) ∧
      ∀ base : Heap, K.In base → base.Ns mainGlobals mg → (∀ p ∈ cs, TabB base mg p.1 p.2) → FnG l.prog w K mg base k fa fd [x] sp) :
    PySem.W.WalkO q loose XP YP l.row.toRowW d [] fun g us => PySem.call g us := by
  refine Att.attach_call hn hdf fun w s0 s1 mg mb fa o pm cd doc a vs ns G Y ho hd hcd hmg hobj hints hlen hg => ?_
  obtain ⟨K, fd, cs, sp, KX, hT, nT, C, hbind, hsp, hF⟩ := F w mg fa _ Y G.T.g hmg
  obtain ⟨H, hH, hHt, hS⟩ := law_start KX hT hobj hints (Nat.le_trans hlen hn2)
  exact law_from hH hHt hS KX G.T.g G.T.b G.T.builtins G.T.nolimit hg hT nT C G.T.bmain hobj hints (Nat.le_trans hlen hn2) hr hF hbind (hsp H a ns hlen hHt hS)
end TS
/-! ## G3 -/
/-! repr of a tuple of whole numbers; _law_is_right -/
namespace TS
open PySem PySem.Spec PyProof.Rows L2
def tupD (ns : List Nat) : PyData := .tuple (ns.map fun n => .int (n : Nat))
def shownT (ns : List Nat) : Str := (tupD ns).shown
theorem small_sets : ∀ n, n < 4 → ∀ g ∈ setsN n, (tupD g).showable = true ∧ (tupD g).hasDict = false ∧ (tupD g).depth ≤ 8 ∧ (shownT g).length ≤ 1000 ∧ SeqAt.shaped (tupD g) = true ∧ (PyData.eqv (tupD g) (tupD g)) = true := by
  decide +kernel
theorem lawSet_small {L : LotD} (ok : L.ok) {g : List Nat} (h : g ∈ lawSets L) : (tupD g).showable = true ∧ (tupD g).hasDict = false ∧ (tupD g).depth ≤ 8 ∧ (shownT g).length ≤ 1000 ∧ SeqAt.shaped (tupD g) = true ∧ (PyData.eqv (tupD g) (tupD g)) = true :=
  small_sets L.parts.length (by have := ok.2.2.2.1; omega) g (List.mem_filter.mp h).1
theorem reads_ints {h : Heap} : ∀ {ns : List Nat} {us : List Value}, Vals (nums ns) us → ReadsAll h us (ns.map fun n => PyData.int (n : Nat)) []
  | [], _, r => by cases r; exact .nil
  | n :: ns, _, r => by
    cases r with
    | cons r1 r2 =>
      obtain ⟨t, rfl⟩ := r1
      exact ReadsAll.cons (as := []) (bs := []) (.int _ t) (reads_ints r2)
section
variable {X : Cx} {σ : L2.St} {H : Hp} {a b e : Expr} {pos : Pos} {x y : V} {k : Bool}
theorem call_reprT (hgd : X.A.guards = some []) (hu : X.A.units + 64 < cLine) : CallR X (.builtin "repr") (fun xs H Q => ∃ (v : V) (ns : List Nat), xs = [v] ∧ TI ns v H ∧ (tupD ns).showable = true ∧ (tupD ns).hasDict = false ∧ (tupD ns).depth ≤ 8 ∧ (shownT ns).length ≤ 1000 ∧ Q (.str (shownT ns)) H) := by
  rintro pins s σ H _ us Q I r ⟨v, ns, rfl, ⟨p, rfl, hp⟩, h1, h2, h3, h4, q⟩
  obtain ⟨_, rfl, ru⟩ := vals1 r
  cases ru
  obtain ⟨its, rv, ⟨o, e1, e2, n, e3⟩, _⟩ := I.tuple (SqT.of hp)
  refine repr_of_reads' (h₀ := s.heap) (d := tupD ns) (as := []) (.tuple e1 e2 e3 (by simpa using reads_ints rv)) h1 (fun z => by rw [h2] at z; cases z) hgd (by omega) (fun _ _ z => z) (fun h' tk t kp => ⟨.str (shownT ns), H, I.kept kp, ⟨_, rfl⟩, q⟩) ?_
  exact sz_of (Nat.le_trans h4 (by decide))
theorem ev_reprT {ns : List Nat} {pn : Pos} (hgd : X.A.guards = some []) (hu : X.A.units + 64 < cLine) (ha : Ev X e σ H (is x)) (hx : TI ns x H) (h1 : (tupD ns).showable = true) (h2 : (tupD ns).hasDict = false) (h3 : (tupD ns).depth ≤ 8) (h4 : (shownT ns).length ≤ 1000) (hm : X.mg "repr" = none) (hg : Gl X "repr" := by rfl)
    (hs : starEach [e] X.env = (false, eval e X.env) :: starEach [] X.env := by rfl) : Ev X (.Call (.Name "repr" pn) [e] [] pos) σ H (is (.str (shownT ns))) :=
  ev_callB (R := is (.str (shownT ns))) (call_reprT hgd hu) hm (by decide +kernel) (ea_cons ha ea_nil hs) (fun H1 e1 Q q => ⟨x, ns, rfl, hx.ex e1, h1, h2, h3, h4, q _ H1 (Ex.refl _) rfl⟩) hg (by decide) (by decide) hs rfl
/-- x not in a list of tuples that holds it -/
theorem et_notInT {g : List Nat} {gs : List (List Nat)} {us : List V} {l : Addr} (hu : X.A.units + 65 < cLine) (ha : Ev X a σ H (is x)) (hx : TI g x H) (hb : Ev X b σ H (is (.ref l))) (hl : H l = some (.lst us)) (hw : TIs gs us H) (hmem : g ∈ gs) (hsh : SeqAt.shaped (tupD g) = true) (hself : PyData.eqv (tupD g) (tupD g) = true) (hm : behindInMarks .NotIn b = false := by rfl) : EvT X (.Compare a [.NotIn] [b] pos) σ H false :=
  et_cmp (op_notInD hu) ha hb (RV.val fun H1 e1 Q q => ⟨tupD g, gs.map tupD, by
    obtain ⟨p, rfl, hp⟩ := hx.ex e1
    exact .tup (SqT.of hp) dp_nums, .lst (SqL.of (e1 _ _ hl)) (dpA_ex e1 _ _ (dp_TIs hw)), hsh, shaped_tups gs, by
    have : (gs.map tupD).any (fun z => PyData.eqv z (tupD g)) = true := List.any_eq_true.mpr ⟨_, List.mem_map.mpr ⟨g, hmem, rfl⟩, hself⟩
    rw [this]
    exact q⟩) hm
theorem room_u65 {k : Nat} {A : Around} (h : Room k A) : A.units + 65 < cLine := by
  have := h.un
  omega
theorem inV_strs (z : Str) : ∀ zs : List Str, z ∈ zs → inV (.str z) (zs.map V.str) = true := fun zs h => List.any_eq_true.mpr ⟨.str z, List.mem_map.mpr ⟨z, h, rfl⟩, by show (z == z) = true; exact beq_self_eq_true z⟩
theorem strs_flat (zs : List Str) : (zs.map V.str).all flatV = true := by
  rw [List.all_map]
  exact List.all_eq_true.mpr fun z _ => rfl
/-- a text not in a new list of texts that holds it -/
theorem et_notInS {z : Str} {zs : List Str} (ha : Ev X a σ H (is (.str z))) (hb : Ev X b σ H (newL (zs.map V.str))) (hz : z ∈ zs) (hm : behindInMarks .NotIn b = false := by rfl) : EvT X (.Compare a [.NotIn] [b] pos) σ H false := fun H1 e1 Q q =>
  wT_of (pt_cmpR op_notIn_seq pe_w pe_w hm) (ha H1 e1 _ fun x' H2 e2 rx => hb H2 (e1.trans e2) _ fun y' H3 e3 ⟨p, ey, _, hp⟩ => by
    cases rx
    subst ey
    exact ⟨p, _, rfl, .inl (SqL.of hp), rfl, strs_flat zs, _, rfl, by
      show Q (!inV (.str z) (zs.map V.str)) H3
      rw [inV_strs z zs hz]
      exact q H3 (e2.trans e3)⟩)
end
section
variable {P : Program} {w : World} {K : PySem.W.Frag} {mg : Str → Option Value} {base : Heap} {CL CS CP : Addr}
abbrev nRight : List Str := ["_law_lot_here", "_law_rows", "_law_had", "_law_sets_here", "_law_t", "_law_s"]
theorem sc_is_right : FnScope nRight ["_law_lot_here", "_law_rows"] (defScope s_law_is_right) := ⟨rfl, rfl, rfl, by decide +kernel, rfl, by decide +kernel, by decide +kernel⟩
def spIsRight : Sp := fun vs H Q _ => ∃ (x y : V) (L : LotD) (ws : List Wk) (rows : List (List Nat)), vs = [x, y] ∧ IsOwn L ws x H ∧ L.ok ∧ L.tight ∧ TR rows y H ∧ RightT L rows ∧ ∀ H', Ex H H' → Q (.bl true) H'
theorem runN_len (n : Nat) (gs : List (List Nat)) (t : Nat) : (runN n gs t).length = n := by
  unfold runN
  have gen : ∀ (l : List (List Nat)) (z : List Nat), (l.foldl plusL z).length = z.length := fun l => by
    induction l with
    | nil => exact fun z => rfl
    | cons g l ih => exact fun z => by rw [List.foldl_cons, ih, plusL_len]
  rw [gen, zeroN_len]
theorem cal_is_right (T : Txt K mg CL CS CP) : CalG P w K mg base 3 "_law_is_right" spIsRight := by
  refine calG_mk T.d_law_is_right sc_is_right (fun vs H Q E h => ?_) fun f cdv A outer s H vs Q E hgd hr h => ?_
  · obtain ⟨x, y, L, ws, rows, rfl, _⟩ := h
    rfl
  · obtain ⟨x, y, L, ws, rows, rfl, hx, ok, ti, hy, ⟨hlen, hsets, hkept⟩, k⟩ := h
    have hx0 := hx
    obtain ⟨hpw, lt, wl, us0, rfl, o1, o2, o3⟩ := hx
    obtain ⟨rt, rus, rfl, y1, y2⟩ := hy
    have hp3 := ok.2.2.2.1
    have hc6 := ok.2.2.2.2.2.2
    have hul := o3.len
    have hwl : ws.length = L.parts.length := by rw [hpw, List.length_map]
    have hn : us0.length = L.parts.length := by omega
    have rl := y2.len
    have hrl : rus.length = L.circle := by omega
    refine ws_ifF (EvW.et (ew_or (k := false) (j := false) (et_not (k := true) (et_val (ev_isT (t := "tuple") (u := "tuple") (ev_name 1 rfl) (fun H1 e1 => .base (.tup (e1 _ _ y1))) (by decide +kernel) T.n_tuple (by decide +kernel) T.n_isinstance))) fun _ => ew_or1 ((et_neS (by rfl) (ev_lenQ (ev_name 1 rfl) (.inr (SqT.of y1)) T.n_len) (ev_call (R := is (.int (L.circle : Nat))) (cal_span (P := P) (w := w) (base := base) T) hr (by decide) (ea_cons (ev_name 0 rfl) ea_nil) fun H1 e1 Q q => ⟨_, L, ws, rfl, hx0.ex e1, ok, ti, fun H' e' => q _ H' e' rfl⟩)).is_ (by rw [hrl, decide_eq_true rfl]; rfl)))) fun H1 e1 => ws_nil ?_
    refine ws_parG (T := fun H1 vs H2 => ∃ zt sa ss gs, vs = [.ref zt, .ref sa] ∧ H2 zt = some (.tup (nums (zeroN L.parts.length))) ∧ H2 sa = some (.lst ss) ∧ TIs gs ss H2 ∧ gs.Perm (lawSets L)) 2 3 rfl sc_is_right.nd (EvG.imp (eg_cons (ev_tupleOf (P := fun ys _ => ys = nums (zeroN us0.length)) (Ev.imp (ev_rep0 (ev_lenQ (ev_ixT (ev_name 0 rfl) (ev_int (i := 1)) (SqT.of (e1 _ _ o1)) rfl) (.inl (SqL.of (e1 _ _ o2))) T.n_len) (by omega)) fun H2 v H3 e2 e3 ⟨p, q1, q2, q3⟩ => ⟨p, _, q1, q2, q3, (zeroN_nums _).symm⟩) (fun _ _ _ _ h => h) T.n_tuple) fun H2 v H3 e2 e3 rv => eg_one (ev_call (R := newSets (lawSets L)) (cal_sets (P := P) (w := w) (base := base) T) hr (by decide) (ea_cons (ev_lenQ (ev_ixT (ev_name 0 rfl) (ev_int (i := 1)) (SqT.of ((e1.trans (e2.trans e3)) _ _ o1)) rfl) (.inl (SqL.of ((e1.trans (e2.trans e3)) _ _ o2))) T.n_len) (ea_cons (ev_ixT (ev_name 0 rfl) (ev_int (i := 0)) (SqT.of ((e1.trans (e2.trans e3)) _ _ o1)) rfl) ea_nil)) fun H4 e4 Q q => ⟨us0.length, L.many, rfl, by omega, fun a us gs H' e' h0 h1 h2 h3 => q _ H' e' ⟨a, us, gs, rfl, h0, h1, h2, by unfold lawSets; rw [← hn]; exact h3⟩⟩)) fun H2 vs H3 e2 e3 tt => ?_) fun vs H2 e2 tt => ?_
    · obtain ⟨v, r, Hm, rfl, em, ⟨zt, zs, rfl, hzn, hzt, rfl⟩, e4, v2, rfl, Hn, en, ⟨sa, ss, gs, rfl, hsn, h3, h4, h5⟩, rfl⟩ := tt
      exact ⟨zt, sa, ss, gs, rfl, by rw [← hn]; exact en _ _ hzt, h3, h4, h5⟩
    · obtain ⟨zt, sa, ss, gs, rfl, hzt, h3, h4, h5⟩ := tt
      refine ⟨_, _, rfl, ?_⟩
      have gl := h4.len
      have gl8 : gs.length ≤ 8 := by rw [h5.length_eq]; exact lawSets_len L ok
      have E2 : Ex H H2 := e1.trans e2
      refine ws_for (σ := _) PassesOwn.never rfl (src_rangeK (n := rus.length) (ea_cons (ev_lenQ (ev_name 1 rfl) (.inr (SqT.of (E2 _ _ y1))) T.n_len) ea_nil) (by omega) T.n_range)
        (fun t σ' H' => (∃ ht x4 x5, σ' = [some (.ref lt), some (.ref rt), some ht, some (.ref sa), x4, x5] ∧ TI (runN L.parts.length rows t) ht H') ∧ Ex H2 H') (fun H3 e3 _ => ⟨⟨.ref zt, _, _, rfl, zt, rfl, e3 _ _ hzt⟩, e3⟩) (fun i σ' H' _ p => True.intro) (fun t x' σ' Ha Hb htl p yy => ?_) fun σ' H' p => ?_
      · obtain ⟨⟨ht, x4, x5, rfl, hht⟩, EB⟩ := p
        obtain ⟨rfl, rfl⟩ := yy
        have hrt : rows[t]? = some (rows.getD t []) := by
          rw [List.getD_eq_getElem?_getD, List.getElem?_eq_getElem (by omega)]
          rfl
        obtain ⟨ut, hut, hTt⟩ := y2.get hrt
        have hgm : rows.getD t [] ∈ lawSets L := hsets _ (List.mem_of_getElem? hrt)
        have hgs : rows.getD t [] ∈ gs := h5.mem_iff.mpr hgm
        have hsm := lawSet_small ok hgm
        have hrun := runN_succ (n := L.parts.length) hrt
        generalize rows.getD t [] = g at hrt hTt hgm hgs hsm hrun
        have EH : Ex H Hb := E2.trans EB
        refine ⟨_, tgt_name 4 sc_is_right.nd, ?_⟩
        refine ws_ifF (EvW.et (ew_or (k := false) (j := false) (et_notInT (room_u65 hr) (ev_ixT (ev_name 1 rfl) (ev_name 4 rfl) (SqT.of (EH _ _ y1)) (atI_of hut)) (TI.ex hTt EH) (ev_name 3 rfl) (EB _ _ h3) (h4.ex EB) hgs hsm.2.2.2.2.1 hsm.2.2.2.2.2) fun _ => ew_or1 (et_notInS (zs := gs.map shownT) (ev_reprT hgd hr.units (ev_ixT (ev_name 1 rfl) (ev_name 4 rfl) (SqT.of (EH _ _ y1)) (atI_of hut)) (TI.ex hTt EH) hsm.1 hsm.2.1 hsm.2.2.1 hsm.2.2.2.1 T.n_repr) (Ev.imp (ev_comp (n := ss.length) (P := fun m v _ => v = .str (shownT (gs.getD m []))) (own := [("_law_s", 5)]) rfl sc_is_right.nd (blkOk_by (own := [("_law_s", 5)]) (N := nRight) (sc := defScope s_law_is_right) (by decide +kernel)) (src_list (ev_name 3 rfl) (SqL.of (EB _ _ h3))) (by omega) hG_l (fun m => isP_sx (v := fun m => .str (shownT (gs.getD m []))) m) hY_at (fun m xm Hc Hd hm ec _ yc => ?A)) fun H4 v H5 e4 e5 rv => ?B) (List.mem_map.mpr ⟨g, hgs, rfl⟩)))) fun H3 e3 => ws_nil ?C
        case A =>
          obtain ⟨rfl, hxm⟩ := yc
          have hml : m < gs.length := by omega
          have hTm := h4.nth hxm []
          have hmem : gs.getD m [] ∈ lawSets L := h5.mem_iff.mp (by
            rw [List.getD_eq_getElem?_getD, List.getElem?_eq_getElem hml]
            exact List.getElem_mem _)
          have hs2 := lawSet_small ok hmem
          exact ⟨_, fun s H0 C cl fp => tgt_name 5 sc_is_right.nd, rfl, rfl, fun _ s H0 C cl fp => Ev.fits (ev_reprT hgd hr.units (ev_name 5 rfl) (TI.ex hTm (EB.trans ec)) hs2.1 hs2.2.1 hs2.2.2.1 hs2.2.2.2.1 T.n_repr) fun _ _ => rfl⟩
        case B =>
          have q := newC_all (g := fun m => .str (shownT (gs.getD m []))) rv
          have e : (List.range ss.length).map (fun m => V.str (shownT (gs.getD m []))) = (gs.map shownT).map V.str := by
            rw [List.map_map, ← gl]
            conv => rhs; rw [← range_getD gs []]
            rw [List.map_map]
            rfl
          rw [e] at q
          exact q
        case C =>
          refine ws_set 2 sc_is_right.nd (ev_call (R := fits (TI (plusL (runN L.parts.length rows t) g))) (cal_lplus (P := P) (w := w) (base := base) T) hr (by decide) (ea_cons (ev_name 2 rfl) (ea_cons (ev_ixT (ev_name 1 rfl) (ev_name 4 rfl) (SqT.of ((EH.trans e3) _ _ y1)) (atI_of hut)) ea_nil)) fun H4 e4 Q q => ⟨ht, ut, _, g, rfl, hht.ex (e3.trans e4), TI.ex hTt (EH.trans (e3.trans e4)), by rw [runN_len]; omega, fun v H' e' hv => q v H' e' hv⟩) fun v H4 e4 hv => ?_
          have hv : TI (runN L.parts.length rows (t + 1)) v H4 := by rw [hrun]; exact hv
          refine ws_ifF (et_not (k := true) (et_val (ev_call (R := is (.bl true)) (cal_kept (P := P) (w := w) (base := base) T) hr (by decide) (ea_cons (ev_name 0 rfl) (ea_cons (ev_name 2 rfl) (ea_cons (ev_add (ev_name 4 rfl) ev_int) ea_nil))) fun H5 e5 Q q => ⟨_, v, L, ws, _, t + 1, rfl, hx0.ex (EH.trans (e3.trans (e4.trans e5))), ok, hv.ex e5, runN_len _ _ _, fun H' e' => q _ H' e' (by rw [hkept t (by omega)]; rfl)⟩))) fun H5 e5 => ws_nil (ws_nil ⟨⟨v, _, _, rfl, hv.ex e5⟩, EB.trans (e3.trans (e4.trans e5))⟩)
      · obtain ⟨⟨ht, x4, x5, rfl, hht⟩, EB⟩ := p
        exact ws_ret ev_bl fun v H3 e3 rv => by cases rv; exact k H3 (E2.trans (EB.trans e3))
end
end TS
/-! ## G4 -/
/-! steps that may lengthen tables: tests, displays, for; what is due -/
namespace TS
open PySem PySem.Spec PyProof.Rows LamX L2
/-! ### what is due -/
theorem few_eq {L : LotD} {v d : V} (hv : FewR L v) (hd : FewR L d) : v = d := by
  rcases hv with ⟨rfl, a⟩ | ⟨g0, c, rows, rfl, h1, h2, h3⟩ <;> rcases hd with ⟨rfl, b⟩ | ⟨g1, c1, rows1, rfl, k1, k2, k3⟩
  · rfl
  · exact absurd a k2
  · exact absurd b h2
  · rw [show c = c1 from Nat.le_antisymm (h3 _ _ _ k1) (k3 _ _ _ h1)]
theorem tab_exists {L : LotD} (ok : L.ok) (hne : aliveK L L.circle ≠ []) : ∃ g0 c rows, Tab L g0 c rows := by
  obtain ⟨n, hn⟩ : ∃ n, L.circle = n + 1 := ⟨L.circle - 1, by have := ok.2.2.2.2.2.1; omega⟩
  have hz := zero_alive L ok hne
  rw [hn] at hz
  obtain ⟨g0, hg0⟩ := aliveK_mem hz
  have hg : g0 ∈ givensOf (zeroN L.parts.length) (aliveK L (L.circle - 1)) L.many := by rw [hn]; exact hg0
  obtain ⟨s, b, c, rows, hp⟩ := Pre.ext ok hg n (by omega)
  rw [← hn] at hp
  exact ⟨g0, _, rows, s, b, c, hg, hp, rfl⟩
theorem due_none {L : LotD} (ok : L.ok) {gs : List (List Nat)} (hp : gs.Perm (lawSets L)) (h : tabS L gs L.circle = []) : FewR L .non := by
  refine .inl ⟨rfl, ?_⟩
  by_cases hne : aliveK L L.circle = []
  · exact hne
  · obtain ⟨g0, c, rows, ht⟩ := tab_exists ok hne
    obtain ⟨e, he, _⟩ := tab_in ok hp hne ht
    rw [h] at he
    cases he
theorem due_some {L : LotD} (ok : L.ok) {gs : List (List Nat)} (hp : gs.Perm (lawSets L)) {m : Int} (h1 : m ∈ (tabS L gs L.circle).map fun e => ((startsL e.1 : Nat) : Int)) (h2 : ∀ y ∈ (tabS L gs L.circle).map fun e => ((startsL e.1 : Nat) : Int), m ≤ y) : FewR L (.int m) := by
  obtain ⟨e, he, rfl⟩ := List.mem_map.mp h1
  have hne : aliveK L L.circle ≠ [] := fun z => by
    rw [tabS_none L ok gs z] at he
    cases he
  obtain ⟨g0, ht⟩ := in_tab ok hp hne he
  refine .inr ⟨g0, _, _, rfl, ht, hne, fun g0' c' rows' ht' => ?_⟩
  obtain ⟨e', he', hc'⟩ := tab_in ok hp hne ht'
  have := h2 _ (List.mem_map.mpr ⟨e', he', rfl⟩)
  omega
theorem calm_few {L : LotD} {v : V} {H : Hp} (h : CalmR L v H) : (v = .non ∧ FewR L .non) ∨ ∃ (t : Addr) (vs : List V) (rows : List (List Nat)), v = .ref t ∧ H t = some (.tup vs) ∧ TIs rows vs H ∧ (L.ok → RightT L rows) ∧ FewR L (.int (startsL rows : Nat)) := by
  rcases h with ⟨rfl, a⟩ | ⟨g0, c, rows, t, vs, rfl, h1, h2, h3, h4, h5⟩
  · exact .inl ⟨rfl, .inl ⟨rfl, a⟩⟩
  · refine .inr ⟨t, vs, rows.reverse, rfl, h1, h2, fun ok => tab_right ok h3, .inr ⟨g0, c, rows, by rw [tab_starts h3], h3, h4, h5⟩⟩
theorem few_scal {L : LotD} {v : V} (h : FewR L v) : scal v v = true := by
  rcases h with ⟨rfl, _⟩ | ⟨_, _, _, rfl, _⟩ <;> rfl
theorem CalmR.ext {L : LotD} {v : V} {H H' : Hp} (h : CalmR L v H) (e : ExtN H H') : CalmR L v H' := by
  rcases h with h | ⟨g0, c, rows, t, vs, rfl, h1, h2, h3⟩
  · exact .inl h
  · exact .inr ⟨g0, c, rows, t, vs, rfl, e _ _ h1 (fun _ z => nomatch z), h2.sx (exN_sx e), h3⟩
/-! ### lists of tables -/
theorem canLay_tabs : ∀ ts : List (List (List Nat)), PyData.canLayAll0 (ts.map fun ss => PyData.tuple (ss.map tupD)) = true := fun ts => by
  induction ts with
  | nil => rfl
  | cons t ts ih =>
    have h := canLay_tups t
    simp only [List.map_cons, PyData.canLayAll0, PyData.canLay0, Bool.and_eq_true]
    exact ⟨h, ih⟩
theorem depth_tabs : ∀ ts : List (List (List Nat)), PyData.depthAll (ts.map fun ss => PyData.tuple (ss.map tupD)) ≤ 2 := fun ts => by
  induction ts with
  | nil => simp [PyData.depthAll]
  | cons t ts ih =>
    have h := depth_tups t
    have h2 : PyData.depthAll (t.map tupD) ≤ 1 := h
    simp only [PyData.depth, PyData.depthAll, List.map_cons]
    omega
theorem shaped_tabs (ts : List (List (List Nat))) : SeqAt.shaped (.list (ts.map fun ss => PyData.tuple (ss.map tupD))) = true := by
  unfold SeqAt.shaped
  rw [Bool.and_eq_true]
  refine ⟨?_, decide_eq_true ?_⟩
  · simp only [PyData.canLay0]
    exact canLay_tabs ts
  · simp only [PyData.depth]
    have := depth_tabs ts
    omega
theorem dp_TR {K : PySem.W.Frag} {H : Hp} {rows : List (List Nat)} {v : V} (h : TR rows v H) : Dp K H v (.tuple (rows.map tupD)) := by
  obtain ⟨t, us, rfl, h1, h2⟩ := h
  exact .tup (SqT.of h1) (dp_TIs h2)
section
variable {X : Cx} {T : List (Addr × Str)} {a b c e o d : Expr} {es : List Expr} {σ : L2.St} {H H' : Hp} {x y z v : V} {R R' Ra Rb : RT} {pos : Pos} {D : Ends} {rest sts : List Stmt} {k j : Bool}
/-- xs != [] of a list of tables -/
theorem et_neNilT {es : List Ent} {us : List V} {l : Addr} {p2 : Pos} (hu : X.A.units + 64 < cLine) (ha : Ev X a σ H (is (.ref l))) (hl : H l = some (.lst us)) (h : All2 (fun (e : Ent) u => TR e.1 u H) es us) (hm : behindInMarks .NotEq (.List [] p2) = false := by rfl) : EvT X (.Compare a [.NotEq] [.List [] p2] pos) σ H (!es.isEmpty) := fun H1 e1 Q q =>
  wT_of (pt_cmpR (op_neD hu) pe_w pe_w hm) (ha H1 e1 _ fun x' H2 e2 rx => (ev_lst (X := X) (σ := σ) (pos := p2) ea_nil (by show 0 ≤ 100000; decide)) H2 (Ex.refl _) _ fun y' H3 e3 ⟨p, ey, _, hp⟩ => by
    cases rx
    have e13 := (e1.trans e2).trans e3
    subst ey
    refine ⟨.list ((es.map (·.1)).map fun ss => PyData.tuple (ss.map tupD)), _, .lst (SqL.of (e13 _ _ hl)) ?_, .lst (SqL.of hp) .nil, shaped_tabs _, by decide, _, rfl, ?_⟩
    · rw [List.map_map]
      exact dp_all2 (F := fun (e : Ent) u => TR e.1 u H3) (f := fun e => PyData.tuple (e.1.map tupD)) (fun e u z => dp_TR z) (h.imp fun e u z => z.ex e13)
    · rw [eqv_nil, List.isEmpty_map, List.isEmpty_map]
      exact q H3 (e2.trans e3))
/-! ### tests -/
def EvTN (T : List (Addr × Str)) (X : Cx) (e : Expr) (σ : L2.St) (H : Hp) (k : Bool) : Prop := ∀ H1, ExtN H H1 → Tabs T H1 → ∀ Q : Bool → Hp → Prop, (∀ H2, ExtN H1 H2 → Tabs T H2 → Q k H2) → wT X e σ H1 Q
theorem etN_ne (hs : scal x y = true) (ha : EvN T X a σ H (is x)) (hb : Ev X b σ (noT H) (is y)) (hm : behindInMarks .NotEq b = false := by first | exact nobehind _ (by decide) (by decide) | rfl) : EvTN T X (.Compare a [.NotEq] [b] pos) σ H (!decide (x = y)) := fun H1 e1 t1 Q q =>
  wT_of (pt_cmpR op_ne pe_w pe_w hm) (ha H1 e1 t1 _ fun x' H2 e2 t2 rx => hb H2 (exN_no (e1.trans e2)) _ fun y' H3 e3 ry => by
    cases rx; cases ry
    exact ⟨hs, _, rfl, q H3 (e2.trans (ExtN.of e3)) (t2.ext e3)⟩)
theorem etN_or2 (h1 : EvTN T X a σ H false) (h2 : EvTN T X b σ H false) : EvTN T X (.BoolOp .Or [a, b] pos) σ H false := fun H1 e1 t1 Q q =>
  wT_of (pw_or pt_w (pw_or1 pt_w)).pt (h1 H1 e1 t1 _ fun H2 e2 t2 => iteF (h2 H2 (e1.trans e2) t2 _ fun H3 e3 t3 => q H3 (e2.trans e3) t3))
theorem ws_ifFN {s1 s2 : List Stmt} (hT : Tabs T H) (hc : EvTN T X c σ H false) (h1 : ∀ H1, ExtN H H1 → Tabs T H1 → wS X s2 { D with nx := wS X rest D } σ H1) : wS X (.If c s1 s2 pos :: rest) D σ H :=
  ws_cons (ps_if pt_w ps_w ps_w) (hc H (ExtN.refl _) hT _ fun H1 e1 t1 => iteF (h1 H1 e1 t1))
/-! ### [a, b], for over it -/
theorem evN_lst2 (ha : EvN T X a σ H Ra) (hb : EvN T X b σ H Rb) (hs : starEach [a, b] X.env = (false, eval a X.env) :: starEach [b] X.env := by rfl) (hs2 : starEach [b] X.env = (false, eval b X.env) :: starEach [] X.env := by rfl) : EvN T X (.List [a, b] pos) σ H (fun H1 v H4 => ∃ x H2 y H3 p, v = .ref p ∧ ExtN H1 H2 ∧ Ra H1 x H2 ∧ ExtN H2 H3 ∧ Rb H2 y H3 ∧ H3 p = none ∧ H4 = upd H3 p (.lst [x, y])) := fun H1 e1 t1 Q q =>
  wE_of (pe_lst (pa_cons pe_w (pa_cons pe_w pa_nil hs2) hs)) (ha H1 e1 t1 _ fun x H2 e2 t2 rx => hb H2 (e1.trans e2) t2 _ fun y H3 e3 t3 ry => ⟨by show 2 ≤ sizeLine; exact sz_of (by decide), fun p hp => q _ _ ((e2.trans e3).trans (ExtN.of (Ex.new hp))) (t3.ext (Ex.new hp)) ⟨x, H2, y, H3, p, rfl, e2, rx, e3, ry, hp, rfl⟩⟩)
theorem ws_forD {tg iter : Expr} {body : List Stmt} (hp : PassesOwn (model X.prog X.w) X.A X.env X.xe) (hc : X.calm = true) (hT : Tabs T H) (he : EvN T X iter σ H R)
    (k : ∀ v H1, ExtN H H1 → Tabs T H1 → R H v H1 → ∃ (p : Addr) (xs : List V), v = .ref p ∧ SqL X.K H1 p xs ∧ ∃ Pv : Nat → L2.St → Hp → Prop, Pv 0 σ H1 ∧ (∀ i σ' H', i ≤ xs.length → Pv i σ' H' → SqL X.K H' p xs) ∧
      (∀ i x σ' H', i < xs.length → xs[i]? = some x → Pv i σ' H' → ∃ σ2, Tgt X tg x σ' H' σ2 ∧ wS X body { D with nx := Pv (i + 1), ct := Pv (i + 1), bk := wS X rest D } σ2 H') ∧ (∀ σ' H', Pv xs.length σ' H' → wS X rest D σ' H'))
    (hf : PI X tg iter (iList X.K (wE X iter)) := by exact pi_list pe_w) (hfs : ∀ x, foldedSetIterable iter X.env x = pure x := by intro _; rfl) : wS X (.For tg iter body [] pos :: rest) D σ H :=
  ws_cons (ps_for hp hc hf pg_w ps_w hfs) (he H (ExtN.refl _) hT _ fun v H1 e1 t1 r => by
    obtain ⟨p, xs, rfl, hx, Pv, h0, hG, turn, hd⟩ := k v H1 e1 t1 r
    exact ⟨p, rfl, ⟨xs, hx⟩, for_it (walk_list (xs := xs)) (D := { D with nx := wS X rest D }) Pv h0 hG (fun i x σ' H' H'' hi q y => by
      obtain ⟨rfl, hy⟩ := y
      obtain ⟨σ2, t, w⟩ := turn i x σ' _ hi hy q
      exact t _ (Ex.refl _) _ w) hd⟩)
/-! ### all([elt for tg in iter]) -/
theorem evN_compE {tg iter elt : Expr} {scope : Scope} {n : Nat} {G : Hp → Prop} {Y : Nat → Hp → V → Hp → Prop} (own : List (Str × Nat)) (hc : X.calm = true) (hN : X.N.Nodup) (ok : BlkOk X.N X.env.scope scope own) (hs : ∀ H1, ExtN H H1 → Src X tg iter σ H1 n G Y) (hn : n ≤ 90000) (hG : ∀ H H', ExtN H H' → G H → G H') (P : Nat → V → Hp → Prop) (hP : ∀ i, SMono (P i))
    (hY : ∀ i H x H', Y i H x H' → Ex H H') (turn : ∀ i x Ha Hb, i < n → ExtN H Ha → G Ha → Y i Ha x Hb → ∃ σ2, BlkG X scope tg x (wipe σ (own.map (·.2))) Hb σ2 ∧ wipe σ2 (own.map (·.2)) = wipe σ (own.map (·.2)) ∧ ∀ (s : Shared) (H0 : Hp) (C : Addr) (cl : List (Str × Addr)) (fp : List Addr), EvN T (X.blk s H0 scope (compEnvC scope cl C X.env) fp) elt σ2 Hb (fits (P i)))
    (hfs : ∀ x, foldedSetIterable iter X.env x = pure x := by intro _; rfl) : EvN T X (.ListComp elt [⟨tg, iter, [], 0⟩] scope pos) σ H (newC n (fun _ => true) P) := fun H1 e1 t1 Q q =>
  wE_of (pe_lc (own := own) hc hN pi_w ok (fun s H C cl fp => ⟨fun pins s' σ H' v u Q I r h => h s H C cl fp pins s' u I r⟩) (fun _ _ _ _ _ => pts_nil) (fun s H C cl fp => ⟨fun pins s' σ H' Q I h => h s H C cl fp pins s' I⟩) hfs)
    (compN_core (hs H1 e1) t1 hn hG P hP hY (fun i x Ha Hb hi ea g y => turn i x Ha Hb hi (e1.trans ea) g y) Q fun v H2 e2 t2 r => q v H2 e2 t2 r)
theorem evN_callB1 {n : Str} {id : String} {p : Pos} {r : List V → Hp → VK → Prop} (hc : CallR X (.builtin id) r) (hm : X.mg n = none) (hv : bootBuiltins n = some (.builtin id)) (ha : EvN T X e σ H Ra)
    (hr : ∀ H1 v H2, ExtN H H1 → ExtN H1 H2 → Ra H1 v H2 → ∀ Q : VK, Q x H2 → r [v] H2 Q) (hg : Gl X n := by rfl) (hn : n ≠ "__name__" := by decide) (hdb : (n == ("__debug__" : Str)) = false := by decide)
    (he : starEach (e :: []) X.env = (false, eval e X.env) :: starEach [] X.env := by rfl) (hpl : (backTo pos (starEach [] X.env)).any (·.1) = false := by rfl) : EvN T X (.Call (.Name n p) [e] [] pos) σ H (is x) := fun H1 e1 t1 Q q =>
  wE_of (pe_callB hc hg hm hv (pa_cons pe_w pa_nil he) hn hdb he hpl) (ha H1 e1 t1 _ fun v H2 e2 t2 rv => hr H1 v H2 e1 e2 rv Q (q x H2 e2 t2 rfl))
end
theorem IsOwn.no {L : LotD} {ws : List Wk} {v : V} {H : Hp} (h : IsOwn L ws v H) : IsOwn L ws v (noT H) := by
  obtain ⟨hp, t, wl, us, rfl, h1, h2, h3⟩ := h
  exact ⟨hp, t, wl, us, rfl, noT_get h1 (fun _ z => nomatch z), noT_get h2 (fun _ z => nomatch z), h3.imp fun w u z => WK.sx _ _ _ (sx_no H) z⟩
theorem sq_no {K : PySem.W.Frag} {H : Hp} {a : Addr} {xs : List V} (h : SqL K H a xs) : SqL K (noT H) a xs := by
  rcases h with (h | ⟨fo, h⟩) | h
  · exact .inl (.inl (noT_get h fun _ z => nomatch z))
  · exact .inl (.inr ⟨fo, noT_get h fun _ z => nomatch z⟩)
  · exact .inr h
end TS
/-! ## G5 -/
/-! _law_right, law -/
namespace TS
open PySem PySem.Spec PyProof.Rows LamX L2
theorem tabS_right {L : LotD} (ok : L.ok) {gs : List (List Nat)} (hp : gs.Perm (lawSets L)) {e : Ent} (he : e ∈ tabS L gs L.circle) : RightT L e.1 := by
  have hne : aliveK L L.circle ≠ [] := fun z => by
    rw [tabS_none L ok gs z] at he
    cases he
  obtain ⟨g0, ht⟩ := in_tab ok hp hne he
  have := tab_right ok ht
  rw [List.reverse_reverse] at this
  exact this
theorem right_small {L : LotD} (ok : L.ok) {gs : List (List Nat)} (h : RightT L gs) : gs.length ≤ 1000 ∧ ∀ g ∈ gs, g.length ≤ 1000 := by
  have h6 := ok.2.2.2.2.2.2
  have h3 := ok.2.2.2.1
  refine ⟨by rw [h.1]; omega, fun g hg => ?_⟩
  have := setsN_mem_len _ g (List.mem_filter.mp (h.2.1 g hg)).1
  omega
section
variable {X : Cx} {T : List (Addr × Str)} {a b : Expr} {σ : L2.St} {H : Hp} {x : V} {pos : Pos}
theorem etN_same (hs : scal x x = true) (ha : EvN T X a σ H (is x)) (hb : Ev X b σ (noT H) (is x)) (hm : behindInMarks .NotEq b = false := by first | exact nobehind _ (by decide) (by decide) | rfl) : EvTN T X (.Compare a [.NotEq] [b] pos) σ H false := by
  have h := etN_ne (pos := pos) hs ha hb hm
  rw [decide_eq_true rfl] at h
  exact h
end
section
variable {P : Program} {w : World} {K : PySem.W.Frag} {mg : Str → Option Value} {base : Heap} {CL CS CP : Addr}
abbrev nLR : List Str := ["_law_jar_here", "_law_own", "_law_made", "_law_some", "_law_due", "_law_rows", "_law_told"]
theorem sc_right : FnScope nLR ["_law_jar_here"] (defScope s_law_right) := ⟨rfl, rfl, rfl, by decide +kernel, rfl, by decide +kernel, by decide +kernel⟩
def spRight (T : List (Addr × Str)) : Sp := fun vs H Q _ => ∃ p : Addr, vs = [.ref p] ∧ H p = some (jarO p) ∧ Tabs T H ∧ ∀ H', ExtN H H' → Tabs T H' → Q (.bl true) H'
theorem cal_right (T : Txt K mg CL CS CP) {cF pF cC pC : Addr} (DF : DefT K mg "calmest_from" s_calmest_from ["sheet", "first"] cF) (TF : TabB base mg cF pF) (DC : DefT K mg "calmest" s_calmest ["lot"] cC) (TC : TabB base mg cC pC) (hne : pF ≠ pC) : CalG P w K mg base 8 "_law_right" (spRight (tabT pF pC)) := by
  refine calG_mk T.d_law_right sc_right (fun vs H Q E h => ?_) fun f cdv A outer s H vs Q E hgd hr h => ?_
  · obtain ⟨p, rfl, _⟩ := h
    rfl
  · obtain ⟨p, rfl, hp, hT, k⟩ := h
    refine ws_set 1 sc_right.nd (R := fits fun v H' => ∃ m ws, okWs ws ∧ 1 ≤ m ∧ m ≤ 3 ∧ IsOwn (lotOf m ws) ws v H') (ev_call (R := fits fun v H' => ∃ m ws, okWs ws ∧ 1 ≤ m ∧ m ≤ 3 ∧ IsOwn (lotOf m ws) ws v H') (cal_small (P := P) (w := w) (base := base) T) hr (by decide) (ea_cons (ev_name 0 rfl) ea_nil) fun H1 e1 Q q => ⟨p, rfl, e1 _ _ hp, fun m ws v H' e' h1 h2 h3 h4 => q v H' e' ⟨m, ws, h1, h2, h3, h4⟩⟩) fun ov H1 e1 rv => ?_
    obtain ⟨m, ws, hok, h1, h3, hown⟩ := rv
    have ok := lotOf_ok hok h1 h3
    have ti := lotOf_tight (m := m) (ws := ws)
    refine ws_parG (T := fun Ha vs Hb => ∃ mv la us gs, vs = [mv, .ref la] ∧ IsLot CL (lotOf m ws) mv Hb ∧ Hb la = some (.lst us) ∧ gs.Perm (lawSets (lotOf m ws)) ∧ All2 (fun (e : Ent) u => TR e.1 u Hb) (tabS (lotOf m ws) gs (lotOf m ws).circle) us) 2 3 rfl sc_right.nd (EvG.imp (eg_cons (ev_makeG (R := fits (IsLot CL (lotOf m ws))) (T := fun _ vs _ => vs = [.str (textS m ws)]) (mak_Lot (P := P) (w := w) (base := base) T) hr (by decide) (EvA.g (ea_cons (ev_call (R := is (.str (textS m ws))) (cal_text (P := P) (w := w) (base := base) T) hr (by decide) (ea_cons (ev_name 1 rfl) ea_nil) fun H2 e2 Q q => ⟨ov, m, ws, rfl, hown.ex e2, hok, h3, fun H' e' => q _ H' e' rfl⟩) ea_nil)) fun H2 vs H3 e2 e3 tt q dx hq hdx hnq Q kk => ?A) fun H2 v H3 e2 e3 rv => eg_one (ev_call (R := fits fun v Hb => ∃ la us gs, v = .ref la ∧ Hb la = some (.lst us) ∧ gs.Perm (lawSets (lotOf m ws)) ∧ All2 (fun (e : Ent) u => TR e.1 u Hb) (tabS (lotOf m ws) gs (lotOf m ws).circle) us) (cal_tables (P := P) (w := w) (base := base) T) hr (by decide) (ea_cons (ev_name 1 rfl) (ea_cons ev_int ea_nil)) fun H4 e4 Q q => ⟨ov, lotOf m ws, ws, rfl, hown.ex ((e2.trans e3).trans e4), ok, ti, fun a us gs H' e' _ z1 z2 z3 => q _ H' e' ⟨a, us, gs, rfl, z1, z2, z3⟩⟩)) fun H2 vs H3 e2 e3 tt => ?B) fun vs H2 e2 tt => ?C
    case A =>
      subst tt
      refine ⟨q, dx, m, ws, rfl, upd_same, hok, h1, h3, fun H' eb hl => ⟨rfl, kk H' (fun b o h => ?_) hl⟩⟩
      refine eb b o (ne_of_none h hq) ?_
      rw [upd_ne (ne_of_none h hq), upd_ne (ne_of_none h hdx)]
      exact h
    case B =>
      obtain ⟨v, r, Hm, rfl, em, hl, e4, v2, rfl, Hn, en, ⟨la, us, gs, rfl, z1, z2, z3⟩, rfl⟩ := tt
      exact ⟨v, la, us, gs, rfl, IsLot.ex hl en, z1, z2, z3⟩
    case C =>
      obtain ⟨mv, la, us, gs, rfl, hlot, hla, hperm, htr⟩ := tt
      refine ⟨_, _, rfl, ?_⟩
      have htl := htr.len
      have hb := tabS_bound (lotOf m ws) ok gs hperm (Nat.le_refl _)
      generalize hL : lotOf m ws = L at ok ti hlot hperm htr htl hb hown
      have E2 : Ex H H2 := e1.trans e2
      refine ws_set 4 sc_right.nd (R := fits fun v _ => FewR L v) (ev_if (et_neNilT hr.units (ev_name 3 rfl) hla htr) (fun hk => ev_callBG (R := fits fun v _ => FewR L v) (cr_min rfl) T.n_min (by decide +kernel) (eg_one (Ev.imp (R' := newL (((tabS L gs L.circle).map fun e => ((startsL e.1 : Nat) : Int)).map V.int)) (ev_comp (n := us.length) (P := fun i v _ => v = .int ((startsL ((tabS L gs L.circle).getD i ([], [])).1 : Nat) : Int)) (own := [("_law_rows", 5)]) rfl sc_right.nd (blkOk_by (own := [("_law_rows", 5)]) (N := nLR) (sc := defScope s_law_right) (by decide +kernel)) (src_list (ev_name 3 rfl) (SqL.of hla)) (by omega) hG_l (fun i => isP_sx (v := fun i => .int ((startsL ((tabS L gs L.circle).getD i ([], [])).1 : Nat) : Int)) i) hY_at (fun i xi Hc Hd hi ec _ yc => ?_)) fun H3 v H4 e3 e4 rv => ?_)) fun H3 vs H4 e3 e4 tt Q q => ?_) (fun hk => Ev.imp ev_non fun H3 v H4 e3 e4 rv => ?_)) fun dv H3 e3 hdue => ?_
      · obtain ⟨rfl, hxi⟩ := yc
        have hil : i < (tabS L gs L.circle).length := by omega
        have hem : (tabS L gs L.circle).getD i ([], []) ∈ tabS L gs L.circle := by
          rw [List.getD_eq_getElem?_getD, List.getElem?_eq_getElem hil]
          exact List.getElem_mem _
        have hR := right_small ok (tabS_right ok hperm hem)
        have hTR := (htr.nth hxi ([], [])).ex ec
        exact ⟨_, fun s H0 C cl fp => tgt_name 5 sc_right.nd, rfl, rfl, fun _ s H0 C cl fp => ev_call (R := fits fun v _ => v = .int ((startsL ((tabS L gs L.circle).getD i ([], [])).1 : Nat) : Int)) (cal_lstarts (P := P) (w := w) (base := base) T) hr (by decide) (ea_cons (ev_name 5 rfl) ea_nil) fun H4 e4 Q q => ⟨_, _, rfl, hTR.ex e4, hR.1, hR.2, fun H' e' => q _ H' e' rfl⟩⟩
      · have q := newC_all (g := fun i => .int ((startsL ((tabS L gs L.circle).getD i ([], [])).1 : Nat) : Int)) rv
        have e : (List.range us.length).map (fun i => V.int ((startsL ((tabS L gs L.circle).getD i ([], [])).1 : Nat) : Int)) = ((tabS L gs L.circle).map fun e => ((startsL e.1 : Nat) : Int)).map V.int := by
          rw [List.map_map, ← htl]
          conv => rhs; rw [← range_getD (tabS L gs L.circle) ([], [])]
          rw [List.map_map]
          rfl
        rw [e] at q
        exact q
      · obtain ⟨v, rfl, Hm, em, ⟨lp, rfl, _, hlp⟩, rfl⟩ := tt
        refine ⟨lp, _, rfl, SqL.of hlp, ?_, fun z z1 z2 => q _ _ (Ex.refl _) (due_some ok hperm z1 z2)⟩
        rw [List.length_map]
        cases hc : tabS L gs L.circle with
        | nil => rw [hc] at hk; cases hk
        | cons _ _ => exact Nat.succ_pos _
      · cases rv
        refine due_none ok hperm ?_
        cases hc : tabS L gs L.circle with
        | nil => rfl
        | cons _ _ => rw [hc] at hk; cases hk
      · have hdue : FewR L dv := hdue
        have hsc := few_scal hdue
        have E3 : Ex H H3 := E2.trans e3
        have t3 := hT.ext E3
        have hlot3 := (hlot.ex e3).no
        refine ws_ifFN (T := tabT pF pC) t3 (etN_or2 (etN_same hsc (evN_call (R := is dv) (cal_fewest (P := P) (w := w) T DF TF DC TC hne).cal hr (by decide) (ea_cons (ev_name 2 rfl) ea_nil) (fun _ _ _ _ _ h => h) fun H4 e4 t4 Q q => ⟨mv, L, rfl, hlot3.ex (exN_no e4), ok, t4, fun v H' e5 t5 h5 => q v H' e5 t5 (few_eq h5 hdue)⟩) (ev_name 4 rfl)) (etN_same hsc (evN_callK (R := is dv) (cal_fewest (P := P) (w := w) T DF TF DC TC hne) hr (by decide) (ev_name 2 rfl) (fun _ _ _ _ _ h => h) fun H4 e4 t4 Q q => ⟨mv, L, rfl, hlot3.ex (exN_no e4), ok, t4, fun v H' e5 t5 h5 => q v H' e5 t5 (few_eq h5 hdue)⟩) (ev_name 4 rfl))) fun H4 e4 t4 => ws_nil ?_
        have hlot4 := (hlot3.ex (exN_no e4)).no
        have hown4 := ((hown.ex (e2.trans e3)).no).ex (exN_no e4)
        refine ws_forD (T := tabT pF pC) PassesOwn.never rfl t4 (evN_lst2 (Ra := fun _ v H' => CalmR L v H') (Rb := fun _ v H' => CalmR L v H') (evN_call (cal_calm_table (P := P) (w := w) T DF TF DC TC hne).cal hr (by decide) (ea_cons (ev_name 2 rfl) ea_nil) (fun _ _ _ _ _ h => h) fun H5 e5 t5 Q q => ⟨mv, L, rfl, hlot4.ex (exN_no e5), ok, t5, fun v H' e6 t6 h6 => q v H' e6 t6 h6⟩) (evN_callK (cal_calm_table (P := P) (w := w) T DF TF DC TC hne) hr (by decide) (ev_name 2 rfl) (fun _ _ _ _ _ h => h) fun H5 e5 t5 Q q => ⟨mv, L, rfl, hlot4.ex (exN_no e5), ok, t5, fun v H' e6 t6 h6 => q v H' e6 t6 h6⟩)) fun lv H5 e5 t5 rv => ?_
        obtain ⟨tx, Ha, ty, Hb, lp, rfl, ea, ra, eb, rb, hlp, rfl⟩ := rv
        have eN : ExtN Hb (upd Hb lp (.lst [tx, ty])) := ExtN.of (Ex.new hlp)
        have hall : ∀ (i : Nat) (x : V), ([tx, ty] : List V)[i]? = some x → CalmR L x (upd Hb lp (.lst [tx, ty])) := fun i x hx => by
          cases i with
          | zero => cases hx; exact CalmR.ext ra (eb.trans eN)
          | succ i =>
            cases i with
            | zero => cases hx; exact CalmR.ext rb eN
            | succ i => cases hx
        have hown5 := (hown4.no).ex (exN_no e5)
        have eH : ExtN H (upd Hb lp (.lst [tx, ty])) := ((ExtN.of E3).trans e4).trans e5
        have hlpv : upd Hb lp (.lst [tx, ty]) lp = some (.lst [tx, ty]) := upd_same
        generalize upd Hb lp (.lst [tx, ty]) = H5 at hall hown5 eH hlpv t5
        refine ⟨lp, [tx, ty], rfl, SqL.of hlpv, fun i σ' H' => (∃ x5 x6, σ' = [some (.ref p), some ov, some mv, some (.ref la), some dv, x5, x6]) ∧ Ex H5 H', ⟨⟨_, _, rfl⟩, Ex.refl _⟩, fun i σ' H' _ q => SqL.of (q.2 _ _ hlpv), fun i x σ' H' hi hx q => ?_, fun σ' H' q => ?_⟩
        · obtain ⟨⟨x5, x6, rfl⟩, e6⟩ := q
          have hx := hall i x hx
          refine ⟨_, tgt_name 6 sc_right.nd, ?_⟩
          rcases calm_few hx with ⟨rfl, hf⟩ | ⟨tt, tvs, rows, rfl, y1, y2, y3, hf⟩
          · have hd : dv = .non := few_eq hdue hf
            subst hd
            refine ws_ifF ((et_neS (by rfl) (ev_isN (ev_name 6 rfl)) (ev_isN (ev_name 4 rfl))).is_ (by decide)) fun H6 e7 => ws_nil ?_
            exact ws_ifF (EvW.et (ew_and (k := false) (j := false) ((et_notN (ev_name 6 rfl)).is_ (by decide)) fun z => nomatch z)) fun H7 e8 => ws_nil (ws_nil ⟨⟨_, _, rfl⟩, e6.trans (e7.trans e8)⟩)
          · have hd : dv = .int (startsL rows : Nat) := few_eq hdue hf
            subst hd
            have hR := y3 ok
            have hS := right_small ok hR
            have hTR : TR rows (.ref tt) H5 := ⟨tt, tvs, rfl, y1, y2⟩
            refine ws_ifF ((et_neS (by rfl) (ev_isN (ev_name 6 rfl)) (ev_isN (ev_name 4 rfl))).is_ (by rfl)) fun H6 e7 => ws_nil ?_
            have e67 := e6.trans e7
            exact ws_ifF (EvW.et (ew_and (k := true) (j := false) ((et_notN (ev_name 6 rfl)).is_ (by rfl)) fun _ => ew_and1 (et_not (k := true) (EvW.et (ew_and (k := true) (j := true) (et_val (ev_callGd (R := is (.bl true)) (cal_is_right (P := P) (w := w) (base := base) T) hgd hr (by decide) (ea_cons (ev_name 1 rfl) (ea_cons (ev_name 6 rfl) ea_nil)) fun H7 e8 Q q => ⟨ov, .ref tt, L, ws, rows, rfl, hown5.ex (e67.trans e8), ok, ti, hTR.ex (e67.trans e8), hR, fun H' e' => q _ H' e' rfl⟩)) fun _ => ew_and1 ((et_eqS (by rfl) (ev_call (R := is (.int (startsL rows : Nat))) (cal_lstarts (P := P) (w := w) (base := base) T) hr (by decide) (ea_cons (ev_name 6 rfl) ea_nil) fun H7 e8 Q q => ⟨_, rows, rfl, hTR.ex (e67.trans e8), hS.1, hS.2, fun H' e' => q _ H' e' rfl⟩) (ev_name 4 rfl)).is_ (decide_eq_true rfl))))))) fun H7 e8 => ws_nil (ws_nil ⟨⟨_, _, rfl⟩, e67.trans e8⟩)
        · obtain ⟨⟨x5, x6, rfl⟩, e6⟩ := q
          exact ws_ret ev_bl fun v H6 e7 rv => by
            cases rv
            exact k H6 (eH.trans (ExtN.of (e6.trans e7))) (t5.ext (e6.trans e7))
abbrev nLaw : List Str := ["_law_cells", "_law_k"]
theorem sc_law : FnScope nLaw ["_law_cells"] (defScope s_law) := ⟨rfl, rfl, rfl, by decide +kernel, rfl, by decide +kernel, by decide +kernel⟩
def spLaw (K : PySem.W.Frag) (T : List (Addr × Str)) : Sp := fun vs H Q _ => ∃ (a : Addr) (ns : List Int), vs = [.ref a] ∧ SqL K H a (ns.map V.int) ∧ ns.length ≤ 63 ∧ Tabs T H ∧ ∀ H', Q (.bl true) H'
theorem all_true : ∀ {xs : List V} {n : Nat}, All2 (fun (_ : Nat) v => v = V.bl true) (List.range n) xs → xs = (List.replicate n true).map V.bl := fun {xs n} h => by
  have e := All2.eqs (f := fun _ => V.bl true) h
  rw [e, List.map_replicate]
  refine List.eq_replicate_iff.mpr ⟨by rw [List.length_map, List.length_range], fun b hb => ?_⟩
  obtain ⟨_, _, rfl⟩ := List.mem_map.mp hb
  rfl
theorem fn_law (T : Txt K mg CL CS CP) {cF pF cC pC : Addr} (DF : DefT K mg "calmest_from" s_calmest_from ["sheet", "first"] cF) (TF : TabB base mg cF pF) (DC : DefT K mg "calmest" s_calmest ["lot"] cC) (TC : TabB base mg cC pC) (hne : pF ≠ pC) {f : Addr} {fd : FuncData} (F : FunD K "law" "law" (defArgs s_law) (defBody s_law) (defScope s_law) [] [] f fd) : FnG P w K mg base 9 f fd ["_law_cells"] (spLaw K (tabT pF pC)) := by
  refine fnG_of F sc_law (fun vs H Q E h => ?_) fun cdv A outer s H vs Q E hgd hr h => ?_
  · obtain ⟨a, ns, rfl, _⟩ := h
    rfl
  · obtain ⟨a, ns, rfl, hS, hl, hT, k⟩ := h
    refine ws_retN (T := tabT pF pC) (R := is (.bl true)) hT (evN_callB1 (cr_all rfl) T.n_all (by decide +kernel) (evN_compE (n := max 2 (min ns.length 3)) (G := fun _ => True) (P := fun _ v _ => v = .bl true) (own := [("_law_k", 1)]) rfl sc_law.nd (blkOk_by (own := [("_law_k", 1)]) (N := nLaw) (sc := defScope s_law) (by decide +kernel)) (fun H1 e1 => src_rangeK (n := max 2 (min ns.length 3)) (ea_cons (ev_callB (R := is (.int (max 2 (min ns.length 3) : Nat))) (call_max2 rfl) T.n_max (by decide +kernel) (ea_cons ev_int (ea_cons (ev_callB (R := is (.int (min ns.length 3 : Nat))) (call_min2 rfl) T.n_min (by decide +kernel) (ea_cons (ev_lenQ (ev_name 0 rfl) (.inl (sq_exN e1 hS)) T.n_len) (ea_cons ev_int ea_nil)) fun H2 e2 Q q => ⟨_, _, rfl, q _ H2 (Ex.refl _) ?_⟩) ea_nil)) fun H2 e2 Q q => ⟨_, _, rfl, q _ H2 (Ex.refl _) ?_⟩) ea_nil) (by omega) T.n_range) (by omega) (fun _ _ _ h => h) (fun _ _ _ _ _ h => h) hY_fn fun i x Ha Hb hi ea _ yc => ?_) fun H1 v H2 e1 e2 rv Q q => ?_) fun v H1 e1 t1 rv => by
      cases rv
      exact k H1
    · show V.int _ = V.int _
      rw [List.length_map]
      congr 1
      split <;> omega
    · show V.int _ = V.int _
      congr 1
      split <;> omega
    · obtain ⟨rfl, rfl⟩ := yc
      refine ⟨_, fun s H0 C cl fp => tgt_name 1 sc_law.nd, rfl, fun s H0 C cl fp => ?_⟩
      exact evN_callGd (R1 := fits fun v H' => ∃ p, v = .ref p ∧ H' p = some (jarO p)) (cal_right (P := P) (w := w) T DF TF DC TC hne) hgd hr (by decide) (ev_call (R := fits fun v H' => ∃ p, v = .ref p ∧ H' p = some (jarO p)) (cal_jar (P := P) (w := w) (base := base) T) hr (by decide) (ea_cons (ev_name 0 rfl) (ea_cons (ev_name 1 rfl) ea_nil)) fun H1 e1 Q q => ⟨a, ns, i, rfl, ex_l e1 (sq_no (sq_exN ea hS)), by omega, by omega, fun p H' e' _ hp => q _ H' e' ⟨p, rfl, hp⟩⟩) (fun _ _ _ _ _ h => h) fun H0 x H1 e0 e1 ⟨p, ep, hp⟩ t1 Q q => ⟨p, by rw [ep], hp, t1, fun H' e' t' => q _ H' e' t' rfl⟩
    · obtain ⟨p, xs, rfl, _, hp, hall⟩ := rv
      rw [picked_all] at hall
      rw [all_true hall] at hp
      refine ⟨p, _, rfl, SqL.of hp, ?_⟩
      have e : (List.replicate (max 2 (min ns.length 3)) true).all id = true := List.all_eq_true.mpr fun b hb => by rw [(List.mem_replicate.mp hb).2]; rfl
      rw [e]
      exact q
end
end TS
/-! ## H1 -/
/-! what the head's run tells (printed by wip/gen/head1.py); the end -/
namespace TS
open PySem PySem.Spec PyProof.Rows LamX L2
section
variable {h : Heap} {mg : Str → Option Value} {K : PySem.W.Frag}
abbrev BindN (x q : Str) (st : Stmt) (ps : List Str) : Prop := ∀ (kV doc pm : Value) (an : Option Addr) (cdv ct : Value) (us : List Value), us.length = ps.length → bindArgs (PySem.W.fnOf x q (defArgs st) (defBody st) (defScope st) .none kV doc pm an cdv ct) ⟨us, []⟩ = pure (ps.zip us)
theorem defN_of {x : Str} {st : Stmt} {ps : List Str} (X : K.In h) (G : h.Ns mainGlobals mg) (c : He.SaysD fa fn K) (i j : Nat) (hi : fn[i]? = some ⟨(x, none), x, x, defArgs st, defBody st, defScope st, [], []⟩) (hj : fa[j]? = some (.glo x)) (hb : BindN x x st ps) : DefN K mg x st ps := by
  obtain ⟨fd, F⟩ := c.def_ i hi
  exact ⟨He.ga K x, fd, F, He.glo_ok X G (c.fact j hj), F.bindsN hb⟩
theorem defT_of {x : Str} {st : Stmt} {ps : List Str} (X : K.In h) (G : h.Ns mainGlobals mg) (c : He.SaysD fa fn K) (i j : Nat) (hi : fn[i]? = some ⟨(x, none), x, x, defArgs st, defBody st, defScope st, [], []⟩) (hj : fa[j]? = some (.glo x)) (hb : BindN x x st ps) : DefT K mg x st ps (He.codeOf K (x, none)) := by
  obtain ⟨fd, F⟩ := c.def_ i hi
  refine ⟨He.ga K x, fd, F, He.glo_ok X G (c.fact j hj), F.bindsN hb, ?_⟩
  obtain ⟨_, _, dV, kV, doc, pm, an, cdv, ct, _, rfl, lk, hcd, _, _⟩ := F.ex
  obtain ⟨c0, rfl⟩ := He.codeIn_ref hcd
  rw [He.codeOf_eq lk rfl]
theorem initN_of {C q : Str} {st : Stmt} {ps : List Str} (c : He.SaysD fa fn K) (i j : Nat) (hi : fn[i]? = some ⟨(C, some "__init__"), "__init__", q, defArgs st, defBody st, defScope st, [], []⟩) (hj : fa[j]? = some (.mkr C)) (hb : BindN "__init__" q st ps) :
    ∃ (f : Addr) (fd : FuncData), Mk K (He.ga K C) f ∧ FunD K "__init__" q (defArgs st) (defBody st) (defScope st) [] [] f fd ∧ Binds K fd ps [] := by
  obtain ⟨fd, F⟩ := c.def_ i hi
  exact ⟨_, fd, He.mkr_ok (c.fact j hj), F, F.bindsN hb⟩
theorem methN_of {C m q : Str} {st : Stmt} {ps : List Str} (c : He.SaysD fa fn K) (i j : Nat) (hi : fn[i]? = some ⟨(C, some m), m, q, defArgs st, defBody st, defScope st, [], []⟩) (hj : fa[j]? = some (.meth C m)) (hb : BindN m q st ps) :
    ∃ (f : Addr) (fd : FuncData), Meth K (He.ga K C) m f ∧ FunD K m q (defArgs st) (defBody st) (defScope st) [] [] f fd ∧ Binds K fd ps [] := by
  obtain ⟨fd, F⟩ := c.def_ i hi
  exact ⟨_, fd, He.meth_ok (c.fact j hj), F, F.bindsN hb⟩
theorem insC_of (c : Cls K (He.ga K "Lot")) (h : ex K = true) : C8.InsC K (He.ga K "Lot") := by
  obtain ⟨h0, _⟩ := He.ba h
  obtain ⟨h1, h2⟩ := He.ba h0
  obtain ⟨h3, h4⟩ := He.ba h2
  obtain ⟨h5, h6⟩ := He.ba h4
  obtain ⟨h7, h8⟩ := He.ba h6
  exact ⟨c, He.eqO_ok h1, He.eqO_ok h3, of_decide_eq_true h5, of_decide_eq_true h7, of_decide_eq_true h8⟩
theorem tabs_ne (h : ex K = true) : (He.cT K tfF).2 ≠ (He.cT K tfC).2 := by
  have h := (He.ba h).2
  intro z
  rw [decide_eq_true z] at h
  cases h
theorem txt_of (X : K.In h) (G : h.Ns mainGlobals mg) (c : He.SaysD fa fn K) (e : ex K = true) : Txt K mg (He.ga K "Lot") (He.ga K "Sheet") (He.ga K "Path") where
  n_len := He.free_ok X G (c.fact 46 rfl)
  n_range := He.free_ok X G (c.fact 47 rfl)
  n_tuple := He.free_ok X G (c.fact 48 rfl)
  n_isinstance := He.free_ok X G (c.fact 49 rfl)
  n_all := He.free_ok X G (c.fact 50 rfl)
  n_sum := He.free_ok X G (c.fact 51 rfl)
  n_min := He.free_ok X G (c.fact 52 rfl)
  n_max := He.free_ok X G (c.fact 53 rfl)
  n_sorted := He.free_ok X G (c.fact 54 rfl)
  n_divmod := He.free_ok X G (c.fact 55 rfl)
  n_abs := He.free_ok X G (c.fact 56 rfl)
  n_int := He.free_ok X G (c.fact 57 rfl)
  n_str := He.free_ok X G (c.fact 58 rfl)
  n_dict := He.free_ok X G (c.fact 59 rfl)
  n_enumerate := He.free_ok X G (c.fact 60 rfl)
  n_repr := He.free_ok X G (c.fact 61 rfl)
  n_bool := He.free_ok X G (c.fact 62 rfl)
  i_MOST_WORKS := He.int_ok X G (c.fact 63 rfl)
  i_MOST_HANDS := He.int_ok X G (c.fact 64 rfl)
  i_MOST_PERIOD := He.int_ok X G (c.fact 65 rfl)
  i_MOST_ROUND := He.int_ok X G (c.fact 66 rfl)
  i_LONGEST := He.int_ok X G (c.fact 67 rfl)
  t_DIGITS := He.str_ok X G (c.fact 68 rfl)
  t_LETTERS := He.str_ok X G (c.fact 69 rfl)
  t_GAP := He.str_ok X G (c.fact 70 rfl)
  d_divisor := defN_of X G c 0 0 rfl rfl (fun _ _ _ _ _ _ us hl => match us, hl with | [_, _], _ => rfl)
  d_multiple := defN_of X G c 1 1 rfl rfl (fun _ _ _ _ _ _ us hl => match us, hl with | [_, _], _ => rfl)
  d_lowest := defN_of X G c 2 2 rfl rfl (fun _ _ _ _ _ _ us hl => match us, hl with | [_, _], _ => rfl)
  d_plus := defN_of X G c 3 3 rfl rfl (fun _ _ _ _ _ _ us hl => match us, hl with | [_, _], _ => rfl)
  d_is_integer := defN_of X G c 4 4 rfl rfl (fun _ _ _ _ _ _ us hl => match us, hl with | [_], _ => rfl)
  d_is_between := defN_of X G c 5 5 rfl rfl (fun _ _ _ _ _ _ us hl => match us, hl with | [_, _, _], _ => rfl)
  d_is_name := defN_of X G c 6 6 rfl rfl (fun _ _ _ _ _ _ us hl => match us, hl with | [_], _ => rfl)
  d_read_number := defN_of X G c 7 7 rfl rfl (fun _ _ _ _ _ _ us hl => match us, hl with | [_], _ => rfl)
  d_is_share := defN_of X G c 8 8 rfl rfl (fun _ _ _ _ _ _ us hl => match us, hl with | [_], _ => rfl)
  d_read_share := defN_of X G c 9 9 rfl rfl (fun _ _ _ _ _ _ us hl => match us, hl with | [_], _ => rfl)
  d_read_work := defN_of X G c 10 10 rfl rfl (fun _ _ _ _ _ _ us hl => match us, hl with | [_], _ => rfl)
  d_read_lot := defN_of X G c 11 11 rfl rfl (fun _ _ _ _ _ _ us hl => match us, hl with | [_], _ => rfl)
  d_check_lot := defN_of X G c 12 12 rfl rfl (fun _ _ _ _ _ _ us hl => match us, hl with | [_], _ => rfl)
  d_check_round := defN_of X G c 13 13 rfl rfl (fun _ _ _ _ _ _ us hl => match us, hl with | [_], _ => rfl)
  d_ends_at := defN_of X G c 14 14 rfl rfl (fun _ _ _ _ _ _ us hl => match us, hl with | [_, _], _ => rfl)
  d_standings_at := defN_of X G c 15 15 rfl rfl (fun _ _ _ _ _ _ us hl => match us, hl with | [_, _], _ => rfl)
  d_step := defN_of X G c 16 16 rfl rfl (fun _ _ _ _ _ _ us hl => match us, hl with | [_, _], _ => rfl)
  d_given_between := defN_of X G c 17 17 rfl rfl (fun _ _ _ _ _ _ us hl => match us, hl with | [_, _, _], _ => rfl)
  d_check_both := defN_of X G c 18 18 rfl rfl (fun _ _ _ _ _ _ us hl => match us, hl with | [_], _ => rfl)
  d_first_standing := defN_of X G c 19 19 rfl rfl (fun _ _ _ _ _ _ us hl => match us, hl with | [_], _ => rfl)
  d_starts_between := defN_of X G c 20 20 rfl rfl (fun _ _ _ _ _ _ us hl => match us, hl with | [_, _], _ => rfl)
  d_calmest_from := defN_of X G c 21 21 rfl rfl (fun _ _ _ _ _ _ us hl => match us, hl with | [_, _], _ => rfl)
  d_calmest := defN_of X G c 22 22 rfl rfl (fun _ _ _ _ _ _ us hl => match us, hl with | [_], _ => rfl)
  d_fewest_starts := defN_of X G c 23 23 rfl rfl (fun _ _ _ _ _ _ us hl => match us, hl with | [_], _ => rfl)
  d_calm_table := defN_of X G c 24 24 rfl rfl (fun _ _ _ _ _ _ us hl => match us, hl with | [_], _ => rfl)
  d_law_cell := defN_of X G c 25 25 rfl rfl (fun _ _ _ _ _ _ us hl => match us, hl with | [_, _], _ => rfl)
  d_law_jar := defN_of X G c 26 26 rfl rfl (fun _ _ _ _ _ _ us hl => match us, hl with | [_, _], _ => rfl)
  d_law_dig := defN_of X G c 27 27 rfl rfl (fun _ _ _ _ _ _ us hl => match us, hl with | [_, _], _ => rfl)
  d_law_take := defN_of X G c 28 28 rfl rfl (fun _ _ _ _ _ _ us hl => match us, hl with | [_, _], _ => rfl)
  d_law_text := defN_of X G c 29 29 rfl rfl (fun _ _ _ _ _ _ us hl => match us, hl with | [_], _ => rfl)
  d_law_span := defN_of X G c 30 30 rfl rfl (fun _ _ _ _ _ _ us hl => match us, hl with | [_], _ => rfl)
  d_law_kept := defN_of X G c 31 31 rfl rfl (fun _ _ _ _ _ _ us hl => match us, hl with | [_, _, _], _ => rfl)
  d_law_near := defN_of X G c 32 32 rfl rfl (fun _ _ _ _ _ _ us hl => match us, hl with | [_, _, _], _ => rfl)
  d_law_all_at := defN_of X G c 33 33 rfl rfl (fun _ _ _ _ _ _ us hl => match us, hl with | [_, _], _ => rfl)
  d_law_sets := defN_of X G c 34 34 rfl rfl (fun _ _ _ _ _ _ us hl => match us, hl with | [_, _], _ => rfl)
  d_law_plus := defN_of X G c 35 35 rfl rfl (fun _ _ _ _ _ _ us hl => match us, hl with | [_, _], _ => rfl)
  d_law_living := defN_of X G c 36 36 rfl rfl (fun _ _ _ _ _ _ us hl => match us, hl with | [_], _ => rfl)
  d_law_is_right := defN_of X G c 37 37 rfl rfl (fun _ _ _ _ _ _ us hl => match us, hl with | [_, _], _ => rfl)
  d_law_tables := defN_of X G c 38 38 rfl rfl (fun _ _ _ _ _ _ us hl => match us, hl with | [_, _], _ => rfl)
  d_law_starts := defN_of X G c 39 39 rfl rfl (fun _ _ _ _ _ _ us hl => match us, hl with | [_], _ => rfl)
  d_law_small := defN_of X G c 40 40 rfl rfl (fun _ _ _ _ _ _ us hl => match us, hl with | [_], _ => rfl)
  d_law_right := defN_of X G c 41 41 rfl rfl (fun _ _ _ _ _ _ us hl => match us, hl with | [_], _ => rfl)
  d_law := defN_of X G c 42 42 rfl rfl (fun _ _ _ _ _ _ us hl => match us, hl with | [_], _ => rfl)
  gLot := He.glo_ok X G (c.fact 43 rfl)
  cLot := He.cls_ok (c.fact 71 rfl)
  iLot := initN_of c 43 72 rfl rfl (fun _ _ _ _ _ _ us hl => match us, hl with | [_, _], _ => rfl)
  aLot_told := He.noat_ok (c.fact 73 rfl)
  aLot_many := He.noat_ok (c.fact 74 rfl)
  aLot_works := He.noat_ok (c.fact 75 rfl)
  aLot_order := He.noat_ok (c.fact 76 rfl)
  aLot_parts := He.noat_ok (c.fact 77 rfl)
  aLot_summed := He.noat_ok (c.fact 78 rfl)
  aLot_circle := He.noat_ok (c.fact 79 rfl)
  gSheet := He.glo_ok X G (c.fact 44 rfl)
  cSheet := He.cls_ok (c.fact 80 rfl)
  iSheet := initN_of c 44 81 rfl rfl (fun _ _ _ _ _ _ us hl => match us, hl with | [_, _], _ => rfl)
  aSheet_lot := He.noat_ok (c.fact 82 rfl)
  aSheet_living := He.noat_ok (c.fact 83 rfl)
  aSheet_leads := He.noat_ok (c.fact 84 rfl)
  gPath := He.glo_ok X G (c.fact 45 rfl)
  cPath := He.cls_ok (c.fact 86 rfl)
  iPath := initN_of c 46 87 rfl rfl (fun _ _ _ _ _ _ us hl => match us, hl with | [_, _, _, _], _ => rfl)
  aPath_starts := He.noat_ok (c.fact 88 rfl)
  aPath_given := He.noat_ok (c.fact 89 rfl)
  aPath_before := He.noat_ok (c.fact 90 rfl)
  mBetween := methN_of c 45 85 rfl rfl (fun _ _ _ _ _ _ us hl => match us, hl with | [_, _, _], _ => rfl)
  insL := insC_of (He.cls_ok (c.fact 71 rfl)) e
/-- the law keeps its promise over every base -/
theorem law_ok {P : Program} {w : World} {fL : Addr} (X : K.In h) (G : h.Ns mainGlobals mg) (hfl : mg ("law" : Str) = some (.ref fL)) (c : He.SaysD fa fn K) (e : ex K = true) :
    ∃ fd : FuncData, (∀ (s : Shared) (u : Value), BindsTo s fd ⟨[u], []⟩ [("_law_cells", u)]) ∧ ∀ base : Heap, K.In base → base.Ns mainGlobals mg → (∀ p ∈ [He.cT K tfF, He.cT K tfC], TabB base mg p.1 p.2) →
      FnG P w K mg base 9 fL fd ["_law_cells"] (spLaw K (tabT (He.cT K tfF).2 (He.cT K tfC).2)) := by
  obtain ⟨fd, F⟩ := c.def_ 42 (d := d_law) rfl
  have b := FunD.bindsA (ps := ["_law_cells"]) F (fun _ _ _ _ _ _ us hl => match us, hl with | [_], _ => rfl)
  have T := txt_of X G c e
  have DF := defT_of (ps := ["sheet", "first"]) X G c 21 21 rfl rfl (fun _ _ _ _ _ _ us hl => match us, hl with | [_, _], _ => rfl)
  have DC := defT_of (ps := ["lot"]) X G c 22 22 rfl rfl (fun _ _ _ _ _ _ us hl => match us, hl with | [_], _ => rfl)
  have hL := hfl.symm.trans (He.glo_ok X G (c.fact 42 (f := .glo "law") rfl))
  obtain rfl : fL = He.ga K "law" := by cases hL; rfl
  refine ⟨fd, fun s v => b s [v] rfl, fun base _ _ TB => ?_⟩
  exact fn_law (P := P) (w := w) (base := base) T DF (TB _ List.mem_cons_self) DC (TB _ (List.mem_cons_of_mem _ List.mem_cons_self)) (tabs_ne e) F
end
end TS
/-! ## H2 -/
namespace TS
open PySem PySem.Spec PyProof.Rows LamX L2
abbrev csOf (K : PySem.W.Frag) : List (Addr × Addr) := [He.cT K tfF, He.cT K tfC]
theorem cs_all {K : PySem.W.Frag} {Pr : Addr × Addr → Prop} (h : ∀ p ∈ tf, Pr (He.cT K p)) : ∀ q ∈ csOf K, Pr q := fun q hq => by
  rcases (List.mem_cons).mp hq with rfl | hq
  · exact h tfF List.mem_cons_self
  · cases List.mem_singleton.mp hq
    exact h tfC (List.mem_cons_of_mem _ List.mem_cons_self)
theorem tabs_start {K : PySem.W.Frag} {H : Hp} (h : ∀ p ∈ csOf K, H p.2 = some (.tbl #[])) : Tabs (tabT (He.cT K tfF).2 (He.cT K tfC).2) H := fun p hp => by
  rcases (List.mem_cons).mp hp with rfl | hp
  · exact TabS.nil (h _ List.mem_cons_self)
  · obtain rfl := List.mem_singleton.mp hp
    exact TabS.nil (h _ (List.mem_cons_of_mem _ List.mem_cons_self))
end TS
open PySem PySem.W PySem.Calls PyProof.Rows
set_option maxHeartbeats 0 in
theorem PySem.Challenge.cw_tickshares_k33_whole_fewest_starts_holds : PySem.Challenge.rw_tickshares_k33_whole_fewest_starts.Holds := by
  w_on; o_law
  refine HandSHeadRun.head_any (r := OpenLaw.row PySem.Challenge.rw_tickshares_k33_whole_fewest_starts) (q := view (OpenLaw.row PySem.Challenge.rw_tickshares_k33_whole_fewest_starts).prog [72]) (H := TS.hk) (ob := TS.ob) (M := 6000) (loose := TS.names) (d := HandSHeadRun.topDef (OpenLaw.row PySem.Challenge.rw_tickshares_k33_whole_fewest_starts).prog 72) (kwd := []) TS.ob_eq
    (by kernel_rfl) (fun s => by kernel_rfl) TS.run (by kernel_rfl) (by kernel_rfl) (by kernel_rfl) (by rfl) (by first | assumption | decide +kernel) (by decide +kernel) ⟨rfl, rfl, rfl, rfl, rfl, by decide +kernel⟩ ?hw ?hc
  case hw => w_witness2
  case hc =>
    refine TS.walk_ofG (l := PySem.Challenge.rw_tickshares_k33_whole_fewest_starts) (n := 63) (k := 9) (x := "_law_cells") rfl (by decide) ⟨rfl, by decide, by decide⟩ (by kernel_rfl) ?F
    intro w mg fa h Y G hmg0
    obtain ⟨K, KX, c⟩ := Y
    have e : (HandSHeadRun.topDef (OpenLaw.row PySem.Challenge.rw_tickshares_k33_whole_fewest_starts).prog 72).name = ("law" : PySem.Str) := by kernel_rfl
    rw [e] at hmg0
    obtain ⟨fd, hb, hF⟩ := TS.law_ok (P := PySem.Challenge.rw_tickshares_k33_whole_fewest_starts.prog) (w := w) KX G hmg0 c.t.d c.more
    exact ⟨K, fd, TS.csOf K, _, KX, TS.cs_all c.empty, TS.cs_all c.out, TS.cs_all fun p hp => codeHd_of_K KX (c.hd p hp), hb, fun H a ns hl hT hS => ⟨a, ns, rfl, hS, hl, TS.tabs_start hT, fun _ => rfl⟩, hF⟩
