import PyProof.Rows.All
import Wide.All
import OpenK.AllK
import Wide.FinOn
import KE.KStateDown
import HandS.ForMost
import HandS.Lambda
import HandS.WordsExc
import HandS.Defaults
import HandS.Head0
import HandS.Head1
import HandS.Head2
import HandS.HeadEnd
import HandS.HeadWalk
import HandS.HeadHook4
import HandS.Walk
import HandS.Deep
import HandS.Star
import HandS.TupAny
import HandS.TupMul
import HandS.Zip
import HandS.Conv
import HandS.IsInst
import HandS.Style
import HandS.Wide
import HandS.SortInts
import KE.GoesMore
import KE.GoesEnum
import PyProof.SumWalkG
import PyProof.WalksMore
import PyProof.ReprRoads
import KE.KeyNested
import KE.KDictKeyed
import KE.KDictDisplayH
import HandS.TupLen
import KE.SortKeyHeap
import KE.KSortKey
import HandS.ExcValue
import KE.SortData
import HandS.EndTab
import HandS.EndBits
import PySem.Challenge.RW_booklimits_k46_whole_nested_limits
set_option Elab.async false
set_option linter.all false
set_option autoImplicit false
set_option maxRecDepth 100000
set_option maxHeartbeats 0
namespace Bl
open PySem PySem.Spec PyProof.Rows L2
def topS (i : Nat) : Stmt := PySem.Challenge.pw_booklimits_k46_whole_nested_limits.main.body.getD i (.Pass ⟨0, 0, 0, 0⟩)
abbrev s_is_whole : Stmt := topS 24
abbrev s_need_hall : Stmt := topS 25
abbrev s_are_limits : Stmt := topS 26
abbrev s_is_plain : Stmt := topS 27
abbrev s_is_word : Stmt := topS 28
abbrev s_parts_of : Stmt := topS 29
abbrev s_need_rule : Stmt := topS 30
abbrev s_need_kind : Stmt := topS 31
abbrev s_none_of : Stmt := topS 33
abbrev s_with_more : Stmt := topS 34
abbrev s_cheapest_sold : Stmt := topS 35
abbrev s_seen_with : Stmt := topS 36
abbrev s_worth_of : Stmt := topS 37
abbrev s_common : Stmt := topS 38
abbrev s_fraction : Stmt := topS 39
abbrev s_need_what : Stmt := topS 46
abbrev s_need_game : Stmt := topS 47
abbrev s_first_game : Stmt := topS 48
abbrev s_fares_in : Stmt := topS 49
abbrev s_behind_no : Stmt := topS 50
abbrev s_behind_all : Stmt := topS 51
abbrev s_worth_if : Stmt := topS 52
abbrev s_is_worse : Stmt := topS 53
abbrev s_worse : Stmt := topS 54
abbrev s_better : Stmt := topS 55
abbrev s_rank_of : Stmt := topS 56
abbrev s_turns_of : Stmt := topS 57
abbrev s_game_net : Stmt := topS 58
abbrev s_worths_of : Stmt := topS 59
abbrev s_plain : Stmt := topS 60
abbrev s_kept_worth : Stmt := topS 61
abbrev s_least_regret : Stmt := topS 62
abbrev s_greatest_share : Stmt := topS 63
abbrev s_all_limits : Stmt := topS 65
abbrev s_parts_sold : Stmt := topS 66
abbrev s_worth_to : Stmt := topS 67
abbrev s_worst_limits : Stmt := topS 68
abbrev s_need_limits : Stmt := topS 69
abbrev s_worst_nested : Stmt := topS 70
abbrev s_best_worth : Stmt := topS 71
abbrev s_best_nested : Stmt := topS 72
abbrev s_nested_worth : Stmt := topS 73
abbrev s_worst_fares : Stmt := topS 74
abbrev s_better_nested : Stmt := topS 75
abbrev s__law_mixed : Stmt := topS 77
abbrev s__law_folded : Stmt := topS 78
abbrev s__law_draw : Stmt := topS 79
abbrev s__law_begun : Stmt := topS 80
abbrev s__law_like : Stmt := topS 81
abbrev s__law_of : Stmt := topS 82
abbrev s__law_yard : Stmt := topS 83
abbrev s__law_lets : Stmt := topS 84
abbrev s__law_step : Stmt := topS 85
abbrev s__law_dearest : Stmt := topS 86
abbrev s__law_sum : Stmt := topS 87
abbrev s__law_lowest : Stmt := topS 88
abbrev s__law_seen_more : Stmt := topS 89
abbrev s__law_may : Stmt := topS 90
abbrev s__law_worth_if : Stmt := topS 91
abbrev s__law_is_worse : Stmt := topS 92
abbrev s__law_top : Stmt := topS 93
abbrev s__law_plain : Stmt := topS 94
abbrev s__law_told : Stmt := topS 95
abbrev s__law_limits_of : Stmt := topS 96
abbrev s__law_all_worst : Stmt := topS 97
abbrev s__law_up_to : Stmt := topS 98
abbrev s__law_worst : Stmt := topS 99
abbrev s__law_best_right : Stmt := topS 100
abbrev s__law_one_right : Stmt := topS 101
abbrev s_law : Stmt := topS 102
/-! ### the head's facts, told by names -/
def dd (x : Str) (st : Stmt) : He.DefD := ⟨(x, none), x, x, defArgs st, defBody st, defScope st, [], []⟩
def d_is_whole : He.DefD := dd "is_whole" s_is_whole
def d_need_hall : He.DefD := dd "need_hall" s_need_hall
def d_are_limits : He.DefD := dd "are_limits" s_are_limits
def d_is_plain : He.DefD := dd "is_plain" s_is_plain
def d_is_word : He.DefD := dd "is_word" s_is_word
def d_parts_of : He.DefD := dd "parts_of" s_parts_of
def d_need_rule : He.DefD := dd "need_rule" s_need_rule
def d_need_kind : He.DefD := dd "need_kind" s_need_kind
def d_none_of : He.DefD := dd "none_of" s_none_of
def d_with_more : He.DefD := dd "with_more" s_with_more
def d_cheapest_sold : He.DefD := dd "cheapest_sold" s_cheapest_sold
def d_seen_with : He.DefD := dd "seen_with" s_seen_with
def d_worth_of : He.DefD := dd "worth_of" s_worth_of
def d_common : He.DefD := dd "common" s_common
def d_fraction : He.DefD := dd "fraction" s_fraction
def d_need_what : He.DefD := dd "need_what" s_need_what
def d_need_game : He.DefD := dd "need_game" s_need_game
def d_first_game : He.DefD := dd "first_game" s_first_game
def d_fares_in : He.DefD := dd "fares_in" s_fares_in
def d_behind_no : He.DefD := dd "behind_no" s_behind_no
def d_behind_all : He.DefD := dd "behind_all" s_behind_all
def d_worth_if : He.DefD := dd "worth_if" s_worth_if
def d_is_worse : He.DefD := dd "is_worse" s_is_worse
def d_worse : He.DefD := dd "worse" s_worse
def d_better : He.DefD := dd "better" s_better
def d_rank_of : He.DefD := dd "rank_of" s_rank_of
def d_turns_of : He.DefD := dd "turns_of" s_turns_of
def d_game_net : He.DefD := dd "game_net" s_game_net
def d_worths_of : He.DefD := dd "worths_of" s_worths_of
def d_plain : He.DefD := dd "plain" s_plain
def d_kept_worth : He.DefD := dd "kept_worth" s_kept_worth
def d_least_regret : He.DefD := dd "least_regret" s_least_regret
def d_greatest_share : He.DefD := dd "greatest_share" s_greatest_share
def d_all_limits : He.DefD := dd "all_limits" s_all_limits
def d_parts_sold : He.DefD := dd "parts_sold" s_parts_sold
def d_worth_to : He.DefD := dd "worth_to" s_worth_to
def d_worst_limits : He.DefD := dd "worst_limits" s_worst_limits
def d_need_limits : He.DefD := dd "need_limits" s_need_limits
def d_worst_nested : He.DefD := dd "worst_nested" s_worst_nested
def d_best_worth : He.DefD := dd "best_worth" s_best_worth
def d_best_nested : He.DefD := dd "best_nested" s_best_nested
def d_nested_worth : He.DefD := dd "nested_worth" s_nested_worth
def d_worst_fares : He.DefD := dd "worst_fares" s_worst_fares
def d_better_nested : He.DefD := dd "better_nested" s_better_nested
def d__law_mixed : He.DefD := dd "_law_mixed" s__law_mixed
def d__law_folded : He.DefD := dd "_law_folded" s__law_folded
def d__law_draw : He.DefD := dd "_law_draw" s__law_draw
def d__law_begun : He.DefD := dd "_law_begun" s__law_begun
def d__law_like : He.DefD := dd "_law_like" s__law_like
def d__law_of : He.DefD := dd "_law_of" s__law_of
def d__law_yard : He.DefD := dd "_law_yard" s__law_yard
def d__law_lets : He.DefD := dd "_law_lets" s__law_lets
def d__law_step : He.DefD := dd "_law_step" s__law_step
def d__law_dearest : He.DefD := dd "_law_dearest" s__law_dearest
def d__law_sum : He.DefD := dd "_law_sum" s__law_sum
def d__law_lowest : He.DefD := dd "_law_lowest" s__law_lowest
def d__law_seen_more : He.DefD := dd "_law_seen_more" s__law_seen_more
def d__law_may : He.DefD := dd "_law_may" s__law_may
def d__law_worth_if : He.DefD := dd "_law_worth_if" s__law_worth_if
def d__law_is_worse : He.DefD := dd "_law_is_worse" s__law_is_worse
def d__law_top : He.DefD := dd "_law_top" s__law_top
def d__law_plain : He.DefD := dd "_law_plain" s__law_plain
def d__law_told : He.DefD := dd "_law_told" s__law_told
def d__law_limits_of : He.DefD := dd "_law_limits_of" s__law_limits_of
def d__law_all_worst : He.DefD := dd "_law_all_worst" s__law_all_worst
def d__law_up_to : He.DefD := dd "_law_up_to" s__law_up_to
def d__law_worst : He.DefD := dd "_law_worst" s__law_worst
def d__law_best_right : He.DefD := dd "_law_best_right" s__law_best_right
def d__law_one_right : He.DefD := dd "_law_one_right" s__law_one_right
def d_law : He.DefD := dd "law" s_law
def fn : List He.DefD := ([d_is_whole, d_need_hall, d_are_limits, d_is_plain, d_is_word, d_parts_of, d_need_rule, d_need_kind, d_none_of, d_with_more, d_cheapest_sold, d_seen_with, d_worth_of, d_common, d_fraction, d_need_what, d_need_game, d_first_game, d_fares_in, d_behind_no, d_behind_all, d_worth_if, d_is_worse, d_worse, d_better, d_rank_of, d_turns_of, d_game_net, d_worths_of, d_plain] : List He.DefD) ++ ([d_kept_worth, d_least_regret, d_greatest_share, d_all_limits, d_parts_sold, d_worth_to, d_worst_limits, d_need_limits, d_worst_nested, d_best_worth, d_best_nested, d_nested_worth, d_worst_fares, d_better_nested, d__law_mixed, d__law_folded, d__law_draw, d__law_begun, d__law_like, d__law_of, d__law_yard, d__law_lets, d__law_step, d__law_dearest, d__law_sum, d__law_lowest, d__law_seen_more, d__law_may, d__law_worth_if, d__law_is_worse] : List He.DefD) ++ ([d__law_top, d__law_plain, d__law_told, d__law_limits_of, d__law_all_worst, d__law_up_to, d__law_worst, d__law_best_right, d__law_one_right, d_law] : List He.DefD)
def fa : List He.Fa := ([.glo "is_whole", .glo "need_hall", .glo "are_limits", .glo "is_plain", .glo "is_word", .glo "parts_of", .glo "need_rule", .glo "need_kind", .glo "none_of", .glo "with_more", .glo "cheapest_sold", .glo "seen_with", .glo "worth_of", .glo "common", .glo "fraction", .glo "need_what", .glo "need_game", .glo "first_game", .glo "fares_in", .glo "behind_no", .glo "behind_all", .glo "worth_if", .glo "is_worse", .glo "worse", .glo "better", .glo "rank_of", .glo "turns_of", .glo "game_net", .glo "worths_of", .glo "plain"] : List He.Fa) ++ ([.glo "kept_worth", .glo "least_regret", .glo "greatest_share", .glo "all_limits", .glo "parts_sold", .glo "worth_to", .glo "worst_limits", .glo "need_limits", .glo "worst_nested", .glo "best_worth", .glo "best_nested", .glo "nested_worth", .glo "worst_fares", .glo "better_nested", .glo "_law_mixed", .glo "_law_folded", .glo "_law_draw", .glo "_law_begun", .glo "_law_like", .glo "_law_of", .glo "_law_yard", .glo "_law_lets", .glo "_law_step", .glo "_law_dearest", .glo "_law_sum", .glo "_law_lowest", .glo "_law_seen_more", .glo "_law_may", .glo "_law_worth_if", .glo "_law_is_worse"] : List He.Fa) ++ ([.glo "_law_top", .glo "_law_plain", .glo "_law_told", .glo "_law_limits_of", .glo "_law_all_worst", .glo "_law_up_to", .glo "_law_worst", .glo "_law_best_right", .glo "_law_one_right", .glo "law", .free "int", .free "str", .free "bool", .free "tuple", .free "list", .free "isinstance", .free "len", .free "all", .free "zip", .free "enumerate", .free "sum", .free "range", .free "max", .free "sorted", .free "repr", .int "MOST_SEATS" 6, .int "MOST_FARES" 4, .int "MOST_FARE" 99, .int "MOST_FEE" 99, .int "MOST_WORDS" 7] : List He.Fa) ++ ([.int "MOST_DEEP" 3, .str "APART" "apart", .str "NESTED" "nested", .str "KEPT" "kept", .str "ALL" "all", .str "ANY" "any", .str "OUST" "oust", .str "RISING" "rising", .int "MOST_GAME" 20000, .str "REGRET" "regret", .str "SHARE" "share", .str "YES" "yes", .str "NO" "no"] : List He.Fa)
def tf : List He.Defn := [("law", none), ("worths_of", none)]
def ex1 : PySem.W.Frag → Bool := fun K => !decide ((He.cT K ("law", none)).2 = (He.cT K ("worths_of", none)).2)
def loose : List PySem.Str := (["CallError", "BadHall", "BadRule", "BadKind", "BadCall", "BadMeasure", "BadPaper", "BadState", "TooGreat", "MOST_SEATS", "MOST_FARES", "MOST_FARE", "MOST_FEE", "MOST_WORDS", "MOST_DEEP", "APART", "NESTED", "KEPT", "ALL", "ANY", "OUST", "RISING", "is_whole", "need_hall", "are_limits", "is_plain", "is_word", "parts_of", "need_rule", "need_kind"] : List PySem.Str) ++ (["none_of", "with_more", "cheapest_sold", "seen_with", "worth_of", "common", "fraction", "MOST_GAME", "REGRET", "SHARE", "YES", "NO", "need_what", "need_game", "first_game", "fares_in", "behind_no", "behind_all", "worth_if", "is_worse", "worse", "better", "rank_of", "turns_of", "game_net", "worths_of", "plain", "kept_worth", "least_regret", "greatest_share"] : List PySem.Str) ++ (["all_limits", "parts_sold", "worth_to", "worst_limits", "need_limits", "worst_nested", "best_worth", "best_nested", "nested_worth", "worst_fares", "better_nested", "_law_mixed", "_law_folded", "_law_draw", "_law_begun", "_law_like", "_law_of", "_law_yard", "_law_lets", "_law_step", "_law_dearest", "_law_sum", "_law_lowest", "_law_seen_more", "_law_may", "_law_worth_if", "_law_is_worse", "_law_top", "_law_plain", "_law_told"] : List PySem.Str) ++ (["_law_limits_of", "_law_all_worst", "_law_up_to", "_law_worst", "_law_best_right", "_law_one_right"] : List PySem.Str)
abbrev R : PySem.W.OpenRow := PySem.W.OpenLaw.row PySem.Challenge.rw_booklimits_k46_whole_nested_limits
abbrev hk : PySem.W.Hook := He.hookX 2 fa fn [] tf ex1
def ob (s : PySem.W.SharedT) : He.AlX := He.obsX 2 fa fn [] tf ex1 (HandSHeadRun.getT s)
theorem ob_eq (s : PySem.W.SharedT) : ob s = hk.obs s.abs := He.obsX_eq (HandSHeadRun.getT_eq s)
theorem run (w : World) : HandSHeadRun.RunEq R (PySem.W.view R.prog [102]) hk ob 5000 loose w := by
  intro os
  kernel_rfl
end Bl
set_option Elab.async false
set_option linter.all false
set_option autoImplicit false
set_option maxRecDepth 100000
set_option maxHeartbeats 2000000
namespace Bl
open PySem PySem.Spec PyProof.Rows L2 LamX

theorem sl_of {n : Nat} (h : n ≤ 10000000) : n < sizeLine := by
  have : sizeLine = 16777216 := by decide
  omega
theorem sl_le {n : Nat} (h : n ≤ 10000000) : n ≤ sizeLine := Nat.le_of_lt (sl_of h)
/-! ### heaps that grow -/
/-- what may change: a list, a dict, an object told by a fact (no code object) -/
def Mu : HO → Prop
  | .lst _ => True
  | .dK _ => True
  | .ext φ => ∀ c q, HO.ext φ ≠ CodeO c q
  | _ => False
/-- what stood stands (a table of code objects may have grown) -/
structure Ex (H H' : Hp) : Prop where
  keep : ∀ b o, H b = some o → (∀ ps, o ≠ .tbl ps) → H' b = some o
  tbl : ∀ b ps, H b = some (.tbl ps) → ∃ ps', H' b = some (.tbl ps')
  tabs : ∀ P q, TabS H P q → TabS H' P q
theorem Ex.all {H H' : Hp} (e : ∀ b o, H b = some o → H' b = some o) : Ex H H' := ⟨fun b o h _ => e b o h, fun b ps h => ⟨ps, e b _ h⟩, fun _ _ t => t.ext e⟩
theorem Ex.refl (H : Hp) : Ex H H := .all fun _ _ h => h
theorem Ex.trans {H H1 H2 : Hp} (a : Ex H H1) (b : Ex H1 H2) : Ex H H2 :=
  ⟨fun x o h n => b.keep x o (a.keep x o h n) n, fun x ps h => let ⟨_, e⟩ := a.tbl x ps h; b.tbl x _ e, fun P q t => b.tabs P q (a.tabs P q t)⟩
theorem Ex.new {H : Hp} {p : Addr} {o : HO} (h : H p = none) : Ex H (upd H p o) := .all fun b x e => by
  rw [upd_ne (ne_of_none e h)]
  exact e
theorem tbl_or (o : HO) : (∃ ps, o = .tbl ps) ∨ ∀ ps, o ≠ .tbl ps := by
  cases o <;> first | exact .inl ⟨_, rfl⟩ | exact .inr fun _ z => nomatch z
theorem Ex.has {H H' : Hp} (e : Ex H H') (b : Addr) (o : HO) (h : H b = some o) : ∃ u, H' b = some u := by
  rcases tbl_or o with ⟨ps, rfl⟩ | n
  · obtain ⟨ps', z⟩ := e.tbl b ps h
    exact ⟨_, z⟩
  · exact ⟨o, e.keep b o h n⟩
/-- a list that stands where something was known is that -/
theorem Ex.lst_back {H H' : Hp} {b : Addr} {o : HO} {xs : List V} (e : Ex H H') (h : H b = some o) (h' : H' b = some (.lst xs)) : H b = some (.lst xs) := by
  rcases tbl_or o with ⟨ps, rfl⟩ | n
  · obtain ⟨ps', z⟩ := e.tbl b ps h
    rw [h'] at z
    cases z
  · rw [e.keep b o h n] at h'
    rw [h, h']
theorem Ex.free {H H' : Hp} {p : Addr} (e : Ex H H') (h : H' p = none) : H p = none := by
  cases q : H p with
  | none => rfl
  | some o =>
    obtain ⟨u, z⟩ := e.has p o q
    rw [h] at z
    cases z
theorem Ex.tup {H H' : Hp} {a : Addr} {xs : List V} (e : Ex H H') (h : H a = some (.tup xs)) : H' a = some (.tup xs) := e.keep a _ h fun _ z => nomatch z
theorem Ex.lst {H H' : Hp} {a : Addr} {xs : List V} (e : Ex H H') (h : H a = some (.lst xs)) : H' a = some (.lst xs) := e.keep a _ h fun _ z => nomatch z
theorem mu_ne {H : Hp} {p c : Addr} {u o : HO} (m : Mu u) (h : H p = some u) (h' : H c = some o) (n : ¬ Mu o) : c ≠ p := fun e => by
  subst e
  rw [h] at h'
  cases h'
  exact n m
theorem code_nm (c : Addr) (q : Str) : ¬ Mu (CodeO c q) := fun h => by
  unfold CodeO Mu at h
  exact h c q rfl
theorem tbl_nm (ps : Array Value) : ¬ Mu (.tbl ps) := fun h => h
/-- tables stay where all but one object that may change stays -/
theorem tab_but {H H' : Hp} {p P : Addr} {q : Str} {u : HO} (t : TabS H P q) (hp : H p = some u) (m : Mu u) (e : ∀ b o, b ≠ p → H b = some o → H' b = some o) : TabS H' P q := by
  obtain ⟨ps, h1, h2, h3⟩ := t
  refine ⟨ps, e _ _ (mu_ne m hp h1 (tbl_nm ps)) h1, h2, fun pos cv hc => ?_⟩
  obtain ⟨c, e1, e2⟩ := h3 pos cv hc
  exact ⟨c, e1, e _ _ (mu_ne m hp e2 (code_nm c q)) e2⟩
/-- what is new to H may change -/
theorem Ex.mut {H H' : Hp} {p : Addr} {u o : HO} (e : Ex H H') (hp : H p = none) (hm : H' p = some u) (m : Mu u) : Ex H (upd H' p o) where
  keep := fun b x h n => by
    rw [upd_ne (ne_of_none h hp)]
    exact e.keep b x h n
  tbl := fun b x h => by
    rw [upd_ne (ne_of_none h hp)]
    exact e.tbl b x h
  tabs := fun P q t => tab_but (e.tabs P q t) hm m fun b x hb h => by
    rw [upd_ne hb]
    exact h
/-- H without what stands at p -/
def Wo (p : Addr) (H : Hp) : Hp := fun b => if b = p then none else H b
theorem wo_self {p : Addr} {H : Hp} : Wo p H p = none := if_pos rfl
theorem wo_ne {p b : Addr} {H : Hp} (h : b ≠ p) : Wo p H b = H b := if_neg h
theorem wo_some {p b : Addr} {H : Hp} {o : HO} (h : Wo p H b = some o) : b ≠ p ∧ H b = some o := by
  unfold Wo at h
  split at h
  · cases h
  · exact ⟨by assumption, h⟩
theorem wo_ex {p : Addr} {H : Hp} : Ex (Wo p H) H := .all fun _ _ h => (wo_some h).2
theorem wo_upd {p : Addr} {H : Hp} {o : HO} : Wo p (upd H p o) = Wo p H := by
  funext b
  unfold Wo
  by_cases h : b = p
  · rw [if_pos h, if_pos h]
  · rw [if_neg h, if_neg h, upd_ne h]
theorem Ex.wo {B H : Hp} {p : Addr} {u : HO} (e : Ex B H) (hp : B p = none) (hm : H p = some u) (m : Mu u) : Ex B (Wo p H) where
  keep := fun b x h n => by
    rw [wo_ne (ne_of_none h hp)]
    exact e.keep b x h n
  tbl := fun b x h => by
    rw [wo_ne (ne_of_none h hp)]
    exact e.tbl b x h
  tabs := fun P q t => tab_but (e.tabs P q t) hm m fun b x hb h => by
    rw [wo_ne hb]
    exact h
theorem Ex.wo2 {H H' : Hp} {p : Addr} {u : HO} (e : Ex H H') (hm : H p = some u) (m : Mu u) : Ex (Wo p H) (Wo p H') := by
  have n : ∀ ps, u ≠ .tbl ps := fun ps z => by
    rw [z] at m
    exact m
  exact (wo_ex.trans e).wo wo_self (e.keep p u hm n) m
/-- H without what may change and is not among G -/
noncomputable def Rs (G : Addr → Prop) (H : Hp) : Hp := open Classical in fun a => if G a ∨ ∀ u, H a = some u → ¬ Mu u then H a else none
theorem rs_some {G : Addr → Prop} {H : Hp} {a : Addr} {o : HO} (h : Rs G H a = some o) : H a = some o ∧ (Mu o → G a) := by
  unfold Rs at h
  split at h
  · rename_i c
    refine ⟨h, fun m => ?_⟩
    rcases c with c | c
    · exact c
    · exact absurd m (c o h)
  · cases h
theorem rs_at {G : Addr → Prop} {H : Hp} {a : Addr} {o : HO} (h : H a = some o) (g : Mu o → G a) : Rs G H a = some o := by
  unfold Rs
  rw [if_pos]
  · exact h
  · by_cases m : Mu o
    · exact .inl (g m)
    · exact .inr fun u e => by
        rw [h] at e
        cases e
        exact m
theorem rs_ex {G : Addr → Prop} {H : Hp} : Ex (Rs G H) H := .all fun _ _ h => (rs_some h).1
theorem Ex.rs {B H : Hp} {G : Addr → Prop} (e : Ex B H) (g : ∀ a o, B a = some o → G a) : Ex B (Rs G H) where
  keep := fun b x h n => rs_at (e.keep b x h n) fun _ => g b x h
  tbl := fun b x h => by
    obtain ⟨u, z⟩ := e.tbl b x h
    exact ⟨u, rs_at z fun m => (tbl_nm u m).elim⟩
  tabs := fun P q t => by
    obtain ⟨ps, h1, h2, h3⟩ := e.tabs P q t
    refine ⟨ps, rs_at h1 fun m => (tbl_nm ps m).elim, h2, fun pos cv hc => ?_⟩
    obtain ⟨c, e1, e2⟩ := h3 pos cv hc
    exact ⟨c, e1, rs_at e2 fun m => (code_nm c q m).elim⟩

/-! ### data at a value; lists stand at addresses of G -/
mutual
inductive Rp (G : Addr → Prop) (H : Hp) : V → PyData → Prop
  | non : Rp G H .non .none
  | bl (b : Bool) : Rp G H (.bl b) (.bool b)
  | int (i : Int) : Rp G H (.int i) (.int i)
  | str (x : Str) : Rp G H (.str x) (.str x)
  | lst {a : Addr} {xs : List V} {ds : List PyData} : G a → H a = some (.lst xs) → Rps G H xs ds → Rp G H (.ref a) (.list ds)
  | tup {a : Addr} {xs : List V} {ds : List PyData} : H a = some (.tup xs) → Rps G H xs ds → Rp G H (.ref a) (.tuple ds)
inductive Rps (G : Addr → Prop) (H : Hp) : List V → List PyData → Prop
  | nil : Rps G H [] []
  | cons {v : V} {vs : List V} {d : PyData} {ds : List PyData} : Rp G H v d → Rps G H vs ds → Rps G H (v :: vs) (d :: ds)
end
abbrev All (_ : Addr) : Prop := True
abbrev Is (H : Hp) : V → PyData → Prop := Rp All H
abbrev Iss (H : Hp) : List V → List PyData → Prop := Rps All H
/-- known to B -/
abbrev Kn (B : Hp) (a : Addr) : Prop := ∃ o, B a = some o
/-- known to B, or new since H -/
abbrev Nw (B H : Hp) (a : Addr) : Prop := (∃ o, B a = some o) ∨ H a = none
abbrev Fr0 (H : Hp) (a : Addr) : Prop := H a = none
section
variable {G G' : Addr → Prop} {H H' : Hp}
mutual
theorem Rp.to (g : ∀ a xs, G a → H a = some (.lst xs) → G' a ∧ H' a = some (.lst xs)) (t : ∀ a xs, H a = some (.tup xs) → H' a = some (.tup xs)) : ∀ (d : PyData) (v : V), Rp G H v d → Rp G' H' v d
  | .none, _, h => by cases h; exact .non
  | .bool b, _, h => by cases h; exact .bl b
  | .int i, _, h => by cases h; exact .int i
  | .str x, _, h => by cases h; exact .str x
  | .list ds, _, h => by
    cases h with
    | lst h1 h2 h3 => exact .lst (g _ _ h1 h2).1 (g _ _ h1 h2).2 (Rps.to g t ds _ h3)
  | .tuple ds, _, h => by
    cases h with
    | tup h1 h2 => exact .tup (t _ _ h1) (Rps.to g t ds _ h2)
  | .dict _, _, h => by cases h
theorem Rps.to (g : ∀ a xs, G a → H a = some (.lst xs) → G' a ∧ H' a = some (.lst xs)) (t : ∀ a xs, H a = some (.tup xs) → H' a = some (.tup xs)) : ∀ (ds : List PyData) (vs : List V), Rps G H vs ds → Rps G' H' vs ds
  | [], _, h => by cases h; exact .nil
  | d :: ds, _, h => by
    cases h with
    | cons h1 h2 => exact .cons (Rp.to g t d _ h1) (Rps.to g t ds _ h2)
end
theorem Rp.mono {v : V} {d : PyData} (h : Rp G H v d) (g : ∀ a, G a → G' a) (e : Ex H H') : Rp G' H' v d := Rp.to (fun a xs z q => ⟨g a z, e.lst q⟩) (fun a xs q => e.tup q) d v h
theorem Rps.mono {vs : List V} {ds : List PyData} (h : Rps G H vs ds) (g : ∀ a, G a → G' a) (e : Ex H H') : Rps G' H' vs ds := Rps.to (fun a xs z q => ⟨g a z, e.lst q⟩) (fun a xs q => e.tup q) ds vs h
theorem Rp.up {v : V} {d : PyData} (h : Rp G H v d) (e : Ex H H') : Is H' v d := h.mono (fun _ _ => trivial) e
theorem Rps.up {vs : List V} {ds : List PyData} (h : Rps G H vs ds) (e : Ex H H') : Iss H' vs ds := h.mono (fun _ _ => trivial) e
theorem Rp.is {v : V} {d : PyData} (h : Rp G H v d) : Is H v d := h.up (Ex.refl H)
theorem Rps.is {vs : List V} {ds : List PyData} (h : Rps G H vs ds) : Iss H vs ds := h.up (Ex.refl H)
/-- what is known is known to stand -/
theorem Rp.kn {v : V} {d : PyData} (h : Rp G H v d) : Rp (Kn H) H v d := Rp.to (fun a xs _ q => ⟨⟨_, q⟩, q⟩) (fun _ _ q => q) d v h
theorem Rps.kn {vs : List V} {ds : List PyData} (h : Rps G H vs ds) : Rps (Kn H) H vs ds := Rps.to (fun a xs _ q => ⟨⟨_, q⟩, q⟩) (fun _ _ q => q) ds vs h
theorem Rp.rs {v : V} {d : PyData} (h : Rp G H v d) : Is (Rs G H) v d := Rp.to (fun a xs z q => ⟨trivial, rs_at q fun _ => z⟩) (fun a xs q => rs_at q fun m => m.elim) d v h
theorem Rps.rs {vs : List V} {ds : List PyData} (h : Rps G H vs ds) : Iss (Rs G H) vs ds := Rps.to (fun a xs z q => ⟨trivial, rs_at q fun _ => z⟩) (fun a xs q => rs_at q fun m => m.elim) ds vs h
/-- without an object that may change and is none of G -/
theorem Rp.wo {p : Addr} {u : HO} {v : V} {d : PyData} (h : Rp G H v d) (hp : H p = some u) (m : Mu u) (n : ¬ G p) : Rp G (Wo p H) v d :=
  Rp.to (fun a xs z q => ⟨z, by rw [wo_ne (show a ≠ p from fun e => n (e ▸ z))]; exact q⟩) (fun a xs q => by rw [wo_ne (mu_ne m hp q fun z => z)]; exact q) d v h
theorem Rps.wo {p : Addr} {u : HO} {vs : List V} {ds : List PyData} (h : Rps G H vs ds) (hp : H p = some u) (m : Mu u) (n : ¬ G p) : Rps G (Wo p H) vs ds :=
  Rps.to (fun a xs z q => ⟨z, by rw [wo_ne (show a ≠ p from fun e => n (e ▸ z))]; exact q⟩) (fun a xs q => by rw [wo_ne (mu_ne m hp q fun z => z)]; exact q) ds vs h
theorem Rps.length : ∀ {vs : List V} {ds : List PyData}, Rps G H vs ds → vs.length = ds.length
  | [], _, h => by cases h; rfl
  | _ :: vs, _, h => by
    cases h with
    | cons _ h2 => exact congrArg (· + 1) h2.length
theorem Rps.get : ∀ {vs : List V} {ds : List PyData} {i : Nat} {d : PyData}, Rps G H vs ds → ds[i]? = some d → ∃ v, vs[i]? = some v ∧ Rp G H v d
  | [], _, _, _, h, e => by cases h; simp at e
  | v :: vs, _, 0, d, h, e => by
    cases h with
    | cons h1 h2 =>
      have e' := Option.some.inj (show some _ = some d from e)
      exact ⟨v, rfl, e' ▸ h1⟩
  | v :: vs, _, i + 1, d, h, e => by
    cases h with
    | cons h1 h2 => exact Rps.get (i := i) h2 e
theorem Rps.getV : ∀ {vs : List V} {ds : List PyData} {i : Nat} {v : V}, Rps G H vs ds → vs[i]? = some v → ∃ d, ds[i]? = some d ∧ Rp G H v d
  | [], _, _, _, h, e => by simp at e
  | v :: vs, _, 0, d, h, e => by
    cases h with
    | cons h1 h2 =>
      have e' := Option.some.inj (show some _ = some d from e)
      exact ⟨_, rfl, e' ▸ h1⟩
  | v :: vs, _, i + 1, d, h, e => by
    cases h with
    | cons h1 h2 => exact Rps.getV (i := i) h2 e
theorem Rps.append : ∀ {vs ws : List V} {ds es : List PyData}, Rps G H vs ds → Rps G H ws es → Rps G H (vs ++ ws) (ds ++ es)
  | [], _, _, _, h, k => by cases h; exact k
  | _ :: _, _, _, _, h, k => by
    cases h with
    | cons h1 h2 => exact .cons h1 (h2.append k)
theorem Rps.snoc {vs : List V} {ds : List PyData} {v : V} {d : PyData} (h : Rps G H vs ds) (k : Rp G H v d) : Rps G H (vs ++ [v]) (ds ++ [d]) := h.append (.cons k .nil)
theorem Rps.take : ∀ {vs : List V} {ds : List PyData} (n : Nat), Rps G H vs ds → Rps G H (vs.take n) (ds.take n)
  | _, _, 0, _ => .nil
  | [], _, _ + 1, h => by cases h; exact .nil
  | _ :: _, _, n + 1, h => by
    cases h with
    | cons h1 h2 => exact .cons h1 (h2.take n)
theorem Rps.drop : ∀ {vs : List V} {ds : List PyData} (n : Nat), Rps G H vs ds → Rps G H (vs.drop n) (ds.drop n)
  | _, _, 0, h => h
  | [], _, _ + 1, h => by cases h; exact .nil
  | _ :: _, _, n + 1, h => by
    cases h with
    | cons h1 h2 => exact h2.drop n
theorem Rps.reverse : ∀ {vs : List V} {ds : List PyData}, Rps G H vs ds → Rps G H vs.reverse ds.reverse
  | [], _, h => by cases h; exact .nil
  | _ :: _, _, h => by
    cases h with
    | cons h1 h2 =>
      rw [List.reverse_cons, List.reverse_cons]
      exact h2.reverse.snoc h1
theorem Rps.set : ∀ {vs : List V} {ds : List PyData} {v : V} {d : PyData} (n : Nat), Rps G H vs ds → Rp G H v d → Rps G H (vs.set n v) (ds.set n d)
  | [], _, _, _, _, h, _ => by cases h; exact .nil
  | _ :: _, _, _, _, 0, h, k => by
    cases h with
    | cons h1 h2 => exact .cons k h2
  | _ :: _, _, _, _, n + 1, h, k => by
    cases h with
    | cons h1 h2 => exact .cons h1 (h2.set n k)
theorem Rps.rep {v : V} {d : PyData} (k : Rp G H v d) : ∀ n : Nat, Rps G H (List.replicate n v) (List.replicate n d)
  | 0 => .nil
  | n + 1 => .cons k (Rps.rep k n)
theorem Rps.ints : ∀ {vs : List V} {ns : List Int}, Rps G H vs (ns.map PyData.int) → vs = ns.map V.int
  | [], [], _ => rfl
  | [], _ :: _, h => by cases h
  | _ :: _, [], h => by cases h
  | _ :: _, _ :: ns, h => by
    cases h with
    | cons h1 h2 =>
      cases h1
      rw [h2.ints]
      rfl
theorem Rps.bools : ∀ {vs : List V} {ns : List Bool}, Rps G H vs (ns.map PyData.bool) → vs = ns.map V.bl
  | [], [], _ => rfl
  | [], _ :: _, h => by cases h
  | _ :: _, [], h => by cases h
  | _ :: _, _ :: ns, h => by
    cases h with
    | cons h1 h2 =>
      cases h1
      rw [h2.bools]
      rfl
theorem Rps.ofInts : ∀ (ns : List Int), Rps G H (ns.map V.int) (ns.map PyData.int)
  | [] => .nil
  | n :: ns => .cons (.int n) (Rps.ofInts ns)
mutual
theorem Rp.dp {K : PySem.W.Frag} : ∀ (d : PyData) (v : V), Rp G H v d → Dp K H v d
  | .none, _, h => by cases h; exact .non
  | .bool b, _, h => by cases h; exact .bl b
  | .int i, _, h => by cases h; exact .int i
  | .str x, _, h => by cases h; exact .str x
  | .list ds, _, h => by
    cases h with
    | lst h1 h2 h3 => exact .lst (.inl (.inl h2)) (Rps.dp ds _ h3)
  | .tuple ds, _, h => by
    cases h with
    | tup h1 h2 => exact .tup (.inl (.inl h1)) (Rps.dp ds _ h2)
  | .dict _, _, h => by cases h
theorem Rps.dp {K : PySem.W.Frag} : ∀ (ds : List PyData) (vs : List V), Rps G H vs ds → DpAll K H vs ds
  | [], _, h => by cases h; exact .nil
  | d :: ds, _, h => by
    cases h with
    | cons h1 h2 => exact .cons (Rp.dp d _ h1) (Rps.dp ds _ h2)
end
end
end Bl

set_option Elab.async false
set_option linter.all false
set_option autoImplicit false
set_option maxRecDepth 100000
set_option maxHeartbeats 2000000
namespace Bl
open PySem PySem.Spec PyProof.Rows L2 LamX StX

/-! ### what an expression comes to, told by itself -/
section
variable (X : Cx)
def Evl (e : Expr) : TE := fun σ H Q => ∀ pins s, Inv X pins σ H s → wpAny (model X.prog X.w) X.A (eval e X.env) (EP X pins σ Q) X.xe s
def Tst (e : Expr) : TT := fun σ H Q => ∀ pins s, Inv X pins σ H s → wpAny (model X.prog X.w) X.A (isTrue e X.env (eval e X.env)) (TP X pins σ Q) X.xe s
def Tsw (e : Expr) : TT := fun σ H Q => ∀ whole pins s, Inv X pins σ H s → wpAny (model X.prog X.w) X.A (isTrue e X.env whole) (TP X pins σ Q) X.xe s
def Tss (es : List Expr) : TT := fun σ H Q => ∀ pins s, Inv X pins σ H s → wpAny (model X.prog X.w) X.A (forIn es true fun c r => if r = true then do let ok ← isTrue c X.env (eval c X.env); pure (ForInStep.yield ok) else pure (ForInStep.yield r)) (TP X pins σ Q) X.xe s
def Arg (es : List Expr) : TA := fun σ H Q => ∀ (pos : Pos) pins s, Inv X pins σ H s → wpAny (model X.prog X.w) X.A (spliced (backTo pos (starEach es X.env))) (AP X pins σ Q) X.xe s
def Itr (tg iter : Expr) : TI := fun σ H R => ∀ pins s, Inv X pins σ H s → wpAny (model X.prog X.w) X.A (eval iter X.env) (fun v s1 => wpAny (model X.prog X.w) X.A (pyIter v) (PIE X pins σ tg R) X.xe s1) X.xe s
def Run (ss : List Stmt) : TS := fun D σ H => ∀ pins s, Inv X pins σ H s → wpAny (model X.prog X.w) X.A (execs ss X.env) (SP X pins D) X.xe s
end
section
variable {X : Cx} {e : Expr} {es : List Expr} {tg : Expr} {ss : List Stmt} {st : Stmt} {σ : L2.St} {H : Hp}
theorem Evl.pe : PE X e (Evl X e) := ⟨fun pins s _ _ _ I h => h pins s I⟩
theorem Evl.of {t : TE} {Q : VK} (h : PE X e t) (q : t σ H Q) : Evl X e σ H Q := fun pins s I => h.run pins s σ H Q I q
theorem Tst.pt : PT X e (Tst X e) := ⟨fun pins s _ _ _ I h => h pins s I⟩
theorem Tst.of {t : TT} {Q : Bool → Hp → Prop} (h : PT X e t) (q : t σ H Q) : Tst X e σ H Q := fun pins s I => h.run pins s σ H Q I q
theorem Tsw.pw : PW X e (Tsw X e) := ⟨fun whole pins s _ _ _ I h => h whole pins s I⟩
theorem Tsw.of {t : TT} {Q : Bool → Hp → Prop} (h : PW X e t) (q : t σ H Q) : Tsw X e σ H Q := fun whole pins s I => h.run whole pins s σ H Q I q
theorem Tss.pts : PTs X es (Tss X es) := ⟨fun pins s _ _ _ I h => h pins s I⟩
theorem Tss.of {t : TT} {Q : Bool → Hp → Prop} (h : PTs X es t) (q : t σ H Q) : Tss X es σ H Q := fun pins s I => h.run pins s σ H Q I q
theorem Arg.pa : PA X es (Arg X es) := ⟨fun pos pins s _ _ _ I h => h pos pins s I⟩
theorem Arg.of {t : TA} {Q : List V → Hp → Prop} (h : PA X es t) (q : t σ H Q) : Arg X es σ H Q := fun pos pins s I => h.run pos pins s σ H Q I q
theorem Itr.pi : PI X tg e (Itr X tg e) := ⟨fun pins s _ _ _ I h => h pins s I⟩
theorem Itr.of {t : TI} {R : It → Hp → Prop} (h : PI X tg e t) (q : t σ H R) : Itr X tg e σ H R := fun pins s I => h.run pins s σ H R I q
theorem Run.pss : PSs X ss (Run X ss) := ⟨fun pins s _ _ _ I h => h pins s I⟩
theorem Run.of {t : TS} {D : Ends} (h : PSs X ss t) (q : t D σ H) : Run X ss D σ H := fun pins s I => h.run pins s σ H D I q
theorem run_cons {t : TS} {D : Ends} (h : PS X st t) (q : t { D with nx := Run X ss D } σ H) : Run X (st :: ss) D σ H := Run.of (pss_cons h Run.pss) q
theorem run_nil {D : Ends} (q : D.nx σ H) : Run X [] D σ H := Run.of pss_nil q
end

/-! ### judgements: with what B knows, in any heap that has it, the expression comes to the data -/
def Ev (X : Cx) (σ : L2.St) (B : Hp) (e : Expr) (d : PyData) : Prop := ∀ H, Ex B H → ∀ Q : VK, (∀ v H', Ex H H' → Rp (Nw B H) H' v d → Q v H') → Evl X e σ H Q
def EvT (X : Cx) (σ : L2.St) (B : Hp) (e : Expr) (b : Bool) : Prop := ∀ H, Ex B H → ∀ Q : Bool → Hp → Prop, (∀ H', Ex H H' → Q b H') → Tst X e σ H Q
def EvW (X : Cx) (σ : L2.St) (B : Hp) (e : Expr) (b : Bool) : Prop := ∀ H, Ex B H → ∀ Q : Bool → Hp → Prop, (∀ H', Ex H H' → Q b H') → Tsw X e σ H Q
def EvS (X : Cx) (σ : L2.St) (B : Hp) (es : List Expr) (b : Bool) : Prop := ∀ H, Ex B H → ∀ Q : Bool → Hp → Prop, (∀ H', Ex H H' → Q b H') → Tss X es σ H Q
def EvA (X : Cx) (σ : L2.St) (B : Hp) (es : List Expr) (ds : List PyData) : Prop := ∀ H, Ex B H → ∀ Q : List V → Hp → Prop, (∀ vs H', Ex H H' → Rps (Nw B H) H' vs ds → Q vs H') → Arg X es σ H Q
/-- what turn i gives -/
def YD (B2 : Hp) (ds : List PyData) : Nat → Hp → V → Hp → Prop := fun i H x H' => Ex H H' ∧ ∃ d, ds[i]? = some d ∧ Rp (Nw B2 H) H' x d
def EvI (X : Cx) (σ : L2.St) (B : Hp) (tg e : Expr) (ds : List PyData) : Prop := ∀ H, Ex B H → ∀ R : It → Hp → Prop,
  (∀ J B2 H', Ex H H' → Ex B B2 → Ex B2 H' → (∀ a u, B2 a = some u → Mu u → Nw B H a) → Walk J ds.length (fun H1 => Ex B2 H1) (YD B2 ds) → R J H') → Itr X tg e σ H R

section
variable {X : Cx} {σ : L2.St} {B B' H H' H1 H2 : Hp} {e a b c : Expr} {es : List Expr} {d da db dc : PyData} {ds : List PyData} {pos : Pos}
theorem nw_back (e : Ex H H1) {x : Addr} (h : Nw B H1 x) : Nw B H x := h.imp id e.free
theorem nw_or (e : Ex H H1) {x : Addr} (h : Nw B H x ∨ H1 x = none) : Nw B H x := h.elim id fun z => .inr (e.free z)
theorem nw_mono (e : Ex B B') {x : Addr} (h : Nw B H x) : Nw B' H x := h.imp (fun ⟨o, z⟩ => e.has x o z) id
theorem Ev.mono (h : Ev X σ B e d) (k : Ex B B') : Ev X σ B' e d := fun H a Q q => h H (k.trans a) Q fun v H' e' r => q v H' e' (r.mono (fun _ => nw_mono k) (Ex.refl _))
theorem EvT.mono {b : Bool} (h : EvT X σ B e b) (k : Ex B B') : EvT X σ B' e b := fun H a Q q => h H (k.trans a) Q q
theorem Ev.cast (h : Ev X σ B e d) (q : d = da) : Ev X σ B e da := q ▸ h
theorem EvT.cast {b c : Bool} (h : EvT X σ B e b) (q : b = c) : EvT X σ B e c := q ▸ h

/-! names and constants -/
theorem ev_var {x : Str} (i : Nat) {v : V} {G : Addr → Prop} (hs : σ[i]? = some (some v)) (h : Rp G B v d) (hN : X.N[i]? = some x := by rfl)
    (hv : Vis X.env.scope x := by first | exact Or.inl rfl | exact Or.inr (Or.inl rfl) | exact Or.inr (Or.inr rfl)) (hd : (x == ("__debug__" : Str)) = false := by decide) (hcd : (x == ("__classdict__" : Str)) = false := by decide) :
    Ev X σ B (.Name x pos) d := fun H k Q q => Evl.of (pe_var hN hv hd hcd) ⟨v, hs, q v H (Ex.refl H) (h.kn.mono (fun _ z => .inl z) k)⟩
theorem ev_c {v : V} (h : PE X e (tC v)) (r : ∀ G H, Rp G H v d) : Ev X σ B e d := fun H _ Q q => Evl.of h (q v H (Ex.refl H) (r _ _))
theorem ev_int {i : Int} {j} : Ev X σ B (.Constant (.int i) j pos) (.int i) := ev_c pe_int fun _ _ => .int i
theorem ev_str {x : Str} {j} : Ev X σ B (.Constant (.str x) j pos) (.str x) := ev_c pe_str fun _ _ => .str x
theorem ev_bool {x : Bool} {j} : Ev X σ B (.Constant (.bool x) j pos) (.bool x) := ev_c pe_bl fun _ _ => .bl x
theorem ev_none {j} : Ev X σ B (.Constant .none j pos) .none := ev_c pe_non fun _ _ => .non
theorem ev_gint {x : Str} {i : Int} (hm : ∃ t, X.mg x = some (.int i t)) (hg : Gl X x := by rfl) (hd : (x == ("__debug__" : Str)) = false := by decide) : Ev X σ B (.Name x pos) (.int i) := let ⟨t, e⟩ := hm; ev_c (pe_glob hg e (v := .int i) ⟨t, rfl⟩ hd) fun _ _ => .int i
theorem ev_gstr {x z : Str} (hm : ∃ t, X.mg x = some (.str z t)) (hg : Gl X x := by rfl) (hd : (x == ("__debug__" : Str)) = false := by decide) : Ev X σ B (.Name x pos) (.str z) := let ⟨t, e⟩ := hm; ev_c (pe_glob hg e (v := .str z) ⟨t, rfl⟩ hd) fun _ _ => .str z

/-! two-place operations -/
def Op2 (r : R2) (da db d : PyData) : Prop := ∀ (G : Addr → Prop) (H : Hp) (x y : V) (Q : VK), Rp G H x da → Rp G H y db → (∀ v H', Ex H H' → Rp (fun a => G a ∨ H a = none) H' v d → Q v H') → r x y H Q
theorem bin_run {r : R2} (o : Op2 r da db d) (ha : Ev X σ B a da) (hb : Ev X σ B b db) (k : Ex B H) {Q : VK} (q : ∀ v H', Ex H H' → Rp (Nw B H) H' v d → Q v H') : tOp r (Evl X a) (Evl X b) σ H Q :=
  ha H k _ fun x H1 e1 r1 => hb H1 (k.trans e1) _ fun y H2 e2 r2 => o (Nw B H) H2 x y Q (r1.mono (fun _ z => z) e2) (r2.mono (fun _ => nw_back e1) (Ex.refl _)) fun v H3 e3 r3 =>
    q v H3 ((e1.trans e2).trans e3) (r3.mono (fun _ => nw_or (e1.trans e2)) (Ex.refl _))
theorem ev_op {op : Operator} {r : R2} (ho : OpR X (binaryOp op) r) (o : Op2 r da db d) (ha : Ev X σ B a da) (hb : Ev X σ B b db) : Ev X σ B (.BinOp a op b pos) d := fun H k Q q => Evl.of (pe_op ho Evl.pe Evl.pe) (bin_run o ha hb k q)
theorem ev_cmp {op : CmpOp} {r : R2} (ho : OpR X (compareOp op) r) (o : Op2 r da db d) (ha : Ev X σ B a da) (hb : Ev X σ B b db) (hm : behindInMarks op b = false) : Ev X σ B (.Compare a [op] [b] pos) d :=
  fun H k Q q => Evl.of (pe_cmpR ho Evl.pe Evl.pe hm) (bin_run o ha hb k q)
theorem evt_cmp {op : CmpOp} {r : R2} {t : Bool} (ho : OpR X (compareOp op) r) (o : Op2 r da db (.bool t)) (ha : Ev X σ B a da) (hb : Ev X σ B b db) (hm : behindInMarks op b = false) : EvT X σ B (.Compare a [op] [b] pos) t :=
  fun H k Q q => Tst.of (pt_cmpR ho Evl.pe Evl.pe hm) (bin_run o ha hb k fun v H' k' r' => by
    cases r'
    exact ⟨t, rfl, q H' k'⟩)
theorem o2_I0 {g : Int → Int → V} {i j : Int} (h : ∀ G H, Rp G H (g i j) d) : Op2 (rI0 g) (.int i) (.int j) d := fun G H x y Q hx hy q => by
  cases hx
  cases hy
  exact ⟨i, j, rfl, rfl, q _ H (Ex.refl H) (h _ _)⟩
theorem o2_I {C : Int → Int → Prop} {g : Int → Int → V} {i j : Int} (hc : C i j) (h : ∀ G H, Rp G H (g i j) d) : Op2 (rI C g) (.int i) (.int j) d := fun G H x y Q hx hy q => by
  cases hx
  cases hy
  exact ⟨i, j, rfl, rfl, hc, q _ H (Ex.refl H) (h _ _)⟩
theorem ev_add {i j : Int} (ha : Ev X σ B a (.int i)) (hb : Ev X σ B b (.int j)) : Ev X σ B (.BinOp a .Add b pos) (.int (i + j)) := ev_op op_add (o2_I0 fun _ _ => .int _) ha hb
theorem ev_sub {i j : Int} (ha : Ev X σ B a (.int i)) (hb : Ev X σ B b (.int j)) : Ev X σ B (.BinOp a .Sub b pos) (.int (i - j)) := ev_op op_sub (o2_I0 fun _ _ => .int _) ha hb
theorem ev_mul {i j : Int} (ha : Ev X σ B a (.int i)) (hb : Ev X σ B b (.int j)) (hc : CMul i j) : Ev X σ B (.BinOp a .Mult b pos) (.int (i * j)) := ev_op op_mul (o2_I hc fun _ _ => .int _) ha hb
theorem ev_fdiv {i j : Int} (ha : Ev X σ B a (.int i)) (hb : Ev X σ B b (.int j)) (hc : CDiv i j) : Ev X σ B (.BinOp a .FloorDiv b pos) (.int (i / j)) := ev_op op_fdiv (o2_I hc fun _ _ => .int _) ha hb
theorem ev_mod {i j : Int} (ha : Ev X σ B a (.int i)) (hb : Ev X σ B b (.int j)) (hc : 0 < j) : Ev X σ B (.BinOp a .Mod b pos) (.int (i % j)) := ev_op op_mod (o2_I hc fun _ _ => .int _) ha hb
theorem ev_lt {i j : Int} (ha : Ev X σ B a (.int i)) (hb : Ev X σ B b (.int j)) : Ev X σ B (.Compare a [.Lt] [b] pos) (.bool (decide (i < j))) := ev_cmp op_lt (o2_I0 fun _ _ => .bl _) ha hb (nomark _)
theorem ev_gt {i j : Int} (ha : Ev X σ B a (.int i)) (hb : Ev X σ B b (.int j)) : Ev X σ B (.Compare a [.Gt] [b] pos) (.bool (decide (j < i))) := ev_cmp op_gt (o2_I0 fun _ _ => .bl _) ha hb (nomark _)
theorem ev_le {i j : Int} (ha : Ev X σ B a (.int i)) (hb : Ev X σ B b (.int j)) : Ev X σ B (.Compare a [.LtE] [b] pos) (.bool (decide (i ≤ j))) := ev_cmp op_le (o2_I0 fun _ _ => .bl _) ha hb (nomark _)
theorem evt_lt {i j : Int} (ha : Ev X σ B a (.int i)) (hb : Ev X σ B b (.int j)) : EvT X σ B (.Compare a [.Lt] [b] pos) (decide (i < j)) := evt_cmp op_lt (o2_I0 fun _ _ => .bl _) ha hb (nomark _)
theorem evt_gt {i j : Int} (ha : Ev X σ B a (.int i)) (hb : Ev X σ B b (.int j)) : EvT X σ B (.Compare a [.Gt] [b] pos) (decide (j < i)) := evt_cmp op_gt (o2_I0 fun _ _ => .bl _) ha hb (nomark _)
theorem evt_le {i j : Int} (ha : Ev X σ B a (.int i)) (hb : Ev X σ B b (.int j)) : EvT X σ B (.Compare a [.LtE] [b] pos) (decide (i ≤ j)) := evt_cmp op_le (o2_I0 fun _ _ => .bl _) ha hb (nomark _)
theorem evt_ge {i j : Int} (ha : Ev X σ B a (.int i)) (hb : Ev X σ B b (.int j)) : EvT X σ B (.Compare a [.GtE] [b] pos) (decide (j ≤ i)) := evt_cmp op_ge (o2_I0 fun _ _ => .bl _) ha hb (nomark _)
/-! == of ints and texts alone; of any data -/
def sc2 : PyData → PyData → Bool
  | .int _, .int _ => true
  | .str _, .str _ => true
  | .none, .none => true
  | .none, .int _ => true
  | .int _, .none => true
  | .none, .str _ => true
  | .str _, .none => true
  | _, _ => false
theorem sc2_ok {G : Addr → Prop} {x y : V} (h : sc2 da db = true) (hx : Rp G H x da) (hy : Rp G H y db) : scal x y = true ∧ (decide (x = y) = true ↔ da = db) := by
  cases hx <;> cases hy <;> simp_all [sc2, scal]
theorem bool_fin {t k : Bool} {p : Prop} (ht : t = true ↔ p) (hk : k = true ↔ p) : k = t := by
  cases k <;> cases t <;> first | rfl | (have z := hk.trans ht.symm; simp at z)
theorem o2_eq (h : sc2 da db = true) (t : Bool) (ht : t = true ↔ da = db) : Op2 rEq da db (.bool t) := fun G H x y Q hx hy q => by
  obtain ⟨h1, h2⟩ := sc2_ok h hx hy
  exact ⟨h1, q _ H (Ex.refl H) (by rw [bool_fin ht h2]; exact .bl t)⟩
theorem o2_ne (h : sc2 da db = true) (t : Bool) (ht : t = true ↔ da = db) : Op2 rNe da db (.bool (!t)) := fun G H x y Q hx hy q => by
  obtain ⟨h1, h2⟩ := sc2_ok h hx hy
  exact ⟨h1, q _ H (Ex.refl H) (by rw [bool_fin ht h2]; exact .bl (!t))⟩
theorem ev_eqI {i j : Int} (ha : Ev X σ B a (.int i)) (hb : Ev X σ B b (.int j)) : Ev X σ B (.Compare a [.Eq] [b] pos) (.bool (decide (i = j))) := ev_cmp op_eq (o2_eq rfl _ (by simp)) ha hb (nomark _)
theorem evt_eqI {i j : Int} (ha : Ev X σ B a (.int i)) (hb : Ev X σ B b (.int j)) : EvT X σ B (.Compare a [.Eq] [b] pos) (decide (i = j)) := evt_cmp op_eq (o2_eq rfl _ (by simp)) ha hb (nomark _)
theorem ev_neI {i j : Int} (ha : Ev X σ B a (.int i)) (hb : Ev X σ B b (.int j)) : Ev X σ B (.Compare a [.NotEq] [b] pos) (.bool (!decide (i = j))) := ev_cmp op_ne (o2_ne rfl _ (by simp)) ha hb (nomark _)
theorem evt_neI {i j : Int} (ha : Ev X σ B a (.int i)) (hb : Ev X σ B b (.int j)) : EvT X σ B (.Compare a [.NotEq] [b] pos) (!decide (i = j)) := evt_cmp op_ne (o2_ne rfl _ (by simp)) ha hb (nomark _)
theorem ev_eqS {i j : Str} (ha : Ev X σ B a (.str i)) (hb : Ev X σ B b (.str j)) : Ev X σ B (.Compare a [.Eq] [b] pos) (.bool (decide (i = j))) := ev_cmp op_eq (o2_eq rfl _ (by simp)) ha hb (nomark _)
theorem evt_eqS {i j : Str} (ha : Ev X σ B a (.str i)) (hb : Ev X σ B b (.str j)) : EvT X σ B (.Compare a [.Eq] [b] pos) (decide (i = j)) := evt_cmp op_eq (o2_eq rfl _ (by simp)) ha hb (nomark _)
theorem ev_neS {i j : Str} (ha : Ev X σ B a (.str i)) (hb : Ev X σ B b (.str j)) : Ev X σ B (.Compare a [.NotEq] [b] pos) (.bool (!decide (i = j))) := ev_cmp op_ne (o2_ne rfl _ (by simp)) ha hb (nomark _)
theorem evt_neS {i j : Str} (ha : Ev X σ B a (.str i)) (hb : Ev X σ B b (.str j)) : EvT X σ B (.Compare a [.NotEq] [b] pos) (!decide (i = j)) := evt_cmp op_ne (o2_ne rfl _ (by simp)) ha hb (nomark _)
theorem o2_eqD {K : PySem.W.Frag} (sa : SeqAt.shaped da = true) (sb : SeqAt.shaped db = true) : Op2 (rEqD K) da db (.bool (PyData.eqv da db)) := fun G H x y Q hx hy q => ⟨da, db, Rp.dp _ _ hx, Rp.dp _ _ hy, sa, sb, q _ H (Ex.refl H) (.bl _)⟩
theorem o2_neD {K : PySem.W.Frag} (sa : SeqAt.shaped da = true) (sb : SeqAt.shaped db = true) : Op2 (rNeD K) da db (.bool (!PyData.eqv da db)) := fun G H x y Q hx hy q => ⟨da, db, Rp.dp _ _ hx, Rp.dp _ _ hy, sa, sb, q _ H (Ex.refl H) (.bl _)⟩
theorem ev_eqD (hu : X.A.units + 64 < cLine) (ha : Ev X σ B a da) (hb : Ev X σ B b db) (sa : SeqAt.shaped da = true) (sb : SeqAt.shaped db = true) : Ev X σ B (.Compare a [.Eq] [b] pos) (.bool (PyData.eqv da db)) := ev_cmp (op_eqD hu) (o2_eqD sa sb) ha hb (nomark _)
theorem evt_eqD (hu : X.A.units + 64 < cLine) (ha : Ev X σ B a da) (hb : Ev X σ B b db) (sa : SeqAt.shaped da = true) (sb : SeqAt.shaped db = true) : EvT X σ B (.Compare a [.Eq] [b] pos) (PyData.eqv da db) := evt_cmp (op_eqD hu) (o2_eqD sa sb) ha hb (nomark _)
theorem evt_neD (hu : X.A.units + 64 < cLine) (ha : Ev X σ B a da) (hb : Ev X σ B b db) (sa : SeqAt.shaped da = true) (sb : SeqAt.shaped db = true) : EvT X σ B (.Compare a [.NotEq] [b] pos) (!PyData.eqv da db) := evt_cmp (op_neD hu) (o2_neD sa sb) ha hb (nomark _)
/-! is None -/
def isN : PyData → Bool
  | .none => true
  | _ => false
theorem o2_isN : Op2 (fun x y H Q => y = .non ∧ Q (.bl (decide (x = .non))) H) da .none (.bool (isN da)) := fun G H x y Q hx hy q => by
  cases hy
  refine ⟨rfl, q _ H (Ex.refl H) ?_⟩
  cases hx <;> exact .bl _
theorem evt_isN (ha : Ev X σ B a da) (hb : Ev X σ B b .none) : EvT X σ B (.Compare a [.Is] [b] pos) (isN da) := evt_cmp op_isN o2_isN ha hb (nomark _)
theorem o2_notN : Op2 (fun x y H Q => y = .non ∧ Q (.bl (!decide (x = .non))) H) da .none (.bool (!isN da)) := fun G H x y Q hx hy q => by
  cases hy
  refine ⟨rfl, q _ H (Ex.refl H) ?_⟩
  cases hx <;> exact .bl _
theorem evt_notN (ha : Ev X σ B a da) (hb : Ev X σ B b .none) : EvT X σ B (.Compare a [.IsNot] [b] pos) (!isN da) := evt_cmp op_notN o2_notN ha hb (nomark _)
/-! chains -/
theorem chain_run {r r' : R2} {t t' : Bool} (o : Op2 r da db (.bool t)) (o' : Op2 r' db dc (.bool t')) (ha : Ev X σ B a da) (hb : Ev X σ B b db) (hc : t = true → Ev X σ B c dc) (k : Ex B H) {Q : VK} (q : ∀ v H', Ex H H' → Rp (Nw B H) H' v (.bool (t && t')) → Q v H') : tChain r r' (Evl X a) (Evl X b) (Evl X c) σ H Q :=
  ha H k _ fun x H1 e1 r1 => hb H1 (k.trans e1) _ fun y H2 e2 r2 => o (Nw B H) H2 x y _ (r1.mono (fun _ z => z) e2) (r2.mono (fun _ => nw_back e1) (Ex.refl _)) fun v H3 e3 r3 => by
    cases r3
    refine ⟨t, rfl, ?_⟩
    cases t with
    | false => exact q _ H3 ((e1.trans e2).trans e3) (.bl _)
    | true =>
      refine hc rfl H3 (((k.trans e1).trans e2).trans e3) _ fun z H4 e4 r4 => ?_
      refine o' (Nw B H) H4 y z Q (r2.mono (fun _ => nw_back e1) (e3.trans e4)) (r4.mono (fun _ => nw_back ((e1.trans e2).trans e3)) (Ex.refl _)) fun v H5 e5 r5 => ?_
      exact q v H5 ((((e1.trans e2).trans e3).trans e4).trans e5) (by cases r5; exact .bl _)
theorem ev_chain {op op' : CmpOp} {r r' : R2} {t t' : Bool} (ho : OpR X (compareOp op) r) (ho' : OpR X (compareOp op') r') (o : Op2 r da db (.bool t)) (o' : Op2 r' db dc (.bool t')) (ha : Ev X σ B a da) (hb : Ev X σ B b db) (hc : t = true → Ev X σ B c dc)
    (hm : lastMarks [op, op'] [b, c] = false := by with_unfolding_all rfl) : Ev X σ B (.Compare a [op, op'] [b, c] pos) (.bool (t && t')) := fun H k Q q => Evl.of (pe_chain ho ho' Evl.pe Evl.pe Evl.pe hm) (chain_run o o' ha hb hc k q)
theorem evt_chain {op op' : CmpOp} {r r' : R2} {t t' : Bool} (ho : OpR X (compareOp op) r) (ho' : OpR X (compareOp op') r') (o : Op2 r da db (.bool t)) (o' : Op2 r' db dc (.bool t')) (ha : Ev X σ B a da) (hb : Ev X σ B b db) (hc : t = true → Ev X σ B c dc)
    (hm : lastMarks [op, op'] [b, c] = false := by with_unfolding_all rfl) : EvT X σ B (.Compare a [op, op'] [b, c] pos) (t && t') := fun H k Q q => Tst.of (pt_chain ho ho' Evl.pe Evl.pe Evl.pe hm) (chain_run o o' ha hb hc k fun v H' k' r' => by
      cases r'
      exact ⟨_, rfl, q H' k'⟩)
theorem ev_lele {i j l : Int} (ha : Ev X σ B a (.int i)) (hb : Ev X σ B b (.int j)) (hc : Ev X σ B c (.int l)) (hm : lastMarks [CmpOp.LtE, .LtE] [b, c] = false := by with_unfolding_all rfl) : Ev X σ B (.Compare a [.LtE, .LtE] [b, c] pos) (.bool (decide (i ≤ j) && decide (j ≤ l))) :=
  ev_chain op_le op_le (o2_I0 fun _ _ => .bl _) (o2_I0 fun _ _ => .bl _) ha hb (fun _ => hc) hm
theorem evt_lele {i j l : Int} (ha : Ev X σ B a (.int i)) (hb : Ev X σ B b (.int j)) (hc : Ev X σ B c (.int l)) (hm : lastMarks [CmpOp.LtE, .LtE] [b, c] = false := by with_unfolding_all rfl) : EvT X σ B (.Compare a [.LtE, .LtE] [b, c] pos) (decide (i ≤ j) && decide (j ≤ l)) :=
  evt_chain op_le op_le (o2_I0 fun _ _ => .bl _) (o2_I0 fun _ _ => .bl _) ha hb (fun _ => hc) hm

/-! tests -/
theorem evt_val {t : Bool} (h : Ev X σ B e (.bool t)) (he : ∀ whole, isTrue e X.env whole = (do let v ← whole; standAt e.pos; holding [v] (truthy v)) := by intro _; rfl) : EvT X σ B e t := fun H k Q q => Tst.of (pt_val Evl.pe he) (h H k _ fun v H' k' r => by
  cases r
  exact ⟨t, rfl, q H' k'⟩)
theorem evt_w {t : Bool} (h : EvW X σ B e t) : EvT X σ B e t := fun H k Q q => Tst.of Tsw.pw.pt (h H k Q q)
theorem evw_and1 {t : Bool} (h : EvT X σ B a t) : EvW X σ B (.BoolOp .And [a] pos) t := fun H k Q q => Tsw.of (pw_and1 Tst.pt) (h H k Q q)
theorem evw_or1 {t : Bool} (h : EvT X σ B a t) : EvW X σ B (.BoolOp .Or [a] pos) t := fun H k Q q => Tsw.of (pw_or1 Tst.pt) (h H k Q q)
theorem evw_and {t u : Bool} (h : EvT X σ B a t) (g : t = true → EvW X σ B (.BoolOp .And (b :: es) pos) u) : EvW X σ B (.BoolOp .And (a :: b :: es) pos) (t && u) := fun H k Q q => Tsw.of (pw_and Tst.pt Tsw.pw) (h H k _ fun H' k' => by
  cases t with
  | true => exact g rfl H' (k.trans k') Q fun H2 k2 => q H2 (k'.trans k2)
  | false => exact q H' k')
theorem evw_or {t u : Bool} (h : EvT X σ B a t) (g : t = false → EvW X σ B (.BoolOp .Or (b :: es) pos) u) : EvW X σ B (.BoolOp .Or (a :: b :: es) pos) (t || u) := fun H k Q q => Tsw.of (pw_or Tst.pt Tsw.pw) (h H k _ fun H' k' => by
  cases t with
  | false => exact g rfl H' (k.trans k') Q fun H2 k2 => q H2 (k'.trans k2)
  | true => exact q H' k')
theorem evt_and2 {t u : Bool} (h : EvT X σ B a t) (g : t = true → EvT X σ B b u) : EvT X σ B (.BoolOp .And [a, b] pos) (t && u) := evt_w (evw_and h fun z => evw_and1 (g z))
theorem evt_or2 {t u : Bool} (h : EvT X σ B a t) (g : t = false → EvT X σ B b u) : EvT X σ B (.BoolOp .Or [a, b] pos) (t || u) := evt_w (evw_or h fun z => evw_or1 (g z))
theorem evt_and3 {t u w : Bool} (h : EvT X σ B a t) (g : t = true → EvT X σ B b u) (f : u = true → EvT X σ B c w) : EvT X σ B (.BoolOp .And [a, b, c] pos) (t && (u && w)) := evt_w (evw_and h fun z => evw_and (g z) fun z => evw_and1 (f z))
theorem evt_or3 {t u w : Bool} (h : EvT X σ B a t) (g : t = false → EvT X σ B b u) (f : u = false → EvT X σ B c w) : EvT X σ B (.BoolOp .Or [a, b, c] pos) (t || (u || w)) := evt_w (evw_or h fun z => evw_or (g z) fun z => evw_or1 (f z))
theorem evt_not {t : Bool} (h : EvT X σ B a t) : EvT X σ B (.UnaryOp .Not a pos) (!t) := fun H k Q q => Tst.of (pt_not Tst.pt) (h H k _ fun H' k' => q H' k')
theorem ev_one {op} (h : Ev X σ B a d) : Ev X σ B (.BoolOp op [a] pos) d := fun H k Q q => Evl.of (pe_one Evl.pe) (h H k Q q)
theorem ev_and {t u : Bool} (h : Ev X σ B a (.bool t)) (g : t = true → Ev X σ B (.BoolOp .And (b :: es) pos) (.bool u)) : Ev X σ B (.BoolOp .And (a :: b :: es) pos) (.bool (t && u)) := fun H k Q q => Evl.of (pe_and Evl.pe Evl.pe) (h H k _ fun v H' k' r => by
  cases r
  refine ⟨t, rfl, ?_⟩
  cases t with
  | true => exact g rfl H' (k.trans k') Q fun v H2 k2 r2 => q v H2 (k'.trans k2) (r2.mono (fun _ => nw_back k') (Ex.refl _))
  | false => exact q _ H' k' (.bl _))
theorem ev_or {t u : Bool} (h : Ev X σ B a (.bool t)) (g : t = false → Ev X σ B (.BoolOp .Or (b :: es) pos) (.bool u)) : Ev X σ B (.BoolOp .Or (a :: b :: es) pos) (.bool (t || u)) := fun H k Q q => Evl.of (pe_or Evl.pe Evl.pe) (h H k _ fun v H' k' r => by
  cases r
  refine ⟨t, rfl, ?_⟩
  cases t with
  | false => exact g rfl H' (k.trans k') Q fun v H2 k2 r2 => q v H2 (k'.trans k2) (r2.mono (fun _ => nw_back k') (Ex.refl _))
  | true => exact q _ H' k' (.bl _))
theorem ev_and2 {t u : Bool} (h : Ev X σ B a (.bool t)) (g : t = true → Ev X σ B b (.bool u)) : Ev X σ B (.BoolOp .And [a, b] pos) (.bool (t && u)) := ev_and h fun z => ev_one (g z)
theorem ev_and3 {t u w : Bool} (h : Ev X σ B a (.bool t)) (g : t = true → Ev X σ B b (.bool u)) (f : u = true → Ev X σ B c (.bool w)) : Ev X σ B (.BoolOp .And [a, b, c] pos) (.bool (t && (u && w))) := ev_and h fun z => ev_and (g z) fun z => ev_one (f z)
theorem ev_or2 {t u : Bool} (h : Ev X σ B a (.bool t)) (g : t = false → Ev X σ B b (.bool u)) : Ev X σ B (.BoolOp .Or [a, b] pos) (.bool (t || u)) := ev_or h fun z => ev_one (g z)
theorem ev_not {t : Bool} (h : Ev X σ B a (.bool t)) : Ev X σ B (.UnaryOp .Not a pos) (.bool (!t)) := fun H k Q q => Evl.of (pe_not Evl.pe) (h H k _ fun v H' k' r => by
  cases r
  exact ⟨t, rfl, q _ H' k' (.bl _)⟩)
theorem ev_if {t : Bool} (h : EvT X σ B c t) (h1 : t = true → Ev X σ B a d) (h0 : t = false → Ev X σ B b d) : Ev X σ B (.IfExp c a b pos) d := fun H k Q q => Evl.of (pe_ifExp Tst.pt Evl.pe Evl.pe) (h H k _ fun H' k' => by
  cases t with
  | true => exact h1 rfl H' (k.trans k') Q fun v H2 k2 r2 => q v H2 (k'.trans k2) (r2.mono (fun _ => nw_back k') (Ex.refl _))
  | false => exact h0 rfl H' (k.trans k') Q fun v H2 k2 r2 => q v H2 (k'.trans k2) (r2.mono (fun _ => nw_back k') (Ex.refl _)))
theorem evs_nil : EvS X σ B [] true := fun H k Q q => Tss.of pts_nil (q H (Ex.refl H))
theorem evs_one {t : Bool} (h : EvT X σ B c t) : EvS X σ B [c] t := fun H k Q q => Tss.of (pts_one Tst.pt) (h H k Q q)

/-! lists of arguments; displays -/
theorem eva_nil : EvA X σ B [] [] := fun H _ Q q => Arg.of pa_nil (q [] H (Ex.refl H) .nil)
theorem eva_cons (ha : Ev X σ B e d) (hr : EvA X σ B es ds) (hs : starEach (e :: es) X.env = (false, eval e X.env) :: starEach es X.env := by rfl) : EvA X σ B (e :: es) (d :: ds) := fun H k Q q => Arg.of (pa_cons Evl.pe Arg.pa hs)
  (ha H k _ fun x H1 e1 r1 => hr H1 (k.trans e1) _ fun vs H2 e2 r2 => q _ H2 (e1.trans e2) (.cons (r1.mono (fun _ z => z) e2) (r2.mono (fun _ => nw_back e1) (Ex.refl _))))
theorem star_run {xs : List PyData} (ha : Ev X σ B e d) (hd : d = .tuple xs ∨ d = .list xs) (hr : EvA X σ B es ds) (k : Ex B H) {Q : List V → Hp → Prop} (q : ∀ vs H', Ex H H' → Rps (Nw B H) H' vs (xs ++ ds) → Q vs H') : tStar X.K (Evl X e) (Arg X es) σ H Q :=
  ha H k _ fun x H1 e1 r1 => by
    have fin : ∀ (p : Addr) (vs : List V), Rps (Nw B H) H1 vs xs → Arg X es σ H1 fun ys H2 => Q (vs ++ ys) H2 := fun p vs h => hr H1 (k.trans e1) _ fun ws H2 e2 r2 => q _ H2 (e1.trans e2) ((h.mono (fun _ z => z) e2).append (r2.mono (fun _ => nw_back e1) (Ex.refl _)))
    rcases hd with hd | hd
    · subst hd
      cases r1 with
      | tup h1 h2 => exact ⟨_, _, rfl, .inl (.inl (.inl h1)), fin 0 _ h2⟩
    · subst hd
      cases r1 with
      | lst h1 h2 h3 => exact ⟨_, _, rfl, .inr (.inl (.inl h2)), fin 0 _ h3⟩
theorem eva_starT {xs : List PyData} {p : Pos} (ha : Ev X σ B e (.tuple xs)) (hr : EvA X σ B es ds) (hs : starEach (.Starred e p :: es) X.env = (true, eval e X.env) :: starEach es X.env := by rfl) : EvA X σ B (.Starred e p :: es) (xs ++ ds) :=
  fun H k Q q => Arg.of (pa_star Evl.pe Arg.pa hs) (star_run ha (.inl rfl) hr k q)
theorem eva_starL {xs : List PyData} {p : Pos} (ha : Ev X σ B e (.list xs)) (hr : EvA X σ B es ds) (hs : starEach (.Starred e p :: es) X.env = (true, eval e X.env) :: starEach es X.env := by rfl) : EvA X σ B (.Starred e p :: es) (xs ++ ds) :=
  fun H k Q q => Arg.of (pa_star Evl.pe Arg.pa hs) (star_run ha (.inr rfl) hr k q)
theorem ev_tup {x1} (ha : EvA X σ B es ds) (hl : ds.length ≤ sizeLine := by first | decide | exact sl_le (by simp)) : Ev X σ B (.Tuple es x1 pos) (.tuple ds) := fun H k Q q => Evl.of (pe_tup Arg.pa) (ha H k _ fun vs H1 e1 r1 =>
  ⟨by rw [r1.length]; exact hl, fun p hp => q _ _ (e1.trans (Ex.new hp)) (.tup upd_same (r1.mono (fun _ z => z) (Ex.new hp)))⟩)
theorem ev_lst (ha : EvA X σ B es ds) (hl : ds.length ≤ sizeLine := by first | decide | exact sl_le (by simp)) : Ev X σ B (.List es pos) (.list ds) := fun H k Q q => Evl.of (pe_lst Arg.pa) (ha H k _ fun vs H1 e1 r1 =>
  ⟨by rw [r1.length]; exact hl, fun p hp => q _ _ (e1.trans (Ex.new hp)) (.lst (.inr (e1.free hp)) upd_same (r1.mono (fun _ z => z) (Ex.new hp)))⟩)

/-! places and slices -/
theorem Rps.atI {G : Addr → Prop} {vs : List V} {i : Int} (h : Rps G H vs ds) (k : L2.atI ds i = some d) : ∃ v, L2.atI vs i = some v ∧ Rp G H v d := by
  unfold L2.atI at k ⊢
  rw [h.length]
  cases q : ixN ds.length i with
  | none => rw [q] at k; cases k
  | some j =>
    rw [q] at k
    exact h.get k
theorem ev_ixT {i : Int} (ha : Ev X σ B a (.tuple ds)) (hb : Ev X σ B b (.int i)) (hk : L2.atI ds i = some d) (hs : PlainIx b := by exact fun _ _ => rfl) : Ev X σ B (.Subscript a b pos) d := fun H k Q q => Evl.of (pe_ix ix_tup Evl.pe Evl.pe hs)
  (ha H k _ fun x H1 e1 r1 => hb H1 (k.trans e1) _ fun y H2 e2 r2 => by
    cases r2
    cases r1 with
    | tup h1 h2 =>
      obtain ⟨v, hv, rv⟩ := h2.atI hk
      exact ⟨_, _, i, v, rfl, rfl, .inl (.inl (e2.tup h1)), hv, q v H2 (e1.trans e2) (rv.mono (fun _ z => z) e2)⟩)
theorem ev_ixL {i : Int} (ha : Ev X σ B a (.list ds)) (hb : Ev X σ B b (.int i)) (hk : L2.atI ds i = some d) (hs : PlainIx b := by exact fun _ _ => rfl) : Ev X σ B (.Subscript a b pos) d := fun H k Q q => Evl.of (pe_ix ix_list Evl.pe Evl.pe hs)
  (ha H k _ fun x H1 e1 r1 => hb H1 (k.trans e1) _ fun y H2 e2 r2 => by
    cases r2
    cases r1 with
    | lst h0 h1 h2 =>
      obtain ⟨v, hv, rv⟩ := h2.atI hk
      exact ⟨_, _, i, v, rfl, rfl, .inl (.inl (e2.lst h1)), hv, q v H2 (e1.trans e2) (rv.mono (fun _ z => z) e2)⟩)
def cut {α : Type} (xs : List α) (lo hi : Option Int) : List α := (xs.drop (HT.sIx xs.length 0 lo)).take (HT.sIx xs.length xs.length hi - HT.sIx xs.length 0 lo)
theorem cut_to {α : Type} (xs : List α) (n : Nat) : cut xs none (some (n : Int)) = xs.take n := by
  unfold cut
  rw [HT.sIx_none, HT.sIx_nat, List.drop_zero, Nat.sub_zero]
  by_cases h : n ≤ xs.length
  · rw [Nat.min_eq_left h]
  · rw [Nat.min_eq_right (by omega), List.take_of_length_le (Nat.le_refl _), List.take_of_length_le (by omega)]
theorem cut_from {α : Type} (xs : List α) (n : Nat) : cut xs (some (n : Int)) none = xs.drop n := by
  unfold cut
  rw [HT.sIx_none, HT.sIx_nat]
  by_cases h : n ≤ xs.length
  · rw [Nat.min_eq_left h, List.take_of_length_le (by rw [List.length_drop]; omega)]
  · rw [Nat.min_eq_right (by omega), List.drop_of_length_le (Nat.le_refl _), List.drop_of_length_le (by omega)]
    simp
theorem cut_all {α : Type} (xs : List α) {lo hi : Option Int} (h : HT.sIx xs.length 0 lo = 0 ∧ HT.sIx xs.length xs.length hi = xs.length) : cut xs lo hi = xs := by
  unfold cut
  rw [h.1, h.2, List.drop_zero, Nat.sub_zero, List.take_of_length_le (Nat.le_refl _)]
theorem Rps.cut {G : Addr → Prop} {vs : List V} {lo hi : Option Int} (h : Rps G H vs ds) : Rps G H (cutV vs lo hi) (Bl.cut ds lo hi) := by
  unfold cutV Bl.cut
  rw [h.length]
  exact (h.drop _).take _
/-- a slice's end -/
def EvP (X : Cx) (σ : L2.St) (B : Hp) (o : Option Expr) (p : Option Int) : Prop := match o, p with
  | none, none => True
  | some e, some i => Ev X σ B e (.int i)
  | _, _ => False
def Prt (X : Cx) (o : Option Expr) : TO := match o with
  | none => tNoPart
  | some e => tPart (Evl X e)
theorem Prt.po {o : Option Expr} : PO X o (Prt X o) := by
  cases o with
  | none => exact po_none
  | some e => exact po_some Evl.pe
theorem prt_run {o : Option Expr} {p : Option Int} (h : EvP X σ B o p) (k : Ex B H) {Q : Option Int → Hp → Prop} (q : ∀ H', Ex H H' → Q p H') : Prt X o σ H Q := by
  cases o with
  | none =>
    cases p with
    | none => exact q H (Ex.refl H)
    | some i => exact h.elim
  | some e =>
    cases p with
    | none => exact h.elim
    | some i =>
      refine (show Ev X σ B e (.int i) from h) H k _ fun v H' k' r => ?_
      cases r
      exact ⟨i, rfl, q H' k'⟩
theorem ev_slL {lo hi : Option Expr} {l u : Option Int} {p2 : Pos} (ha : Ev X σ B e (.list ds)) (hl : EvP X σ B lo l) (hu : EvP X σ B hi u) : Ev X σ B (.Subscript e (.Slice lo hi none p2) pos) (.list (cut ds l u)) := fun H k Q q =>
  Evl.of (pe_slice sl_list Evl.pe Prt.po Prt.po) (ha H k _ fun x H1 e1 r1 => prt_run hl (k.trans e1) fun H2 e2 => prt_run hu ((k.trans e1).trans e2) fun H3 e3 => by
    cases r1 with
    | lst h0 h1 h2 =>
      refine ⟨_, _, rfl, .inl (.inl (e3.lst (e2.lst h1))), fun p hp => ?_⟩
      exact q _ _ (((e1.trans e2).trans e3).trans (Ex.new hp)) (.lst (.inr (((e1.trans e2).trans e3).free hp)) upd_same (h2.cut.mono (fun _ z => z) ((e2.trans e3).trans (Ex.new hp)))))
theorem ev_slT {lo hi : Option Expr} {l u : Option Int} {p2 : Pos} (ha : Ev X σ B e (.tuple ds)) (hl : EvP X σ B lo l) (hu : EvP X σ B hi u) : Ev X σ B (.Subscript e (.Slice lo hi none p2) pos) (.tuple (cut ds l u)) := fun H k Q q =>
  Evl.of (pe_slice sl_tupA Evl.pe Prt.po Prt.po) (ha H k _ fun x H1 e1 r1 => prt_run hl (k.trans e1) fun H2 e2 => prt_run hu ((k.trans e1).trans e2) fun H3 e3 => by
    cases r1 with
    | tup h1 h2 =>
      refine ⟨_, _, rfl, .inl (.inl (e3.tup (e2.tup h1))), fun hw => ?_, fun _ p hp => ?_⟩
      · rw [h2.length] at hw
        rw [cut_all ds hw] at q
        exact q _ _ ((e1.trans e2).trans e3) (.tup (e3.tup (e2.tup h1)) (h2.mono (fun _ z => z) (e2.trans e3)))
      · exact q _ _ (((e1.trans e2).trans e3).trans (Ex.new hp)) (.tup upd_same (h2.cut.mono (fun _ z => z) ((e2.trans e3).trans (Ex.new hp)))))
theorem ev_revL {k : Nat} {p1 p2 p3 : Pos} (ha : Ev X σ B e (.list ds)) : Ev X σ B (.Subscript e (.Slice none none (some (.UnaryOp .USub (.Constant (.int 1) k p1) p2)) p3) pos) (.list ds.reverse) := fun H k Q q =>
  Evl.of (pe_revL Evl.pe) (ha H k _ fun x H1 e1 r1 => by
    cases r1 with
    | lst h0 h1 h2 => exact ⟨_, _, rfl, .inl (.inl h1), fun p hp => q _ _ (e1.trans (Ex.new hp)) (.lst (.inr (e1.free hp)) upd_same (h2.reverse.mono (fun _ z => z) (Ex.new hp)))⟩)
/-! tuples and lists joined, repeated -/
theorem ev_catT {xs ys : List PyData} (ha : Ev X σ B a (.tuple xs)) (hb : Ev X σ B b (.tuple ys)) (hl : xs.length + ys.length ≤ sizeLine) : Ev X σ B (.BinOp a .Add b pos) (.tuple (xs ++ ys)) := ev_op op_catA (fun G H x y Q hx hy q => by
  cases hx with
  | tup h1 h2 =>
    cases hy with
    | tup k1 k2 =>
      rename_i p vs t ws
      refine ⟨_, _, _, _, rfl, rfl, .inl (.inl h1), .inl (.inl k1), by rw [h2.length, k2.length]; exact hl, fun e => ?_, fun _ e => ?_, fun _ _ p hp => ?_⟩
      · subst e
        cases h2
        exact q _ H (Ex.refl H) (.tup k1 (k2.mono (fun _ z => .inl z) (Ex.refl H)))
      · subst e
        cases k2
        rw [List.append_nil] at q
        exact q _ H (Ex.refl H) (.tup h1 (h2.mono (fun _ z => .inl z) (Ex.refl H)))
      · exact q _ _ (Ex.new hp) (.tup upd_same ((h2.append k2).mono (fun _ z => .inl z) (Ex.new hp)))) ha hb
theorem ev_catL {xs ys : List PyData} (ha : Ev X σ B a (.list xs)) (hb : Ev X σ B b (.list ys)) (hl : xs.length + ys.length ≤ sizeLine) : Ev X σ B (.BinOp a .Add b pos) (.list (xs ++ ys)) := ev_op op_cat (fun G H x y Q hx hy q => by
  cases hx with
  | lst h0 h1 h2 =>
    cases hy with
    | lst k0 k1 k2 =>
      exact ⟨_, _, _, _, rfl, rfl, h1, k1, by rw [h2.length, k2.length]; exact hl, fun p hp => q _ _ (Ex.new hp) (.lst (.inr hp) upd_same ((h2.append k2).mono (fun _ z => .inl z) (Ex.new hp)))⟩) ha hb
end
end Bl

set_option Elab.async false
set_option linter.all false
set_option autoImplicit false
set_option maxRecDepth 100000
set_option maxHeartbeats 2000000
namespace Bl
open PySem PySem.Spec PyProof.Rows L2 LamX StX

section
variable {X : Cx} {σ : L2.St} {B B' H H' H1 H2 : Hp} {e a b c : Expr} {es : List Expr} {d da db dc : PyData} {ds : List PyData} {pos : Pos}
/-! ### calls of built-ins -/
def OpN (r : List V → Hp → VK → Prop) (ds : List PyData) (d : PyData) : Prop := ∀ (G : Addr → Prop) (H : Hp) (vs : List V) (Q : VK), Rps G H vs ds → (∀ v H', Ex H H' → Rp (fun a => G a ∨ H a = none) H' v d → Q v H') → r vs H Q
theorem call_run {r : List V → Hp → VK → Prop} (o : OpN r ds d) (ha : EvA X σ B es ds) (k : Ex B H) {Q : VK} (q : ∀ v H', Ex H H' → Rp (Nw B H) H' v d → Q v H') : tCB r (Arg X es) σ H Q :=
  ha H k _ fun vs H1 e1 r1 => o (Nw B H) H1 vs Q r1 fun v H2 e2 r2 => q v H2 (e1.trans e2) (r2.mono (fun _ => nw_or e1) (Ex.refl _))
theorem ev_callB {x : Str} {id : String} {p : Pos} {r : List V → Hp → VK → Prop} (hc : CallR X (.builtin id) r) (o : OpN r ds d) (hm : X.mg x = none) (hv : bootBuiltins x = some (.builtin id)) (ha : EvA X σ B (e :: es) ds) (hg : Gl X x := by rfl)
    (hn : x ≠ "__name__" := by decide) (hdb : (x == ("__debug__" : Str)) = false := by decide) (he : starEach (e :: es) X.env = (false, eval e X.env) :: starEach es X.env := by rfl) (hpl : (backTo pos (starEach es X.env)).any (·.1) = false := by rfl) :
    Ev X σ B (.Call (.Name x p) (e :: es) [] pos) d := fun H k Q q => Evl.of (pe_callB hc hg hm hv Arg.pa hn hdb he hpl) (call_run o ha k q)
theorem ev_callTy {x : Str} {T : String} {p : Pos} {r : List V → Hp → VK → Prop} (hc : CallR X (.type T) r) (o : OpN r ds d) (hm : X.mg x = none) (hv : bootBuiltins x = some (.type T)) (ha : EvA X σ B (e :: es) ds) (hg : Gl X x := by rfl)
    (hn : x ≠ "__name__" := by decide) (hdb : (x == ("__debug__" : Str)) = false := by decide) (he : starEach (e :: es) X.env = (false, eval e X.env) :: starEach es X.env := by rfl) (hpl : (backTo pos (starEach es X.env)).any (·.1) = false := by rfl) :
    Ev X σ B (.Call (.Name x p) (e :: es) [] pos) d := fun H k Q q => Evl.of (pe_callTy hc hg hm hv Arg.pa hn hdb he hpl) (call_run o ha k q)
theorem on_len {K : PySem.W.Frag} {d : PyData} {xs : List PyData} (h : d = .tuple xs ∨ d = .list xs) : OpN (fun vs H Q => ∃ p ys, vs = [.ref p] ∧ (SqL K H p ys ∨ SqT K H p ys) ∧ Q (.int ys.length) H) [d] (.int xs.length) := fun G H vs Q r q => by
  cases r with
  | cons r1 r2 =>
    cases r2
    rcases h with h | h
    · subst h
      cases r1 with
      | tup h1 h2 => exact ⟨_, _, rfl, .inr (.inl (.inl h1)), q _ H (Ex.refl H) (by rw [h2.length]; exact .int _)⟩
    · subst h
      cases r1 with
      | lst h0 h1 h2 => exact ⟨_, _, rfl, .inl (.inl (.inl h1)), q _ H (Ex.refl H) (by rw [h2.length]; exact .int _)⟩
theorem ev_lenT {p : Pos} (hm : X.mg "len" = none) (ha : Ev X σ B a (.tuple ds)) (hg : Gl X "len" := by rfl) (he : starEach [a] X.env = (false, eval a X.env) :: starEach [] X.env := by rfl) : Ev X σ B (.Call (.Name "len" p) [a] [] pos) (.int ds.length) :=
  ev_callB call_len_seq (on_len (.inl rfl)) hm PySem.boot_len (eva_cons ha eva_nil he) hg (by decide) (by decide) he rfl
theorem ev_lenL {p : Pos} (hm : X.mg "len" = none) (ha : Ev X σ B a (.list ds)) (hg : Gl X "len" := by rfl) (he : starEach [a] X.env = (false, eval a X.env) :: starEach [] X.env := by rfl) : Ev X σ B (.Call (.Name "len" p) [a] [] pos) (.int ds.length) :=
  ev_callB call_len_seq (on_len (.inr rfl)) hm PySem.boot_len (eva_cons ha eva_nil he) hg (by decide) (by decide) he rfl
theorem on_sum {K : PySem.W.Frag} {ns : List Int} : OpN (rSum K) [.list (ns.map .int)] (.int ns.sum) := fun G H vs Q r q => by
  cases r with
  | cons r1 r2 =>
    cases r2
    cases r1 with
    | lst h0 h1 h2 =>
      have e := h2.ints
      subst e
      exact ⟨_, ns, rfl, .inl (.inl h1), q _ H (Ex.refl H) (.int _)⟩
theorem bt_sum : bootBuiltins "sum" = some (.builtin "sum") := by decide +kernel
theorem bt_all : bootBuiltins "all" = some (.builtin "all") := by decide +kernel
theorem bt_max : bootBuiltins "max" = some (.builtin "max") := by decide +kernel
theorem bt_isi : bootBuiltins "isinstance" = some (.builtin "isinstance") := by decide +kernel
theorem bt_sorted : bootBuiltins "sorted" = some (.builtin "sorted") := by decide +kernel
theorem bt_repr : bootBuiltins "repr" = some (.builtin "repr") := by decide +kernel
theorem bt_tuple : bootBuiltins "tuple" = some (.type "tuple") := by decide +kernel
theorem bt_list : bootBuiltins "list" = some (.type "list") := by decide +kernel
theorem bt_int : bootBuiltins "int" = some (.type "int") := by decide +kernel
theorem bt_str : bootBuiltins "str" = some (.type "str") := by decide +kernel
theorem bt_bool : bootBuiltins "bool" = some (.type "bool") := by decide +kernel
theorem ev_sumL {p : Pos} {ns : List Int} (hm : X.mg "sum" = none) (ha : Ev X σ B a (.list (ns.map .int))) (hc : X.calm = true := by rfl) (hg : Gl X "sum" := by rfl) (he : starEach [a] X.env = (false, eval a X.env) :: starEach [] X.env := by rfl) :
    Ev X σ B (.Call (.Name "sum" p) [a] [] pos) (.int ns.sum) := ev_callB (cr_sum hc) on_sum hm bt_sum (eva_cons ha eva_nil he) hg (by decide) (by decide) he rfl
theorem on_all {K : PySem.W.Frag} {bs : List Bool} : OpN (rAll K) [.list (bs.map .bool)] (.bool (bs.all id)) := fun G H vs Q r q => by
  cases r with
  | cons r1 r2 =>
    cases r2
    cases r1 with
    | lst h0 h1 h2 =>
      have e := h2.bools
      subst e
      exact ⟨_, bs, rfl, .inl (.inl h1), q _ H (Ex.refl H) (.bl _)⟩
theorem ev_all {p : Pos} {bs : List Bool} (hm : X.mg "all" = none) (ha : Ev X σ B a (.list (bs.map .bool))) (hc : X.calm = true := by rfl) (hg : Gl X "all" := by rfl) (he : starEach [a] X.env = (false, eval a X.env) :: starEach [] X.env := by rfl) :
    Ev X σ B (.Call (.Name "all" p) [a] [] pos) (.bool (bs.all id)) := ev_callB (cr_all hc) on_all hm bt_all (eva_cons ha eva_nil he) hg (by decide) (by decide) he rfl
theorem ev_tupleOf {p : Pos} (hm : X.mg "tuple" = none) (ha : Ev X σ B a (.list ds)) (hg : Gl X "tuple" := by rfl) (he : starEach [a] X.env = (false, eval a X.env) :: starEach [] X.env := by rfl) : Ev X σ B (.Call (.Name "tuple" p) [a] [] pos) (.tuple ds) :=
  ev_callTy call_tuple_of (fun G H vs Q r q => by
    cases r with
    | cons r1 r2 =>
      cases r2
      cases r1 with
      | lst h0 h1 h2 => exact ⟨_, _, rfl, .inl ⟨.inl (.inl h1), fun l hl => q _ _ (Ex.new hl) (.tup upd_same (h2.mono (fun _ z => .inl z) (Ex.new hl)))⟩⟩) hm bt_tuple (eva_cons ha eva_nil he) hg (by decide) (by decide) he rfl
theorem ev_listOfT {p : Pos} (hm : X.mg "list" = none) (ha : Ev X σ B a (.tuple ds)) (hg : Gl X "list" := by rfl) (he : starEach [a] X.env = (false, eval a X.env) :: starEach [] X.env := by rfl) : Ev X σ B (.Call (.Name "list" p) [a] [] pos) (.list ds) :=
  ev_callTy call_list_of (fun G H vs Q r q => by
    cases r with
    | cons r1 r2 =>
      cases r2
      cases r1 with
      | tup h1 h2 => exact ⟨_, _, rfl, .inr (.inl (.inl h1)), fun l hl => q _ _ (Ex.new hl) (.lst (.inr hl) upd_same (h2.mono (fun _ z => .inl z) (Ex.new hl)))⟩) hm bt_list (eva_cons ha eva_nil he) hg (by decide) (by decide) he rfl
theorem ev_intI {p : Pos} {i : Int} (hm : X.mg "int" = none) (ha : Ev X σ B a (.int i)) (hg : Gl X "int" := by rfl) (he : starEach [a] X.env = (false, eval a X.env) :: starEach [] X.env := by rfl) : Ev X σ B (.Call (.Name "int" p) [a] [] pos) (.int i) :=
  ev_callTy call_int1 (fun G H vs Q r q => by
    cases r with
    | cons r1 r2 =>
      cases r2
      cases r1
      exact .inl ⟨i, rfl, q _ H (Ex.refl H) (.int _)⟩) hm bt_int (eva_cons ha eva_nil he) hg (by decide) (by decide) he rfl
theorem ev_intB {p : Pos} {t : Bool} (hm : X.mg "int" = none) (ha : Ev X σ B a (.bool t)) (hg : Gl X "int" := by rfl) (he : starEach [a] X.env = (false, eval a X.env) :: starEach [] X.env := by rfl) : Ev X σ B (.Call (.Name "int" p) [a] [] pos) (.int (if t then 1 else 0)) :=
  ev_callTy call_int1 (fun G H vs Q r q => by
    cases r with
    | cons r1 r2 =>
      cases r2
      cases r1
      exact .inr ⟨t, rfl, q _ H (Ex.refl H) (.int _)⟩) hm bt_int (eva_cons ha eva_nil he) hg (by decide) (by decide) he rfl
theorem ev_max2 {p : Pos} {i j : Int} (hm : X.mg "max" = none) (ha : Ev X σ B a (.int i)) (hb : Ev X σ B b (.int j)) (hc : X.calm = true := by rfl) (hg : Gl X "max" := by rfl) (he : starEach [a, b] X.env = (false, eval a X.env) :: starEach [b] X.env := by rfl)
    (he2 : starEach [b] X.env = (false, eval b X.env) :: starEach [] X.env := by rfl) (hpl : (backTo pos (starEach [b] X.env)).any (·.1) = false := by rfl) : Ev X σ B (.Call (.Name "max" p) [a, b] [] pos) (.int (if j > i then j else i)) :=
  ev_callB (call_max2 hc) (fun G H vs Q r q => by
    cases r with
    | cons r1 r2 =>
      cases r2 with
      | cons r2 r3 =>
        cases r3
        cases r1
        cases r2
        exact ⟨i, j, rfl, q _ H (Ex.refl H) (.int _)⟩) hm bt_max (eva_cons ha (eva_cons hb eva_nil he2) he) hg (by decide) (by decide) he hpl
/-! isinstance of a built-in class -/
def tyD : PyData → String
  | .none => "NoneType"
  | .bool _ => "bool"
  | .int _ => "int"
  | .str _ => "str"
  | .list _ => "list"
  | .tuple _ => "tuple"
  | .dict _ => "dict"
theorem ty_of {K : PySem.W.Frag} {G : Addr → Prop} {v : V} (h : Rp G H v d) : TyX K H v (.type (tyD d)) := by
  cases h with
  | non => exact .base .non
  | bl b => exact .base (.bl b)
  | int i => exact .base (.int i)
  | str x => exact .base (.str x)
  | lst h0 h1 h2 => exact .base (.lst h1)
  | tup h1 h2 => exact .base (.tup h1)
/-- isinstance(e, T), T a built-in class by its name -/
theorem ev_isi {p p' : Pos} {x : Str} {T : String} {t : Bool} (hm : X.mg "isinstance" = none) (ha : Ev X σ B a d) (hmT : X.mg x = none) (hvT : bootBuiltins x = some (.type T)) (hk : kitB (tyD d) T = some t) (hg : Gl X "isinstance" := by rfl) (hgT : Gl X x := by rfl)
    (hn : x ≠ "__name__" := by decide) (hdb : (x == ("__debug__" : Str)) = false := by decide) (he : starEach [a, .Name x p'] X.env = (false, eval a X.env) :: starEach [.Name x p'] X.env := by rfl)
    (hpl : (backTo pos (starEach [.Name x p'] X.env)).any (·.1) = false := by rfl) :
    Ev X σ B (.Call (.Name "isinstance" p) [a, .Name x p'] [] pos) (.bool t) := fun H k Q q =>
  Evl.of (pe_callB (call_isi) hg hm bt_isi (pa_cons (Evl.pe (e := a)) (pa_cons (pe_bltn (v := .ty T) hgT hmT hvT rfl hn hdb) pa_nil rfl) he) (by decide) (by decide) he hpl)
    (ha H k _ fun v H1 e1 r1 => ⟨v, .ty T, _, .type T, t, rfl, .ty T, ty_of r1, kit_ty hk, q _ H1 e1 (.bl t)⟩)
theorem k_ii : kitB "int" "int" = some true := by decide +kernel
theorem k_ib : kitB "int" "bool" = some false := by decide +kernel
theorem k_tt : kitB "tuple" "tuple" = some true := by decide +kernel
theorem k_ss : kitB "str" "str" = some true := by decide +kernel
theorem k_ll : kitB "list" "list" = some true := by decide +kernel
/-! x in a tuple of texts -/
def strsIn (x : Str) (ys : List Str) : Bool := ys.any fun y => decide (y = x)
theorem inV_strs (x : Str) : ∀ ys : List Str, inV (.str x) (ys.map V.str) = strsIn x ys
  | [] => rfl
  | y :: ys => by
    have ih := inV_strs x ys
    unfold inV strsIn at *
    simp only [List.map_cons, List.any_cons, ih]
    congr 1
theorem o2_inS {K : PySem.W.Frag} {x : Str} {ys : List Str} (neg : Bool) : Op2 (rIn K neg) (.str x) (.tuple (ys.map .str)) (.bool (if neg then !strsIn x ys else strsIn x ys)) := fun G H u v Q hx hy q => by
  cases hx
  cases hy with
  | tup h1 h2 =>
    have e : ∀ (zs : List Str) (vs : List V), Rps G H vs (zs.map .str) → vs = zs.map V.str := by
      intro zs
      induction zs with
      | nil => intro vs h; cases h; rfl
      | cons z zs ih =>
        intro vs h
        cases h with
        | cons k1 k2 => cases k1; rw [ih _ k2]; rfl
    have e' := e ys _ h2
    subst e'
    refine ⟨_, _, rfl, .inr (.inl (.inl h1)), rfl, ?_, ?_⟩
    · rw [List.all_map]
      exact List.all_eq_true.mpr fun _ _ => rfl
    · rw [inV_strs]
      exact q _ H (Ex.refl H) (.bl _)

/-! ### defs of the text -/
/-- what a def promises: with such data it hands back that data, at lists that are new -/
def spD (pre : List PyData → PyData → Prop) : Sp := fun vs H Q _ => ∃ ds d, Iss H vs ds ∧ pre ds d ∧ ∀ v H', Ex H H' → Rp (Fr0 H) H' v d → Q v H'
/-- a def of the module, by its name -/
structure Fn (P : Program) (w : World) (K : PySem.W.Frag) (mg : Str → Option Value) (base : Heap) (k : Nat) (x : Str) (n : Nat) (pre : List PyData → PyData → Prop) : Prop where
  ex : ∃ f fd ps, FnOk P w K mg base CX0 k f fd ps (spD pre) ∧ ps.length = n ∧ mg x = some (.ref f) ∧ PySem.W.keepIn K (.ref f) = true ∧ Binds K fd ps []
theorem ev_call {x : Str} {k n : Nat} {p : Pos} {pre : List PyData → PyData → Prop} (F : Fn X.prog X.w X.K X.mg X.base k x n pre) (hr : Room k X.A) (hp : pre ds d) (ha : EvA X σ B (e :: es) ds) (hg : Gl X x := by rfl) (hdb : (x == ("__debug__" : Str)) = false := by decide)
    (he : starEach (e :: es) X.env = (false, eval e X.env) :: starEach es X.env := by rfl) (hpl : (backTo pos (starEach es X.env)).any (·.1) = false := by rfl) : Ev X σ B (.Call (.Name x p) (e :: es) [] pos) d := fun H k Q q => by
  obtain ⟨f, fd, ps, F, _, hm, hk, hb⟩ := F.ex
  refine Evl.of (pe_call F hr hg hm hk hb .nil pass0 Arg.pa hdb he hpl) (ha H k _ fun vs H1 e1 r1 => ?_)
  rw [List.append_nil]
  exact ⟨ds, d, r1.is, hp, fun v H2 e2 r2 => q v H2 (e1.trans e2) (r2.mono (fun _ z => .inr (e1.free z)) (Ex.refl _))⟩
/-- a def keeps its promise: its body run from data -/
theorem fn_mk {P : Program} {w : World} {K : PySem.W.Frag} {mg : Str → Option Value} {base : Heap} {k n : Nat} {x qual : Str} {params : Arguments} {body : List Stmt} {scope : Scope} {f : Addr} {fd : FuncData} {N ps : List Str} {pre : List PyData → PyData → Prop}
    (F : FunD K x qual params body scope [] [] f fd) (hm : mg x = some (.ref f)) (S : FnScope N ps scope) (hn : ps.length = n) (hb : Binds K fd ps []) (len : ∀ ds d, pre ds d → ds.length = n)
    (hbody : ∀ (X : Cx) (cdv : Value) (A : Around) (outer : List Env) (s : Shared) (H : Hp) (vs : List V) (Q : VK) (E : XK) (ds : List PyData) (d : PyData), X = (cxOf CX0 P w K mg base N qual scope f cdv A outer s H E).nox → Room k X.A → Iss H vs ds → pre ds d →
      (∀ v H', Ex H H' → Rp (Fr0 H) H' v d → Q v H') → Run X body { nx := fun _ H' => Q .non H', rt := Q } (L2.start N vs) H) : Fn P w K mg base (k + 1) x n pre := by
  refine ⟨f, fd, ps, F.ok S (fun vs H Q E h => ?_) (fun cdv A outer s H vs Q E hr h => ?_), hn, hm, F.kp, hb⟩
  · obtain ⟨ds, d, r, hp, _⟩ := h
    rw [r.length, len ds d hp, hn]
  · obtain ⟨ds, d, r, hp, q⟩ := h
    exact ⟨_, PSs.nox Run.pss, hbody _ cdv A outer s H vs Q E ds d rfl hr r hp q⟩
theorem Fn.mono {P : Program} {w : World} {K : PySem.W.Frag} {mg : Str → Option Value} {base : Heap} {j k n : Nat} {x : Str} {pre : List PyData → PyData → Prop} (F : Fn P w K mg base j x n pre) (h : j ≤ k) : Fn P w K mg base k x n pre :=
  let ⟨f, fd, ps, F, r⟩ := F.ex; ⟨f, fd, ps, F.mono h, r⟩
end

/-! ### what is walked -/
section
variable {X : Cx} {σ : L2.St} {B B' H H' H1 H2 : Hp} {tg e a b c : Expr} {es : List Expr} {d da db dc : PyData} {ds : List PyData} {pos : Pos}
/-- the part of a heap that stays while something known is walked -/
theorem part_of {G : Addr → Prop} (k : Ex B H) (e1 : Ex H H1) {v : V} (r : Rp (Nw B H) H1 v d) : Ex B (Rs (Nw B H) H1) ∧ Ex (Rs (Nw B H) H1) H1 ∧ (∀ a u, Rs (Nw B H) H1 a = some u → Mu u → Nw B H a) ∧ Is (Rs (Nw B H) H1) v d :=
  ⟨(k.trans e1).rs fun a o z => .inl ⟨o, z⟩, rs_ex, fun a u z m => (rs_some z).2 m, r.rs⟩
theorem evi_list (h : Ev X σ B e (.list ds)) : EvI X σ B tg e ds := fun H k R q => Itr.of (pi_list Evl.pe) (h H k _ fun v H1 e1 r1 => by
  obtain ⟨p1, p2, p3, p4⟩ := part_of (G := All) k e1 r1
  cases p4 with
  | lst h0 h1 h2 =>
    rename_i a xs
    refine ⟨a, rfl, ⟨xs, .inl (.inl (p2.lst h1))⟩, q _ _ _ e1 p1 p2 p3 ?_⟩
    rw [← h2.length]
    refine walk_list.mono (fun H2 k2 => .inl (.inl (k2.lst h1))) fun i H2 x H3 hi k2 y => ?_
    obtain ⟨rfl, hx⟩ := y
    obtain ⟨d, hd, rd⟩ := h2.getV hx
    exact ⟨Ex.refl _, d, hd, rd.kn.mono (fun _ z => .inl z) k2⟩)
theorem evi_tup (h : Ev X σ B e (.tuple ds)) : EvI X σ B tg e ds := fun H k R q => Itr.of (pi_tup Evl.pe) (h H k _ fun v H1 e1 r1 => by
  obtain ⟨p1, p2, p3, p4⟩ := part_of (G := All) k e1 r1
  cases p4 with
  | tup h1 h2 =>
    rename_i a xs
    refine ⟨a, rfl, ⟨xs, .inl (.inl (p2.tup h1))⟩, q _ _ _ e1 p1 p2 p3 ?_⟩
    rw [← h2.length]
    refine walk_tup.mono (fun H2 k2 => .inl (.inl (k2.tup h1))) fun i H2 x H3 hi k2 y => ?_
    obtain ⟨rfl, hx⟩ := y
    obtain ⟨d, hd, rd⟩ := h2.getV hx
    exact ⟨Ex.refl _, d, hd, rd.kn.mono (fun _ z => .inl z) k2⟩)
/-- lo, lo + 1, .. -/
def rngD (lo : Int) (n : Nat) : List PyData := (List.range n).map fun (i : Nat) => PyData.int (lo + (i : Int))
theorem evi_rng1 {p : Pos} {j : Int} (hm : X.mg "range" = none) (ha : Ev X σ B a (.int j)) (hj : -(2 ^ 62) ≤ j ∧ j < 2 ^ 62) (hg : Gl X "range" := by rfl) (he : starEach [a] X.env = (false, eval a X.env) :: starEach [] X.env := by rfl) :
    EvI X σ B tg (.Call (.Name "range" p) [a] [] pos) (rngD 0 j.toNat) := fun H k R q => Itr.of (pi_range1 hg hm (pa_cons Evl.pe pa_nil he) he) (ha H k _ fun v H1 e1 r1 => by
  cases r1
  refine ⟨j, rfl, hj.1, hj.2, q _ B H1 e1 (Ex.refl B) (k.trans e1) (fun a u z _ => .inl ⟨u, z⟩) ?_⟩
  rw [show (rngD 0 j.toNat).length = j.toNat by unfold rngD; simp]
  refine walk_range.mono (fun _ _ => trivial) fun i H2 x H3 hi k2 y => ?_
  obtain ⟨rfl, rfl⟩ := y
  exact ⟨Ex.refl _, .int (0 + (i : Int)), by unfold rngD; simp [hi], .int _⟩)
theorem evi_rng2 {p : Pos} {i j : Int} (hm : X.mg "range" = none) (ha : Ev X σ B a (.int i)) (hb : Ev X σ B b (.int j)) (hi : -(2 ^ 62) ≤ i ∧ i < 2 ^ 62) (hj : -(2 ^ 62) ≤ j ∧ j < 2 ^ 62) (hg : Gl X "range" := by rfl)
    (he : starEach [a, b] X.env = (false, eval a X.env) :: starEach [b] X.env := by rfl) (he2 : starEach [b] X.env = (false, eval b X.env) :: starEach [] X.env := by rfl) :
    EvI X σ B tg (.Call (.Name "range" p) [a, b] [] pos) (rngD i (j - i).toNat) := fun H k R q => Itr.of (pi_range2 hg hm (pa_cons Evl.pe (pa_cons Evl.pe pa_nil he2) he) (by rw [he, he2]; rfl) he2) (ha H k _ fun v H1 e1 r1 => hb H1 (k.trans e1) _ fun u H2 e2 r2 => by
  cases r1
  cases r2
  refine ⟨i, j, rfl, ⟨hi.1, hi.2, hj.1, hj.2⟩, q _ B H2 (e1.trans e2) (Ex.refl B) ((k.trans e1).trans e2) (fun a u z _ => .inl ⟨u, z⟩) ?_⟩
  rw [show (rngD i (j - i).toNat).length = (j - i).toNat by unfold rngD; simp]
  refine walk_range.mono (fun _ _ => trivial) fun n H3 x H4 hn k2 y => ?_
  obtain ⟨rfl, rfl⟩ := y
  exact ⟨Ex.refl _, .int (i + (n : Int)), by unfold rngD; simp [hn], .int _⟩)
/-- pairs -/
def zipD (xs ys : List PyData) : List PyData := (xs.zip ys).map fun p => .tuple [p.1, p.2]
theorem pair_yd {B2 : Hp} {xs ys : List V} {dx dy : List PyData} {i : Nat} {H2 H3 : Hp} {v : V} (rx : Iss B2 xs dx) (ry : Iss B2 ys dy) (k2 : Ex B2 H2) (y : YPair (fun i => xs[i]?) (fun i => ys[i]?) i H2 v H3) : YD B2 (zipD dx dy) i H2 v H3 := by
  obtain ⟨T, x, z, rfl, hT, rfl, hx, hz⟩ := y
  obtain ⟨d1, q1, r1⟩ := rx.getV hx
  obtain ⟨d2, q2, r2⟩ := ry.getV hz
  refine ⟨Ex.new hT, .tuple [d1, d2], ?_, .tup upd_same (.cons (r1.kn.mono (fun _ z => .inl z) (k2.trans (Ex.new hT))) (.cons (r2.kn.mono (fun _ z => .inl z) (k2.trans (Ex.new hT))) .nil))⟩
  unfold zipD
  rw [List.getElem?_map, show (dx.zip dy)[i]? = some (d1, d2) from List.getElem?_zip_eq_some.mpr ⟨q1, q2⟩]
  rfl
theorem zipD_length (xs ys : List PyData) : (zipD xs ys).length = min xs.length ys.length := by
  unfold zipD
  simp
end
end Bl

set_option Elab.async false
set_option linter.all false
set_option autoImplicit false
set_option maxRecDepth 100000
set_option maxHeartbeats 2000000
namespace Bl
open PySem PySem.Spec PyProof.Rows L2 LamX StX

/-! ### comprehensions -/
section
variable {X : Cx} {σ : L2.St} {B B' H H' H1 H2 : Hp} {tg iter e a b c elt : Expr} {es ifs : List Expr} {d da db dc : PyData} {ds : List PyData} {pos : Pos} {scope : Scope} {vs : List Nat}
/-- the context of a comprehension's block -/
abbrev blk (X : Cx) (scope : Scope) (s0 : Shared) (H0 : Hp) (C : Addr) (cl : List (Str × Addr)) (fp : List Addr) : Cx := X.blk s0 H0 scope (compEnvC scope cl C X.env) fp
/-- in all such contexts -/
def EvB (X : Cx) (scope : Scope) (σ : L2.St) (B : Hp) (e : Expr) (d : PyData) : Prop := ∀ s0 H0 C cl fp, Ev (blk X scope s0 H0 C cl fp) σ B e d
def EvSB (X : Cx) (scope : Scope) (σ : L2.St) (B : Hp) (es : List Expr) (b : Bool) : Prop := ∀ s0 H0 C cl fp, EvS (blk X scope s0 H0 C cl fp) σ B es b
def teB (X : Cx) (scope : Scope) (e : Expr) : TE := fun σ H Q => ∀ s0 H0 C cl fp, Evl (blk X scope s0 H0 C cl fp) e σ H Q
def ttB (X : Cx) (scope : Scope) (es : List Expr) : TT := fun σ H Q => ∀ s0 H0 C cl fp, Tss (blk X scope s0 H0 C cl fp) es σ H Q
/-- what a target's store does with an item -/
def Tgt {α : Type} (g : TG) (vs : List Nat) (f : α → PyData) (Gs : α → Hp → L2.St → Prop) : Prop :=
  ∀ (x : α) (v : V) (B3 H : Hp) (σ : L2.St), Is B3 v (f x) → Ex B3 H → ∀ Q : L2.St → Hp → Prop, (∀ σ2, wipe σ2 vs = wipe σ vs → Gs x B3 σ2 → Q σ2 H) → g v (wipe σ vs) H Q
theorem lc_sem {α : Type} (xs : List α) (f : α → PyData) (p : α → Bool) (r : α → PyData) (Gs : α → Hp → L2.St → Prop) {g : TG} (hi : EvI X σ B tg iter (xs.map f))
    (hg : ∀ x ∈ xs, ∀ (v : V) (B3 H : Hp), Is B3 v (f x) → Ex B3 H → ∀ Q : L2.St → Hp → Prop, (∀ σ2, wipe σ2 vs = wipe σ vs → Gs x B3 σ2 → Q σ2 H) → g v (wipe σ vs) H Q)
    (ht : ∀ x ∈ xs, ∀ B3 σ2, Ex B B3 → Gs x B3 σ2 → EvSB X scope σ2 B3 ifs (p x)) (he : ∀ x ∈ xs, p x = true → ∀ B3 σ2, Ex B B3 → Gs x B3 σ2 → EvB X scope σ2 B3 elt (r x)) (hl : xs.length < sizeLine) (k : Ex B H) {Q : VK}
    (q : ∀ v H', Ex H H' → Rp (Nw B H) H' v (.list ((xs.filter p).map r)) → (∃ l, v = .ref l ∧ H l = none) → Q v H') : tLc (Itr X tg iter) g (ttB X scope ifs) (teB X scope elt) vs σ H Q :=
  hi H k _ fun J B2 H1 e1 eB e2 gB W => fun Dl hD => by
    rw [List.length_map] at W
    have hDH : H Dl = none := e1.free hD
    have hDB : B Dl = none := k.free hDH
    refine lc_it W (fun i H2 => ∃ acc, Ex H1 H2 ∧ H2 Dl = some (.lst acc) ∧ Rps (Nw B H) (Wo Dl H2) acc (((xs.take i).filter p).map r)) ⟨[], Ex.new hD, upd_same, .nil⟩ (fun i H2 _ ⟨acc, k2, _, _⟩ => e2.trans k2) (fun i v H2 H3 hin ⟨acc, k2, hacc, racc⟩ hy => ?_) fun H2 ⟨acc, k2, hacc, racc⟩ => ?_
    · obtain ⟨k3, d, hd, rd⟩ := hy
      have hx : xs[i]? = some xs[i] := List.getElem?_eq_getElem hin
      have hm : xs[i] ∈ xs := List.getElem_mem hin
      rw [List.getElem?_map, hx] at hd
      have ed : f xs[i] = d := Option.some.inj hd
      rw [← ed] at rd
      have h3 : H3 Dl = some (.lst acc) := k3.lst hacc
      have rv : Rp (fun a => Nw B H a ∧ a ≠ Dl) H3 v (f xs[i]) := Rp.to (fun a ys z w => by
        refine ⟨?_, w⟩
        rcases z with ⟨o, z⟩ | z
        · have z' := ((e2.trans k2).trans k3).lst_back z w
          exact ⟨gB a _ z' trivial, fun ea => by
            subst ea
            obtain ⟨u, hu⟩ := e2.has _ _ z
            rw [hD] at hu
            cases hu⟩
        · exact ⟨.inr ((e1.trans k2).free z), fun ea => by
            rw [ea, hacc] at z
            cases z⟩) (fun _ _ w => w) _ v rd
      have iv : Is (Rs (Nw B H) (Wo Dl H3)) v (f xs[i]) := ((rv.wo h3 trivial (fun z => z.2 rfl)).mono (fun _ z => z.1) (Ex.refl _)).rs
      have kB : Ex B (Rs (Nw B H) (Wo Dl H3)) := (((k.trans e1).trans (k2.trans k3)).wo hDB h3 trivial).rs fun a o z => .inl ⟨o, z⟩
      have k33 : Ex (Rs (Nw B H) (Wo Dl H3)) H3 := rs_ex.trans wo_ex
      refine hg _ hm v _ H3 iv k33 _ fun σ2 hw hG => ⟨hw, fun s0 H0 C cl fp => ?_⟩
      refine ht _ hm _ σ2 kB hG s0 H0 C cl fp H3 k33 _ fun H4 k4 => ?_
      have hlen : ((xs.take i).filter p).length ≤ i := Nat.le_trans (List.length_filter_le _ _) (by rw [List.length_take]; omega)
      cases hp : p xs[i] with
      | false =>
        refine ⟨acc, k2.trans (k3.trans k4), k4.lst h3, ?_⟩
        rw [List.take_add_one, hx, Option.toList_some, List.filter_append, List.filter_cons, if_neg (by rw [hp]; decide), List.filter_nil, List.append_nil]
        exact racc.mono (fun _ z => z) ((k3.trans k4).wo2 hacc trivial)
      | true =>
        show teB X scope elt σ2 H4 _
        intro s0 H0 C cl fp
        refine he _ hm hp _ σ2 kB hG s0 H0 C cl fp H4 (k33.trans k4) _ fun y H5 k5 ry => ⟨acc, k5.lst (k4.lst h3), ?_, acc ++ [y], ?_, upd_same, ?_⟩
        · rw [racc.length, List.length_map]
          omega
        · exact (k2.trans ((k3.trans k4).trans k5)).mut hD (k5.lst (k4.lst h3)) trivial
        · rw [wo_upd, List.take_add_one, hx, Option.toList_some, List.filter_append, List.filter_cons, if_pos hp, List.filter_nil, List.map_append]
          refine (racc.mono (fun _ z => z) (((k3.trans k4).trans k5).wo2 hacc trivial)).snoc ?_
          have ry' : Rp (fun a => Nw B H a ∧ a ≠ Dl) H5 y (r xs[i]) := Rp.to (fun a ys z w => by
            refine ⟨?_, w⟩
            rcases z with ⟨o, z⟩ | z
            · have z' := ((k33.trans k4).trans k5).lst_back z w
              obtain ⟨z1, z2⟩ := rs_some z'
              exact ⟨z2 trivial, (wo_some z1).1⟩
            · exact ⟨.inr ((e1.trans ((k2.trans k3).trans k4)).free z), fun ea => by
                rw [ea, k4.lst h3] at z
                cases z⟩) (fun _ _ w => w) _ y ry
          exact (ry'.wo (k5.lst (k4.lst h3)) trivial (fun z => z.2 rfl)).mono (fun _ z => z.1) (Ex.refl _)
    · rw [List.take_of_length_le (Nat.le_refl _)] at racc
      exact q _ H2 (e1.trans k2) (.lst (.inr hDH) hacc (racc.mono (fun _ z => z) wo_ex)) ⟨Dl, rfl, hDH⟩
/-- [elt for tg in iter if ..] comes to the data -/
structure LcJ (X : Cx) (scope : Scope) (elt tg iter : Expr) (ifs : List Expr) (σ : L2.St) (B : Hp) (d : PyData) : Prop where
  ex : ∃ (own : List (Str × Nat)) (wi : TI) (g : TG) (tt : TT) (te : TE), X.calm = true ∧ X.N.Nodup ∧ PI X tg iter wi ∧ BlkOk X.N X.env.scope scope own ∧
    (∀ (s : Shared) (H : Hp) (C : Addr) (cl : List (Str × Addr)) (fp : List Addr), PG (X.blk s H scope (compEnvC scope cl C X.env) fp) tg g) ∧ (∀ (s : Shared) (H : Hp) (C : Addr) (cl : List (Str × Addr)) (fp : List Addr), PTs (X.blk s H scope (compEnvC scope cl C X.env) fp) ifs tt) ∧
    (∀ (s : Shared) (H : Hp) (C : Addr) (cl : List (Str × Addr)) (fp : List Addr), PE (X.blk s H scope (compEnvC scope cl C X.env) fp) elt te) ∧ (∀ x, foldedSetIterable iter X.env x = pure x) ∧
    ∀ H, Ex B H → ∀ Q : VK, (∀ v H', Ex H H' → Rp (Nw B H) H' v d → (∃ l, v = .ref l ∧ H l = none) → Q v H') → tLc wi g tt te (own.map (·.2)) σ H Q
theorem LcJ.ev (h : LcJ X scope elt tg iter ifs σ B d) : Ev X σ B (.ListComp elt [⟨tg, iter, ifs, 0⟩] scope pos) d := fun H k Q q => by
  obtain ⟨own, wi, g, tt, te, hc, hN, hi, ok, hg, ht, he, hs, h⟩ := h.ex
  exact Evl.of (pe_lc hc hN hi ok hg ht he hs) (h H k Q fun v H' e r _ => q v H' e r)
/-- .. as a value, the new list told -/
theorem LcJ.evl (h : LcJ X scope elt tg iter ifs σ B d) (k : Ex B H) {Q : VK} (q : ∀ v H', Ex H H' → Rp (Nw B H) H' v d → (∃ l, v = .ref l ∧ H l = none) → Q v H') : Evl X (.ListComp elt [⟨tg, iter, ifs, 0⟩] scope pos) σ H Q := by
  obtain ⟨own, wi, g, tt, te, hc, hN, hi, ok, hg, ht, he, hs, h⟩ := h.ex
  exact Evl.of (pe_lc hc hN hi ok hg ht he hs) (h H k Q q)
theorem lcJ {own : List (Str × Nat)} {α : Type} (xs : List α) (f : α → PyData) (p : α → Bool) (r : α → PyData) (Gs : α → Hp → L2.St → Prop) {g : TG} (hN : X.N.Nodup) (ok : BlkOk X.N X.env.scope scope own)
    (pg : ∀ (s : Shared) (H : Hp) (C : Addr) (cl : List (Str × Addr)) (fp : List Addr), PG (X.blk s H scope (compEnvC scope cl C X.env) fp) tg g) (hi : EvI X σ B tg iter (xs.map f))
    (hg : ∀ x ∈ xs, ∀ (v : V) (B3 H : Hp), Is B3 v (f x) → Ex B3 H → ∀ Q : L2.St → Hp → Prop, (∀ σ2, wipe σ2 (own.map (·.2)) = wipe σ (own.map (·.2)) → Gs x B3 σ2 → Q σ2 H) → g v (wipe σ (own.map (·.2))) H Q)
    (ht : ∀ x ∈ xs, ∀ B3 σ2, Ex B B3 → Gs x B3 σ2 → EvSB X scope σ2 B3 ifs (p x)) (he : ∀ x ∈ xs, p x = true → ∀ B3 σ2, Ex B B3 → Gs x B3 σ2 → EvB X scope σ2 B3 elt (r x)) (hl : xs.length < sizeLine)
    (hc : X.calm = true := by rfl) (hs : ∀ x, foldedSetIterable iter X.env x = pure x := by intro _; rfl) : LcJ X scope elt tg iter ifs σ B (.list ((xs.filter p).map r)) :=
  ⟨own, _, g, _, _, hc, hN, Itr.pi, ok, pg, fun s0 H0 C cl fp => ⟨fun pins s σ H Q I h => h s0 H0 C cl fp pins s I⟩, fun s0 H0 C cl fp => ⟨fun pins s σ H Q I h => h s0 H0 C cl fp pins s I⟩, hs, fun H k Q q => lc_sem xs f p r Gs hi hg ht he hl k q⟩
/-- one name as the target, no test -/
theorem lcN {own : List (Str × Nat)} {α : Type} (xs : List α) (f : α → PyData) (r : α → PyData) (j : Nat) {y : Str} {py : Pos} (hN : X.N.Nodup) (ok : BlkOk X.N X.env.scope scope own) (hi : EvI X σ B (.Name y py) iter (xs.map f))
    (he : ∀ x ∈ xs, ∀ (v : V) (B3 : Hp), Ex B B3 → Is B3 v (f x) → EvB X scope ((wipe σ (own.map (·.2))).set j (some v)) B3 elt (r x)) (hl : xs.length < sizeLine)
    (hw : ∀ v, wipe ((wipe σ (own.map (·.2))).set j (some v)) (own.map (·.2)) = wipe σ (own.map (·.2)) := by intro _; rfl) (hj : X.N[j]? = some y := by rfl) (hy : ∀ s0 H0 C cl fp, Loc (blk X scope s0 H0 C cl fp).env.scope y ∧ ((blk X scope s0 H0 C cl fp).fn y = true ∨ (blk X scope s0 H0 C cl fp).env.scope.names.lookup y = some .local) := by intros; first | exact ⟨.inl rfl, .inr rfl⟩ | exact ⟨.inr rfl, .inl rfl⟩)
    (hc : X.calm = true := by rfl) (hs : ∀ x, foldedSetIterable iter X.env x = pure x := by intro _; rfl) : LcJ X scope elt (.Name y py) iter [] σ B (.list (xs.map r)) := by
  have h := lcJ (scope := scope) (elt := elt) (ifs := []) xs f (fun _ => true) r (fun x B3 σ2 => ∃ v, Is B3 v (f x) ∧ σ2 = (wipe σ (own.map (·.2))).set j (some v)) hN ok (fun _ _ _ _ _ => pg_name hN hj (hy _ _ _ _ _).1 (hy _ _ _ _ _).2) hi
    (fun x hx v B3 H3 iv k3 Q q => q _ (hw v) ⟨v, iv, rfl⟩) (fun x hx B3 σ2 kB hG s0 H0 C cl fp => evs_nil) (fun x hx _ B3 σ2 kB hG => by
      obtain ⟨v, iv, rfl⟩ := hG
      exact he x hx v B3 kB iv) hl hc hs
  rw [List.filter_eq_self.mpr fun _ _ => rfl] at h
  exact h
/-- one name as the target, a test -/
theorem lcNT {own : List (Str × Nat)} {α : Type} (xs : List α) (f : α → PyData) (p : α → Bool) (r : α → PyData) (j : Nat) {y : Str} {py : Pos} (hN : X.N.Nodup) (ok : BlkOk X.N X.env.scope scope own) (hi : EvI X σ B (.Name y py) iter (xs.map f))
    (ht : ∀ x ∈ xs, ∀ (v : V) (B3 : Hp), Ex B B3 → Is B3 v (f x) → EvSB X scope ((wipe σ (own.map (·.2))).set j (some v)) B3 ifs (p x))
    (he : ∀ x ∈ xs, p x = true → ∀ (v : V) (B3 : Hp), Ex B B3 → Is B3 v (f x) → EvB X scope ((wipe σ (own.map (·.2))).set j (some v)) B3 elt (r x)) (hl : xs.length < sizeLine)
    (hw : ∀ v, wipe ((wipe σ (own.map (·.2))).set j (some v)) (own.map (·.2)) = wipe σ (own.map (·.2)) := by intro _; rfl) (hj : X.N[j]? = some y := by rfl) (hy : ∀ s0 H0 C cl fp, Loc (blk X scope s0 H0 C cl fp).env.scope y ∧ ((blk X scope s0 H0 C cl fp).fn y = true ∨ (blk X scope s0 H0 C cl fp).env.scope.names.lookup y = some .local) := by intros; first | exact ⟨.inl rfl, .inr rfl⟩ | exact ⟨.inr rfl, .inl rfl⟩)
    (hc : X.calm = true := by rfl) (hs : ∀ x, foldedSetIterable iter X.env x = pure x := by intro _; rfl) : LcJ X scope elt (.Name y py) iter ifs σ B (.list ((xs.filter p).map r)) :=
  lcJ (scope := scope) (elt := elt) xs f p r (fun x B3 σ2 => ∃ v, Is B3 v (f x) ∧ σ2 = (wipe σ (own.map (·.2))).set j (some v)) hN ok (fun _ _ _ _ _ => pg_name hN hj (hy _ _ _ _ _).1 (hy _ _ _ _ _).2) hi
    (fun x hx v B3 H3 iv k3 Q q => q _ (hw v) ⟨v, iv, rfl⟩) (fun x hx B3 σ2 kB hG => by
      obtain ⟨v, iv, rfl⟩ := hG
      exact ht x hx v B3 kB iv) (fun x hx hp B3 σ2 kB hG => by
      obtain ⟨v, iv, rfl⟩ := hG
      exact he x hx hp v B3 kB iv) hl hc hs
/-- a pair of names as the target -/
theorem pg_pair {K : PySem.W.Frag} {j1 j2 : Nat} {B3 H3 : Hp} {v : V} {d1 d2 : PyData} {σ' : L2.St} {Q : L2.St → Hp → Prop} (iv : Is B3 v (.tuple [d1, d2])) (k3 : Ex B3 H3) (q : ∀ v1 v2, Is B3 v1 d1 → Is B3 v2 d2 → Q ((σ'.set j1 (some v1)).set j2 (some v2)) H3) :
    gTup K 2 (gCons (gName j1) (gCons (gName j2) gNil)) v σ' H3 Q := by
  cases iv with
  | tup h1 h2 =>
    cases h2 with
    | cons a1 a2 =>
      cases a2 with
      | cons a2 a3 =>
        cases a3
        rename_i v1 v2
        exact ⟨_, [v1, v2], rfl, .inl (.inl (k3.tup h1)), rfl, v1, [v2], rfl, v2, [], rfl, rfl, q v1 v2 a1 a2⟩
theorem lcP {own : List (Str × Nat)} {α : Type} (xs : List α) (f1 f2 : α → PyData) (r : α → PyData) (j1 j2 : Nat) {y1 y2 : Str} {p1 p2 pt : Pos} {kt : Nat} (hN : X.N.Nodup) (ok : BlkOk X.N X.env.scope scope own)
    (hi : EvI X σ B (.Tuple [.Name y1 p1, .Name y2 p2] kt pt) iter (xs.map fun x => .tuple [f1 x, f2 x]))
    (he : ∀ x ∈ xs, ∀ (v1 v2 : V) (B3 : Hp), Ex B B3 → Is B3 v1 (f1 x) → Is B3 v2 (f2 x) → EvB X scope (((wipe σ (own.map (·.2))).set j1 (some v1)).set j2 (some v2)) B3 elt (r x)) (hl : xs.length < sizeLine)
    (hw : ∀ v1 v2, wipe (((wipe σ (own.map (·.2))).set j1 (some v1)).set j2 (some v2)) (own.map (·.2)) = wipe σ (own.map (·.2)) := by intro _ _; rfl) (hj1 : X.N[j1]? = some y1 := by rfl) (hj2 : X.N[j2]? = some y2 := by rfl)
    (hy1 : ∀ s0 H0 C cl fp, Loc (blk X scope s0 H0 C cl fp).env.scope y1 ∧ ((blk X scope s0 H0 C cl fp).fn y1 = true ∨ (blk X scope s0 H0 C cl fp).env.scope.names.lookup y1 = some .local) := by intros; first | exact ⟨.inl rfl, .inr rfl⟩ | exact ⟨.inr rfl, .inl rfl⟩) (hy2 : ∀ s0 H0 C cl fp, Loc (blk X scope s0 H0 C cl fp).env.scope y2 ∧ ((blk X scope s0 H0 C cl fp).fn y2 = true ∨ (blk X scope s0 H0 C cl fp).env.scope.names.lookup y2 = some .local) := by intros; first | exact ⟨.inl rfl, .inr rfl⟩ | exact ⟨.inr rfl, .inl rfl⟩)
    (hc : X.calm = true := by rfl) (hs : ∀ x, foldedSetIterable iter X.env x = pure x := by intro _; rfl) : LcJ X scope elt (.Tuple [.Name y1 p1, .Name y2 p2] kt pt) iter [] σ B (.list (xs.map r)) := by
  have h := lcJ (scope := scope) (elt := elt) (ifs := []) (g := gTup X.K 2 (gCons (gName j1) (gCons (gName j2) gNil))) xs (fun x => .tuple [f1 x, f2 x]) (fun _ => true) r
    (fun x B3 σ2 => ∃ v1 v2, Is B3 v1 (f1 x) ∧ Is B3 v2 (f2 x) ∧ σ2 = ((wipe σ (own.map (·.2))).set j1 (some v1)).set j2 (some v2)) hN ok
    (fun _ _ _ _ _ => pg_tup hc (pgs_cons (pg_name hN hj1 (hy1 _ _ _ _ _).1 (hy1 _ _ _ _ _).2) (pgs_cons (pg_name hN hj2 (hy2 _ _ _ _ _).1 (hy2 _ _ _ _ _).2) pgs_nil))) hi
    (fun x hx v B3 H3 iv k3 Q q => pg_pair iv k3 fun v1 v2 i1 i2 => q _ (hw v1 v2) ⟨v1, v2, i1, i2, rfl⟩) (fun x hx B3 σ2 kB hG s0 H0 C cl fp => evs_nil) (fun x hx _ B3 σ2 kB hG => by
      obtain ⟨v1, v2, i1, i2, rfl⟩ := hG
      exact he x hx v1 v2 B3 kB i1 i2) hl hc hs
  rw [List.filter_eq_self.mpr fun _ _ => rfl] at h
  exact h
theorem lcPT {own : List (Str × Nat)} {α : Type} (xs : List α) (f1 f2 : α → PyData) (p : α → Bool) (r : α → PyData) (j1 j2 : Nat) {y1 y2 : Str} {p1 p2 pt : Pos} {kt : Nat} (hN : X.N.Nodup) (ok : BlkOk X.N X.env.scope scope own)
    (hi : EvI X σ B (.Tuple [.Name y1 p1, .Name y2 p2] kt pt) iter (xs.map fun x => .tuple [f1 x, f2 x]))
    (ht : ∀ x ∈ xs, ∀ (v1 v2 : V) (B3 : Hp), Ex B B3 → Is B3 v1 (f1 x) → Is B3 v2 (f2 x) → EvSB X scope (((wipe σ (own.map (·.2))).set j1 (some v1)).set j2 (some v2)) B3 ifs (p x))
    (he : ∀ x ∈ xs, p x = true → ∀ (v1 v2 : V) (B3 : Hp), Ex B B3 → Is B3 v1 (f1 x) → Is B3 v2 (f2 x) → EvB X scope (((wipe σ (own.map (·.2))).set j1 (some v1)).set j2 (some v2)) B3 elt (r x)) (hl : xs.length < sizeLine)
    (hw : ∀ v1 v2, wipe (((wipe σ (own.map (·.2))).set j1 (some v1)).set j2 (some v2)) (own.map (·.2)) = wipe σ (own.map (·.2)) := by intro _ _; rfl) (hj1 : X.N[j1]? = some y1 := by rfl) (hj2 : X.N[j2]? = some y2 := by rfl)
    (hy1 : ∀ s0 H0 C cl fp, Loc (blk X scope s0 H0 C cl fp).env.scope y1 ∧ ((blk X scope s0 H0 C cl fp).fn y1 = true ∨ (blk X scope s0 H0 C cl fp).env.scope.names.lookup y1 = some .local) := by intros; first | exact ⟨.inl rfl, .inr rfl⟩ | exact ⟨.inr rfl, .inl rfl⟩) (hy2 : ∀ s0 H0 C cl fp, Loc (blk X scope s0 H0 C cl fp).env.scope y2 ∧ ((blk X scope s0 H0 C cl fp).fn y2 = true ∨ (blk X scope s0 H0 C cl fp).env.scope.names.lookup y2 = some .local) := by intros; first | exact ⟨.inl rfl, .inr rfl⟩ | exact ⟨.inr rfl, .inl rfl⟩)
    (hc : X.calm = true := by rfl) (hs : ∀ x, foldedSetIterable iter X.env x = pure x := by intro _; rfl) : LcJ X scope elt (.Tuple [.Name y1 p1, .Name y2 p2] kt pt) iter ifs σ B (.list ((xs.filter p).map r)) :=
  lcJ (scope := scope) (elt := elt) (g := gTup X.K 2 (gCons (gName j1) (gCons (gName j2) gNil))) xs (fun x => .tuple [f1 x, f2 x]) p r
    (fun x B3 σ2 => ∃ v1 v2, Is B3 v1 (f1 x) ∧ Is B3 v2 (f2 x) ∧ σ2 = ((wipe σ (own.map (·.2))).set j1 (some v1)).set j2 (some v2)) hN ok
    (fun _ _ _ _ _ => pg_tup hc (pgs_cons (pg_name hN hj1 (hy1 _ _ _ _ _).1 (hy1 _ _ _ _ _).2) (pgs_cons (pg_name hN hj2 (hy2 _ _ _ _ _).1 (hy2 _ _ _ _ _).2) pgs_nil))) hi
    (fun x hx v B3 H3 iv k3 Q q => pg_pair iv k3 fun v1 v2 i1 i2 => q _ (hw v1 v2) ⟨v1, v2, i1, i2, rfl⟩) (fun x hx B3 σ2 kB hG => by
      obtain ⟨v1, v2, i1, i2, rfl⟩ := hG
      exact ht x hx v1 v2 B3 kB i1 i2) (fun x hx hp B3 σ2 kB hG => by
      obtain ⟨v1, v2, i1, i2, rfl⟩ := hG
      exact he x hx hp v1 v2 B3 kB i1 i2) hl hc hs
end

/-! ### statements -/
section
variable {X : Cx} {σ : L2.St} {B B' H H' H1 H2 : Hp} {tg iter e a b c elt : Expr} {es ifs : List Expr} {d da db dc : PyData} {ds : List PyData} {pos : Pos} {scope : Scope} {rest body orelse : List Stmt} {D : Ends}
theorem run_set {x : Str} {p' : Pos} (i : Nat) (h : Ev X σ B e d) (k : Ex B H) (q : ∀ v H', Ex H H' → Rp (Nw B H) H' v d → Run X rest D (σ.set i (some v)) H') (hN : X.N.Nodup) (hi : X.N[i]? = some x := by rfl)
    (hx : Loc X.env.scope x := by first | exact Or.inl rfl | exact Or.inr rfl) (hs : swapsWith e (some (.Name x p')) pos.line X.env = pure false := by rfl) (hf : X.fn x = true ∨ X.env.scope.names.lookup x = some .local := by first | exact .inr rfl | exact .inl rfl) :
    Run X (.Assign [.Name x p'] e pos :: rest) D σ H := run_cons (ps_set hN hi hx Evl.pe hs hf) (h H k _ q)
/-- name = [..] on one line -/
theorem run_setLc {y : Str} {py cpos : Pos} (i : Nat) (h : LcJ X scope elt tg iter ifs σ B d) (k : Ex B H) (q : ∀ v H', Ex H H' → Rp (Nw B H) H' v d → Run X rest D (σ.set i (some v)) H') (hy : X.N[i]? = some y := by rfl) (hyl : X.env.scope.names.lookup y = some .local := by rfl)
    (hsw : swapsWith (.ListComp elt [⟨tg, iter, ifs, 0⟩] scope cpos) (some (.Name y py)) pos.line X.env = pure true := by rfl) : Run X (.Assign [.Name y py] (.ListComp elt [⟨tg, iter, ifs, 0⟩] scope cpos) pos :: rest) D σ H := by
  obtain ⟨own, wi, g, tt, te, hc, hN, hi, ok, hg, ht, he, hs, h⟩ := h.ex
  exact run_cons (ps_setLc hc hN hy hyl hsw hi ok hg ht he hs) (h H k _ fun v H' e r _ => q v H' e r)
theorem run_ret (h : Ev X σ B e d) (k : Ex B H) (q : ∀ v H', Ex H H' → Rp (Nw B H) H' v d → D.rt v H') : Run X (.Return (some e) pos :: rest) D σ H := run_cons (ps_ret Evl.pe) (h H k _ q)
theorem run_retN (q : D.rt .non H) : Run X (.Return none pos :: rest) D σ H := run_cons ps_retN q
theorem run_expr (h : Ev X σ B e d) (k : Ex B H) (q : ∀ H', Ex H H' → Run X rest D σ H') (hs : swapsWith e none pos.line X.env = pure false := by rfl) : Run X (.Expr e pos :: rest) D σ H := run_cons (ps_expr Evl.pe hs) (h H k _ fun _ H' k' _ => q H' k')
theorem run_if {t : Bool} (h : EvT X σ B c t) (k : Ex B H) (q1 : t = true → ∀ H', Ex H H' → Run X body { D with nx := Run X rest D } σ H') (q0 : t = false → ∀ H', Ex H H' → Run X orelse { D with nx := Run X rest D } σ H') : Run X (.If c body orelse pos :: rest) D σ H :=
  run_cons (ps_if Tst.pt Run.pss Run.pss) (h H k _ fun H' k' => by
    cases t with
    | true => exact q1 rfl H' k'
    | false => exact q0 rfl H' k')
theorem run_ifF (h : EvT X σ B c false) (k : Ex B H) (q : ∀ H', Ex H H' → Run X rest D σ H') : Run X (.If c body [] pos :: rest) D σ H := run_if h k (fun z => nomatch z) fun _ H' k' => run_nil (q H' k')
theorem run_ifT (h : EvT X σ B c true) (k : Ex B H) (q : ∀ H', Ex H H' → Run X body { D with nx := Run X rest D } σ H') : Run X (.If c body orelse pos :: rest) D σ H := run_if h k (fun _ => q) fun z => nomatch z
/-- a for over what is walked -/
theorem run_for {g : TG} (pg : PG X tg g) (hi : EvI X σ B tg iter ds) (k : Ex B H)
    (h : ∀ B2 H1, Ex H H1 → Ex B B2 → Ex B2 H1 → (∀ a u, B2 a = some u → Mu u → Nw B H a) → ∃ Pv : Nat → L2.St → Hp → Prop, Pv 0 σ H1 ∧ (∀ i σ' H', Pv i σ' H' → Ex B2 H') ∧
      (∀ i d x σ' H' H'', ds[i]? = some d → Pv i σ' H' → Ex H' H'' → Rp (Nw B2 H') H'' x d → g x σ' H'' fun σ2 H2 => Run X body { D with nx := Pv (i + 1), ct := Pv (i + 1), bk := Run X rest D } σ2 H2) ∧ ∀ σ' H', Pv ds.length σ' H' → Run X rest D σ' H')
    (hp : PassesOwn (model X.prog X.w) X.A X.env X.xe := by exact PassesOwn.never) (hc : X.calm = true := by rfl) (hs : ∀ x, foldedSetIterable iter X.env x = pure x := by intro _; rfl) : Run X (.For tg iter body [] pos :: rest) D σ H :=
  run_cons (ps_for hp hc Itr.pi pg Run.pss hs) (hi H k _ fun J B2 H1 e1 eB e2 gB W => by
    obtain ⟨Pv, h0, hB, hs, hd⟩ := h B2 H1 e1 eB e2 gB
    refine for_it W Pv h0 (fun i σ' H' _ p => hB i σ' H' p) (fun i x σ' H' H'' hi p y => ?_) hd
    obtain ⟨k', d, hd, rd⟩ := y
    exact hs i d x σ' H' H'' hd p k' rd)
theorem run_forN {x : Str} {px : Pos} (j : Nat) (hi : EvI X σ B (.Name x px) iter ds) (k : Ex B H)
    (h : ∀ B2 H1, Ex H H1 → Ex B B2 → Ex B2 H1 → (∀ a u, B2 a = some u → Mu u → Nw B H a) → ∃ Pv : Nat → L2.St → Hp → Prop, Pv 0 σ H1 ∧ (∀ i σ' H', Pv i σ' H' → Ex B2 H') ∧
      (∀ i d v σ' H' H'', ds[i]? = some d → Pv i σ' H' → Ex H' H'' → Rp (Nw B2 H') H'' v d → Run X body { D with nx := Pv (i + 1), ct := Pv (i + 1), bk := Run X rest D } (σ'.set j (some v)) H'') ∧ ∀ σ' H', Pv ds.length σ' H' → Run X rest D σ' H')
    (hN : X.N.Nodup) (hj : X.N[j]? = some x := by rfl) (hx : Loc X.env.scope x := by first | exact Or.inl rfl | exact Or.inr rfl) (hf : X.fn x = true ∨ X.env.scope.names.lookup x = some .local := by first | exact .inr rfl | exact .inl rfl)
    (hp : PassesOwn (model X.prog X.w) X.A X.env X.xe := by exact PassesOwn.never) (hc : X.calm = true := by rfl) (hs : ∀ x, foldedSetIterable iter X.env x = pure x := by intro _; rfl) : Run X (.For (.Name x px) iter body [] pos :: rest) D σ H :=
  run_for (g := gName j) (pg_name hN hj hx hf) hi k h hp hc hs
theorem run_while (W : Nat → L2.St → Hp → Prop) (m0 : Nat) (h0 : W m0 σ H)
    (hs : ∀ m σ' H', W m σ' H' → ∃ b, EvT X σ' H' c b ∧ (b = true → ∀ H1, Ex H' H1 → Run X body { D with nx := fun σ2 H2 => ∃ m', m' < m ∧ W m' σ2 H2, ct := fun σ2 H2 => ∃ m', m' < m ∧ W m' σ2 H2, bk := Run X rest D } σ' H1) ∧ (b = false → ∀ H1, Ex H' H1 → Run X rest D σ' H1))
    (hp : PassesOwn (model X.prog X.w) X.A X.env X.xe := by exact PassesOwn.never) : Run X (.While c body [] pos :: rest) D σ H :=
  run_cons (ps_while hp Tst.pt Run.pss) ⟨W, ⟨m0, h0⟩, fun m σ' H' w => by
    obtain ⟨b, ht, h1, h2⟩ := hs m σ' H' w
    refine ht H' (Ex.refl H') _ fun H1 k1 => ?_
    cases b with
    | true => exact ⟨_, fun _ _ z => z, h1 rfl H1 k1⟩
    | false => exact h2 rfl H1 k1⟩
theorem run_par {x y : Str} {px py pt pt2 : Pos} {kt k2 : Nat} (i j : Nat) (ha : EvA X σ B [a, b] [da, db]) (k : Ex B H) (q : ∀ u v H', Ex H H' → Rp (Nw B H) H' u da → Rp (Nw B H) H' v db → Run X rest D ((σ.set i (some u)).set j (some v)) H') (hN : X.N.Nodup)
    (hi : X.N[i]? = some x := by rfl) (hj : X.N[j]? = some y := by rfl) (hij : i ≠ j := by decide) (hx : X.env.scope.names.lookup x = some .local := by rfl) (hy : X.env.scope.names.lookup y = some .local := by rfl)
    (hw : swappedStores [.Tuple [.Name x px, .Name y py] kt pt] (.Tuple [a, b] k2 pt2) X.env = pure (some [x, y]) := by rfl) (hs : swapsWithSole [.Tuple [.Name x px, .Name y py] kt pt] (.Tuple [a, b] k2 pt2) pos.line X.env = pure false := by rfl) (hc : X.calm = true := by rfl) :
    Run X (.Assign [.Tuple [.Name x px, .Name y py] kt pt] (.Tuple [a, b] k2 pt2) pos :: rest) D σ H := run_cons (ps_par hc hN hi hj hij hx hy Arg.pa hw hs) (ha H k _ fun vs H' k' r => by
      cases r with
      | cons r1 r =>
        cases r with
        | cons r2 r =>
          cases r
          exact ⟨_, _, rfl, q _ _ H' k' r1 r2⟩)
/-- l.append(e), l a list that B does not know -/
theorem run_app {x : Str} {px apos cpos : Pos} {xs : List V} {p : Addr} (i : Nat) (hσ : σ[i]? = some (some (.ref p))) (hp : H p = some (.lst xs)) (h : Ev X σ B e d) (k : Ex B H) (hl : xs.length < sizeLine)
    (q : ∀ v H', Ex H H' → Rp (Nw B H) H' v d → Run X rest D σ (upd H' p (.lst (xs ++ [v])))) (hN : X.N[i]? = some x := by rfl) (hv : Vis X.env.scope x := by first | exact Or.inl rfl | exact Or.inr (Or.inl rfl) | exact Or.inr (Or.inr rfl))
    (hd : (x == ("__debug__" : Str)) = false := by decide) (hcd : (x == ("__classdict__" : Str)) = false := by decide)
    (hbase : attributeBase (.Name x px) "append" X.env (eval (.Name x px) X.env) = eval (.Name x px) X.env := by rfl)
    (hfew : ((backTo cpos (starEach [e] X.env)).all (fun x => !x.1) && (backToKw cpos (keywordEach [] X.env)).all (fun x => x.1.isSome) && decide ([e].length + ([] : List Keyword).length + (if ([] : List Keyword).isEmpty then 0 else 1) < 30)) = true := by rfl)
    (hline : (apos.endLine == cpos.line) = true := by rfl) (hse : starEach [e] X.env = (false, eval e X.env) :: starEach [] X.env := by rfl) (hplain : (backTo cpos (starEach [] X.env)).any (·.1) = false := by rfl)
    (hs : swapsWith (.Call (.Attribute (.Name x px) "append" apos) [e] [] cpos) none pos.line X.env = pure false := by rfl) :
    Run X (.Expr (.Call (.Attribute (.Name x px) "append" apos) [e] [] cpos) pos :: rest) D σ H :=
  run_cons (ps_expr (pe_bm PySem.F.plainAttrs_list PySem.F.slot_list_append PySem.F.type_list_append mt_append (pe_var hN hv hd hcd) (pa_cons Evl.pe pa_nil hse) hbase hfew hline hse hplain) hs)
    ⟨_, hσ, .inl ⟨rfl, xs, .inl (.inl hp)⟩, h H k _ fun v H' k' r => ⟨p, xs, v, rfl, rfl, k'.lst hp, hl, q v H' k' r⟩⟩
end
end Bl

set_option Elab.async false
set_option linter.all false
set_option autoImplicit false
set_option maxRecDepth 100000
set_option maxHeartbeats 2000000
namespace Bl
open PySem PySem.Spec PyProof.Rows L2 LamX StX

mutual
/-- data without lists and dicts -/
def nol : PyData → Bool
  | .none | .bool _ | .int _ | .str _ => true
  | .list _ => false
  | .tuple ds => nols ds
  | .dict _ => false
def nols : List PyData → Bool
  | [] => true
  | d :: ds => nol d && nols ds
end
theorem nols_all : ∀ {ds : List PyData}, (∀ d ∈ ds, nol d = true) → nols ds = true
  | [], _ => rfl
  | d :: ds, h => by
    simp only [nols, h d List.mem_cons_self, nols_all fun x hx => h x (List.mem_cons_of_mem _ hx), Bool.and_self]
theorem nols_map {α : Type} {f : α → PyData} (h : ∀ x, nol (f x) = true) (xs : List α) : nols (xs.map f) = true := nols_all fun d hd => by
  obtain ⟨x, _, rfl⟩ := List.mem_map.mp hd
  exact h x
section
variable {G G' : Addr → Prop} {H H' B : Hp}
mutual
theorem Rp.pure : ∀ (d : PyData) (v : V), nol d = true → Rp G H v d → Rp G' H v d
  | .none, _, _, h => by cases h; exact .non
  | .bool b, _, _, h => by cases h; exact .bl b
  | .int i, _, _, h => by cases h; exact .int i
  | .str x, _, _, h => by cases h; exact .str x
  | .list ds, _, n, _ => by simp [nol] at n
  | .tuple ds, _, n, h => by
    cases h with
    | tup h1 h2 => exact .tup h1 (Rps.pure ds _ (by simpa [nol] using n) h2)
  | .dict _, _, _, h => by cases h
theorem Rps.pure : ∀ (ds : List PyData) (vs : List V), nols ds = true → Rps G H vs ds → Rps G' H vs ds
  | [], _, _, h => by cases h; exact .nil
  | d :: ds, _, n, h => by
    have n' : nol d = true ∧ nols ds = true := by simpa [nols] using n
    cases h with
    | cons h1 h2 => exact .cons (Rp.pure d _ n'.1 h1) (Rps.pure ds _ n'.2 h2)
end
/-- H without all that may change -/
noncomputable abbrev Fz (H : Hp) : Hp := Rs (fun _ => False) H
theorem fz_ex : Ex (Fz H) H := rs_ex
theorem Rp.fz {v : V} {d : PyData} (h : Rp G H v d) (n : nol d = true) : Is (Fz H) v d := (h.pure (G' := fun _ => False) d v n).rs
theorem Rps.fz {vs : List V} {ds : List PyData} (h : Rps G H vs ds) (n : nols ds = true) : Iss (Fz H) vs ds := (h.pure (G' := fun _ => False) ds vs n).rs
theorem Rp.fresh {v : V} {d : PyData} (h : Rp (Nw (Fz H) H) H' v d) (e : Ex H H') : Rp (Fr0 H) H' v d := Rp.to (fun a xs z w => by
  rcases z with ⟨o, z⟩ | z
  · exact ((rs_some ((fz_ex.trans e).lst_back z w)).2 trivial).elim
  · exact ⟨z, w⟩) (fun _ _ w => w) d v h
/-- pure data stays whatever lists and dicts do -/
theorem Rp.wop {p : Addr} {u : HO} {v : V} {d : PyData} (h : Rp G H v d) (n : nol d = true) (hp : H p = some u) (m : Mu u) : Is (Wo p H) v d := ((h.pure (G' := fun _ => False) d v n).wo hp m fun z => z).is
theorem Rps.wop {p : Addr} {u : HO} {vs : List V} {ds : List PyData} (h : Rps G H vs ds) (n : nols ds = true) (hp : H p = some u) (m : Mu u) : Iss (Wo p H) vs ds := ((h.pure (G' := fun _ => False) ds vs n).wo hp m fun z => z).is
theorem iss0 {vs : List V} (h : Iss H vs []) : vs = [] := by cases h; rfl
theorem iss1 {vs : List V} {a : PyData} (h : Iss H vs [a]) : ∃ x, vs = [x] ∧ Is H x a := by
  cases h with
  | cons h1 h => cases h; exact ⟨_, rfl, h1⟩
theorem iss2 {vs : List V} {a b : PyData} (h : Iss H vs [a, b]) : ∃ x y, vs = [x, y] ∧ Is H x a ∧ Is H y b := by
  cases h with
  | cons h1 h => obtain ⟨y, rfl, h2⟩ := iss1 h; exact ⟨_, y, rfl, h1, h2⟩
theorem iss3 {vs : List V} {a b c : PyData} (h : Iss H vs [a, b, c]) : ∃ x y z, vs = [x, y, z] ∧ Is H x a ∧ Is H y b ∧ Is H z c := by
  cases h with
  | cons h1 h => obtain ⟨y, z, rfl, h2⟩ := iss2 h; exact ⟨_, y, z, rfl, h1, h2⟩
theorem iss4 {vs : List V} {a b c d : PyData} (h : Iss H vs [a, b, c, d]) : ∃ x y z u, vs = [x, y, z, u] ∧ Is H x a ∧ Is H y b ∧ Is H z c ∧ Is H u d := by
  cases h with
  | cons h1 h => obtain ⟨y, z, u, rfl, h2⟩ := iss3 h; exact ⟨_, y, z, u, rfl, h1, h2⟩
theorem iss5 {vs : List V} {a b c d e : PyData} (h : Iss H vs [a, b, c, d, e]) : ∃ x y z u t, vs = [x, y, z, u, t] ∧ Is H x a ∧ Is H y b ∧ Is H z c ∧ Is H u d ∧ Is H t e := by
  cases h with
  | cons h1 h => obtain ⟨y, z, u, t, rfl, h2⟩ := iss4 h; exact ⟨_, y, z, u, t, rfl, h1, h2⟩
end
/-- a def of the text stands behind the top -/
def FDef (K : PySem.W.Frag) (mg : Str → Option Value) (x : Str) (st : Stmt) : Prop := ∃ f fd, FunD K x x (defArgs st) (defBody st) (defScope st) [] [] f fd ∧ mg x = some (.ref f)
section
variable {P : Program} {w : World} {K : PySem.W.Frag} {mg : Str → Option Value} {base : Heap} {k n : Nat} {x : Str} {st : Stmt} {N ps : List Str} {pre : List PyData → PyData → Prop}
/-- how the parameters bind -/
def BindsAs (x : Str) (st : Stmt) (ps : List Str) : Prop := ∀ (kV doc pm : Value) (an : Option Addr) (cdv ct : Value) (us : List Value), us.length = ps.length → bindArgs (PySem.W.fnOf x x (defArgs st) (defBody st) (defScope st) .none kV doc pm an cdv ct) ⟨us, []⟩ = pure (ps.zip us)
/-- arguments without lists: B knows them, B knows nothing that may change -/
theorem fn_mkP (D : FDef K mg x st) (S : FnScope N ps (defScope st)) (hb : BindsAs x st ps) (hn : ps.length = n) (len : ∀ ds d, pre ds d → ds.length = n) (hpure : ∀ ds d, pre ds d → nols ds = true)
    (hbody : ∀ (X : Cx) (cdv : Value) (A : Around) (outer : List Env) (s : Shared) (f : Addr) (E : XK) (B H : Hp) (vs : List V) (Q : VK) (ds : List PyData) (d : PyData), X = (cxOf CX0 P w K mg base N x (defScope st) f cdv A outer s H E).nox → Room k X.A → Ex B H → (∀ a u, B a = some u → ¬ Mu u) → Iss B vs ds → pre ds d →
      (∀ v H', Ex H H' → Rp (Nw B H) H' v d → Q v H') → Run X (defBody st) { nx := fun _ H' => Q .non H', rt := Q } (L2.start N vs) H) : Fn P w K mg base (k + 1) x n pre := by
  obtain ⟨f, fd, F, hm⟩ := D
  refine fn_mk F hm S hn (F.bindsN hb) len ?_
  intro X cdv A outer s H vs Q E ds d hX hr r hp q
  exact hbody X cdv A outer s f E (Fz H) H vs Q ds d hX hr fz_ex (fun a u z m => (rs_some z).2 m) (r.fz (hpure ds d hp)) hp fun v H' k' r' => q v H' k' (r'.fresh k')
/-- the result without lists: B is the heap at the entry -/
theorem fn_mkL (D : FDef K mg x st) (S : FnScope N ps (defScope st)) (hb : BindsAs x st ps) (hn : ps.length = n) (len : ∀ ds d, pre ds d → ds.length = n) (hpure : ∀ ds d, pre ds d → nol d = true)
    (hbody : ∀ (X : Cx) (cdv : Value) (A : Around) (outer : List Env) (s : Shared) (f : Addr) (E : XK) (H : Hp) (vs : List V) (Q : VK) (ds : List PyData) (d : PyData), X = (cxOf CX0 P w K mg base N x (defScope st) f cdv A outer s H E).nox → Room k X.A → Iss H vs ds → pre ds d →
      (∀ v H', Ex H H' → Is H' v d → Q v H') → Run X (defBody st) { nx := fun _ H' => Q .non H', rt := Q } (L2.start N vs) H) : Fn P w K mg base (k + 1) x n pre := by
  obtain ⟨f, fd, F, hm⟩ := D
  refine fn_mk F hm S hn (F.bindsN hb) len ?_
  intro X cdv A outer s H vs Q E ds d hX hr r hp q
  exact hbody X cdv A outer s f E H vs Q ds d hX hr r hp fun v H' k' r' => q v H' k' (r'.pure d v (hpure ds d hp))
end
/-! ### encodings -/
def dIs (l : List Int) : PyData := .tuple (l.map .int)
structure Hall where
  s : Int
  fs : List Int
def Hall.d (h : Hall) : PyData := .tuple [.int h.s, dIs h.fs]
theorem nol_dIs (l : List Int) : nol (dIs l) = true := by
  show nols (l.map .int) = true
  exact nols_map (fun _ => rfl) l
theorem nol_hall (h : Hall) : nol h.d = true := by
  show nols [.int h.s, dIs h.fs] = true
  simp only [nols, nol_dIs, nol, Bool.and_self]
end Bl

set_option Elab.async false
set_option linter.all false
set_option autoImplicit false
set_option maxRecDepth 100000
set_option maxHeartbeats 4000000
/-! what the layer lacks: sum of a tuple, enumerate of a tuple, zip of a list and a tuple, tuple * 1, repr -/
namespace Bl
open PySem PySem.Spec PyProof.Rows L2 LamX StX RZ
section
variable {prog : Program} {w : World} {A : Around} {E : Value → Shared → Prop} {s : Shared}
theorem sumT_raw {t : Addr} {its : List Value} {ns : List Int} {Q : Value → Shared → Prop} (hh : A.handled = none) (ht : s.heap.IsTuple t its.toArray) (hi : IntsAre its ns)
    (h : ∀ h' tk t', (∀ b o, s.heap.get? b = some o → h'.get? b = some o) → Q (.int ns.sum t') { s with heap := h', toks := tk }) : wpAny (model prog w) A (call (.builtin "sum") [.ref t]) Q E s := by
  obtain ⟨xs, e⟩ := hi.allInts.items
  have hn : numsOf (intItems xs).toList = ns := by rw [← e]; exact hi.numsOf
  rw [nums_intItems] at hn
  rw [e] at ht
  have hlt : t < s.heap.objs.size := by obtain ⟨o, ho, _⟩ := ht; exact Heap.lt_size ho
  refine call_sum_walkG (wpAny_pyIter_tuple ht ?_)
  refine ⟨_, _, _, _, _, _, numAt xs, rfl, Walks.tuple (A := A.in1) hh _ t (Nat.ne_of_lt hlt) (intItems xs), ⟨⟨_, Heap.get?_push_size _ rfl, rfl, rfl⟩, ht.push _⟩, fun b hb => ?_, fun _ _ => intItems_at, fun h' tk t' hk => ?_⟩
  · show b < (s.heap.push _).objs.size
    rw [Heap.size_push]
    rcases List.mem_cons.mp hb with e1 | hb
    · rw [e1]
      exact Nat.lt_succ_self _
    · rcases List.mem_cons.mp hb with e1 | hb
      · rw [e1]
        exact Nat.lt_succ_of_lt hlt
      · cases hb
  · have z := h h' tk t' fun b o q => hk b o (fun hm => by
      rcases List.mem_cons.mp hm with e1 | hm
      · rw [e1] at q
        exact Nat.lt_irrefl _ (Heap.lt_size q)
      · cases hm) (Heap.get?_push_of_some _ q)
    have e2 : preSum (numAt xs) (intItems xs).size = ns.sum := by
      rw [show (intItems xs).size = xs.size by simp [intItems], preSum_eq, List.take_of_length_le (by simp), hn]
    rw [e2]
    exact z
end
def rSumT (K : PySem.W.Frag) : List V → Hp → VK → Prop := fun vs H Q => ∃ (a : Addr) (ns : List Int), vs = [V.ref a] ∧ SqT K H a (ns.map V.int) ∧ Q (.int ns.sum) H
section
variable {X : Cx} {σ : L2.St} {B H : Hp} {a b : Expr} {pos p : Pos}
theorem cr_sumT (hc : X.calm = true) : CallR X (.builtin "sum") (rSumT X.K) := by
  intro pins s σ H vs us Q I r h
  obtain ⟨t, ns, rfl, ht, q⟩ := h
  obtain ⟨its, rv, hl, _⟩ := I.tuple ht
  rw [Vals.ref1 r]
  exact sumT_raw (I.ok.hd hc) hl rv.ints fun h' tk t' hk => ⟨.int _, H, I.kept hk, ⟨_, rfl⟩, q⟩
theorem ev_sumT {ns : List Int} (hm : X.mg "sum" = none) (ha : Ev X σ B a (dIs ns)) (hc : X.calm = true := by rfl) (hg : Gl X "sum" := by rfl) (he : starEach [a] X.env = (false, eval a X.env) :: starEach [] X.env := by rfl) :
    Ev X σ B (.Call (.Name "sum" p) [a] [] pos) (.int ns.sum) := ev_callB (cr_sumT hc) (fun G H vs Q r q => by
    cases r with
    | cons r1 r2 =>
      cases r2
      cases r1 with
      | tup h1 h2 =>
        have e := h2.ints
        subst e
        exact ⟨_, ns, rfl, .inl (.inl h1), q _ H (Ex.refl H) (.int _)⟩) hm bt_sum (eva_cons ha eva_nil he) hg (by decide) (by decide) he rfl
/-! tuple * n -/
theorem tuple_mul1 (l : Addr) (items : Array Value) (n : Nat) (dd : Option Addr) (sl : Array (Option Value)) (u : Tok) :
    Meets (Builtin.«tuple.__mul__» ⟨[.ref l, .int 1 u], []⟩) (fun _ R s => s.heap.get? l = some { cls := .type "tuple", dict := dd, data := .seq items n, slots := sl } ∧ R (.ok (.ret (Value.ref l))) s) :=
  .of_wp fun prog w A R s h => by
    obtain ⟨hp, g, d, tk, os⟩ := s
    obtain ⟨hl, h⟩ := h
    have f1 := AutoSeq1.idx_int
    have c0 : (decide ((1 : Int) < -(2 ^ 63)) || decide ((1 : Int) ≥ 2 ^ 63)) = false := by decide
    have c1 : (items.isEmpty || (1 : Int) == 1) = true := by simp
    wp_walk using AutoSeq1.wpAny_loadPart' hl
    repeat (first
      | (refine wpAny_ite_false (decide_eq_false (by rw [c0]; exact Bool.false_ne_true)) ?_; wp_walk using AutoSeq1.wpAny_loadPart' hl)
      | (refine wpAny_ite_true (decide_eq_true (by rw [c1])) ?_; wp_walk using AutoSeq1.wpAny_loadPart' hl))
    exact ⟨_, rfl, h⟩
def rRep1 (K : PySem.W.Frag) : R2 := fun x y H Q => ∃ l xs, x = .ref l ∧ y = .int 1 ∧ SqT K H l xs ∧ Q (.ref l) H
theorem op_rep1 : OpR X (binaryOp .Mult) (rRep1 X.K) := by
  intro pins s σ H x y v u Q I rx ry h
  obtain ⟨l, xs, rfl, rfl, hT, q⟩ := h
  cases rx
  obtain ⟨t, rfl⟩ := ry
  obtain ⟨its, r, ⟨⟨cls, dd, data, sl⟩, ho, hc, n, hd⟩, hs⟩ := I.tuple hT
  simp only at hc hd
  subst hc hd
  refine wpAny_binaryOp_repeat_ref (T := "tuple") (U := "int") (by decide) ⟨_, ho, rfl⟩ (fun s' => typeIs_int s' 1 t) noFill_tuple_mul F.fills_int_mul F.slot_int_rmul repeat_tuple F.slot_int_index.lookup
    (call_meets F.slot_int_rmul (typeIs_int s 1 t) F.entry_int_rmul (F.args_int_rmul_2 _ _) (int_rmul_tuple 1 t l its.toArray n dd sl)
      ⟨ho, rfl, ⟨_, ho, rfl⟩, call_meets F.slot_tuple_mul ⟨_, ho, rfl⟩ F.entry_tuple_mul (F.args_tuple_mul_2 _ _) (tuple_mul1 l its.toArray n dd sl t) ⟨ho, ?_⟩⟩)
  exact ⟨.ref l, H, I, rfl, q⟩
theorem flat_one {α : Type} (x : α) : ∀ n : Nat, (List.replicate n [x]).flatten = List.replicate n x
  | 0 => rfl
  | n + 1 => by rw [List.replicate_succ, List.flatten_cons, flat_one x n]; rfl
theorem ev_rep {d : PyData} {n : Nat} (ha : Ev X σ B a (.tuple [d])) (hb : Ev X σ B b (.int (n : Int))) (h1 : 1 ≤ n) (h2 : n ≤ 1000) : Ev X σ B (.BinOp a .Mult b pos) (.tuple (List.replicate n d)) := by
  by_cases e : n = 1
  · subst e
    refine ev_op op_rep1 (fun G H x y Q hx hy q => ?_) ha hb
    cases hy
    cases hx with
    | tup h1 h2 => exact ⟨_, _, rfl, rfl, .inl (.inl h1), q _ H (Ex.refl H) (.tup h1 (h2.mono (fun _ z => .inl z) (Ex.refl H)))⟩
  · refine ev_op op_repT (fun G H x y Q hx hy q => ?_) ha hb
    cases hy
    cases hx with
    | tup h1 h2 =>
      cases h2 with
      | cons k1 k2 =>
        cases k2
        refine ⟨_, n, _, rfl, rfl, .inl (.inl h1), List.cons_ne_nil _ _, by omega, by omega, by show 1 ≤ 1000; decide, fun p hp => q _ _ (Ex.new hp) (.tup upd_same ?_)⟩
        rw [Int.toNat_natCast, flat_one]
        exact (Rps.rep k1 n).mono (fun _ z => .inl z) (Ex.new hp)
end
/-! zip of two lists, of two tuples, of a list and a tuple -/
section
variable {K : PySem.W.Frag} {a b : Addr} {xs ys : List V}
theorem place {α : Type} {zs : List α} {i n : Nat} (h : i < min zs.length n) : ∃ v, zs[i]? = some v := ⟨_, List.getElem?_eq_getElem (Nat.lt_of_lt_of_le h (Nat.min_le_left _ _))⟩
theorem place2 {xs ys : List V} {i : Nat} (h : i < min xs.length ys.length) : ∃ x y, xs[i]? = some x ∧ ys[i]? = some y :=
  have ⟨x, hx⟩ := place (zs := xs) h
  have ⟨y, hy⟩ := place (zs := ys) (Nat.min_comm _ _ ▸ h)
  ⟨x, y, hx, hy⟩
theorem walk_zipT {n : Nat} (hn : n = min xs.length ys.length) : Walk (ItzT K a b) n (fun H => SqT K H a xs ∧ SqT K H b ys) (YPair (fun i => xs[i]?) (fun i => ys[i]?)) where
  goes := fun i H hi g => have ⟨x, y, hx, hy⟩ := place2 (hn ▸ hi); ⟨xs, ys, x, y, g.1, g.2, hx, hy⟩
  stops := fun H g => ⟨xs, ys, g.1, g.2, by omega⟩
  yields := fun i H v H' _ g ⟨T, x, y, ev, nT, eH, ex, ey⟩ => ⟨T, x, y, ev, nT, eH, ex _ g.1, ey _ g.2⟩
/-- the list at a, the tuple at b -/
def ItzX (K : PySem.W.Frag) (a b : Addr) : It :=
  ⟨fun i H => ∃ (xs ys : List V) (x y : V), SqL K H a xs ∧ SqT K H b ys ∧ xs[i]? = some x ∧ ys[i]? = some y,
    fun i H v H' => ∃ T x y, v = .ref T ∧ H T = none ∧ H' = upd H T (.tup [x, y]) ∧ (∀ xs, SqL K H a xs → xs[i]? = some x) ∧ ∀ ys, SqT K H b ys → ys[i]? = some y,
    fun i H => ∃ xs ys : List V, SqL K H a xs ∧ SqT K H b ys ∧ (xs.length = i ∧ i ≤ ys.length ∨ ys.length = i ∧ i ≤ xs.length)⟩
theorem walk_zipX {n : Nat} (hn : n = min xs.length ys.length) : Walk (ItzX K a b) n (fun H => SqL K H a xs ∧ SqT K H b ys) (YPair (fun i => xs[i]?) (fun i => ys[i]?)) where
  goes := fun i H hi g => have ⟨x, y, hx, hy⟩ := place2 (hn ▸ hi); ⟨xs, ys, x, y, g.1, g.2, hx, hy⟩
  stops := fun H g => ⟨xs, ys, g.1, g.2, by omega⟩
  yields := fun i H v H' _ g ⟨T, x, y, ev, nT, eH, ex, ey⟩ => ⟨T, x, y, ev, nT, eH, ex _ g.1, ey _ g.2⟩
/-- the value at a place of an array made of a list -/
theorem arr_at {its : List Value} {i : Nat} {u v : Value} (h : its[i]? = some u) (e : its.toArray[i]? = some v) : v = u := by
  rw [List.getElem?_toArray] at e
  exact Option.some.inj (e.symm.trans h)
theorem arr_lt {its : List Value} {i : Nat} {u : Value} (h : its[i]? = some u) : i < its.toArray.size := by
  rw [List.size_toArray]
  exact (List.getElem?_eq_some_iff.mp h).1
/-- new places are free to be walked -/
theorem fp_new {X : Cx} {pins : List (Addr × Obj)} {σ : L2.St} {H : Hp} {s : Shared} (I : Inv X pins σ H s) {fp : List Addr} (h : ∀ c ∈ fp, s.heap.objs.size ≤ c) : ∀ c ∈ fp, FpOk X pins H c := fun c hc => I.fpOk (h c hc) (I.hok.fresh (h c hc))
/-- what is walked stays unknown when a tuple is laid behind the heap -/
theorem fp_upd {X : Cx} {pins : List (Addr × Obj)} {H : Hp} {h : Heap} {fp : List Addr} {u : HO} (hf : ∀ c ∈ fp, FpOk X pins H c) (ht : ∀ c ∈ fp, ∃ o, h.get? c = some o ∧ ∀ v, o.data ≠ .cell v) : ∀ c ∈ fp, upd H h.objs.size u c = none := fun c hc => by
  obtain ⟨o, e, _⟩ := ht c hc
  exact (upd_ne (Nat.ne_of_lt (Heap.lt_size e))).trans (hf c hc).1
/-- how a zip of a list and a tuple stands after i pairs -/
structure ZX (z TI TO i1 i2 a b : Addr) (i : Nat) (h : Heap) : Prop where
  zip : IsZip h z TI TO .none
  its : IsTupOf2 h TI (.ref i1) (.ref i2)
  last : ∃ x y, IsTupOf2 h TO x y
  one : h.IsListIter i1 a i
  two : h.IsTupleIter i2 b i
theorem ZX.all {z TI TO i1 i2 a b : Addr} {i : Nat} {h : Heap} (st : ZX z TI TO i1 i2 a b i h) : ∀ c ∈ [z, TI, TO, i1, i2], ∃ o, h.get? c = some o ∧ ∀ v, o.data ≠ .cell v := by
  obtain ⟨x, y, e3⟩ := st.last
  obtain ⟨o4, e4, _, d4⟩ := st.one
  obtain ⟨o5, e5, _, d5⟩ := st.two
  intro c hc
  simp only [List.mem_cons, List.not_mem_nil, or_false] at hc
  rcases hc with rfl | rfl | rfl | rfl | rfl
  · exact ⟨_, st.zip, fun _ t => nomatch t⟩
  · exact ⟨_, st.its, fun _ t => nomatch t⟩
  · exact ⟨_, e3, fun _ t => nomatch t⟩
  · exact ⟨o4, e4, fun _ t => nomatch d4.symm.trans t⟩
  · exact ⟨o5, e5, fun _ t => nomatch d5.symm.trans t⟩
theorem ZX.stay {z TI TO i1 i2 a b : Addr} {i : Nat} {h h' : Heap} (st : ZX z TI TO i1 i2 a b i h) (k : ∀ c ∈ [z, TI, TO, i1, i2], ∀ o, h.get? c = some o → h'.get? c = some o) : ZX z TI TO i1 i2 a b i h' :=
  have ⟨x, y, e3⟩ := st.last
  ⟨k _ (by simp) _ st.zip, k _ (by simp) _ st.its, ⟨x, y, k _ (by simp) _ e3⟩, st.one.at (k i1 (by simp)), st.two.at (k i2 (by simp))⟩
theorem out5 {z TI TO i1 i2 c : Addr} (h : c ∉ [z, TI, TO, i1, i2]) : c ≠ z ∧ c ≠ TI ∧ c ≠ TO ∧ c ≠ i1 ∧ c ≠ i2 := by simpa using h
theorem turn_zipX {P : Program} {w : World} {elts : List Expr} {kk : Nat} {tpos : Pos} {z TI TO i1 i2 : Addr} (S : ZipSep2 z TI TO i1 i2 [i1, a] [i2, b]) (n1 : a ≠ i1) (n2 : b ≠ i2) : Turn P w K (.Tuple elts kk tpos) (ItzX K a b) [z, TI, TO, i1, i2] z (ZX z TI TO i1 i2 a b) where
  mem := List.mem_cons_self
  obj := fun _ _ st => st.all
  keep := fun _ _ _ st => st.stay
  self := fun _ _ _ _ _ st => wpAny_pyIter_zip st.zip
  item := fun X eP ew eK calm i pins s σ H E I hf st ⟨xs, ys, x, y, qa, qb, hx, hy⟩ => by
    cases eP
    cases ew
    cases eK
    have hh := I.ok.hd calm
    obtain ⟨va, ra, pa, _⟩ := I.list qa
    obtain ⟨vb, rb, pb, _⟩ := I.tuple qb
    obtain ⟨u, ux, ru⟩ := ra.get hx
    obtain ⟨v, vy, rv⟩ := rb.get hy
    obtain ⟨x0, y0, eo⟩ := st.last
    refine wpAny_pyNext_zipD2_item S (Draws.list (A := X.A.in1) hh i1 a n1 va.toArray) (Draws.tuple (A := X.A.in1) hh i2 b n2 vb.toArray) st.zip st.its eo ⟨st.one, pa.isList⟩ ⟨st.two, pb⟩ (arr_lt ux) (arr_lt vy) fun u' v' g tk eu ev zg og s1 s2 hT _ kp => ?_
    obtain rfl := arr_at ux eu
    obtain rfl := arr_at vy ev
    refine ⟨_, rfl, wpAny_letOwnedTupleGo_zip (s := { s with heap := g, toks := tk }) zg fun g2 zz sb => ?_⟩
    have up : ∀ {c : Addr} {o : Obj}, c ≠ z → g.get? c = some o → g2.get? c = some o := fun n e => (sb.2 _ n).trans e
    have J := I.turnedNew (t' := tk) (ob := .tup [x, y]) (ch := [z, TI, TO, i1, i2]) (fun c o hc e => have n := out5 hc; up n.1 (kp c o n.1 n.2.2.1 n.2.2.2.1 n.2.2.2.2 e)) hf (Nat.le_refl _) ⟨by show 2 ≤ sizeLine; decide, _, .cons ru (.cons rv .nil), _, up (Nat.ne_of_gt (Heap.lt_size st.zip)) hT, rfl, _, rfl⟩
    refine ⟨.ref _, _, J, rfl, ⟨_, x, y, rfl, I.hok.fresh (Nat.le_refl _), rfl, fun l hl => I.list_inj hl qa ▸ hx, fun l hl => I.tuple_inj hl qb ▸ hy⟩, ⟨zz, up S.TIz (kp _ _ S.TIz S.TITO S.TIi1 S.TIi2 st.its), ⟨_, _, up S.TOz og⟩, s1.1.at fun o => up S.zi1.symm, s2.1.at fun o => up S.zi2.symm⟩, fp_upd hf st.all⟩
  done := fun X eP ew eK calm i pins s σ H E I hf st ⟨xs, ys, qa, qb, fin⟩ => by
    cases eP
    cases ew
    cases eK
    have hh := I.ok.hd calm
    obtain ⟨va, ra, pa, _⟩ := I.list qa
    obtain ⟨vb, rb, pb, _⟩ := I.tuple qb
    obtain ⟨x0, y0, eo⟩ := st.last
    have la := ra.length
    have lb := rb.length
    refine wpAny_pyNext_zipD2_end S (Draws.list (A := X.A.in1) hh i1 a n1 va.toArray) (Draws.tuple (A := X.A.in1) hh i2 b n2 vb.toArray) st.zip st.its eo ⟨st.one, pa.isList⟩ ⟨st.two, pb⟩ (by simp; omega) (by simp; omega) (by simp; omega) fun g tk kp => ⟨rfl, ?_⟩
    exact I.turnedL (t' := tk) (ch := [z, TI, TO, i1, i2]) (fun c o hc e => have n := out5 hc; kp c o n.1 n.2.2.1 n.2.2.2.1 n.2.2.2.2 e) hf
end
def iZipX (K : PySem.W.Frag) (ta : TA) : TI := fun σ H R => ta σ H fun vs H1 => ∃ a b xs ys, vs = [.ref a, .ref b] ∧ SqL K H1 a xs ∧ SqT K H1 b ys ∧ R (ItzX K a b) H1
section
variable {X : Cx} {σ : L2.St} {B H : Hp} {e e2 : Expr} {pos p tpos : Pos} {elts : List Expr} {kk : Nat} {dx dy : List PyData}
theorem pi_zipX {ta : TA} (hg : Gl X "zip") (hm : X.mg "zip" = none) (ha : PA X [e, e2] ta) (hs : starEach [e, e2] X.env = (false, eval e X.env) :: starEach [e2] X.env := by rfl) (hpl : (backTo pos (starEach [e2] X.env)).any (·.1) = false := by rfl) :
    PI X (.Tuple elts kk tpos) (.Call (.Name "zip" p) [e, e2] [] pos) (iZipX X.K ta) := by
  constructor
  intro pins s σ H R I h
  refine Call_ (ld_blt I hg hm PyProof.Rows.boot_zip (PyProof.Rows.callWith_type1 (thn (ha.run pos pins s σ H _ I h) fun us t ⟨vs, H1, J, rel, y⟩ => ?_) hs hpl))
  obtain ⟨l, tu, xs, ys, rfl, qa, qb, q⟩ := y
  obtain ⟨u1, us1, rfl, e1, more1⟩ : ∃ u1 us1, us = u1 :: us1 ∧ RelV (.ref l) u1 ∧ Vals [.ref tu] us1 := by
    cases rel with
    | cons e rel => exact ⟨_, _, rfl, e, rel⟩
  obtain rfl : u1 = .ref l := e1
  have r2 := Vals.ref1 more1
  subst r2
  obtain ⟨va, _, pa, _⟩ := J.list qa
  obtain ⟨vb, _, pb, _⟩ := J.tuple qb
  have ll := pa.lt
  have lt : tu < t.heap.objs.size := have ⟨_, e, _⟩ := pb; Heap.lt_size e
  have sep := zip_sep2 (N := t.heap.objs.size) (fp1 := [l]) (fp2 := [tu]) (fun c hc => by rw [List.mem_singleton.mp hc]; exact ll) (fun c hc => by rw [List.mem_singleton.mp hc]; exact lt)
  refine zip_begins2 (begins_list l va.toArray) (begins_tuple tu vb.toArray) pa.isList pb fun g hz hTI hTO h1 h2 _ kp => wpAny_pyIter_zip hz ?_
  refine ⟨t.heap.objs.size + 4, [t.heap.objs.size + 4, t.heap.objs.size + 2, t.heap.objs.size + 3, t.heap.objs.size, t.heap.objs.size + 1], _, _, H1, rfl, J.kept (t' := t.toks) kp, turn_zipX sep (Nat.ne_of_lt ll) (Nat.ne_of_lt (Nat.lt_succ_of_lt lt)), ⟨hz, hTI, ⟨_, _, hTO⟩, ⟨_, h1, rfl, rfl⟩, ⟨_, h2, rfl, rfl⟩⟩, fp_new J fun c hc => ?_, q⟩
  simp only [List.mem_cons, List.not_mem_nil, or_false] at hc
  rcases hc with rfl | rfl | rfl | rfl | rfl <;> first | exact Nat.le_refl _ | exact Nat.le_add_right _ _
theorem evi_zipT (hm : X.mg "zip" = none) (ha : Ev X σ B e (.tuple dx)) (hb : Ev X σ B e2 (.tuple dy)) (hg : Gl X "zip" := by rfl) (he : starEach [e, e2] X.env = (false, eval e X.env) :: starEach [e2] X.env := by rfl)
    (he2 : starEach [e2] X.env = (false, eval e2 X.env) :: starEach [] X.env := by rfl) (hpl : (backTo pos (starEach [e2] X.env)).any (·.1) = false := by rfl) :
    EvI X σ B (.Tuple elts kk tpos) (.Call (.Name "zip" p) [e, e2] [] pos) (zipD dx dy) := fun H k R q => Itr.of (pi_zipA hg hm Arg.pa he hpl) ((eva_cons ha (eva_cons hb eva_nil he2) he) H k _ fun vs H1 e1 r1 => by
  cases r1 with
  | cons r1 r =>
    cases r with
    | cons r2 r =>
      cases r
      obtain ⟨p1, p2, p3, p4⟩ := part_of (G := All) k e1 r1
      obtain ⟨_, _, _, p5⟩ := part_of (G := All) k e1 r2
      cases p4 with
      | tup h1 h2 =>
        cases p5 with
        | tup k1 k2 =>
          refine ⟨_, _, _, _, rfl, .inr ⟨.inl (.inl (p2.tup h1)), .inl (.inl (p2.tup k1)), q _ _ _ e1 p1 p2 p3 ?_⟩⟩
          exact (walk_zipT (by rw [zipD_length, h2.length, k2.length])).mono (fun H2 z => ⟨.inl (.inl (z.tup h1)), .inl (.inl (z.tup k1))⟩) fun i H2 x H3 hi z y => pair_yd h2 k2 z y)
theorem evi_zipL (hm : X.mg "zip" = none) (ha : Ev X σ B e (.list dx)) (hb : Ev X σ B e2 (.list dy)) (hg : Gl X "zip" := by rfl) (he : starEach [e, e2] X.env = (false, eval e X.env) :: starEach [e2] X.env := by rfl)
    (he2 : starEach [e2] X.env = (false, eval e2 X.env) :: starEach [] X.env := by rfl) (hpl : (backTo pos (starEach [e2] X.env)).any (·.1) = false := by rfl) :
    EvI X σ B (.Tuple elts kk tpos) (.Call (.Name "zip" p) [e, e2] [] pos) (zipD dx dy) := fun H k R q => Itr.of (pi_zipA hg hm Arg.pa he hpl) ((eva_cons ha (eva_cons hb eva_nil he2) he) H k _ fun vs H1 e1 r1 => by
  cases r1 with
  | cons r1 r =>
    cases r with
    | cons r2 r =>
      cases r
      obtain ⟨p1, p2, p3, p4⟩ := part_of (G := All) k e1 r1
      obtain ⟨_, _, _, p5⟩ := part_of (G := All) k e1 r2
      cases p4 with
      | lst h0 h1 h2 =>
        cases p5 with
        | lst k0 k1 k2 =>
          refine ⟨_, _, _, _, rfl, .inl ⟨.inl (.inl (p2.lst h1)), .inl (.inl (p2.lst k1)), q _ _ _ e1 p1 p2 p3 ?_⟩⟩
          exact (walk_zip (by rw [zipD_length, h2.length, k2.length])).mono (fun H2 z => ⟨.inl (.inl (z.lst h1)), .inl (.inl (z.lst k1))⟩) fun i H2 x H3 hi z y => pair_yd h2 k2 z y)
theorem evi_zipX (hm : X.mg "zip" = none) (ha : Ev X σ B e (.list dx)) (hb : Ev X σ B e2 (.tuple dy)) (hg : Gl X "zip" := by rfl) (he : starEach [e, e2] X.env = (false, eval e X.env) :: starEach [e2] X.env := by rfl)
    (he2 : starEach [e2] X.env = (false, eval e2 X.env) :: starEach [] X.env := by rfl) (hpl : (backTo pos (starEach [e2] X.env)).any (·.1) = false := by rfl) :
    EvI X σ B (.Tuple elts kk tpos) (.Call (.Name "zip" p) [e, e2] [] pos) (zipD dx dy) := fun H k R q => Itr.of (pi_zipX hg hm Arg.pa he hpl) ((eva_cons ha (eva_cons hb eva_nil he2) he) H k _ fun vs H1 e1 r1 => by
  cases r1 with
  | cons r1 r =>
    cases r with
    | cons r2 r =>
      cases r
      obtain ⟨p1, p2, p3, p4⟩ := part_of (G := All) k e1 r1
      obtain ⟨_, _, _, p5⟩ := part_of (G := All) k e1 r2
      cases p4 with
      | lst h0 h1 h2 =>
        cases p5 with
        | tup k1 k2 =>
          refine ⟨_, _, _, _, rfl, .inl (.inl (p2.lst h1)), .inl (.inl (p2.tup k1)), q _ _ _ e1 p1 p2 p3 ?_⟩
          exact (walk_zipX (by rw [zipD_length, h2.length, k2.length])).mono (fun H2 z => ⟨.inl (.inl (z.lst h1)), .inl (.inl (z.tup k1))⟩) fun i H2 x H3 hi z y => pair_yd h2 k2 z y)
end
end Bl

set_option Elab.async false
set_option linter.all false
set_option autoImplicit false
set_option maxRecDepth 100000
set_option maxHeartbeats 4000000
/-! what the layer lacks: enumerate of a tuple, repr; forms of list(range), sorted, in -/
namespace Bl
open PySem PySem.Spec PyProof.Rows L2 LamX StX RZ
theorem meets_enumT (l : Addr) (items : Array Value) (n : Nat) (dct : Option Addr) (sl : Array (Option Value)) :
    Meets (Builtin.«enumerate.__new__» ⟨[.type "enumerate", .ref l], []⟩) (fun _ R s => s.heap.get? l = some { cls := .type "tuple", dict := dct, data := .seq items n, slots := sl } ∧
      R (.ok (.ret (.ref (s.heap.push { cls := .type "tuple_iterator", data := .fields #[.ref l, .int 0 0] }).objs.size)))
        { s with heap := (s.heap.push { cls := .type "tuple_iterator", data := .fields #[.ref l, .int 0 0] }).push { cls := .type "enumerate", data := .fields #[.none, .bool false, .ref s.heap.objs.size, rawInt 0, .none, .none] } }) :=
  .of_wp fun prog w A R s h => by
    obtain ⟨hp, g, d, tk, os⟩ := s
    obtain ⟨hl, h⟩ := h
    have hsub := sub_enumerate
    have hT : Heap.IsTuple (Shared.heap ⟨hp, g, d, tk, os⟩) l items := ⟨_, hl, rfl, n, rfl⟩
    wp_walk using AutoSeq1.wpAny_loadPart' hl
    refine wpAny_stack_any fun st => wpAny_pure ?_
    split
    · rename_i c _ _ _ _ _
      cases (c == Value.type "enumerate") <;> (wp_walk using AutoSeq1.wpAny_loadPart' hl, wpAny_pyIter_tuple hT; exact ⟨_, rfl, h⟩)
    · wp_walk using AutoSeq1.wpAny_loadPart' hl, wpAny_pyIter_tuple hT
      exact ⟨_, rfl, h⟩
section
variable {prog : Program} {w : World} {A : Around} {E : Value → Shared → Prop} {s : Shared}
theorem call_enumT {l : Addr} {items : Array Value} {Q : Value → Shared → Prop} (hT : s.heap.IsTuple l items)
    (h : ∀ h', IsEnum h' (s.heap.objs.size + 1) s.heap.objs.size 0 .none → h'.IsTupleIter s.heap.objs.size l 0 → h'.objs.size = s.heap.objs.size + 2 → (∀ b o, s.heap.get? b = some o → h'.get? b = some o) → Q (.ref (s.heap.objs.size + 1)) { s with heap := h' }) : wpAny (model prog w) A (call (.type "enumerate") [.ref l]) Q E s := by
  obtain ⟨⟨c, dct, dt, sl⟩, hl, hc, n, hd⟩ := hT
  cases (show c = .type "tuple" from hc)
  cases (show dt = .seq items n from hd)
  refine callType_new F.called_enumerate (by decide) (F.typeCall_enumerate_1 _) (F.newCall_enumerate_1 _) (fun obj => F.args_object_init_2 obj _) F.entry_enumerate_new (meets_enumT l items n dct sl) ⟨hl, ?_⟩
  have hz : (s.heap.push { cls := .type "tuple_iterator", data := .fields #[.ref l, .int 0 0] }).objs.size = s.heap.objs.size + 1 := Heap.size_push ..
  show _ ∧ _
  rw [hz]
  have he : IsEnum ((s.heap.push { cls := .type "tuple_iterator", data := .fields #[.ref l, .int 0 0] }).push { cls := .type "enumerate", data := .fields #[.none, .bool false, .ref s.heap.objs.size, rawInt 0, .none, .none] }) (s.heap.objs.size + 1) s.heap.objs.size 0 .none := by
    have q := Heap.get?_push_size (s.heap.push { cls := .type "tuple_iterator", data := .fields #[.ref l, .int 0 0] }) (o := { cls := .type "enumerate", data := .fields #[.none, .bool false, .ref s.heap.objs.size, rawInt 0, .none, .none] }) rfl
    rw [hz] at q
    exact q
  exact ⟨⟨_, he, rfl⟩, h _ he ⟨_, Heap.get?_push_of_some _ (Heap.get?_push_size _ rfl), rfl, rfl⟩ (by rw [Heap.size_push, hz]) fun b o x => Heap.get?_push_of_some _ (Heap.get?_push_of_some _ x)⟩
end
/-- the tuple at a, each item with its number -/
def IteT (K : PySem.W.Frag) (a : Addr) : It :=
  ⟨fun i H => ∃ (xs : List V) (x : V), SqT K H a xs ∧ xs[i]? = some x, fun i H v H' => ∃ T x, v = .ref T ∧ H T = none ∧ H' = upd H T (.tup [.int (i : Nat), x]) ∧ ∀ xs, SqT K H a xs → xs[i]? = some x, fun i H => ∃ xs : List V, SqT K H a xs ∧ xs.length = i⟩
section
variable {K : PySem.W.Frag} {a : Addr} {xs : List V}
theorem walk_enumT : Walk (IteT K a) xs.length (fun H => SqT K H a xs) (YPair (fun i => some (.int (i : Nat))) (fun i => xs[i]?)) where
  goes := fun i H hi g => ⟨xs, _, g, List.getElem?_eq_getElem hi⟩
  stops := fun H g => ⟨xs, g, rfl⟩
  yields := fun i H v H' _ g ⟨T, x, ev, nT, eH, ex⟩ => ⟨T, _, x, ev, nT, eH, rfl, ex _ g⟩
/-- how an enumerate of a tuple stands after i items -/
structure EX (e it a : Addr) (i : Nat) (h : Heap) : Prop where
  num : ∃ old, IsEnum h e it ((i : Nat) : Int) old
  two : h.IsTupleIter it a i
  ne : e ≠ it
theorem EX.all {e it a : Addr} {i : Nat} {h : Heap} (st : EX e it a i h) : ∀ c ∈ [e, it], ∃ o, h.get? c = some o ∧ ∀ v, o.data ≠ .cell v := by
  obtain ⟨_, e1⟩ := st.num
  obtain ⟨o2, e2, _, d2⟩ := st.two
  intro c hc
  simp only [List.mem_cons, List.not_mem_nil, or_false] at hc
  rcases hc with rfl | rfl
  · exact ⟨_, e1, fun _ t => nomatch t⟩
  · exact ⟨o2, e2, fun _ t => nomatch d2.symm.trans t⟩
theorem EX.stay {e it a : Addr} {i : Nat} {h h' : Heap} (st : EX e it a i h) (k : ∀ c ∈ [e, it], ∀ o, h.get? c = some o → h'.get? c = some o) : EX e it a i h' :=
  ⟨st.num.imp fun _ => k e (by simp) _, st.two.at (k it (by simp)), st.ne⟩
theorem out2 {e it c : Addr} (h : c ∉ [e, it]) : c ≠ e ∧ c ≠ it := by simpa using h
theorem turn_enumT {P : Program} {w : World} {elts : List Expr} {kk : Nat} {tpos : Pos} (e it : Addr) (na : a ≠ it) (ne : e ≠ a) : Turn P w K (.Tuple elts kk tpos) (IteT K a) [e, it] e (EX e it a) where
  mem := List.mem_cons_self
  obj := fun _ _ st => st.all
  keep := fun _ _ _ st => st.stay
  self := fun _ _ _ _ _ st q => have ⟨_, he⟩ := st.num; wpAny_pyIter_enum he q
  item := fun X eP ew eK calm i pins s σ H E I hf st ⟨xs, x, qa, hx⟩ => by
    cases eP
    cases ew
    cases eK
    obtain ⟨old, he⟩ := st.num
    obtain ⟨va, ra, pa, _⟩ := I.tuple qa
    obtain ⟨u, ux, ru⟩ := ra.get hx
    refine wpAny_pyNext_enum_itemD (Draws.tuple (A := X.A.in1) (I.ok.hd calm) it a na va.toArray) he ⟨st.two, pa⟩ (arr_lt ux) st.ne (by simp; exact ⟨st.ne, ne⟩) fun u' g tk eu og s1 hT _ kp => ?_
    obtain rfl := arr_at ux eu
    refine ⟨_, rfl, wpAny_letOwnedTupleGo_enum (s := { s with heap := g, toks := tk + 1 }) og fun g2 zz sb => ?_⟩
    have J := I.turnedNew (t' := tk + 1) (ob := .tup [.int (i : Nat), x]) (ch := [e, it]) (fun c o hc q => have n := out2 hc; (sb.2 c n.1).trans (kp c o n.1 n.2 q)) hf (Nat.le_refl _) ⟨by show 2 ≤ sizeLine; decide, _, .cons ⟨tk, rfl⟩ (.cons ru .nil), _, (sb.2 _ (Nat.ne_of_gt (Heap.lt_size he))).trans hT, rfl, _, rfl⟩
    refine ⟨.ref _, _, J, rfl, ⟨_, x, rfl, I.hok.fresh (Nat.le_refl _), rfl, fun l hl => I.tuple_inj hl qa ▸ hx⟩, ⟨⟨u', ?_⟩, s1.1.at fun o q => (sb.2 it st.ne.symm).trans q, st.ne⟩, fp_upd hf st.all⟩
    rw [Int.natCast_succ]
    exact zz
  done := fun X eP ew eK calm i pins s σ H E I hf st ⟨xs, qa, fin⟩ => by
    cases eP
    cases ew
    cases eK
    obtain ⟨old, he⟩ := st.num
    obtain ⟨va, ra, pa, _⟩ := I.tuple qa
    have hl : va.toArray.size = i := by rw [List.size_toArray, ← ra.length, fin]
    obtain ⟨f0, f1, _, f3, f4, f5⟩ := hf it (by simp)
    exact wpAny_pyNext_enum_endD (Draws.tuple (A := X.A.in1) (I.ok.hd calm) it a na va.toArray) he (by rw [hl]; exact ⟨st.two, pa⟩) fun g kp => ⟨rfl, I.turned (t' := s.toks) (fun b o n q => kp b o n q) f0 f1 f3 f4 f5⟩
end
def iEnumT (K : PySem.W.Frag) (ta : TA) : TI := fun σ H R => ta σ H fun vs H1 => ∃ a xs, vs = [.ref a] ∧ SqT K H1 a xs ∧ R (IteT K a) H1
section
variable {X : Cx} {σ : L2.St} {B H : Hp} {e e2 a b : Expr} {pos p tpos : Pos} {elts : List Expr} {kk : Nat} {d : PyData} {ds dx dy : List PyData}
theorem pi_enumT {ta : TA} (hg : Gl X "enumerate") (hm : X.mg "enumerate" = none) (ha : PA X [e] ta) (hs : starEach [e] X.env = [(false, eval e X.env)] := by rfl) :
    PI X (.Tuple elts kk tpos) (.Call (.Name "enumerate" p) [e] [] pos) (iEnumT X.K ta) := by
  constructor
  intro pins s σ H R I h
  refine Call_ (ld_blt I hg hm boot_enumerate (PyProof.Rows.callWith_type1 (thn (ha.run pos pins s σ H _ I h) fun us t ⟨vs, H1, J, rel, y⟩ => ?_) hs rfl))
  obtain ⟨l, xs, rfl, qa, q⟩ := y
  have r1 := Vals.ref1 rel
  subst r1
  obtain ⟨va, _, pa, _⟩ := J.tuple qa
  have lt : l < t.heap.objs.size := have ⟨_, e, _⟩ := id pa; Heap.lt_size e
  refine call_enumT pa fun g he hit _ kp => wpAny_pyIter_enum he ?_
  refine ⟨t.heap.objs.size + 1, [t.heap.objs.size + 1, t.heap.objs.size], _, _, H1, rfl, J.kept (t' := t.toks) kp, turn_enumT _ _ (Nat.ne_of_lt lt) (Nat.ne_of_gt (Nat.lt_succ_of_lt lt)), ⟨⟨_, he⟩, hit, Nat.succ_ne_self _⟩, fp_new J fun c hc => ?_, q⟩
  simp only [List.mem_cons, List.not_mem_nil, or_false] at hc
  rcases hc with rfl | rfl <;> first | exact Nat.le_refl _ | exact Nat.le_add_right _ _
/-- each with its number -/
def enumD (ds : List PyData) : List PyData := ds.zipIdx.map fun p => .tuple [.int (p.2 : Int), p.1]
theorem enumD_length (ds : List PyData) : (enumD ds).length = ds.length := by unfold enumD; simp
theorem enum_yd {B2 : Hp} {xs : List V} {i : Nat} {H2 H3 : Hp} {v : V} (rx : Iss B2 xs ds) (k2 : Ex B2 H2) (y : YPair (fun i => some (.int (i : Nat))) (fun i => xs[i]?) i H2 v H3) : YD B2 (enumD ds) i H2 v H3 := by
  obtain ⟨T, x, z, rfl, hT, rfl, hx, hz⟩ := y
  cases hx
  obtain ⟨d2, q2, r2⟩ := rx.getV hz
  refine ⟨Ex.new hT, .tuple [.int (i : Int), d2], ?_, .tup upd_same (.cons (.int _) (.cons (r2.kn.mono (fun _ z => .inl z) (k2.trans (Ex.new hT))) .nil))⟩
  unfold enumD
  rw [List.getElem?_map, List.getElem?_zipIdx, q2]
  simp
theorem evi_enumT (hm : X.mg "enumerate" = none) (ha : Ev X σ B e (.tuple ds)) (hg : Gl X "enumerate" := by rfl) (he : starEach [e] X.env = (false, eval e X.env) :: starEach [] X.env := by rfl) :
    EvI X σ B (.Tuple elts kk tpos) (.Call (.Name "enumerate" p) [e] [] pos) (enumD ds) := fun H k R q => Itr.of (pi_enumT hg hm Arg.pa he) ((eva_cons ha eva_nil he) H k _ fun vs H1 e1 r1 => by
  cases r1 with
  | cons r1 r =>
    cases r
    obtain ⟨p1, p2, p3, p4⟩ := part_of (G := All) k e1 r1
    cases p4 with
    | tup h1 h2 =>
      refine ⟨_, _, rfl, .inl (.inl (p2.tup h1)), q _ _ _ e1 p1 p2 p3 ?_⟩
      rw [enumD_length, ← h2.length]
      exact walk_enumT.mono (fun H2 z => .inl (.inl (z.tup h1))) fun i H2 x H3 hi z y => enum_yd h2 z y)
theorem evi_enumL (hm : X.mg "enumerate" = none) (ha : Ev X σ B e (.list ds)) (hg : Gl X "enumerate" := by rfl) (he : starEach [e] X.env = (false, eval e X.env) :: starEach [] X.env := by rfl) :
    EvI X σ B (.Tuple elts kk tpos) (.Call (.Name "enumerate" p) [e] [] pos) (enumD ds) := fun H k R q => Itr.of (pi_enum hg hm Arg.pa he) ((eva_cons ha eva_nil he) H k _ fun vs H1 e1 r1 => by
  cases r1 with
  | cons r1 r =>
    cases r
    obtain ⟨p1, p2, p3, p4⟩ := part_of (G := All) k e1 r1
    cases p4 with
    | lst h0 h1 h2 =>
      refine ⟨_, _, rfl, .inl (.inl (p2.lst h1)), q _ _ _ e1 p1 p2 p3 ?_⟩
      rw [enumD_length, ← h2.length]
      exact walk_enum.mono (fun H2 z => .inl (.inl (z.lst h1))) fun i H2 x H3 hi z y => enum_yd h2 z y)
/-! list(range(..)) -/
theorem rgV_rp {G : Addr → Prop} (a b : Int) : Rps G H (rgV a b) (rngD a (b - a).toNat) := by
  unfold rgV rngD
  induction List.range (b - a).toNat with
  | nil => exact .nil
  | cons x xs ih => exact .cons (.int _) ih
theorem ev_listRg2 {i j : Int} {p p' pos' : Pos} (hm : X.mg "list" = none) (hmr : X.mg "range" = none) (ha : Ev X σ B a (.int i)) (hb : Ev X σ B b (.int j)) (h0 : 0 ≤ i) (h1 : j ≤ 100000) (h2 : i ≤ 100000) (h3 : 0 ≤ j) (hc : X.calm = true := by rfl) (hg : Gl X "list" := by rfl) (hgr : Gl X "range" := by rfl)
    (he : starEach [a, b] X.env = (false, eval a X.env) :: starEach [b] X.env := by rfl) (he2 : starEach [b] X.env = (false, eval b X.env) :: starEach [] X.env := by rfl) (hp : (backTo pos' (starEach [b] X.env)).any (·.1) = false := by rfl)
    (he3 : starEach [.Call (.Name "range" p') [a, b] [] pos'] X.env = (false, eval (.Call (.Name "range" p') [a, b] [] pos') X.env) :: starEach [] X.env := by rfl) :
    Ev X σ B (.Call (.Name "list" p) [.Call (.Name "range" p') [a, b] [] pos'] [] pos) (.list (rngD i (j - i).toNat)) := fun H k Q q =>
  Evl.of (pe_listRg hc hg hm (prg_2 hgr hmr (Evl.pe (e := a)) (Evl.pe (e := b)) he he2 hp) he3) (ha H k _ fun x H1 e1 r1 => hb H1 (k.trans e1) _ fun y H2 e2 r2 => by
    cases r1
    cases r2
    exact ⟨i, j, rfl, rfl, .of_le h0 (by omega) (by omega) h3, fun l hl => q _ _ ((e1.trans e2).trans (Ex.new hl)) (.lst (.inr ((e1.trans e2).free hl)) upd_same (rgV_rp i j))⟩)
/-! sorted of whole numbers -/
def srt (ns : List Int) : List Int := ns.mergeSort (· ≤ ·)
theorem srt_of {ns ns' : List Int} (hp : ns'.Perm ns) (hs : ns'.Pairwise (· ≤ ·)) : ns' = srt ns := by
  have h1 : (srt ns).Pairwise (· ≤ ·) := by
    have := List.pairwise_mergeSort (le := fun a b : Int => decide (a ≤ b)) (fun a b c h1 h2 => by simp only [decide_eq_true_eq] at *; omega) (fun a b => by simp only [Bool.or_eq_true, decide_eq_true_eq]; omega) ns
    exact this.imp fun h => by simpa using h
  exact List.Perm.eq_of_pairwise (fun a b _ _ h1 h2 => Int.le_antisymm h1 h2) hs h1 (hp.trans (List.mergeSort_perm ns _).symm)
theorem ev_sorted {ns : List Int} {p : Pos} (hm : X.mg "sorted" = none) (ha : Ev X σ B a (.list (ns.map .int))) (hg : Gl X "sorted" := by rfl) (he : starEach [a] X.env = (false, eval a X.env) :: starEach [] X.env := by rfl) :
    Ev X σ B (.Call (.Name "sorted" p) [a] [] pos) (.list ((srt ns).map .int)) := ev_callB cr_sortedI (fun G H vs Q r q => by
    cases r with
    | cons r1 r2 =>
      cases r2
      cases r1 with
      | lst h0 h1 h2 =>
        have e := h2.ints
        subst e
        refine ⟨_, ns, rfl, .inl (.inl h1), fun ns' l hp hs hl => q _ _ (Ex.new hl) ?_⟩
        rw [srt_of hp hs]
        exact .lst (.inr hl) upd_same (Rps.ofInts _)) hm bt_sorted (eva_cons ha eva_nil he) hg (by decide) (by decide) he rfl
/-! x in a list of data -/
theorem ev_inD (hu : X.A.units + 65 < cLine) (ha : Ev X σ B a d) (hb : Ev X σ B b (.list ds)) (sa : SeqAt.shaped d = true) (sb : SeqAt.shaped (.list ds) = true) (hm : behindInMarks .NotIn b = false) : EvT X σ B (.Compare a [.NotIn] [b] pos) (!ds.any fun z => PyData.eqv z d) :=
  evt_cmp (op_notInD hu) (fun G H x y Q hx hy q => ⟨d, ds, Rp.dp _ _ hx, Rp.dp _ _ hy, sa, sb, q _ H (Ex.refl H) (.bl _)⟩) ha hb hm
/-! repr -/
mutual
theorem hasD_nol {G : Addr → Prop} : ∀ (d : PyData) (v : V), Rp G H v d → d.hasDict = false
  | .none, _, _ => by simp only [PyData.hasDict]
  | .bool _, _, _ => by simp only [PyData.hasDict]
  | .int _, _, _ => by simp only [PyData.hasDict]
  | .str _, _, _ => by simp only [PyData.hasDict]
  | .list ds, _, h => by
    cases h with
    | lst h0 h1 h2 =>
      simp only [PyData.hasDict]
      exact hasDs_nol ds _ h2
  | .tuple ds, _, h => by
    cases h with
    | tup h1 h2 =>
      simp only [PyData.hasDict]
      exact hasDs_nol ds _ h2
  | .dict _, _, h => by cases h
theorem hasDs_nol {G : Addr → Prop} : ∀ (ds : List PyData) (vs : List V), Rps G H vs ds → PyData.hasDictAll ds = false
  | [], _, _ => by simp only [PyData.hasDictAll]
  | d :: ds, _, h => by
    cases h with
    | cons h1 h2 => simp only [PyData.hasDictAll, hasD_nol d _ h1, hasDs_nol ds _ h2, Bool.or_self]
end
def rRepr (K : PySem.W.Frag) : List V → Hp → VK → Prop := fun vs H Q => ∃ v d, vs = [v] ∧ Dp K H v d ∧ d.hasDict = false ∧ d.showable = true ∧ d.depth ≤ 60 ∧ d.shown.length ≤ sizeLine ∧ (∀ b, d ≠ .bool b) ∧ d ≠ .none ∧ (∀ x, d ≠ .str x) ∧ Q (.str d.shown) H
theorem cr_repr (hg : X.A.guards = some []) (hu : X.A.units + 65 < cLine) : CallR X (.builtin "repr") (rRepr X.K) := by
  intro pins s σ H vs us Q I r h
  obtain ⟨v, d, rfl, hd, hnd, hs, hdp, hsz, nb, nn, ns, q⟩ := h
  obtain ⟨u, rfl, rv⟩ := vals1 r
  obtain ⟨as, rd⟩ := Dp.reads I d v u hd rv
  cases d with
  | none => exact absurd rfl nn
  | bool b => exact absurd rfl (nb b)
  | str x => exact absurd rfl (ns x)
  | int i =>
    cases hd
    obtain ⟨t, rfl⟩ := rv
    have hi : i.natAbs.log2 < 1920 := by simpa [PyData.showable] using hs
    simp only [PyData.shown] at q
    exact PySem.P.repr_of_int hi ⟨.str _, H, I.tok _, ⟨_, rfl⟩, q⟩
  | list xs =>
    cases hd with
    | lst h1 h2 =>
      cases rv
      exact repr_of_reads' rd hs (PyData.noDict_hsm hnd) hg (by omega) (fun _ _ z => z) (fun h' u' tk hk => ⟨.str _, H, I.kept hk, ⟨_, rfl⟩, q⟩) hsz
  | tuple xs =>
    cases hd with
    | tup h1 h2 =>
      cases rv
      exact repr_of_reads' rd hs (PyData.noDict_hsm hnd) hg (by omega) (fun _ _ z => z) (fun h' u' tk hk => ⟨.str _, H, I.kept hk, ⟨_, rfl⟩, q⟩) hsz
  | dict kvs => cases hd
/-- data that repr tells -/
structure Shows (d : PyData) : Prop where
  sh : d.showable = true
  dp : d.depth ≤ 60
  sz : d.shown.length ≤ sizeLine
  nb : ∀ b, d ≠ .bool b
  nn : d ≠ .none
  ns : ∀ x, d ≠ .str x
theorem ev_repr {p : Pos} (hgd : X.A.guards = some []) (hu : X.A.units + 65 < cLine) (hm : X.mg "repr" = none) (sh : Shows d) (ha : Ev X σ B a d) (hg : Gl X "repr" := by rfl) (he : starEach [a] X.env = (false, eval a X.env) :: starEach [] X.env := by rfl) :
    Ev X σ B (.Call (.Name "repr" p) [a] [] pos) (.str d.shown) := ev_callB (cr_repr hgd hu) (fun G H vs Q r q => by
    cases r with
    | cons r1 r2 =>
      cases r2
      exact ⟨_, d, rfl, Rp.dp _ _ r1, hasD_nol _ _ r1, sh.sh, sh.dp, sh.sz, sh.nb, sh.nn, sh.ns, q _ H (Ex.refl H) (.str _)⟩) hm bt_repr (eva_cons ha eva_nil he) hg (by decide) (by decide) he rfl
end
end Bl

set_option Elab.async false
set_option linter.all false
set_option autoImplicit false
set_option maxRecDepth 100000
set_option maxHeartbeats 2000000
namespace Bl
open PySem PySem.Spec PyProof.Rows L2 LamX StX

section
variable {X : Cx} {σ : L2.St} {B B' H H' H1 H2 : Hp} {tg iter e a b c elt : Expr} {es ifs : List Expr} {d da db dc : PyData} {ds : List PyData} {pos : Pos} {scope : Scope} {rest body orelse : List Stmt} {D : Ends}
theorem EvI.cast {ds' : List PyData} (h : EvI X σ B tg e ds) (q : ds = ds') : EvI X σ B tg e ds' := q ▸ h
theorem run_par3 {x y z : Str} {px py pz pt pt2 : Pos} {kt k2 : Nat} (i j l : Nat) (ha : EvA X σ B [a, b, c] [da, db, dc]) (k : Ex B H)
    (q : ∀ u v w H', Ex H H' → Rp (Nw B H) H' u da → Rp (Nw B H) H' v db → Rp (Nw B H) H' w dc → Run X rest D (((σ.set i (some u)).set j (some v)).set l (some w)) H') (hN : X.N.Nodup)
    (hi : X.N[i]? = some x := by rfl) (hj : X.N[j]? = some y := by rfl) (hl : X.N[l]? = some z := by rfl) (hij : i ≠ j := by decide) (hil : i ≠ l := by decide) (hjl : j ≠ l := by decide) (hx : X.env.scope.names.lookup x = some .local := by rfl) (hy : X.env.scope.names.lookup y = some .local := by rfl) (hz : X.env.scope.names.lookup z = some .local := by rfl)
    (hw : swappedStores [.Tuple [.Name x px, .Name y py, .Name z pz] kt pt] (.Tuple [a, b, c] k2 pt2) X.env = pure (some [x, y, z]) := by rfl) (hs : swapsWithSole [.Tuple [.Name x px, .Name y py, .Name z pz] kt pt] (.Tuple [a, b, c] k2 pt2) pos.line X.env = pure false := by rfl) (hc : X.calm = true := by rfl) :
    Run X (.Assign [.Tuple [.Name x px, .Name y py, .Name z pz] kt pt] (.Tuple [a, b, c] k2 pt2) pos :: rest) D σ H := run_cons (ps_par3 hc hN hi hj hl hij hil hjl hx hy hz Arg.pa hw hs) (ha H k _ fun vs H' k' r => by
      cases r with
      | cons r1 r =>
        cases r with
        | cons r2 r =>
          cases r with
          | cons r3 r =>
            cases r
            exact ⟨_, _, _, rfl, q _ _ _ H' k' r1 r2 r3⟩)
/-- return name -/
theorem run_retV {x : Str} {p : Pos} (i : Nat) {v : V} (hs : σ[i]? = some (some v)) (q : D.rt v H) (hN : X.N[i]? = some x := by rfl)
    (hv : Vis X.env.scope x := by first | exact Or.inl rfl | exact Or.inr (Or.inl rfl) | exact Or.inr (Or.inr rfl)) (hd : (x == ("__debug__" : Str)) = false := by decide) (hcd : (x == ("__classdict__" : Str)) = false := by decide) :
    Run X (.Return (some (.Name x p)) pos :: rest) D σ H := run_cons (ps_ret (pe_var hN hv hd hcd)) ⟨v, hs, q⟩
/-- name = [] -/
theorem run_new {x : Str} {p p' : Pos} (i : Nat) (q : ∀ l, H l = none → Run X rest D (σ.set i (some (.ref l))) (upd H l (.lst []))) (hN : X.N.Nodup) (hi : X.N[i]? = some x := by rfl)
    (hx : Loc X.env.scope x := by first | exact Or.inl rfl | exact Or.inr rfl) (hs : swapsWith (.List [] p') (some (.Name x p)) pos.line X.env = pure false := by rfl) (hf : X.fn x = true ∨ X.env.scope.names.lookup x = some .local := by first | exact .inr rfl | exact .inl rfl) :
    Run X (.Assign [.Name x p] (.List [] p') pos :: rest) D σ H := run_cons (ps_set hN hi hx (pe_lst pa_nil) hs hf) ⟨by decide, fun l hl => q l hl⟩
/-- data at lists of G stays when a list that is none of G is written -/
theorem Rp.updp {G : Addr → Prop} {p : Addr} {o u : HO} {v : V} {d : PyData} (h : Rp G H v d) (hp : H p = some u) (m : Mu u) (n : ¬ G p) : Rp G (upd H p o) v d :=
  Rp.to (fun a xs z q => ⟨z, by rw [upd_ne (show a ≠ p from fun e => n (e ▸ z))]; exact q⟩) (fun a xs q => by rw [upd_ne (mu_ne m hp q fun z => z)]; exact q) d v h
theorem Rps.updp {G : Addr → Prop} {p : Addr} {o u : HO} {vs : List V} {ds : List PyData} (h : Rps G H vs ds) (hp : H p = some u) (m : Mu u) (n : ¬ G p) : Rps G (upd H p o) vs ds :=
  Rps.to (fun a xs z q => ⟨z, by rw [upd_ne (show a ≠ p from fun e => n (e ▸ z))]; exact q⟩) (fun a xs q => by rw [upd_ne (mu_ne m hp q fun z => z)]; exact q) ds vs h
/-- many += e -/
theorem run_augI {x : Str} {p' : Pos} {m n : Int} (i : Nat) (hσ : σ[i]? = some (some (.int m))) (h : Ev X σ B e (.int n)) (k : Ex B H) (q : ∀ H', Ex H H' → Run X rest D (σ.set i (some (.int (m + n)))) H') (hN : X.N.Nodup) (hi : X.N[i]? = some x := by rfl)
    (hx : Loc X.env.scope x := by first | exact Or.inl rfl | exact Or.inr rfl) (hf : X.fn x = true ∨ X.env.scope.names.lookup x = some .local := by first | exact .inr rfl | exact .inl rfl) :
    Run X (.AugAssign (.Name x p') .Add e pos :: rest) D σ H := run_cons (ps_aug hN hi hx Evl.pe ip_add hf) ⟨_, hσ, h H k _ fun v H' k' r => by
      cases r
      exact ⟨m, n, rfl, rfl, q H' k'⟩⟩
/-- l.pop() -/
def tPop (i : Nat) : TE := fun σ H Q => ∃ p ys y, σ[i]? = some (some (.ref p)) ∧ H p = some (.lst (ys ++ [y])) ∧ Q y (upd H p (.lst ys))
theorem pe_pop {x : Str} {px apos cpos : Pos} {i : Nat} (hN : X.N[i]? = some x) (hv : Vis X.env.scope x) (hd : (x == ("__debug__" : Str)) = false) (hcd : (x == ("__classdict__" : Str)) = false)
    (hbase : attributeBase (.Name x px) "pop" X.env (eval (.Name x px) X.env) = eval (.Name x px) X.env) (hline : (apos.endLine == cpos.line) = true) : PE X (.Call (.Attribute (.Name x px) "pop" apos) [] [] cpos) (tPop i) := by
  refine ⟨fun pins s σ H Q I h => ?_⟩
  obtain ⟨p, ys, y, h1, h2, q⟩ := h
  refine (pe_bm0 PySem.F.plainAttrs_list PySem.F.slot_list_pop PySem.F.type_list_pop mt_pop (pe_var hN hv hd hcd) hbase hline).run pins s σ H Q I ⟨_, h1, .inl ⟨rfl, _, .inl (.inl h2)⟩, p, ys ++ [y], y, rfl, rfl, h2, ?_, ?_⟩
  · simp
  · rw [List.dropLast_concat]
    exact q
/-- name = l.pop() -/
theorem run_pop {x y : Str} {px py apos cpos : Pos} {ys : List V} {v : V} {p : Addr} (i j : Nat) (hσ : σ[i]? = some (some (.ref p))) (hp : H p = some (.lst (ys ++ [v]))) (q : Run X rest D (σ.set j (some v)) (upd H p (.lst ys))) (hN : X.N.Nodup) (hi : X.N[i]? = some x := by rfl) (hj : X.N[j]? = some y := by rfl)
    (hv : Vis X.env.scope x := by first | exact Or.inl rfl | exact Or.inr (Or.inl rfl) | exact Or.inr (Or.inr rfl)) (hx : Loc X.env.scope y := by first | exact Or.inl rfl | exact Or.inr rfl)
    (hd : (x == ("__debug__" : Str)) = false := by decide) (hcd : (x == ("__classdict__" : Str)) = false := by decide)
    (hbase : attributeBase (.Name x px) "pop" X.env (eval (.Name x px) X.env) = eval (.Name x px) X.env := by rfl) (hline : (apos.endLine == cpos.line) = true := by rfl)
    (hs : swapsWith (.Call (.Attribute (.Name x px) "pop" apos) [] [] cpos) (some (.Name y py)) pos.line X.env = pure false := by rfl) (hf : X.fn y = true ∨ X.env.scope.names.lookup y = some .local := by first | exact .inr rfl | exact .inl rfl) :
    Run X (.Assign [.Name y py] (.Call (.Attribute (.Name x px) "pop" apos) [] [] cpos) pos :: rest) D σ H :=
  run_cons (ps_set hN hj hx (pe_pop hi hv hd hcd hbase hline) hs hf) ⟨p, ys, v, hσ, hp, q⟩
/-- a, b = l.pop() -/
theorem run_pop2 {x y1 y2 : Str} {px p1 p2 pt apos cpos : Pos} {kt : Nat} {ys : List V} {v : V} {p : Addr} {d1 d2 : PyData} {B3 : Hp} (i j1 j2 : Nat) (hσ : σ[i]? = some (some (.ref p))) (hp : H p = some (.lst (ys ++ [v]))) (r : Is B3 v (.tuple [d1, d2])) (k3 : Ex B3 (upd H p (.lst ys)))
    (q : ∀ v1 v2, Is B3 v1 d1 → Is B3 v2 d2 → Run X rest D ((σ.set j1 (some v1)).set j2 (some v2)) (upd H p (.lst ys))) (hN : X.N.Nodup) (hi : X.N[i]? = some x := by rfl) (hj1 : X.N[j1]? = some y1 := by rfl) (hj2 : X.N[j2]? = some y2 := by rfl)
    (hv : Vis X.env.scope x := by first | exact Or.inl rfl | exact Or.inr (Or.inl rfl) | exact Or.inr (Or.inr rfl)) (hy1 : Loc X.env.scope y1 := by first | exact Or.inl rfl | exact Or.inr rfl) (hf1 : X.fn y1 = true ∨ X.env.scope.names.lookup y1 = some .local := by first | exact .inr rfl | exact .inl rfl) (hy2 : Loc X.env.scope y2 := by first | exact Or.inl rfl | exact Or.inr rfl) (hf2 : X.fn y2 = true ∨ X.env.scope.names.lookup y2 = some .local := by first | exact .inr rfl | exact .inl rfl)
    (hd : (x == ("__debug__" : Str)) = false := by decide) (hcd : (x == ("__classdict__" : Str)) = false := by decide)
    (hbase : attributeBase (.Name x px) "pop" X.env (eval (.Name x px) X.env) = eval (.Name x px) X.env := by rfl) (hline : (apos.endLine == cpos.line) = true := by rfl)
    (hs : swapsWithSole [.Tuple [.Name y1 p1, .Name y2 p2] kt pt] (.Call (.Attribute (.Name x px) "pop" apos) [] [] cpos) pos.line X.env = pure false := by rfl) (hw : swappedStores [.Tuple [.Name y1 p1, .Name y2 p2] kt pt] (.Call (.Attribute (.Name x px) "pop" apos) [] [] cpos) X.env = pure none := by rfl) (hc : X.calm = true := by rfl) :
    Run X (.Assign [.Tuple [.Name y1 p1, .Name y2 p2] kt pt] (.Call (.Attribute (.Name x px) "pop" apos) [] [] cpos) pos :: rest) D σ H :=
  run_cons (ps_asg (pe_pop hi hv hd hcd hbase hline) (pg_tup hc (pgs_cons (pg_name hN hj1 hy1 hf1) (pgs_cons (pg_name hN hj2 hy2 hf2) pgs_nil))) hs hw) ⟨p, ys, v, hσ, hp, pg_pair r k3 q⟩
theorem pg_trip {K : PySem.W.Frag} {j1 j2 j3 : Nat} {B3 H3 : Hp} {v : V} {d1 d2 d3 : PyData} {σ' : L2.St} {Q : L2.St → Hp → Prop} (iv : Is B3 v (.tuple [d1, d2, d3])) (k3 : Ex B3 H3) (q : ∀ v1 v2 v3, Is B3 v1 d1 → Is B3 v2 d2 → Is B3 v3 d3 → Q (((σ'.set j1 (some v1)).set j2 (some v2)).set j3 (some v3)) H3) :
    gTup K 3 (gCons (gName j1) (gCons (gName j2) (gCons (gName j3) gNil))) v σ' H3 Q := by
  cases iv with
  | tup h1 h2 =>
    cases h2 with
    | cons a1 a2 =>
      cases a2 with
      | cons a2 a3 =>
        cases a3 with
        | cons a3 a4 =>
          cases a4
          rename_i v1 v2 v3
          exact ⟨_, [v1, v2, v3], rfl, .inl (.inl (k3.tup h1)), rfl, v1, [v2, v3], rfl, v2, [v3], rfl, v3, [], rfl, rfl, q v1 v2 v3 a1 a2 a3⟩
/-- a, b, c = l.pop() -/
theorem run_pop3 {x y1 y2 y3 : Str} {px p1 p2 p3 pt apos cpos : Pos} {kt : Nat} {ys : List V} {v : V} {p : Addr} {d1 d2 d3 : PyData} {B3 : Hp} (i j1 j2 j3 : Nat) (hσ : σ[i]? = some (some (.ref p))) (hp : H p = some (.lst (ys ++ [v]))) (r : Is B3 v (.tuple [d1, d2, d3])) (k3 : Ex B3 (upd H p (.lst ys)))
    (q : ∀ v1 v2 v3, Is B3 v1 d1 → Is B3 v2 d2 → Is B3 v3 d3 → Run X rest D (((σ.set j1 (some v1)).set j2 (some v2)).set j3 (some v3)) (upd H p (.lst ys))) (hN : X.N.Nodup) (hi : X.N[i]? = some x := by rfl) (hj1 : X.N[j1]? = some y1 := by rfl) (hj2 : X.N[j2]? = some y2 := by rfl) (hj3 : X.N[j3]? = some y3 := by rfl)
    (hv : Vis X.env.scope x := by first | exact Or.inl rfl | exact Or.inr (Or.inl rfl) | exact Or.inr (Or.inr rfl)) (hy1 : Loc X.env.scope y1 := by first | exact Or.inl rfl | exact Or.inr rfl) (hf1 : X.fn y1 = true ∨ X.env.scope.names.lookup y1 = some .local := by first | exact .inr rfl | exact .inl rfl) (hy2 : Loc X.env.scope y2 := by first | exact Or.inl rfl | exact Or.inr rfl) (hf2 : X.fn y2 = true ∨ X.env.scope.names.lookup y2 = some .local := by first | exact .inr rfl | exact .inl rfl) (hy3 : Loc X.env.scope y3 := by first | exact Or.inl rfl | exact Or.inr rfl) (hf3 : X.fn y3 = true ∨ X.env.scope.names.lookup y3 = some .local := by first | exact .inr rfl | exact .inl rfl)
    (hd : (x == ("__debug__" : Str)) = false := by decide) (hcd : (x == ("__classdict__" : Str)) = false := by decide)
    (hbase : attributeBase (.Name x px) "pop" X.env (eval (.Name x px) X.env) = eval (.Name x px) X.env := by rfl) (hline : (apos.endLine == cpos.line) = true := by rfl)
    (hs : swapsWithSole [.Tuple [.Name y1 p1, .Name y2 p2, .Name y3 p3] kt pt] (.Call (.Attribute (.Name x px) "pop" apos) [] [] cpos) pos.line X.env = pure false := by rfl) (hw : swappedStores [.Tuple [.Name y1 p1, .Name y2 p2, .Name y3 p3] kt pt] (.Call (.Attribute (.Name x px) "pop" apos) [] [] cpos) X.env = pure none := by rfl) (hc : X.calm = true := by rfl) :
    Run X (.Assign [.Tuple [.Name y1 p1, .Name y2 p2, .Name y3 p3] kt pt] (.Call (.Attribute (.Name x px) "pop" apos) [] [] cpos) pos :: rest) D σ H :=
  run_cons (ps_asg (pe_pop hi hv hd hcd hbase hline) (pg_tup hc (pgs_cons (pg_name hN hj1 hy1 hf1) (pgs_cons (pg_name hN hj2 hy2 hf2) (pgs_cons (pg_name hN hj3 hy3 hf3) pgs_nil)))) hs hw) ⟨p, ys, v, hσ, hp, pg_trip r k3 q⟩
/-- l.extend(e), e a list of data -/
theorem run_ext {x : Str} {px apos cpos : Pos} {xs : List V} {p : Addr} (i : Nat) (hσ : σ[i]? = some (some (.ref p))) (hp : H p = some (.lst xs)) (h : Ev X σ B e (.list ds)) (k : Ex B H) (hl : xs.length + ds.length ≤ sizeLine)
    (q : ∀ vs H', Ex H H' → Rps (Nw B H) H' vs ds → Run X rest D σ (upd H' p (.lst (xs ++ vs)))) (hN : X.N[i]? = some x := by rfl) (hv : Vis X.env.scope x := by first | exact Or.inl rfl | exact Or.inr (Or.inl rfl) | exact Or.inr (Or.inr rfl))
    (hd : (x == ("__debug__" : Str)) = false := by decide) (hcd : (x == ("__classdict__" : Str)) = false := by decide)
    (hbase : attributeBase (.Name x px) "extend" X.env (eval (.Name x px) X.env) = eval (.Name x px) X.env := by rfl)
    (hfew : ((backTo cpos (starEach [e] X.env)).all (fun x => !x.1) && (backToKw cpos (keywordEach [] X.env)).all (fun x => x.1.isSome) && decide ([e].length + ([] : List Keyword).length + (if ([] : List Keyword).isEmpty then 0 else 1) < 30)) = true := by rfl)
    (hline : (apos.endLine == cpos.line) = true := by rfl) (hse : starEach [e] X.env = (false, eval e X.env) :: starEach [] X.env := by rfl) (hplain : (backTo cpos (starEach [] X.env)).any (·.1) = false := by rfl)
    (hs : swapsWith (.Call (.Attribute (.Name x px) "extend" apos) [e] [] cpos) none pos.line X.env = pure false := by rfl) :
    Run X (.Expr (.Call (.Attribute (.Name x px) "extend" apos) [e] [] cpos) pos :: rest) D σ H :=
  run_cons (ps_expr (pe_bm PySem.F.plainAttrs_list PySem.F.slot_list_extend PySem.F.type_list_extend mt_extend (pe_var hN hv hd hcd) (pa_cons Evl.pe pa_nil hse) hbase hfew hline hse hplain) hs)
    ⟨_, hσ, .inl ⟨rfl, xs, .inl (.inl hp)⟩, h H k _ fun v H' k' r => by
      cases r with
      | lst h0 h1 h2 => exact ⟨p, _, xs, _, rfl, rfl, k'.lst hp, h1, by rw [h2.length]; exact hl, q _ H' k' h2⟩⟩
/-- l[i] = e, l a list that B does not know -/
theorem run_setL {x : Str} {px ppos : Pos} {xs : List V} {p : Addr} {ie : Expr} {m : Int} {n : Nat} (i : Nat) (hσ : σ[i]? = some (some (.ref p))) (hp : H p = some (.lst xs)) (h : Ev X σ B e d) (hi : Ev X σ B ie (.int m)) (k : Ex B H) (hn : L2.ixN xs.length m = some n)
    (q : ∀ v H', Ex H H' → Rp (Nw B H) H' v d → Run X rest D σ (upd H' p (.lst (xs.set n v)))) (hN : X.N[i]? = some x := by rfl) (hv : Vis X.env.scope x := by first | exact Or.inl rfl | exact Or.inr (Or.inl rfl) | exact Or.inr (Or.inr rfl))
    (hd : (x == ("__debug__" : Str)) = false := by decide) (hcd : (x == ("__classdict__" : Str)) = false := by decide)
    (ha : ∀ v, assign (.Subscript (.Name x px) ie ppos) X.env v = (do
      let ov ← holding [v] (eval (.Name x px) X.env)
      let iv ← holding [v, ov] (eval ie X.env)
      standAt ppos
      holding [v, ov, iv] (setItem ov iv v)
      release [v, ov, iv] []) := by intro _; rfl)
    (hs : swapsWithSole [.Subscript (.Name x px) ie ppos] e pos.line X.env = pure false := by rfl) (hw : swappedStores [.Subscript (.Name x px) ie ppos] e X.env = pure none := by rfl) :
    Run X (.Assign [.Subscript (.Name x px) ie ppos] e pos :: rest) D σ H :=
  run_cons (ps_asg Evl.pe (pg_sub (pe_var hN hv hd hcd) Evl.pe set_list ha) hs hw) (h H k _ fun v H1 k1 r1 => ⟨_, hσ, hi H1 (k.trans k1) _ fun w H2 k2 r2 => by
    cases r2
    exact ⟨p, xs, m, n, rfl, rfl, k2.lst (k1.lst hp), hn, q v H2 (k1.trans k2) (r1.mono (fun _ z => z) k2)⟩⟩)
end
end Bl

set_option Elab.async false
set_option linter.all false
set_option autoImplicit false
set_option maxRecDepth 100000
set_option maxHeartbeats 2000000
namespace Bl
open PySem PySem.Spec PyProof.Rows L2 LamX StX
theorem Ex.rs2 {A A' : Hp} {G : Addr → Prop} (e : Ex A A') : Ex (Rs G A) (Rs G A') where
  keep := fun b x h n => by
    obtain ⟨h1, h2⟩ := rs_some h
    exact rs_at (e.keep b x h1 n) h2
  tbl := fun b x h => by
    obtain ⟨h1, h2⟩ := rs_some h
    obtain ⟨u, z⟩ := e.tbl b x h1
    exact ⟨u, rs_at z fun m => (tbl_nm u m).elim⟩
  tabs := fun P q t => by
    obtain ⟨ps, h1, h2, h3⟩ := e.tabs P q (rs_ex.tabs P q t)
    refine ⟨ps, rs_at h1 fun m => (tbl_nm ps m).elim, h2, fun pos cv hc => ?_⟩
    obtain ⟨c, e1, e2⟩ := h3 pos cv hc
    exact ⟨c, e1, rs_at e2 fun m => (code_nm c q m).elim⟩
section
variable {X : Cx} {σ : L2.St} {B B' H H' H1 H2 : Hp} {tg iter tg1 iter1 e a b c elt : Expr} {es ifs : List Expr} {d da db dc : PyData} {ds : List PyData} {pos : Pos} {scope : Scope} {vs : List Nat}
def tiB (X : Cx) (scope : Scope) (tg e : Expr) : TI := fun σ H R => ∀ s0 H0 C cl fp, Itr (blk X scope s0 H0 C cl fp) tg e σ H R
theorem flat_take {α β : Type} {xs : List α} (g : α → List β) {i : Nat} {x : α} (h : xs[i]? = some x) : (xs.take (i + 1)).flatMap g = (xs.take i).flatMap g ++ g x := by
  rw [List.take_add_one, h, Option.toList_some, List.flatMap_append]
  simp
theorem lc2_sem {α β : Type} (xs : List α) (f : α → PyData) (ys : α → List β) (f1 : α → β → PyData) (r : α → β → PyData) (j j1 : Nat) (vs1 : List Nat) (hi : EvI X σ B tg iter (xs.map f))
    (hi1 : ∀ x ∈ xs, ∀ (v : V) (B3 : Hp), Ex B B3 → Is B3 v (f x) → ∀ s0 H0 C cl fp, EvI (blk X scope s0 H0 C cl fp) ((wipe σ vs).set j (some v)) B3 tg1 iter1 ((ys x).map (f1 x)))
    (he : ∀ x ∈ xs, ∀ y ∈ ys x, ∀ (v v1 : V) (B3 : Hp), Ex B B3 → Is B3 v (f x) → Is B3 v1 (f1 x y) → EvB X scope (((wipe σ vs).set j (some v)).set j1 (some v1)) B3 elt (r x y))
    (hw : ∀ v, wipe ((wipe σ vs).set j (some v)) vs = wipe σ vs) (hw1 : ∀ v, wipe ((wipe σ vs).set j (some v)) vs1 = (wipe σ vs).set j (some v)) (hw2 : ∀ v v1, wipe (((wipe σ vs).set j (some v)).set j1 (some v1)) vs1 = (wipe σ vs).set j (some v))
    (hl : (xs.flatMap ys).length < sizeLine) (k : Ex B H) {Q : VK}
    (q : ∀ v H', Ex H H' → Rp (Nw B H) H' v (.list (xs.flatMap fun x => (ys x).map (r x))) → Q v H') :
    tLc2 (Itr X tg iter) (gName j) (ttB X scope []) (tiB X scope tg1 iter1) (gName j1) (ttB X scope []) (teB X scope elt) vs vs1 σ H Q :=
  hi H k _ fun J B2 H1 e1 eB e2 gB W => fun Dl hD => by
    rw [List.length_map] at W
    have hDH : H Dl = none := e1.free hD
    have hDB : B Dl = none := k.free hDH
    have stepR : ∀ {H2 H3 : Hp} {acc : List V} {dd : List PyData}, Rps (Nw B H) (Wo Dl H2) acc dd → Ex H2 H3 → H2 Dl = some (.lst acc) → Rps (Nw B H) (Wo Dl H3) acc dd := fun {H2 H3 acc dd} ra k2 hacc => ra.mono (fun _ z => z) (k2.wo2 hacc trivial)
    refine ⟨fun i m H2 => m = xs.length - i ∧ i ≤ xs.length ∧ ∃ acc, Ex H1 H2 ∧ H2 Dl = some (.lst acc) ∧ Rps (Nw B H) (Wo Dl H2) acc ((xs.take i).flatMap fun x => (ys x).map (r x)), ⟨xs.length, by simp, Nat.zero_le _, [], Ex.new hD, upd_same, .nil⟩, ?_⟩
    rintro i m H2 ⟨rfl, hi, acc, k2, hacc, racc⟩
    rcases (Nat.lt_or_ge i xs.length).symm with hin | hin
    · have ei : i = xs.length := by omega
      subst ei
      refine .inl ⟨W.stops H2 (e2.trans k2), ?_⟩
      rw [List.take_of_length_le (Nat.le_refl _)] at racc
      exact q _ H2 (e1.trans k2) (.lst (.inr hDH) hacc (racc.mono (fun _ z => z) wo_ex))
    refine .inr ⟨W.goes i H2 hin (e2.trans k2), fun H3 => i + 1 ≤ xs.length ∧ ∃ acc, Ex H1 H3 ∧ H3 Dl = some (.lst acc) ∧ Rps (Nw B H) (Wo Dl H3) acc ((xs.take (i + 1)).flatMap fun x => (ys x).map (r x)), fun H3 ⟨a, b⟩ => ⟨xs.length - (i + 1), by omega, rfl, a, b⟩, fun v H3 yy => ?_⟩
    obtain ⟨k3, d, hd, rd⟩ := W.yields i H2 v H3 hin (e2.trans k2) yy
    have hx : xs[i]? = some xs[i] := List.getElem?_eq_getElem hin
    have hm : xs[i] ∈ xs := List.getElem_mem hin
    generalize hxe : xs[i] = x at hx hm
    rw [List.getElem?_map, hx] at hd
    have ed : f x = d := Option.some.inj hd
    rw [← ed] at rd
    have h3 : H3 Dl = some (.lst acc) := k3.lst hacc
    have rv : Rp (fun a => Nw B H a ∧ a ≠ Dl) H3 v (f x) := Rp.to (fun a ys z w => by
      refine ⟨?_, w⟩
      rcases z with ⟨o, z⟩ | z
      · have z' := ((e2.trans k2).trans k3).lst_back z w
        exact ⟨gB a _ z' trivial, fun ea => by
          subst ea
          obtain ⟨u, hu⟩ := e2.has _ _ z
          rw [hD] at hu
          cases hu⟩
      · exact ⟨.inr ((e1.trans k2).free z), fun ea => by
          rw [ea, hacc] at z
          cases z⟩) (fun _ _ w => w) _ v rd
    have iv : Is (Rs (Nw B H) (Wo Dl H3)) v (f x) := ((rv.wo h3 trivial (fun z => z.2 rfl)).mono (fun _ z => z.1) (Ex.refl _)).rs
    have kB : Ex B (Rs (Nw B H) (Wo Dl H3)) := (((k.trans e1).trans (k2.trans k3)).wo hDB h3 trivial).rs fun a o z => .inl ⟨o, z⟩
    have k33 : Ex (Rs (Nw B H) (Wo Dl H3)) H3 := rs_ex.trans wo_ex
    have e3 : Ex H H3 := e1.trans (k2.trans k3)
    show wipe ((wipe σ vs).set j (some v)) vs = wipe σ vs ∧ ttB X scope [] ((wipe σ vs).set j (some v)) H3 _
    refine ⟨hw v, fun s0 H0 C cl fp => (evs_nil (B := Rs (Nw B H) (Wo Dl H3))) H3 k33 _ fun H4 k4 => ?_⟩
    show tiB X scope tg1 iter1 ((wipe σ vs).set j (some v)) H4 _
    intro s0 H0 C cl fp
    refine hi1 x hm v _ kB iv s0 H0 C cl fp H4 (k33.trans k4) _ fun J1 B5 H5 k5 eB5 e5 gB5 W1 => ?_
    rw [List.length_map] at W1
    have hB5 : B5 Dl = none := by
      cases z : B5 Dl with
      | none => rfl
      | some u =>
        obtain ⟨w, hw⟩ := e5.has Dl u z
        have h5 : H5 Dl = some (.lst acc) := k5.lst (k4.lst h3)
        have z' := e5.lst_back z h5
        rcases gB5 Dl _ z' trivial with ⟨o, n⟩ | n
        · exact absurd rfl (wo_some (rs_some n).1).1
        · rw [k4.lst h3] at n
          cases n
    have b3D : Rs (Nw B H) (Wo Dl H3) Dl = none := by
      cases z : Rs (Nw B H) (Wo Dl H3) Dl with
      | none => rfl
      | some u => exact absurd rfl (wo_some (rs_some z).1).1
    refine ⟨fun n m H6 => m = (ys x).length - n ∧ n ≤ (ys x).length ∧ ∃ acc, Ex (Wo Dl H3) H6 ∧ Ex H1 H6 ∧ Ex B5 H6 ∧ H6 Dl = some (.lst acc) ∧ Rps (Nw B H) (Wo Dl H6) acc (((xs.take i).flatMap fun x => (ys x).map (r x)) ++ ((ys x).take n).map (r x)),
      ⟨(ys x).length, by simp, Nat.zero_le _, acc, wo_ex.trans (k4.trans k5), k2.trans (k3.trans (k4.trans k5)), e5, k5.lst (k4.lst h3), ?_⟩, ?_⟩
    · rw [List.take_zero, List.map_nil, List.append_nil]
      exact stepR racc (k3.trans (k4.trans k5)) hacc
    rintro n m H6 ⟨rfl, hn, acc, q1, q2, q3, q4, q5⟩
    rcases (Nat.lt_or_ge n (ys x).length).symm with hnn | hnn
    · have en : n = (ys x).length := by omega
      subst en
      refine .inl ⟨W1.stops H6 q3, hin, acc, q2, q4, ?_⟩
      rw [List.take_of_length_le (Nat.le_refl _)] at q5
      rw [flat_take _ hx]
      exact q5
    refine .inr ⟨W1.goes n H6 hnn q3, fun H7 => n + 1 ≤ (ys x).length ∧ ∃ acc, Ex (Wo Dl H3) H7 ∧ Ex H1 H7 ∧ Ex B5 H7 ∧ H7 Dl = some (.lst acc) ∧ Rps (Nw B H) (Wo Dl H7) acc (((xs.take i).flatMap fun x => (ys x).map (r x)) ++ ((ys x).take (n + 1)).map (r x)), fun H7 ⟨a, b⟩ => ⟨(ys x).length - (n + 1), by omega, rfl, a, b⟩, fun v1 H7 yy => ?_⟩
    obtain ⟨k7, d1, hd1, rd1⟩ := W1.yields n H6 v1 H7 hnn q3 yy
    have hy : (ys x)[n]? = some (ys x)[n] := List.getElem?_eq_getElem hnn
    have hym : (ys x)[n] ∈ ys x := List.getElem_mem hnn
    generalize hye : (ys x)[n] = y at hy hym
    rw [List.getElem?_map, hy] at hd1
    have ed1 : f1 x y = d1 := Option.some.inj hd1
    rw [← ed1] at rd1
    have h7 : H7 Dl = some (.lst acc) := k7.lst q4
    have e6 : Ex H H6 := e1.trans q2
    have rv1 : Rp (fun a => Nw B H a ∧ a ≠ Dl) H7 v1 (f1 x y) := Rp.to (fun a ys z w => by
      refine ⟨?_, w⟩
      rcases z with ⟨o, z⟩ | z
      · have z' := (q3.trans k7).lst_back z w
        rcases gB5 a _ z' trivial with ⟨o, t⟩ | t
        · have t' := (eB5.trans (q3.trans k7)).lst_back t w
          obtain ⟨t1, t2⟩ := rs_some t'
          exact ⟨t2 trivial, (wo_some t1).1⟩
        · exact ⟨.inr ((e3.trans k4).free t), fun ea => by
            rw [ea, k4.lst h3] at t
            cases t⟩
      · exact ⟨.inr (e6.free z), fun ea => by
          rw [ea, q4] at z
          cases z⟩) (fun _ _ w => w) _ v1 rd1
    have iv1 : Is (Rs (Nw B H) (Wo Dl H7)) v1 (f1 x y) := ((rv1.wo h7 trivial (fun z => z.2 rfl)).mono (fun _ z => z.1) (Ex.refl _)).rs
    have kk : Ex (Rs (Nw B H) (Wo Dl H3)) (Rs (Nw B H) (Wo Dl H7)) := ((q1.trans k7).wo wo_self h7 trivial).rs2
    have k77 : Ex (Rs (Nw B H) (Wo Dl H7)) H7 := rs_ex.trans wo_ex
    show wipe (((wipe ((wipe σ vs).set j (some v)) vs1)).set j1 (some v1)) vs1 = wipe ((wipe σ vs).set j (some v)) vs1 ∧ ttB X scope [] ((wipe ((wipe σ vs).set j (some v)) vs1).set j1 (some v1)) H7 _
    rw [hw1 v]
    refine ⟨hw2 v v1, fun s0 H0 C cl fp => (evs_nil (B := Rs (Nw B H) (Wo Dl H7))) H7 k77 _ fun H8 k8 => ?_⟩
    show teB X scope elt (((wipe σ vs).set j (some v)).set j1 (some v1)) H8 _
    intro s0 H0 C cl fp
    refine he x hm y hym v v1 _ (kB.trans kk) (iv.up kk) iv1 s0 H0 C cl fp H8 (k77.trans k8) _ fun y9 H9 k9 ry => ⟨acc, k9.lst (k8.lst h7), ?_, hnn, acc ++ [y9], ?_, ?_, ?_, upd_same, ?_⟩
    · rw [q5.length, List.length_append, List.length_map]
      have l1 : ((xs.take i).flatMap fun x => (ys x).map (r x)).length + (ys x).length ≤ (xs.flatMap ys).length := by
        have t1 : ((xs.take (i + 1)).flatMap ys).length ≤ (xs.flatMap ys).length := by
          conv => rhs; rw [← List.take_append_drop (i + 1) xs, List.flatMap_append, List.length_append]
          exact Nat.le_add_right _ _
        rw [flat_take _ hx, List.length_append] at t1
        have t2 : ((xs.take i).flatMap fun x => (ys x).map (r x)).length = ((xs.take i).flatMap ys).length := by
          rw [List.length_flatMap, List.length_flatMap]
          simp
        omega
      have l2 : ((ys x).take n).length ≤ n := by rw [List.length_take]; omega
      omega
    · exact (q1.trans (k7.trans (k8.trans k9))).mut wo_self (k9.lst (k8.lst h7)) trivial
    · exact (q2.trans (k7.trans (k8.trans k9))).mut hD (k9.lst (k8.lst h7)) trivial
    · exact (q3.trans (k7.trans (k8.trans k9))).mut hB5 (k9.lst (k8.lst h7)) trivial
    · rw [wo_upd, List.take_add_one, hy, Option.toList_some, List.map_append, ← List.append_assoc]
      refine (stepR q5 (k7.trans (k8.trans k9)) q4).snoc ?_
      have ry' : Rp (fun a => Nw B H a ∧ a ≠ Dl) H9 y9 (r x y) := Rp.to (fun a ys z w => by
        refine ⟨?_, w⟩
        rcases z with ⟨o, z⟩ | z
        · have z' := ((k77.trans k8).trans k9).lst_back z w
          obtain ⟨z1, z2⟩ := rs_some z'
          exact ⟨z2 trivial, (wo_some z1).1⟩
        · exact ⟨.inr ((e6.trans (k7.trans k8)).free z), fun ea => by
            rw [ea, k8.lst h7] at z
            cases z⟩) (fun _ _ w => w) _ y9 ry
      exact (ry'.wo (k9.lst (k8.lst h7)) trivial (fun z => z.2 rfl)).mono (fun _ z => z.1) (Ex.refl _)
/-- name = [elt for y in iter for y1 in iter1] on one line -/
theorem run_setLc2 {own : List (Str × Nat)} {α β : Type} {rest : List Stmt} {D : Ends} {y0 y y1 : Str} {p0 py py1 cpos : Pos} (i j j1 : Nat) (vs1 : List Nat) (xs : List α) (f : α → PyData) (ys : α → List β) (f1 : α → β → PyData) (r : α → β → PyData) (hN : X.N.Nodup) (ok : BlkOk X.N X.env.scope scope own)
    (hi : EvI X σ B (.Name y py) iter (xs.map f))
    (hi1 : ∀ x ∈ xs, ∀ (v : V) (B3 : Hp), Ex B B3 → Is B3 v (f x) → ∀ s0 H0 C cl fp, EvI (blk X scope s0 H0 C cl fp) ((wipe σ (own.map (·.2))).set j (some v)) B3 (.Name y1 py1) iter1 ((ys x).map (f1 x)))
    (he : ∀ x ∈ xs, ∀ z ∈ ys x, ∀ (v v1 : V) (B3 : Hp), Ex B B3 → Is B3 v (f x) → Is B3 v1 (f1 x z) → EvB X scope (((wipe σ (own.map (·.2))).set j (some v)).set j1 (some v1)) B3 elt (r x z))
    (hl : (xs.flatMap ys).length < sizeLine) (k : Ex B H)
    (q : ∀ v H', Ex H H' → Rp (Nw B H) H' v (.list (xs.flatMap fun x => (ys x).map (r x))) → Run X rest D (σ.set i (some v)) H')
    (hv : ∀ i ∈ vs1, i ∈ own.map (·.2) := by decide)
    (hw : ∀ v, wipe ((wipe σ (own.map (·.2))).set j (some v)) (own.map (·.2)) = wipe σ (own.map (·.2)) := by intro _; rfl) (hw1 : ∀ v, wipe ((wipe σ (own.map (·.2))).set j (some v)) vs1 = (wipe σ (own.map (·.2))).set j (some v) := by intro _; rfl)
    (hw2 : ∀ v v1, wipe (((wipe σ (own.map (·.2))).set j (some v)).set j1 (some v1)) vs1 = (wipe σ (own.map (·.2))).set j (some v) := by intro _ _; rfl)
    (hj : X.N[j]? = some y := by rfl) (hj1 : X.N[j1]? = some y1 := by rfl) (hy : X.N[i]? = some y0 := by rfl) (hyl : X.env.scope.names.lookup y0 = some .local := by rfl)
    (hyb : ∀ s0 H0 C cl fp, Loc (blk X scope s0 H0 C cl fp).env.scope y ∧ ((blk X scope s0 H0 C cl fp).fn y = true ∨ (blk X scope s0 H0 C cl fp).env.scope.names.lookup y = some .local) := by intros; first | exact ⟨.inl rfl, .inr rfl⟩ | exact ⟨.inr rfl, .inl rfl⟩) (hyb1 : ∀ s0 H0 C cl fp, Loc (blk X scope s0 H0 C cl fp).env.scope y1 ∧ ((blk X scope s0 H0 C cl fp).fn y1 = true ∨ (blk X scope s0 H0 C cl fp).env.scope.names.lookup y1 = some .local) := by intros; first | exact ⟨.inl rfl, .inr rfl⟩ | exact ⟨.inr rfl, .inl rfl⟩)
    (hsw : swapsWith (.ListComp elt [⟨.Name y py, iter, [], 0⟩, ⟨.Name y1 py1, iter1, [], 0⟩] scope cpos) (some (.Name y0 p0)) pos.line X.env = pure true := by rfl)
    (hc : X.calm = true := by rfl) (hs : ∀ x, foldedSetIterable iter X.env x = pure x := by intro _; rfl) (hs1 : ∀ env x, foldedSetIterable iter1 env x = pure x := by intro _ _; rfl) :
    Run X (.Assign [.Name y0 p0] (.ListComp elt [⟨.Name y py, iter, [], 0⟩, ⟨.Name y1 py1, iter1, [], 0⟩] scope cpos) pos :: rest) D σ H :=
  run_cons (ps_setLc2 hc hN hy hyl hsw Itr.pi ok hv (fun _ _ _ _ _ => pg_name hN hj (hyb _ _ _ _ _).1 (hyb _ _ _ _ _).2) (fun s0 H0 C cl fp => ⟨fun pins s σ H Q I h => h s0 H0 C cl fp pins s I⟩)
    (fun s0 H0 C cl fp => ⟨fun pins s σ H Q I h => h s0 H0 C cl fp pins s I⟩) (fun _ _ _ _ _ => pg_name hN hj1 (hyb1 _ _ _ _ _).1 (hyb1 _ _ _ _ _).2) (fun s0 H0 C cl fp => ⟨fun pins s σ H Q I h => h s0 H0 C cl fp pins s I⟩)
    (fun s0 H0 C cl fp => ⟨fun pins s σ H Q I h => h s0 H0 C cl fp pins s I⟩) hs hs1) (lc2_sem xs f ys f1 r j j1 vs1 hi hi1 he hw hw1 hw2 hl k q)
end
end Bl

set_option Elab.async false
set_option linter.all false
set_option autoImplicit false
set_option maxRecDepth 100000
set_option maxHeartbeats 2000000
namespace Bl
open PySem PySem.Spec PyProof.Rows L2 LamX StX
/-! ### data without bools and dicts, nested at most n deep -/
mutual
def pl : Nat → PyData → Bool
  | _, .none => true
  | _, .bool _ => false
  | _, .int _ => true
  | _, .str x => PyData.strOk x
  | 0, .list _ => false
  | 0, .tuple _ => false
  | n + 1, .list ds => pls n ds
  | n + 1, .tuple ds => pls n ds
  | _, .dict _ => false
def pls : Nat → List PyData → Bool
  | _, [] => true
  | n, d :: ds => pl n d && pls n ds
end
mutual
theorem pl_ok : ∀ (n : Nat) (d : PyData), pl n d = true → d.canLay0 = true ∧ d.depth ≤ n
  | n, .none, _ => ⟨rfl, Nat.zero_le _⟩
  | n, .bool _, h => by simp [pl] at h
  | n, .int _, _ => ⟨rfl, Nat.zero_le _⟩
  | n, .str x, h => ⟨by simpa [pl, PyData.canLay0] using h, Nat.zero_le _⟩
  | 0, .list _, h => by simp [pl] at h
  | 0, .tuple _, h => by simp [pl] at h
  | n + 1, .list ds, h => by
    obtain ⟨h1, h2⟩ := pls_ok n ds (by simpa [pl] using h)
    exact ⟨h1, Nat.succ_le_succ h2⟩
  | n + 1, .tuple ds, h => by
    obtain ⟨h1, h2⟩ := pls_ok n ds (by simpa [pl] using h)
    exact ⟨h1, Nat.succ_le_succ h2⟩
  | n, .dict _, h => by simp [pl] at h
theorem pls_ok : ∀ (n : Nat) (ds : List PyData), pls n ds = true → PyData.canLayAll0 ds = true ∧ PyData.depthAll ds ≤ n
  | n, [], _ => ⟨rfl, Nat.zero_le _⟩
  | n, d :: ds, h => by
    have h' : pl n d = true ∧ pls n ds = true := by simpa [pls] using h
    obtain ⟨h1, h2⟩ := pl_ok n d h'.1
    obtain ⟨h3, h4⟩ := pls_ok n ds h'.2
    refine ⟨?_, Nat.max_le.mpr ⟨h2, h4⟩⟩
    simp only [PyData.canLayAll0, h1, h3, Bool.and_self]
end
theorem pl_sh {n : Nat} {d : PyData} (h : pl n d = true) (hn : n ≤ 64) : SeqAt.shaped d = true := by
  obtain ⟨h1, h2⟩ := pl_ok n d h
  unfold SeqAt.shaped
  rw [h1, decide_eq_true (by omega)]
  rfl
mutual
theorem eqv_pl : ∀ (n m : Nat) (a b : PyData), pl n a = true → pl m b = true → (PyData.eqv a b = true ↔ a = b)
  | n, m, .none, b, _, h => by cases b <;> simp_all [PyData.eqv, pl]
  | n, m, .bool _, b, h, _ => by simp [pl] at h
  | n, m, .int _, b, _, h => by cases b <;> simp_all [PyData.eqv, pl]
  | n, m, .str x, b, _, h => by cases b <;> simp_all [PyData.eqv, pl]
  | 0, _, .list _, _, h, _ => by simp [pl] at h
  | 0, _, .tuple _, _, h, _ => by simp [pl] at h
  | n + 1, m, .list as, b, ha, hb => by
    cases b with
    | list bs =>
      cases m with
      | zero => simp [pl] at hb
      | succ m =>
        have := eqvs_pl n m as bs (by simpa [pl] using ha) (by simpa [pl] using hb)
        simp only [PyData.eqv, this, PyData.list.injEq]
    | _ => simp_all [PyData.eqv]
  | n + 1, m, .tuple as, b, ha, hb => by
    cases b with
    | tuple bs =>
      cases m with
      | zero => simp [pl] at hb
      | succ m =>
        have := eqvs_pl n m as bs (by simpa [pl] using ha) (by simpa [pl] using hb)
        simp only [PyData.eqv, this, PyData.tuple.injEq]
    | _ => simp_all [PyData.eqv]
  | n, _, .dict _, _, h, _ => by simp [pl] at h
theorem eqvs_pl : ∀ (n m : Nat) (a b : List PyData), pls n a = true → pls m b = true → (PyData.eqvAll a b = true ↔ a = b)
  | n, m, [], b, _, h => by cases b <;> simp_all [PyData.eqvAll, pls]
  | n, m, a :: as, [], _, _ => by simp [PyData.eqvAll]
  | n, m, a :: as, b :: bs, ha, hb => by
    have h1 : pl n a = true ∧ pls n as = true := by simpa [pls] using ha
    have h2 : pl m b = true ∧ pls m bs = true := by simpa [pls] using hb
    have e1 := eqv_pl n m a b h1.1 h2.1
    have e2 := eqvs_pl n m as bs h1.2 h2.2
    simp only [PyData.eqvAll, Bool.and_eq_true, e1, e2, List.cons.injEq]
end
theorem pls_all : ∀ {n : Nat} {ds : List PyData}, (∀ d ∈ ds, pl n d = true) → pls n ds = true
  | n, [], _ => by cases n <;> rfl
  | n, d :: ds, h => by
    have := pls_all (n := n) fun x hx => h x (List.mem_cons_of_mem d hx)
    unfold pls
    rw [h d List.mem_cons_self, this]
    rfl
theorem pls_map {α : Type} {n : Nat} {f : α → PyData} (h : ∀ x, pl n (f x) = true) (xs : List α) : pls n (xs.map f) = true := pls_all fun d hd => by
  obtain ⟨x, _, rfl⟩ := List.mem_map.mp hd
  exact h x
mutual
theorem pl_up : ∀ {n m : Nat} {d : PyData}, pl n d = true → n ≤ m → pl m d = true
  | n, m, .none, _, _ => by cases m <;> rfl
  | n, m, .bool _, h, _ => by simp [pl] at h
  | n, m, .int _, _, _ => by cases m <;> rfl
  | n, m, .str x, h, _ => by simpa [pl] using h
  | 0, _, .list _, h, _ => by simp [pl] at h
  | 0, _, .tuple _, h, _ => by simp [pl] at h
  | n + 1, m, .list ds, h, hm => by
    cases m with
    | zero => omega
    | succ m =>
      have := pls_up (n := n) (m := m) (ds := ds) (by simpa [pl] using h) (by omega)
      simpa [pl] using this
  | n + 1, m, .tuple ds, h, hm => by
    cases m with
    | zero => omega
    | succ m =>
      have := pls_up (n := n) (m := m) (ds := ds) (by simpa [pl] using h) (by omega)
      simpa [pl] using this
  | n, _, .dict _, h, _ => by simp [pl] at h
theorem pls_up : ∀ {n m : Nat} {ds : List PyData}, pls n ds = true → n ≤ m → pls m ds = true
  | n, m, [], _, _ => by cases m <;> rfl
  | n, m, d :: ds, h, hm => by
    have h' : pl n d = true ∧ pls n ds = true := by simpa [pls] using h
    have h1 := pl_up h'.1 hm
    have h2 := pls_up h'.2 hm
    simp only [pls, h1, h2, Bool.and_self]
end
theorem pl_dIs (l : List Int) : pl 1 (dIs l) = true := by
  show pls 0 (l.map .int) = true
  exact pls_map (fun _ => rfl) l
theorem int_inj {a b : List Int} (h : a.map PyData.int = b.map PyData.int) : a = b := by
  induction a generalizing b with
  | nil => cases b <;> simp_all
  | cons x a ih =>
    cases b with
    | nil => simp at h
    | cons y b =>
      simp only [List.map_cons, List.cons.injEq, PyData.int.injEq] at h
      rw [h.1, ih h.2]
theorem dIs_inj {a b : List Int} (h : dIs a = dIs b) : a = b := int_inj (PyData.tuple.inj h)
/-! places -/
theorem atI_nat {α : Type} {xs : List α} {n : Nat} {x : α} (h : xs[n]? = some x) : L2.atI xs (n : Int) = some x := by
  have hl := (List.getElem?_eq_some_iff.mp h).1
  unfold L2.atI L2.ixN
  rw [if_pos (by omega), if_pos (by omega)]
  exact h
theorem atI_last {α : Type} {xs : List α} {x : α} (h : xs.getLast? = some x) : L2.atI xs (-1) = some x := by
  cases xs with
  | nil => simp at h
  | cons a xs =>
    unfold L2.atI L2.ixN
    rw [if_neg (by omega), if_pos (by simp only [List.length_cons]; omega)]
    rw [List.getLast?_eq_getElem?] at h
    show (a :: xs)[_]? = _
    rw [← h]
    congr 1
    simp only [List.length_cons]
    omega
theorem map_at {α β : Type} {xs : List α} {n : Nat} {x : α} (f : α → β) (h : xs[n]? = some x) : (xs.map f)[n]? = some (f x) := by rw [List.getElem?_map, h]; rfl
/-! ### what the program computes -/
def frD (p : Int × Int) : PyData := .tuple [.int p.1, .int p.2]
def wD (rg : Bool) : PyData := .str (if rg then "regret" else "share")
def anyD : PyData := .str "any"
def gmD (g : List Int × List Int) : PyData := .tuple [dIs g.1, dIs g.2, .int (-1)]
theorem pl_frD (p : Int × Int) : pl 1 (frD p) = true := rfl
theorem pl_wD (rg : Bool) : pl 0 (wD rg) = true := by cases rg <;> decide +kernel
theorem pl_gmD (g : List Int × List Int) : pl 2 (gmD g) = true := by
  show (pl 1 (dIs g.1) && (pl 1 (dIs g.2) && true)) = true
  rw [pl_dIs, pl_dIs]
  rfl
theorem nol_frD (p : Int × Int) : nol (frD p) = true := rfl
theorem nol_wD (rg : Bool) : nol (wD rg) = true := rfl
theorem nol_gmD (g : List Int × List Int) : nol (gmD g) = true := by
  show nols [dIs g.1, dIs g.2, .int (-1)] = true
  simp only [nols, nol_dIs, nol, Bool.and_self]
theorem frD_inj {p q : Int × Int} (h : frD p = frD q) : p = q := by
  obtain ⟨a, b⟩ := p
  obtain ⟨c, d⟩ := q
  simp only [frD, PyData.tuple.injEq, List.cons.injEq, PyData.int.injEq, and_true] at h
  rw [h.1, h.2]
theorem gmD_inj {p q : List Int × List Int} (h : gmD p = gmD q) : p = q := by
  obtain ⟨a, b⟩ := p
  obtain ⟨c, d⟩ := q
  simp only [gmD, PyData.tuple.injEq, List.cons.injEq, and_true] at h
  rw [dIs_inj h.1, dIs_inj h.2]
theorem eqv_dec {n m : Nat} {a b : PyData} {p : Prop} [Decidable p] (ha : pl n a = true) (hb : pl m b = true) (h : a = b ↔ p) : PyData.eqv a b = decide p := by
  have := eqv_pl n m a b ha hb
  by_cases q : p
  · rw [decide_eq_true q]
    exact this.mpr (h.mpr q)
  · rw [decide_eq_false q]
    exact Bool.eq_false_iff.mpr fun z => q (h.mp (this.mp z))
theorem eqv_dIs (a b : List Int) : PyData.eqv (dIs a) (dIs b) = decide (a = b) := eqv_dec (pl_dIs a) (pl_dIs b) ⟨dIs_inj, fun h => by rw [h]⟩
theorem eqv_frD (a b : Int × Int) : PyData.eqv (frD a) (frD b) = decide (a = b) := eqv_dec (pl_frD a) (pl_frD b) ⟨frD_inj, fun h => by rw [h]⟩
theorem eqv_gmD (a b : List Int × List Int) : PyData.eqv (gmD a) (gmD b) = decide (a = b) := eqv_dec (pl_gmD a) (pl_gmD b) ⟨gmD_inj, fun h => by rw [h]⟩
abbrev Gm := List Int × List Int
/-- a hall; limits of it -/
structure Hall.Ok (h : Hall) : Prop where
  s1 : 1 ≤ h.s
  s6 : h.s ≤ 6
  n1 : 1 ≤ h.fs.length
  n4 : h.fs.length ≤ 4
  fr : ∀ f ∈ h.fs, 1 ≤ f ∧ f ≤ 99
  asc : ∀ p ∈ h.fs.zip (h.fs.drop 1), p.1 < p.2
/-- a state of the game -/
structure GmOk (h : Hall) (g : Gm) : Prop where
  l1 : g.1.length = h.fs.length
  l2 : g.2.length = h.fs.length
  p1 : ∀ c ∈ g.1, 0 ≤ c
  p2 : ∀ c ∈ g.2, 0 ≤ c
  s1 : g.1.sum ≤ h.s
  s2 : g.2.sum ≤ h.s
structure LimOk (h : Hall) (ls : List Int) : Prop where
  len : ls.length = h.fs.length
  rg : ∀ l ∈ ls, 0 ≤ l ∧ l ≤ h.s
  mono : ∀ p ∈ ls.zip (ls.drop 1), p.1 ≤ p.2
def wo (fs cs : List Int) : Int := ((fs.zip cs).map fun p => p.1 * p.2).sum
def zeros (n : Nat) : List Int := List.replicate n 0
def more (cs : List Int) (n : Nat) (m : Int) : List Int := cs.set n (cs.getD n 0 + m)
def cheap (cs : List Int) : Nat := cs.findIdx fun c => decide (0 < c)
def seenW (s : Int) (seen : List Int) (k : Nat) : List Int := if (more seen k 1).sum ≤ s then more seen k 1 else more (more seen k 1) (cheap (more seen k 1)) (-1)
def frac (a b : Int) : Int × Int := if b = 0 then (1, 1) else (a / (Int.gcd a b : Int), b / (Int.gcd a b : Int))
def isW (rg : Bool) (a b : Int × Int) : Bool := if rg then decide (0 < a.1 * b.2 - b.1 * a.2) else decide (a.1 * b.2 - b.1 * a.2 < 0)
def worseF (rg : Bool) (x : Int × Int) (xs : List (Int × Int)) : Int × Int := xs.foldl (fun f o => if isW rg o f then o else f) x
def betterF (rg : Bool) (x : Int × Int) (xs : List (Int × Int)) : Int × Int := xs.foldl (fun f o => if isW rg f o then o else f) x
def worthOf (rg : Bool) (sold seen : Int) : Int × Int := if rg then (seen - sold, 1) else frac sold seen
def worthIf (h : Hall) (rg : Bool) (g : Gm) : Int × Int := worthOf rg (wo h.fs g.1) (wo h.fs g.2)
/-- what lies behind a call of fare k, with the choice (true: yes) -/
def behL (h : Hall) (g : Gm) (k : Nat) : List (Bool × Gm) := (false, (g.1, seenW h.s g.2 k)) :: if g.1.sum < h.s then [(true, (more g.1 k 1, seenW h.s g.2 k))] else []
def laters (h : Hall) (g : Gm) (k : Nat) : List Gm := (behL h g k).map (·.2)
def behD (p : Bool × Gm) : PyData := .tuple [.str (if p.1 then "yes" else "no"), gmD p.2]
def turnsOf (h : Hall) (g : Gm) : List (Nat × List Gm) := ((List.range h.fs.length).map fun k => (k, laters h g k)).filter fun p => !decide (g ∈ p.2)
def turnsD (ts : List (Nat × List Gm)) : PyData := .list (ts.map fun p => .tuple [.int (p.1 : Int), .list (p.2.map gmD)])
def rankD (h : Hall) (g : Gm) : PyData := .tuple [.int g.2.sum, .int (wo h.fs g.2), .int g.1.sum, .int (-1)]
def plainD (rg : Bool) (p : Int × Int) : PyData := if rg then .int p.1 else frD p
def lims (s lo : Int) : List Int := (List.range (s + 1 - lo).toNat).map fun (i : Nat) => lo + (i : Int)
def allL (s : Int) : Nat → List (List Int)
  | 0 => [[]]
  | n + 1 => (allL s n).flatMap fun row => (lims s (row.getLastD 0)).map fun l => row ++ [l]
def parts (ls : List Int) : List Int := ls.zipIdx.map fun p => p.1 - if 0 < p.2 then ls.getD (p.2 - 1) 0 else 0
def worthTo (h : Hall) (rg : Bool) (ls : List Int) (k : Nat) : Int × Int := worthOf rg ((((parts ls).take (k + 1)).zip h.fs).map fun p => p.1 * p.2).sum (h.s * h.fs.getD k 0)
def first (rg : Bool) : Int × Int := if rg then (0, 1) else (1, 1)
def worstL (h : Hall) (rg : Bool) (ls : List Int) : Int × Int := worseF rg (first rg) ((List.range ls.length).map (worthTo h rg ls))
def bestW (h : Hall) (rg : Bool) : Int × Int := match (allL h.s h.fs.length).map (worstL h rg) with
  | [] => (0, 0)
  | x :: xs => betterF rg x xs
def unlike (a b : List Int) : Nat := ((List.range a.length).filter fun k => !decide (b.getD k 0 = a.getD k 0)).length
def betterN (h : Hall) (rg : Bool) (ls : List Int) : Option (List Int) := (allL h.s h.fs.length).find? fun o => decide (unlike ls o = 1) && isW rg (worstL h rg ls) (worstL h rg o)
def optD : Option (List Int) → PyData
  | none => .none
  | some l => dIs l
end Bl

set_option Elab.async false
set_option linter.all false
set_option autoImplicit false
set_option maxRecDepth 100000
set_option maxHeartbeats 2000000
namespace Bl
open PySem PySem.Spec PyProof.Rows L2
abbrev N_is_whole : List Str := ["value", "least", "most"]
abbrev P_is_whole : List Str := ["value", "least", "most"]
theorem sc_is_whole : FnScope N_is_whole P_is_whole (defScope s_is_whole) := ⟨rfl, rfl, rfl, by decide +kernel, rfl, by decide +kernel, by decide +kernel⟩
abbrev N_need_hall : List Str := ["hall", "fare", "one", "other"]
abbrev P_need_hall : List Str := ["hall"]
theorem sc_need_hall : FnScope N_need_hall P_need_hall (defScope s_need_hall) := ⟨rfl, rfl, rfl, by decide +kernel, rfl, by decide +kernel, by decide +kernel⟩
abbrev N_are_limits : List Str := ["hall", "value", "limit"]
abbrev P_are_limits : List Str := ["hall", "value"]
theorem sc_are_limits : FnScope N_are_limits P_are_limits (defScope s_are_limits) := ⟨rfl, rfl, rfl, by decide +kernel, rfl, by decide +kernel, by decide +kernel⟩
abbrev N_is_plain : List Str := ["hall", "value", "one", "other"]
abbrev P_is_plain : List Str := ["hall", "value"]
theorem sc_is_plain : FnScope N_is_plain P_is_plain (defScope s_is_plain) := ⟨rfl, rfl, rfl, by decide +kernel, rfl, by decide +kernel, by decide +kernel⟩
abbrev N_is_word : List Str := ["hall", "value", "is_outside"]
abbrev P_is_word : List Str := ["hall", "value", "is_outside"]
theorem sc_is_word : FnScope N_is_word P_is_word (defScope s_is_word) := ⟨rfl, rfl, rfl, by decide +kernel, rfl, by decide +kernel, by decide +kernel⟩
abbrev N_parts_of : List Str := ["rule"]
abbrev P_parts_of : List Str := ["rule"]
theorem sc_parts_of : FnScope N_parts_of P_parts_of (defScope s_parts_of) := ⟨rfl, rfl, rfl, by decide +kernel, rfl, by decide +kernel, by decide +kernel⟩
abbrev N_need_rule : List Str := ["hall", "rule", "waiting", "many", "here", "path", "spot"]
abbrev P_need_rule : List Str := ["hall", "rule"]
theorem sc_need_rule : FnScope N_need_rule P_need_rule (defScope s_need_rule) := ⟨rfl, rfl, rfl, by decide +kernel, rfl, by decide +kernel, by decide +kernel⟩
abbrev N_need_kind : List Str := ["kind"]
abbrev P_need_kind : List Str := ["kind"]
theorem sc_need_kind : FnScope N_need_kind P_need_kind (defScope s_need_kind) := ⟨rfl, rfl, rfl, by decide +kernel, rfl, by decide +kernel, by decide +kernel⟩
abbrev N_none_of : List Str := ["hall"]
abbrev P_none_of : List Str := ["hall"]
theorem sc_none_of : FnScope N_none_of P_none_of (defScope s_none_of) := ⟨rfl, rfl, rfl, by decide +kernel, rfl, by decide +kernel, by decide +kernel⟩
abbrev N_with_more : List Str := ["counts", "number", "more"]
abbrev P_with_more : List Str := ["counts", "number", "more"]
theorem sc_with_more : FnScope N_with_more P_with_more (defScope s_with_more) := ⟨rfl, rfl, rfl, by decide +kernel, rfl, by decide +kernel, by decide +kernel⟩
abbrev N_cheapest_sold : List Str := ["sold", "some", "number", "many"]
abbrev P_cheapest_sold : List Str := ["sold"]
theorem sc_cheapest_sold : FnScope N_cheapest_sold P_cheapest_sold (defScope s_cheapest_sold) := ⟨rfl, rfl, rfl, by decide +kernel, rfl, by decide +kernel, by decide +kernel⟩
abbrev N_seen_with : List Str := ["hall", "seen", "fare", "more"]
abbrev P_seen_with : List Str := ["hall", "seen", "fare"]
theorem sc_seen_with : FnScope N_seen_with P_seen_with (defScope s_seen_with) := ⟨rfl, rfl, rfl, by decide +kernel, rfl, by decide +kernel, by decide +kernel⟩
abbrev N_worth_of : List Str := ["hall", "counts", "fare", "many"]
abbrev P_worth_of : List Str := ["hall", "counts"]
theorem sc_worth_of : FnScope N_worth_of P_worth_of (defScope s_worth_of) := ⟨rfl, rfl, rfl, by decide +kernel, rfl, by decide +kernel, by decide +kernel⟩
abbrev N_common : List Str := ["one", "other"]
abbrev P_common : List Str := ["one", "other"]
theorem sc_common : FnScope N_common P_common (defScope s_common) := ⟨rfl, rfl, rfl, by decide +kernel, rfl, by decide +kernel, by decide +kernel⟩
abbrev N_fraction : List Str := ["one", "other", "divisor"]
abbrev P_fraction : List Str := ["one", "other"]
theorem sc_fraction : FnScope N_fraction P_fraction (defScope s_fraction) := ⟨rfl, rfl, rfl, by decide +kernel, rfl, by decide +kernel, by decide +kernel⟩
abbrev N_need_what : List Str := ["what"]
abbrev P_need_what : List Str := ["what"]
theorem sc_need_what : FnScope N_need_what P_need_what (defScope s_need_what) := ⟨rfl, rfl, rfl, by decide +kernel, rfl, by decide +kernel, by decide +kernel⟩
abbrev N_need_game : List Str := ["hall", "kind", "what"]
abbrev P_need_game : List Str := ["hall", "kind", "what"]
theorem sc_need_game : FnScope N_need_game P_need_game (defScope s_need_game) := ⟨rfl, rfl, rfl, by decide +kernel, rfl, by decide +kernel, by decide +kernel⟩
abbrev N_first_game : List Str := ["hall"]
abbrev P_first_game : List Str := ["hall"]
theorem sc_first_game : FnScope N_first_game P_first_game (defScope s_first_game) := ⟨rfl, rfl, rfl, by decide +kernel, rfl, by decide +kernel, by decide +kernel⟩
abbrev N_fares_in : List Str := ["hall", "kind", "game"]
abbrev P_fares_in : List Str := ["hall", "kind", "game"]
theorem sc_fares_in : FnScope N_fares_in P_fares_in (defScope s_fares_in) := ⟨rfl, rfl, rfl, by decide +kernel, rfl, by decide +kernel, by decide +kernel⟩
abbrev N_behind_no : List Str := ["hall", "kind", "game", "fare"]
abbrev P_behind_no : List Str := ["hall", "kind", "game", "fare"]
theorem sc_behind_no : FnScope N_behind_no P_behind_no (defScope s_behind_no) := ⟨rfl, rfl, rfl, by decide +kernel, rfl, by decide +kernel, by decide +kernel⟩
abbrev N_behind_all : List Str := ["hall", "kind", "game", "fare", "later", "found"]
abbrev P_behind_all : List Str := ["hall", "kind", "game", "fare"]
theorem sc_behind_all : FnScope N_behind_all P_behind_all (defScope s_behind_all) := ⟨rfl, rfl, rfl, by decide +kernel, rfl, by decide +kernel, by decide +kernel⟩
abbrev N_worth_if : List Str := ["hall", "what", "game", "sold", "seen"]
abbrev P_worth_if : List Str := ["hall", "what", "game"]
theorem sc_worth_if : FnScope N_worth_if P_worth_if (defScope s_worth_if) := ⟨rfl, rfl, rfl, by decide +kernel, rfl, by decide +kernel, by decide +kernel⟩
abbrev N_is_worse : List Str := ["what", "one", "other", "lead"]
abbrev P_is_worse : List Str := ["what", "one", "other"]
theorem sc_is_worse : FnScope N_is_worse P_is_worse (defScope s_is_worse) := ⟨rfl, rfl, rfl, by decide +kernel, rfl, by decide +kernel, by decide +kernel⟩
abbrev N_worse : List Str := ["what", "some", "found", "one"]
abbrev P_worse : List Str := ["what", "some"]
theorem sc_worse : FnScope N_worse P_worse (defScope s_worse) := ⟨rfl, rfl, rfl, by decide +kernel, rfl, by decide +kernel, by decide +kernel⟩
abbrev N_better : List Str := ["what", "some", "found", "one"]
abbrev P_better : List Str := ["what", "some"]
theorem sc_better : FnScope N_better P_better (defScope s_better) := ⟨rfl, rfl, rfl, by decide +kernel, rfl, by decide +kernel, by decide +kernel⟩
abbrev N_rank_of : List Str := ["hall", "game"]
abbrev P_rank_of : List Str := ["hall", "game"]
theorem sc_rank_of : FnScope N_rank_of P_rank_of (defScope s_rank_of) := ⟨rfl, rfl, rfl, by decide +kernel, rfl, by decide +kernel, by decide +kernel⟩
abbrev N_turns_of : List Str := ["hall", "kind", "game", "found", "fare", "laters", "choice", "later"]
abbrev P_turns_of : List Str := ["hall", "kind", "game"]
theorem sc_turns_of : FnScope N_turns_of P_turns_of (defScope s_turns_of) := ⟨rfl, rfl, rfl, by decide +kernel, rfl, by decide +kernel, by decide +kernel⟩
abbrev N_game_net : List Str := ["hall", "kind", "begin", "found", "waiting", "game", "fare", "choice", "later"]
abbrev P_game_net : List Str := ["hall", "kind", "begin"]
theorem sc_game_net : FnScope N_game_net P_game_net (defScope s_game_net) := ⟨rfl, rfl, rfl, by decide +kernel, rfl, by decide +kernel, by decide +kernel⟩
abbrev N_worths_of : List Str := ["hall", "what", "net", "found", "game", "one", "some", "later", "fare", "laters"]
abbrev P_worths_of : List Str := ["hall", "what", "net"]
theorem sc_worths_of : FnScope N_worths_of P_worths_of (defScope s_worths_of) := ⟨rfl, rfl, rfl, by decide +kernel, rfl, by decide +kernel, by decide +kernel⟩
abbrev N_plain : List Str := ["what", "worth"]
abbrev P_plain : List Str := ["what", "worth"]
theorem sc_plain : FnScope N_plain P_plain (defScope s_plain) := ⟨rfl, rfl, rfl, by decide +kernel, rfl, by decide +kernel, by decide +kernel⟩
abbrev N_kept_worth : List Str := ["hall", "kind", "what", "begin"]
abbrev P_kept_worth : List Str := ["hall", "kind", "what"]
theorem sc_kept_worth : FnScope N_kept_worth P_kept_worth (defScope s_kept_worth) := ⟨rfl, rfl, rfl, by decide +kernel, rfl, by decide +kernel, by decide +kernel⟩
abbrev N_least_regret : List Str := ["hall", "kind"]
abbrev P_least_regret : List Str := ["hall", "kind"]
theorem sc_least_regret : FnScope N_least_regret P_least_regret (defScope s_least_regret) := ⟨rfl, rfl, rfl, by decide +kernel, rfl, by decide +kernel, by decide +kernel⟩
abbrev N_greatest_share : List Str := ["hall", "kind"]
abbrev P_greatest_share : List Str := ["hall", "kind"]
theorem sc_greatest_share : FnScope N_greatest_share P_greatest_share (defScope s_greatest_share) := ⟨rfl, rfl, rfl, by decide +kernel, rfl, by decide +kernel, by decide +kernel⟩
abbrev N_all_limits : List Str := ["hall", "rows", "fare", "row", "limit"]
abbrev P_all_limits : List Str := ["hall"]
theorem sc_all_limits : FnScope N_all_limits P_all_limits (defScope s_all_limits) := ⟨rfl, rfl, rfl, by decide +kernel, rfl, by decide +kernel, by decide +kernel⟩
abbrev N_parts_sold : List Str := ["limits", "number", "limit"]
abbrev P_parts_sold : List Str := ["limits"]
theorem sc_parts_sold : FnScope N_parts_sold P_parts_sold (defScope s_parts_sold) := ⟨rfl, rfl, rfl, by decide +kernel, rfl, by decide +kernel, by decide +kernel⟩
abbrev N_worth_to : List Str := ["hall", "what", "limits", "last", "sold", "many", "fare", "seen"]
abbrev P_worth_to : List Str := ["hall", "what", "limits", "last"]
theorem sc_worth_to : FnScope N_worth_to P_worth_to (defScope s_worth_to) := ⟨rfl, rfl, rfl, by decide +kernel, rfl, by decide +kernel, by decide +kernel⟩
abbrev N_worst_limits : List Str := ["hall", "what", "limits", "first", "last"]
abbrev P_worst_limits : List Str := ["hall", "what", "limits"]
theorem sc_worst_limits : FnScope N_worst_limits P_worst_limits (defScope s_worst_limits) := ⟨rfl, rfl, rfl, by decide +kernel, rfl, by decide +kernel, by decide +kernel⟩
abbrev N_need_limits : List Str := ["hall", "what", "limits"]
abbrev P_need_limits : List Str := ["hall", "what", "limits"]
theorem sc_need_limits : FnScope N_need_limits P_need_limits (defScope s_need_limits) := ⟨rfl, rfl, rfl, by decide +kernel, rfl, by decide +kernel, by decide +kernel⟩
abbrev N_worst_nested : List Str := ["hall", "what", "limits"]
abbrev P_worst_nested : List Str := ["hall", "what", "limits"]
theorem sc_worst_nested : FnScope N_worst_nested P_worst_nested (defScope s_worst_nested) := ⟨rfl, rfl, rfl, by decide +kernel, rfl, by decide +kernel, by decide +kernel⟩
abbrev N_best_worth : List Str := ["hall", "what", "limits"]
abbrev P_best_worth : List Str := ["hall", "what"]
theorem sc_best_worth : FnScope N_best_worth P_best_worth (defScope s_best_worth) := ⟨rfl, rfl, rfl, by decide +kernel, rfl, by decide +kernel, by decide +kernel⟩
abbrev N_best_nested : List Str := ["hall", "what", "goal", "limits"]
abbrev P_best_nested : List Str := ["hall", "what"]
theorem sc_best_nested : FnScope N_best_nested P_best_nested (defScope s_best_nested) := ⟨rfl, rfl, rfl, by decide +kernel, rfl, by decide +kernel, by decide +kernel⟩
abbrev N_nested_worth : List Str := ["hall", "what"]
abbrev P_nested_worth : List Str := ["hall", "what"]
theorem sc_nested_worth : FnScope N_nested_worth P_nested_worth (defScope s_nested_worth) := ⟨rfl, rfl, rfl, by decide +kernel, rfl, by decide +kernel, by decide +kernel⟩
abbrev N_worst_fares : List Str := ["hall", "what", "limits", "goal", "last"]
abbrev P_worst_fares : List Str := ["hall", "what", "limits"]
theorem sc_worst_fares : FnScope N_worst_fares P_worst_fares (defScope s_worst_fares) := ⟨rfl, rfl, rfl, by decide +kernel, rfl, by decide +kernel, by decide +kernel⟩
abbrev N_better_nested : List Str := ["hall", "what", "limits", "own", "other", "unlike", "number", "limit"]
abbrev P_better_nested : List Str := ["hall", "what", "limits"]
theorem sc_better_nested : FnScope N_better_nested P_better_nested (defScope s_better_nested) := ⟨rfl, rfl, rfl, by decide +kernel, rfl, by decide +kernel, by decide +kernel⟩
abbrev N__law_mixed : List Str := ["_law_cell", "_law_n", "_law_blend"]
abbrev P__law_mixed : List Str := ["_law_cell", "_law_n"]
theorem sc__law_mixed : FnScope N__law_mixed P__law_mixed (defScope s__law_mixed) := ⟨rfl, rfl, rfl, by decide +kernel, rfl, by decide +kernel, by decide +kernel⟩
abbrev N__law_folded : List Str := ["_law_script", "_law_found", "_law_n", "_law_cell"]
abbrev P__law_folded : List Str := ["_law_script"]
theorem sc__law_folded : FnScope N__law_folded P__law_folded (defScope s__law_folded) := ⟨rfl, rfl, rfl, by decide +kernel, rfl, by decide +kernel, by decide +kernel⟩
abbrev N__law_draw : List Str := ["_law_m", "_law_limit", "_law_n", "_law_lot", "_law_here", "_law_cell"]
abbrev P__law_draw : List Str := ["_law_m", "_law_limit"]
theorem sc__law_draw : FnScope N__law_draw P__law_draw (defScope s__law_draw) := ⟨rfl, rfl, rfl, by decide +kernel, rfl, by decide +kernel, by decide +kernel⟩
abbrev N__law_begun : List Str := ["_law_script", "_law_m", "_law_cell"]
abbrev P__law_begun : List Str := ["_law_script"]
theorem sc__law_begun : FnScope N__law_begun P__law_begun (defScope s__law_begun) := ⟨rfl, rfl, rfl, by decide +kernel, rfl, by decide +kernel, by decide +kernel⟩
abbrev N__law_like : List Str := ["_law_heard", "_law_due"]
abbrev P__law_like : List Str := ["_law_heard", "_law_due"]
theorem sc__law_like : FnScope N__law_like P__law_like (defScope s__law_like) := ⟨rfl, rfl, rfl, by decide +kernel, rfl, by decide +kernel, by decide +kernel⟩
abbrev N__law_of : List Str := ["_law_m", "_law_some"]
abbrev P__law_of : List Str := ["_law_m", "_law_some"]
theorem sc__law_of : FnScope N__law_of P__law_of (defScope s__law_of) := ⟨rfl, rfl, rfl, by decide +kernel, rfl, by decide +kernel, by decide +kernel⟩
abbrev N__law_yard : List Str := ["_law_m", "_law_most", "_law_many", "_law_fares", "_law_last", "_law_k"]
abbrev P__law_yard : List Str := ["_law_m", "_law_most", "_law_many"]
theorem sc__law_yard : FnScope N__law_yard P__law_yard (defScope s__law_yard) := ⟨rfl, rfl, rfl, by decide +kernel, rfl, by decide +kernel, by decide +kernel⟩
abbrev N__law_lets : List Str := ["_law_yard_here", "_law_book", "_law_sold", "_law_call_so", "_law_more", "_law_k", "_law_over"]
abbrev P__law_lets : List Str := ["_law_yard_here", "_law_book", "_law_sold", "_law_call_so"]
theorem sc__law_lets : FnScope N__law_lets P__law_lets (defScope s__law_lets) := ⟨rfl, rfl, rfl, by decide +kernel, rfl, by decide +kernel, by decide +kernel⟩
abbrev N__law_step : List Str := ["_law_yard_here", "_law_book", "_law_sold", "_law_spent", "_law_call_so", "_law_many", "_law_less", "_law_k"]
abbrev P__law_step : List Str := ["_law_yard_here", "_law_book", "_law_sold", "_law_spent", "_law_call_so"]
theorem sc__law_step : FnScope N__law_step P__law_step (defScope s__law_step) := ⟨rfl, rfl, rfl, by decide +kernel, rfl, by decide +kernel, by decide +kernel⟩
abbrev N__law_dearest : List Str := ["_law_yard_here", "_law_some", "_law_best", "_law_one", "_law_k"]
abbrev P__law_dearest : List Str := ["_law_yard_here", "_law_some"]
theorem sc__law_dearest : FnScope N__law_dearest P__law_dearest (defScope s__law_dearest) := ⟨rfl, rfl, rfl, by decide +kernel, rfl, by decide +kernel, by decide +kernel⟩
abbrev N__law_sum : List Str := ["_law_yard_here", "_law_many", "_law_k"]
abbrev P__law_sum : List Str := ["_law_yard_here", "_law_many"]
theorem sc__law_sum : FnScope N__law_sum P__law_sum (defScope s__law_sum) := ⟨rfl, rfl, rfl, by decide +kernel, rfl, by decide +kernel, by decide +kernel⟩
abbrev N__law_lowest : List Str := ["_law_one", "_law_other", "_law_some", "_law_k"]
abbrev P__law_lowest : List Str := ["_law_one", "_law_other"]
theorem sc__law_lowest : FnScope N__law_lowest P__law_lowest (defScope s__law_lowest) := ⟨rfl, rfl, rfl, by decide +kernel, rfl, by decide +kernel, by decide +kernel⟩
abbrev N__law_seen_more : List Str := ["_law_yard_here", "_law_many", "_law_one", "_law_some", "_law_k"]
abbrev P__law_seen_more : List Str := ["_law_yard_here", "_law_many", "_law_one"]
theorem sc__law_seen_more : FnScope N__law_seen_more P__law_seen_more (defScope s__law_seen_more) := ⟨rfl, rfl, rfl, by decide +kernel, rfl, by decide +kernel, by decide +kernel⟩
abbrev N__law_may : List Str := ["_law_yard_here", "_law_sort", "_law_last"]
abbrev P__law_may : List Str := ["_law_yard_here", "_law_sort", "_law_last"]
theorem sc__law_may : FnScope N__law_may P__law_may (defScope s__law_may) := ⟨rfl, rfl, rfl, by decide +kernel, rfl, by decide +kernel, by decide +kernel⟩
abbrev N__law_worth_if : List Str := ["_law_yard_here", "_law_word", "_law_spot", "_law_gain", "_law_most"]
abbrev P__law_worth_if : List Str := ["_law_yard_here", "_law_word", "_law_spot"]
theorem sc__law_worth_if : FnScope N__law_worth_if P__law_worth_if (defScope s__law_worth_if) := ⟨rfl, rfl, rfl, by decide +kernel, rfl, by decide +kernel, by decide +kernel⟩
abbrev N__law_is_worse : List Str := ["_law_word", "_law_one", "_law_other", "_law_lead"]
abbrev P__law_is_worse : List Str := ["_law_word", "_law_one", "_law_other"]
theorem sc__law_is_worse : FnScope N__law_is_worse P__law_is_worse (defScope s__law_is_worse) := ⟨rfl, rfl, rfl, by decide +kernel, rfl, by decide +kernel, by decide +kernel⟩
abbrev N__law_top : List Str := ["_law_word", "_law_some", "_law_is_worst", "_law_found", "_law_one"]
abbrev P__law_top : List Str := ["_law_word", "_law_some", "_law_is_worst"]
theorem sc__law_top : FnScope N__law_top P__law_top (defScope s__law_top) := ⟨rfl, rfl, rfl, by decide +kernel, rfl, by decide +kernel, by decide +kernel⟩
abbrev N__law_plain : List Str := ["_law_word", "_law_worth"]
abbrev P__law_plain : List Str := ["_law_word", "_law_worth"]
theorem sc__law_plain : FnScope N__law_plain P__law_plain (defScope s__law_plain) := ⟨rfl, rfl, rfl, by decide +kernel, rfl, by decide +kernel, by decide +kernel⟩
abbrev N__law_told : List Str := ["_law_call", "_law_found", "_law_caught", "error", "_law_heard"]
abbrev P__law_told : List Str := ["_law_call"]
theorem sc__law_told : FnScope N__law_told P__law_told (defScope s__law_told) := ⟨rfl, rfl, rfl, by decide +kernel, rfl, by decide +kernel, by decide +kernel⟩
abbrev N__law_limits_of : List Str := ["_law_yard_here", "_law_rows", "_law_one", "_law_longer", "_law_row", "_law_k"]
abbrev P__law_limits_of : List Str := ["_law_yard_here"]
theorem sc__law_limits_of : FnScope N__law_limits_of P__law_limits_of (defScope s__law_limits_of) := ⟨rfl, rfl, rfl, by decide +kernel, rfl, by decide +kernel, by decide +kernel⟩
abbrev N__law_all_worst : List Str := ["_law_yard_here", "_law_sort", "_law_word", "_law_limits", "_law_most", "_law_none", "_law_known", "_law_waiting", "_law_found", "_law_sold", "_law_best", "_law_last", "_law_one", "_law_fresh", "_law_later"]
abbrev P__law_all_worst : List Str := ["_law_yard_here", "_law_sort", "_law_word", "_law_limits", "_law_most"]
theorem sc__law_all_worst : FnScope N__law_all_worst P__law_all_worst (defScope s__law_all_worst) := ⟨rfl, rfl, rfl, by decide +kernel, rfl, by decide +kernel, by decide +kernel⟩
abbrev N__law_up_to : List Str := ["_law_yard_here", "_law_word", "_law_limits", "_law_last", "_law_sold", "_law_gain", "_law_k", "_law_more", "_law_most"]
abbrev P__law_up_to : List Str := ["_law_yard_here", "_law_word", "_law_limits", "_law_last"]
theorem sc__law_up_to : FnScope N__law_up_to P__law_up_to (defScope s__law_up_to) := ⟨rfl, rfl, rfl, by decide +kernel, rfl, by decide +kernel, by decide +kernel⟩
abbrev N__law_worst : List Str := ["_law_yard_here", "_law_word", "_law_limits", "_law_some", "_law_k"]
abbrev P__law_worst : List Str := ["_law_yard_here", "_law_word", "_law_limits"]
theorem sc__law_worst : FnScope N__law_worst P__law_worst (defScope s__law_worst) := ⟨rfl, rfl, rfl, by decide +kernel, rfl, by decide +kernel, by decide +kernel⟩
abbrev N__law_best_right : List Str := ["_law_yard_here", "_law_word", "_law_rows", "_law_worths", "_law_row", "_law_best", "_law_due", "_law_k", "_law_twice"]
abbrev P__law_best_right : List Str := ["_law_yard_here", "_law_word"]
theorem sc__law_best_right : FnScope N__law_best_right P__law_best_right (defScope s__law_best_right) := ⟨rfl, rfl, rfl, by decide +kernel, rfl, by decide +kernel, by decide +kernel⟩
abbrev N__law_one_right : List Str := ["_law_yard_here", "_law_word", "_law_limits", "_law_own", "_law_some", "_law_row", "_law_unlike", "_law_k", "_law_due", "_law_twice", "_law_told_here"]
abbrev P__law_one_right : List Str := ["_law_yard_here", "_law_word", "_law_limits"]
theorem sc__law_one_right : FnScope N__law_one_right P__law_one_right (defScope s__law_one_right) := ⟨rfl, rfl, rfl, by decide +kernel, rfl, by decide +kernel, by decide +kernel⟩
abbrev N_law : List Str := ["_law_script", "_law_m", "_law_turn", "_law_yard_here", "_law_word", "_law_limits", "_law_sort", "_law_worst_here", "_law_goal", "_law_best", "_law_great", "_law_heard", "_law_told_here"]
abbrev P_law : List Str := ["_law_script"]
theorem sc_law : FnScope N_law P_law (defScope s_law) := ⟨rfl, rfl, rfl, by decide +kernel, rfl, by decide +kernel, by decide +kernel⟩
/-- what the module's names stand for -/
structure Md (mg : Str → Option Value) : Prop where
  z_int : mg "int" = none
  z_str : mg "str" = none
  z_bool : mg "bool" = none
  z_tuple : mg "tuple" = none
  z_list : mg "list" = none
  z_isinstance : mg "isinstance" = none
  z_len : mg "len" = none
  z_all : mg "all" = none
  z_zip : mg "zip" = none
  z_enumerate : mg "enumerate" = none
  z_sum : mg "sum" = none
  z_range : mg "range" = none
  z_max : mg "max" = none
  z_sorted : mg "sorted" = none
  z_repr : mg "repr" = none
  c_MOST_SEATS : ∃ t, mg "MOST_SEATS" = some (.int 6 t)
  c_MOST_FARES : ∃ t, mg "MOST_FARES" = some (.int 4 t)
  c_MOST_FARE : ∃ t, mg "MOST_FARE" = some (.int 99 t)
  c_MOST_FEE : ∃ t, mg "MOST_FEE" = some (.int 99 t)
  c_MOST_WORDS : ∃ t, mg "MOST_WORDS" = some (.int 7 t)
  c_MOST_DEEP : ∃ t, mg "MOST_DEEP" = some (.int 3 t)
  c_APART : ∃ t, mg "APART" = some (.str "apart" t)
  c_NESTED : ∃ t, mg "NESTED" = some (.str "nested" t)
  c_KEPT : ∃ t, mg "KEPT" = some (.str "kept" t)
  c_ALL : ∃ t, mg "ALL" = some (.str "all" t)
  c_ANY : ∃ t, mg "ANY" = some (.str "any" t)
  c_OUST : ∃ t, mg "OUST" = some (.str "oust" t)
  c_RISING : ∃ t, mg "RISING" = some (.str "rising" t)
  c_MOST_GAME : ∃ t, mg "MOST_GAME" = some (.int 20000 t)
  c_REGRET : ∃ t, mg "REGRET" = some (.str "regret" t)
  c_SHARE : ∃ t, mg "SHARE" = some (.str "share" t)
  c_YES : ∃ t, mg "YES" = some (.str "yes" t)
  c_NO : ∃ t, mg "NO" = some (.str "no" t)
end Bl

set_option Elab.async false
set_option linter.all false
set_option autoImplicit false
set_option maxRecDepth 100000
set_option maxHeartbeats 4000000
namespace Bl
open PySem PySem.Spec PyProof.Rows L2 LamX StX
section
variable {X : Cx} {σ : L2.St} {B H H1 : Hp} {e a b : Expr} {d : PyData} {pos : Pos}
theorem qk {Q : VK} (q : ∀ v H', Ex H H' → Rp (Nw B H) H' v d → Q v H') (k1 : Ex H H1) : ∀ v H', Ex H1 H' → Rp (Nw B H1) H' v d → Q v H' := fun v H' kk r => q v H' (k1.trans kk) (r.mono (fun _ => nw_back k1) (Ex.refl _))
theorem evp_s {i : Int} (h : Ev X σ B e (.int i)) : EvP X σ B (some e) (some i) := h
theorem evp_n : EvP X σ B none none := trivial
theorem ev_s {h : Hall} {p p2 : Pos} {j : Nat} (he : Ev X σ B e h.d) : Ev X σ B (.Subscript e (.Constant (.int 0) j p) p2) (.int h.s) := ev_ixT he ev_int rfl
theorem ev_fs {h : Hall} {p p2 : Pos} {j : Nat} (he : Ev X σ B e h.d) : Ev X σ B (.Subscript e (.Constant (.int 1) j p) p2) (dIs h.fs) := ev_ixT he ev_int rfl
theorem ev_len {l : List Int} {p : Pos} (hm : X.mg "len" = none) (ha : Ev X σ B a (dIs l)) (hg : Gl X "len" := by rfl) (he : starEach [a] X.env = (false, eval a X.env) :: starEach [] X.env := by rfl) : Ev X σ B (.Call (.Name "len" p) [a] [] pos) (.int (l.length : Int)) :=
  (ev_lenT hm ha hg he).cast (by rw [List.length_map])
theorem fresh_l {B H H' : Hp} {p : Addr} {xs : List V} (nm : ∀ a u, B a = some u → ¬ Mu u) (e : Ex B H') (z : Nw B H p) (h : H' p = some (.lst xs)) : H p = none := by
  rcases z with ⟨o, z⟩ | z
  · exact absurd (e.lst_back z h ▸ z) fun t => nm p _ (e.lst_back z h) trivial
  · exact z
/-- l[e], l ints -/
theorem ev_at {l : List Int} {n : Nat} {c : Int} (ha : Ev X σ B a (dIs l)) (hb : Ev X σ B b (.int (n : Int))) (hc : l[n]? = some c) (hs : PlainIx b := by exact fun _ _ => rfl) : Ev X σ B (.Subscript a b pos) (.int c) := ev_ixT ha hb (atI_nat (map_at _ hc)) hs
theorem ev_atL {l : List Int} {n : Nat} {c : Int} (ha : Ev X σ B a (.list (l.map .int))) (hb : Ev X σ B b (.int (n : Int))) (hc : l[n]? = some c) (hs : PlainIx b := by exact fun _ _ => rfl) : Ev X σ B (.Subscript a b pos) (.int c) := ev_ixL ha hb (atI_nat (map_at _ hc)) hs
end
section
variable {P : Program} {w : World} {K : PySem.W.Frag} {mg : Str → Option Value} {base : Heap}
inductive PreIsWhole : List PyData → PyData → Prop
  | mk (v l m : Int) : PreIsWhole [.int v, .int l, .int m] (.bool (decide (l ≤ v) && decide (v ≤ m)))
theorem ok_is_whole (M : Md mg) (D : FDef K mg "is_whole" s_is_whole) : Fn P w K mg base 1 "is_whole" 3 PreIsWhole := by
  refine fn_mkP D sc_is_whole (fun _ _ _ _ _ _ us hl => match us, hl with | [_, _, _], _ => rfl) rfl (fun _ _ h => by cases h; rfl) (fun _ _ h => by cases h; rfl) ?_
  intro X cdv A outer s f E B H vs Q ds d hX hr k nm r hp q
  cases hp with
  | mk v l m =>
    obtain ⟨x, y, z, rfl, r0, r1, r2⟩ := iss3 r
    subst hX
    refine run_ret (Ev.cast (ev_and3 (ev_isi (t := true) M.z_isinstance (ev_var 0 rfl r0) M.z_int bt_int k_ii) (fun _ => ev_not (ev_isi (t := false) M.z_isinstance (ev_var 0 rfl r0) M.z_bool bt_bool k_ib)) (fun _ => ev_lele (ev_var 1 rfl r1) (ev_var 0 rfl r0) (ev_var 2 rfl r2))) ?_) k q
    simp
theorem ev_allM {X : Cx} {σ : L2.St} {B : Hp} {a : Expr} {pos p : Pos} {α : Type} {xs : List α} {g : α → Bool} (hm : X.mg "all" = none) (ha : Ev X σ B a (.list (xs.map fun x => .bool (g x)))) (hc : X.calm = true := by rfl) (hg : Gl X "all" := by rfl) (he : starEach [a] X.env = (false, eval a X.env) :: starEach [] X.env := by rfl) :
    Ev X σ B (.Call (.Name "all" p) [a] [] pos) (.bool (xs.all g)) := (ev_all (bs := xs.map g) hm (ha.cast (by rw [List.map_map]; rfl)) hc hg he).cast (by rw [List.all_map]; rfl)
inductive PreNeedHall : List PyData → PyData → Prop
  | mk (h : Hall) : h.Ok → PreNeedHall [h.d] h.d
theorem zip_pairs (l : List Int) : zipD (l.map .int) ((l.drop 1).map .int) = (l.zip (l.drop 1)).map fun p => .tuple [.int p.1, .int p.2] := by
  unfold zipD
  rw [List.zip_map, List.map_map]
  rfl
theorem cut_1 (l : List Int) : cut (l.map PyData.int) (some 1) none = (l.drop 1).map .int := by
  rw [show (1 : Int) = ((1 : Nat) : Int) from rfl, cut_from, List.map_drop]
theorem ok_need_hall (M : Md mg) (D : FDef K mg "need_hall" s_need_hall) (F1 : Fn P w K mg base 1 "is_whole" 3 PreIsWhole) : Fn P w K mg base 2 "need_hall" 1 PreNeedHall := by
  refine fn_mkP D sc_need_hall (fun _ _ _ _ _ _ us hl => match us, hl with | [_], _ => rfl) rfl (fun _ _ h => by cases h; rfl) (fun _ _ h => by cases h with | mk h => simp only [nols, nol_hall, Bool.and_self]) ?_
  intro X cdv A outer s f E B H vs Q ds d hX hr k nm r hp q
  cases hp with
  | mk h o =>
    obtain ⟨x, rfl, r0⟩ := iss1 r
    subst hX
    have hN : N_need_hall.Nodup := by decide
    have n4 := o.n4
    have n1 := o.n1
    refine run_ifF (EvT.cast (evt_or2 (evt_not (evt_val (ev_isi (t := true) M.z_isinstance (ev_var 0 rfl r0) M.z_tuple bt_tuple k_tt))) fun _ => evt_neI (ev_lenT M.z_len (ev_var 0 rfl r0)) ev_int) rfl) k fun H1 k1 => ?_
    refine run_ifF (EvT.cast (evt_not (evt_val (ev_call F1 hr (.mk h.s 1 6) (eva_cons (ev_ixT (ev_var 0 rfl r0) ev_int rfl) (eva_cons ev_int (eva_cons (ev_gint M.c_MOST_SEATS) eva_nil)))))) (by simp [o.s1, o.s6])) (k.trans k1) fun H2 k2 => ?_
    refine run_ifF (EvT.cast (evt_or2 (evt_not (evt_val (ev_isi (t := true) M.z_isinstance (ev_fs (ev_var 0 rfl r0)) M.z_tuple bt_tuple k_tt))) fun _ => evt_not (evt_lele ev_int (ev_len M.z_len (ev_fs (ev_var 0 rfl r0))) (ev_gint M.c_MOST_FARES))) (by simp; omega)) (k.trans (k1.trans k2)) fun H3 k3 => ?_
    have k03 := k1.trans (k2.trans k3)
    refine run_ifF (EvT.cast (evt_not (evt_val (ev_allM (xs := h.fs) M.z_all (LcJ.ev (lcN (own := [("fare", 1)]) h.fs .int _ 1 hN (blkOk_by (N := N_need_hall) (sc := defScope s_need_hall) (by decide +kernel)) (evi_tup (ev_fs (ev_var 0 rfl r0)))
      (fun c hc v B3 kB iv s0 H0 C cl fp => ev_call F1 hr (.mk c 1 99) (eva_cons (ev_var 1 rfl iv) (eva_cons ev_int (eva_cons (ev_gint M.c_MOST_FARE) eva_nil)))) (sl_of (by omega))))))) (by simpa using fun c hc => o.fr c hc)) (k.trans k03) fun H4 k4 => ?_
    refine run_ifF (EvT.cast (evt_not (evt_val (ev_allM (xs := h.fs.zip (h.fs.drop 1)) M.z_all (LcJ.ev (lcP (own := [("one", 2), ("other", 3)]) (h.fs.zip (h.fs.drop 1)) (fun p => .int p.1) (fun p => .int p.2) _ 2 3 hN (blkOk_by (N := N_need_hall) (sc := defScope s_need_hall) (by decide +kernel)) ((evi_zipT M.z_zip (ev_fs (ev_var 0 rfl r0)) (ev_slT (ev_fs (ev_var 0 rfl r0)) (evp_s ev_int) evp_n)).cast (by rw [cut_1]; exact zip_pairs h.fs))
      (fun c hc u v B3 kB iu iv s0 H0 C cl fp => ev_lt (ev_var 2 rfl iu) (ev_var 3 rfl iv)) (sl_of (by simp; omega))))))) (by simpa using fun a b hc => o.asc (a, b) hc)) (k.trans (k03.trans k4)) fun H5 k5 => ?_
    have k05 := k03.trans (k4.trans k5)
    exact run_ret (ev_var 0 rfl r0) (k.trans k05) (qk q k05)
end
end Bl

set_option Elab.async false
set_option linter.all false
set_option autoImplicit false
set_option maxRecDepth 100000
set_option maxHeartbeats 4000000
namespace Bl
open PySem PySem.Spec PyProof.Rows L2 LamX StX
theorem LcJ.cast {X : Cx} {scope : Scope} {elt tg iter : Expr} {ifs : List Expr} {σ : L2.St} {B : Hp} {d d' : PyData} (h : LcJ X scope elt tg iter ifs σ B d) (e : d = d') : LcJ X scope elt tg iter ifs σ B d' := e ▸ h
theorem ev_inS {X : Cx} {σ : L2.St} {B : Hp} {a b : Expr} {pos : Pos} {x : Str} {ys : List Str} (ha : Ev X σ B a (.str x)) (hb : Ev X σ B b (.tuple (ys.map .str))) (hm : behindInMarks .In b = false := by rfl) : EvT X σ B (.Compare a [.In] [b] pos) (strsIn x ys) := evt_cmp op_in_seq (o2_inS false) ha hb hm
theorem ev_notInS {X : Cx} {σ : L2.St} {B : Hp} {a b : Expr} {pos : Pos} {x : Str} {ys : List Str} (ha : Ev X σ B a (.str x)) (hb : Ev X σ B b (.tuple (ys.map .str))) (hm : behindInMarks .NotIn b = false := by rfl) : EvT X σ B (.Compare a [.NotIn] [b] pos) (!strsIn x ys) := evt_cmp op_notIn_seq (o2_inS true) ha hb hm
section
variable {P : Program} {w : World} {K : PySem.W.Frag} {mg : Str → Option Value} {base : Heap}
/-! ### halls -/
inductive PreAreLimits : List PyData → PyData → Prop
  | mk (h : Hall) (ls : List Int) : h.Ok → LimOk h ls → PreAreLimits [h.d, dIs ls] (.bool true)
theorem ok_are_limits (M : Md mg) (D : FDef K mg "are_limits" s_are_limits) (F1 : Fn P w K mg base 1 "is_whole" 3 PreIsWhole) : Fn P w K mg base 2 "are_limits" 2 PreAreLimits := by
  refine fn_mkP D sc_are_limits (fun _ _ _ _ _ _ us hl => match us, hl with | [_, _], _ => rfl) rfl (fun _ _ h => by cases h; rfl) (fun _ _ h => by cases h with | mk h ls => simp only [nols, nol_hall, nol_dIs, Bool.and_self]) ?_
  intro X cdv A outer s f E B H vs Q ds d hX hr k nm r hp q
  cases hp with
  | mk h ls o l =>
    obtain ⟨x, y, rfl, r0, r1⟩ := iss2 r
    subst hX
    have n4 := o.n4
    have ll := l.len
    refine run_ifF (EvT.cast (evt_or2 (evt_not (evt_val (ev_isi (t := true) M.z_isinstance (ev_var 1 rfl r1) M.z_tuple bt_tuple k_tt))) fun _ => evt_neI (ev_len M.z_len (ev_var 1 rfl r1)) (ev_len M.z_len (ev_fs (ev_var 0 rfl r0)))) (by simp [l.len])) k fun H1 k1 => ?_
    refine run_ret (Ev.cast (ev_allM (xs := ls) M.z_all (LcJ.ev (lcN (own := [("limit", 2)]) ls .int _ 2 sc_are_limits.nd (blkOk_by (N := N_are_limits) (sc := defScope s_are_limits) (by decide +kernel)) (evi_tup (ev_var 1 rfl r1))
      (fun c hc v B3 kB iv s0 H0 C cl fp => ev_call F1 hr (.mk c 0 h.s) (eva_cons (ev_var 2 rfl iv) (eva_cons ev_int (eva_cons (ev_s (ev_var 0 rfl (r0.up kB))) eva_nil)))) (sl_of (by omega))))) ?_) (k.trans k1) (qk q k1)
    congr 1
    simpa using fun c hc => l.rg c hc
def nestD (ls : List Int) : PyData := .tuple [.str "nested", dIs ls]
theorem pl_nestD (ls : List Int) : pl 2 (nestD ls) = true := by
  show (PyData.strOk "nested" && (pl 1 (dIs ls) && true)) = true
  rw [pl_dIs]
  decide +kernel
theorem nol_nestD (ls : List Int) : nol (nestD ls) = true := by
  show nols [.str "nested", dIs ls] = true
  simp only [nols, nol_dIs, nol, Bool.and_self]
inductive PreIsPlain : List PyData → PyData → Prop
  | mk (h : Hall) (ls : List Int) : h.Ok → LimOk h ls → PreIsPlain [h.d, nestD ls] (.bool true)
theorem ok_is_plain (M : Md mg) (D : FDef K mg "is_plain" s_is_plain) (F1 : Fn P w K mg base 2 "are_limits" 2 PreAreLimits) : Fn P w K mg base 3 "is_plain" 2 PreIsPlain := by
  refine fn_mkP D sc_is_plain (fun _ _ _ _ _ _ us hl => match us, hl with | [_, _], _ => rfl) rfl (fun _ _ h => by cases h; rfl) (fun _ _ h => by cases h with | mk h ls => simp only [nols, nol_hall, nol_nestD, Bool.and_self]) ?_
  intro X cdv A outer s f E B H vs Q ds d hX hr k nm r hp q
  cases hp with
  | mk h ls o l =>
    obtain ⟨x, y, rfl, r0, r1⟩ := iss2 r
    subst hX
    have n4 := o.n4
    have ll := l.len
    refine run_ifF (EvT.cast (evt_or2 (evt_neI (ev_lenT (ds := [.str "nested", dIs ls]) M.z_len (ev_var 1 rfl r1)) ev_int) fun _ => evt_not (evt_val (ev_call F1 hr (.mk h ls o l) (eva_cons (ev_var 0 rfl r0) (eva_cons (ev_ixT (ds := [.str "nested", dIs ls]) (ev_var 1 rfl r1) ev_int rfl) eva_nil))))) rfl) k fun H1 k1 => ?_
    refine run_ret (Ev.cast (ev_or2 (ev_neS (ev_ixT (ds := [.str "nested", dIs ls]) (ev_var 1 rfl r1) ev_int rfl) (ev_gstr M.c_NESTED)) fun _ => ev_allM (xs := ls.zip (ls.drop 1)) M.z_all (LcJ.ev (lcP (own := [("one", 2), ("other", 3)]) (ls.zip (ls.drop 1)) (fun p => .int p.1) (fun p => .int p.2) _ 2 3 sc_is_plain.nd (blkOk_by (N := N_is_plain) (sc := defScope s_is_plain) (by decide +kernel))
      ((evi_zipT M.z_zip (ev_ixT (ds := [.str "nested", dIs ls]) (ev_var 1 rfl r1) ev_int rfl) (ev_slT (ev_ixT (ds := [.str "nested", dIs ls]) (ev_var 1 rfl r1) ev_int rfl) (evp_s ev_int) evp_n)).cast (by rw [cut_1]; exact zip_pairs ls))
      (fun c hc u v B3 kB iu iv s0 H0 C cl fp => ev_le (ev_var 2 rfl iu) (ev_var 3 rfl iv)) (sl_of (by simp; omega))))) ?_) (k.trans k1) (qk q k1)
    congr 1
    simpa using fun a b hc => l.mono (a, b) hc
inductive PreIsWord : List PyData → PyData → Prop
  | mk (h : Hall) (ls : List Int) (b : Bool) : h.Ok → LimOk h ls → PreIsWord [h.d, nestD ls, .bool b] (.bool true)
theorem ok_is_word (M : Md mg) (D : FDef K mg "is_word" s_is_word) (F1 : Fn P w K mg base 3 "is_plain" 2 PreIsPlain) : Fn P w K mg base 4 "is_word" 3 PreIsWord := by
  refine fn_mkP D sc_is_word (fun _ _ _ _ _ _ us hl => match us, hl with | [_, _, _], _ => rfl) rfl (fun _ _ h => by cases h; rfl) (fun _ _ h => by cases h with | mk h ls => simp only [nols, nol_hall, nol_nestD, nol, Bool.and_self]) ?_
  intro X cdv A outer s f E B H vs Q ds d hX hr k nm r hp q
  cases hp with
  | mk h ls b o l =>
    obtain ⟨x, y, z, rfl, r0, r1, r2⟩ := iss3 r
    subst hX
    refine run_ifF (EvT.cast (evt_or3 (evt_not (evt_val (ev_isi (t := true) M.z_isinstance (ev_var 1 rfl r1) M.z_tuple bt_tuple k_tt))) (fun _ => evt_eqD hr.units (ev_var 1 rfl r1) (ev_tup eva_nil (by decide)) (pl_sh (pl_nestD ls) (by decide)) (by decide +kernel)) fun _ =>
      evt_not (evt_val (ev_isi (t := true) M.z_isinstance (ev_ixT (ds := [.str "nested", dIs ls]) (ev_var 1 rfl r1) ev_int rfl) M.z_str bt_str k_ss))) rfl) k fun H1 k1 => ?_
    refine run_ifT (EvT.cast (ev_inS (ys := ["apart", "nested", "kept"]) (ev_ixT (ds := [.str "nested", dIs ls]) (ev_var 1 rfl r1) ev_int rfl) (ev_tup (eva_cons (ev_gstr M.c_APART) (eva_cons (ev_gstr M.c_NESTED) (eva_cons (ev_gstr M.c_KEPT) eva_nil))) (by decide))) (by decide +kernel)) (k.trans k1) fun H2 k2 => ?_
    exact run_ret (ev_call F1 hr (.mk h ls o l) (eva_cons (ev_var 0 rfl r0) (eva_cons (ev_var 1 rfl r1) eva_nil))) (k.trans (k1.trans k2)) (qk q (k1.trans k2))
inductive PrePartsOf : List PyData → PyData → Prop
  | mk (ls : List Int) : PrePartsOf [nestD ls] (.list [])
theorem ok_parts_of (M : Md mg) (D : FDef K mg "parts_of" s_parts_of) : Fn P w K mg base 1 "parts_of" 1 PrePartsOf := by
  refine fn_mkP D sc_parts_of (fun _ _ _ _ _ _ us hl => match us, hl with | [_], _ => rfl) rfl (fun _ _ h => by cases h; rfl) (fun _ _ h => by cases h with | mk ls => simp only [nols, nol_nestD, Bool.and_self]) ?_
  intro X cdv A outer s f E B H vs Q ds d hX hr k nm r hp q
  cases hp with
  | mk ls =>
    obtain ⟨x, rfl, r0⟩ := iss1 r
    subst hX
    refine run_ret (ev_if (t := false) (EvT.cast (ev_inS (ys := ["all", "any"]) (ev_ixT (ds := [.str "nested", dIs ls]) (ev_var 0 rfl r0) ev_int rfl) (ev_tup (eva_cons (ev_gstr M.c_ALL) (eva_cons (ev_gstr M.c_ANY) eva_nil)) (by decide))) (by decide +kernel)) (fun z => nomatch z) fun _ =>
      ev_if (t := false) (EvT.cast (evt_eqS (ev_ixT (ds := [.str "nested", dIs ls]) (ev_var 0 rfl r0) ev_int rfl) (ev_gstr M.c_OUST)) (by decide +kernel)) (fun z => nomatch z) fun _ => ev_lst eva_nil (by decide)) k q
end
end Bl

set_option Elab.async false
set_option linter.all false
set_option autoImplicit false
set_option maxRecDepth 100000
set_option maxHeartbeats 4000000
namespace Bl
open PySem PySem.Spec PyProof.Rows L2 LamX StX
section
variable {P : Program} {w : World} {K : PySem.W.Frag} {mg : Str → Option Value} {base : Heap}
inductive PreNeedRule : List PyData → PyData → Prop
  | mk (h : Hall) (ls : List Int) : h.Ok → LimOk h ls → PreNeedRule [h.d, nestD ls] (nestD ls)
theorem ok_need_rule (M : Md mg) (D : FDef K mg "need_rule" s_need_rule) (F1 : Fn P w K mg base 2 "need_hall" 1 PreNeedHall) (F2 : Fn P w K mg base 4 "is_word" 3 PreIsWord) (F3 : Fn P w K mg base 1 "parts_of" 1 PrePartsOf) : Fn P w K mg base 5 "need_rule" 2 PreNeedRule := by
  refine fn_mkP D sc_need_rule (fun _ _ _ _ _ _ us hl => match us, hl with | [_, _], _ => rfl) rfl (fun _ _ h => by cases h; rfl) (fun _ _ h => by cases h with | mk h ls => simp only [nols, nol_hall, nol_nestD, Bool.and_self]) ?_
  intro X cdv A outer s f E B H vs Q ds d hX hr k nm r hp q
  cases hp with
  | mk h ls o l =>
    obtain ⟨x, y, rfl, r0, r1⟩ := iss2 r
    subst hX
    have hN := sc_need_rule.nd
    refine run_expr (ev_call (F1.mono (by decide : 2 ≤ 4)) hr (.mk h o) (eva_cons (ev_var 0 rfl r0) eva_nil)) k fun H1 k1 => ?_
    refine run_par 2 3 (eva_cons (ev_lst (eva_cons (ev_tup (eva_cons (ev_var 1 rfl r1) (eva_cons (ev_tup eva_nil) eva_nil))) eva_nil)) (eva_cons ev_int eva_nil)) (k.trans k1) (fun u v H2 k2 ru rv => ?_) hN
    cases rv
    cases ru with
    | lst g0 h0 rs =>
      rename_i p ws
      have kB : Ex B H2 := k.trans (k1.trans k2)
      have pH : H1 p = none := fresh_l nm kB g0 h0
      have pB : B p = none := (k.trans k1).free pH
      cases rs with
      | cons t0 t1 =>
        cases t1
        rename_i w0
        have kW : ∀ {H' : Hp} {xs : List V}, Ex B H' → H' p = some (.lst xs) → Ex B (Wo p H') := fun e z => e.wo pB z trivial
        let W : Nat → L2.St → Hp → Prop := fun m σ' H' => Ex H1 H' ∧ ((m = 1 ∧ σ' = [some x, some y, some (.ref p), some (.int 0), none, none, none] ∧ ∃ v, H' p = some (.lst [v]) ∧ Is (Wo p H') v (.tuple [nestD ls, .tuple []])) ∨ (m = 0 ∧ H' p = some (.lst []) ∧ ∃ u3 u4 u5 u6, σ' = [some x, some y, some (.ref p), u3, u4, u5, u6]))
        refine run_while W 1 ⟨k2, .inl ⟨rfl, rfl, w0, h0, ?_⟩⟩ ?_
        · exact t0.wop (by simp only [nol, nols, nol_nestD, Bool.and_self]) h0 trivial
        · rintro m σ' H' ⟨e1, hm⟩
          have eB : Ex B H' := (k.trans k1).trans e1
          rcases hm with ⟨rfl, rfl, v, hv, rv⟩ | ⟨rfl, hv, u3, u4, u5, u6, rfl⟩
          · have rl : Is H' (.ref p) (.list [.tuple [nestD ls, .tuple []]]) := .lst trivial hv (.cons (rv.up wo_ex) .nil)
            refine ⟨true, EvT.cast (evt_neD hr.units (ev_var 2 rfl rl) (ev_lst eva_nil) (pl_sh (n := 4) ?_ (by decide)) (by decide +kernel)) ?_, fun _ H3 k3 => ?_, fun z => nomatch z⟩
            · simp only [pl, pls, pl_up (pl_nestD ls) (by decide : 2 ≤ 2), Bool.and_self]
            · rfl
            · have hv3 : H3 p = some (.lst ([] ++ [v])) := k3.lst hv
              have kp : Ex (Wo p H') (upd H3 p (.lst [])) := (wo_ex.trans k3).mut wo_self hv3 trivial
              refine run_pop2 2 4 5 rfl hv3 rv kp (fun v1 v2 i1 i2 => ?_) hN
              refine run_augI 3 (m := 0) rfl ev_int kp (fun H4 k4 => ?_) hN
              have k0 : Ex B (Wo p H') := kW eB hv
              refine run_ifF (EvT.cast (evt_or3 (B := Wo p H') (evt_gt (i := 1) (ev_var 3 rfl (.int 1 : Is (Wo p H') _ _)) (ev_gint M.c_MOST_WORDS)) (fun _ => evt_gt (ev_lenT M.z_len (ev_var 5 rfl i2)) (ev_gint M.c_MOST_DEEP)) fun _ =>
                evt_not (evt_val (ev_call F2 hr (.mk h ls true o l) (eva_cons (ev_var 0 rfl (r0.up k0)) (eva_cons (ev_var 4 rfl i1) (eva_cons (Ev.cast (ev_eqD hr.units (ev_var 5 rfl i2) (ev_tup eva_nil) (by decide +kernel) (by decide +kernel)) (by rfl)) eva_nil)))))) (by rfl)) (kp.trans k4) fun H5 k5 => ?_
              have hv5 : H5 p = some (.lst []) := k5.lst (k4.lst upd_same)
              refine run_ext (ds := []) 2 rfl hv5 (LcJ.ev (LcJ.cast (lcN (own := [("spot", 6)]) ([] : List Nat) (fun _ => PyData.none) (fun _ => PyData.none) 6 hN (blkOk_by (N := N_need_rule) (sc := defScope s_need_rule) (by decide +kernel))
                (evi_list (ev_revL (ev_call (F3.mono (by decide : 1 ≤ 4)) hr (.mk ls) (eva_cons (ev_var 4 rfl i1) eva_nil)))) (fun c hc => nomatch hc) (sl_of (by decide))) rfl)) (kp.trans (k4.trans k5)) (by decide) fun vs' H6 k6 rs6 => ?_
              cases rs6
              refine run_nil ⟨0, by decide, ?_, .inr ⟨rfl, upd_same, _, _, _, _, rfl⟩⟩
              have e3 : Ex H1 (upd H3 p (.lst [])) := (e1.trans k3).mut pH hv3 trivial
              exact (e3.trans (k4.trans (k5.trans k6))).mut pH (k6.lst hv5) trivial
          · have rl : Is H' (.ref p) (.list []) := .lst trivial hv .nil
            refine ⟨false, EvT.cast (evt_neD hr.units (ev_var 2 rfl rl) (ev_lst eva_nil) (by decide +kernel) (by decide +kernel)) rfl, fun z => absurd z Bool.false_ne_true, fun _ H3 k3 => ?_⟩
            have e3 : Ex H H3 := k1.trans (e1.trans k3)
            exact run_ret (ev_var 1 rfl r1) (k.trans e3) (qk q e3)
end
end Bl

set_option Elab.async false
set_option linter.all false
set_option autoImplicit false
set_option maxRecDepth 100000
set_option maxHeartbeats 4000000
namespace Bl
open PySem PySem.Spec PyProof.Rows L2 LamX StX
theorem enum_ints (cs : List Int) : enumD (cs.map .int) = cs.zipIdx.map fun p => .tuple [.int (p.2 : Int), .int p.1] := by
  unfold enumD
  rw [List.zipIdx_map, List.map_map]
  rfl
theorem zip_ints (fs cs : List Int) : zipD (fs.map .int) (cs.map .int) = (fs.zip cs).map fun p => .tuple [.int p.1, .int p.2] := by
  unfold zipD
  rw [List.zip_map, List.map_map]
  rfl
theorem cheap_enum (cs : List Int) (m : Nat) (h : ∃ c ∈ cs, 0 < c) : ∃ rest, ((cs.zipIdx m).filter fun p => decide (0 < p.1)) = (cs.getD (cheap cs) 0, cheap cs + m) :: rest ∧ 0 < cs.getD (cheap cs) 0 ∧ cheap cs < cs.length := by
  induction cs generalizing m with
  | nil => obtain ⟨c, hc, _⟩ := h; cases hc
  | cons a cs ih =>
    by_cases ha : 0 < a
    · refine ⟨(cs.zipIdx (m + 1)).filter fun p => decide (0 < p.1), ?_, ?_, ?_⟩
      · simp [cheap, List.zipIdx_cons, List.findIdx_cons, ha]
      · simp [cheap, List.findIdx_cons, ha]
      · simp [cheap, List.findIdx_cons, ha]
    · have h' : ∃ c ∈ cs, 0 < c := by
        obtain ⟨c, hc, hp⟩ := h
        rcases List.mem_cons.mp hc with e | e
        · subst e; exact absurd hp ha
        · exact ⟨c, e, hp⟩
      obtain ⟨rest, e1, e2, e3⟩ := ih (m + 1) h'
      have ec : cheap (a :: cs) = cheap cs + 1 := by simp [cheap, List.findIdx_cons, ha]
      refine ⟨rest, ?_, ?_, ?_⟩
      · rw [List.zipIdx_cons, List.filter_cons, if_neg (by simpa using ha), e1, ec]
        simp
        omega
      · rw [ec]; simpa using e2
      · rw [ec]; simpa using e3
theorem pos_of_sum : ∀ (cs : List Int), 0 < cs.sum → ∃ c ∈ cs, 0 < c
  | [], h => by simp at h
  | a :: cs, h => by
    by_cases ha : 0 < a
    · exact ⟨a, List.mem_cons_self, ha⟩
    · obtain ⟨c, hc, hp⟩ := pos_of_sum cs (by rw [List.sum_cons] at h; omega)
      exact ⟨c, List.mem_cons_of_mem _ hc, hp⟩
theorem more_length (cs : List Int) (n : Nat) (m : Int) : (more cs n m).length = cs.length := by unfold more; rw [List.length_set]
theorem zeros_d (n : Nat) : .tuple (List.replicate n (.int 0)) = dIs (zeros n) := by
  unfold dIs zeros
  rw [List.map_replicate]
theorem pls_ints (l : List Int) : pls 0 (l.map .int) = true := pls_map (fun _ => rfl) l
theorem gcd_step (a b : Int) (ha : 0 ≤ a) (hb : 0 ≤ b) : Int.gcd b (a % b) = Int.gcd a b := by
  obtain ⟨n, rfl⟩ := Int.eq_ofNat_of_zero_le ha
  obtain ⟨m, rfl⟩ := Int.eq_ofNat_of_zero_le hb
  have e : ((n : Int) % (m : Int)) = ((n % m : Nat) : Int) := (Int.natCast_emod n m).symm
  rw [e]
  show Nat.gcd m (n % m) = Nat.gcd n m
  rw [Nat.gcd_comm n m, Nat.gcd_rec m n, Nat.gcd_comm]
theorem ev_neg {X : Cx} {σ : L2.St} {B : Hp} {e : Expr} {i : Int} {pos : Pos} (h : Ev X σ B e (.int i)) : Ev X σ B (.UnaryOp .USub e pos) (.int (-i)) := fun H k Q q => Evl.of (pe_un un_neg Evl.pe) (h H k _ fun v H1 k1 r => by
  cases r
  exact ⟨i, rfl, q _ H1 k1 (.int _)⟩)
theorem ev_neg1 {X : Cx} {σ : L2.St} {B : Hp} {j : Nat} {p pos : Pos} : Ev X σ B (.UnaryOp .USub (.Constant (.int 1) j p) pos) (.int (-1)) := ev_neg ev_int
section
variable {P : Program} {w : World} {K : PySem.W.Frag} {mg : Str → Option Value} {base : Heap}
inductive PreNeedKind : List PyData → PyData → Prop
  | mk : PreNeedKind [anyD] anyD
theorem ok_need_kind (M : Md mg) (D : FDef K mg "need_kind" s_need_kind) : Fn P w K mg base 1 "need_kind" 1 PreNeedKind := by
  refine fn_mkP D sc_need_kind (fun _ _ _ _ _ _ us hl => match us, hl with | [_], _ => rfl) rfl (fun _ _ h => by cases h; rfl) (fun _ _ h => by cases h; rfl) ?_
  intro X cdv A outer s f E B H vs Q ds d hX hr k nm r hp q
  cases hp with
  | mk =>
    obtain ⟨x, rfl, r0⟩ := iss1 r
    subst hX
    refine run_ifF (EvT.cast (evt_or2 (evt_not (evt_val (ev_isi (t := true) M.z_isinstance (ev_var 0 rfl r0) M.z_str bt_str k_ss))) fun _ => ev_notInS (ys := ["any", "rising"]) (ev_var 0 rfl r0) (ev_tup (eva_cons (ev_gstr M.c_ANY) (eva_cons (ev_gstr M.c_RISING) eva_nil)))) (by decide +kernel)) k fun H1 k1 => ?_
    exact run_ret (ev_var 0 rfl r0) (k.trans k1) (qk q k1)
inductive PreNoneOf : List PyData → PyData → Prop
  | mk (h : Hall) : h.Ok → PreNoneOf [h.d] (dIs (zeros h.fs.length))
theorem ok_none_of (M : Md mg) (D : FDef K mg "none_of" s_none_of) : Fn P w K mg base 1 "none_of" 1 PreNoneOf := by
  refine fn_mkP D sc_none_of (fun _ _ _ _ _ _ us hl => match us, hl with | [_], _ => rfl) rfl (fun _ _ h => by cases h; rfl) (fun _ _ h => by cases h with | mk h => simp only [nols, nol_hall, Bool.and_self]) ?_
  intro X cdv A outer s f E B H vs Q ds d hX hr k nm r hp q
  cases hp with
  | mk h o =>
    obtain ⟨x, rfl, r0⟩ := iss1 r
    subst hX
    have := o.n1
    have := o.n4
    exact run_ret (Ev.cast (ev_rep (ev_tup (eva_cons ev_int eva_nil)) (ev_len M.z_len (ev_fs (ev_var 0 rfl r0))) (by omega) (by omega)) (zeros_d _)) k q
inductive PreWithMore : List PyData → PyData → Prop
  | mk (cs : List Int) (n : Nat) (m : Int) : n < cs.length → cs.length ≤ 1000 → PreWithMore [dIs cs, .int n, .int m] (dIs (more cs n m))
theorem set_cut {cs : List Int} {n : Nat} {x : Int} (h : n < cs.length) : cs.take n ++ [x] ++ cs.drop (n + 1) = cs.set n x := by
  rw [List.set_eq_take_append_cons_drop, if_pos h, List.append_assoc]
  rfl
theorem ok_with_more (M : Md mg) (D : FDef K mg "with_more" s_with_more) : Fn P w K mg base 1 "with_more" 3 PreWithMore := by
  refine fn_mkP D sc_with_more (fun _ _ _ _ _ _ us hl => match us, hl with | [_, _, _], _ => rfl) rfl (fun _ _ h => by cases h; rfl) (fun _ _ h => by cases h; simp only [nols, nol_dIs, nol, Bool.and_self]) ?_
  intro X cdv A outer s f E B H vs Q ds d hX hr k nm r hp q
  cases hp with
  | mk cs n m hn hl =>
    obtain ⟨x, y, z, rfl, r0, r1, r2⟩ := iss3 r
    subst hX
    have hc : cs[n]? = some (cs.getD n 0) := by rw [List.getD_eq_getElem?_getD, List.getElem?_eq_getElem hn]; rfl
    have l1 : (cut (cs.map PyData.int) none (some (n : Int))).length ≤ 1000 := by rw [cut_to, List.length_take, List.length_map]; omega
    have l2 : (cut (cs.map PyData.int) (some ((n : Int) + 1)) none).length ≤ 1000 := by
      rw [show (n : Int) + 1 = ((n + 1 : Nat) : Int) by omega, cut_from, List.length_drop, List.length_map]; omega
    refine run_ret (Ev.cast (ev_catT (ev_catT (ev_slT (ev_var 0 rfl r0) evp_n (evp_s (ev_var 1 rfl r1))) (ev_tup (eva_cons (ev_add (ev_at (ev_var 0 rfl r0) (ev_var 1 rfl r1) hc) (ev_var 2 rfl r2)) eva_nil)) (sl_le ?_)) (ev_slT (ev_var 0 rfl r0) (evp_s (ev_add (ev_var 1 rfl r1) ev_int)) evp_n) (sl_le ?_)) ?_) k q
    · rw [List.length_singleton]; omega
    · rw [List.length_append, List.length_singleton]; omega
    · rw [show (n : Int) + 1 = ((n + 1 : Nat) : Int) by omega, cut_to, cut_from]
      unfold dIs more
      rw [← set_cut hn, List.map_append, List.map_append, List.map_take, List.map_drop]
      rfl
inductive PreCheapestSold : List PyData → PyData → Prop
  | mk (cs : List Int) : (∃ c ∈ cs, 0 < c) → cs.length ≤ 1000 → PreCheapestSold [dIs cs] (.int (cheap cs : Nat))
theorem ok_cheapest_sold (M : Md mg) (D : FDef K mg "cheapest_sold" s_cheapest_sold) : Fn P w K mg base 1 "cheapest_sold" 1 PreCheapestSold := by
  refine fn_mkP D sc_cheapest_sold (fun _ _ _ _ _ _ us hl => match us, hl with | [_], _ => rfl) rfl (fun _ _ h => by cases h; rfl) (fun _ _ h => by cases h; simp only [nols, nol_dIs, nol, Bool.and_self]) ?_
  intro X cdv A outer s f E B H vs Q ds d hX hr k nm r hp q
  cases hp with
  | mk cs hp hl =>
    obtain ⟨x, rfl, r0⟩ := iss1 r
    subst hX
    obtain ⟨rest, e1, e2, e3⟩ := cheap_enum cs 0 hp
    refine run_setLc 1 (lcPT (own := [("number", 2), ("many", 3)]) cs.zipIdx (fun p => .int (p.2 : Int)) (fun p => .int p.1) (fun p => decide (0 < p.1)) (fun p => .int (p.2 : Int)) 2 3 sc_cheapest_sold.nd (blkOk_by (N := N_cheapest_sold) (sc := defScope s_cheapest_sold) (by decide +kernel))
      ((evi_enumT M.z_enumerate (ev_var 0 rfl r0)).cast (enum_ints cs)) (fun p hp u v B3 kB iu iv s0 H0 C cl fp => evs_one (evt_gt (ev_var 3 rfl iv) ev_int)) (fun p hp _ u v B3 kB iu iv s0 H0 C cl fp => ev_var 2 rfl iu) (sl_of (by rw [List.length_zipIdx]; omega))) k fun v H1 k1 rv => ?_
    have eL : PyData.list ((cs.zipIdx.filter fun p => decide (0 < p.1)).map fun p => .int (p.2 : Int)) = .list (.int (cheap cs : Nat) :: rest.map fun p => .int (p.2 : Int)) := by rw [e1]; simp
    rw [eL] at rv
    refine run_ret (ev_if (t := true) (EvT.cast (evt_neD hr.units (ev_var (G := Nw B H) (B := H1) 1 rfl rv) (ev_lst eva_nil) (pl_sh (n := 1) ?_ (by decide)) (by decide +kernel)) ?_) (fun _ => ev_ixL (ev_var 1 rfl rv) ev_int (atI_nat (n := 0) rfl)) fun z => nomatch z) (Ex.refl H1) fun v H2 k2 r2 => ?_
    · exact pls_map (n := 0) (f := fun p : Int × Nat => PyData.int (p.2 : Int)) (fun _ => rfl) rest
    · rfl
    · exact q v H2 (k1.trans k2) (r2.pure _ _ rfl)
inductive PreSeenWith : List PyData → PyData → Prop
  | mk (h : Hall) (cs : List Int) (n : Nat) : 0 ≤ h.s → n < cs.length → cs.length ≤ 1000 → PreSeenWith [h.d, dIs cs, .int n] (dIs (seenW h.s cs n))
theorem ok_seen_with (M : Md mg) (D : FDef K mg "seen_with" s_seen_with) (F1 : Fn P w K mg base 1 "with_more" 3 PreWithMore) (F2 : Fn P w K mg base 1 "cheapest_sold" 1 PreCheapestSold) : Fn P w K mg base 2 "seen_with" 3 PreSeenWith := by
  refine fn_mkP D sc_seen_with (fun _ _ _ _ _ _ us hl => match us, hl with | [_, _, _], _ => rfl) rfl (fun _ _ h => by cases h; rfl) (fun _ _ h => by cases h; simp only [nols, nol_hall, nol_dIs, nol, Bool.and_self]) ?_
  intro X cdv A outer s f E B H vs Q ds d hX hr k nm r hp q
  cases hp with
  | mk h cs n hs hn hl =>
    obtain ⟨x, y, z, rfl, r0, r1, r2⟩ := iss3 r
    subst hX
    refine run_set 3 (ev_call F1 hr (.mk cs n 1 hn hl) (eva_cons (ev_var 1 rfl r1) (eva_cons (ev_var 2 rfl r2) (eva_cons ev_int eva_nil)))) k (fun v H1 k1 rv => ?_) sc_seen_with.nd
    have kB := k.trans k1
    have rv' : Is H1 v (dIs (more cs n 1)) := rv.is
    refine run_ret (Ev.cast (ev_if (d := dIs (seenW h.s cs n)) (evt_le (ev_sumT M.z_sum (ev_var 3 rfl rv')) (ev_s (ev_var 0 rfl (r0.up kB)))) (fun hle => ?_) fun hle => ?_) rfl) (Ex.refl H1) fun v H2 k2 r2 => q v H2 (k1.trans k2) (r2.pure _ _ (nol_dIs _))
    · rw [show seenW h.s cs n = more cs n 1 by unfold seenW; rw [if_pos (of_decide_eq_true hle)]]
      exact ev_var 3 rfl rv'
    · have hle' := of_decide_eq_false hle
      rw [show seenW h.s cs n = more (more cs n 1) (cheap (more cs n 1)) (-1) by unfold seenW; rw [if_neg hle']]
      have hp : ∃ c ∈ more cs n 1, 0 < c := pos_of_sum _ (by omega)
      obtain ⟨_, _, _, hc⟩ := cheap_enum _ 0 hp
      exact ev_call F1 hr (.mk _ (cheap (more cs n 1)) (-1) hc (by rw [more_length]; exact hl)) (eva_cons (ev_var 3 rfl rv') (eva_cons (ev_call F2 hr (.mk _ hp (by rw [more_length]; exact hl)) (eva_cons (ev_var 3 rfl rv') eva_nil)) (eva_cons ev_neg1 eva_nil)))
inductive PreWorthOf : List PyData → PyData → Prop
  | mk (h : Hall) (cs : List Int) : (∀ f ∈ h.fs, 1 ≤ f ∧ f ≤ 99) → cs.length ≤ 1000 → PreWorthOf [h.d, dIs cs] (.int (wo h.fs cs))
theorem ok_worth_of (M : Md mg) (D : FDef K mg "worth_of" s_worth_of) : Fn P w K mg base 1 "worth_of" 2 PreWorthOf := by
  refine fn_mkP D sc_worth_of (fun _ _ _ _ _ _ us hl => match us, hl with | [_, _], _ => rfl) rfl (fun _ _ h => by cases h; rfl) (fun _ _ h => by cases h; simp only [nols, nol_hall, nol_dIs, nol, Bool.and_self]) ?_
  intro X cdv A outer s f E B H vs Q ds d hX hr k nm r hp q
  cases hp with
  | mk h cs hf hl =>
    obtain ⟨x, y, rfl, r0, r1⟩ := iss2 r
    subst hX
    refine run_ret (ev_sumL (ns := (h.fs.zip cs).map fun p => p.1 * p.2) M.z_sum (Ev.cast (LcJ.ev (lcP (own := [("fare", 2), ("many", 3)]) (h.fs.zip cs) (fun p => .int p.1) (fun p => .int p.2) (fun p => .int (p.1 * p.2)) 2 3 sc_worth_of.nd (blkOk_by (N := N_worth_of) (sc := defScope s_worth_of) (by decide +kernel))
      ((evi_zipT M.z_zip (ev_fs (ev_var 0 rfl r0)) (ev_var 1 rfl r1)).cast (zip_ints h.fs cs)) (fun p hp u v B3 kB iu iv s0 H0 C cl fp => ev_mul (ev_var 2 rfl iu) (ev_var 3 rfl iv) (.inl ?_)) (sl_of (by simp; omega)))) (by rw [List.map_map]; rfl))) k q
    have := hf p.1 (List.of_mem_zip hp).1
    omega
inductive PreCommon : List PyData → PyData → Prop
  | mk (a b : Int) : 0 ≤ a → 0 ≤ b → PreCommon [.int a, .int b] (.int (Int.gcd a b : Nat))
theorem ok_common (M : Md mg) (D : FDef K mg "common" s_common) : Fn P w K mg base 1 "common" 2 PreCommon := by
  refine fn_mkP D sc_common (fun _ _ _ _ _ _ us hl => match us, hl with | [_, _], _ => rfl) rfl (fun _ _ h => by cases h; rfl) (fun _ _ h => by cases h; rfl) ?_
  intro X cdv A outer s f E B H vs Q ds d hX hr k nm r hp q
  cases hp with
  | mk a b ha hb =>
    obtain ⟨x, y, rfl, r0, r1⟩ := iss2 r
    subst hX
    cases r0
    cases r1
    refine run_while (fun m σ' H' => Ex H H' ∧ ∃ a' b' : Int, 0 ≤ a' ∧ 0 ≤ b' ∧ m = b'.toNat ∧ Int.gcd a' b' = Int.gcd a b ∧ σ' = [some (.int a'), some (.int b')]) b.toNat ⟨Ex.refl H, a, b, ha, hb, rfl, rfl, rfl⟩ ?_
    rintro m σ' H' ⟨e1, a', b', ha', hb', rfl, hg, rfl⟩
    refine ⟨!decide (b' = 0), evt_neI (B := H') (ev_var 1 rfl (.int b' : Is H' _ _)) ev_int, fun z H1 k1 => ?_, fun z H1 k1 => ?_⟩
    · have hne : b' ≠ 0 := by simpa using z
      refine run_par 0 1 (eva_cons (ev_var 1 rfl (.int b' : Is H1 _ _)) (eva_cons (ev_mod (ev_intI M.z_int (ev_var 0 rfl (.int a' : Is H1 _ _))) (ev_var 1 rfl (.int b' : Is H1 _ _)) (by omega)) eva_nil)) (Ex.refl H1) (fun u v H2 k2 ru rv => ?_) sc_common.nd
      cases ru
      cases rv
      have h1 := Int.emod_nonneg a' hne
      have h2 := Int.emod_lt_of_pos a' (by omega : 0 < b')
      exact run_nil ⟨(a' % b').toNat, by omega, e1.trans (k1.trans k2), b', a' % b', hb', h1, rfl, (gcd_step a' b' ha' hb').trans hg, rfl⟩
    · have he : b' = 0 := by simpa using z
      subst he
      rw [Int.gcd_zero_right] at hg
      have : (a' : Int) = (Int.gcd a b : Nat) := by rw [← hg]; omega
      refine run_ret (ev_var 0 rfl (this ▸ .int a' : Is H1 _ (.int (Int.gcd a b : Nat)))) (Ex.refl H1) fun v H2 k2 r2 => q v H2 (e1.trans (k1.trans k2)) (r2.pure _ _ rfl)
inductive PreFraction : List PyData → PyData → Prop
  | mk (a b : Int) : 0 ≤ a → 0 ≤ b → b < 1000000000 → PreFraction [.int a, .int b] (frD (frac a b))
theorem ok_fraction (M : Md mg) (D : FDef K mg "fraction" s_fraction) (F1 : Fn P w K mg base 1 "common" 2 PreCommon) : Fn P w K mg base 2 "fraction" 2 PreFraction := by
  refine fn_mkP D sc_fraction (fun _ _ _ _ _ _ us hl => match us, hl with | [_, _], _ => rfl) rfl (fun _ _ h => by cases h; rfl) (fun _ _ h => by cases h; rfl) ?_
  intro X cdv A outer s f E B H vs Q ds d hX hr k nm r hp q
  cases hp with
  | mk a b ha hb hl =>
    obtain ⟨x, y, rfl, r0, r1⟩ := iss2 r
    subst hX
    refine run_if (evt_eqI (ev_var 1 rfl r1) ev_int) k (fun z H1 k1 => ?_) fun z H1 k1 => ?_
    · have hz := of_decide_eq_true z
      subst hz
      exact run_ret (ev_tup (eva_cons ev_int (eva_cons ev_int eva_nil))) (k.trans k1) (qk q k1)
    · have hz := of_decide_eq_false z
      refine run_nil (run_set 2 (ev_call F1 hr (.mk a b ha hb) (eva_cons (ev_var 0 rfl r0) (eva_cons (ev_var 1 rfl r1) eva_nil))) (k.trans k1) (fun v H2 k2 rv => ?_) sc_fraction.nd)
      have k12 := k1.trans k2
      have g0 : 0 < Int.gcd a b := Int.gcd_pos_of_ne_zero_right a hz
      have g1 : (Int.gcd a b : Int) ≤ b := Int.le_of_dvd (by omega) (Int.gcd_dvd_right a b)
      have cd : ∀ i : Int, CDiv i (Int.gcd a b : Nat) := fun i => ⟨by omega, by omega⟩
      cases rv
      refine run_ret (Ev.cast (ev_tup (eva_cons (ev_fdiv (ev_var 0 rfl r0) (ev_var 2 rfl (.int _ : Is B _ _)) (cd a)) (eva_cons (ev_fdiv (ev_var 1 rfl r1) (ev_var 2 rfl (.int _ : Is B _ _)) (cd b)) eva_nil))) ?_) (k.trans k12) (qk q k12)
      unfold frac frD
      rw [if_neg hz]
end
end Bl

set_option Elab.async false
set_option linter.all false
set_option autoImplicit false
set_option maxRecDepth 100000
set_option maxHeartbeats 4000000
namespace Bl
open PySem PySem.Spec PyProof.Rows L2 LamX StX
theorem wD_reg (rg : Bool) : decide ((if rg then ("regret" : Str) else "share") = "regret") = rg := by cases rg <;> decide +kernel
theorem wo_bound (fs cs : List Int) (hf : ∀ f ∈ fs, 1 ≤ f ∧ f ≤ 99) (hc : ∀ c ∈ cs, 0 ≤ c) (hl : cs.length ≤ fs.length) : cs.sum ≤ wo fs cs ∧ wo fs cs ≤ 99 * cs.sum := by
  induction cs generalizing fs with
  | nil => simp [wo]
  | cons c cs ih =>
    cases fs with
    | nil => simp at hl
    | cons f fs =>
      have h1 := ih fs (fun f h => hf f (List.mem_cons_of_mem _ h)) (fun c h => hc c (List.mem_cons_of_mem _ h)) (by simpa using hl)
      have h2 := hf f List.mem_cons_self
      have h3 := hc c List.mem_cons_self
      have e : wo (f :: fs) (c :: cs) = f * c + wo fs cs := by simp [wo]
      have m1 : c ≤ f * c := by
        have := Int.mul_le_mul_of_nonneg_right h2.1 h3
        omega
      have m2 : f * c ≤ 99 * c := Int.mul_le_mul_of_nonneg_right h2.2 h3
      rw [e, List.sum_cons]
      omega
theorem sum_nonneg {cs : List Int} (hc : ∀ c ∈ cs, 0 ≤ c) : 0 ≤ cs.sum := by
  induction cs with
  | nil => simp
  | cons c cs ih =>
    have := ih fun c h => hc c (List.mem_cons_of_mem _ h)
    have := hc c List.mem_cons_self
    rw [List.sum_cons]; omega
theorem GmOk.w1 {h : Hall} {g : Gm} (o : GmOk h g) (ho : h.Ok) : 0 ≤ wo h.fs g.1 ∧ wo h.fs g.1 ≤ 594 := by
  have b := wo_bound h.fs g.1 ho.fr o.p1 (by rw [o.l1]; omega)
  have := sum_nonneg o.p1
  have := o.s1
  have := ho.s6
  omega
theorem GmOk.w2 {h : Hall} {g : Gm} (o : GmOk h g) (ho : h.Ok) : 0 ≤ wo h.fs g.2 ∧ wo h.fs g.2 ≤ 594 := by
  have b := wo_bound h.fs g.2 ho.fr o.p2 (by rw [o.l2]; omega)
  have := sum_nonneg o.p2
  have := o.s2
  have := ho.s6
  omega
/-- a fraction of small numbers -/
def Sm (p : Int × Int) : Prop := -100000 ≤ p.1 ∧ p.1 ≤ 100000
theorem frac_sm (a b : Int) (h0 : 0 ≤ a) (h1 : a ≤ 100000) : Sm (frac a b) := by
  unfold frac
  split
  · exact ⟨by decide, by decide⟩
  · refine ⟨?_, ?_⟩
    · have := Int.ediv_nonneg h0 (Int.natCast_nonneg (Int.gcd a b))
      show -100000 ≤ a / _
      omega
    · have := Int.ediv_le_self (Int.gcd a b : Int) h0
      show a / _ ≤ 100000
      omega
theorem worthOf_sm (rg : Bool) {a b : Int} (h0 : 0 ≤ a) (h1 : a ≤ 100000) (h2 : 0 ≤ b) (h3 : b ≤ 100000) : Sm (worthOf rg a b) := by
  unfold worthOf
  cases rg with
  | true => exact ⟨by show -100000 ≤ b - a; omega, by show b - a ≤ 100000; omega⟩
  | false => exact frac_sm a b h0 h1
section
variable {X : Cx} {σ : L2.St} {B H H1 : Hp} {e a b : Expr} {d : PyData} {pos : Pos}
theorem ev_g0 {g : Gm} {p p2 : Pos} {j : Nat} (he : Ev X σ B e (gmD g)) : Ev X σ B (.Subscript e (.Constant (.int 0) j p) p2) (dIs g.1) := ev_ixT he ev_int rfl
theorem ev_g1 {g : Gm} {p p2 : Pos} {j : Nat} (he : Ev X σ B e (gmD g)) : Ev X σ B (.Subscript e (.Constant (.int 1) j p) p2) (dIs g.2) := ev_ixT he ev_int rfl
theorem ev_g2 {g : Gm} {p p2 : Pos} {j : Nat} (he : Ev X σ B e (gmD g)) : Ev X σ B (.Subscript e (.Constant (.int 2) j p) p2) (.int (-1)) := ev_ixT he ev_int rfl
theorem ev_f0 {g : Int × Int} {p p2 : Pos} {j : Nat} (he : Ev X σ B e (frD g)) : Ev X σ B (.Subscript e (.Constant (.int 0) j p) p2) (.int g.1) := ev_ixT he ev_int rfl
theorem ev_f1 {g : Int × Int} {p p2 : Pos} {j : Nat} (he : Ev X σ B e (frD g)) : Ev X σ B (.Subscript e (.Constant (.int 1) j p) p2) (.int g.2) := ev_ixT he ev_int rfl
end
section
variable {P : Program} {w : World} {K : PySem.W.Frag} {mg : Str → Option Value} {base : Heap}
inductive PreNeedWhat : List PyData → PyData → Prop
  | mk (rg : Bool) : PreNeedWhat [wD rg] .none
theorem ok_need_what (M : Md mg) (D : FDef K mg "need_what" s_need_what) : Fn P w K mg base 1 "need_what" 1 PreNeedWhat := by
  refine fn_mkP D sc_need_what (fun _ _ _ _ _ _ us hl => match us, hl with | [_], _ => rfl) rfl (fun _ _ h => by cases h; rfl) (fun _ _ h => by cases h; rfl) ?_
  intro X cdv A outer s f E B H vs Q ds d hX hr k nm r hp q
  cases hp with
  | mk rg =>
    obtain ⟨x, rfl, r0⟩ := iss1 r
    subst hX
    refine run_ifF (EvT.cast (evt_or2 (evt_not (evt_val (ev_isi (t := true) M.z_isinstance (ev_var 0 rfl r0) M.z_str bt_str k_ss))) fun _ => ev_notInS (ys := ["regret", "share"]) (ev_var 0 rfl r0) (ev_tup (eva_cons (ev_gstr M.c_REGRET) (eva_cons (ev_gstr M.c_SHARE) eva_nil)))) (by cases rg <;> decide +kernel)) k fun H1 k1 => ?_
    exact run_nil (q .non _ k1 .non)
inductive PreNeedGame : List PyData → PyData → Prop
  | mk (h : Hall) (rg : Bool) : h.Ok → PreNeedGame [h.d, anyD, wD rg] .none
theorem ok_need_game (M : Md mg) (D : FDef K mg "need_game" s_need_game) (F1 : Fn P w K mg base 2 "need_hall" 1 PreNeedHall) (F2 : Fn P w K mg base 1 "need_kind" 1 PreNeedKind) (F3 : Fn P w K mg base 1 "need_what" 1 PreNeedWhat) : Fn P w K mg base 3 "need_game" 3 PreNeedGame := by
  refine fn_mkP D sc_need_game (fun _ _ _ _ _ _ us hl => match us, hl with | [_, _, _], _ => rfl) rfl (fun _ _ h => by cases h; rfl) (fun _ _ h => by cases h; simp only [nols, nol_hall, nol_wD, nol, anyD, Bool.and_self]) ?_
  intro X cdv A outer s f E B H vs Q ds d hX hr k nm r hp q
  cases hp with
  | mk h rg o =>
    obtain ⟨x, y, z, rfl, r0, r1, r2⟩ := iss3 r
    subst hX
    refine run_expr (ev_call F1 hr (.mk h o) (eva_cons (ev_var 0 rfl r0) eva_nil)) k fun H1 k1 => ?_
    refine run_expr (ev_call (F2.mono (by decide : 1 ≤ 2)) hr .mk (eva_cons (ev_var 1 rfl r1) eva_nil)) (k.trans k1) fun H2 k2 => ?_
    refine run_expr (ev_call (F3.mono (by decide : 1 ≤ 2)) hr (.mk rg) (eva_cons (ev_var 2 rfl r2) eva_nil)) (k.trans (k1.trans k2)) fun H3 k3 => ?_
    exact run_nil (q .non _ (k1.trans (k2.trans k3)) .non)
inductive PreFirstGame : List PyData → PyData → Prop
  | mk (h : Hall) : h.Ok → PreFirstGame [h.d] (gmD (zeros h.fs.length, zeros h.fs.length))
theorem ok_first_game (M : Md mg) (D : FDef K mg "first_game" s_first_game) (F1 : Fn P w K mg base 1 "none_of" 1 PreNoneOf) : Fn P w K mg base 2 "first_game" 1 PreFirstGame := by
  refine fn_mkP D sc_first_game (fun _ _ _ _ _ _ us hl => match us, hl with | [_], _ => rfl) rfl (fun _ _ h => by cases h; rfl) (fun _ _ h => by cases h; simp only [nols, nol_hall, Bool.and_self]) ?_
  intro X cdv A outer s f E B H vs Q ds d hX hr k nm r hp q
  cases hp with
  | mk h o =>
    obtain ⟨x, rfl, r0⟩ := iss1 r
    subst hX
    exact run_ret (ev_tup (eva_cons (ev_call F1 hr (.mk h o) (eva_cons (ev_var 0 rfl r0) eva_nil)) (eva_cons (ev_call F1 hr (.mk h o) (eva_cons (ev_var 0 rfl r0) eva_nil)) (eva_cons ev_neg1 eva_nil)))) k q
inductive PreFaresIn : List PyData → PyData → Prop
  | mk (h : Hall) (g : Gm) : h.Ok → PreFaresIn [h.d, anyD, gmD g] (.list (rngD 0 h.fs.length))
theorem ok_fares_in (M : Md mg) (D : FDef K mg "fares_in" s_fares_in) : Fn P w K mg base 1 "fares_in" 3 PreFaresIn := by
  refine fn_mkP D sc_fares_in (fun _ _ _ _ _ _ us hl => match us, hl with | [_, _, _], _ => rfl) rfl (fun _ _ h => by cases h; rfl) (fun _ _ h => by cases h; simp only [nols, nol_hall, nol_gmD, nol, anyD, Bool.and_self]) ?_
  intro X cdv A outer s f E B H vs Q ds d hX hr k nm r hp q
  cases hp with
  | mk h g o =>
    obtain ⟨x, y, z, rfl, r0, r1, r2⟩ := iss3 r
    subst hX
    have := o.n4
    refine run_ret (Ev.cast (ev_listRg2 M.z_list M.z_range (i := 0) (ev_if (t := false) (EvT.cast (evt_eqS (ev_var 1 rfl r1) (ev_gstr M.c_RISING)) (by decide +kernel)) (fun z => nomatch z) fun _ => ev_int) (ev_len M.z_len (ev_fs (ev_var 0 rfl r0))) (by decide) (by omega) (by decide) (by omega)) ?_) k q
    simp
inductive PreBehindNo : List PyData → PyData → Prop
  | mk (h : Hall) (g : Gm) (n : Nat) : h.Ok → GmOk h g → n < h.fs.length → PreBehindNo [h.d, anyD, gmD g, .int n] (gmD (g.1, seenW h.s g.2 n))
theorem ok_behind_no (M : Md mg) (D : FDef K mg "behind_no" s_behind_no) (F1 : Fn P w K mg base 2 "seen_with" 3 PreSeenWith) : Fn P w K mg base 3 "behind_no" 4 PreBehindNo := by
  refine fn_mkP D sc_behind_no (fun _ _ _ _ _ _ us hl => match us, hl with | [_, _, _, _], _ => rfl) rfl (fun _ _ h => by cases h; rfl) (fun _ _ h => by cases h; simp only [nols, nol_hall, nol_gmD, nol, anyD, Bool.and_self]) ?_
  intro X cdv A outer s f E B H vs Q ds d hX hr k nm r hp q
  cases hp with
  | mk h g n o og hn =>
    obtain ⟨x, y, z, u, rfl, r0, r1, r2, r3⟩ := iss4 r
    subst hX
    have := o.n4
    have := o.s1
    exact run_ret (ev_tup (eva_cons (ev_g0 (ev_var 2 rfl r2)) (eva_cons (ev_call F1 hr (.mk h g.2 n (by omega) (by rw [og.l2]; exact hn) (by rw [og.l2]; omega)) (eva_cons (ev_var 0 rfl r0) (eva_cons (ev_g1 (ev_var 2 rfl r2)) (eva_cons (ev_var 3 rfl r3) eva_nil))))
      (eva_cons (ev_if (t := false) (EvT.cast (evt_eqS (ev_var 1 rfl r1) (ev_gstr M.c_RISING)) (by decide +kernel)) (fun z => nomatch z) fun _ => ev_neg1) eva_nil)))) k q
inductive PreBehindAll : List PyData → PyData → Prop
  | mk (h : Hall) (g : Gm) (n : Nat) : h.Ok → GmOk h g → n < h.fs.length → PreBehindAll [h.d, anyD, gmD g, .int n] (.list ((behL h g n).map behD))
theorem ok_behind_all (M : Md mg) (D : FDef K mg "behind_all" s_behind_all) (F1 : Fn P w K mg base 3 "behind_no" 4 PreBehindNo) (F2 : Fn P w K mg base 1 "with_more" 3 PreWithMore) : Fn P w K mg base 4 "behind_all" 4 PreBehindAll := by
  refine fn_mkP D sc_behind_all (fun _ _ _ _ _ _ us hl => match us, hl with | [_, _, _, _], _ => rfl) rfl (fun _ _ h => by cases h; rfl) (fun _ _ h => by cases h; simp only [nols, nol_hall, nol_gmD, nol, anyD, Bool.and_self]) ?_
  intro X cdv A outer s f E B H vs Q ds d hX hr k nm r hp q
  cases hp with
  | mk h g n o og hn =>
    obtain ⟨x, y, z, u, rfl, r0, r1, r2, r3⟩ := iss4 r
    subst hX
    have := o.n4
    refine run_set 4 (ev_call F1 hr (.mk h g n o og hn) (eva_cons (ev_var 0 rfl r0) (eva_cons (ev_var 1 rfl r1) (eva_cons (ev_var 2 rfl r2) (eva_cons (ev_var 3 rfl r3) eva_nil))))) k (fun v H1 k1 rv => ?_) sc_behind_all.nd
    have kB1 := k.trans k1
    have rv' : Is (Fz H1) v (gmD (g.1, seenW h.s g.2 n)) := rv.fz (nol_gmD _)
    refine run_set 5 (ev_lst (eva_cons (ev_tup (eva_cons (ev_gstr M.c_NO) (eva_cons (ev_var 4 rfl rv') eva_nil))) eva_nil)) fz_ex (fun v2 H2 k2 rv2 => ?_) sc_behind_all.nd
    have rf := rv2.fresh k2
    cases rf with
    | lst g0 h0 rs =>
      rename_i p ws
      have kB2 := kB1.trans k2
      have pH : H p = none := k1.free g0
      have pB : B p = none := kB1.free g0
      have kB : Ex B (Wo p H2) := kB2.wo pB h0 trivial
      have rp : Rps (fun _ => False) H2 ws [.tuple [.str "no", gmD (g.1, seenW h.s g.2 n)]] := rs.pure _ _ (by simp only [nols, nol, nol_gmD, Bool.and_self])
      refine run_if (B := Wo p H2) (evt_lt (ev_sumT M.z_sum (ev_g0 (ev_var 2 rfl (r2.up kB)))) (ev_s (ev_var 0 rfl (r0.up kB)))) wo_ex (fun zz H3 k3 => ?_) fun zz H3 k3 => ?_
      · have hlt := of_decide_eq_true zz
        have kB3 : Ex B (Wo p H3) := kB.trans (k3.wo2 h0 trivial)
        have rw3 : Is (Wo p H3) v (gmD (g.1, seenW h.s g.2 n)) := rv.is.up k2 |>.up k3 |>.wop (nol_gmD _) (k3.lst h0) trivial
        refine run_app (B := Wo p H3) 5 rfl (k3.lst h0) (ev_tup (eva_cons (ev_gstr M.c_YES) (eva_cons (ev_tup (eva_cons (ev_call (F2.mono (by decide : 1 ≤ 3)) hr (.mk g.1 n 1 (by rw [og.l1]; exact hn) (by rw [og.l1]; omega)) (eva_cons (ev_g0 (ev_var 2 rfl (r2.up kB3))) (eva_cons (ev_var 3 rfl (r3.up kB3)) (eva_cons ev_int eva_nil))))
          (eva_cons (ev_g1 (ev_var 4 rfl rw3)) (eva_cons (ev_g2 (ev_var 4 rfl rw3)) eva_nil)))) eva_nil))) wo_ex (sl_of (by rw [rp.length]; simp)) fun vv H4 k4 rvv => ?_
        refine run_nil (run_retV 5 rfl (q _ _ ((k1.trans (k2.trans (k3.trans k4))).mut pH (k4.lst (k3.lst h0)) trivial) (.lst (.inr pH) upd_same ?_)))
        have e : (behL h g n).map behD = [.tuple [.str "no", gmD (g.1, seenW h.s g.2 n)]] ++ [.tuple [.str "yes", gmD (more g.1 n 1, seenW h.s g.2 n)]] := by
          unfold behL
          rw [if_pos hlt]
          rfl
        rw [e]
        refine ((rp.mono (fun _ z => z) (k3.trans k4)).updp (k4.lst (k3.lst h0)) trivial (fun z => z)).mono (fun _ z => z.elim) (Ex.refl _) |>.append (.cons ?_ .nil)
        exact ((rvv.pure (G' := fun _ => False) _ _ (by
          show nols [.str "yes", gmD (more g.1 n 1, seenW h.s g.2 n)] = true
          simp only [nols, nol, nol_gmD, Bool.and_self])).updp (k4.lst (k3.lst h0)) trivial fun z => z).mono (fun _ z => z.elim) (Ex.refl _)
      · have hlt := of_decide_eq_false zz
        refine run_nil (run_retV 5 rfl (q _ _ (k1.trans (k2.trans k3)) (.lst (.inr pH) (k3.lst h0) ?_)))
        have e : (behL h g n).map behD = [.tuple [.str "no", gmD (g.1, seenW h.s g.2 n)]] := by
          unfold behL
          rw [if_neg hlt]
          rfl
        rw [e]
        exact rp.mono (fun _ z => z.elim) k3
end
end Bl

set_option Elab.async false
set_option linter.all false
set_option autoImplicit false
set_option maxRecDepth 100000
set_option maxHeartbeats 4000000
namespace Bl
open PySem PySem.Spec PyProof.Rows L2 LamX StX
/-- what is built of data at lists of G stands at lists of G -/
theorem Rp.inG {G : Addr → Prop} {H4 H5 H6 : Hp} {v : V} {d : PyData} (r : Rp (Nw (Rs G H4) H5) H6 v d) (e : Ex H4 H5) (e6 : Ex H5 H6) (g : ∀ a, H5 a = none → G a) : Rp G H6 v d := Rp.to (fun a xs z w => by
  refine ⟨?_, w⟩
  rcases z with ⟨o, z⟩ | z
  · exact (rs_some ((rs_ex.trans (e.trans e6)).lst_back z w)).2 trivial
  · exact g a z) (fun _ _ w => w) d v r
theorem Rps.inG {G : Addr → Prop} {H4 H5 H6 : Hp} {vs : List V} {ds : List PyData} (r : Rps (Nw (Rs G H4) H5) H6 vs ds) (e : Ex H4 H5) (e6 : Ex H5 H6) (g : ∀ a, H5 a = none → G a) : Rps G H6 vs ds := Rps.to (fun a xs z w => by
  refine ⟨?_, w⟩
  rcases z with ⟨o, z⟩ | z
  · exact (rs_some ((rs_ex.trans (e.trans e6)).lst_back z w)).2 trivial
  · exact g a z) (fun _ _ w => w) ds vs r
theorem rngD_at {lo : Int} {n i : Nat} {d : PyData} (h : (rngD lo n)[i]? = some d) : d = .int (lo + (i : Int)) ∧ i < n := by
  unfold rngD at h
  rw [List.getElem?_map] at h
  cases q : (List.range n)[i]? with
  | none => rw [q] at h; cases h
  | some j =>
    rw [q] at h
    obtain ⟨hl, e⟩ := List.getElem?_eq_some_iff.mp q
    rw [List.length_range] at hl
    rw [List.getElem_range] at e
    subst e
    exact ⟨(Option.some.inj h).symm, hl⟩
theorem rngD_length (lo : Int) (n : Nat) : (rngD lo n).length = n := by unfold rngD; simp
theorem rngD_0 (n : Nat) : rngD 0 n = (List.range n).map fun (i : Nat) => .int (i : Int) := by
  unfold rngD
  congr 1
  funext i
  rw [Int.zero_add]
theorem any_gm (g : Gm) (gs : List Gm) : ((gs.map gmD).any fun z => PyData.eqv z (gmD g)) = decide (g ∈ gs) := by
  induction gs with
  | nil => rfl
  | cons x gs ih =>
    rw [List.map_cons, List.any_cons, ih, eqv_gmD]
    by_cases e : x = g
    · subst e; simp
    · have : ¬ g = x := fun z => e z.symm
      simp [e, this]
theorem worseF_take {rg : Bool} {x o : Int × Int} {xs : List (Int × Int)} {i : Nat} (h : xs[i]? = some o) : worseF rg x (xs.take (i + 1)) = if isW rg o (worseF rg x (xs.take i)) then o else worseF rg x (xs.take i) := by
  unfold worseF
  rw [List.take_add_one, h, Option.toList_some, List.foldl_append]
  rfl
theorem betterF_take {rg : Bool} {x o : Int × Int} {xs : List (Int × Int)} {i : Nat} (h : xs[i]? = some o) : betterF rg x (xs.take (i + 1)) = if isW rg (betterF rg x (xs.take i)) o then o else betterF rg x (xs.take i) := by
  unfold betterF
  rw [List.take_add_one, h, Option.toList_some, List.foldl_append]
  rfl
theorem worseF_sm {rg : Bool} : ∀ {x : Int × Int} {xs : List (Int × Int)}, Sm x → (∀ y ∈ xs, Sm y) → Sm (worseF rg x xs)
  | x, [], h, _ => h
  | x, y :: xs, h, k => by
    unfold worseF
    rw [List.foldl_cons]
    refine worseF_sm (x := if isW rg y x then y else x) (xs := xs) ?_ fun z hz => k z (List.mem_cons_of_mem _ hz)
    split
    · exact k y List.mem_cons_self
    · exact h
theorem betterF_sm {rg : Bool} : ∀ {x : Int × Int} {xs : List (Int × Int)}, Sm x → (∀ y ∈ xs, Sm y) → Sm (betterF rg x xs)
  | x, [], h, _ => h
  | x, y :: xs, h, k => by
    unfold betterF
    rw [List.foldl_cons]
    refine betterF_sm (x := if isW rg x y then y else x) (xs := xs) ?_ fun z hz => k z (List.mem_cons_of_mem _ hz)
    split
    · exact k y List.mem_cons_self
    · exact h
theorem cut_1d (x : PyData) (xs : List PyData) : cut (x :: xs) (some 1) none = xs := by
  rw [show (1 : Int) = ((1 : Nat) : Int) from rfl, cut_from]
  rfl
section
variable {P : Program} {w : World} {K : PySem.W.Frag} {mg : Str → Option Value} {base : Heap}
inductive PreWorthIf : List PyData → PyData → Prop
  | mk (h : Hall) (rg : Bool) (g : Gm) : h.Ok → GmOk h g → PreWorthIf [h.d, wD rg, gmD g] (frD (worthIf h rg g))
theorem ok_worth_if (M : Md mg) (D : FDef K mg "worth_if" s_worth_if) (F1 : Fn P w K mg base 1 "worth_of" 2 PreWorthOf) (F2 : Fn P w K mg base 2 "fraction" 2 PreFraction) : Fn P w K mg base 3 "worth_if" 3 PreWorthIf := by
  refine fn_mkP D sc_worth_if (fun _ _ _ _ _ _ us hl => match us, hl with | [_, _, _], _ => rfl) rfl (fun _ _ h => by cases h; rfl) (fun _ _ h => by cases h; simp only [nols, nol_hall, nol_gmD, nol_wD, nol, Bool.and_self]) ?_
  intro X cdv A outer s f E B H vs Q ds d hX hr k nm r hp q
  cases hp with
  | mk h rg g o og =>
    obtain ⟨x, y, z, rfl, r0, r1, r2⟩ := iss3 r
    subst hX
    have := o.n4
    have w1 := og.w1 o
    have w2 := og.w2 o
    refine run_par 3 4 (eva_cons (ev_call (F1.mono (by decide : 1 ≤ 2)) hr (.mk h g.1 o.fr (by rw [og.l1]; omega)) (eva_cons (ev_var 0 rfl r0) (eva_cons (ev_g0 (ev_var 2 rfl r2)) eva_nil)))
      (eva_cons (ev_call (F1.mono (by decide : 1 ≤ 2)) hr (.mk h g.2 o.fr (by rw [og.l2]; omega)) (eva_cons (ev_var 0 rfl r0) (eva_cons (ev_g1 (ev_var 2 rfl r2)) eva_nil))) eva_nil)) k (fun u v H1 k1 ru rv => ?_) sc_worth_if.nd
    cases ru
    cases rv
    refine run_ret (ev_if (t := rg) (EvT.cast (evt_eqS (ev_var 1 rfl r1) (ev_gstr M.c_REGRET)) (wD_reg rg)) (fun e => ?_) fun e => ?_) (k.trans k1) (qk q k1)
    · subst e
      exact ev_tup (eva_cons (ev_sub (ev_var 4 rfl (.int _ : Is B _ _)) (ev_var 3 rfl (.int _ : Is B _ _))) (eva_cons ev_int eva_nil))
    · subst e
      exact ev_call F2 hr (.mk _ _ w1.1 w2.1 (by omega)) (eva_cons (ev_var 3 rfl (.int _ : Is B _ _)) (eva_cons (ev_var 4 rfl (.int _ : Is B _ _)) eva_nil))
inductive PreIsWorse : List PyData → PyData → Prop
  | mk (rg : Bool) (a b : Int × Int) : Sm a → Sm b → PreIsWorse [wD rg, frD a, frD b] (.bool (isW rg a b))
theorem ok_is_worse (M : Md mg) (D : FDef K mg "is_worse" s_is_worse) : Fn P w K mg base 1 "is_worse" 3 PreIsWorse := by
  refine fn_mkP D sc_is_worse (fun _ _ _ _ _ _ us hl => match us, hl with | [_, _, _], _ => rfl) rfl (fun _ _ h => by cases h; rfl) (fun _ _ h => by cases h; simp only [nols, nol_frD, nol_wD, nol, Bool.and_self]) ?_
  intro X cdv A outer s f E B H vs Q ds d hX hr k nm r hp q
  cases hp with
  | mk rg a b sa sb =>
    obtain ⟨x, y, z, rfl, r0, r1, r2⟩ := iss3 r
    subst hX
    unfold Sm at sa sb
    refine run_set 3 (ev_sub (ev_mul (ev_f0 (ev_var 1 rfl r1)) (ev_f1 (ev_var 2 rfl r2)) (.inl (by omega))) (ev_mul (ev_f0 (ev_var 2 rfl r2)) (ev_f1 (ev_var 1 rfl r1)) (.inl (by omega)))) k (fun v H1 k1 rv => ?_) sc_is_worse.nd
    cases rv
    refine run_ret (ev_if (t := rg) (EvT.cast (evt_eqS (ev_var 0 rfl r0) (ev_gstr M.c_REGRET)) (wD_reg rg)) (fun e => ?_) fun e => ?_) (k.trans k1) (qk q k1)
    · subst e
      exact ev_gt (ev_var 3 rfl (.int _ : Is B _ _)) ev_int
    · subst e
      exact ev_lt (ev_var 3 rfl (.int _ : Is B _ _)) ev_int
inductive PreWorse : List PyData → PyData → Prop
  | mk (rg : Bool) (a : Int × Int) (as : List (Int × Int)) : Sm a → (∀ b ∈ as, Sm b) → PreWorse [wD rg, .list ((a :: as).map frD)] (frD (worseF rg a as))
theorem ok_worse (M : Md mg) (D : FDef K mg "worse" s_worse) (F1 : Fn P w K mg base 1 "is_worse" 3 PreIsWorse) : Fn P w K mg base 2 "worse" 2 PreWorse := by
  refine fn_mkL D sc_worse (fun _ _ _ _ _ _ us hl => match us, hl with | [_, _], _ => rfl) rfl (fun _ _ h => by cases h; rfl) (fun _ _ h => by cases h; exact nol_frD _) ?_
  intro X cdv A outer s f E H vs Q ds d hX hr r hp q
  cases hp with
  | mk rg a as sa sas =>
    obtain ⟨x, y, rfl, r0, r1⟩ := iss2 r
    subst hX
    refine run_set (B := H) 2 (ev_ixL (ds := (a :: as).map frD) (ev_var 1 rfl r1) ev_int (atI_nat (n := 0) rfl)) (Ex.refl H) (fun v H1 k1 rv => ?_) sc_worse.nd
    refine run_forN (B := H) 3 ((evi_list (ev_slL (ev_var 1 rfl r1) (evp_s ev_int) evp_n)).cast (cut_1d _ _)) k1 (fun B2 H2 k2 kB2 k22 gB => ?_) sc_worse.nd
    refine ⟨fun i σ' H' => Ex H2 H' ∧ ∃ vf u, σ' = [some x, some y, some vf, u] ∧ Is H' vf (frD (worseF rg a (as.take i))), ⟨Ex.refl _, v, none, rfl, rv.up k2⟩, fun i σ' H' ⟨e, _⟩ => k22.trans e, ?_, ?_⟩
    · rintro i d vv σ' H' H'' hd ⟨e1, vf, u, rfl, rf⟩ e2 rvv
      rw [List.getElem?_map] at hd
      cases ho : as[i]? with
      | none => rw [ho] at hd; cases hd
      | some o =>
        rw [ho] at hd
        have ed := Option.some.inj hd
        subst ed
        have hm : o ∈ as := List.mem_of_getElem? ho
        have rf2 : Is H'' vf (frD (worseF rg a (as.take i))) := rf.up e2
        have e02 : Ex H H'' := k1.trans (k2.trans (e1.trans e2))
        refine run_if (B := H'') (evt_val (ev_call F1 hr (.mk rg o _ (sas o hm) (worseF_sm sa fun z hz => sas z (List.mem_of_mem_take hz))) (eva_cons (ev_var 0 rfl (r0.up e02)) (eva_cons (ev_var 3 rfl rvv.is) (eva_cons (ev_var 2 rfl rf2) eva_nil))))) (Ex.refl _) (fun t H3 k3 => ?_) fun t H3 k3 => ?_
        · refine run_set (B := H'') 2 (ev_var 3 rfl rvv.is) k3 (fun v4 H4 k4 r4 => run_nil (run_nil ⟨e1.trans (e2.trans (k3.trans k4)), v4, _, rfl, ?_⟩)) sc_worse.nd
          rw [worseF_take ho, t]
          exact r4.is
        · refine run_nil (run_nil ⟨e1.trans (e2.trans k3), vf, _, rfl, ?_⟩)
          rw [worseF_take ho, t]
          exact rf2.up k3
    · rintro σ' H' ⟨e1, vf, u, rfl, rf⟩
      rw [List.length_map, List.take_of_length_le (Nat.le_refl _)] at rf
      exact run_ret (B := H') (ev_var 2 rfl rf) (Ex.refl _) fun v H3 k3 r3 => q v H3 (k1.trans (k2.trans (e1.trans k3))) r3.is
inductive PreBetter : List PyData → PyData → Prop
  | mk (rg : Bool) (a : Int × Int) (as : List (Int × Int)) : Sm a → (∀ b ∈ as, Sm b) → PreBetter [wD rg, .list ((a :: as).map frD)] (frD (betterF rg a as))
theorem ok_better (M : Md mg) (D : FDef K mg "better" s_better) (F1 : Fn P w K mg base 1 "is_worse" 3 PreIsWorse) : Fn P w K mg base 2 "better" 2 PreBetter := by
  refine fn_mkL D sc_better (fun _ _ _ _ _ _ us hl => match us, hl with | [_, _], _ => rfl) rfl (fun _ _ h => by cases h; rfl) (fun _ _ h => by cases h; exact nol_frD _) ?_
  intro X cdv A outer s f E H vs Q ds d hX hr r hp q
  cases hp with
  | mk rg a as sa sas =>
    obtain ⟨x, y, rfl, r0, r1⟩ := iss2 r
    subst hX
    refine run_set (B := H) 2 (ev_ixL (ds := (a :: as).map frD) (ev_var 1 rfl r1) ev_int (atI_nat (n := 0) rfl)) (Ex.refl H) (fun v H1 k1 rv => ?_) sc_better.nd
    refine run_forN (B := H) 3 ((evi_list (ev_slL (ev_var 1 rfl r1) (evp_s ev_int) evp_n)).cast (cut_1d _ _)) k1 (fun B2 H2 k2 kB2 k22 gB => ?_) sc_better.nd
    refine ⟨fun i σ' H' => Ex H2 H' ∧ ∃ vf u, σ' = [some x, some y, some vf, u] ∧ Is H' vf (frD (betterF rg a (as.take i))), ⟨Ex.refl _, v, none, rfl, rv.up k2⟩, fun i σ' H' ⟨e, _⟩ => k22.trans e, ?_, ?_⟩
    · rintro i d vv σ' H' H'' hd ⟨e1, vf, u, rfl, rf⟩ e2 rvv
      rw [List.getElem?_map] at hd
      cases ho : as[i]? with
      | none => rw [ho] at hd; cases hd
      | some o =>
        rw [ho] at hd
        have ed := Option.some.inj hd
        subst ed
        have hm : o ∈ as := List.mem_of_getElem? ho
        have rf2 : Is H'' vf (frD (betterF rg a (as.take i))) := rf.up e2
        have e02 : Ex H H'' := k1.trans (k2.trans (e1.trans e2))
        refine run_if (B := H'') (evt_val (ev_call F1 hr (.mk rg _ o (betterF_sm sa fun z hz => sas z (List.mem_of_mem_take hz)) (sas o hm)) (eva_cons (ev_var 0 rfl (r0.up e02)) (eva_cons (ev_var 2 rfl rf2) (eva_cons (ev_var 3 rfl rvv.is) eva_nil))))) (Ex.refl _) (fun t H3 k3 => ?_) fun t H3 k3 => ?_
        · refine run_set (B := H'') 2 (ev_var 3 rfl rvv.is) k3 (fun v4 H4 k4 r4 => run_nil (run_nil ⟨e1.trans (e2.trans (k3.trans k4)), v4, _, rfl, ?_⟩)) sc_better.nd
          rw [betterF_take ho, t]
          exact r4.is
        · refine run_nil (run_nil ⟨e1.trans (e2.trans k3), vf, _, rfl, ?_⟩)
          rw [betterF_take ho, t]
          exact rf2.up k3
    · rintro σ' H' ⟨e1, vf, u, rfl, rf⟩
      rw [List.length_map, List.take_of_length_le (Nat.le_refl _)] at rf
      exact run_ret (B := H') (ev_var 2 rfl rf) (Ex.refl _) fun v H3 k3 r3 => q v H3 (k1.trans (k2.trans (e1.trans k3))) r3.is
inductive PreRankOf : List PyData → PyData → Prop
  | mk (h : Hall) (g : Gm) : h.Ok → GmOk h g → PreRankOf [h.d, gmD g] (rankD h g)
theorem ok_rank_of (M : Md mg) (D : FDef K mg "rank_of" s_rank_of) (F1 : Fn P w K mg base 1 "worth_of" 2 PreWorthOf) : Fn P w K mg base 2 "rank_of" 2 PreRankOf := by
  refine fn_mkP D sc_rank_of (fun _ _ _ _ _ _ us hl => match us, hl with | [_, _], _ => rfl) rfl (fun _ _ h => by cases h; rfl) (fun _ _ h => by cases h; simp only [nols, nol_hall, nol_gmD, nol, Bool.and_self]) ?_
  intro X cdv A outer s f E B H vs Q ds d hX hr k nm r hp q
  cases hp with
  | mk h g o og =>
    obtain ⟨x, y, rfl, r0, r1⟩ := iss2 r
    subst hX
    have := o.n4
    exact run_ret (ev_tup (eva_cons (ev_sumT M.z_sum (ev_g1 (ev_var 1 rfl r1))) (eva_cons (ev_call F1 hr (.mk h g.2 o.fr (by rw [og.l2]; omega)) (eva_cons (ev_var 0 rfl r0) (eva_cons (ev_g1 (ev_var 1 rfl r1)) eva_nil))) (eva_cons (ev_sumT M.z_sum (ev_g0 (ev_var 1 rfl r1))) (eva_cons (ev_g2 (ev_var 1 rfl r1)) eva_nil))))) k q
inductive PreTurnsOf : List PyData → PyData → Prop
  | mk (h : Hall) (g : Gm) : h.Ok → GmOk h g → PreTurnsOf [h.d, anyD, gmD g] (turnsD (turnsOf h g))
def turnD (p : Nat × List Gm) : PyData := .tuple [.int (p.1 : Int), .list (p.2.map gmD)]
theorem ok_turns_of (M : Md mg) (D : FDef K mg "turns_of" s_turns_of) (F1 : Fn P w K mg base 1 "fares_in" 3 PreFaresIn) (F2 : Fn P w K mg base 4 "behind_all" 4 PreBehindAll) : Fn P w K mg base 5 "turns_of" 3 PreTurnsOf := by
  refine fn_mkP D sc_turns_of (fun _ _ _ _ _ _ us hl => match us, hl with | [_, _, _], _ => rfl) rfl (fun _ _ h => by cases h; rfl) (fun _ _ h => by cases h; simp only [nols, nol_hall, nol_gmD, nol, anyD, Bool.and_self]) ?_
  intro X cdv A outer s f E B H vs Q ds d hX hr k nm r hp q
  cases hp with
  | mk h g o og =>
    obtain ⟨x, y, z, rfl, r0, r1, r2⟩ := iss3 r
    subst hX
    have n4 := o.n4
    refine run_new 3 (fun p hp => ?_) sc_turns_of.nd
    have pB : B p = none := k.free hp
    have k1 : Ex H (upd H p (.lst [])) := Ex.new hp
    refine run_forN (B := B) 4 (evi_list (ev_call (F1.mono (by decide : 1 ≤ 4)) hr (.mk h g o) (eva_cons (ev_var 0 rfl r0) (eva_cons (ev_var 1 rfl r1) (eva_cons (ev_var 2 rfl r2) eva_nil))))) (k.trans k1) (fun B2 H2 k2 kB2 k22 gB => ?_) sc_turns_of.nd
    have pB2 : B2 p = none := by
      cases e : B2 p with
      | none => rfl
      | some u =>
        have h2 : H2 p = some (.lst []) := k2.lst upd_same
        have e' := k22.lst_back e h2
        rcases gB p _ e' trivial with ⟨o, z⟩ | z
        · rw [pB] at z; cases z
        · rw [upd_same] at z; cases z
    refine ⟨fun i σ' H' => Ex H H' ∧ Ex B2 H' ∧ ∃ acc u4 u5, H' p = some (.lst acc) ∧ σ' = [some x, some y, some z, some (.ref p), u4, u5, none, none] ∧ Rps (fun a => H a = none ∧ a ≠ p) H' acc ((((List.range i).map fun k => (k, laters h g k)).filter fun p => !decide (g ∈ p.2)).map turnD),
      ⟨k1.trans k2, k22, [], none, none, k2.lst upd_same, rfl, .nil⟩, fun i σ' H' p => p.2.1, ?_, ?_⟩
    · rintro i d vv σ' H' H'' hd ⟨e1, e2, acc, u4, u5, hacc, rfl, racc⟩ e3 rvv
      obtain ⟨rfl, hi⟩ := rngD_at hd
      cases rvv
      rw [Int.zero_add]
      have h3 : H'' p = some (.lst acc) := e3.lst hacc
      have eH : Ex B H'' := k.trans (e1.trans e3)
      have q0 : Is (Fz H'') x h.d := (r0.up eH).fz (nol_hall h)
      have q1 : Is (Fz H'') y anyD := (r1.up eH).fz rfl
      have q2 : Is (Fz H'') z (gmD g) := (r2.up eH).fz (nol_gmD g)
      refine run_setLc (B := Fz H'') 5 (lcP (own := [("choice", 6), ("later", 7)]) (behL h g i) (fun p => .str (if p.1 then "yes" else "no")) (fun p => gmD p.2) (fun p => gmD p.2) 6 7 sc_turns_of.nd (blkOk_by (N := N_turns_of) (sc := defScope s_turns_of) (by decide +kernel))
        (evi_list (ev_call F2 hr (.mk h g i o og hi) (eva_cons (ev_var 0 rfl q0) (eva_cons (ev_var 1 rfl q1) (eva_cons (ev_var 2 rfl q2) (eva_cons (ev_var 4 rfl (.int _ : Is (Fz H'') _ _)) eva_nil))))))
        (fun p hp u v B3 kB iu iv s0 H0 C cl fp => ev_var 7 rfl iv) (sl_of (by unfold behL; split <;> simp))) fz_ex (fun v4 H4 k4 rv4 => ?_)
      have rl : Rp (fun a => H a = none ∧ a ≠ p) H4 v4 (.list ((laters h g i).map gmD)) := by
        have rl := rv4.fresh k4
        rw [show (behL h g i).map (fun p => gmD p.2) = (laters h g i).map gmD by unfold laters; rw [List.map_map]; rfl] at rl
        refine rl.mono (fun a z => ⟨(e1.trans e3).free z, fun e => ?_⟩) (Ex.refl _)
        subst e
        have z' : H'' a = none := z
        rw [h3] at z'
        cases z'
      have hl : (laters h g i).length ≤ 2 := by
        unfold laters behL
        split <;> simp
      have h4 : H4 p = some (.lst acc) := k4.lst h3
      have rap : Rps (fun a => H a = none ∧ a ≠ p) H4 acc _ := racc.mono (fun _ z => z) (e3.trans k4)
      have et : (List.range (i + 1)).map (fun k => (k, laters h g k)) = (List.range i).map (fun k => (k, laters h g k)) ++ [(i, laters h g i)] := by rw [List.range_succ, List.map_append]; rfl
      have b2w : ∀ {H5 : Hp} {xs : List V} {o : HO}, Ex B2 H5 → H5 p = some (.lst xs) → Ex B2 (upd H5 p o) := fun e z => e.mut pB2 z trivial
      refine run_if (B := H4) (EvT.cast (ev_inD (by have := hr.units; have := hr.un; omega) (ev_var 2 rfl (q2.up (fz_ex.trans k4))) (ev_var 5 rfl rl) (pl_sh (pl_gmD g) (by decide)) (pl_sh (n := 3) (pls_map pl_gmD _) (by decide)) rfl) (by rw [any_gm])) (Ex.refl _) (fun t H5 k5 => ?_) fun t H5 k5 => ?_
      · refine run_app (B := Rs (fun a => H a = none ∧ a ≠ p) H4) 3 rfl (k5.lst h4) (ev_tup (eva_cons (ev_var (G := All) 4 rfl (.int _)) (eva_cons (ev_var 5 rfl rl.rs) eva_nil))) (rs_ex.trans k5) (sl_of ?_) fun vv H6 k6 rvv => ?_
        · have t1 := racc.length
          have := List.length_filter_le (fun p : Nat × List Gm => !decide (g ∈ p.2)) ((List.range i).map fun k => (k, laters h g k))
          rw [List.length_map] at this
          rw [List.length_map] at t1
          rw [List.length_range] at this
          omega
        · have rvG : Rp (fun a => H a = none ∧ a ≠ p) H6 vv (turnD (i, laters h g i)) := rvv.inG k5 k6 fun a z => ⟨(e1.trans (e3.trans (k4.trans k5))).free z, fun e => by
            subst e
            rw [k5.lst h4] at z
            cases z⟩
          have h6 := k6.lst (k5.lst h4)
          have e6 := (e1.trans (e3.trans (k4.trans (k5.trans k6))))
          refine run_nil (run_nil ⟨e6.mut hp h6 trivial, b2w (e2.trans (e3.trans (k4.trans (k5.trans k6)))) h6, _, _, _, upd_same, rfl, ?_⟩)
          rw [et, List.filter_append, List.filter_cons, if_pos t, List.filter_nil, List.map_append]
          exact ((rap.mono (fun _ z => z) (k5.trans k6)).snoc rvG).updp h6 trivial fun z => z.2 rfl
      · refine run_nil (run_nil ⟨e1.trans (e3.trans (k4.trans k5)), e2.trans (e3.trans (k4.trans k5)), acc, _, _, k5.lst h4, rfl, ?_⟩)
        rw [et, List.filter_append, List.filter_cons, if_neg (by rw [t]; decide), List.filter_nil, List.append_nil]
        exact rap.mono (fun _ z => z) k5
    · rintro σ' H' ⟨e1, e2, acc, u4, u5, hacc, rfl, racc⟩
      refine run_retV 3 rfl (q _ _ e1 (.lst (.inr hp) hacc ?_))
      rw [rngD_length] at racc
      exact racc.mono (fun a z => .inr z.1) (Ex.refl _)
end
end Bl

set_option Elab.async false
set_option linter.all false
set_option autoImplicit false
set_option maxRecDepth 100000
set_option maxHeartbeats 4000000
namespace Bl
open PySem PySem.Spec PyProof.Rows L2 LamX StX
theorem gD {l : List Int} {i : Nat} (h : i < l.length) : l.getD i 0 = l[i] := by rw [List.getD_eq_getElem?_getD, List.getElem?_eq_getElem h]; rfl
theorem gD_mem {l : List Int} {i : Nat} (h : i < l.length) : l.getD i 0 ∈ l := by rw [gD h]; exact List.getElem_mem h
theorem gD_l {a b : List Int} {i : Nat} (h : i < a.length) : (a ++ b).getD i 0 = a.getD i 0 := by
  rw [List.getD_eq_getElem?_getD, List.getD_eq_getElem?_getD, List.getElem?_append_left h]
theorem gD_r {a : List Int} {x : Int} : (a ++ [x]).getD a.length 0 = x := by
  rw [List.getD_eq_getElem?_getD, List.getElem?_append_right (Nat.le_refl _), Nat.sub_self]
  rfl
/-! ### rows of limits -/
theorem lims_mem {s lo l : Int} (h : l ∈ lims s lo) : lo ≤ l ∧ l ≤ s := by
  unfold lims at h
  obtain ⟨i, hi, rfl⟩ := List.mem_map.mp h
  have := List.mem_range.mp hi
  omega
theorem mem_lims {s lo l : Int} (h1 : lo ≤ l) (h2 : l ≤ s) : l ∈ lims s lo := by
  unfold lims
  exact List.mem_map.mpr ⟨(l - lo).toNat, List.mem_range.mpr (by omega), by omega⟩
/-- entries within 0..s, never falling -/
structure Row (s : Int) (n : Nat) (r : List Int) : Prop where
  len : r.length = n
  rg : ∀ l ∈ r, 0 ≤ l ∧ l ≤ s
  mono : ∀ (i : Nat), i + 1 < r.length → r.getD i 0 ≤ r.getD (i + 1) 0
theorem last_rg {s : Int} {n : Nat} {r : List Int} (hs : 0 ≤ s) (h : Row s n r) : 0 ≤ r.getLastD 0 ∧ r.getLastD 0 ≤ s := by
  cases e : r.getLast? with
  | none => rw [List.getLastD_eq_getLast?, e]; exact ⟨Int.le_refl _, hs⟩
  | some x => rw [List.getLastD_eq_getLast?, e]; exact h.rg x (List.mem_of_getLast? e)
theorem Row.snoc {s : Int} {n : Nat} {r : List Int} {l : Int} (hs : 0 ≤ s) (h : Row s n r) (h1 : r.getLastD 0 ≤ l) (h2 : l ≤ s) : Row s (n + 1) (r ++ [l]) := by
  have h0 := (last_rg hs h).1
  refine ⟨by rw [List.length_append, h.len]; rfl, fun x hx => ?_, fun i hi => ?_⟩
  · rcases List.mem_append.mp hx with hx | hx
    · exact h.rg x hx
    · rw [List.mem_singleton.mp hx]; omega
  · rw [List.length_append, List.length_singleton] at hi
    rcases Nat.lt_or_ge (i + 1) r.length with hi2 | hi2
    · rw [gD_l (by omega), gD_l hi2]
      exact h.mono i hi2
    · have e : i + 1 = r.length := by omega
      rw [gD_l (by omega), e, gD_r]
      have e2 : r.getD i 0 = r.getLastD 0 := by
        rw [List.getLastD_eq_getLast?, List.getLast?_eq_getElem?, List.getD_eq_getElem?_getD, ← e]
        rfl
      rw [e2]
      exact h1
theorem allL_row {s : Int} (hs : 0 ≤ s) : ∀ (n : Nat) (r : List Int), r ∈ allL s n → Row s n r
  | 0, r, h => by
    have e : r = [] := by simpa [allL] using h
    exact ⟨by rw [e]; rfl, fun l h => (by rw [e] at h; cases h), fun i hi => by rw [e] at hi; exact absurd hi (Nat.not_lt_zero _)⟩
  | n + 1, r, h => by
    unfold allL at h
    obtain ⟨row, h1, h2⟩ := List.mem_flatMap.mp h
    obtain ⟨l, h3, rfl⟩ := List.mem_map.mp h2
    have := lims_mem h3
    exact (allL_row hs n row h1).snoc hs this.1 this.2
theorem row_lim {h : Hall} (o : h.Ok) {r : List Int} (k : Row h.s h.fs.length r) : LimOk h r := ⟨k.len, k.rg, fun p hp => by
  obtain ⟨i, hi, e⟩ := List.getElem_of_mem hp
  rw [List.length_zip, List.length_drop] at hi
  have hm := k.mono i (by omega)
  rw [List.getElem_zip] at e
  rw [← e]
  simp only [List.getElem_drop]
  rw [List.getD_eq_getElem?_getD, List.getD_eq_getElem?_getD, List.getElem?_eq_getElem (by omega), List.getElem?_eq_getElem (by omega)] at hm
  have e2 : (1 : Nat) + i = i + 1 := Nat.add_comm _ _
  simp only [e2]
  exact hm⟩
theorem LimOk.row {h : Hall} {r : List Int} (k : LimOk h r) : Row h.s h.fs.length r := ⟨k.len, k.rg, fun i hi => by
  have hz : i < (r.zip (r.drop 1)).length := by rw [List.length_zip, List.length_drop]; omega
  have := k.mono _ (List.getElem_mem hz)
  rw [List.getElem_zip] at this
  simp only [List.getElem_drop] at this
  rw [List.getD_eq_getElem?_getD, List.getD_eq_getElem?_getD, List.getElem?_eq_getElem (by omega), List.getElem?_eq_getElem (by omega)]
  have e2 : (1 : Nat) + i = i + 1 := Nat.add_comm _ _
  simp only [e2] at this
  exact this⟩
theorem allL_len {s : Int} (hs : 0 ≤ s) (h6 : s ≤ 6) : ∀ n : Nat, (allL s n).length ≤ 7 ^ n
  | 0 => by simp [allL]
  | n + 1 => by
    have ih := allL_len hs h6 n
    unfold allL
    rw [List.length_flatMap]
    have h1 : ∀ xs : List (List Int), (∀ r ∈ xs, Row s n r) → ((xs.map fun row => ((lims s (row.getLastD 0)).map fun l => row ++ [l]).length).sum) ≤ 7 * xs.length := by
      intro xs
      induction xs with
      | nil => intro _; simp
      | cons x xs ih =>
        intro hx
        have := ih fun r hr => hx r (List.mem_cons_of_mem _ hr)
        have l0 := (last_rg hs (hx x List.mem_cons_self)).1
        have e : ((lims s (x.getLastD 0)).map fun l => x ++ [l]).length ≤ 7 := by
          rw [List.length_map]
          unfold lims
          rw [List.length_map, List.length_range]
          omega
        rw [List.map_cons, List.sum_cons, List.length_cons]
        omega
    have h2 := h1 (allL s n) fun r hr => allL_row hs n r hr
    rw [Nat.pow_succ]
    omega
theorem allL_ne {s : Int} (hs : 0 ≤ s) : ∀ n : Nat, allL s n ≠ []
  | 0 => by simp [allL]
  | n + 1 => by
    have ih := allL_ne hs n
    cases e : allL s n with
    | nil => exact absurd e ih
    | cons x xs =>
      have l0 := last_rg hs (allL_row hs n x (by rw [e]; exact List.mem_cons_self))
      have hm := mem_lims (s := s) (lo := x.getLastD 0) (Int.le_refl _) l0.2
      intro z
      have : x ++ [x.getLastD 0] ∈ allL s (n + 1) := by
        unfold allL
        rw [e]
        exact List.mem_flatMap.mpr ⟨x, List.mem_cons_self, List.mem_map.mpr ⟨_, hm, rfl⟩⟩
      rw [z] at this
      cases this
/-- all rows are listed -/
theorem row_allL {s : Int} (hs : 0 ≤ s) : ∀ (n : Nat) (r : List Int), Row s n r → r ∈ allL s n
  | 0, r, h => by
    have : r = [] := List.eq_nil_of_length_eq_zero h.len
    subst this
    simp [allL]
  | n + 1, r, h => by
    have hne : r ≠ [] := fun e => by have := h.len; rw [e] at this; cases this
    have e := (List.dropLast_concat_getLast hne).symm
    have hl : r.dropLast.length = n := by rw [List.length_dropLast, h.len]; rfl
    have hrow : Row s n r.dropLast := ⟨hl, fun x hx => h.rg x (List.dropLast_subset r hx), fun i hi => by
      have := h.mono i (by rw [h.len]; omega)
      rw [e, gD_l (by omega), gD_l hi] at this
      exact this⟩
    have hb := h.rg _ (List.getLast_mem hne)
    have hlast : r.dropLast.getLastD 0 ≤ r.getLast hne := by
      cases n with
      | zero =>
        have : r.dropLast = [] := List.eq_nil_of_length_eq_zero hl
        rw [this]
        exact hb.1
      | succ n =>
        have := h.mono n (by rw [h.len]; omega)
        have e1 : r.dropLast.getLastD 0 = r.getD n 0 := by
          rw [List.getLastD_eq_getLast?, List.getLast?_eq_getElem?, hl, List.getD_eq_getElem?_getD]
          conv => rhs; rw [e]
          rw [List.getElem?_append_left (by omega)]
          rfl
        have e2 : r.getLast hne = r.getD (n + 1) 0 := by
          rw [List.getLast_eq_getElem, List.getD_eq_getElem?_getD, List.getElem?_eq_getElem (by rw [h.len]; omega)]
          simp [h.len]
        rw [e1, e2]
        exact this
    unfold allL
    exact List.mem_flatMap.mpr ⟨r.dropLast, row_allL hs n _ hrow, List.mem_map.mpr ⟨r.getLast hne, mem_lims hlast hb.2, e.symm⟩⟩
/-! ### what is sold at limits -/
theorem parts_length (ls : List Int) : (parts ls).length = ls.length := by unfold parts; simp
theorem parts_at {ls : List Int} {k : Nat} (h : k < ls.length) : (parts ls)[k]? = some (ls.getD k 0 - if 0 < k then ls.getD (k - 1) 0 else 0) := by
  unfold parts
  rw [List.getElem?_map, List.getElem?_zipIdx, List.getElem?_eq_getElem h]
  simp [List.getD_eq_getElem?_getD, List.getElem?_eq_getElem h]
theorem parts_sum {ls : List Int} : ∀ {k : Nat}, k < ls.length → ((parts ls).take (k + 1)).sum = ls.getD k 0
  | 0, h => by
    rw [List.take_add_one, parts_at h]
    simp
  | k + 1, h => by
    rw [List.take_add_one, parts_at h, List.sum_append, parts_sum (by omega)]
    simp
    omega
theorem parts_nn {s : Int} {n : Nat} {ls : List Int} (r : Row s n ls) : ∀ p ∈ parts ls, 0 ≤ p := fun p hp => by
  obtain ⟨k, hk, e⟩ := List.getElem_of_mem hp
  rw [parts_length] at hk
  have := parts_at hk
  rw [List.getElem?_eq_getElem (by rw [parts_length]; exact hk), e] at this
  have := Option.some.inj this
  rw [this]
  cases k with
  | zero =>
    have := (r.rg (ls.getD 0 0) (by rw [List.getD_eq_getElem?_getD, List.getElem?_eq_getElem hk]; exact List.getElem_mem hk)).1
    simpa using this
  | succ k =>
    have := r.mono k hk
    rw [if_pos (Nat.succ_pos k), Nat.add_sub_cancel]
    omega
/-- sold for parts at fares -/
def wp (ps fs : List Int) : Int := ((ps.zip fs).map fun p => p.1 * p.2).sum
theorem wp_wo (ps fs : List Int) : wp ps fs = wo fs ps := by
  unfold wp wo
  induction ps generalizing fs with
  | nil => cases fs <;> simp
  | cons p ps ih =>
    cases fs with
    | nil => simp
    | cons f fs =>
      simp only [List.zip_cons_cons, List.map_cons, List.sum_cons, ih, Int.mul_comm]
theorem worthTo_sm {h : Hall} (o : h.Ok) (rg : Bool) {ls : List Int} (l : LimOk h ls) {k : Nat} (hk : k < ls.length) :
    0 ≤ wp ((parts ls).take (k + 1)) h.fs ∧ wp ((parts ls).take (k + 1)) h.fs ≤ 594 ∧ 0 ≤ h.s * h.fs.getD k 0 ∧ h.s * h.fs.getD k 0 ≤ 594 := by
  rw [wp_wo]
  have hl : ((parts ls).take (k + 1)).length ≤ h.fs.length := by rw [List.length_take, parts_length, l.len]; omega
  have b := wo_bound h.fs ((parts ls).take (k + 1)) o.fr (fun c hc => parts_nn l.row c (List.mem_of_mem_take hc)) hl
  have hs := sum_nonneg (cs := (parts ls).take (k + 1)) fun c hc => parts_nn l.row c (List.mem_of_mem_take hc)
  rw [parts_sum hk] at b hs
  have hx := l.rg (ls.getD k 0) (by rw [List.getD_eq_getElem?_getD, List.getElem?_eq_getElem hk]; exact List.getElem_mem hk)
  have h6 := o.s6
  have h1 := o.s1
  have hkf : k < h.fs.length := by rw [← l.len]; exact hk
  have hf := o.fr (h.fs.getD k 0) (by rw [List.getD_eq_getElem?_getD, List.getElem?_eq_getElem hkf]; exact List.getElem_mem hkf)
  have m1 : 0 ≤ h.s * h.fs.getD k 0 := Int.mul_nonneg (by omega) (by omega)
  have m2 : h.s * h.fs.getD k 0 ≤ 6 * 99 := Int.mul_le_mul h6 hf.2 (by omega) (by decide)
  omega
theorem worthTo_is (h : Hall) (rg : Bool) (ls : List Int) (k : Nat) : worthTo h rg ls k = worthOf rg (wp ((parts ls).take (k + 1)) h.fs) (h.s * h.fs.getD k 0) := rfl
theorem worthTo_sm' {h : Hall} (o : h.Ok) (rg : Bool) {ls : List Int} (l : LimOk h ls) {k : Nat} (hk : k < ls.length) : Sm (worthTo h rg ls k) := by
  obtain ⟨a, b, c, d⟩ := worthTo_sm o rg l hk
  exact worthOf_sm (a := wp ((parts ls).take (k + 1)) h.fs) rg a (by omega) c (by omega)
theorem first_sm (rg : Bool) : Sm (first rg) := by cases rg <;> exact ⟨by decide, by decide⟩
theorem worstL_sm {h : Hall} (o : h.Ok) (rg : Bool) {ls : List Int} (l : LimOk h ls) : Sm (worstL h rg ls) := worseF_sm (first_sm rg) fun y hy => by
  obtain ⟨k, hk, rfl⟩ := List.mem_map.mp hy
  exact worthTo_sm' o rg l (List.mem_range.mp hk)
end Bl

set_option Elab.async false
set_option linter.all false
set_option autoImplicit false
set_option maxRecDepth 100000
set_option maxHeartbeats 4000000
namespace Bl
open PySem PySem.Spec PyProof.Rows L2 LamX StX
theorem rngD_lims (s lo : Int) : rngD lo (s + 1 - lo).toNat = (lims s lo).map .int := by
  unfold rngD lims
  rw [List.map_map]
  rfl
theorem dIs_snoc (row : List Int) (l : Int) : PyData.tuple (row.map .int ++ [.int l]) = dIs (row ++ [l]) := by
  unfold dIs
  rw [List.map_append]
  rfl
theorem lim_nol (rs : List (List Int)) : nols (rs.map dIs) = true := nols_map nol_dIs rs
section
variable {P : Program} {w : World} {K : PySem.W.Frag} {mg : Str → Option Value} {base : Heap}
inductive PreAllLimits : List PyData → PyData → Prop
  | mk (h : Hall) : h.Ok → PreAllLimits [h.d] (.list ((allL h.s h.fs.length).map dIs))
theorem ok_all_limits (M : Md mg) (D : FDef K mg "all_limits" s_all_limits) : Fn P w K mg base 1 "all_limits" 1 PreAllLimits := by
  refine fn_mkP D sc_all_limits (fun _ _ _ _ _ _ us hl => match us, hl with | [_], _ => rfl) rfl (fun _ _ h => by cases h; rfl) (fun _ _ h => by cases h; simp only [nols, nol_hall, Bool.and_self]) ?_
  intro X cdv A outer s f E B H vs Q ds d hX hr k nm r hp q
  cases hp with
  | mk h o =>
    obtain ⟨x, rfl, r0⟩ := iss1 r
    subst hX
    have n4 := o.n4
    have s1 := o.s1
    have s6 := o.s6
    refine run_set (B := B) 1 (ev_lst (eva_cons (ev_tup eva_nil) eva_nil)) k (fun v H1 k1 rv => ?_) sc_all_limits.nd
    refine run_forN (B := B) 2 (evi_tup (ev_fs (ev_var 0 rfl r0))) (k.trans k1) (fun B2 H2 k2 kB2 k22 gB => ?_) sc_all_limits.nd
    refine ⟨fun i σ' H' => Ex H H' ∧ Ex B2 H' ∧ ∃ vr u, σ' = [some x, some vr, u, none, none] ∧ Rp (Nw B H) H' vr (.list ((allL h.s i).map dIs)), ⟨k1.trans k2, k22, v, none, rfl, rv.mono (fun _ z => z) k2⟩, fun i σ' H' p => p.2.1, ?_, ?_⟩
    · rintro i d vv σ' H' H'' hd ⟨e1, e2, vr, u, rfl, rr⟩ e3 rvv
      have hi : i < h.fs.length := by
        have := (List.getElem?_eq_some_iff.mp hd).1
        rwa [List.length_map] at this
      have r3 : Rp (Nw B H) H'' vr (.list ((allL h.s i).map dIs)) := rr.mono (fun _ z => z) e3
      have kB : Ex B (Rs (Nw B H) H'') := (k.trans (e1.trans e3)).rs fun a o z => .inl ⟨o, z⟩
      have bl := Nat.le_trans (allL_len (by omega) s6 (i + 1)) (Nat.pow_le_pow_right (by decide : 0 < 7) (by omega : i + 1 ≤ 4))
      refine run_setLc2 (B := Rs (Nw B H) H'') (own := [("row", 3), ("limit", 4)]) 1 3 4 [4] (allL h.s i) dIs (fun row => lims h.s (row.getLastD 0)) (fun _ l => .int l) (fun row l => dIs (row ++ [l])) sc_all_limits.nd (blkOk_by (N := N_all_limits) (sc := defScope s_all_limits) (by decide +kernel))
        (evi_list (ev_var 1 rfl r3.rs)) (fun row hrow v3 B3 kB3 i3 s0 H0 C cl fp => ?_) (fun row hrow l hl v3 v4 B3 kB3 i3 i4 s0 H0 C cl fp => ?_) (sl_of ?_) rs_ex (fun v5 H5 k5 r5 => ?_)
      · have R := allL_row (by omega) i row hrow
        have l0 := last_rg (by omega) R
        refine EvI.cast (evi_rng2 (i := row.getLastD 0) (j := h.s + 1) M.z_range (ev_if (t := !decide (row = [])) (EvT.cast (evt_neD hr.units (ev_var 3 rfl i3) (ev_tup eva_nil) (pl_sh (pl_dIs row) (by decide)) (by decide +kernel)) ?_) (fun e => ?_) fun e => ?_) (ev_add (ev_s (ev_var 0 rfl (r0.up (kB.trans kB3)))) ev_int) ⟨by omega, by omega⟩ ⟨by omega, by omega⟩) (rngD_lims _ _)
        · exact congrArg (!·) (eqv_dIs row [])
        · have hne : row ≠ [] := by simpa using e
          have hg : row.getLast? = some (row.getLastD 0) := by
            rw [List.getLastD_eq_getLast?, List.getLast?_eq_some_getLast hne]
            rfl
          exact ev_ixT (ev_var 3 rfl i3) ev_neg1 (atI_last (by rw [List.getLast?_map, hg]; rfl))
        · have hne : row = [] := by simpa using e
          subst hne
          exact ev_int
      · exact Ev.cast (ev_tup (eva_starT (ev_var 3 rfl i3) (eva_cons (ev_var 4 rfl i4) eva_nil)) (sl_le (by
          have R := allL_row (by omega) i row hrow
          rw [List.length_append, List.length_map, R.len, List.length_singleton]; omega))) (dIs_snoc row l)
      · have e : ((allL h.s i).flatMap fun row => lims h.s (row.getLastD 0)).length = (allL h.s (i + 1)).length := by
          show _ = ((allL h.s i).flatMap fun row => (lims h.s (row.getLastD 0)).map fun l => row ++ [l]).length
          rw [List.length_flatMap, List.length_flatMap]
          simp
        rw [e]
        have : (7 : Nat) ^ 4 = 2401 := by decide
        omega
      · have e : ((allL h.s i).flatMap fun row => (lims h.s (row.getLastD 0)).map fun l => dIs (row ++ [l])) = (allL h.s (i + 1)).map dIs := by
          show _ = ((allL h.s i).flatMap fun row => (lims h.s (row.getLastD 0)).map fun l => row ++ [l]).map dIs
          rw [List.map_flatMap]
          simp only [List.map_map]
          rfl
        rw [e] at r5
        exact run_nil ⟨e1.trans (e3.trans k5), e2.trans (e3.trans k5), v5, _, rfl, r5.inG (Ex.refl _) k5 fun a z => .inr ((e1.trans e3).free z)⟩
    · rintro σ' H' ⟨e1, e2, vr, u, rfl, rr⟩
      rw [List.length_map] at rr
      exact run_retV 1 rfl (q _ _ e1 rr)
inductive PrePartsSold : List PyData → PyData → Prop
  | mk (ls : List Int) : ls.length ≤ 1000 → PrePartsSold [dIs ls] (.list ((parts ls).map .int))
theorem ok_parts_sold (M : Md mg) (D : FDef K mg "parts_sold" s_parts_sold) : Fn P w K mg base 1 "parts_sold" 1 PrePartsSold := by
  refine fn_mkP D sc_parts_sold (fun _ _ _ _ _ _ us hl => match us, hl with | [_], _ => rfl) rfl (fun _ _ h => by cases h; rfl) (fun _ _ h => by cases h; simp only [nols, nol_dIs, Bool.and_self]) ?_
  intro X cdv A outer s f E B H vs Q ds d hX hr k nm r hp q
  cases hp with
  | mk ls hl =>
    obtain ⟨x, rfl, r0⟩ := iss1 r
    subst hX
    refine run_ret (Ev.cast (LcJ.ev (lcP (own := [("number", 1), ("limit", 2)]) ls.zipIdx (fun p => .int (p.2 : Int)) (fun p => .int p.1) (fun p => .int (p.1 - if 0 < p.2 then ls.getD (p.2 - 1) 0 else 0)) 1 2 sc_parts_sold.nd (blkOk_by (N := N_parts_sold) (sc := defScope s_parts_sold) (by decide +kernel))
      ((evi_enumT M.z_enumerate (ev_var 0 rfl r0)).cast (enum_ints ls)) (fun p hp u v B3 kB iu iv s0 H0 C cl fp => ?_) (sl_of (by rw [List.length_zipIdx]; omega)))) ?_) k q
    · refine Ev.cast (ev_sub (j := if 0 < p.2 then ls.getD (p.2 - 1) 0 else 0) (ev_var 2 rfl iv) (ev_if (t := decide (0 < p.2)) (EvT.cast (evt_gt (ev_var 1 rfl iu) ev_int) (by simp)) (fun e => ?_) fun e => ?_)) rfl
      · have e' := of_decide_eq_true e
        rw [if_pos e']
        have hlt : p.2 < ls.length := by
          obtain ⟨a, n⟩ := p
          have := (List.mem_zipIdx hp).2.1
          simpa using this
        refine ev_at (n := p.2 - 1) (ev_var 0 rfl (r0.up kB)) (Ev.cast (ev_sub (ev_var 1 rfl iu) ev_int) (congrArg PyData.int (by omega))) ?_
        rw [List.getElem?_eq_getElem (by omega), gD (by omega)]
      · have e' := of_decide_eq_false e
        rw [if_neg e']
        exact ev_int
    · unfold parts
      rw [List.map_map]
      rfl
inductive PreWorthTo : List PyData → PyData → Prop
  | mk (h : Hall) (rg : Bool) (ls : List Int) (n : Nat) : h.Ok → LimOk h ls → n < ls.length → PreWorthTo [h.d, wD rg, dIs ls, .int n] (frD (worthTo h rg ls n))
theorem ok_worth_to (M : Md mg) (D : FDef K mg "worth_to" s_worth_to) (F1 : Fn P w K mg base 1 "parts_sold" 1 PrePartsSold) (F2 : Fn P w K mg base 2 "fraction" 2 PreFraction) : Fn P w K mg base 3 "worth_to" 4 PreWorthTo := by
  refine fn_mkP D sc_worth_to (fun _ _ _ _ _ _ us hl => match us, hl with | [_, _, _, _], _ => rfl) rfl (fun _ _ h => by cases h; rfl) (fun _ _ h => by cases h; simp only [nols, nol_hall, nol_wD, nol_dIs, nol, Bool.and_self]) ?_
  intro X cdv A outer s f E B H vs Q ds d hX hr k nm r hp q
  cases hp with
  | mk h rg ls n o l hn =>
    obtain ⟨x, y, z, u, rfl, r0, r1, r2, r3⟩ := iss4 r
    subst hX
    have n4 := o.n4
    have ll := l.len
    obtain ⟨a1, a2, a3, a4⟩ := worthTo_sm o rg l hn
    have hnf : n < h.fs.length := by omega
    have ecut : zipD (cut ((parts ls).map .int) none (some ((n : Int) + 1))) (h.fs.map .int) = (((parts ls).take (n + 1)).zip h.fs).map fun p => .tuple [.int p.1, .int p.2] := by
      rw [show (n : Int) + 1 = ((n + 1 : Nat) : Int) by omega, cut_to, ← List.map_take, zip_ints]
    refine run_set 4 (ev_sumL (ns := (((parts ls).take (n + 1)).zip h.fs).map fun p => p.1 * p.2) M.z_sum (Ev.cast (LcJ.ev (lcP (own := [("many", 5), ("fare", 6)]) (((parts ls).take (n + 1)).zip h.fs) (fun p => .int p.1) (fun p => .int p.2) (fun p => .int (p.1 * p.2)) 5 6 sc_worth_to.nd (blkOk_by (N := N_worth_to) (sc := defScope s_worth_to) (by decide +kernel))
      ((evi_zipX M.z_zip (ev_slL (ev_call (F1.mono (by decide : 1 ≤ 2)) hr (.mk ls (by omega)) (eva_cons (ev_var 2 rfl r2) eva_nil)) evp_n (evp_s (ev_add (ev_var 3 rfl r3) ev_int))) (ev_fs (ev_var 0 rfl r0))).cast ecut) (fun p hp u v B3 kB iu iv s0 H0 C cl fp => ev_mul (ev_var 5 rfl iu) (ev_var 6 rfl iv) (.inr ?_)) (sl_of (by simp; omega)))) (by rw [List.map_map]; rfl))) k (fun v H1 k1 rv => ?_) sc_worth_to.nd
    · have := o.fr p.2 (List.of_mem_zip hp).2
      omega
    cases rv
    refine run_set 7 (ev_mul (j := h.fs.getD n 0) (ev_s (ev_var 0 rfl r0)) (ev_at (ev_fs (ev_var 0 rfl r0)) (ev_var 3 rfl r3) (by rw [List.getElem?_eq_getElem hnf, gD hnf])) (.inl (by have := o.s1; have := o.s6; omega))) (k.trans k1) (fun v H2 k2 rv => ?_) sc_worth_to.nd
    cases rv
    have k12 := k1.trans k2
    refine run_ret (ev_if (t := rg) (EvT.cast (evt_eqS (ev_var 1 rfl r1) (ev_gstr M.c_REGRET)) (wD_reg rg)) (fun e => ?_) fun e => ?_) (k.trans k12) (qk q k12)
    · subst e
      exact ev_tup (eva_cons (ev_sub (ev_var 7 rfl (.int _ : Is B _ _)) (ev_var 4 rfl (.int _ : Is B _ _))) (eva_cons ev_int eva_nil))
    · subst e
      exact ev_call F2 hr (.mk _ _ a1 a3 (by omega)) (eva_cons (ev_var 4 rfl (.int _ : Is B _ _)) (eva_cons (ev_var 7 rfl (.int _ : Is B _ _)) eva_nil))
end
end Bl

set_option Elab.async false
set_option linter.all false
set_option autoImplicit false
set_option maxRecDepth 100000
set_option maxHeartbeats 4000000
namespace Bl
open PySem PySem.Spec PyProof.Rows L2 LamX StX
theorem plainD_nol (rg : Bool) (p : Int × Int) : nol (plainD rg p) = true := by cases rg <;> rfl
theorem optD_nol : ∀ o : Option (List Int), nol (optD o) = true
  | none => rfl
  | some l => nol_dIs l
theorem map_cons_star {α : Type} (x : PyData) (xs : List α) (f : α → PyData) : x :: (xs.map f ++ []) = x :: xs.map f := by rw [List.append_nil]
theorem unlike_enum (a b : List Int) (hb : b.length = a.length) : (a.zipIdx.filter fun p => !decide (b.getD p.2 0 = p.1)).length = unlike a b := by
  unfold unlike
  have e : a.zipIdx = (List.range a.length).map fun k => (a.getD k 0, k) := by
    refine List.ext_getElem (by simp) fun i h1 h2 => ?_
    simp only [List.getElem_zipIdx, List.getElem_map, List.getElem_range, Nat.zero_add]
    rw [gD (by simpa using h1)]
  rw [e, List.filter_map, List.length_map]
  rfl
section
variable {P : Program} {w : World} {K : PySem.W.Frag} {mg : Str → Option Value} {base : Heap}
inductive PreWorstLimits : List PyData → PyData → Prop
  | mk (h : Hall) (rg : Bool) (ls : List Int) : h.Ok → LimOk h ls → PreWorstLimits [h.d, wD rg, dIs ls] (frD (worstL h rg ls))
theorem ok_worst_limits (M : Md mg) (D : FDef K mg "worst_limits" s_worst_limits) (F1 : Fn P w K mg base 3 "worth_to" 4 PreWorthTo) (F2 : Fn P w K mg base 2 "worse" 2 PreWorse) : Fn P w K mg base 4 "worst_limits" 3 PreWorstLimits := by
  refine fn_mkP D sc_worst_limits (fun _ _ _ _ _ _ us hl => match us, hl with | [_, _, _], _ => rfl) rfl (fun _ _ h => by cases h; rfl) (fun _ _ h => by cases h; simp only [nols, nol_hall, nol_wD, nol_dIs, nol, Bool.and_self]) ?_
  intro X cdv A outer s f E B H vs Q ds d hX hr k nm r hp q
  cases hp with
  | mk h rg ls o l =>
    obtain ⟨x, y, z, rfl, r0, r1, r2⟩ := iss3 r
    subst hX
    have n4 := o.n4
    have ll := l.len
    refine run_set 3 (d := frD (first rg)) (ev_if (t := rg) (EvT.cast (evt_eqS (ev_var 1 rfl r1) (ev_gstr M.c_REGRET)) (wD_reg rg)) (fun e => ?_) fun e => ?_) k (fun v H1 k1 rv => ?_) sc_worst_limits.nd
    · subst e
      exact ev_tup (eva_cons ev_int (eva_cons ev_int eva_nil))
    · subst e
      exact ev_tup (eva_cons ev_int (eva_cons ev_int eva_nil))
    have rf : Is (Fz H1) v (frD (first rg)) := rv.fz rfl
    have kB := k.trans k1
    have q0 : Is (Fz H1) x h.d := (r0.up kB).fz (nol_hall h)
    have q1 : Is (Fz H1) y (wD rg) := (r1.up kB).fz rfl
    have q2 : Is (Fz H1) z (dIs ls) := (r2.up kB).fz (nol_dIs ls)
    refine run_ret (B := Fz H1) (ev_call (F2.mono (by decide : 2 ≤ 3)) hr (.mk rg (first rg) ((List.range ls.length).map (worthTo h rg ls)) (first_sm rg) fun b hb => ?_) (eva_cons (ev_var 1 rfl q1) (eva_cons (Ev.cast (ev_lst (eva_cons (ev_var 3 rfl rf) (eva_starL (LcJ.ev (lcN (own := [("last", 4)]) (List.range ls.length) (fun (i : Nat) => .int (i : Int)) (fun i => frD (worthTo h rg ls i)) 4 sc_worst_limits.nd (blkOk_by (N := N_worst_limits) (sc := defScope s_worst_limits) (by decide +kernel))
      (EvI.cast (evi_rng1 M.z_range (ev_len M.z_len (ev_var 2 rfl q2)) ⟨by omega, by omega⟩) (rngD_0 _)) (fun i hi v3 B3 kB3 i3 s0 H0 C cl fp => ev_call F1 hr (.mk h rg ls i o l (List.mem_range.mp hi)) (eva_cons (ev_var 0 rfl (q0.up kB3)) (eva_cons (ev_var 1 rfl (q1.up kB3)) (eva_cons (ev_var 2 rfl (q2.up kB3)) (eva_cons (ev_var 4 rfl i3) eva_nil))))) (sl_of (by rw [List.length_range]; omega)))) eva_nil)) (sl_le (by simp; omega))) ?_) eva_nil))) fz_ex fun v2 H2 k2 r2 => ?_
    · obtain ⟨i, hi, rfl⟩ := List.mem_map.mp hb
      exact worthTo_sm' o rg l (List.mem_range.mp hi)
    · rw [map_cons_star, List.map_cons, List.map_map]
      rfl
    · exact q v2 H2 (k1.trans k2) (r2.pure _ _ rfl)
inductive PreNeedLimits : List PyData → PyData → Prop
  | mk (h : Hall) (rg : Bool) (ls : List Int) : h.Ok → LimOk h ls → PreNeedLimits [h.d, wD rg, dIs ls] .none
theorem ok_need_limits (M : Md mg) (D : FDef K mg "need_limits" s_need_limits) (F1 : Fn P w K mg base 2 "need_hall" 1 PreNeedHall) (F2 : Fn P w K mg base 1 "need_what" 1 PreNeedWhat) (F3 : Fn P w K mg base 5 "need_rule" 2 PreNeedRule) : Fn P w K mg base 6 "need_limits" 3 PreNeedLimits := by
  refine fn_mkP D sc_need_limits (fun _ _ _ _ _ _ us hl => match us, hl with | [_, _, _], _ => rfl) rfl (fun _ _ h => by cases h; rfl) (fun _ _ h => by cases h; simp only [nols, nol_hall, nol_wD, nol_dIs, nol, Bool.and_self]) ?_
  intro X cdv A outer s f E B H vs Q ds d hX hr k nm r hp q
  cases hp with
  | mk h rg ls o l =>
    obtain ⟨x, y, z, rfl, r0, r1, r2⟩ := iss3 r
    subst hX
    refine run_expr (ev_call (F1.mono (by decide : 2 ≤ 5)) hr (.mk h o) (eva_cons (ev_var 0 rfl r0) eva_nil)) k fun H1 k1 => ?_
    refine run_expr (ev_call (F2.mono (by decide : 1 ≤ 5)) hr (.mk rg) (eva_cons (ev_var 1 rfl r1) eva_nil)) (k.trans k1) fun H2 k2 => ?_
    refine run_expr (ev_call F3 hr (.mk h ls o l) (eva_cons (ev_var 0 rfl r0) (eva_cons (ev_tup (eva_cons (ev_gstr M.c_NESTED) (eva_cons (ev_var 2 rfl r2) eva_nil))) eva_nil))) (k.trans (k1.trans k2)) fun H3 k3 => ?_
    exact run_nil (q .non _ (k1.trans (k2.trans k3)) .non)
inductive PrePlain : List PyData → PyData → Prop
  | mk (rg : Bool) (p : Int × Int) : PrePlain [wD rg, frD p] (plainD rg p)
theorem ok_plain (M : Md mg) (D : FDef K mg "plain" s_plain) : Fn P w K mg base 1 "plain" 2 PrePlain := by
  refine fn_mkP D sc_plain (fun _ _ _ _ _ _ us hl => match us, hl with | [_, _], _ => rfl) rfl (fun _ _ h => by cases h; rfl) (fun _ _ h => by cases h; rfl) ?_
  intro X cdv A outer s f E B H vs Q ds d hX hr k nm r hp q
  cases hp with
  | mk rg p =>
    obtain ⟨x, y, rfl, r0, r1⟩ := iss2 r
    subst hX
    refine run_ret (ev_if (t := rg) (EvT.cast (evt_eqS (ev_var 0 rfl r0) (ev_gstr M.c_REGRET)) (wD_reg rg)) (fun e => ?_) fun e => ?_) k q
    · subst e
      exact ev_f0 (ev_var 1 rfl r1)
    · subst e
      exact ev_var 1 rfl r1
inductive PreWorstNested : List PyData → PyData → Prop
  | mk (h : Hall) (rg : Bool) (ls : List Int) : h.Ok → LimOk h ls → PreWorstNested [h.d, wD rg, dIs ls] (plainD rg (worstL h rg ls))
theorem ok_worst_nested (M : Md mg) (D : FDef K mg "worst_nested" s_worst_nested) (F1 : Fn P w K mg base 6 "need_limits" 3 PreNeedLimits) (F2 : Fn P w K mg base 1 "plain" 2 PrePlain) (F3 : Fn P w K mg base 4 "worst_limits" 3 PreWorstLimits) : Fn P w K mg base 7 "worst_nested" 3 PreWorstNested := by
  refine fn_mkP D sc_worst_nested (fun _ _ _ _ _ _ us hl => match us, hl with | [_, _, _], _ => rfl) rfl (fun _ _ h => by cases h; rfl) (fun _ _ h => by cases h; simp only [nols, nol_hall, nol_wD, nol_dIs, nol, Bool.and_self]) ?_
  intro X cdv A outer s f E B H vs Q ds d hX hr k nm r hp q
  cases hp with
  | mk h rg ls o l =>
    obtain ⟨x, y, z, rfl, r0, r1, r2⟩ := iss3 r
    subst hX
    refine run_expr (ev_call F1 hr (.mk h rg ls o l) (eva_cons (ev_var 0 rfl r0) (eva_cons (ev_var 1 rfl r1) (eva_cons (ev_var 2 rfl r2) eva_nil)))) k fun H1 k1 => ?_
    exact run_ret (ev_call (F2.mono (by decide : 1 ≤ 6)) hr (.mk rg _) (eva_cons (ev_var 1 rfl r1) (eva_cons (ev_call (F3.mono (by decide : 4 ≤ 6)) hr (.mk h rg ls o l) (eva_cons (ev_var 0 rfl r0) (eva_cons (ev_var 1 rfl r1) (eva_cons (ev_var 2 rfl r2) eva_nil)))) eva_nil))) (k.trans k1) (qk q k1)
inductive PreBestWorth : List PyData → PyData → Prop
  | mk (h : Hall) (rg : Bool) : h.Ok → PreBestWorth [h.d, wD rg] (frD (bestW h rg))
theorem allL_lim {h : Hall} (o : h.Ok) {r : List Int} (hr : r ∈ allL h.s h.fs.length) : LimOk h r := row_lim o (allL_row (by have := o.s1; omega) _ r hr)
theorem allL_sz {h : Hall} (o : h.Ok) : (allL h.s h.fs.length).length ≤ 2401 := by
  have := Nat.le_trans (allL_len (by have := o.s1; omega) o.s6 h.fs.length) (Nat.pow_le_pow_right (by decide : 0 < 7) o.n4)
  have e : (7 : Nat) ^ 4 = 2401 := by decide
  omega
theorem bestW_is {h : Hall} (o : h.Ok) (rg : Bool) : ∃ r rs, allL h.s h.fs.length = r :: rs ∧ bestW h rg = betterF rg (worstL h rg r) (rs.map (worstL h rg)) := by
  cases e : allL h.s h.fs.length with
  | nil => exact absurd e (allL_ne (by have := o.s1; omega) _)
  | cons r rs =>
    refine ⟨r, rs, rfl, ?_⟩
    unfold bestW
    rw [e]
    rfl
theorem ok_best_worth (M : Md mg) (D : FDef K mg "best_worth" s_best_worth) (F1 : Fn P w K mg base 4 "worst_limits" 3 PreWorstLimits) (F2 : Fn P w K mg base 2 "better" 2 PreBetter) (F3 : Fn P w K mg base 1 "all_limits" 1 PreAllLimits) : Fn P w K mg base 5 "best_worth" 2 PreBestWorth := by
  refine fn_mkP D sc_best_worth (fun _ _ _ _ _ _ us hl => match us, hl with | [_, _], _ => rfl) rfl (fun _ _ h => by cases h; rfl) (fun _ _ h => by cases h; simp only [nols, nol_hall, nol_wD, nol_dIs, nol, Bool.and_self]) ?_
  intro X cdv A outer s f E B H vs Q ds d hX hr k nm r hp q
  cases hp with
  | mk h rg o =>
    obtain ⟨x, y, rfl, r0, r1⟩ := iss2 r
    subst hX
    obtain ⟨r, rs, e1, e2⟩ := bestW_is o rg
    rw [e2] at q
    refine run_ret (ev_call (F2.mono (by decide : 2 ≤ 4)) hr (.mk rg (worstL h rg r) (rs.map (worstL h rg)) (worstL_sm o rg (allL_lim o (by rw [e1]; exact List.mem_cons_self))) fun b hb => ?_) (eva_cons (ev_var 1 rfl r1) (eva_cons (Ev.cast (LcJ.ev (lcN (own := [("limits", 2)]) (allL h.s h.fs.length) dIs (fun ls => frD (worstL h rg ls)) 2 sc_best_worth.nd (blkOk_by (N := N_best_worth) (sc := defScope s_best_worth) (by decide +kernel))
      (evi_list (ev_call (F3.mono (by decide : 1 ≤ 4)) hr (.mk h o) (eva_cons (ev_var 0 rfl r0) eva_nil))) (fun ls hls v3 B3 kB3 i3 s0 H0 C cl fp => ev_call F1 hr (.mk h rg ls o (allL_lim o hls)) (eva_cons (ev_var 0 rfl (r0.up kB3)) (eva_cons (ev_var 1 rfl (r1.up kB3)) (eva_cons (ev_var 2 rfl i3) eva_nil)))) (sl_of (by have := allL_sz o; omega)))) ?_) eva_nil))) k q
    · obtain ⟨ls, hls, rfl⟩ := List.mem_map.mp hb
      exact worstL_sm o rg (allL_lim o (by rw [e1]; exact List.mem_cons_of_mem _ hls))
    · rw [e1, List.map_cons, List.map_cons, List.map_map]
      rfl
inductive PreBestNested : List PyData → PyData → Prop
  | mk (h : Hall) (rg : Bool) : h.Ok → PreBestNested [h.d, wD rg] (.tuple (((allL h.s h.fs.length).filter fun ls => decide (worstL h rg ls = bestW h rg)).map dIs))
theorem ok_best_nested (M : Md mg) (D : FDef K mg "best_nested" s_best_nested) (F1 : Fn P w K mg base 2 "need_hall" 1 PreNeedHall) (F2 : Fn P w K mg base 1 "need_what" 1 PreNeedWhat) (F3 : Fn P w K mg base 5 "best_worth" 2 PreBestWorth) (F4 : Fn P w K mg base 1 "all_limits" 1 PreAllLimits) (F5 : Fn P w K mg base 4 "worst_limits" 3 PreWorstLimits) : Fn P w K mg base 6 "best_nested" 2 PreBestNested := by
  refine fn_mkP D sc_best_nested (fun _ _ _ _ _ _ us hl => match us, hl with | [_, _], _ => rfl) rfl (fun _ _ h => by cases h; rfl) (fun _ _ h => by cases h; simp only [nols, nol_hall, nol_wD, nol_dIs, nol, Bool.and_self]) ?_
  intro X cdv A outer s f E B H vs Q ds d hX hr k nm r hp q
  cases hp with
  | mk h rg o =>
    obtain ⟨x, y, rfl, r0, r1⟩ := iss2 r
    subst hX
    refine run_expr (ev_call (F1.mono (by decide : 2 ≤ 5)) hr (.mk h o) (eva_cons (ev_var 0 rfl r0) eva_nil)) k fun H1 k1 => ?_
    refine run_expr (ev_call (F2.mono (by decide : 1 ≤ 5)) hr (.mk rg) (eva_cons (ev_var 1 rfl r1) eva_nil)) (k.trans k1) fun H2 k2 => ?_
    refine run_set 2 (ev_call F3 hr (.mk h rg o) (eva_cons (ev_var 0 rfl r0) (eva_cons (ev_var 1 rfl r1) eva_nil))) (k.trans (k1.trans k2)) (fun v H3 k3 rv => ?_) sc_best_nested.nd
    have e3 := k1.trans (k2.trans k3)
    have kB := k.trans e3
    have rf : Is (Fz H3) v (frD (bestW h rg)) := rv.fz rfl
    have q0 : Is (Fz H3) x h.d := (r0.up kB).fz (nol_hall h)
    have q1 : Is (Fz H3) y (wD rg) := (r1.up kB).fz rfl
    refine run_ret (B := Fz H3) (ev_tupleOf M.z_tuple (LcJ.ev (lcNT (own := [("limits", 3)]) (allL h.s h.fs.length) dIs (fun ls => decide (worstL h rg ls = bestW h rg)) dIs 3 sc_best_nested.nd (blkOk_by (N := N_best_nested) (sc := defScope s_best_nested) (by decide +kernel))
      (evi_list (ev_call (F4.mono (by decide : 1 ≤ 5)) hr (.mk h o) (eva_cons (ev_var 0 rfl q0) eva_nil)))
      (fun ls hls v3 B3 kB3 i3 s0 H0 C cl fp => evs_one (EvT.cast (evt_eqD hr.units (ev_call (F5.mono (by decide : 4 ≤ 5)) hr (.mk h rg ls o (allL_lim o hls)) (eva_cons (ev_var 0 rfl (q0.up kB3)) (eva_cons (ev_var 1 rfl (q1.up kB3)) (eva_cons (ev_var 3 rfl i3) eva_nil)))) (ev_var 2 rfl (rf.up kB3)) (pl_sh (pl_frD _) (by decide)) (pl_sh (pl_frD _) (by decide))) (eqv_frD _ _)))
      (fun ls hls _ v3 B3 kB3 i3 s0 H0 C cl fp => ev_var 3 rfl i3) (sl_of (by have := allL_sz o; omega))))) fz_ex fun v4 H4 k4 r4 => q v4 H4 (e3.trans k4) (r4.pure _ _ (lim_nol _))
inductive PreNestedWorth : List PyData → PyData → Prop
  | mk (h : Hall) (rg : Bool) : h.Ok → PreNestedWorth [h.d, wD rg] (plainD rg (bestW h rg))
theorem ok_nested_worth (M : Md mg) (D : FDef K mg "nested_worth" s_nested_worth) (F1 : Fn P w K mg base 2 "need_hall" 1 PreNeedHall) (F2 : Fn P w K mg base 1 "need_what" 1 PreNeedWhat) (F3 : Fn P w K mg base 5 "best_worth" 2 PreBestWorth) (F4 : Fn P w K mg base 1 "plain" 2 PrePlain) : Fn P w K mg base 6 "nested_worth" 2 PreNestedWorth := by
  refine fn_mkP D sc_nested_worth (fun _ _ _ _ _ _ us hl => match us, hl with | [_, _], _ => rfl) rfl (fun _ _ h => by cases h; rfl) (fun _ _ h => by cases h; simp only [nols, nol_hall, nol_wD, nol_dIs, nol, Bool.and_self]) ?_
  intro X cdv A outer s f E B H vs Q ds d hX hr k nm r hp q
  cases hp with
  | mk h rg o =>
    obtain ⟨x, y, rfl, r0, r1⟩ := iss2 r
    subst hX
    refine run_expr (ev_call (F1.mono (by decide : 2 ≤ 5)) hr (.mk h o) (eva_cons (ev_var 0 rfl r0) eva_nil)) k fun H1 k1 => ?_
    refine run_expr (ev_call (F2.mono (by decide : 1 ≤ 5)) hr (.mk rg) (eva_cons (ev_var 1 rfl r1) eva_nil)) (k.trans k1) fun H2 k2 => ?_
    exact run_ret (ev_call (F4.mono (by decide : 1 ≤ 5)) hr (.mk rg _) (eva_cons (ev_var 1 rfl r1) (eva_cons (ev_call F3 hr (.mk h rg o) (eva_cons (ev_var 0 rfl r0) (eva_cons (ev_var 1 rfl r1) eva_nil))) eva_nil))) (k.trans (k1.trans k2)) (qk q (k1.trans k2))
inductive PreWorstFares : List PyData → PyData → Prop
  | mk (h : Hall) (rg : Bool) (ls : List Int) : h.Ok → LimOk h ls → PreWorstFares [h.d, wD rg, dIs ls] (.tuple (((List.range ls.length).filter fun k => decide (worthTo h rg ls k = worstL h rg ls)).map fun (i : Nat) => .int (i : Int)))
theorem ok_worst_fares (M : Md mg) (D : FDef K mg "worst_fares" s_worst_fares) (F1 : Fn P w K mg base 6 "need_limits" 3 PreNeedLimits) (F2 : Fn P w K mg base 4 "worst_limits" 3 PreWorstLimits) (F3 : Fn P w K mg base 3 "worth_to" 4 PreWorthTo) : Fn P w K mg base 7 "worst_fares" 3 PreWorstFares := by
  refine fn_mkP D sc_worst_fares (fun _ _ _ _ _ _ us hl => match us, hl with | [_, _, _], _ => rfl) rfl (fun _ _ h => by cases h; rfl) (fun _ _ h => by cases h; simp only [nols, nol_hall, nol_wD, nol_dIs, nol, Bool.and_self]) ?_
  intro X cdv A outer s f E B H vs Q ds d hX hr k nm r hp q
  cases hp with
  | mk h rg ls o l =>
    obtain ⟨x, y, z, rfl, r0, r1, r2⟩ := iss3 r
    subst hX
    have n4 := o.n4
    have ll := l.len
    refine run_expr (ev_call F1 hr (.mk h rg ls o l) (eva_cons (ev_var 0 rfl r0) (eva_cons (ev_var 1 rfl r1) (eva_cons (ev_var 2 rfl r2) eva_nil)))) k fun H1 k1 => ?_
    refine run_set 3 (ev_call (F2.mono (by decide : 4 ≤ 6)) hr (.mk h rg ls o l) (eva_cons (ev_var 0 rfl r0) (eva_cons (ev_var 1 rfl r1) (eva_cons (ev_var 2 rfl r2) eva_nil)))) (k.trans k1) (fun v H3 k3 rv => ?_) sc_worst_fares.nd
    have e3 := k1.trans k3
    have kB := k.trans e3
    have rf : Is (Fz H3) v (frD (worstL h rg ls)) := rv.fz rfl
    have q0 : Is (Fz H3) x h.d := (r0.up kB).fz (nol_hall h)
    have q1 : Is (Fz H3) y (wD rg) := (r1.up kB).fz rfl
    have q2 : Is (Fz H3) z (dIs ls) := (r2.up kB).fz (nol_dIs ls)
    refine run_ret (B := Fz H3) (ev_tupleOf M.z_tuple (LcJ.ev (lcNT (own := [("last", 4)]) (List.range ls.length) (fun (i : Nat) => .int (i : Int)) (fun i => decide (worthTo h rg ls i = worstL h rg ls)) (fun (i : Nat) => .int (i : Int)) 4 sc_worst_fares.nd (blkOk_by (N := N_worst_fares) (sc := defScope s_worst_fares) (by decide +kernel))
      (EvI.cast (evi_rng1 M.z_range (ev_len M.z_len (ev_var 2 rfl q2)) ⟨by omega, by omega⟩) (rngD_0 _))
      (fun i hi v3 B3 kB3 i3 s0 H0 C cl fp => evs_one (EvT.cast (evt_eqD hr.units (ev_call (F3.mono (by decide : 3 ≤ 6)) hr (.mk h rg ls i o l (List.mem_range.mp hi)) (eva_cons (ev_var 0 rfl (q0.up kB3)) (eva_cons (ev_var 1 rfl (q1.up kB3)) (eva_cons (ev_var 2 rfl (q2.up kB3)) (eva_cons (ev_var 4 rfl i3) eva_nil))))) (ev_var 3 rfl (rf.up kB3)) (pl_sh (pl_frD _) (by decide)) (pl_sh (pl_frD _) (by decide))) (eqv_frD _ _)))
      (fun i hi _ v3 B3 kB3 i3 s0 H0 C cl fp => ev_var 4 rfl i3) (sl_of (by rw [List.length_range]; omega))))) fz_ex fun v4 H4 k4 r4 => q v4 H4 (e3.trans k4) (r4.pure _ _ (nols_map (fun _ => rfl) _))
inductive PreBetterNested : List PyData → PyData → Prop
  | mk (h : Hall) (rg : Bool) (ls : List Int) : h.Ok → LimOk h ls → PreBetterNested [h.d, wD rg, dIs ls] (optD (betterN h rg ls))
theorem find_take {α : Type} {p : α → Bool} : ∀ {xs : List α} {i : Nat} {x : α}, xs[i]? = some x → (xs.take i).find? p = none → p x = true → xs.find? p = some x
  | [], i, x, h, _, _ => by simp at h
  | y :: ys, 0, x, h, _, hx => by
    have e : y = x := Option.some.inj h
    subst e
    rw [List.find?_cons_of_pos hx]
  | y :: ys, i + 1, x, h, hn, hx => by
    rw [List.take_succ_cons] at hn
    have hy : p y = false := by
      cases e : p y with
      | false => rfl
      | true => rw [List.find?_cons_of_pos e] at hn; cases hn
    rw [List.find?_cons_of_neg (by rw [hy]; decide)] at hn ⊢
    exact find_take (i := i) h hn hx
theorem ok_better_nested (M : Md mg) (D : FDef K mg "better_nested" s_better_nested) (F1 : Fn P w K mg base 6 "need_limits" 3 PreNeedLimits) (F2 : Fn P w K mg base 4 "worst_limits" 3 PreWorstLimits) (F3 : Fn P w K mg base 1 "all_limits" 1 PreAllLimits) (F4 : Fn P w K mg base 1 "is_worse" 3 PreIsWorse) : Fn P w K mg base 7 "better_nested" 3 PreBetterNested := by
  refine fn_mkP D sc_better_nested (fun _ _ _ _ _ _ us hl => match us, hl with | [_, _, _], _ => rfl) rfl (fun _ _ h => by cases h; rfl) (fun _ _ h => by cases h; simp only [nols, nol_hall, nol_wD, nol_dIs, nol, Bool.and_self]) ?_
  intro X cdv A outer s f E B H vs Q ds d hX hr k nm r hp q
  cases hp with
  | mk h rg ls o l =>
    obtain ⟨x, y, z, rfl, r0, r1, r2⟩ := iss3 r
    subst hX
    have n4 := o.n4
    have ll := l.len
    refine run_expr (ev_call F1 hr (.mk h rg ls o l) (eva_cons (ev_var 0 rfl r0) (eva_cons (ev_var 1 rfl r1) (eva_cons (ev_var 2 rfl r2) eva_nil)))) k fun H1 k1 => ?_
    refine run_set 3 (ev_call (F2.mono (by decide : 4 ≤ 6)) hr (.mk h rg ls o l) (eva_cons (ev_var 0 rfl r0) (eva_cons (ev_var 1 rfl r1) (eva_cons (ev_var 2 rfl r2) eva_nil)))) (k.trans k1) (fun v H3 k3 rv => ?_) sc_better_nested.nd
    have e3 := k1.trans k3
    refine run_forN (B := B) 4 (evi_list (ev_call (F3.mono (by decide : 1 ≤ 6)) hr (.mk h o) (eva_cons (ev_var 0 rfl r0) eva_nil))) (k.trans e3) (fun B2 H4 k4 kB2 k22 gB => ?_) sc_better_nested.nd
    refine ⟨fun i σ' H' => Ex H3 H' ∧ Ex B2 H' ∧ (∃ u4 u5, σ' = [some x, some y, some z, some v, u4, u5, none, none]) ∧ ((allL h.s h.fs.length).take i).find? (fun o => decide (unlike ls o = 1) && isW rg (worstL h rg ls) (worstL h rg o)) = none, ⟨k4, k22, ⟨none, none, rfl⟩, rfl⟩, fun i σ' H' p => p.2.1, ?_, ?_⟩
    · rintro i d vv σ' H' H'' hd ⟨e1, e2, ⟨u4, u5, rfl⟩, hn⟩ e5 rvv
      rw [List.getElem?_map] at hd
      cases ho : (allL h.s h.fs.length)[i]? with
      | none => rw [ho] at hd; cases hd
      | some ot =>
        rw [ho] at hd
        have ed := Option.some.inj hd
        subst ed
        have hm : ot ∈ allL h.s h.fs.length := List.mem_of_getElem? ho
        have lo := allL_lim o hm
        have eH : Ex H H'' := e3.trans (e1.trans e5)
        have kB := k.trans eH
        have q0 : Is (Fz H'') x h.d := (r0.up kB).fz (nol_hall h)
        have q1 : Is (Fz H'') y (wD rg) := (r1.up kB).fz rfl
        have q2 : Is (Fz H'') z (dIs ls) := (r2.up kB).fz (nol_dIs ls)
        have q3 : Is (Fz H'') v (frD (worstL h rg ls)) := (rv.up (e1.trans e5)).fz rfl
        have q4 : Is (Fz H'') vv (dIs ot) := rvv.fz (nol_dIs ot)
        refine run_setLc (B := Fz H'') 5 (lcPT (own := [("number", 6), ("limit", 7)]) ls.zipIdx (fun p => .int (p.2 : Int)) (fun p => .int p.1) (fun p => !decide (ot.getD p.2 0 = p.1)) (fun p => .int (p.2 : Int)) 6 7 sc_better_nested.nd (blkOk_by (N := N_better_nested) (sc := defScope s_better_nested) (by decide +kernel))
          ((evi_enumT M.z_enumerate (ev_var 2 rfl q2)).cast (enum_ints ls)) (fun p hp u v B3 kB iu iv s0 H0 C cl fp => evs_one (evt_neI (ev_at (ev_var 4 rfl (q4.up kB)) (ev_var 6 rfl iu) ?_) (ev_var 7 rfl iv))) (fun p hp _ u v B3 kB iu iv s0 H0 C cl fp => ev_var 6 rfl iu) (sl_of (by rw [List.length_zipIdx]; omega))) fz_ex (fun v5 H5 k5 r5 => ?_)
        · have hlt : p.2 < ot.length := by
            obtain ⟨a, n⟩ := p
            have := (List.mem_zipIdx hp).2.1
            rw [lo.len, ← ll]
            simpa using this
          rw [List.getElem?_eq_getElem hlt, gD hlt]
        have k05 : Ex (Fz H'') H5 := fz_ex.trans k5
        refine run_if (B := H5) (EvT.cast (evt_and2 (t := decide (unlike ls ot = 1)) (EvT.cast (evt_eqI (ev_lenL M.z_len (ev_var 5 rfl r5)) ev_int) ?_) fun _ => evt_val (ev_call (F4.mono (by decide : 1 ≤ 6)) hr (.mk rg (worstL h rg ls) (worstL h rg ot) (worstL_sm o rg l) (worstL_sm o rg lo)) (eva_cons (ev_var 1 rfl (q1.up k05)) (eva_cons (ev_var 3 rfl (q3.up k05))
          (eva_cons (ev_call (F2.mono (by decide : 4 ≤ 6)) hr (.mk h rg ot o lo) (eva_cons (ev_var 0 rfl (q0.up k05)) (eva_cons (ev_var 1 rfl (q1.up k05)) (eva_cons (ev_var 4 rfl (q4.up k05)) eva_nil)))) eva_nil))))) rfl) (Ex.refl _) (fun t H6 k6 => ?_) fun t H6 k6 => ?_
        · rw [List.length_map, unlike_enum ls ot (by rw [lo.len, ll])]
          simp only [decide_eq_decide]
          omega
        · have eo : betterN h rg ls = some ot := find_take ho hn t
          refine run_retV 4 rfl (q _ _ (eH.trans (k5.trans k6)) ?_)
          rw [eo]
          exact (q4.up (k05.trans k6)).pure _ _ (nol_dIs ot)
        · refine run_nil (run_nil ⟨e1.trans (e5.trans (k5.trans k6)), e2.trans (e5.trans (k5.trans k6)), ⟨_, _, rfl⟩, ?_⟩)
          rw [List.take_add_one, ho, Option.toList_some, List.find?_append, hn]
          simp only [List.find?_cons, t, List.find?_nil, Option.or_none]
    · rintro σ' H' ⟨e1, e2, ⟨u4, u5, rfl⟩, hn⟩
      rw [List.length_map, List.take_of_length_le (Nat.le_refl _)] at hn
      have eo : betterN h rg ls = none := hn
      rw [eo] at q
      exact run_ret (B := H') ev_none (Ex.refl _) fun v6 H6 k6 r6 => q _ _ (e3.trans (e1.trans k6)) (r6.pure _ _ rfl)
end
end Bl

set_option Elab.async false
set_option linter.all false
set_option autoImplicit false
set_option maxRecDepth 100000
set_option maxHeartbeats 4000000
namespace Bl
open PySem PySem.Spec PyProof.Rows L2 LamX StX
/-! ### counts spread out -/
def spread : Nat → List Int → List Int
  | _, [] => []
  | i, c :: cs => List.replicate c.toNat (i : Int) ++ spread (i + 1) cs
theorem spread_ge : ∀ (i : Nat) (cs : List Int) (x : Int), x ∈ spread i cs → (i : Int) ≤ x
  | _, [], x, h => by cases h
  | i, c :: cs, x, h => by
    unfold spread at h
    rcases List.mem_append.mp h with h | h
    · rw [(List.mem_replicate.mp h).2]; omega
    · have := spread_ge (i + 1) cs x h
      omega
theorem spread_sorted : ∀ (i : Nat) (cs : List Int), (spread i cs).Pairwise (· ≤ ·)
  | _, [] => .nil
  | i, c :: cs => by
    unfold spread
    refine List.pairwise_append.mpr ⟨List.pairwise_replicate.mpr (.inr (Int.le_refl _)), spread_sorted (i + 1) cs, fun a ha b hb => ?_⟩
    rw [(List.mem_replicate.mp ha).2]
    have := spread_ge (i + 1) cs b hb
    omega
theorem spread_length : ∀ (i : Nat) (cs : List Int), (∀ c ∈ cs, 0 ≤ c) → ((spread i cs).length : Int) = cs.sum
  | _, [], _ => rfl
  | i, c :: cs, h => by
    have := spread_length (i + 1) cs fun x hx => h x (List.mem_cons_of_mem _ hx)
    have := h c List.mem_cons_self
    unfold spread
    rw [List.length_append, List.length_replicate, List.sum_cons]
    omega
theorem more_cons_succ (c : Int) (cs : List Int) (k : Nat) (m : Int) : more (c :: cs) (k + 1) m = c :: more cs k m := by
  unfold more
  rw [List.set_cons_succ]
  rfl
theorem more_cons_zero (c : Int) (cs : List Int) (m : Int) : more (c :: cs) 0 m = (c + m) :: cs := rfl
theorem spread_more : ∀ (i k : Nat) (cs : List Int), k < cs.length → (∀ c ∈ cs, 0 ≤ c) → (spread i (more cs k 1)).Perm (((i + k : Nat) : Int) :: spread i cs)
  | _, _, [], h, _ => by simp at h
  | i, 0, c :: cs, _, hc => by
    have h0 := hc c List.mem_cons_self
    rw [more_cons_zero]
    unfold spread
    rw [show (c + 1).toNat = c.toNat + 1 by omega, List.replicate_succ, Nat.add_zero, List.cons_append]
    exact List.Perm.refl _
  | i, k + 1, c :: cs, h, hc => by
    rw [more_cons_succ]
    unfold spread
    have ih := spread_more (i + 1) k cs (by simpa using h) fun x hx => hc x (List.mem_cons_of_mem _ hx)
    refine (List.Perm.append_left _ ih).trans ?_
    rw [show i + 1 + k = i + (k + 1) by omega]
    exact List.perm_middle
theorem srt_spread (k : Nat) (cs : List Int) (h : k < cs.length) (hc : ∀ c ∈ cs, 0 ≤ c) : srt ((k : Int) :: spread 0 cs) = spread 0 (more cs k 1) :=
  (srt_of (by have := spread_more 0 k cs h hc; rwa [Nat.zero_add] at this) (spread_sorted _ _)).symm
theorem spread_cheap : ∀ (i : Nat) (cs : List Int), (∀ c ∈ cs, 0 ≤ c) → (∃ c ∈ cs, 0 < c) → spread i cs = ((i + cheap cs : Nat) : Int) :: spread i (more cs (cheap cs) (-1))
  | _, [], _, h => by obtain ⟨c, hc, _⟩ := h; cases hc
  | i, c :: cs, hc, h => by
    have h0 := hc c List.mem_cons_self
    by_cases hp : 0 < c
    · have e : cheap (c :: cs) = 0 := by simp [cheap, List.findIdx_cons, hp]
      rw [e, more_cons_zero]
      unfold spread
      rw [show c.toNat = (c + -1).toNat + 1 by omega, List.replicate_succ, List.cons_append]
      rfl
    · have h' : ∃ c ∈ cs, 0 < c := by
        obtain ⟨x, hx, hp'⟩ := h
        rcases List.mem_cons.mp hx with e | e
        · subst e; exact absurd hp' hp
        · exact ⟨x, e, hp'⟩
      have e : cheap (c :: cs) = cheap cs + 1 := by simp [cheap, List.findIdx_cons, hp]
      have ec : c = 0 := by omega
      subst ec
      rw [e, more_cons_succ]
      unfold spread
      rw [spread_cheap (i + 1) cs (fun x hx => hc x (List.mem_cons_of_mem _ hx)) h', show i + 1 + cheap cs = i + (cheap cs + 1) by omega]
      rfl
theorem filter_spread : ∀ (i j : Nat) (cs : List Int), (∀ c ∈ cs, 0 ≤ c) → (((spread i cs).filter fun x => decide (x = ((i + j : Nat) : Int))).length : Int) = cs.getD j 0
  | _, _, [], _ => rfl
  | i, j, c :: cs, hc => by
    have h0 := hc c List.mem_cons_self
    unfold spread
    rw [List.filter_append, List.length_append]
    cases j with
    | zero =>
      have e1 : (List.replicate c.toNat (i : Int)).filter (fun x => decide (x = ((i + 0 : Nat) : Int))) = List.replicate c.toNat (i : Int) := List.filter_eq_self.mpr fun x hx => by rw [(List.mem_replicate.mp hx).2]; simp
      have e2 : (spread (i + 1) cs).filter (fun x => decide (x = ((i + 0 : Nat) : Int))) = [] := List.filter_eq_nil_iff.mpr fun x hx => by
        have := spread_ge (i + 1) cs x hx
        simp
        omega
      rw [e1, e2, List.length_replicate]
      show ((c.toNat + 0 : Nat) : Int) = c
      omega
    | succ j =>
      have e1 : (List.replicate c.toNat (i : Int)).filter (fun x => decide (x = ((i + (j + 1) : Nat) : Int))) = [] := List.filter_eq_nil_iff.mpr fun x hx => by
        rw [(List.mem_replicate.mp hx).2]
        simp
        omega
      have ih := filter_spread (i + 1) j cs fun x hx => hc x (List.mem_cons_of_mem _ hx)
      rw [show i + 1 + j = i + (j + 1) by omega] at ih
      rw [e1, List.length_nil, Nat.zero_add, ih]
      rfl
/-- the s dearest of some, counted -/
def dearest (s : Int) (n : Nat) (some : List Int) : List Int := (List.range n).map fun (k : Nat) => ((((srt some).reverse.take s.toNat).filter fun x => decide (x = (k : Int))).length : Int)
theorem range_getD {cs : List Int} {n : Nat} (h : cs.length = n) : ((List.range n).map fun k => cs.getD k 0) = cs := by
  subst h
  refine List.ext_getElem (by simp) fun i h1 h2 => ?_
  rw [List.getElem_map, List.getElem_range, gD h2]
theorem more_nn {cs : List Int} {k : Nat} (hc : ∀ c ∈ cs, 0 ≤ c) : ∀ c ∈ more cs k 1, 0 ≤ c := fun c h => by
  unfold more at h
  rcases List.mem_or_eq_of_mem_set h with h | h
  · exact hc c h
  · rcases Nat.lt_or_ge k cs.length with hk | hk
    · have := hc _ (gD_mem hk)
      omega
    · rw [List.getD_eq_getElem?_getD, List.getElem?_eq_none hk] at h
      simp at h
      omega
theorem more_nn' {cs : List Int} {k : Nat} (hc : ∀ c ∈ cs, 0 ≤ c) (hk : 0 < cs.getD k 0) : ∀ c ∈ more cs k (-1), 0 ≤ c := fun c h => by
  unfold more at h
  rcases List.mem_or_eq_of_mem_set h with h | h
  · exact hc c h
  · omega
theorem more_sum : ∀ {cs : List Int} {k : Nat} (m : Int), k < cs.length → (more cs k m).sum = cs.sum + m
  | [], _, _, h => by simp at h
  | c :: cs, 0, m, _ => by rw [more_cons_zero, List.sum_cons, List.sum_cons]; omega
  | c :: cs, k + 1, m, h => by
    rw [more_cons_succ, List.sum_cons, List.sum_cons, more_sum m (by simpa using h)]
    omega
theorem filter_rev_len (p : Int → Bool) (l : List Int) : ((l.reverse).filter p).length = (l.filter p).length := by rw [List.filter_reverse, List.length_reverse]
theorem dearest_seen {s : Int} {cs : List Int} {k n : Nat} (hs : 0 ≤ s) (hl : cs.length = n) (h : k < n) (hc : ∀ c ∈ cs, 0 ≤ c) (hsum : cs.sum ≤ s) : dearest s n ((k : Int) :: spread 0 cs) = seenW s cs k := by
  have hk : k < cs.length := by omega
  unfold dearest
  rw [srt_spread k cs hk hc]
  have nn := more_nn (k := k) hc
  have ln := spread_length 0 (more cs k 1) nn
  have ms := more_sum (cs := cs) (k := k) 1 hk
  unfold seenW
  split
  · rename_i hle
    rw [List.take_of_length_le (by rw [List.length_reverse]; omega)]
    refine Eq.trans (List.map_congr_left fun j hj => ?_) (range_getD (cs := more cs k 1) (by rw [more_length, hl]))
    rw [filter_rev_len]
    have := filter_spread 0 j (more cs k 1) nn
    rw [Nat.zero_add] at this
    exact this
  · rename_i hgt
    have hp : ∃ c ∈ more cs k 1, 0 < c := pos_of_sum _ (by omega)
    obtain ⟨_, _, hc1, hc2⟩ := cheap_enum _ 0 hp
    have ec := spread_cheap 0 (more cs k 1) nn hp
    have nn' := more_nn' nn hc1
    have ln' := spread_length 0 (more (more cs k 1) (cheap (more cs k 1)) (-1)) nn'
    have ms' := more_sum (cs := more cs k 1) (k := cheap (more cs k 1)) (-1) hc2
    rw [ec, List.reverse_cons, List.take_append_of_le_length (by rw [List.length_reverse]; omega), List.take_of_length_le (by rw [List.length_reverse]; omega)]
    refine Eq.trans (List.map_congr_left fun j hj => ?_) (range_getD (cs := more (more cs k 1) (cheap (more cs k 1)) (-1)) (by rw [more_length, more_length, hl]))
    rw [filter_rev_len]
    have := filter_spread 0 j (more (more cs k 1) (cheap (more cs k 1)) (-1)) nn'
    rw [Nat.zero_add] at this
    exact this
/-! ### sums by places -/
theorem wo_range : ∀ {fs cs : List Int}, cs.length = fs.length → ((List.range cs.length).map fun k => fs.getD k 0 * cs.getD k 0).sum = wo fs cs
  | [], [], _ => rfl
  | [], _ :: _, h => by simp at h
  | _ :: _, [], h => by simp at h
  | f :: fs, c :: cs, h => by
    have ih := wo_range (fs := fs) (cs := cs) (by simpa using h)
    rw [List.length_cons, List.range_succ_eq_map, List.map_cons, List.map_map, List.sum_cons]
    have e : wo (f :: fs) (c :: cs) = f * c + wo fs cs := by simp [wo]
    rw [e, ← ih]
    rfl
/-! ### the largest that divides both -/
def divs (a b : Int) : List Int := ((List.range b.toNat).map fun (i : Nat) => 1 + (i : Int)).filter fun k => decide (a % k = 0) && decide (b % k = 0)
theorem last_filter {p : Int → Bool} {g n : Nat} (h1 : 1 ≤ g) (h2 : g ≤ n) (hp : p g = true) (hn : ∀ k : Nat, g < k → k ≤ n → p k = false) : (((List.range n).map fun (i : Nat) => 1 + (i : Int)).filter p).getLast? = some (g : Int) := by
  have e : (List.range n).map (fun (i : Nat) => 1 + (i : Int)) = (List.range (g - 1)).map (fun (i : Nat) => 1 + (i : Int)) ++ ((g : Int) :: (List.range (n - g)).map fun (i : Nat) => 1 + ((g + i : Nat) : Int)) := by
    have : n = (g - 1) + (1 + (n - g)) := by omega
    conv => lhs; rw [this]
    rw [List.range_add, List.map_append, Nat.add_comm 1 (n - g), List.range_succ_eq_map, List.map_cons, List.map_cons, List.map_map, List.map_map]
    congr 2
    · omega
    · refine List.map_congr_left fun i _ => ?_
      show 1 + ((g - 1 + (i + 1) : Nat) : Int) = _
      omega
  rw [e, List.filter_append, List.filter_cons, if_pos hp]
  have e2 : ((List.range (n - g)).map fun (i : Nat) => 1 + ((g + i : Nat) : Int)).filter p = [] := List.filter_eq_nil_iff.mpr fun x hx => by
    obtain ⟨i, hi, rfl⟩ := List.mem_map.mp hx
    have := List.mem_range.mp hi
    have z := hn (1 + (g + i)) (by omega) (by omega)
    rw [show (1 : Int) + ((g + i : Nat) : Int) = ((1 + (g + i) : Nat) : Int) by omega, z]
    decide
  rw [e2, List.getLast?_append]
  rfl
theorem divs_last {a b : Int} (ha : 0 ≤ a) (hb : 0 < b) : (divs a b).getLast? = some (Int.gcd a b : Int) := by
  have g0 : 0 < Int.gcd a b := Int.gcd_pos_of_ne_zero_right a (by omega)
  have g1 : (Int.gcd a b : Int) ≤ b := Int.le_of_dvd hb (Int.gcd_dvd_right a b)
  unfold divs
  refine last_filter (g := Int.gcd a b) (by omega) (by omega) ?_ fun k hk hkn => ?_
  · simp only [Bool.and_eq_true, decide_eq_true_eq]
    exact ⟨Int.emod_eq_zero_of_dvd (Int.gcd_dvd_left a b), Int.emod_eq_zero_of_dvd (Int.gcd_dvd_right a b)⟩
  · refine Bool.eq_false_iff.mpr fun z => ?_
    simp only [Bool.and_eq_true, decide_eq_true_eq] at z
    have d : (k : Int) ∣ (Int.gcd a b : Int) := Int.dvd_coe_gcd (Int.dvd_of_emod_eq_zero z.1) (Int.dvd_of_emod_eq_zero z.2)
    have := Int.le_of_dvd (by omega) d
    omega
/-! ### the nested rule -/
def letsL (ls sold : List Int) (k : Nat) : List Nat := ((List.range (sold.length - k)).map (k + ·)).filter fun j => decide (ls.getD j 0 < ((more sold k 1).take (j + 1)).sum)
def letsB (ls sold : List Int) (k : Nat) : Bool := decide (letsL ls sold k = [])
def taken (h : Hall) (ls sold : List Int) (k : Nat) : Bool := decide (sold.sum < h.s) && letsB ls sold k
def stepF (h : Hall) (ls sold : List Int) (k : Nat) : List Int := if taken h ls sold k then more sold k 1 else sold
theorem letsB_iff {ls sold : List Int} {k : Nat} : letsB ls sold k = true ↔ ∀ j, k ≤ j → j < sold.length → ((more sold k 1).take (j + 1)).sum ≤ ls.getD j 0 := by
  unfold letsB letsL
  rw [decide_eq_true_iff, List.filter_eq_nil_iff]
  constructor
  · intro h j h1 h2
    have := h j (List.mem_map.mpr ⟨j - k, List.mem_range.mpr (by omega), by omega⟩)
    simp only [decide_eq_true_eq] at this
    omega
  · intro h j hj
    obtain ⟨i, hi, rfl⟩ := List.mem_map.mp hj
    have := List.mem_range.mp hi
    have := h (k + i) (by omega) (by omega)
    simp only [decide_eq_true_eq]
    omega
theorem more_range (cs : List Int) (k : Nat) : ((List.range cs.length).map fun j => cs.getD j 0 + if j = k then 1 else 0) = more cs k 1 := by
  unfold more
  refine List.ext_getElem (by rw [List.length_map, List.length_range, List.length_set]) fun i h1 h2 => ?_
  have h3 : i < cs.length := by rwa [List.length_set] at h2
  rw [List.getElem_map, List.getElem_range, List.getElem_set]
  by_cases e : k = i
  · subst e
    rw [if_pos rfl, if_pos rfl]
  · rw [if_neg e, if_neg (fun z => e z.symm), gD h3]
    omega
end Bl

set_option Elab.async false
set_option linter.all false
set_option autoImplicit false
set_option maxRecDepth 100000
set_option maxHeartbeats 4000000
namespace Bl
open PySem PySem.Spec PyProof.Rows L2 LamX StX
theorem cut_ints (l : List Int) (n : Nat) : cut (l.map PyData.int) none (some ((n : Int) + 1)) = (l.take (n + 1)).map .int := by
  rw [show (n : Int) + 1 = ((n + 1 : Nat) : Int) by omega, cut_to, List.map_take]
theorem eqv_ints_nil (l : List Nat) : PyData.eqv (.list (l.map fun (i : Nat) => .int (i : Int))) (.list []) = decide (l = []) := by
  cases l <;> rfl
theorem rngD_from (n k : Nat) : rngD (k : Int) ((n : Int) - (k : Int)).toNat = ((List.range (n - k)).map (k + ·)).map fun (i : Nat) => .int (i : Int) := by
  unfold rngD
  rw [List.map_map, show ((n : Int) - (k : Int)).toNat = n - k by omega]
  refine List.map_congr_left fun i _ => ?_
  show PyData.int _ = .int ((k + i : Nat) : Int)
  congr 1
theorem set_more (sold : List Int) (k : Nat) : (sold.map PyData.int).set k (.int (sold.getD k 0 + 1)) = (more sold k 1).map .int := by
  unfold more
  rw [List.map_set]
theorem at_gD {l : List Int} {n : Nat} (h : n < l.length) : l[n]? = some (l.getD n 0) := by rw [List.getElem?_eq_getElem h, gD h]
section
variable {P : Program} {w : World} {K : PySem.W.Frag} {mg : Str → Option Value} {base : Heap}
inductive PreLets : List PyData → PyData → Prop
  | mk (h : Hall) (ls sold : List Int) (n : Nat) : sold.length ≤ 1000 → ls.length = sold.length → n < sold.length → PreLets [h.d, nestD ls, dIs sold, .int n] (.bool (letsB ls sold n))
theorem ok_lets (M : Md mg) (D : FDef K mg "_law_lets" s__law_lets) : Fn P w K mg base 1 "_law_lets" 4 PreLets := by
  refine fn_mkP D sc__law_lets (fun _ _ _ _ _ _ us hl => match us, hl with | [_, _, _, _], _ => rfl) rfl (fun _ _ h => by cases h; rfl) (fun _ _ h => by cases h; simp only [nols, nol_hall, nol_nestD, nol_dIs, nol, Bool.and_self]) ?_
  intro X cdv A outer s f E B H vs Q ds d hX hr k nm r hp q
  cases hp with
  | mk h ls sold n hl hls hn =>
    obtain ⟨x, y, z, u, rfl, r0, r1, r2, r3⟩ := iss4 r
    subst hX
    refine run_ifF (EvT.cast (evt_eqS (ev_ixT (ds := [.str "nested", dIs ls]) (ev_var 1 rfl r1) ev_int rfl) ev_str) (by decide +kernel)) k fun H1 k1 => ?_
    refine run_ifF (EvT.cast (evt_eqS (ev_ixT (ds := [.str "nested", dIs ls]) (ev_var 1 rfl r1) ev_int rfl) ev_str) (by decide +kernel)) (k.trans k1) fun H2 k2 => ?_
    refine run_ifF (EvT.cast (evt_eqS (ev_ixT (ds := [.str "nested", dIs ls]) (ev_var 1 rfl r1) ev_int rfl) ev_str) (by decide +kernel)) (k.trans (k1.trans k2)) fun H3 k3 => ?_
    refine run_ifF (EvT.cast (evt_eqS (ev_ixT (ds := [.str "nested", dIs ls]) (ev_var 1 rfl r1) ev_int rfl) ev_str) (by decide +kernel)) (k.trans (k1.trans (k2.trans k3))) fun H4 k4 => ?_
    refine run_ifF (EvT.cast (evt_eqS (ev_ixT (ds := [.str "nested", dIs ls]) (ev_var 1 rfl r1) ev_int rfl) ev_str) (by decide +kernel)) (k.trans (k1.trans (k2.trans (k3.trans k4)))) fun H5 k5 => ?_
    have e5 := k1.trans (k2.trans (k3.trans (k4.trans k5)))
    refine run_set 4 (LcJ.ev (lcN (own := [("_law_k", 5)]) (List.range sold.length) (fun (i : Nat) => .int (i : Int)) (fun j => .int (sold.getD j 0 + if j = n then 1 else 0)) 5 sc__law_lets.nd (blkOk_by (N := N__law_lets) (sc := defScope s__law_lets) (by decide +kernel))
      (EvI.cast (evi_rng1 M.z_range (ev_len M.z_len (ev_var 2 rfl r2)) ⟨by omega, by omega⟩) (rngD_0 _)) (fun j hj v3 B3 kB3 i3 s0 H0 C cl fp => ?_) (sl_of (by rw [List.length_range]; omega)))) (k.trans e5) (fun v H6 k6 rv => ?_) sc__law_lets.nd
    · have hj' := List.mem_range.mp hj
      refine Ev.cast (ev_add (ev_at (ev_var 2 rfl (r2.up kB3)) (ev_var 5 rfl i3) (at_gD hj')) (ev_intB M.z_int (ev_eqI (ev_var 5 rfl i3) (ev_var 3 rfl (r3.up kB3))))) ?_
      congr 2
      by_cases e : j = n
      · subst e; simp
      · have : ¬ (j : Int) = (n : Int) := by omega
        simp [e, this]
    have e6 := e5.trans k6
    have eB := k.trans e6
    have rm : Is H6 v (.list ((more sold n 1).map .int)) := by
      have := rv.is
      rw [show ((List.range sold.length).map fun (j : Nat) => PyData.int (sold.getD j 0 + if j = n then 1 else 0)) = (more sold n 1).map .int by rw [← more_range, List.map_map]; rfl] at this
      exact this
    refine run_setLc (B := H6) 6 (lcNT (own := [("_law_k", 5)]) ((List.range (sold.length - n)).map (n + ·)) (fun (i : Nat) => .int (i : Int)) (fun j => decide (ls.getD j 0 < ((more sold n 1).take (j + 1)).sum)) (fun (i : Nat) => .int (i : Int)) 5 sc__law_lets.nd (blkOk_by (N := N__law_lets) (sc := defScope s__law_lets) (by decide +kernel))
      (EvI.cast (evi_rng2 M.z_range (ev_var 3 rfl (r3.up eB)) (ev_len M.z_len (ev_var 2 rfl (r2.up eB))) ⟨by omega, by omega⟩ ⟨by omega, by omega⟩) (rngD_from _ _))
      (fun j hj v3 B3 kB3 i3 s0 H0 C cl fp => evs_one (evt_gt (ev_sumL M.z_sum (Ev.cast (ev_slL (ev_var 4 rfl (rm.up kB3)) evp_n (evp_s (ev_add (ev_var 5 rfl i3) ev_int))) (congrArg PyData.list (cut_ints _ j)))) (ev_at (ev_ixT (ds := [.str "nested", dIs ls]) (ev_var 1 rfl (r1.up (eB.trans kB3))) ev_int rfl) (ev_var 5 rfl i3) (at_gD ?_))))
      (fun j hj _ v3 B3 kB3 i3 s0 H0 C cl fp => ev_var 5 rfl i3) (sl_of (by rw [List.length_map, List.length_range]; omega))) (Ex.refl _) (fun v7 H7 k7 r7 => ?_)
    · obtain ⟨i, hi, rfl⟩ := List.mem_map.mp hj
      have := List.mem_range.mp hi
      omega
    · refine run_ret (B := H7) (Ev.cast (ev_eqD hr.units (ev_var 6 rfl r7) (ev_lst eva_nil) (pl_sh (n := 1) (pls_map (n := 0) (f := fun (i : Nat) => PyData.int (i : Int)) (fun _ => rfl) _) (by decide)) (by decide +kernel)) ?_) (Ex.refl _) fun v8 H8 k8 r8 => q _ _ (e6.trans (k7.trans k8)) (r8.pure _ _ rfl)
      exact congrArg PyData.bool (eqv_ints_nil _)
inductive PreStep : List PyData → PyData → Prop
  | mk (h : Hall) (ls sold : List Int) (n : Nat) : sold.length ≤ 1000 → ls.length = sold.length → n < sold.length → PreStep [h.d, nestD ls, dIs sold, .int 0, .int n] (.tuple [dIs (stepF h ls sold n), .int 0, .str (if taken h ls sold n then "taken" else "refused")])
theorem ok_step (M : Md mg) (D : FDef K mg "_law_step" s__law_step) (F1 : Fn P w K mg base 1 "_law_lets" 4 PreLets) : Fn P w K mg base 2 "_law_step" 5 PreStep := by
  refine fn_mkP D sc__law_step (fun _ _ _ _ _ _ us hl => match us, hl with | [_, _, _, _, _], _ => rfl) rfl (fun _ _ h => by cases h; rfl) (fun _ _ h => by cases h; simp only [nols, nol_hall, nol_nestD, nol_dIs, nol, Bool.and_self]) ?_
  intro X cdv A outer s f E B H vs Q ds d hX hr k nm r hp q
  cases hp with
  | mk h ls sold n hl hls hn =>
    obtain ⟨x, y, z, u, t, rfl, r0, r1, r2, r3, r4⟩ := iss5 r
    subst hX
    refine run_set 5 (ev_listOfT M.z_list (ev_var 2 rfl r2)) k (fun v H1 k1 rv => ?_) sc__law_step.nd
    cases rv with
    | lst g0 h0 rs =>
      rename_i p ws
      have eB := k.trans k1
      have pH : H p = none := fresh_l nm eB g0 h0
      refine run_if (B := B) (t := taken h ls sold n) (evt_and2 (evt_lt (ev_sumT M.z_sum (ev_var 2 rfl r2)) (ev_s (ev_var 0 rfl r0))) fun _ => evt_val (ev_call F1 hr (.mk h ls sold n hl hls hn) (eva_cons (ev_var 0 rfl r0) (eva_cons (ev_var 1 rfl r1) (eva_cons (ev_var 2 rfl r2) (eva_cons (ev_var 4 rfl r4) eva_nil)))))) eB (fun ht H2 k2 => ?_) fun ht H2 k2 => ?_
      · have h2 := k2.lst h0
        have eB2 := eB.trans k2
        have rl : Is H2 (.ref p) (.list (sold.map .int)) := .lst trivial h2 ((rs.mono (fun _ z => z) k2).is)
        have rs2 : Rps (fun _ => False) H2 ws (sold.map .int) := (rs.mono (fun _ z => z) k2).pure _ _ (nols_map (fun _ => rfl) _)
        refine run_setL (B := H2) (n := n) 5 rfl h2 (ev_add (ev_atL (ev_var 5 rfl rl) (ev_var 4 rfl (r4.up eB2)) (at_gD hn)) ev_int) (ev_var 4 rfl (r4.up eB2)) (Ex.refl _) ?_ fun v3 H3 k3 r3' => ?_
        · unfold L2.ixN
          rw [rs2.length, List.length_map, if_pos (by omega), if_pos (by omega)]
          rfl
        · cases r3'
          have h3 := k3.lst h2
          have rs3 : Iss (upd H3 p (.lst (ws.set n (.int (sold.getD n 0 + 1))))) (ws.set n (.int (sold.getD n 0 + 1))) ((more sold n 1).map .int) := by
            rw [← set_more]
            exact (((rs2.mono (fun _ z => z) k3).set n (.int _)).updp h3 trivial fun z => z).is
          have e3 : Ex H (upd H3 p (.lst (ws.set n (.int (sold.getD n 0 + 1))))) := (k1.trans (k2.trans k3)).mut pH h3 trivial
          have eB3 := k.trans e3
          refine run_ret (B := upd H3 p (.lst (ws.set n (.int (sold.getD n 0 + 1))))) (ev_tup (eva_cons (ev_tupleOf M.z_tuple (ev_var (v := .ref p) 5 rfl (.lst trivial upd_same rs3 : Is _ _ _))) (eva_cons (ev_var 3 rfl (r3.up eB3)) (eva_cons ev_str eva_nil)))) (Ex.refl _) fun v4 H4 k4 r4' => q _ _ (e3.trans k4) ?_
          rw [show stepF h ls sold n = more sold n 1 by unfold stepF; rw [if_pos ht], ht]
          exact r4'.pure _ _ (by show nols [_, _, _] = true; simp only [nols, nol, Bool.and_self, Bool.and_true]; exact nol_dIs _)
      · have e2 := k1.trans k2
        refine run_nil (run_setLc 6 (lcNT (own := [("_law_k", 7)]) (List.range n) (fun (i : Nat) => .int (i : Int)) (fun j => decide (0 < sold.getD j 0)) (fun (i : Nat) => .int (i : Int)) 7 sc__law_step.nd (blkOk_by (N := N__law_step) (sc := defScope s__law_step) (by decide +kernel))
          (EvI.cast (evi_rng1 M.z_range (ev_var 4 rfl r4) ⟨by omega, by omega⟩) (rngD_0 _)) (fun j hj v3 B3 kB3 i3 s0 H0 C cl fp => evs_one (evt_gt (ev_at (ev_var 2 rfl (r2.up kB3)) (ev_var 7 rfl i3) (at_gD ?_)) ev_int))
          (fun j hj _ v3 B3 kB3 i3 s0 H0 C cl fp => ev_var 7 rfl i3) (sl_of (by rw [List.length_range]; omega))) (k.trans e2) (fun v3 H3 k3 r3' => ?_))
        · have := List.mem_range.mp hj
          omega
        · have e3 := e2.trans k3
          refine run_ifF (B := B) (EvT.cast (evt_and3 (t := false) (u := false) (w := false) (EvT.cast (evt_eqS (ev_ixT (ds := [.str "nested", dIs ls]) (ev_var 1 rfl r1) ev_int rfl) ev_str) (by decide +kernel)) (fun z => nomatch z) (fun z => nomatch z)) rfl) (k.trans e3) fun H4 k4 => ?_
          have e4 := e3.trans k4
          refine run_ret (ev_tup (eva_cons (ev_var 2 rfl r2) (eva_cons (ev_var 3 rfl r3) (eva_cons ev_str eva_nil)))) (k.trans e4) (qk ?_ e4)
          rw [show stepF h ls sold n = sold by unfold stepF; rw [if_neg (by rw [ht]; decide)], ht] at q
          exact q
end
end Bl

set_option Elab.async false
set_option linter.all false
set_option autoImplicit false
set_option maxRecDepth 100000
set_option maxHeartbeats 4000000
namespace Bl
open PySem PySem.Spec PyProof.Rows L2 LamX StX
theorem spread_take : ∀ (a i : Nat) (cs : List Int), i < cs.length → spread a (cs.take (i + 1)) = spread a (cs.take i) ++ List.replicate (cs.getD i 0).toNat ((a + i : Nat) : Int)
  | _, _, [], h => by simp at h
  | a, 0, c :: cs, _ => by
    show List.replicate c.toNat (a : Int) ++ spread (a + 1) (cs.take 0) = [] ++ List.replicate c.toNat (a : Int)
    rw [List.take_zero]
    simp [spread]
  | a, i + 1, c :: cs, h => by
    rw [List.take_succ_cons, List.take_succ_cons]
    unfold spread
    rw [spread_take (a + 1) i cs (by simpa using h), List.append_assoc, show a + 1 + i = a + (i + 1) by omega]
    rfl
theorem ev_repL {X : Cx} {σ : L2.St} {B : Hp} {a b : Expr} {pos : Pos} {d : PyData} {n : Nat} (ha : Ev X σ B a (.list [d])) (hb : Ev X σ B b (.int (n : Int))) (h2 : n ≤ 1000) : Ev X σ B (.BinOp a .Mult b pos) (.list (List.replicate n d)) := by
  refine ev_op op_rep (fun G H x y Q hx hy q => ?_) ha hb
  cases hy
  cases hx with
  | lst h0 h1 h2 =>
    cases h2 with
    | cons k1 k2 =>
      cases k2
      refine ⟨_, n, _, rfl, rfl, h1, by omega, by omega, sl_le (by simp; omega), fun p hp => q _ _ (Ex.new hp) (.lst (.inr hp) upd_same ?_)⟩
      rw [Int.toNat_natCast, flat_one]
      exact (Rps.rep k1 n).mono (fun _ z => .inl z) (Ex.new hp)
section
variable {P : Program} {w : World} {K : PySem.W.Frag} {mg : Str → Option Value} {base : Heap}
inductive PreDearest : List PyData → PyData → Prop
  | mk (h : Hall) (some : List Int) : h.Ok → some.length ≤ 1000 → PreDearest [h.d, .list (some.map .int)] (dIs (dearest h.s h.fs.length some))
theorem ok_dearest (M : Md mg) (D : FDef K mg "_law_dearest" s__law_dearest) : Fn P w K mg base 1 "_law_dearest" 2 PreDearest := by
  refine fn_mkL D sc__law_dearest (fun _ _ _ _ _ _ us hl => match us, hl with | [_, _], _ => rfl) rfl (fun _ _ h => by cases h; rfl) (fun _ _ h => by cases h; exact nol_dIs _) ?_
  intro X cdv A outer s f E H vs Q ds d hX hr r hp q
  cases hp with
  | mk h some o hl =>
    obtain ⟨x, y, rfl, r0, r1⟩ := iss2 r
    subst hX
    have n4 := o.n4
    have s1 := o.s1
    have ecut : cut (((srt some).map PyData.int).reverse) none (.some h.s) = ((srt some).reverse.take h.s.toNat).map .int := by
      have e : h.s = ((h.s.toNat : Nat) : Int) := by omega
      conv => lhs; rw [e]
      rw [cut_to, ← List.map_reverse, ← List.map_take]
    have hl2 : (((srt some).reverse).take h.s.toNat).length ≤ 1000 := by
      have : (srt some).length = some.length := by unfold srt; rw [List.length_mergeSort]
      rw [List.length_take, List.length_reverse]
      omega
    refine run_set (B := H) 2 (Ev.cast (ev_slL (ev_revL (ev_sorted M.z_sorted (ev_var 1 rfl r1))) evp_n (evp_s (ev_s (ev_var 0 rfl r0)))) (congrArg PyData.list ecut)) (Ex.refl H) (fun v H1 k1 rv => ?_) sc__law_dearest.nd
    refine run_ret (B := H1) (Ev.cast (ev_tupleOf M.z_tuple (LcJ.ev (lcN (own := [("_law_k", 4)]) (List.range h.fs.length) (fun (i : Nat) => .int (i : Int)) (fun j => .int (((((srt some).reverse.take h.s.toNat).filter fun x => decide (x = (j : Int))).length : Nat) : Int)) 4 sc__law_dearest.nd (blkOk_by (N := N__law_dearest) (sc := defScope s__law_dearest) (by decide +kernel))
      (EvI.cast (evi_rng1 M.z_range (ev_len M.z_len (ev_fs (ev_var 0 rfl (r0.up k1)))) ⟨by omega, by omega⟩) (rngD_0 _)) (fun j hj v3 B3 kB3 i3 s0 H0 C cl fp => ?_) (sl_of (by rw [List.length_range]; omega))))) ?_) (Ex.refl _) fun v4 H4 k4 r4 => q _ _ (k1.trans k4) r4.is
    · refine Ev.cast (ev_lenL M.z_len (LcJ.ev (lcNT (own := [("_law_one", 3)]) ((srt some).reverse.take h.s.toNat) .int (fun x => decide (x = (j : Int))) .int 3 sc__law_dearest.nd (blkOk_by (by rfl))
        (evi_list (ev_var 2 rfl (rv.is.up kB3))) (fun c hc v5 B5 kB5 i5 s5 H5 C5 cl5 fp5 => evs_one (evt_eqI (ev_var 3 rfl i5) (ev_var 4 rfl (i3.up kB5)))) (fun c hc _ v5 B5 kB5 i5 s5 H5 C5 cl5 fp5 => ev_var 3 rfl i5) (sl_of (by omega))))) ?_
      rw [List.length_map]
    · unfold dearest dIs
      rw [List.map_map]
      rfl
inductive PreLSum : List PyData → PyData → Prop
  | mk (h : Hall) (cs : List Int) : h.Ok → cs.length = h.fs.length → PreLSum [h.d, dIs cs] (.int (wo h.fs cs))
theorem ok_lsum (M : Md mg) (D : FDef K mg "_law_sum" s__law_sum) : Fn P w K mg base 1 "_law_sum" 2 PreLSum := by
  refine fn_mkP D sc__law_sum (fun _ _ _ _ _ _ us hl => match us, hl with | [_, _], _ => rfl) rfl (fun _ _ h => by cases h; rfl) (fun _ _ h => by cases h; simp only [nols, nol_hall, nol_dIs, nol, Bool.and_self]) ?_
  intro X cdv A outer s f E B H vs Q ds d hX hr k nm r hp q
  cases hp with
  | mk h cs o hl =>
    obtain ⟨x, y, rfl, r0, r1⟩ := iss2 r
    subst hX
    have n4 := o.n4
    rw [← wo_range hl] at q
    refine run_ret (ev_sumL (ns := (List.range cs.length).map fun k => h.fs.getD k 0 * cs.getD k 0) M.z_sum (Ev.cast (LcJ.ev (lcN (own := [("_law_k", 2)]) (List.range cs.length) (fun (i : Nat) => .int (i : Int)) (fun j => .int (h.fs.getD j 0 * cs.getD j 0)) 2 sc__law_sum.nd (blkOk_by (N := N__law_sum) (sc := defScope s__law_sum) (by decide +kernel))
      (EvI.cast (evi_rng1 M.z_range (ev_len M.z_len (ev_var 1 rfl r1)) ⟨by omega, by omega⟩) (rngD_0 _)) (fun j hj v3 B3 kB3 i3 s0 H0 C cl fp => ?_) (sl_of (by rw [List.length_range]; omega)))) (by rw [List.map_map]; rfl))) k q
    have hj' := List.mem_range.mp hj
    have := o.fr _ (gD_mem (l := h.fs) (i := j) (by omega))
    exact ev_mul (ev_at (ev_fs (ev_var 0 rfl (r0.up kB3))) (ev_var 2 rfl i3) (at_gD (by omega))) (ev_at (ev_var 1 rfl (r1.up kB3)) (ev_var 2 rfl i3) (at_gD hj')) (.inl (by omega))
inductive PreLowest : List PyData → PyData → Prop
  | mk (a b : Int) : 0 ≤ a → 0 ≤ b → b ≤ 100000 → PreLowest [.int a, .int b] (frD (frac a b))
theorem ok_lowest (M : Md mg) (D : FDef K mg "_law_lowest" s__law_lowest) : Fn P w K mg base 1 "_law_lowest" 2 PreLowest := by
  refine fn_mkP D sc__law_lowest (fun _ _ _ _ _ _ us hl => match us, hl with | [_, _], _ => rfl) rfl (fun _ _ h => by cases h; rfl) (fun _ _ h => by cases h; rfl) ?_
  intro X cdv A outer s f E B H vs Q ds d hX hr k nm r hp q
  cases hp with
  | mk a b ha hb hl =>
    obtain ⟨x, y, rfl, r0, r1⟩ := iss2 r
    subst hX
    refine run_if (evt_eqI (ev_var 1 rfl r1) ev_int) k (fun z H1 k1 => ?_) fun z H1 k1 => ?_
    · have hz := of_decide_eq_true z
      subst hz
      exact run_ret (ev_tup (eva_cons ev_int (eva_cons ev_int eva_nil))) (k.trans k1) (qk q k1)
    · have hz := of_decide_eq_false z
      have eR : rngD 1 (b + 1 - 1).toNat = ((List.range b.toNat).map fun (i : Nat) => 1 + (i : Int)).map .int := by
        unfold rngD
        rw [List.map_map, show (b + 1 - 1).toNat = b.toNat by omega]
        rfl
      refine run_nil (run_setLc 2 (lcNT (own := [("_law_k", 3)]) ((List.range b.toNat).map fun (i : Nat) => 1 + (i : Int)) .int (fun k => decide (a % k = 0) && decide (b % k = 0)) .int 3 sc__law_lowest.nd (blkOk_by (N := N__law_lowest) (sc := defScope s__law_lowest) (by decide +kernel))
        (EvI.cast (evi_rng2 M.z_range ev_int (ev_add (ev_var 1 rfl r1) ev_int) ⟨by omega, by omega⟩ ⟨by omega, by omega⟩) eR)
        (fun c hc v3 B3 kB3 i3 s0 H0 C cl fp => evs_one (evt_and2 (evt_eqI (ev_mod (ev_intI M.z_int (ev_var 0 rfl (r0.up kB3))) (ev_var 3 rfl i3) ?_) ev_int) fun _ => evt_eqI (ev_mod (ev_intI M.z_int (ev_var 1 rfl (r1.up kB3))) (ev_var 3 rfl i3) ?_) ev_int))
        (fun j hj _ v3 B3 kB3 i3 s0 H0 C cl fp => ev_var 3 rfl i3) (sl_of (by rw [List.length_map, List.length_range]; omega))) (k.trans k1) fun v2 H2 k2 rv => ?_)
      · obtain ⟨i, hi, rfl⟩ := List.mem_map.mp hc
        omega
      · obtain ⟨i, hi, rfl⟩ := List.mem_map.mp hc
        omega
      · have k12 := k1.trans k2
        have kB := k.trans k12
        have g0 : 0 < Int.gcd a b := Int.gcd_pos_of_ne_zero_right a hz
        have g1 : (Int.gcd a b : Int) ≤ b := Int.le_of_dvd (by omega) (Int.gcd_dvd_right a b)
        have cd : ∀ i : Int, CDiv i (Int.gcd a b : Nat) := fun i => ⟨by omega, by omega⟩
        have hlast : (((divs a b)).map PyData.int).getLast? = some (.int (Int.gcd a b : Nat)) := by rw [List.getLast?_map, divs_last ha (by omega)]; rfl
        refine run_ret (B := H2) (Ev.cast (ev_tup (eva_cons (ev_fdiv (ev_var 0 rfl (r0.up kB)) (ev_ixL (ev_var 2 rfl rv) ev_neg1 (atI_last hlast)) (cd a)) (eva_cons (ev_fdiv (ev_var 1 rfl (r1.up kB)) (ev_ixL (ev_var 2 rfl rv) ev_neg1 (atI_last hlast)) (cd b)) eva_nil))) ?_) (Ex.refl _) fun v3 H3 k3 r3 => q _ _ (k12.trans k3) (r3.pure _ _ rfl)
        unfold frac frD
        rw [if_neg hz]
inductive PreSeenMore : List PyData → PyData → Prop
  | mk (h : Hall) (cs : List Int) (n : Nat) : h.Ok → cs.length = h.fs.length → (∀ c ∈ cs, 0 ≤ c) → cs.sum ≤ h.s → n < cs.length → PreSeenMore [h.d, dIs cs, .int n] (dIs (seenW h.s cs n))
theorem ok_seen_more (M : Md mg) (D : FDef K mg "_law_seen_more" s__law_seen_more) (F1 : Fn P w K mg base 1 "_law_dearest" 2 PreDearest) : Fn P w K mg base 2 "_law_seen_more" 3 PreSeenMore := by
  refine fn_mkP D sc__law_seen_more (fun _ _ _ _ _ _ us hl => match us, hl with | [_, _, _], _ => rfl) rfl (fun _ _ h => by cases h; rfl) (fun _ _ h => by cases h; simp only [nols, nol_hall, nol_dIs, nol, Bool.and_self]) ?_
  intro X cdv A outer s f E B H vs Q ds d hX hr k nm r hp q
  cases hp with
  | mk h cs n o hl hc hsum hn =>
    obtain ⟨x, y, z, rfl, r0, r1, r2⟩ := iss3 r
    subst hX
    have n4 := o.n4
    have s1 := o.s1
    have s6 := o.s6
    have hS := spread_length 0 cs hc
    have hlen : ∀ i : Nat, i ≤ cs.length → (spread 0 (cs.take i)).length ≤ 6 := fun i hi => by
      have h1 := spread_length 0 (cs.take i) fun c h => hc c (List.mem_of_mem_take h)
      have h2 := sum_nonneg (cs := cs.drop i) fun c h => hc c (List.mem_of_mem_drop h)
      have h3 : (cs.take i).sum + (cs.drop i).sum = cs.sum := by rw [← List.sum_append, List.take_append_drop]
      omega
    refine run_set (B := B) 3 (ev_lst (eva_cons (ev_var 2 rfl r2) eva_nil)) k (fun v H1 k1 rv => ?_) sc__law_seen_more.nd
    refine run_forN (B := B) 4 (EvI.cast (evi_rng1 M.z_range (ev_len M.z_len (ev_var 1 rfl r1)) ⟨by omega, by omega⟩) (rngD_0 _)) (k.trans k1) (fun B2 H2 k2 kB2 k22 gB => ?_) sc__law_seen_more.nd
    refine ⟨fun i σ' H' => Ex H H' ∧ Ex B2 H' ∧ ∃ vr u, σ' = [some x, some y, some z, some vr, u] ∧ Is H' vr (.list (((n : Int) :: spread 0 (cs.take i)).map .int)), ⟨k1.trans k2, k22, v, none, rfl, rv.is.up k2⟩, fun i σ' H' p => p.2.1, ?_, ?_⟩
    · rintro i d vv σ' H' H'' hd ⟨e1, e2, vr, u, rfl, rr⟩ e3 rvv
      rw [← rngD_0] at hd
      obtain ⟨rfl, hi⟩ := rngD_at hd
      rw [Int.zero_add] at rvv
      have eB := k.trans (e1.trans e3)
      have hci := hc _ (gD_mem hi)
      have hti := spread_take 0 i cs hi
      rw [Nat.zero_add] at hti
      have l1 := hlen (i + 1) hi
      rw [hti, List.length_append, List.length_replicate] at l1
      refine run_set (B := H'') 3 (ev_catL (ev_var 3 rfl (rr.up e3)) (ev_repL (n := (cs.getD i 0).toNat) (ev_lst (eva_cons (ev_var 4 rfl rvv.is) eva_nil)) (Ev.cast (ev_at (ev_var 1 rfl (r1.up eB)) (ev_var 4 rfl rvv.is) (at_gD hi)) (congrArg PyData.int (by omega))) (by omega)) (sl_le (by rw [List.length_map, List.length_cons, List.length_replicate]; omega))) (Ex.refl _) (fun v4 H4 k4 r4 => run_nil ⟨e1.trans (e3.trans k4), e2.trans (e3.trans k4), v4, _, rfl, ?_⟩) sc__law_seen_more.nd
      have := r4.is
      rw [hti]
      rw [← List.map_replicate, ← List.map_append] at this
      exact this
    · rintro σ' H' ⟨e1, e2, vr, u, rfl, rr⟩
      rw [List.length_map, List.length_range, Int.toNat_natCast, List.take_of_length_le (Nat.le_refl _)] at rr
      have eB := k.trans e1
      rw [← dearest_seen (by omega) hl (by omega) hc hsum] at q
      exact run_ret (B := H') (ev_call F1 hr (.mk h _ o (by rw [List.length_cons]; omega)) (eva_cons (ev_var 0 rfl (r0.up eB)) (eva_cons (ev_var 3 rfl rr) eva_nil))) (Ex.refl _) fun v4 H4 k4 r4 => q _ _ (e1.trans k4) (r4.pure _ _ (nol_dIs _))
end
end Bl

set_option Elab.async false
set_option linter.all false
set_option autoImplicit false
set_option maxRecDepth 100000
set_option maxHeartbeats 4000000
namespace Bl
open PySem PySem.Spec PyProof.Rows L2 LamX StX
theorem pt_ifE {X : Cx} {c a b : Expr} {pos : Pos} {tc ta tb : TT} (hc : PT X c tc) (ha : PT X a ta) (hb : PT X b tb) : PT X (.IfExp c a b pos) (fun σ H Q => tc σ H fun t H1 => if t = true then ta σ H1 Q else tb σ H1 Q) := by
  refine ⟨fun pins s σ H Q I h => isTrue_IfExp (thn (hc.run pins s σ H _ I h) fun d t ⟨G, J, y⟩ => ?_)⟩
  cases d
  · exact hb.run pins t σ G Q J y
  · exact ha.run pins t σ G Q J y
theorem evt_if {X : Cx} {σ : L2.St} {B : Hp} {c a b : Expr} {pos : Pos} {t u : Bool} (h : EvT X σ B c t) (h1 : t = true → EvT X σ B a u) (h0 : t = false → EvT X σ B b u) : EvT X σ B (.IfExp c a b pos) u := fun H k Q q => Tst.of (pt_ifE Tst.pt Tst.pt Tst.pt) (h H k _ fun H' k' => by
  cases t with
  | true => exact h1 rfl H' (k.trans k') Q fun H2 k2 => q H2 (k'.trans k2)
  | false => exact h0 rfl H' (k.trans k') Q fun H2 k2 => q H2 (k'.trans k2))
def sortD (rs : Bool) : PyData := .str (if rs then "rising" else "any")
def mayLo (rs : Bool) (last : Int) : Int := if rs then (if last > 0 then last else 0) else 0
/-- a state with a last fare -/
def g3D (g : Gm) (last : Int) : PyData := .tuple [dIs g.1, dIs g.2, .int last]
theorem nol_g3D (g : Gm) (last : Int) : nol (g3D g last) = true := by
  show nols [dIs g.1, dIs g.2, .int last] = true
  simp only [nols, nol_dIs, nol, Bool.and_self]
def topF (rg b : Bool) (a : Int × Int) (as : List (Int × Int)) : Int × Int := if b then worseF rg a as else betterF rg a as
def topI (rg b : Bool) (a : Int × Int) (as : List (Int × Int)) : Int × Int := as.foldl (fun f o => if (if b then isW rg o f else isW rg f o) then o else f) a
theorem isW_self (rg : Bool) (a : Int × Int) : isW rg a a = false := by
  unfold isW
  cases rg <;> simp
theorem topI_cons (rg b : Bool) (a : Int × Int) (as : List (Int × Int)) : topI rg b a (a :: as) = topF rg b a as := by
  unfold topI topF worseF betterF
  cases b <;> simp [isW_self]
theorem topI_take {rg b : Bool} {x o : Int × Int} {xs : List (Int × Int)} {i : Nat} (h : xs[i]? = some o) : topI rg b x (xs.take (i + 1)) = if (if b then isW rg o (topI rg b x (xs.take i)) else isW rg (topI rg b x (xs.take i)) o) then o else topI rg b x (xs.take i) := by
  unfold topI
  rw [List.take_add_one, h, Option.toList_some, List.foldl_append]
  rfl
theorem topI_sm {rg b : Bool} : ∀ {x : Int × Int} {xs : List (Int × Int)}, Sm x → (∀ y ∈ xs, Sm y) → Sm (topI rg b x xs)
  | x, [], h, _ => h
  | x, y :: xs, h, k => by
    unfold topI
    rw [List.foldl_cons]
    refine topI_sm (x := if (if b then isW rg y x else isW rg x y) then y else x) (xs := xs) ?_ fun z hz => k z (List.mem_cons_of_mem _ hz)
    by_cases hc : (if b then isW rg y x else isW rg x y) = true
    · rw [if_pos hc]; exact k y List.mem_cons_self
    · rw [if_neg hc]; exact h
section
variable {P : Program} {w : World} {K : PySem.W.Frag} {mg : Str → Option Value} {base : Heap}
inductive PreMay : List PyData → PyData → Prop
  | mk (h : Hall) (rs : Bool) (last : Int) : h.Ok → -1 ≤ last → last ≤ 1000 → PreMay [h.d, sortD rs, .int last] (.list (rngD (mayLo rs last) ((h.fs.length : Int) - mayLo rs last).toNat))
theorem ok_may (M : Md mg) (D : FDef K mg "_law_may" s__law_may) : Fn P w K mg base 1 "_law_may" 3 PreMay := by
  refine fn_mkP D sc__law_may (fun _ _ _ _ _ _ us hl => match us, hl with | [_, _, _], _ => rfl) rfl (fun _ _ h => by cases h; rfl) (fun _ _ h => by cases h; simp only [nols, nol_hall, nol, sortD, Bool.and_self]) ?_
  intro X cdv A outer s f E B H vs Q ds d hX hr k nm r hp q
  cases hp with
  | mk h rs last o h1 h2 =>
    obtain ⟨x, y, z, rfl, r0, r1, r2⟩ := iss3 r
    subst hX
    have n4 := o.n4
    have hlo : 0 ≤ mayLo rs last ∧ mayLo rs last ≤ 1000 := by
      unfold mayLo
      split
      · split <;> omega
      · omega
    refine run_ret (ev_listRg2 M.z_list M.z_range (i := mayLo rs last) (ev_if (t := rs) (EvT.cast (evt_eqS (ev_var 1 rfl r1) ev_str) (by cases rs <;> decide +kernel)) (fun e => ?_) fun e => ?_) (ev_len M.z_len (ev_fs (ev_var 0 rfl r0))) hlo.1 (by omega) (by omega) (by omega)) k q
    · subst e
      exact ev_max2 M.z_max ev_int (ev_var 2 rfl r2)
    · subst e
      exact ev_int
inductive PreLWorthIf : List PyData → PyData → Prop
  | mk (h : Hall) (rg : Bool) (g : Gm) (last : Int) : h.Ok → GmOk h g → PreLWorthIf [h.d, wD rg, g3D g last] (frD (worthIf h rg g))
theorem ok_lworth_if (M : Md mg) (D : FDef K mg "_law_worth_if" s__law_worth_if) (F1 : Fn P w K mg base 1 "_law_sum" 2 PreLSum) (F2 : Fn P w K mg base 1 "_law_lowest" 2 PreLowest) : Fn P w K mg base 2 "_law_worth_if" 3 PreLWorthIf := by
  refine fn_mkP D sc__law_worth_if (fun _ _ _ _ _ _ us hl => match us, hl with | [_, _, _], _ => rfl) rfl (fun _ _ h => by cases h; rfl) (fun _ _ h => by cases h; simp only [nols, nol_hall, nol_g3D, nol_wD, nol, Bool.and_self]) ?_
  intro X cdv A outer s f E B H vs Q ds d hX hr k nm r hp q
  cases hp with
  | mk h rg g last o og =>
    obtain ⟨x, y, z, rfl, r0, r1, r2⟩ := iss3 r
    subst hX
    have w1 := og.w1 o
    have w2 := og.w2 o
    refine run_par 3 4 (eva_cons (ev_call F1 hr (.mk h g.1 o og.l1) (eva_cons (ev_var 0 rfl r0) (eva_cons (ev_ixT (ds := [dIs g.1, dIs g.2, .int last]) (ev_var 2 rfl r2) ev_int rfl) eva_nil)))
      (eva_cons (ev_call F1 hr (.mk h g.2 o og.l2) (eva_cons (ev_var 0 rfl r0) (eva_cons (ev_ixT (ds := [dIs g.1, dIs g.2, .int last]) (ev_var 2 rfl r2) ev_int rfl) eva_nil))) eva_nil)) k (fun u v H1 k1 ru rv => ?_) sc__law_worth_if.nd
    cases ru
    cases rv
    refine run_ret (ev_if (t := rg) (EvT.cast (evt_eqS (ev_var 1 rfl r1) ev_str) (wD_reg rg)) (fun e => ?_) fun e => ?_) (k.trans k1) (qk q k1)
    · subst e
      exact ev_tup (eva_cons (ev_sub (ev_var 4 rfl (.int _ : Is B _ _)) (ev_var 3 rfl (.int _ : Is B _ _))) (eva_cons ev_int eva_nil))
    · subst e
      exact ev_call F2 hr (.mk _ _ w1.1 w2.1 (by omega)) (eva_cons (ev_var 3 rfl (.int _ : Is B _ _)) (eva_cons (ev_var 4 rfl (.int _ : Is B _ _)) eva_nil))
inductive PreLIsWorse : List PyData → PyData → Prop
  | mk (rg : Bool) (a b : Int × Int) : Sm a → Sm b → PreLIsWorse [wD rg, frD a, frD b] (.bool (isW rg a b))
theorem ok_lis_worse (M : Md mg) (D : FDef K mg "_law_is_worse" s__law_is_worse) : Fn P w K mg base 1 "_law_is_worse" 3 PreLIsWorse := by
  refine fn_mkP D sc__law_is_worse (fun _ _ _ _ _ _ us hl => match us, hl with | [_, _, _], _ => rfl) rfl (fun _ _ h => by cases h; rfl) (fun _ _ h => by cases h; simp only [nols, nol_frD, nol_wD, nol, Bool.and_self]) ?_
  intro X cdv A outer s f E B H vs Q ds d hX hr k nm r hp q
  cases hp with
  | mk rg a b sa sb =>
    obtain ⟨x, y, z, rfl, r0, r1, r2⟩ := iss3 r
    subst hX
    unfold Sm at sa sb
    refine run_set 3 (ev_sub (ev_mul (ev_f0 (ev_var 1 rfl r1)) (ev_f1 (ev_var 2 rfl r2)) (.inl (by omega))) (ev_mul (ev_f0 (ev_var 2 rfl r2)) (ev_f1 (ev_var 1 rfl r1)) (.inl (by omega)))) k (fun v H1 k1 rv => ?_) sc__law_is_worse.nd
    cases rv
    refine run_ret (ev_if (t := rg) (EvT.cast (evt_eqS (ev_var 0 rfl r0) ev_str) (wD_reg rg)) (fun e => ?_) fun e => ?_) (k.trans k1) (qk q k1)
    · subst e
      exact ev_gt (ev_var 3 rfl (.int _ : Is B _ _)) ev_int
    · subst e
      exact ev_lt (ev_var 3 rfl (.int _ : Is B _ _)) ev_int
inductive PreLTop : List PyData → PyData → Prop
  | mk (rg b : Bool) (a : Int × Int) (as : List (Int × Int)) : Sm a → (∀ b ∈ as, Sm b) → PreLTop [wD rg, .list ((a :: as).map frD), .bool b] (frD (topF rg b a as))
theorem ok_ltop (M : Md mg) (D : FDef K mg "_law_top" s__law_top) (F1 : Fn P w K mg base 1 "_law_is_worse" 3 PreLIsWorse) : Fn P w K mg base 2 "_law_top" 3 PreLTop := by
  refine fn_mkL D sc__law_top (fun _ _ _ _ _ _ us hl => match us, hl with | [_, _, _], _ => rfl) rfl (fun _ _ h => by cases h; rfl) (fun _ _ h => by cases h; exact nol_frD _) ?_
  intro X cdv A outer s f E H vs Q ds d hX hr r hp q
  cases hp with
  | mk rg b a as sa sas =>
    obtain ⟨x, y, z, rfl, r0, r1, r2⟩ := iss3 r
    subst hX
    have sall : ∀ o ∈ a :: as, Sm o := fun o h => (List.mem_cons.mp h).elim (fun e => e ▸ sa) (sas o)
    refine run_set (B := H) 3 (ev_ixL (ds := (a :: as).map frD) (ev_var 1 rfl r1) ev_int (atI_nat (n := 0) rfl)) (Ex.refl H) (fun v H1 k1 rv => ?_) sc__law_top.nd
    refine run_forN (B := H) 4 (evi_list (ev_var 1 rfl r1)) k1 (fun B2 H2 k2 kB2 k22 gB => ?_) sc__law_top.nd
    refine ⟨fun i σ' H' => Ex H2 H' ∧ ∃ vf u, σ' = [some x, some y, some z, some vf, u] ∧ Is H' vf (frD (topI rg b a ((a :: as).take i))), ⟨Ex.refl _, v, none, rfl, rv.up k2⟩, fun i σ' H' ⟨e, _⟩ => k22.trans e, ?_, ?_⟩
    · rintro i d vv σ' H' H'' hd ⟨e1, vf, u, rfl, rf⟩ e2 rvv
      rw [List.getElem?_map] at hd
      cases ho : (a :: as)[i]? with
      | none => rw [ho] at hd; cases hd
      | some o =>
        rw [ho] at hd
        have ed := Option.some.inj hd
        subst ed
        have so := sall o (List.mem_of_getElem? ho)
        have st : Sm (topI rg b a ((a :: as).take i)) := topI_sm sa fun z hz => sall z (List.mem_of_mem_take hz)
        have rf2 : Is H'' vf (frD (topI rg b a ((a :: as).take i))) := rf.up e2
        have e02 : Ex H H'' := k1.trans (k2.trans (e1.trans e2))
        refine run_if (B := H'') (t := if b then isW rg o (topI rg b a ((a :: as).take i)) else isW rg (topI rg b a ((a :: as).take i)) o) (evt_if (t := b) (evt_val (ev_var 2 rfl (r2.up e02))) (fun e => ?_) fun e => ?_) (Ex.refl _) (fun t H3 k3 => ?_) fun t H3 k3 => ?_
        · subst e
          exact evt_val (ev_call F1 hr (.mk rg o _ so st) (eva_cons (ev_var 0 rfl (r0.up e02)) (eva_cons (ev_var 4 rfl rvv.is) (eva_cons (ev_var 3 rfl rf2) eva_nil))))
        · subst e
          exact evt_val (ev_call F1 hr (.mk rg _ o st so) (eva_cons (ev_var 0 rfl (r0.up e02)) (eva_cons (ev_var 3 rfl rf2) (eva_cons (ev_var 4 rfl rvv.is) eva_nil))))
        · refine run_set (B := H'') 3 (ev_var 4 rfl rvv.is) k3 (fun v4 H4 k4 r4 => run_nil (run_nil ⟨e1.trans (e2.trans (k3.trans k4)), v4, _, rfl, ?_⟩)) sc__law_top.nd
          rw [topI_take ho, t]
          exact r4.is
        · refine run_nil (run_nil ⟨e1.trans (e2.trans k3), vf, _, rfl, ?_⟩)
          rw [topI_take ho, t]
          exact rf2.up k3
    · rintro σ' H' ⟨e1, vf, u, rfl, rf⟩
      rw [List.length_map, List.take_of_length_le (Nat.le_refl _), topI_cons] at rf
      exact run_ret (B := H') (ev_var 3 rfl rf) (Ex.refl _) fun v H3 k3 r3 => q v H3 (k1.trans (k2.trans (e1.trans k3))) r3.is
inductive PreLPlain : List PyData → PyData → Prop
  | mk (rg : Bool) (p : Int × Int) : PreLPlain [wD rg, frD p] (plainD rg p)
theorem ok_lplain (M : Md mg) (D : FDef K mg "_law_plain" s__law_plain) : Fn P w K mg base 1 "_law_plain" 2 PreLPlain := by
  refine fn_mkP D sc__law_plain (fun _ _ _ _ _ _ us hl => match us, hl with | [_, _], _ => rfl) rfl (fun _ _ h => by cases h; rfl) (fun _ _ h => by cases h; rfl) ?_
  intro X cdv A outer s f E B H vs Q ds d hX hr k nm r hp q
  cases hp with
  | mk rg p =>
    obtain ⟨x, y, rfl, r0, r1⟩ := iss2 r
    subst hX
    refine run_ret (ev_if (t := rg) (EvT.cast (evt_eqS (ev_var 0 rfl r0) ev_str) (wD_reg rg)) (fun e => ?_) fun e => ?_) k q
    · subst e
      exact ev_f0 (ev_var 1 rfl r1)
    · subst e
      exact ev_var 1 rfl r1
inductive PreLimitsOf : List PyData → PyData → Prop
  | mk (h : Hall) : h.Ok → PreLimitsOf [h.d] (.list ((allL h.s h.fs.length).map dIs))
theorem ok_limits_of (M : Md mg) (D : FDef K mg "_law_limits_of" s__law_limits_of) : Fn P w K mg base 1 "_law_limits_of" 1 PreLimitsOf := by
  refine fn_mkP D sc__law_limits_of (fun _ _ _ _ _ _ us hl => match us, hl with | [_], _ => rfl) rfl (fun _ _ h => by cases h; rfl) (fun _ _ h => by cases h; simp only [nols, nol_hall, Bool.and_self]) ?_
  intro X cdv A outer s f E B H vs Q ds d hX hr k nm r hp q
  cases hp with
  | mk h o =>
    obtain ⟨x, rfl, r0⟩ := iss1 r
    subst hX
    have n4 := o.n4
    have s1 := o.s1
    have s6 := o.s6
    let ext : List Int → List (List Int) := fun row => (lims h.s (row.getLastD 0)).map fun l => row ++ [l]
    have lenTot : ∀ i j : Nat, i + 1 ≤ 4 → (((allL h.s i).take j).flatMap ext).length ≤ 2401 := fun i j hi => by
      have h1 : (((allL h.s i).take j).flatMap ext).length ≤ (allL h.s (i + 1)).length := by
        show _ ≤ ((allL h.s i).flatMap ext).length
        conv => rhs; rw [← List.take_append_drop j (allL h.s i), List.flatMap_append, List.length_append]
        exact Nat.le_add_right _ _
      have := Nat.le_trans (allL_len (by omega) s6 (i + 1)) (Nat.pow_le_pow_right (by decide : 0 < 7) hi)
      have e : (7 : Nat) ^ 4 = 2401 := by decide
      omega
    refine run_set (B := B) 1 (ev_lst (eva_cons (ev_tup eva_nil) eva_nil)) k (fun v H1 k1 rv => ?_) sc__law_limits_of.nd
    refine run_forN (B := B) 2 (evi_tup (ev_fs (ev_var 0 rfl r0))) (k.trans k1) (fun B2 H2 k2 kB2 k22 gB => ?_) sc__law_limits_of.nd
    refine ⟨fun i σ' H' => Ex H H' ∧ Ex B2 H' ∧ ∃ vr u2 u3 u4, σ' = [some x, some vr, u2, u3, u4, none] ∧ Rp (Nw B H) H' vr (.list ((allL h.s i).map dIs)), ⟨k1.trans k2, k22, v, none, none, none, rfl, rv.mono (fun _ z => z) k2⟩, fun i σ' H' p => p.2.1, ?_, ?_⟩
    · rintro i d vv σ' H' H'' hd ⟨e1, e2, vr, u2, u3, u4, rfl, rr⟩ e3 rvv
      have hi : i < h.fs.length := by
        have := (List.getElem?_eq_some_iff.mp hd).1
        rwa [List.length_map] at this
      have r3 : Rp (Nw B H) H'' vr (.list ((allL h.s i).map dIs)) := rr.mono (fun _ z => z) e3
      have kB : Ex B (Rs (Nw B H) H'') := (k.trans (e1.trans e3)).rs fun a o z => .inl ⟨o, z⟩
      refine run_set (B := Rs (Nw B H) H'') 3 (ev_lst eva_nil) rs_ex (fun v4 H4 k4 r4 => ?_) sc__law_limits_of.nd
      have r4' : Rp (Nw B H) H4 v4 (.list []) := r4.inG (Ex.refl _) k4 fun a z => .inr ((e1.trans e3).free z)
      refine run_forN (B := Rs (Nw B H) H'') 4 (evi_list (ev_var 1 rfl r3.rs)) (rs_ex.trans k4) (fun B5 H5 k5 kB5 k55 gB5 => ?_) sc__law_limits_of.nd
      refine ⟨fun j σ' H' => Ex H4 H' ∧ Ex B5 H' ∧ ∃ vl u4, σ' = [some x, some vr, some vv, some vl, u4, none] ∧ Rp (Nw B H) H' vl (.list ((((allL h.s i).take j).flatMap ext).map dIs)), ⟨k5, k55, v4, _, rfl, r4'.mono (fun _ z => z) k5⟩, fun i σ' H' p => p.2.1, ?_, ?_⟩
      · rintro j d6 v6 σ' H6 H7 hd6 ⟨f1, f2, vl, u4, rfl, rl⟩ f3 rv6
        rw [List.getElem?_map] at hd6
        cases ho : (allL h.s i)[j]? with
        | none => rw [ho] at hd6; cases hd6
        | some row =>
          rw [ho] at hd6
          have ed := Option.some.inj hd6
          subst ed
          have hrow : row ∈ allL h.s i := List.mem_of_getElem? ho
          have R := allL_row (by omega) i row hrow
          have l0 := last_rg (by omega) R
          have eH : Ex H H7 := e1.trans (e3.trans (k4.trans (f1.trans f3)))
          have rlR : Is (Rs (Nw B H) H7) vl (.list ((((allL h.s i).take j).flatMap ext).map dIs)) := (rl.mono (fun _ z => z) f3).rs
          have kR : Ex B (Rs (Nw B H) H7) := (k.trans eH).rs fun a o z => .inl ⟨o, z⟩
          have r6R : Is (Rs (Nw B H) H7) v6 (dIs row) := (rv6.pure _ _ (nol_dIs row)).rs
          have hlt := lenTot i (j + 1) (by omega)
          have et := flat_take ext ho
          rw [et, List.length_append] at hlt
          refine run_set (B := Rs (Nw B H) H7) 3 (ev_catL (ev_var 3 rfl rlR) (LcJ.ev (lcN (own := [("_law_k", 5)]) (lims h.s (row.getLastD 0)) .int (fun l => dIs (row ++ [l])) 5 sc__law_limits_of.nd (blkOk_by (N := N__law_limits_of) (sc := defScope s__law_limits_of) (by decide +kernel))
            (EvI.cast (evi_rng2 (i := row.getLastD 0) (j := h.s + 1) M.z_range (ev_if (t := !decide (row = [])) (EvT.cast (evt_neD hr.units (ev_var 4 rfl r6R) (ev_tup eva_nil) (pl_sh (pl_dIs row) (by decide)) (by decide +kernel)) ?_) (fun e => ?_) fun e => ?_) (ev_add (ev_s (ev_var 0 rfl (r0.up kR))) ev_int) ⟨by omega, by omega⟩ ⟨by omega, by omega⟩) (rngD_lims _ _))
            (fun l hl v8 B8 kB8 i8 s0 H0 C cl fp => Ev.cast (ev_catT (ev_var 4 rfl (r6R.up kB8)) (ev_tup (eva_cons (ev_var 5 rfl i8) eva_nil)) (sl_le (by rw [List.length_map, R.len, List.length_singleton]; omega))) (dIs_snoc row l)) (sl_of (by unfold lims; rw [List.length_map, List.length_range]; omega)))) (sl_le (by
              have e : (ext row).length = (lims h.s (row.getLastD 0)).length := List.length_map _
              rw [List.length_map, List.length_map]; omega))) rs_ex (fun v9 H9 k9 r9 => run_nil ⟨f1.trans (f3.trans k9), f2.trans (f3.trans k9), v9, _, rfl, ?_⟩) sc__law_limits_of.nd
          · exact congrArg (!·) (eqv_dIs row [])
          · have hne : row ≠ [] := by simpa using e
            have hg : row.getLast? = some (row.getLastD 0) := by
              rw [List.getLastD_eq_getLast?, List.getLast?_eq_some_getLast hne]
              rfl
            exact ev_ixT (ev_var 4 rfl r6R) ev_neg1 (atI_last (by rw [List.getLast?_map, hg]; rfl))
          · have hne : row = [] := by simpa using e
            subst hne
            exact ev_int
          · rw [et, List.map_append, show (ext row).map dIs = (lims h.s (row.getLastD 0)).map fun l => dIs (row ++ [l]) from List.map_map]
            exact r9.inG (Ex.refl _) k9 fun a z => .inr (eH.free z)
      · rintro σ' H6 ⟨f1, f2, vl, u4, rfl, rl⟩
        rw [List.length_map, List.take_of_length_le (Nat.le_refl _)] at rl
        have eH : Ex H H6 := e1.trans (e3.trans (k4.trans f1))
        refine run_set (B := Rs (Nw B H) H6) 1 (ev_var 3 rfl rl.rs) rs_ex (fun v9 H9 k9 r9 => run_nil ⟨eH.trans k9, e2.trans (e3.trans (k4.trans (f1.trans k9))), v9, _, _, _, rfl, r9.inG (Ex.refl _) k9 fun a z => .inr (eH.free z)⟩) sc__law_limits_of.nd
    · rintro σ' H' ⟨e1, e2, vr, u2, u3, u4, rfl, rr⟩
      rw [List.length_map] at rr
      exact run_retV 1 rfl (q _ _ e1 rr)
inductive PreUpTo : List PyData → PyData → Prop
  | mk (h : Hall) (rg : Bool) (ls : List Int) (n : Nat) : h.Ok → LimOk h ls → n < ls.length → PreUpTo [h.d, wD rg, dIs ls, .int n] (frD (worthTo h rg ls n))
end
end Bl

set_option Elab.async false
set_option linter.all false
set_option autoImplicit false
set_option maxRecDepth 100000
set_option maxHeartbeats 4000000
namespace Bl
open PySem PySem.Spec PyProof.Rows L2 LamX StX
/-- a, b = e, the pair e made first -/
theorem run_asg2 {X : Cx} {σ : L2.St} {B H : Hp} {e : Expr} {pos p1 p2 pt : Pos} {rest : List Stmt} {D : Ends} {y1 y2 : Str} {kt : Nat} {d1 d2 : PyData} (j1 j2 : Nat) (h : Ev X σ B e (.tuple [d1, d2])) (k : Ex B H)
    (q : ∀ v1 v2 H', Ex H H' → Rp (Nw B H) H' v1 d1 → Rp (Nw B H) H' v2 d2 → Run X rest D ((σ.set j1 (some v1)).set j2 (some v2)) H') (hN : X.N.Nodup) (hj1 : X.N[j1]? = some y1 := by rfl) (hj2 : X.N[j2]? = some y2 := by rfl)
    (hy1 : Loc X.env.scope y1 := by first | exact Or.inl rfl | exact Or.inr rfl) (hf1 : X.fn y1 = true ∨ X.env.scope.names.lookup y1 = some .local := by first | exact .inr rfl | exact .inl rfl) (hy2 : Loc X.env.scope y2 := by first | exact Or.inl rfl | exact Or.inr rfl) (hf2 : X.fn y2 = true ∨ X.env.scope.names.lookup y2 = some .local := by first | exact .inr rfl | exact .inl rfl)
    (hs : swapsWithSole [.Tuple [.Name y1 p1, .Name y2 p2] kt pt] e pos.line X.env = pure false := by rfl) (hw : swappedStores [.Tuple [.Name y1 p1, .Name y2 p2] kt pt] e X.env = pure none := by rfl) (hc : X.calm = true := by rfl) :
    Run X (.Assign [.Tuple [.Name y1 p1, .Name y2 p2] kt pt] e pos :: rest) D σ H :=
  run_cons (ps_asg Evl.pe (pg_tup hc (pgs_cons (pg_name hN hj1 hy1 hf1) (pgs_cons (pg_name hN hj2 hy2 hf2) pgs_nil))) hs hw) (h H k _ fun v H1 k1 r => by
    cases r with
    | tup h1 h2 =>
      cases h2 with
      | cons a1 a2 =>
        cases a2 with
        | cons a2 a3 =>
          cases a3
          exact ⟨_, [_, _], rfl, .inl (.inl h1), rfl, _, [_], rfl, _, [], rfl, rfl, q _ _ H1 k1 a1 a2⟩)
theorem wp_take {ps fs : List Int} : ∀ {i : Nat}, i < ps.length → i < fs.length → wp (ps.take (i + 1)) fs = wp (ps.take i) fs + ps.getD i 0 * fs.getD i 0 := by
  intro i
  induction i generalizing ps fs with
  | zero =>
    intro h1 h2
    cases ps with
    | nil => simp at h1
    | cons p ps =>
      cases fs with
      | nil => simp at h2
      | cons f fs => simp [wp]
  | succ i ih =>
    intro h1 h2
    cases ps with
    | nil => simp at h1
    | cons p ps =>
      cases fs with
      | nil => simp at h2
      | cons f fs =>
        have e := ih (ps := ps) (fs := fs) (by simpa using h1) (by simpa using h2)
        have e1 : ∀ qs : List Int, wp (p :: qs) (f :: fs) = p * f + wp qs fs := fun qs => by simp [wp]
        rw [List.take_succ_cons, List.take_succ_cons, e1, e1, e]
        show _ = p * f + wp (ps.take i) fs + ps.getD i 0 * fs.getD i 0
        omega
theorem parts_pos {h : Hall} {ls : List Int} (l : LimOk h ls) {i : Nat} (hi : i < ls.length) : (if ls.getD i 0 - ((parts ls).take i).sum > 0 then ls.getD i 0 - ((parts ls).take i).sum else 0) = (parts ls).getD i 0 := by
  have hp : i < (parts ls).length := by rw [parts_length]; exact hi
  have e1 := parts_sum hi
  rw [List.take_add_one, at_gD hp, List.sum_append] at e1
  have e2 := parts_nn l.row _ (gD_mem hp)
  have e3 : (Option.some ((parts ls).getD i 0)).toList.sum = (parts ls).getD i 0 := by simp
  rw [e3] at e1
  split <;> omega
section
variable {P : Program} {w : World} {K : PySem.W.Frag} {mg : Str → Option Value} {base : Heap}
theorem ok_up_to (M : Md mg) (D : FDef K mg "_law_up_to" s__law_up_to) (F1 : Fn P w K mg base 1 "_law_lowest" 2 PreLowest) : Fn P w K mg base 2 "_law_up_to" 4 PreUpTo := by
  refine fn_mkP D sc__law_up_to (fun _ _ _ _ _ _ us hl => match us, hl with | [_, _, _, _], _ => rfl) rfl (fun _ _ h => by cases h; rfl) (fun _ _ h => by cases h; simp only [nols, nol_hall, nol_wD, nol_dIs, nol, Bool.and_self]) ?_
  intro X cdv A outer s f E B H vs Q ds d hX hr k nm r hp q
  cases hp with
  | mk h rg ls n o l hn =>
    obtain ⟨x, y, z, u, rfl, r0, r1, r2, r3⟩ := iss4 r
    subst hX
    have n4 := o.n4
    have ll := l.len
    obtain ⟨a1, a2, a3, a4⟩ := worthTo_sm o rg l hn
    have hnf : n < h.fs.length := by omega
    refine run_asg2 4 5 (ev_tup (eva_cons ev_int (eva_cons ev_int eva_nil))) k (fun u4 u5 H1 k1 ru rv => ?_) sc__law_up_to.nd
    cases ru
    cases rv
    refine run_forN (B := B) 6 (EvI.cast (evi_rng1 M.z_range (ev_add (ev_var 3 rfl r3) ev_int) ⟨by omega, by omega⟩) (rngD_0 _)) (k.trans k1) (fun B2 H2 k2 kB2 k22 gB => ?_) sc__law_up_to.nd
    refine ⟨fun i σ' H' => Ex H H' ∧ Ex B2 H' ∧ ∃ u6 u7, σ' = [some x, some y, some z, some u, some (.int ((parts ls).take i).sum), some (.int (wp ((parts ls).take i) h.fs)), u6, u7, none], ⟨k1.trans k2, k22, none, none, rfl⟩, fun i σ' H' p => p.2.1, ?_, ?_⟩
    · rintro i d vv σ' H' H'' hd ⟨e1, e2, u6, u7, rfl⟩ e3 rvv
      rw [← rngD_0] at hd
      obtain ⟨rfl, hi⟩ := rngD_at hd
      rw [Int.zero_add] at rvv
      have eB := k.trans (e1.trans e3)
      have hil : i < ls.length := by omega
      have hif : i < h.fs.length := by omega
      have hip : i < (parts ls).length := by rw [parts_length]; exact hil
      have hf := o.fr _ (gD_mem hif)
      refine run_set (B := H'') 7 (Ev.cast (ev_max2 M.z_max ev_int (ev_sub (ev_at (ev_var 2 rfl (r2.up eB)) (ev_var 6 rfl rvv.is) (at_gD hil)) (ev_var 4 rfl (.int _ : Is H'' _ _)))) (congrArg PyData.int (parts_pos l hil))) (Ex.refl _) (fun v4 H4 k4 r4 => ?_) sc__law_up_to.nd
      cases r4
      refine run_par (B := H'') 5 4 (eva_cons (ev_add (ev_var 5 rfl (.int _ : Is H'' _ _)) (ev_mul (ev_var 7 rfl (.int _ : Is H'' _ _)) (ev_at (ev_fs (ev_var 0 rfl (r0.up eB))) (ev_var 6 rfl rvv.is) (at_gD hif)) (.inr (by omega)))) (eva_cons (ev_add (ev_var 4 rfl (.int _ : Is H'' _ _)) (ev_var 7 rfl (.int _ : Is H'' _ _))) eva_nil)) k4 (fun w5 w4 H5 k5 ru rv => ?_) sc__law_up_to.nd
      cases ru
      cases rv
      refine run_nil ⟨e1.trans (e3.trans (k4.trans k5)), e2.trans (e3.trans (k4.trans k5)), some vv, some (.int ((parts ls).getD i 0)), ?_⟩
      rw [wp_take hip hif, List.take_add_one, at_gD hip, List.sum_append]
      simp
    · rintro σ' H' ⟨e1, e2, u6, u7, rfl⟩
      have eB := k.trans e1
      rw [List.length_map, List.length_range, show ((n : Int) + 1).toNat = n + 1 by omega]
      refine run_set (B := B) 8 (ev_mul (j := h.fs.getD n 0) (ev_s (ev_var 0 rfl r0)) (ev_at (ev_fs (ev_var 0 rfl r0)) (ev_var 3 rfl r3) (at_gD hnf)) (.inl (by have := o.s1; have := o.s6; omega))) eB (fun v3 H3 k3 rv => ?_) sc__law_up_to.nd
      cases rv
      have e13 := e1.trans k3
      refine run_ret (B := B) (ev_if (t := rg) (EvT.cast (evt_eqS (ev_var 1 rfl r1) ev_str) (wD_reg rg)) (fun e => ?_) fun e => ?_) (k.trans e13) (qk q e13)
      · subst e
        exact ev_tup (eva_cons (ev_sub (ev_var 8 rfl (.int _ : Is B _ _)) (ev_var 5 rfl (.int _ : Is B _ _))) (eva_cons ev_int eva_nil))
      · subst e
        exact ev_call F1 hr (.mk _ _ a1 a3 (by omega)) (eva_cons (ev_var 5 rfl (.int _ : Is B _ _)) (eva_cons (ev_var 8 rfl (.int _ : Is B _ _)) eva_nil))
inductive PreLWorst : List PyData → PyData → Prop
  | mk (h : Hall) (rg : Bool) (ls : List Int) : h.Ok → LimOk h ls → PreLWorst [h.d, wD rg, dIs ls] (frD (worstL h rg ls))
theorem ok_lworst (M : Md mg) (D : FDef K mg "_law_worst" s__law_worst) (F1 : Fn P w K mg base 2 "_law_up_to" 4 PreUpTo) (F2 : Fn P w K mg base 2 "_law_top" 3 PreLTop) : Fn P w K mg base 3 "_law_worst" 3 PreLWorst := by
  refine fn_mkP D sc__law_worst (fun _ _ _ _ _ _ us hl => match us, hl with | [_, _, _], _ => rfl) rfl (fun _ _ h => by cases h; rfl) (fun _ _ h => by cases h; simp only [nols, nol_hall, nol_wD, nol_dIs, nol, Bool.and_self]) ?_
  intro X cdv A outer s f E B H vs Q ds d hX hr k nm r hp q
  cases hp with
  | mk h rg ls o l =>
    obtain ⟨x, y, z, rfl, r0, r1, r2⟩ := iss3 r
    subst hX
    have n4 := o.n4
    have ll := l.len
    refine run_set 3 (ev_lst (ds := [frD (first rg)]) (eva_cons (ev_if (t := rg) (EvT.cast (evt_eqS (ev_var 1 rfl r1) ev_str) (wD_reg rg)) (fun e => ?_) fun e => ?_) eva_nil)) k (fun v H1 k1 rv => ?_) sc__law_worst.nd
    · subst e
      exact ev_tup (eva_cons ev_int (eva_cons ev_int eva_nil))
    · subst e
      exact ev_tup (eva_cons ev_int (eva_cons ev_int eva_nil))
    have eB := k.trans k1
    have q0 : Is H1 x h.d := r0.up eB
    have q1 : Is H1 y (wD rg) := r1.up eB
    have q2 : Is H1 z (dIs ls) := r2.up eB
    have e : worstL h rg ls = topF rg true (first rg) ((List.range ls.length).map (worthTo h rg ls)) := rfl
    rw [e] at q
    refine run_ret (B := H1) (ev_call F2 hr (.mk rg true (first rg) ((List.range ls.length).map (worthTo h rg ls)) (first_sm rg) fun b hb => ?_) (eva_cons (ev_var 1 rfl q1) (eva_cons (Ev.cast (ev_catL (ev_var 3 rfl rv.is) (LcJ.ev (lcN (own := [("_law_k", 4)]) (List.range ls.length) (fun (i : Nat) => .int (i : Int)) (fun i => frD (worthTo h rg ls i)) 4 sc__law_worst.nd (blkOk_by (N := N__law_worst) (sc := defScope s__law_worst) (by decide +kernel))
      (EvI.cast (evi_rng1 M.z_range (ev_len M.z_len (ev_var 2 rfl q2)) ⟨by omega, by omega⟩) (rngD_0 _)) (fun i hi v3 B3 kB3 i3 s0 H0 C cl fp => ev_call F1 hr (.mk h rg ls i o l (List.mem_range.mp hi)) (eva_cons (ev_var 0 rfl (q0.up kB3)) (eva_cons (ev_var 1 rfl (q1.up kB3)) (eva_cons (ev_var 2 rfl (q2.up kB3)) (eva_cons (ev_var 4 rfl i3) eva_nil))))) (sl_of (by rw [List.length_range]; omega)))) (sl_le (by simp; omega))) ?_) (eva_cons ev_bool eva_nil)))) (Ex.refl _) fun v2 H2 k2 r2 => ?_
    · obtain ⟨i, hi, rfl⟩ := List.mem_map.mp hb
      exact worthTo_sm' o rg l (List.mem_range.mp hi)
    · rw [List.map_cons, List.map_map]
      rfl
    · exact q v2 H2 (k1.trans k2) (r2.pure _ _ rfl)
end
end Bl

set_option Elab.async false
set_option linter.all false
set_option autoImplicit false
set_option maxRecDepth 100000
set_option maxHeartbeats 4000000
namespace Bl
open PySem PySem.Spec PyProof.Rows L2 LamX StX
/-! ### states of the game -/
theorem seenW_len (s : Int) (cs : List Int) (k : Nat) : (seenW s cs k).length = cs.length := by
  unfold seenW
  split <;> simp [more_length]
theorem seenW_ok {s : Int} {cs : List Int} {k : Nat} (hs : 0 ≤ s) (hc : ∀ c ∈ cs, 0 ≤ c) (hk : k < cs.length) (h : cs.sum ≤ s) : (∀ c ∈ seenW s cs k, 0 ≤ c) ∧ (seenW s cs k).sum ≤ s := by
  have nn := more_nn (k := k) hc
  have ms := more_sum (cs := cs) (k := k) 1 hk
  unfold seenW
  split
  · rename_i hle
    exact ⟨nn, hle⟩
  · rename_i hgt
    obtain ⟨_, _, hc1, hc2⟩ := cheap_enum _ 0 (pos_of_sum (more cs k 1) (by omega))
    exact ⟨more_nn' nn hc1, by rw [more_sum (-1) hc2]; omega⟩
theorem laters_ok {h : Hall} (o : h.Ok) {g g' : Gm} {k : Nat} (og : GmOk h g) (hk : k < h.fs.length) (hg : g' ∈ laters h g k) : GmOk h g' := by
  have sw := seenW_ok (s := h.s) (k := k) (by have := o.s1; omega) og.p2 (by rw [og.l2]; exact hk) og.s2
  have no : GmOk h (g.1, seenW h.s g.2 k) := ⟨og.l1, by rw [seenW_len]; exact og.l2, og.p1, sw.1, og.s1, sw.2⟩
  unfold laters behL at hg
  rw [List.map_cons] at hg
  rcases List.mem_cons.mp hg with e | e
  · rw [e]; exact no
  · split at e
    · rename_i hlt
      rw [List.map_cons, List.map_nil, List.mem_singleton] at e
      rw [e]
      exact ⟨by rw [more_length]; exact og.l1, no.l2, more_nn og.p1, no.p2, by rw [more_sum 1 (by rw [og.l1]; exact hk)]; omega, no.s2⟩
    · cases e
theorem laters_len (h : Hall) (g : Gm) (k : Nat) : (laters h g k).length ≤ 2 := by
  unfold laters behL
  split <;> simp
theorem zeros_ok {h : Hall} (o : h.Ok) : GmOk h (zeros h.fs.length, zeros h.fs.length) := by
  have z0 : ∀ n, (zeros n).sum = 0 := fun n => by
    induction n with
    | zero => rfl
    | succ n ih =>
      unfold zeros at *
      rw [List.replicate_succ, List.sum_cons, ih]
      rfl
  have z1 : ∀ n, ∀ c ∈ zeros n, 0 ≤ c := fun n c hc => by
    rw [(List.mem_replicate.mp hc).2]; exact Int.le_refl _
  have := o.s1
  exact ⟨List.length_replicate, List.length_replicate, z1 _, z1 _, by show (zeros _).sum ≤ _; rw [z0]; omega, by show (zeros _).sum ≤ _; rw [z0]; omega⟩
/-- all rows of n counts, s at most -/
def vecs : Nat → Nat → List (List Int)
  | _, 0 => [[]]
  | s, n + 1 => (List.range (s + 1)).flatMap fun c => (vecs (s - c) n).map fun r => (c : Int) :: r
theorem mem_vecs : ∀ {n s : Nat} {cs : List Int}, cs.length = n → (∀ c ∈ cs, 0 ≤ c) → cs.sum ≤ s → cs ∈ vecs s n
  | 0, s, cs, hl, _, _ => by
    have : cs = [] := List.eq_nil_of_length_eq_zero hl
    subst this
    exact List.mem_singleton.mpr rfl
  | n + 1, s, [], hl, _, _ => by cases hl
  | n + 1, s, c :: cs, hl, hc, hs => by
    have h0 := hc c List.mem_cons_self
    have hn := sum_nonneg (cs := cs) fun x hx => hc x (List.mem_cons_of_mem _ hx)
    rw [List.sum_cons] at hs
    unfold vecs
    refine List.mem_flatMap.mpr ⟨c.toNat, List.mem_range.mpr (by omega), List.mem_map.mpr ⟨cs, mem_vecs (by simpa using hl) (fun x hx => hc x (List.mem_cons_of_mem _ hx)) (by omega), ?_⟩⟩
    rw [show ((c.toNat : Nat) : Int) = c by omega]
theorem nodup_len {α : Type} [DecidableEq α] : ∀ {l L : List α}, l.Nodup → (∀ x ∈ l, x ∈ L) → l.length ≤ L.length
  | [], _, _, _ => Nat.zero_le _
  | x :: xs, L, hn, hs => by
    have hx := hs x List.mem_cons_self
    have hn' := List.nodup_cons.mp hn
    have := nodup_len (l := xs) (L := L.erase x) hn'.2 fun y hy => by
      have hne : y ≠ x := fun e => hn'.1 (e ▸ hy)
      exact (List.mem_erase_of_ne hne).mpr (hs y (List.mem_cons_of_mem _ hy))
    rw [List.length_erase_of_mem hx] at this
    have := List.length_pos_of_mem hx
    rw [List.length_cons]
    omega
def allG (h : Hall) : List Gm := (vecs h.s.toNat h.fs.length).flatMap fun a => (vecs h.s.toNat h.fs.length).map fun b => (a, b)
theorem mem_allG {h : Hall} (o : h.Ok) {g : Gm} (og : GmOk h g) : g ∈ allG h := by
  have s1 := o.s1
  have a1 := mem_vecs (s := h.s.toNat) og.l1 og.p1 (by have := og.s1; omega)
  have a2 := mem_vecs (s := h.s.toNat) og.l2 og.p2 (by have := og.s2; omega)
  exact List.mem_flatMap.mpr ⟨g.1, a1, List.mem_map.mpr ⟨g.2, a2, rfl⟩⟩
theorem allG_len (h : Hall) : (allG h).length = (vecs h.s.toNat h.fs.length).length * (vecs h.s.toNat h.fs.length).length := by
  unfold allG
  have : ∀ (l m : List (List Int)), (l.flatMap fun a => m.map fun b => (a, b)).length = l.length * m.length := by
    intro l m
    induction l with
    | nil => simp
    | cons x l ih => rw [List.flatMap_cons, List.length_append, ih, List.length_map, List.length_cons, Nat.succ_mul, Nat.add_comm]
  exact this _ _
/-- few states, so that the game is searched whole -/
def Few (h : Hall) : Prop := (allG h).length < 20000
theorem few_33 {h : Hall} (o : h.Ok) (h3 : h.s ≤ 3) (n3 : h.fs.length ≤ 3) : Few h := by
  have s1 := o.s1
  have n1 := o.n1
  unfold Few
  rw [allG_len]
  have hs : h.s.toNat = 1 ∨ h.s.toNat = 2 ∨ h.s.toNat = 3 := by omega
  have hn : h.fs.length = 1 ∨ h.fs.length = 2 ∨ h.fs.length = 3 := by omega
  rcases hs with e | e | e <;> rcases hn with e2 | e2 | e2 <;> rw [e, e2] <;> decide +kernel
theorem few_53 : Few ⟨5, [1, 2, 3]⟩ := by
  unfold Few
  rw [allG_len]
  decide +kernel
theorem keys_few {h : Hall} (o : h.Ok) (fw : Few h) {ks : List Gm} (nd : ks.Nodup) (ok : ∀ g ∈ ks, GmOk h g) : ks.length ≤ (allG h).length := nodup_len nd fun g hg => mem_allG o (ok g hg)
/-! ### the net of states -/
abbrev Net := List (Gm × List (Nat × List Gm))
structure NetOk (h : Hall) (b : Gm) (net : Net) : Prop where
  nd : (net.map (·.1)).Nodup
  ok : ∀ g ∈ net.map (·.1), GmOk h g
  val : ∀ e ∈ net, e.2 = turnsOf h e.1
  cl : ∀ g ∈ net.map (·.1), ∀ k, k < h.fs.length → ∀ g' ∈ laters h g k, g' ∈ net.map (·.1)
  beg : b ∈ net.map (·.1)
structure NetW (h : Hall) (b : Gm) (net : Net) (ws : List Gm) : Prop where
  nd : (net.map (·.1)).Nodup
  ok : ∀ g ∈ net.map (·.1), GmOk h g
  okw : ∀ g ∈ ws, GmOk h g
  val : ∀ e ∈ net, e.2 = turnsOf h e.1
  cl : ∀ g ∈ net.map (·.1), ∀ k, k < h.fs.length → ∀ g' ∈ laters h g k, g' ∈ net.map (·.1) ∨ g' ∈ ws
  beg : b ∈ net.map (·.1) ∨ b ∈ ws
theorem NetW.start {h : Hall} {b : Gm} (ob : GmOk h b) : NetW h b [] [b] := ⟨List.nodup_nil, (fun _ h => nomatch h), (fun g hg => by rw [List.mem_singleton.mp hg]; exact ob), (fun _ h => nomatch h), (fun _ h => nomatch h), .inr List.mem_cons_self⟩
theorem NetW.fin {h : Hall} {b : Gm} {net : Net} (n : NetW h b net []) : NetOk h b net := ⟨n.nd, n.ok, n.val, (fun g hg k hk g' hg' => (n.cl g hg k hk g' hg').resolve_right (fun z => nomatch z)), n.beg.resolve_right (fun z => nomatch z)⟩
theorem NetW.skip {h : Hall} {b g : Gm} {net : Net} {ws : List Gm} (n : NetW h b net (ws ++ [g])) (hg : g ∈ net.map (·.1)) : NetW h b net ws := by
  refine ⟨n.nd, n.ok, fun x hx => n.okw x (List.mem_append_left _ hx), n.val, fun a ha k hk g' hg' => ?_, ?_⟩
  · rcases n.cl a ha k hk g' hg' with z | z
    · exact .inl z
    · rcases List.mem_append.mp z with z | z
      · exact .inr z
      · rw [List.mem_singleton.mp z]; exact .inl hg
  · rcases n.beg with z | z
    · exact .inl z
    · rcases List.mem_append.mp z with z | z
      · exact .inr z
      · rw [List.mem_singleton.mp z]; exact .inl hg
theorem NetW.add {h : Hall} {b g : Gm} {net : Net} {ws : List Gm} (o : h.Ok) (n : NetW h b net (ws ++ [g])) (hg : g ∉ net.map (·.1)) : NetW h b (net ++ [(g, turnsOf h g)]) (ws ++ (List.range h.fs.length).flatMap (laters h g)) := by
  have og := n.okw g (List.mem_append_right _ List.mem_cons_self)
  have mk : ∀ x, x ∈ (net ++ [(g, turnsOf h g)]).map (·.1) ↔ x ∈ net.map (·.1) ∨ x = g := fun x => by
    rw [List.map_append, List.mem_append]
    simp
  refine ⟨?_, fun x hx => ?_, fun x hx => ?_, fun e he => ?_, fun a ha k hk g' hg' => ?_, ?_⟩
  · rw [List.map_append]
    refine List.nodup_append.mpr ⟨n.nd, by simp, fun a ha c hc => ?_⟩
    have : c = g := by simpa using hc
    intro e
    exact hg (by rw [← this, ← e]; exact ha)
  · rcases (mk x).mp hx with z | z
    · exact n.ok x z
    · rw [z]; exact og
  · rcases List.mem_append.mp hx with z | z
    · exact n.okw x (List.mem_append_left _ z)
    · obtain ⟨k, hk, hx⟩ := List.mem_flatMap.mp z
      exact laters_ok o og (List.mem_range.mp hk) hx
  · rcases List.mem_append.mp he with z | z
    · exact n.val e z
    · rw [List.mem_singleton.mp z]
  · rcases (mk a).mp ha with z | z
    · rcases n.cl a z k hk g' hg' with t | t
      · exact .inl ((mk g').mpr (.inl t))
      · rcases List.mem_append.mp t with t | t
        · exact .inr (List.mem_append_left _ t)
        · exact .inl ((mk g').mpr (.inr (List.mem_singleton.mp t)))
    · subst z
      exact .inr (List.mem_append_right _ (List.mem_flatMap.mpr ⟨k, List.mem_range.mpr hk, hg'⟩))
  · rcases n.beg with t | t
    · exact .inl ((mk b).mpr (.inl t))
    · rcases List.mem_append.mp t with t | t
      · exact .inr (List.mem_append_left _ t)
      · exact .inl ((mk b).mpr (.inr (List.mem_singleton.mp t)))
theorem flat_len (h : Hall) (g : Gm) (n : Nat) : ((List.range n).flatMap (laters h g)).length ≤ 2 * n := by
  induction n with
  | zero => simp
  | succ n ih =>
    rw [List.range_succ, List.flatMap_append, List.length_append]
    have := laters_len h g n
    rw [List.flatMap_cons, List.flatMap_nil, List.append_nil]
    omega
end Bl

set_option Elab.async false
set_option linter.all false
set_option autoImplicit false
set_option maxRecDepth 100000
set_option maxHeartbeats 2000000
namespace Bl
open PySem PySem.Spec PyProof.Rows L2 LamX StX
/-! ### keys: data of whole numbers, texts and tuples -/
mutual
def toK : PyData → NestedKey
  | .none => .none
  | .bool _ => .none
  | .int i => .num i
  | .str x => .text x
  | .list _ => .none
  | .tuple ds => .tup (toKs ds)
  | .dict _ => .none
def toKs : List PyData → List NestedKey
  | [] => []
  | d :: ds => toK d :: toKs ds
end
mutual
def nK : Nat → PyData → Bool
  | _, .none => true
  | _, .bool _ => false
  | _, .int _ => true
  | _, .str _ => true
  | _, .list _ => false
  | 0, .tuple _ => false
  | n + 1, .tuple ds => nKs n ds
  | _, .dict _ => false
def nKs : Nat → List PyData → Bool
  | _, [] => true
  | n, d :: ds => nK n d && nKs n ds
end
mutual
theorem toK_dp : ∀ (n : Nat) (d : PyData), nK n d = true → (toK d).depth ≤ n
  | _, .none, _ => Nat.zero_le _
  | _, .bool _, h => by simp [nK] at h
  | _, .int _, _ => Nat.zero_le _
  | _, .str _, _ => Nat.zero_le _
  | _, .list _, h => by simp [nK] at h
  | 0, .tuple _, h => by simp [nK] at h
  | n + 1, .tuple ds, h => Nat.succ_le_succ (toKs_dp n ds (by simpa [nK] using h))
  | _, .dict _, h => by simp [nK] at h
theorem toKs_dp : ∀ (n : Nat) (ds : List PyData), nKs n ds = true → NestedKey.depthAll (toKs ds) ≤ n
  | _, [], _ => Nat.zero_le _
  | n, d :: ds, h => by
    have h' : nK n d = true ∧ nKs n ds = true := by simpa [nKs] using h
    exact Nat.max_le.mpr ⟨toK_dp n d h'.1, toKs_dp n ds h'.2⟩
end
mutual
theorem toK_inj : ∀ (n m : Nat) (a b : PyData), nK n a = true → nK m b = true → toK a = toK b → a = b
  | n, m, .none, b, _, hb, e => by cases b <;> simp_all [toK, nK]
  | n, m, .bool _, _, h, _, _ => by simp [nK] at h
  | n, m, .int _, b, _, hb, e => by cases b <;> simp_all [toK, nK]
  | n, m, .str _, b, _, hb, e => by cases b <;> simp_all [toK, nK]
  | n, m, .list _, _, h, _, _ => by simp [nK] at h
  | 0, _, .tuple _, _, h, _, _ => by simp [nK] at h
  | n + 1, m, .tuple as, b, ha, hb, e => by
    cases b with
    | tuple bs =>
      cases m with
      | zero => simp [nK] at hb
      | succ m =>
        have e' : toKs as = toKs bs := by simpa [toK] using e
        rw [toKs_inj n m as bs (by simpa [nK] using ha) (by simpa [nK] using hb) e']
    | _ => simp_all [toK, nK]
  | n, m, .dict _, _, h, _, _ => by simp [nK] at h
theorem toKs_inj : ∀ (n m : Nat) (a b : List PyData), nKs n a = true → nKs m b = true → toKs a = toKs b → a = b
  | _, _, [], b, _, _, e => by cases b <;> simp_all [toKs]
  | _, _, _ :: _, [], _, _, e => by simp [toKs] at e
  | n, m, a :: as, b :: bs, ha, hb, e => by
    have h1 : nK n a = true ∧ nKs n as = true := by simpa [nKs] using ha
    have h2 : nK m b = true ∧ nKs m bs = true := by simpa [nKs] using hb
    have e' : toK a = toK b ∧ toKs as = toKs bs := by simpa [toKs] using e
    rw [toK_inj n m a b h1.1 h2.1 e'.1, toKs_inj n m as bs h1.2 h2.2 e'.2]
end
section
variable {P : Program} {w : World} {G : Addr → Prop} {H H' : Hp} {h h' : Heap}
mutual
theorem key_is (ok : HOk P w H h) : ∀ (n : Nat) (d : PyData) (v : V) (u : Value), nK n d = true → Rp G H v d → RelV v u → NestedIs h (toK d) u
  | _, .none, _, _, _, r, q => by cases r; cases q; exact .none
  | _, .bool _, _, _, hn, _, _ => by simp [nK] at hn
  | _, .int i, _, _, _, r, q => by cases r; obtain ⟨t, rfl⟩ := q; exact .int i t
  | _, .str x, _, _, _, r, q => by cases r; obtain ⟨t, rfl⟩ := q; exact .text x t
  | _, .list _, _, _, hn, _, _ => by simp [nK] at hn
  | 0, .tuple _, _, _, hn, _, _ => by simp [nK] at hn
  | n + 1, .tuple ds, _, _, hn, r, q => by
    cases r with
    | tup h1 h2 =>
      cases q
      obtain ⟨_, its, rv, o, ho, hc, m, hd⟩ := (show ObjOk P w H h _ (.tup _) from ok _ _ h1)
      exact .tup ho hc hd (by simpa using keys_is ok n ds _ its (by simpa [nK] using hn) h2 rv)
  | _, .dict _, _, _, hn, _, _ => by simp [nK] at hn
theorem keys_is (ok : HOk P w H h) : ∀ (n : Nat) (ds : List PyData) (vs : List V) (us : List Value), nKs n ds = true → Rps G H vs ds → Vals vs us → NestedAll h (toKs ds) us
  | _, [], _, _, _, r, q => by cases r; cases q; exact .nil
  | n, d :: ds, _, _, hn, r, q => by
    have hn' : nK n d = true ∧ nKs n ds = true := by simpa [nKs] using hn
    cases r with
    | cons r1 r2 =>
      cases q with
      | cons q1 q2 => exact .cons (key_is ok n d _ _ hn'.1 r1 q1) (keys_is ok n ds _ _ hn'.2 r2 q2)
end
end
/-! ### a dict with such keys -/
abbrev Ent := NestedKey × Addr × V
abbrev EV (xs : List Ent) (ys : List (NestedKey × Addr × Value)) : Prop := Paired (fun (x : Ent) (y : NestedKey × Addr × Value) => x.1 = y.1 ∧ x.2.1 = y.2.1 ∧ RelV x.2.2 y.2.2) xs ys
def NdAt (P : Program) (w : World) (p : Addr) (xs : List Ent) (h : Heap) : Prop := xs.length ≤ sizeLine ∧ (p == sysModules) = false ∧ ∃ ys, EV xs ys ∧
  ∃ o es ep, h.get? p = some o ∧ o.ExactDict ∧ o.data = .dict es ep ∧ es.toList = ys.map (entryOfKey (nestedKind P w)) ∧ (ys.map (·.1)).Nodup
def ND (P : Program) (w : World) (p : Addr) (xs : List Ent) : HO := .ext (NdAt P w p xs)
theorem nd_mu (P : Program) (w : World) (p : Addr) (xs : List Ent) : Mu (ND P w p xs) := fun c q e => by
  unfold CodeO at e
  have e' := HO.ext.inj e
  let ob : Obj := ⟨.none, none, .fields #[.none, .str q 0], #[]⟩
  let hh : Heap := { objs := Array.replicate (c + 1) ob }
  have hg : ∀ a o, hh.get? a = some o → o = ob := fun a o ho => by
    unfold Heap.get? at ho
    by_cases ha : a < c + 1
    · rw [show hh.objs[a]? = some ob by simp [hh, ha]] at ho
      exact (Option.some.inj ho).symm
    · rw [Array.getElem?_eq_none (show hh.objs.size ≤ a from (Array.size_replicate (n := c + 1) (v := ob)).symm ▸ Nat.le_of_not_lt ha)] at ho
      cases ho
  have hc : hh.get? c = some ob := by
    unfold Heap.get?
    rw [show hh.objs[c]? = some ob by simp [hh]]
  have z : (∃ (oc : Obj) (vs : Array Value) (t : Tok), hh.get? c = some oc ∧ oc.data = .fields vs ∧ vs[1]? = some (.str q t)) := ⟨ob, _, 0, hc, rfl, rfl⟩
  have z' : NdAt P w p xs hh := by rw [e']; exact z
  obtain ⟨_, _, _, _, o, es, ep, ho, _, hd, _⟩ := z'
  rw [hg p o ho] at hd
  cases hd
theorem nd_ne_tbl (P : Program) (w : World) (p : Addr) (xs : List Ent) : ∀ ps, ND P w p xs ≠ .tbl ps := fun _ z => nomatch z
theorem Ex.nd {H H' : Hp} {P : Program} {w : World} {p q : Addr} {xs : List Ent} (e : Ex H H') (h : H q = some (ND P w p xs)) : H' q = some (ND P w p xs) := e.keep q _ h (nd_ne_tbl P w p xs)
/-- the keys' tuples are known -/
def EntOk (H : Hp) (e : Ent) : Prop := ∃ d, nK 8 d = true ∧ e.1 = toK d ∧ Rp (fun _ => False) H (.ref e.2.1) d
section
variable {X : Cx} {pins : List (Addr × Obj)} {σ : L2.St} {H : Hp} {s : Shared} {p : Addr} {xs : List Ent}
theorem ndat_stay {P : Program} {w : World} {h1 h2 : Heap} (x : NdAt P w p xs h1) (k : ∀ o, h1.get? p = some o → h2.get? p = some o) : NdAt P w p xs h2 :=
  let ⟨a, b, ys, r, o, es, ep, ho, t⟩ := x; ⟨a, b, ys, r, o, es, ep, k o ho, t⟩
theorem nd_ok {P : Program} {w : World} {H' : Hp} {h : Heap} (x : NdAt P w p xs h) : ObjOk P w H' h p (ND P w p xs) := by
  refine ⟨x, ?_, fun h1 h2 y k => ndat_stay y k⟩
  obtain ⟨_, _, _, _, o, _, _, ho, _⟩ := x
  exact ⟨o, ho⟩
theorem nd_of (I : Inv X pins σ H s) (hp : H p = some (ND X.prog X.w p xs)) (ok : ∀ e ∈ xs, EntOk H e) : xs.length ≤ sizeLine ∧ (p == sysModules) = false ∧ ∃ ys, EV xs ys ∧ s.heap.DictOfH (nestedKind X.prog X.w) p ys := by
  obtain ⟨⟨z, y, ys, r, o, es, ep, h1, h2, h3, h4, h5⟩, _⟩ := (show ObjOk X.prog X.w H s.heap p (.ext (NdAt X.prog X.w p xs)) from I.hok p _ hp)
  refine ⟨z, y, ys, r, o, es, ep, h1, h2, h3, h4, ?_, h5⟩
  have all : ∀ {l : List Ent} {m : List (NestedKey × Addr × Value)}, EV l m → (∀ e ∈ l, EntOk H e) → ∀ x ∈ m, (nestedKind X.prog X.w).is s.heap x.1 x.2.1 := by
    intro l m q
    induction q with
    | nil => intro _ x hx; exact nomatch hx
    | @cons a b as bs hq t ih =>
      intro hl x hx
      rcases List.mem_cons.mp hx with e | hx
      · subst e
        obtain ⟨d, hn, hk, r⟩ := hl a List.mem_cons_self
        rw [← hq.1, ← hq.2.1, hk]
        exact ⟨key_is I.hok 8 d _ _ hn r rfl, toK_dp 8 d hn⟩
      · exact ih (fun e he => hl e (List.mem_cons_of_mem _ he)) x hx
  exact all r ok
theorem key_at (I : Inv X pins σ H s) {b : Addr} {d : PyData} {G : Addr → Prop} (hn : nK 8 d = true) (r : Rp G H (.ref b) d) : (nestedKind X.prog X.w).is s.heap (toK d) b := ⟨key_is I.hok 8 d _ _ hn r rfl, toK_dp 8 d hn⟩
def vAt (xs : List Ent) (k : NestedKey) : Option V := (xs.find? fun x => decide (x.1 = k)).map (·.2.2)
theorem ev_at_rel {xs : List Ent} {ys : List (NestedKey × Addr × Value)} (r : EV xs ys) (k : NestedKey) : RelO (vAt xs k) ((atKey ys k).map (·.2)) := by
  unfold vAt atKey
  induction r with
  | nil => exact True.intro
  | @cons a b as bs hq t ih =>
    rw [List.find?_cons, List.find?_cons, hq.1]
    by_cases e : b.1 = k
    · rw [decide_eq_true e]
      exact hq.2.2
    · rw [decide_eq_false e]
      exact ih
theorem EV.len {xs : List Ent} {ys : List (NestedKey × Addr × Value)} (r : EV xs ys) : xs.length = ys.length := Paired.length r
theorem EV.keys {xs : List Ent} {ys : List (NestedKey × Addr × Value)} (r : EV xs ys) : xs.map (·.1) = ys.map (·.1) := by
  induction r with
  | nil => rfl
  | cons hq t ih => rw [List.map_cons, List.map_cons, hq.1, ih]
theorem EV.snoc {xs : List Ent} {ys : List (NestedKey × Addr × Value)} {k : NestedKey} {b : Addr} {v : V} {u : Value} (r : EV xs ys) (q : RelV v u) : EV (xs ++ [(k, b, v)]) (ys ++ [(k, b, u)]) := by
  induction r with
  | nil => exact .cons ⟨rfl, rfl, q⟩ .nil
  | cons hq t ih => exact .cons hq ih
/-! rules by values -/
def rInN (X : Cx) (neg : Bool) : R2 := fun x y H Q => ∃ b p xs d, x = .ref b ∧ y = .ref p ∧ H p = some (ND X.prog X.w p xs) ∧ (∀ e ∈ xs, EntOk H e) ∧ nK 8 d = true ∧ Rp (fun _ => False) H (.ref b) d ∧ Q (.bl (if neg then !(vAt xs (toK d)).isSome else (vAt xs (toK d)).isSome)) H
theorem op_notInN (hu : X.A.units + 9 < cLine) : OpR X (compareOp .NotIn) (rInN X true) := by
  intro pins s σ H x y v u Q I rx ry h
  obtain ⟨b, p, xs, d, rfl, rfl, hp, ok, hn, r, q⟩ := h
  cases rx
  cases ry
  obtain ⟨z, hd, ys, rel, dd⟩ := nd_of I hp ok
  refine notIn_keyed (by show X.A.in1.units + 8 < cLine; rw [Around.in1_units]; omega) (key_at I hn r) hd ⟨ys, dd, rfl⟩ ?_
  rw [valueAt_pairsH, ← (ev_at_rel rel (toK d)).isSome_eq]
  exact ⟨.bl _, H, I.tok _, rfl, q⟩
def gN (X : Cx) : V → V → Hp → VK → Prop := fun x y H Q => ∃ p b xs d v, x = .ref p ∧ y = .ref b ∧ H p = some (ND X.prog X.w p xs) ∧ (∀ e ∈ xs, EntOk H e) ∧ nK 8 d = true ∧ Rp (fun _ => False) H (.ref b) d ∧ vAt xs (toK d) = some v ∧ Q v H
theorem pe_getN {o i : Expr} {pos : Pos} {td ty : TE} (hu : X.A.units + 9 < cLine) (ho : PE X o td) (hi : PE X i ty) (hs : NoSl i) : PE X (.Subscript o i pos) (fun σ H Q => td σ H fun x H1 => ty σ H1 fun y H2 => gN X x y H2 Q) := by
  refine ⟨fun pins s σ H Q I h => ?_⟩
  refine subD_of PySem.F.slot_dict_getitem.lookup hs (thn (ho.run pins s σ H _ I h) fun u s1 ⟨x, H1, I1, rx, q1⟩ => thn (hi.run pins s1 σ H1 _ I1 q1) fun iv s2 ⟨y, H2, I2, ry, p, b, xs, d, v, ex, ey, hp, ok, hn, r, hv, q2⟩ => ?_)
  subst ex ey
  cases rx
  cases ry
  obtain ⟨z, hd, ys, rel, dd⟩ := nd_of I2 hp ok
  obtain ⟨w', hw, rw'⟩ := RelO.some_of (v := v) (o := (atKey ys (toK d)).map (·.2)) (by rw [← hv]; exact ev_at_rel rel (toK d))
  obtain ⟨pp, hpp, hp2⟩ := Option.map_eq_some_iff.mp hw
  refine ⟨dd.typeIs, wpAny_getItem_heap (by show X.A.in1.units + 8 < cLine; rw [Around.in1_units]; omega) (key_at I2 hn r) dd hpp ?_⟩
  rw [hp2]
  exact ⟨v, H2, I2.tok _, rw', q2⟩
def sN (X : Cx) : V → V → V → Hp → (Hp → Prop) → Prop := fun x y v H Q => ∃ p b xs d, x = .ref p ∧ y = .ref b ∧ H p = some (ND X.prog X.w p xs) ∧ (∀ e ∈ xs, EntOk H e) ∧ nK 8 d = true ∧ Rp (fun _ => False) H (.ref b) d ∧ vAt xs (toK d) = none ∧ xs.length < sizeLine ∧ Q (upd H p (ND X.prog X.w p (xs ++ [(toK d, b, v)])))
theorem nd_store {pins : List (Addr × Obj)} {σ : L2.St} {H : Hp} {s : Shared} {p b : Addr} {xs : List Ent} {d : PyData} {v : V} {u : Value} {E : Value → Shared → Prop} {Q : Unit → Shared → Prop} (hu : X.A.units + 9 < cLine) (I : Inv X pins σ H s)
    (hp : H p = some (ND X.prog X.w p xs)) (ok : ∀ e ∈ xs, EntOk H e) (hn : nK 8 d = true) (r : Rp (fun _ => False) H (.ref b) d) (hv : vAt xs (toK d) = none) (hl : xs.length < sizeLine) (rv : RelV v u)
    (q : ∀ s', Inv X pins σ (upd H p (ND X.prog X.w p (xs ++ [(toK d, b, v)]))) s' → Q () s') : wpAny (model X.prog X.w) X.A (setItem (.ref p) (.ref b) u) Q E s := by
  obtain ⟨z, hd, ys, rel, dd⟩ := nd_of I hp ok
  have hz : ys.length ≤ sizeLine := by rw [← rel.len]; exact z
  have hno : atKey ys (toK d) = none := by
    have e := (ev_at_rel rel (toK d)).isSome_eq
    rw [hv] at e
    cases q : atKey ys (toK d) with
    | none => rfl
    | some pp => rw [q] at e; cases e
  refine wpAny_setItem_heap (hsz := hz) (by show X.A.in1.units + 8 < cLine; rw [Around.in1_units]; omega) (key_at I hn r) dd fun h' dd' hs => q _ ?_
  rw [storedH_new hno] at dd'
  obtain ⟨ob, es, ep, hq, h2, h3, h4, _, h5⟩ := dd'
  refine d_write I (by rw [hp]; exact True.intro) hs ⟨ob, hq⟩ (nd_ok ⟨?_, hd, _, rel.snoc rv, ob, es, ep, hq, h2, h3, h4, h5⟩)
  rw [List.length_append, List.length_singleton]
  omega
theorem ps_putN {o i value : Expr} {pos pos' : Pos} {td ty tv : TE} (hu : X.A.units + 9 < cLine) (ho : PE X o td) (hi : PE X i ty) (hv : PE X value tv) (hs : swapsWith value (some (.Subscript o i pos')) pos.line X.env = pure false) :
    PS X (.Assign [.Subscript o i pos'] value pos) (fun D σ H => tv σ H fun v H1 => td σ H1 fun x H2 => ty σ H2 fun y H3 => sN X x y v H3 fun H4 => D.nx σ H4) := by
  refine ⟨fun pins s σ H D I h => ?_⟩
  refine wpAny_Assign_Subscript (thn (hv.run pins s σ H _ I h) fun r s1 ⟨v, H1, I1, rv, q1⟩ => thn (ho.run pins s1 σ H1 _ I1 q1) fun u s2 ⟨x, H2, I2, rx, q2⟩ => thn (hi.run pins s2 σ H2 _ I2 q2) fun iv s3 ⟨y, H3, I3, ry, p, b, xs, d, ex, ey, hp, ok, hn, rb, hno, hl, q3⟩ => ?_) hs
  subst ex ey
  cases rx
  cases ry
  exact nd_store hu I3 hp ok hn rb hno hl rv fun s4 I4 => ⟨σ, _, I4, q3⟩
def rLenN (X : Cx) : List V → Hp → VK → Prop := fun vs H Q => ∃ p xs, vs = [.ref p] ∧ H p = some (ND X.prog X.w p xs) ∧ (∀ e ∈ xs, EntOk H e) ∧ Q (.int (xs.length : Nat)) H
theorem call_lenN : CallR X (.builtin "len") (rLenN X) := by
  intro pins s σ H xs us Q I r h
  obtain ⟨p, xs, rfl, hp, ok, q⟩ := h
  obtain ⟨u, rfl, rx⟩ := r.one
  cases rx
  obtain ⟨z, hd, ys, rel, dd⟩ := nd_of I hp ok
  have hl := rel.len
  refine call_len_dictH hd dd (by rw [← hl]; rw [sizeLine_eq] at z; omega) ?_
  rw [← hl]
  exact ⟨.int _, H, I.tok _, ⟨_, rfl⟩, q⟩
def rListN (X : Cx) : List V → Hp → VK → Prop := fun vs H Q => ∃ d xs, vs = [.ref d] ∧ H d = some (ND X.prog X.w d xs) ∧ ∀ p, H p = none → Q (.ref p) (upd H p (.lst (xs.map fun x => V.ref x.2.1)))
/-- a list is that of which each place tells -/
theorem list_of {α β : Type} {f : β → α} : ∀ {as : List α} {bs : List β}, as.length = bs.length → (∀ (j : Nat) (a : α), as[j]? = some a → ∃ b, bs[j]? = some b ∧ a = f b) → as = bs.map f
  | [], [], _, _ => rfl
  | [], _ :: _, l, _ => nomatch l
  | _ :: _, [], l, _ => nomatch l
  | a :: as, b :: bs, l, h => by
    obtain ⟨b', e, ea⟩ := h 0 a rfl
    cases Option.some.inj (show some b = some b' from e)
    rw [List.map_cons, ← ea, list_of (Nat.succ.inj l) fun j => h (j + 1)]
theorem call_listN (hc : X.calm = true) : CallR X (.type "list") (rListN X) := by
  intro pins s σ H vs us Q I r h
  obtain ⟨d, xs, rfl, hd, q⟩ := h
  obtain ⟨u, rfl, rx⟩ := r.one
  cases rx
  obtain ⟨⟨few, ns, ks, pr, o, es, ep, ho, exact_, dt, eqs, _⟩, _⟩ := (show ObjOk X.prog X.w H s.heap d (.ext (NdAt X.prog X.w d xs)) from I.hok d _ hd)
  have sz := size_of_entries eqs
  have len : xs.length = ks.length := Paired.length pr
  refine PySem.W.kdl_call (kdl_raw ns exact_ dt) (I.ok.hd hc) ho (by omega) fun g tk acc ep2 kp at_ put => ?_
  have keys : acc.toList = ks.map fun k => Value.ref k.2.1 := list_of (by rw [Array.length_toList, put.1, sz]) fun j v hv => by
    obtain ⟨en, hen, ev⟩ := put.2 j v (Array.getElem?_toList ▸ hv)
    have q := entry_at eqs j
    rw [hen] at q
    obtain ⟨k, hk, ek⟩ := Option.map_eq_some_iff.mp q.symm
    exact ⟨k, hk, by rw [ev, ← ek]; rfl⟩
  have same : ∀ {xs : List Ent} {ks : List (NestedKey × Addr × Value)}, EV xs ks → Vals (xs.map fun x => V.ref x.2.1) (ks.map fun k => Value.ref k.2.1) := fun {xs ks} p => by
    induction p with
    | nil => exact .nil
    | cons h _ ih => exact .cons (congrArg Value.ref h.2.1.symm) ih
  refine ⟨.ref _, _, I.laid (t' := tk) (o := .lst (xs.map fun x => V.ref x.2.1)) kp (Nat.le_refl _) ⟨by rw [List.length_map]; omega, acc.toList, ep2, by rw [keys]; exact same pr, ?_⟩, rfl, q _ (I.hok.fresh (Nat.le_refl _))⟩
  rw [Array.toArray_toList]
  exact at_
theorem nd_empty {P : Program} {w : World} {H : Hp} (h : Heap) (hb : sysModules < h.objs.size) : ObjOk P w H (h.push { cls := .type "dict", data := .dict #[] }) h.objs.size (ND P w h.objs.size []) :=
  nd_ok ⟨Nat.zero_le _, beq_eq_false_iff_ne.mpr (Ne.symm (Nat.ne_of_lt hb)), [], .nil, _, #[], 0, Heap.get?_push_size _ rfl, ⟨rfl, rfl, rfl⟩, rfl, rfl, List.nodup_nil⟩
def tNewN (X : Cx) : TE := fun _ H Q => ∀ p, H p = none → Q (.ref p) (upd H p (ND X.prog X.w p []))
theorem pe_newN {pos : Pos} : PE X (.Dict [] [] pos) (tNewN X) := ⟨fun pins s σ H Q I h =>
  wpAny_Dict_empty ⟨.ref s.heap.objs.size, _, I.laid (a := s.heap.objs.size) (o := ND X.prog X.w s.heap.objs.size []) (t' := s.toks) (fun _ _ q => Heap.get?_push_of_some _ q) (Nat.le_refl _) (nd_empty s.heap I.big), rfl, h _ (I.hok.fresh (Nat.le_refl _))⟩⟩
/-- {k: v} -/
def tOneN (X : Cx) (tk tv : TE) : TE := fun σ H Q => ∀ p, H p = none → tk σ (upd H p (ND X.prog X.w p [])) fun x H1 => tv σ H1 fun v H2 => ∃ b d, x = .ref b ∧ nK 8 d = true ∧ Rp (fun _ => False) H2 (.ref b) d ∧ H2 p = some (ND X.prog X.w p []) ∧ Q (.ref p) (upd H2 p (ND X.prog X.w p [(toK d, b, v)]))
theorem pe_oneN {ke ve : Expr} {pos : Pos} {tk tv : TE} (hu : X.A.units + 9 < cLine) (hk : PE X ke tk) (hv : PE X ve tv) : PE X (.Dict [some ke] [ve] pos) (tOneN X tk tv) := by
  refine ⟨fun pins s σ H Q I q => ?_⟩
  have hn := I.hok.fresh (Nat.le_refl s.heap.objs.size)
  have I1 := I.laid (a := s.heap.objs.size) (o := ND X.prog X.w s.heap.objs.size []) (h' := s.heap.push { cls := .type "dict", data := .dict #[] }) (t' := s.toks) (fun _ _ q => Heap.get?_push_of_some _ q) (Nat.le_refl _) (nd_empty s.heap I.big)
  have q := q _ hn
  rw [arm_eval_Dict, zip_pairTrees [some ke] [ve] X.env pos (by rfl) (by rfl), dictDisplay_pairs _ (by simp [pairTrees]) (by simp [pairTrees])]
  refine wpAny_bind (wpAny_standAt (wpAny_bind (wpAny_subDictH (knd := nestedKind X.prog X.w) (Q := fun d s' => wpAny (model X.prog X.w) X.A (pure (Value.ref d)) (EP X pins σ Q) X.xe s') (by show X.A.units + 8 < cLine; omega) (by simp [pairTrees]) ?_)))
  refine pairTrees_cons_walk (ks := []) (vs := []) (thn (hk.run pins _ σ _ _ I1 q) fun u s1 ⟨x, H1, J1, rx, q1⟩ => thn (hv.run pins s1 σ H1 _ J1 q1) fun w2 s2 ⟨y, H2, J2, ry, b, d, ex, hnk, rb, hp2, q2⟩ => pairTrees_nil_walk ?_)
  subst ex
  cases rx
  obtain ⟨z, hd, ys, rel, dd⟩ := nd_of J2 hp2 (fun e he => nomatch he)
  cases rel
  refine ⟨[(toK d, b, w2)], ⟨rfl, rfl, key_at J2 hnk rb, trivial⟩, dd, fun h' tk' dd' hs => wpAny_pure ?_⟩
  obtain ⟨ob, es, ep, hq, h2, h3, h4, _, h5⟩ := dd'
  exact ⟨.ref s.heap.objs.size, _, d_write J2 (by rw [hp2]; exact True.intro) hs ⟨ob, hq⟩ (nd_ok ⟨sl_le (by simp), hd, [(toK d, b, w2)], .cons ⟨rfl, rfl, ry⟩ .nil, ob, es, ep, hq, h2, h3, h4, h5⟩), rfl, q2⟩
end
end Bl

set_option Elab.async false
set_option linter.all false
set_option autoImplicit false
set_option maxRecDepth 100000
set_option maxHeartbeats 2000000
namespace Bl
open PySem PySem.Spec PyProof.Rows L2 LamX StX
/-- an encoding of keys -/
structure KeyEnc {α : Type} (fk : α → PyData) : Prop where
  nk : ∀ a, nK 8 (fk a) = true
  inj : ∀ a b, fk a = fk b → a = b
  tup : ∀ a, ∃ ds, fk a = .tuple ds
section
variable {α β : Type} [DecidableEq α] {fk : α → PyData} {fv : β → PyData}
theorem KeyEnc.tk (ke : KeyEnc fk) {a b : α} (h : toK (fk a) = toK (fk b)) : a = b := ke.inj a b (toK_inj 8 8 _ _ (ke.nk a) (ke.nk b) h)
/-- what a dict holds -/
inductive DE (fk : α → PyData) (fv : β → PyData) (G : Addr → Prop) (H : Hp) : List Ent → List (α × β) → Prop
  | nil : DE fk fv G H [] []
  | cons {a : α} {b : Addr} {y : β} {v : V} {xs : List Ent} {kvs : List (α × β)} : Rp (fun _ => False) H (.ref b) (fk a) → Rp G H v (fv y) → DE fk fv G H xs kvs → DE fk fv G H ((toK (fk a), b, v) :: xs) ((a, y) :: kvs)
def lk (a : α) (kvs : List (α × β)) : Option β := (kvs.find? fun x => decide (x.1 = a)).map (·.2)
variable {G G' : Addr → Prop} {H H' : Hp} {xs : List Ent} {kvs : List (α × β)}
theorem DE.mono (h : DE fk fv G H xs kvs) (g : ∀ a, G a → G' a) (e : Ex H H') : DE fk fv G' H' xs kvs := by
  induction h with
  | nil => exact .nil
  | cons h1 h2 _ ih => exact .cons (h1.mono (fun _ z => z) e) (h2.mono g e) ih
theorem DE.updp {p : Addr} {o u : HO} (h : DE fk fv G H xs kvs) (hp : H p = some u) (m : Mu u) (n : ¬ G p) : DE fk fv G (upd H p o) xs kvs := by
  induction h with
  | nil => exact .nil
  | cons h1 h2 _ ih => exact .cons (h1.updp hp m fun z => z) (h2.updp hp m n) ih
theorem DE.wo {p : Addr} {u : HO} (h : DE fk fv G H xs kvs) (hp : H p = some u) (m : Mu u) (n : ¬ G p) : DE fk fv G (Wo p H) xs kvs := by
  induction h with
  | nil => exact .nil
  | cons h1 h2 _ ih => exact .cons (h1.wo hp m fun z => z) (h2.wo hp m n) ih
theorem DE.len (h : DE fk fv G H xs kvs) : xs.length = kvs.length := by
  induction h with
  | nil => rfl
  | cons _ _ _ ih => exact congrArg (· + 1) ih
theorem DE.ok (ke : KeyEnc fk) (h : DE fk fv G H xs kvs) : ∀ e ∈ xs, EntOk H e := by
  induction h with
  | nil => intro e he; exact nomatch he
  | cons h1 h2 _ ih =>
    intro e he
    rcases List.mem_cons.mp he with z | z
    · subst z
      exact ⟨_, ke.nk _, rfl, h1⟩
    · exact ih e z
theorem DE.at_some (ke : KeyEnc fk) (h : DE fk fv G H xs kvs) {a : α} {y : β} (hy : lk a kvs = some y) : ∃ v, vAt xs (toK (fk a)) = some v ∧ Rp G H v (fv y) := by
  induction h with
  | nil => cases hy
  | @cons a' b y' v' xs' kvs' h1 h2 _ ih =>
    unfold lk at hy
    unfold vAt
    rw [List.find?_cons] at hy ⊢
    by_cases e : a' = a
    · subst e
      rw [decide_eq_true rfl] at hy
      cases hy
      rw [decide_eq_true rfl]
      exact ⟨v', rfl, h2⟩
    · rw [decide_eq_false e] at hy
      rw [decide_eq_false fun z => e (ke.tk z)]
      exact ih hy
theorem DE.at_none (ke : KeyEnc fk) (h : DE fk fv G H xs kvs) {a : α} (hn : a ∉ kvs.map (·.1)) : vAt xs (toK (fk a)) = none := by
  induction h with
  | nil => rfl
  | @cons a' b y' v' xs' kvs' h1 h2 _ ih =>
    unfold vAt
    rw [List.map_cons] at hn
    rw [List.find?_cons, decide_eq_false fun z => hn (by rw [ke.tk z]; exact List.mem_cons_self)]
    exact ih fun z => hn (List.mem_cons_of_mem _ z)
theorem lk_mem {a : α} (h : a ∈ kvs.map (·.1)) : ∃ y, lk a kvs = some y := by
  induction kvs with
  | nil => exact nomatch h
  | cons x kvs ih =>
    unfold lk
    rw [List.find?_cons]
    by_cases e : x.1 = a
    · rw [decide_eq_true e]
      exact ⟨x.2, rfl⟩
    · rw [decide_eq_false e]
      exact ih ((List.mem_cons.mp h).resolve_left fun z => e z.symm)
theorem DE.snoc (h : DE fk fv G H xs kvs) {a : α} {b : Addr} {y : β} {v : V} (h1 : Rp (fun _ => False) H (.ref b) (fk a)) (h2 : Rp G H v (fv y)) : DE fk fv G H (xs ++ [(toK (fk a), b, v)]) (kvs ++ [(a, y)]) := by
  induction h with
  | nil => exact .cons h1 h2 .nil
  | cons k1 k2 _ ih => exact .cons k1 k2 ih
theorem DE.keys (h : DE fk fv G H xs kvs) : Rps (fun _ => False) H (xs.map fun x => V.ref x.2.1) (kvs.map fun x => fk x.1) := by
  induction h with
  | nil => exact .nil
  | cons h1 _ _ ih => exact .cons h1 ih
end
/-- key tuples hold no lists -/
theorem nK_nol : ∀ (n : Nat) (d : PyData), nK n d = true → nol d = true := by
  have aux : ∀ (m n : Nat) (d : PyData), sizeOf d ≤ m → nK n d = true → nol d = true := by
    intro m
    induction m with
    | zero => intro n d hm; cases d <;> simp at hm
    | succ m ih =>
      intro n d hm h
      cases d with
      | none => rfl
      | bool _ => simp [nK] at h
      | int _ => rfl
      | str _ => rfl
      | list _ => simp [nK] at h
      | dict _ => simp [nK] at h
      | tuple ds =>
        cases n with
        | zero => simp [nK] at h
        | succ n =>
          have h' : nKs n ds = true := by simpa [nK] using h
          show nols ds = true
          have all : ∀ (es : List PyData), (∀ e ∈ es, sizeOf e ≤ m) → nKs n es = true → nols es = true := by
            intro es
            induction es with
            | nil => intro _ _; rfl
            | cons e es ih2 =>
              intro hs hk
              have hk' : nK n e = true ∧ nKs n es = true := by simpa [nKs] using hk
              have a1 := ih n e (hs e List.mem_cons_self) hk'.1
              have a2 := ih2 (fun x hx => hs x (List.mem_cons_of_mem _ hx)) hk'.2
              simp only [nols, a1, a2, Bool.and_self]
          refine all ds (fun e he => ?_) h'
          have := List.sizeOf_lt_of_mem he
          simp at hm
          omega
  exact fun n d => aux (sizeOf d) n d (Nat.le_refl _)
section
variable {X : Cx} {σ : L2.St} {B H : Hp} {a b e : Expr} {pos : Pos} {α β : Type} [DecidableEq α] {fk : α → PyData} {fv : β → PyData} {G : Addr → Prop} {p : Addr} {xs : List Ent} {kvs : List (α × β)} {dn : Str} {pd : Pos} {rest : List Stmt} {D : Ends} {d da db : PyData}
theorem key_ref (ke : KeyEnc fk) {v : V} {y : α} {G : Addr → Prop} (r : Rp G H v (fk y)) : ∃ b, v = .ref b ∧ Rp (fun _ => False) H (.ref b) (fk y) := by
  have r' : Rp (fun _ => False) H v (fk y) := r.pure _ _ (nK_nol 8 _ (ke.nk y))
  obtain ⟨ds, e⟩ := ke.tup y
  rw [e] at r'
  cases r' with
  | tup h1 h2 => exact ⟨_, rfl, e ▸ .tup h1 h2⟩
theorem evt_notInN (i : Nat) (ke : KeyEnc fk) {k : α} (hu : X.A.units + 9 < cLine) (hs : σ[i]? = some (some (.ref p))) (hp : B p = some (ND X.prog X.w p xs)) (de : DE fk fv G B xs kvs) (ha : Ev X σ B a (fk k)) (hN : X.N[i]? = some dn := by rfl)
    (hv : Vis X.env.scope dn := by first | exact Or.inl rfl | exact Or.inr (Or.inl rfl) | exact Or.inr (Or.inr rfl)) (hd : (dn == ("__debug__" : Str)) = false := by decide) (hcd : (dn == ("__classdict__" : Str)) = false := by decide) (hm : behindInMarks .NotIn (.Name dn pd) = false := by rfl) :
    EvT X σ B (.Compare a [.NotIn] [.Name dn pd] pos) (!decide (k ∈ kvs.map (·.1))) := fun H k0 Q q => Tst.of (pt_cmpR (op_notInN hu) Evl.pe (pe_var hN hv hd hcd) hm) (ha H k0 _ fun x H1 e1 r1 => by
      obtain ⟨bb, rfl, rb⟩ := key_ref ke r1
      refine ⟨.ref p, hs, bb, p, xs, fk k, rfl, rfl, (k0.trans e1).nd hp, ((de.mono (fun _ z => z) (k0.trans e1)).ok ke), ke.nk k, rb, ?_⟩
      refine ⟨!decide (k ∈ kvs.map (·.1)), ?_, q H1 e1⟩
      by_cases hk : k ∈ kvs.map (·.1)
      · obtain ⟨y, hy⟩ := lk_mem hk
        obtain ⟨v, h1, _⟩ := de.at_some ke hy
        rw [h1, decide_eq_true hk]
        rfl
      · rw [de.at_none ke hk, decide_eq_false hk]
        rfl)
theorem ev_getN (i : Nat) (ke : KeyEnc fk) {k : α} {y : β} (hu : X.A.units + 9 < cLine) (hs : σ[i]? = some (some (.ref p))) (hp : B p = some (ND X.prog X.w p xs)) (de : DE fk fv G B xs kvs) (ha : Ev X σ B a (fk k)) (hy : lk k kvs = some y) (hN : X.N[i]? = some dn := by rfl)
    (hv : Vis X.env.scope dn := by first | exact Or.inl rfl | exact Or.inr (Or.inl rfl) | exact Or.inr (Or.inr rfl)) (hd : (dn == ("__debug__" : Str)) = false := by decide) (hcd : (dn == ("__classdict__" : Str)) = false := by decide) (hs2 : NoSl a := by exact fun _ _ => rfl) :
    Ev X σ B (.Subscript (.Name dn pd) a pos) (fv y) := fun H k0 Q q => Evl.of (pe_getN hu (pe_var hN hv hd hcd) Evl.pe hs2) ⟨.ref p, hs, ha H k0 _ fun x H1 e1 r1 => by
      obtain ⟨bb, rfl, rb⟩ := key_ref ke r1
      obtain ⟨v, h1, h2⟩ := de.at_some ke hy
      exact ⟨p, bb, xs, fk k, v, rfl, rfl, (k0.trans e1).nd hp, ((de.mono (fun _ z => z) (k0.trans e1)).ok ke), ke.nk k, rb, h1, q v H1 e1 (h2.kn.mono (fun _ z => .inl z) (k0.trans e1))⟩⟩
theorem ev_lenN (i : Nat) (ke : KeyEnc fk) {p2 : Pos} (hm : X.mg "len" = none) (hs : σ[i]? = some (some (.ref p))) (hp : B p = some (ND X.prog X.w p xs)) (de : DE fk fv G B xs kvs) (hN : X.N[i]? = some dn := by rfl)
    (hv : Vis X.env.scope dn := by first | exact Or.inl rfl | exact Or.inr (Or.inl rfl) | exact Or.inr (Or.inr rfl)) (hd : (dn == ("__debug__" : Str)) = false := by decide) (hcd : (dn == ("__classdict__" : Str)) = false := by decide)
    (hg : Gl X "len" := by rfl) (he : starEach [.Name dn pd] X.env = (false, eval (.Name dn pd) X.env) :: starEach [] X.env := by rfl) (hpl : (backTo pos (starEach [] X.env)).any (·.1) = false := by rfl) :
    Ev X σ B (.Call (.Name "len" p2) [.Name dn pd] [] pos) (.int (kvs.length : Nat)) := fun H k0 Q q =>
  Evl.of (pe_callB call_lenN hg hm PySem.boot_len (pa_cons (pe_var hN hv hd hcd) pa_nil he) (by decide) (by decide) he hpl) ⟨.ref p, hs, p, xs, rfl, k0.nd hp, ((de.mono (fun _ z => z) k0).ok ke), by rw [de.len]; exact q _ H (Ex.refl H) (.int _)⟩
theorem ev_listN (i : Nat) {p2 : Pos} (hm : X.mg "list" = none) (hs : σ[i]? = some (some (.ref p))) (hp : B p = some (ND X.prog X.w p xs)) (de : DE fk fv G B xs kvs) (hc : X.calm = true := by rfl) (hN : X.N[i]? = some dn := by rfl)
    (hv : Vis X.env.scope dn := by first | exact Or.inl rfl | exact Or.inr (Or.inl rfl) | exact Or.inr (Or.inr rfl)) (hd : (dn == ("__debug__" : Str)) = false := by decide) (hcd : (dn == ("__classdict__" : Str)) = false := by decide)
    (hg : Gl X "list" := by rfl) (he : starEach [.Name dn pd] X.env = (false, eval (.Name dn pd) X.env) :: starEach [] X.env := by rfl) (hpl : (backTo pos (starEach [] X.env)).any (·.1) = false := by rfl) :
    Ev X σ B (.Call (.Name "list" p2) [.Name dn pd] [] pos) (.list (kvs.map fun x => fk x.1)) := fun H k0 Q q =>
  Evl.of (pe_callTy (call_listN hc) hg hm bt_list (pa_cons (pe_var hN hv hd hcd) pa_nil he) (by decide) (by decide) he hpl) ⟨.ref p, hs, p, xs, rfl, k0.nd hp, fun l hl => q _ _ (Ex.new hl) (.lst (.inr hl) upd_same ((de.keys.mono (fun _ z => z.elim) k0).mono (fun _ z => z) (Ex.new hl)))⟩
/-- d[k] = e, k a new key; B need not know d -/
theorem run_putN {ie : Expr} {p2 : Pos} (i : Nat) (ke : KeyEnc fk) {k : α} (hu : X.A.units + 9 < cLine) (hs : σ[i]? = some (some (.ref p))) (hp : H p = some (ND X.prog X.w p xs)) (de : DE fk fv G H xs kvs) (h : Ev X σ B e d) (hi : Ev X σ B ie (fk k)) (k0 : Ex B H) (hn : k ∉ kvs.map (·.1)) (hl : xs.length < sizeLine)
    (q : ∀ v b H', Ex H H' → Rp (Nw B H) H' v d → Rp (fun _ => False) H' (.ref b) (fk k) → Run X rest D σ (upd H' p (ND X.prog X.w p (xs ++ [(toK (fk k), b, v)])))) (hN : X.N[i]? = some dn := by rfl)
    (hv : Vis X.env.scope dn := by first | exact Or.inl rfl | exact Or.inr (Or.inl rfl) | exact Or.inr (Or.inr rfl)) (hd : (dn == ("__debug__" : Str)) = false := by decide) (hcd : (dn == ("__classdict__" : Str)) = false := by decide)
    (hsw : swapsWith e (some (.Subscript (.Name dn pd) ie p2)) pos.line X.env = pure false := by rfl) : Run X (.Assign [.Subscript (.Name dn pd) ie p2] e pos :: rest) D σ H :=
  run_cons (ps_putN hu (pe_var hN hv hd hcd) Evl.pe Evl.pe hsw) (h H k0 _ fun v H1 e1 r1 => ⟨.ref p, hs, hi H1 (k0.trans e1) _ fun x H2 e2 r2 => by
    obtain ⟨bb, rfl, rb⟩ := key_ref ke r2
    exact ⟨p, bb, xs, fk k, rfl, rfl, (e1.trans e2).nd hp, ((de.mono (fun _ z => z) (e1.trans e2)).ok ke), ke.nk k, rb, de.at_none ke hn, hl, q v bb H2 (e1.trans e2) (r1.mono (fun _ z => z) e2) rb⟩⟩)
/-- name = {} -/
theorem run_newN {x : Str} {px p' : Pos} (i : Nat) (q : ∀ l, H l = none → Run X rest D (σ.set i (some (.ref l))) (upd H l (ND X.prog X.w l []))) (hN : X.N.Nodup) (hi : X.N[i]? = some x := by rfl)
    (hx : Loc X.env.scope x := by first | exact Or.inl rfl | exact Or.inr rfl) (hs : swapsWith (.Dict [] [] p') (some (.Name x px)) pos.line X.env = pure false := by rfl) (hf : X.fn x = true ∨ X.env.scope.names.lookup x = some .local := by first | exact .inr rfl | exact .inl rfl) :
    Run X (.Assign [.Name x px] (.Dict [] [] p') pos :: rest) D σ H := run_cons (ps_set hN hi hx pe_newN hs hf) fun l hl => q l hl
/-- a, b = {}, e -/
theorem run_parN {x y : Str} {px py pt pt2 p' : Pos} {kt k2 : Nat} (i j : Nat) (hb : Ev X σ B b d) (k : Ex B H) (q : ∀ l v H', H l = none → Ex (upd H l (ND X.prog X.w l [])) H' → Rp (Nw B (upd H l (ND X.prog X.w l []))) H' v d → Run X rest D ((σ.set i (some (.ref l))).set j (some v)) H') (hN : X.N.Nodup)
    (hi : X.N[i]? = some x := by rfl) (hj : X.N[j]? = some y := by rfl) (hij : i ≠ j := by decide) (hx : X.env.scope.names.lookup x = some .local := by rfl) (hy : X.env.scope.names.lookup y = some .local := by rfl)
    (hw : swappedStores [.Tuple [.Name x px, .Name y py] kt pt] (.Tuple [.Dict [] [] p', b] k2 pt2) X.env = pure (some [x, y]) := by rfl) (hs : swapsWithSole [.Tuple [.Name x px, .Name y py] kt pt] (.Tuple [.Dict [] [] p', b] k2 pt2) pos.line X.env = pure false := by rfl) (hc : X.calm = true := by rfl)
    (hse : starEach [.Dict [] [] p', b] X.env = (false, eval (.Dict [] [] p') X.env) :: starEach [b] X.env := by rfl) (hse2 : starEach [b] X.env = (false, eval b X.env) :: starEach [] X.env := by rfl) :
    Run X (.Assign [.Tuple [.Name x px, .Name y py] kt pt] (.Tuple [.Dict [] [] p', b] k2 pt2) pos :: rest) D σ H :=
  run_cons (ps_par hc hN hi hj hij hx hy (pa_cons pe_newN (pa_cons Evl.pe pa_nil hse2) hse) hw hs) fun l hl => hb _ (k.trans (Ex.new hl)) _ fun v H' k' r => ⟨_, _, rfl, q l v H' hl k' r⟩
/-- a, b, c = {k: e1}, e2, e3 -/
theorem run_par3N {x y z : Str} {px py pz pt pt2 p' : Pos} {kt k2 : Nat} {ke' ve' c : Expr} (i j l : Nat) (ke : KeyEnc fk) {k : α} (hu : X.A.units + 9 < cLine) (hk : Ev X σ B ke' (fk k)) (hv : Ev X σ B ve' d) (hb : Ev X σ B b da) (hcc : Ev X σ B c db) (k0 : Ex B H)
    (q : ∀ l1 bk v1 v2 v3 H1 H', H l1 = none → Ex (upd H l1 (ND X.prog X.w l1 [])) H1 → Rp (Nw B (upd H l1 (ND X.prog X.w l1 []))) H1 v1 d → Rp (fun _ => False) H1 (.ref bk) (fk k) → Ex (upd H1 l1 (ND X.prog X.w l1 [(toK (fk k), bk, v1)])) H' →
      Rp (Nw B (upd H1 l1 (ND X.prog X.w l1 [(toK (fk k), bk, v1)]))) H' v2 da → Rp (Nw B (upd H1 l1 (ND X.prog X.w l1 [(toK (fk k), bk, v1)]))) H' v3 db → Run X rest D (((σ.set i (some (.ref l1))).set j (some v2)).set l (some v3)) H') (hN : X.N.Nodup)
    (hi : X.N[i]? = some x := by rfl) (hj : X.N[j]? = some y := by rfl) (hl : X.N[l]? = some z := by rfl) (hij : i ≠ j := by decide) (hil : i ≠ l := by decide) (hjl : j ≠ l := by decide) (hx : X.env.scope.names.lookup x = some .local := by rfl) (hy : X.env.scope.names.lookup y = some .local := by rfl) (hz : X.env.scope.names.lookup z = some .local := by rfl)
    (hw : swappedStores [.Tuple [.Name x px, .Name y py, .Name z pz] kt pt] (.Tuple [.Dict [some ke'] [ve'] p', b, c] k2 pt2) X.env = pure (some [x, y, z]) := by rfl) (hs : swapsWithSole [.Tuple [.Name x px, .Name y py, .Name z pz] kt pt] (.Tuple [.Dict [some ke'] [ve'] p', b, c] k2 pt2) pos.line X.env = pure false := by rfl) (hc : X.calm = true := by rfl)
    (hse : starEach [.Dict [some ke'] [ve'] p', b, c] X.env = (false, eval (.Dict [some ke'] [ve'] p') X.env) :: starEach [b, c] X.env := by rfl) (hse2 : starEach [b, c] X.env = (false, eval b X.env) :: starEach [c] X.env := by rfl) (hse3 : starEach [c] X.env = (false, eval c X.env) :: starEach [] X.env := by rfl) :
    Run X (.Assign [.Tuple [.Name x px, .Name y py, .Name z pz] kt pt] (.Tuple [.Dict [some ke'] [ve'] p', b, c] k2 pt2) pos :: rest) D σ H :=
  run_cons (ps_par3 hc hN hi hj hl hij hil hjl hx hy hz (pa_cons (pe_oneN hu Evl.pe Evl.pe) (pa_cons Evl.pe (pa_cons Evl.pe pa_nil hse3) hse2) hse) hw hs) fun l1 hl1 => hk _ (k0.trans (Ex.new hl1)) _ fun x1 H1 e1 r1 => hv _ ((k0.trans (Ex.new hl1)).trans e1) _ fun v1 H2 e2 r2 => by
    obtain ⟨bb, rfl, rb⟩ := key_ref ke r1
    have hB1 : B l1 = none := k0.free hl1
    have h2 : H2 l1 = some (ND X.prog X.w l1 []) := (e1.trans e2).nd upd_same
    have kB : Ex B (upd H2 l1 (ND X.prog X.w l1 [(toK (fk k), bb, v1)])) := ((k0.trans (Ex.new hl1)).trans (e1.trans e2)).mut hB1 h2 (nd_mu _ _ _ _)
    refine ⟨bb, fk k, rfl, ke.nk k, rb.mono (fun _ z => z) e2, h2, hb _ kB _ fun v2 H3 e3 r3 => hcc _ (kB.trans e3) _ fun v3 H4 e4 r4 => ⟨_, _, _, rfl, ?_⟩⟩
    exact q l1 bb v1 v2 v3 H2 H4 hl1 (e1.trans e2) (r2.mono (fun _ => nw_back e1) (Ex.refl _)) (rb.mono (fun _ z => z) e2) (e3.trans e4) (r3.mono (fun _ z => z) e4) (r4.mono (fun _ => nw_back e3) (Ex.refl _))
end
end Bl

set_option Elab.async false
set_option linter.all false
set_option autoImplicit false
set_option maxRecDepth 100000
set_option maxHeartbeats 2000000
namespace Bl
open PySem PySem.Spec PyProof.Rows L2 LamX StX
/-- a def's promise of any kind (no exception told) -/
abbrev SpQ := List V → Hp → VK → Prop
structure FnQ (P : Program) (w : World) (K : PySem.W.Frag) (mg : Str → Option Value) (base : Heap) (k : Nat) (x : Str) (n : Nat) (sp : SpQ) : Prop where
  ex : ∃ f fd ps, FnOk P w K mg base CX0 k f fd ps (fun vs H Q _ => sp vs H Q) ∧ ps.length = n ∧ mg x = some (.ref f) ∧ PySem.W.keepIn K (.ref f) = true ∧ Binds K fd ps []
theorem FnQ.mono {P : Program} {w : World} {K : PySem.W.Frag} {mg : Str → Option Value} {base : Heap} {j k n : Nat} {x : Str} {sp : SpQ} (F : FnQ P w K mg base j x n sp) (h : j ≤ k) : FnQ P w K mg base k x n sp :=
  let ⟨f, fd, ps, F, r⟩ := F.ex; ⟨f, fd, ps, F.mono h, r⟩
section
variable {X : Cx} {σ : L2.St} {B H : Hp} {e : Expr} {es : List Expr} {ds : List PyData} {pos : Pos}
/-- a call as a value: the arguments are data -/
theorem evl_callQ {x : Str} {k n : Nat} {p : Pos} {sp : SpQ} (F : FnQ X.prog X.w X.K X.mg X.base k x n sp) (hr : Room k X.A) (ha : EvA X σ B (e :: es) ds) (k0 : Ex B H) {Q : VK} (q : ∀ vs H1, Ex H H1 → Rps (Nw B H) H1 vs ds → sp vs H1 Q) (hg : Gl X x := by rfl) (hdb : (x == ("__debug__" : Str)) = false := by decide)
    (he : starEach (e :: es) X.env = (false, eval e X.env) :: starEach es X.env := by rfl) (hpl : (backTo pos (starEach es X.env)).any (·.1) = false := by rfl) : Evl X (.Call (.Name x p) (e :: es) [] pos) σ H Q := by
  obtain ⟨f, fd, ps, F, _, hm, hk, hb⟩ := F.ex
  refine Evl.of (pe_call F hr hg hm hk hb .nil pass0 Arg.pa hdb he hpl) (ha H k0 _ fun vs H1 e1 r1 => ?_)
  rw [List.append_nil]
  exact q vs H1 e1 r1
/-- a call as a value: any arguments -/
theorem evl_callQA {x : Str} {k n : Nat} {p : Pos} {sp : SpQ} {t : TA} (F : FnQ X.prog X.w X.K X.mg X.base k x n sp) (hr : Room k X.A) (ha : PA X (e :: es) t) {Q : VK} (q : t σ H fun vs H1 => sp vs H1 Q) (hg : Gl X x := by rfl) (hdb : (x == ("__debug__" : Str)) = false := by decide)
    (he : starEach (e :: es) X.env = (false, eval e X.env) :: starEach es X.env := by rfl) (hpl : (backTo pos (starEach es X.env)).any (·.1) = false := by rfl) : Evl X (.Call (.Name x p) (e :: es) [] pos) σ H Q := by
  obtain ⟨f, fd, ps, F, _, hm, hk, hb⟩ := F.ex
  refine Evl.of (pe_call F hr hg hm hk hb .nil pass0 (Arg.pa (es := e :: es)) hdb he hpl) ?_
  show Arg X (e :: es) σ H _
  refine Arg.of ha ?_
  simp only [List.append_nil]
  exact q
end
section
variable {P : Program} {w : World} {K : PySem.W.Frag} {mg : Str → Option Value} {base : Heap} {k n : Nat} {x : Str} {st : Stmt} {N ps : List Str} {sp : SpQ}
theorem fnQ_mk (D : FDef K mg x st) (S : FnScope N ps (defScope st)) (hb : BindsAs x st ps) (hn : ps.length = n) (len : ∀ vs H Q, sp vs H Q → vs.length = n)
    (hbody : ∀ (X : Cx) (cdv : Value) (A : Around) (outer : List Env) (s : Shared) (f : Addr) (E : XK) (H : Hp) (vs : List V) (Q : VK), X = (cxOf CX0 P w K mg base N x (defScope st) f cdv A outer s H E).nox → Room k X.A → sp vs H Q →
      Run X (defBody st) { nx := fun _ H' => Q .non H', rt := Q } (L2.start N vs) H) : FnQ P w K mg base (k + 1) x n sp := by
  obtain ⟨f, fd, F, hm⟩ := D
  refine ⟨f, fd, ps, F.ok S (fun vs H Q E h => ?_) (fun cdv A outer s H vs Q E hr h => ?_), hn, hm, F.kp, F.bindsN hb⟩
  · rw [len vs H Q h, hn]
  · exact ⟨_, PSs.nox Run.pss, hbody _ cdv A outer s f E H vs Q rfl hr h⟩
end
end Bl

set_option Elab.async false
set_option linter.all false
set_option autoImplicit false
set_option maxRecDepth 100000
set_option maxHeartbeats 4000000
namespace Bl
open PySem PySem.Spec PyProof.Rows L2 LamX StX
theorem nK_dIs (n : Nat) (l : List Int) : nK (n + 1) (dIs l) = true := by
  show nKs n (l.map .int) = true
  induction l with
  | nil => cases n <;> rfl
  | cons a l ih =>
    rw [List.map_cons]
    have : nK n (.int a) = true := by cases n <;> rfl
    simp only [nKs, this, ih, Bool.and_self]
theorem ke_gm : KeyEnc gmD where
  nk := fun g => by
    show nKs 7 [dIs g.1, dIs g.2, .int (-1)] = true
    simp only [nKs, nK_dIs, nK, Bool.and_self]
  inj := fun a b h => gmD_inj h
  tup := fun g => ⟨_, rfl⟩
theorem Rps.unsnoc {G : Addr → Prop} {H : Hp} : ∀ {vs : List V} {ds : List PyData} {d : PyData}, Rps G H vs (ds ++ [d]) → ∃ ws v, vs = ws ++ [v] ∧ Rps G H ws ds ∧ Rp G H v d
  | _, [], d, h => by
    cases h with
    | cons h1 h2 => cases h2; exact ⟨[], _, rfl, .nil, h1⟩
  | _, e :: ds, d, h => by
    cases h with
    | cons h1 h2 =>
      obtain ⟨ws, v, e1, e2, e3⟩ := Rps.unsnoc (ds := ds) h2
      exact ⟨_ :: ws, v, by rw [e1]; rfl, .cons h1 e2, e3⟩
section
variable {P : Program} {w : World} {K : PySem.W.Frag} {mg : Str → Option Value} {base : Heap}
/-- where the lists of a new dict's values stand -/
abbrev Gn (H : Hp) (p q : Addr) (a : Addr) : Prop := H a = none ∧ a ≠ p ∧ a ≠ q
def SpGameNet (P : Program) (w : World) : SpQ := fun vs H Q => ∃ (h : Hall) (b : Gm), Iss H vs [h.d, anyD, gmD b] ∧ h.Ok ∧ Few h ∧ GmOk h b ∧
  ∀ p xs net H', Ex H H' → H p = none → H' p = some (ND P w p xs) → DE gmD turnsD (fun a => H a = none ∧ a ≠ p) H' xs net → NetOk h b net → Q (.ref p) H'
theorem ok_game_net (M : Md mg) (D : FDef K mg "game_net" s_game_net) (F1 : Fn P w K mg base 5 "turns_of" 3 PreTurnsOf) (F2 : Fn P w K mg base 1 "fares_in" 3 PreFaresIn) (F3 : Fn P w K mg base 4 "behind_all" 4 PreBehindAll) : FnQ P w K mg base 6 "game_net" 3 (SpGameNet P w) := by
  refine fnQ_mk D sc_game_net (fun _ _ _ _ _ _ us hl => match us, hl with | [_, _, _], _ => rfl) rfl (fun vs H Q hsp => ?_) ?_
  · obtain ⟨h, b, r, _⟩ := hsp
    rw [r.length]
    rfl
  intro X cdv A outer s f E H vs Q hX hr ⟨h, b, r, o, fw, ob, q⟩
  obtain ⟨x, y, z, rfl, r0, r1, r2⟩ := iss3 r
  subst hX
  have n4 := o.n4
  have hu := hr.un
  have hN := sc_game_net.nd
  have f0 : Is (Fz H) x h.d := r0.fz (nol_hall h)
  have f1 : Is (Fz H) y anyD := r1.fz rfl
  refine run_parN (B := Fz H) 3 4 (ev_lst (eva_cons (ev_var 2 rfl (r2.fz (nol_gmD b))) eva_nil)) fz_ex (fun p vq H1 hp e1 rq => ?_) hN
  have pF : Fz H p = none := by
    cases e : Fz H p with
    | none => rfl
    | some u => rw [(rs_some e).1] at hp; cases hp
  have k01 : Ex H H1 := (Ex.new hp).trans e1
  cases rq with
  | lst g0 h0 rs =>
    rename_i qa ws0
    have hq0 : upd H p (ND P w p []) qa = none := by
      rcases g0 with ⟨u, z⟩ | z
      · have z' := ((fz_ex.trans k01).lst_back z h0)
        exact ((rs_some z').2 trivial).elim
      · exact z
    have hqp : qa ≠ p := fun e => by rw [e, upd_same] at hq0; cases hq0
    have hq : H qa = none := by rw [upd_ne hqp] at hq0; exact hq0
    let W : Nat → L2.St → Hp → Prop := fun m σ' H' => Ex H H' ∧ ∃ u5 u6, σ' = [some x, some y, some z, some (.ref p), some (.ref qa), u5, u6, none, none] ∧ ∃ xs net ws W', H' p = some (ND P w p xs) ∧ DE gmD turnsD (Gn H p qa) H' xs net ∧
      H' qa = some (.lst ws) ∧ Rps (fun _ => False) H' ws (W'.map gmD) ∧ NetW h b net W' ∧ W'.length ≤ 8 * (net.length + 1) ∧ m = 9 * ((allG h).length - net.length) + W'.length
    refine run_while W _ ⟨k01, none, none, rfl, [], [], ws0, [b], e1.nd upd_same, .nil, h0, rs.pure _ _ (by show (nol (gmD b) && true) = true; rw [nol_gmD]; rfl), .start ob, by simp, rfl⟩ ?_
    rintro m σ' H' ⟨eH, u5, u6, rfl, xs, net, ws, W', hp', de, hq', rws, nw, hlw, rfl⟩
    have rl : Is H' (.ref qa) (.list (W'.map gmD)) := .lst trivial hq' rws.is
    have nlen := keys_few o fw nw.nd nw.ok
    rw [List.length_map] at nlen
    have fw' : (allG h).length < 20000 := fw
    refine ⟨!decide (W' = []), EvT.cast (evt_neD hr.units (ev_var 4 rfl rl) (ev_lst eva_nil) (pl_sh (n := 3) (pls_map pl_gmD _) (by decide)) (by decide +kernel)) ?_, fun hne H3 k3 => ?_, fun he H3 k3 => ?_⟩
    · cases W' <;> rfl
    · rcases List.eq_nil_or_concat W' with e | ⟨W2, g, e⟩
      · rw [e] at hne; simp at hne
      rw [List.concat_eq_append] at e
      subst e
      rw [List.map_append] at rws
      obtain ⟨ws2, vg, rfl, rw2, rg⟩ := rws.unsnoc
      have hq3 := k3.lst hq'
      have hp3 := k3.nd hp'
      have mq : Mu (.lst (ws2 ++ [vg])) := trivial
      refine run_pop 4 5 rfl hq3 ?_ hN
      -- the heap behind the pop
      have e4 : Ex H (upd H3 qa (.lst ws2)) := (eH.trans k3).mut hq hq3 trivial
      have hp4 : upd H3 qa (.lst ws2) p = some (ND P w p xs) := by rw [upd_ne (Ne.symm hqp)]; exact hp3
      have hq4 : upd H3 qa (.lst ws2) qa = some (.lst ws2) := upd_same
      have de4 : DE gmD turnsD (Gn H p qa) (upd H3 qa (.lst ws2)) xs net := (de.mono (fun _ z => z) k3).updp hq3 trivial fun z => z.2.2 rfl
      have rw4 : Rps (fun _ => False) (upd H3 qa (.lst ws2)) ws2 (W2.map gmD) := (rw2.mono (fun _ z => z) k3).updp hq3 trivial fun z => z
      have rg4 : Rp (fun _ => False) (upd H3 qa (.lst ws2)) vg (gmD g) := (rg.mono (fun _ z => z) k3).updp hq3 trivial fun z => z
      generalize upd H3 qa (.lst ws2) = H4 at e4 hp4 hq4 de4 rw4 rg4
      rw [List.length_append, List.length_singleton] at hlw
      refine run_if (B := H4) (evt_notInN 3 ke_gm (by show _ + 9 < _; omega) rfl hp4 de4 (ev_var 5 rfl rg4)) (Ex.refl _) (fun hin H5 k5 => ?_) fun hin H5 k5 => ?_
      · have hin' : g ∉ net.map (·.1) := by simpa using hin
        have nw5 := nw.add o hin'
        have nlen5 := keys_few o fw nw5.nd nw5.ok
        rw [List.length_map, List.length_append, List.length_singleton] at nlen5
        have de5 := de4.mono (fun _ z => z) k5
        refine run_ifF (B := H5) (EvT.cast (evt_eqI (ev_lenN 3 ke_gm M.z_len rfl (k5.nd hp4) de5) (ev_gint M.c_MOST_GAME)) (by simp; omega)) (Ex.refl _) fun H6 k6 => ?_
        have e6 : Ex H H6 := e4.trans (k5.trans k6)
        have og := nw.okw g (List.mem_append_right _ List.mem_cons_self)
        have q0 : Is (Fz H6) x h.d := (f0.up (fz_ex.trans e6)).fz (nol_hall h)
        have q1 : Is (Fz H6) y anyD := (f1.up (fz_ex.trans e6)).fz rfl
        have q5 : Is (Fz H6) vg (gmD g) := (rg4.mono (fun _ z => z) (k5.trans k6)).fz (nol_gmD g)
        have hp6 := (k5.trans k6).nd hp4
        have de6 := de5.mono (fun _ z => z) k6
        refine run_putN (B := Fz H6) 3 ke_gm (by show _ + 9 < _; omega) rfl hp6 de6 (ev_call F1 hr (.mk h g o og) (eva_cons (ev_var 0 rfl q0) (eva_cons (ev_var 1 rfl q1) (eva_cons (ev_var 5 rfl q5) eva_nil)))) (ev_var 5 rfl q5) fz_ex hin' (sl_of (by rw [de6.len]; omega)) fun vt bk H7 k7 rt rb => ?_
        have rt' : Rp (Gn H p qa) H7 vt (turnsD (turnsOf h g)) := (rt.fresh k7).mono (fun a z => ⟨e6.free z, (ne_of_none hp6 z).symm, (ne_of_none ((k5.trans k6).lst hq4) z).symm⟩) (Ex.refl _)
        have hp7 := k7.nd hp6
        show Run _ _ _ _ (upd H7 p (ND P w p (xs ++ [(toK (gmD g), bk, vt)])))
        have mp := nd_mu P w p xs
        have e8 : Ex H (upd H7 p (ND P w p (xs ++ [(toK (gmD g), bk, vt)]))) := (e6.trans k7).mut hp hp7 mp
        have de8 : DE gmD turnsD (Gn H p qa) (upd H7 p (ND P w p (xs ++ [(toK (gmD g), bk, vt)]))) (xs ++ [(toK (gmD g), bk, vt)]) (net ++ [(g, turnsOf h g)]) := ((de6.mono (fun _ z => z) k7).snoc rb rt').updp hp7 mp fun z => z.2.1 rfl
        have hp8 : upd H7 p (ND P w p (xs ++ [(toK (gmD g), bk, vt)])) p = some (ND P w p (xs ++ [(toK (gmD g), bk, vt)])) := upd_same
        have hq8 : upd H7 p (ND P w p (xs ++ [(toK (gmD g), bk, vt)])) qa = some (.lst ws2) := by rw [upd_ne hqp]; exact k7.lst ((k5.trans k6).lst hq4)
        have rw8 : Rps (fun _ => False) (upd H7 p (ND P w p (xs ++ [(toK (gmD g), bk, vt)]))) ws2 (W2.map gmD) := (rw4.mono (fun _ z => z) (k5.trans (k6.trans k7))).updp hp7 mp fun z => z
        have rg8 : Rp (fun _ => False) (upd H7 p (ND P w p (xs ++ [(toK (gmD g), bk, vt)]))) vg (gmD g) := (rg4.mono (fun _ z => z) (k5.trans (k6.trans k7))).updp hp7 mp fun z => z
        generalize upd H7 p (ND P w p (xs ++ [(toK (gmD g), bk, vt)])) = H8 at e8 de8 hp8 hq8 rw8 rg8
        have p0 : Is (Fz H8) x h.d := (f0.up (fz_ex.trans e8)).fz (nol_hall h)
        have p1 : Is (Fz H8) y anyD := (f1.up (fz_ex.trans e8)).fz rfl
        have p5 : Is (Fz H8) vg (gmD g) := rg8.fz (nol_gmD g)
        refine run_forN (B := Fz H8) 6 (evi_list (ev_call (F2.mono (by decide : 1 ≤ 5)) hr (.mk h g o) (eva_cons (ev_var 0 rfl p0) (eva_cons (ev_var 1 rfl p1) (eva_cons (ev_var 5 rfl p5) eva_nil))))) fz_ex (fun B2 H9 k9 kB2 k29 gB => ?_) hN
        have qB2 : B2 qa = none := by
          cases e : B2 qa with
          | none => rfl
          | some u =>
            have e' := k29.lst_back e (k9.lst hq8)
            rcases gB qa _ e' trivial with ⟨u, z⟩ | z
            · exact ((rs_some ((fz_ex (H := H8)).lst_back z hq8)).2 trivial).elim
            · rw [hq8] at z; cases z
        refine ⟨fun i σ' H' => Ex H H' ∧ Ex B2 H' ∧ ∃ u6 ws, σ' = [some x, some y, some z, some (.ref p), some (.ref qa), some vg, u6, none, none] ∧ H' p = some (ND P w p (xs ++ [(toK (gmD g), bk, vt)])) ∧ DE gmD turnsD (Gn H p qa) H' (xs ++ [(toK (gmD g), bk, vt)]) (net ++ [(g, turnsOf h g)]) ∧
          H' qa = some (.lst ws) ∧ Rps (fun _ => False) H' ws ((W2 ++ (List.range i).flatMap (laters h g)).map gmD) ∧ Rp (fun _ => False) H' vg (gmD g),
          ⟨e8.trans k9, k29, _, ws2, rfl, k9.nd hp8, de8.mono (fun _ z => z) k9, k9.lst hq8, by simpa using rw8.mono (fun _ z => z) k9, rg8.mono (fun _ z => z) k9⟩, fun i σ' H' t => t.2.1, ?_, ?_⟩
        · rintro i d vv σ' Ha Hb hd ⟨ea, eb2, u6, wa, rfl, hpa, dea, hqa, rwa', rga⟩ kab rvv
          obtain ⟨rfl, hi⟩ := rngD_at hd
          rw [Int.zero_add] at rvv
          have eHb := ea.trans kab
          have s0 : Is (Fz Hb) x h.d := (f0.up (fz_ex.trans eHb)).fz (nol_hall h)
          have s1 : Is (Fz Hb) y anyD := (f1.up (fz_ex.trans eHb)).fz rfl
          have s5 : Is (Fz Hb) vg (gmD g) := (rga.mono (fun _ z => z) kab).fz (nol_gmD g)
          have s6 : Is (Fz Hb) vv (.int (i : Int)) := rvv.fz rfl
          have hl2 : (behL h g i).length ≤ 2 := by
            have := laters_len h g i
            unfold laters at this
            rwa [List.length_map] at this
          have hlw2 : wa.length ≤ 400000 := by
            rw [rwa'.length, List.length_map, List.length_append]
            have := flat_len h g i
            omega
          refine run_ext (B := Fz Hb) (ds := (laters h g i).map gmD) 4 rfl (kab.lst hqa) (LcJ.ev (LcJ.cast (lcP (own := [("choice", 7), ("later", 8)]) (behL h g i) (fun p => .str (if p.1 then "yes" else "no")) (fun p => gmD p.2) (fun p => gmD p.2) 7 8 hN (blkOk_by (N := N_game_net) (sc := defScope s_game_net) (by decide +kernel))
            (evi_list (ev_call (F3.mono (by decide : 4 ≤ 5)) hr (.mk h g i o og hi) (eva_cons (ev_var 0 rfl s0) (eva_cons (ev_var 1 rfl s1) (eva_cons (ev_var 5 rfl s5) (eva_cons (ev_var 6 rfl s6) eva_nil))))))
            (fun p hp u v B3 kB iu iv s0 H0 C cl fp => ev_var 8 rfl iv) (sl_of (by omega))) (by unfold laters; rw [List.map_map]; rfl))) fz_ex (sl_le (by rw [List.length_map]; have := laters_len h g i; omega)) fun vs2 Hc kc rvs => ?_
          have hqc := kc.lst (kab.lst hqa)
          have rvs' : Rps (fun _ => False) Hc vs2 ((laters h g i).map gmD) := rvs.pure _ _ (nols_map nol_gmD _)
          refine run_nil ⟨(eHb.trans kc).mut hq hqc trivial, (eb2.trans (kab.trans kc)).mut qB2 hqc trivial, _, _, rfl, ?_, (dea.mono (fun _ z => z) (kab.trans kc)).updp hqc trivial fun z => z.2.2 rfl, upd_same, ?_, (rga.mono (fun _ z => z) (kab.trans kc)).updp hqc trivial fun z => z⟩
          · rw [upd_ne (Ne.symm hqp)]
            exact (kab.trans kc).nd hpa
          · rw [List.range_succ, List.flatMap_append, ← List.append_assoc, List.map_append]
            have e : ((List.flatMap (laters h g) [i]).map gmD) = (laters h g i).map gmD := by rw [List.flatMap_cons, List.flatMap_nil, List.append_nil]
            rw [e]
            exact ((rwa'.mono (fun _ z => z) (kab.trans kc)).append rvs').updp hqc trivial fun z => z
        · rintro σ' Ha ⟨ea, eb2, u6, wa, rfl, hpa, dea, hqa, rwa', rga⟩
          rw [rngD_length] at rwa'
          refine run_nil (run_nil ⟨_, ?_, ea, _, _, rfl, _, _, wa, _, hpa, dea, hqa, rwa', nw5, ?_, rfl⟩)
          · have := flat_len h g h.fs.length
            rw [List.length_append, List.length_append, List.length_append, List.length_singleton, List.length_singleton]
            omega
          · have := flat_len h g h.fs.length
            rw [List.length_append, List.length_append, List.length_singleton]
            omega
      · have hin' : g ∈ net.map (·.1) := by simpa using hin
        refine run_nil (run_nil ⟨_, ?_, e4.trans k5, _, _, rfl, xs, net, ws2, W2, k5.nd hp4, de4.mono (fun _ z => z) k5, k5.lst hq4, rw4.mono (fun _ z => z) k5, nw.skip hin', by omega, rfl⟩)
        rw [List.length_append, List.length_singleton]
        omega
    · have e : W' = [] := by simpa using he
      subst e
      refine run_retV 3 rfl (q p xs net H3 (eH.trans k3) hp (k3.nd hp') (de.mono (fun a z => ⟨z.1, z.2.1⟩) k3) nw.fin)
end
end Bl

set_option Elab.async false
set_option linter.all false
set_option autoImplicit false
set_option maxRecDepth 100000
set_option maxHeartbeats 4000000
namespace Bl
open PySem PySem.Spec PyProof.Rows L2 LamX StX
/-! ### worse or not: an order of fractions -/
def Ps (p : Int × Int) : Prop := 0 < p.2
/-- a is worse than b, as one test -/
theorem isW_lt (rg : Bool) (a b : Int × Int) : isW rg a b = if rg then decide (b.1 * a.2 < a.1 * b.2) else decide (a.1 * b.2 < b.1 * a.2) := by
  unfold isW
  cases rg
  · simp only [Bool.false_eq_true, if_false, decide_eq_decide]
    omega
  · simp only [if_true, decide_eq_decide]
    omega
theorem le_trans3 {a b c : Int × Int} (ha : Ps a) (hb : Ps b) (hc : Ps c) (h1 : a.1 * b.2 ≤ b.1 * a.2) (h2 : b.1 * c.2 ≤ c.1 * b.2) : a.1 * c.2 ≤ c.1 * a.2 := by
  unfold Ps at ha hb hc
  have e1 := Int.mul_le_mul_of_nonneg_right h1 (Int.le_of_lt hc)
  have e2 := Int.mul_le_mul_of_nonneg_right h2 (Int.le_of_lt ha)
  have e3 : a.1 * c.2 * b.2 ≤ c.1 * a.2 * b.2 := by
    have t1 : a.1 * b.2 * c.2 = a.1 * c.2 * b.2 := by rw [Int.mul_assoc, Int.mul_comm b.2, ← Int.mul_assoc]
    have t2 : b.1 * a.2 * c.2 = b.1 * c.2 * a.2 := by rw [Int.mul_assoc, Int.mul_comm a.2, ← Int.mul_assoc]
    have t3 : c.1 * b.2 * a.2 = c.1 * a.2 * b.2 := by rw [Int.mul_assoc, Int.mul_comm b.2, ← Int.mul_assoc]
    omega
  exact Int.le_of_mul_le_mul_right e3 hb
/-- a no worse than b -/
def nw (rg : Bool) (a b : Int × Int) : Prop := isW rg a b = false
theorem nw_iff {rg : Bool} {a b : Int × Int} : nw rg a b ↔ if rg then a.1 * b.2 ≤ b.1 * a.2 else b.1 * a.2 ≤ a.1 * b.2 := by
  unfold nw
  rw [isW_lt]
  cases rg
  · simp
  · simp
theorem nw_refl (rg : Bool) (a : Int × Int) : nw rg a a := isW_self rg a
theorem nw_trans {rg : Bool} {a b c : Int × Int} (ha : Ps a) (hb : Ps b) (hc : Ps c) (h1 : nw rg a b) (h2 : nw rg b c) : nw rg a c := by
  rw [nw_iff] at *
  cases rg
  · exact le_trans3 hc hb ha h2 h1
  · exact le_trans3 ha hb hc h1 h2
theorem nw_of {rg : Bool} {a b : Int × Int} (h : isW rg a b = true) : nw rg b a := by
  rw [nw_iff]
  rw [isW_lt] at h
  cases rg
  · simp at h; exact Int.le_of_lt h
  · simp at h; exact Int.le_of_lt h
theorem frac_ps (a b : Int) (hb : 0 ≤ b) : Ps (frac a b) := by
  unfold frac Ps
  split
  · decide
  · rename_i h
    have g0 : 0 < Int.gcd a b := Int.gcd_pos_of_ne_zero_right a h
    have g1 : (Int.gcd a b : Int) ≤ b := Int.le_of_dvd (by omega) (Int.gcd_dvd_right a b)
    exact Int.ediv_pos_of_pos_of_dvd (by omega) (by omega) (Int.gcd_dvd_right a b)
theorem worthOf_ps (rg : Bool) (a b : Int) (hb : 0 ≤ b) : Ps (worthOf rg a b) := by
  unfold worthOf
  cases rg
  · exact frac_ps a b hb
  · exact (by decide : (0 : Int) < 1)
theorem first_ps (rg : Bool) : Ps (first rg) := by cases rg <;> exact (by decide : (0 : Int) < 1)
theorem GmOk.ps {h : Hall} {g : Gm} (o : GmOk h g) (ho : h.Ok) (rg : Bool) : Ps (worthIf h rg g) := worthOf_ps rg _ _ (o.w2 ho).1
theorem GmOk.sm {h : Hall} {g : Gm} (o : GmOk h g) (ho : h.Ok) (rg : Bool) : Sm (worthIf h rg g) := by
  have a := o.w1 ho
  have b := o.w2 ho
  exact worthOf_sm rg a.1 (by omega) b.1 (by omega)
/-! ### the states that the nested rule reaches -/
abbrev S3 := Gm × Int
def s3D (p : S3) : PyData := g3D p.1 p.2
def start3 (h : Hall) : S3 := ((zeros h.fs.length, zeros h.fs.length), -1)
def fares3 (h : Hall) (rs : Bool) (last : Int) : List Nat := (List.range (h.fs.length - (mayLo rs last).toNat)).map ((mayLo rs last).toNat + ·)
def next3 (h : Hall) (ls : List Int) (rs : Bool) (p : S3) (k : Nat) : S3 := ((stepF h ls p.1.1 k, seenW h.s p.1.2 k), if rs then (k : Int) else -1)
inductive Reach (h : Hall) (ls : List Int) (rs : Bool) : S3 → Prop
  | start : Reach h ls rs (start3 h)
  | step {p : S3} {k : Nat} : Reach h ls rs p → k ∈ fares3 h rs p.2 → Reach h ls rs (next3 h ls rs p k)
theorem fares3_lt {h : Hall} {rs : Bool} {last : Int} {k : Nat} (hk : k ∈ fares3 h rs last) : k < h.fs.length ∧ (mayLo rs last).toNat ≤ k := by
  obtain ⟨i, hi, rfl⟩ := List.mem_map.mp hk
  have := List.mem_range.mp hi
  omega
theorem stepF_ok {h : Hall} {ls sold : List Int} {k : Nat} (hl : sold.length = h.fs.length) (hk : k < h.fs.length) (hc : ∀ c ∈ sold, 0 ≤ c) (hs : sold.sum ≤ h.s) : (stepF h ls sold k).length = h.fs.length ∧ (∀ c ∈ stepF h ls sold k, 0 ≤ c) ∧ (stepF h ls sold k).sum ≤ h.s := by
  unfold stepF
  split
  · rename_i ht
    unfold taken at ht
    rw [Bool.and_eq_true, decide_eq_true_iff] at ht
    exact ⟨by rw [more_length]; exact hl, more_nn hc, by rw [more_sum 1 (by omega)]; omega⟩
  · exact ⟨hl, hc, hs⟩
theorem reach_ok {h : Hall} (o : h.Ok) {ls : List Int} {rs : Bool} {p : S3} (r : Reach h ls rs p) : GmOk h p.1 ∧ -1 ≤ p.2 ∧ p.2 < h.fs.length := by
  induction r with
  | start => exact ⟨zeros_ok o, by show (-1 : Int) ≤ -1; omega, by show (-1 : Int) < _; omega⟩
  | @step p k _ hk ih =>
    obtain ⟨og, h1, h2⟩ := ih
    have hkl := (fares3_lt hk).1
    obtain ⟨a1, a2, a3⟩ := stepF_ok (ls := ls) og.l1 hkl og.p1 og.s1
    have sw := seenW_ok (s := h.s) (k := k) (by have := o.s1; omega) og.p2 (by rw [og.l2]; exact hkl) og.s2
    refine ⟨⟨a1, by show (seenW _ _ _).length = _; rw [seenW_len]; exact og.l2, a2, sw.1, a3, sw.2⟩, ?_, ?_⟩
    · show -1 ≤ (if rs then (k : Int) else -1)
      split <;> omega
    · show (if rs then (k : Int) else -1) < _
      split <;> omega
theorem s3D_inj {p q : S3} (h : s3D p = s3D q) : p = q := by
  obtain ⟨⟨a, b⟩, c⟩ := p
  obtain ⟨⟨a', b'⟩, c'⟩ := q
  simp only [s3D, g3D, PyData.tuple.injEq, List.cons.injEq, PyData.int.injEq, and_true] at h
  rw [dIs_inj h.1, dIs_inj h.2.1, h.2.2]
/-- the answer: worst of all states of a set that is closed -/
structure AwOk (h : Hall) (ls : List Int) (rs rg : Bool) (F : Int × Int) : Prop where
  ex : ∃ S : List S3, start3 h ∈ S ∧ (∀ p ∈ S, Reach h ls rs p) ∧ (∀ p ∈ S, ∀ k ∈ fares3 h rs p.2, next3 h ls rs p k ∈ S) ∧ (F = first rg ∨ ∃ p ∈ S, F = worthIf h rg p.1) ∧ (∀ p ∈ S, nw rg (worthIf h rg p.1) F) ∧ nw rg (first rg) F
structure AwW (h : Hall) (ls : List Int) (rs rg : Bool) (kn ws : List S3) (F : Int × Int) : Prop where
  nd : kn.Nodup
  st : start3 h ∈ kn
  re : ∀ p ∈ kn, Reach h ls rs p
  sub : ∀ p ∈ ws, p ∈ kn
  dn : ∀ p ∈ kn, p ∈ ws ∨ ((∀ k ∈ fares3 h rs p.2, next3 h ls rs p k ∈ kn) ∧ nw rg (worthIf h rg p.1) F)
  fm : F = first rg ∨ ∃ p ∈ kn, F = worthIf h rg p.1
  fi : nw rg (first rg) F
theorem AwW.start {h : Hall} {ls : List Int} {rs rg : Bool} : AwW h ls rs rg [start3 h] [start3 h] (first rg) where
  nd := by simp
  st := List.mem_cons_self
  re := fun p hp => by rw [List.mem_singleton.mp hp]; exact .start
  sub := fun p hp => hp
  dn := fun p hp => .inl hp
  fm := .inl rfl
  fi := nw_refl _ _
theorem AwW.fin {h : Hall} {ls : List Int} {rs rg : Bool} {kn : List S3} {F : Int × Int} (a : AwW h ls rs rg kn [] F) : AwOk h ls rs rg F :=
  ⟨kn, a.st, a.re, fun p hp => ((a.dn p hp).resolve_left fun z => nomatch z).1, a.fm, fun p hp => ((a.dn p hp).resolve_left fun z => nomatch z).2, a.fi⟩
theorem AwW.fps {h : Hall} (o : h.Ok) {ls : List Int} {rs rg : Bool} {kn ws : List S3} {F : Int × Int} (a : AwW h ls rs rg kn ws F) : Ps F ∧ Sm F := by
  rcases a.fm with e | ⟨p, hp, e⟩
  · rw [e]; exact ⟨first_ps rg, first_sm rg⟩
  · rw [e]; exact ⟨(reach_ok o (a.re p hp)).1.ps o rg, (reach_ok o (a.re p hp)).1.sm o rg⟩
/-- one state handled: its followers are added -/
theorem AwW.turn {h : Hall} (o : h.Ok) {ls : List Int} {rs rg : Bool} {kn ws add : List S3} {p : S3} {F F' : Int × Int} (a : AwW h ls rs rg kn (ws ++ [p]) F) (hF : F' = if isW rg (worthIf h rg p.1) F then worthIf h rg p.1 else F) (nd : (kn ++ add).Nodup)
    (ha : ∀ q ∈ add, ∃ k ∈ fares3 h rs p.2, q = next3 h ls rs p k) (hc : ∀ k ∈ fares3 h rs p.2, next3 h ls rs p k ∈ kn ++ add) : AwW h ls rs rg (kn ++ add) (ws ++ add) F' := by
  have hp : p ∈ kn := a.sub p (List.mem_append_right _ List.mem_cons_self)
  have rp := a.re p hp
  have wp := (reach_ok o rp).1.ps o rg
  have fp := (a.fps o).1
  have up : nw rg F F' ∧ nw rg (worthIf h rg p.1) F' ∧ Ps F' := by
    rw [hF]
    by_cases e : isW rg (worthIf h rg p.1) F = true
    · rw [if_pos e]; exact ⟨nw_of e, nw_refl _ _, wp⟩
    · rw [if_neg e]; exact ⟨nw_refl _ _, Bool.eq_false_iff.mpr e, fp⟩
  obtain ⟨u1, u2, u3⟩ := up
  refine ⟨nd, List.mem_append_left _ a.st, fun q hq => ?_, fun q hq => ?_, fun q hq => ?_, ?_, ?_⟩
  · rcases List.mem_append.mp hq with z | z
    · exact a.re q z
    · obtain ⟨k, hk, e⟩ := ha q z
      rw [e]; exact .step rp hk
  · rcases List.mem_append.mp hq with z | z
    · exact List.mem_append_left _ (a.sub q (List.mem_append_left _ z))
    · exact List.mem_append_right _ z
  · rcases List.mem_append.mp hq with z | z
    · by_cases e : q = p
      · subst e
        exact .inr ⟨hc, u2⟩
      · rcases a.dn q z with t | ⟨t1, t2⟩
        · rcases List.mem_append.mp t with t | t
          · exact .inl (List.mem_append_left _ t)
          · exact absurd (List.mem_singleton.mp t) e
        · exact .inr ⟨fun k hk => List.mem_append_left _ (t1 k hk), nw_trans ((reach_ok o (a.re q z)).1.ps o rg) fp u3 t2 u1⟩
    · exact .inl (List.mem_append_right _ z)
  · rw [hF]
    by_cases e : isW rg (worthIf h rg p.1) F = true
    · rw [if_pos e]; exact .inr ⟨p, List.mem_append_left _ hp, rfl⟩
    · rw [if_neg e]
      rcases a.fm with z | ⟨q, hq, z⟩
      · exact .inl z
      · exact .inr ⟨q, List.mem_append_left _ hq, z⟩
  · exact nw_trans (first_ps rg) fp u3 a.fi u1
end Bl

set_option Elab.async false
set_option linter.all false
set_option autoImplicit false
set_option maxRecDepth 100000
set_option maxHeartbeats 4000000
namespace Bl
open PySem PySem.Spec PyProof.Rows L2 LamX StX
theorem ke_s3 : KeyEnc s3D where
  nk := fun g => by
    show nKs 7 [dIs g.1.1, dIs g.1.2, .int g.2] = true
    simp only [nKs, nK_dIs, nK, Bool.and_self]
  inj := fun a b h => s3D_inj h
  tup := fun g => ⟨_, rfl⟩
theorem pl_s3 (g : S3) : pl 2 (s3D g) = true := by
  show (pl 1 (dIs g.1.1) && (pl 1 (dIs g.1.2) && true)) = true
  rw [pl_dIs, pl_dIs]
  rfl
theorem nol_s3 (g : S3) : nol (s3D g) = true := nol_g3D g.1 g.2
theorem fares3_len (h : Hall) (rs : Bool) (last : Int) : (fares3 h rs last).length ≤ h.fs.length := by
  unfold fares3
  rw [List.length_map, List.length_range]
  omega
section
variable {P : Program} {w : World} {K : PySem.W.Frag} {mg : Str → Option Value} {base : Heap}
def SpAllWorst : SpQ := fun vs H Q => ∃ (h : Hall) (rs rg : Bool) (ls : List Int), Iss H vs [h.d, sortD rs, wD rg, dIs ls, .int 300] ∧ h.Ok ∧ LimOk h ls ∧
  (∀ H', Ex H H' → Q .non H') ∧ ∀ F v H', Ex H H' → Is H' v (frD F) → AwOk h ls rs rg F → Q v H'
theorem ok_all_worst (M : Md mg) (D : FDef K mg "_law_all_worst" s__law_all_worst) (F1 : Fn P w K mg base 2 "_law_top" 3 PreLTop) (F2 : Fn P w K mg base 2 "_law_worth_if" 3 PreLWorthIf) (F3 : Fn P w K mg base 1 "_law_may" 3 PreMay) (F4 : Fn P w K mg base 2 "_law_step" 5 PreStep) (F5 : Fn P w K mg base 2 "_law_seen_more" 3 PreSeenMore) :
    FnQ P w K mg base 3 "_law_all_worst" 5 SpAllWorst := by
  refine fnQ_mk D sc__law_all_worst (fun _ _ _ _ _ _ us hl => match us, hl with | [_, _, _, _, _], _ => rfl) rfl (fun vs H Q hsp => ?_) ?_
  · obtain ⟨h, rs, rg, ls, r, _⟩ := hsp
    rw [r.length]
    rfl
  intro X cdv A outer s f E H vs Q hX hr ⟨h, rs, rg, ls, r, o, l, qn, q⟩
  obtain ⟨x0, x1, x2, x3, x4, rfl, r0, r1, r2, r3, r4⟩ := iss5 r
  subst hX
  cases r4
  have n1 := o.n1
  have n4 := o.n4
  have ll := l.len
  have hu := hr.un
  have hN := sc__law_all_worst.nd
  have f0 : Is (Fz H) x0 h.d := r0.fz (nol_hall h)
  have f1 : Is (Fz H) x1 (sortD rs) := r1.fz rfl
  have f2 : Is (Fz H) x2 (wD rg) := r2.fz rfl
  have f3 : Is (Fz H) x3 (dIs ls) := r3.fz (nol_dIs ls)
  refine run_set (B := Fz H) 5 (Ev.cast (ev_rep (ev_tup (eva_cons ev_int eva_nil)) (ev_len M.z_len (ev_fs (ev_var 0 rfl f0))) (by omega) (by omega)) (zeros_d _)) fz_ex (fun nn H1 k1 rn => ?_) hN
  have g0 : Is (Fz H1) x0 h.d := (f0.up (fz_ex.trans k1)).fz (nol_hall h)
  have g2 : Is (Fz H1) x2 (wD rg) := (f2.up (fz_ex.trans k1)).fz rfl
  have gn : Is (Fz H1) nn (dIs (zeros h.fs.length)) := rn.fz (nol_dIs _)
  refine run_par3N (B := Fz H1) (fk := s3D) (k := start3 h) 6 7 8 ke_s3 (by show _ + 9 < _; omega) (ev_tup (eva_cons (ev_var 5 rfl gn) (eva_cons (ev_var 5 rfl gn) (eva_cons ev_neg1 eva_nil)))) ev_bool (ev_lst (eva_cons (ev_tup (eva_cons (ev_var 5 rfl gn) (eva_cons (ev_var 5 rfl gn) (eva_cons ev_neg1 eva_nil)))) eva_nil)) (d := .bool true) (db := frD (first rg)) (ev_if (t := rg) (EvT.cast (evt_eqS (ev_var 2 rfl g2) ev_str) (wD_reg rg)) (fun e => ?_) fun e => ?_) fz_ex (fun p bk v1 v2 v3 H2 H3 hp k12 rv1 rbk k23 rv2 rv3 => ?_) hN
  · subst e
    exact ev_tup (eva_cons ev_int (eva_cons ev_int eva_nil))
  · subst e
    exact ev_tup (eva_cons ev_int (eva_cons ev_int eva_nil))
  have hpH : H p = none := k1.free hp
  have h2p : H2 p = some (ND P w p []) := k12.nd upd_same
  have mp0 := nd_mu P w p []
  have e2 : Ex H H2 := k1.trans ((Ex.new hp).trans k12)
  have e2' : Ex H (upd H2 p (ND P w p [(toK (s3D (start3 h)), bk, v1)])) := e2.mut hpH h2p mp0
  have de0 : DE s3D (fun _ : Unit => PyData.bool true) (fun _ => False) (upd H2 p (ND P w p [(toK (s3D (start3 h)), bk, v1)])) [(toK (s3D (start3 h)), bk, v1)] [(start3 h, ())] := .cons (rbk.updp h2p mp0 fun z => z) ((rv1.pure _ _ rfl).updp h2p mp0 fun z => z) .nil
  have e3 : Ex H H3 := e2'.trans k23
  cases rv2 with
  | lst q0 hq3 rws =>
    rename_i qa ws0
    have hq2 : (upd H2 p (ND P w p [(toK (s3D (start3 h)), bk, v1)])) qa = none := by
      rcases q0 with ⟨u, z⟩ | z
      · have z' := (((fz_ex.trans k1).trans (Ex.refl _) |> fun _ => (fz_ex (H := H1)).trans (((Ex.new hp).trans k12).mut hp h2p mp0 |>.trans k23))).lst_back z hq3
        exact ((rs_some z').2 trivial).elim
      · exact z
    have hqp : qa ≠ p := fun e => by rw [e, upd_same] at hq2; cases hq2
    have hqH : H qa = none := by
      have z := hq2
      rw [upd_ne hqp] at z
      exact e2.free z
    let W : Nat → L2.St → Hp → Prop := fun m σ' H' => Ex H H' ∧ ∃ vf u9 u10 u11 u12 u13 u14, σ' = [some x0, some x1, some x2, some x3, some (.int 300), some nn, some (.ref p), some (.ref qa), some vf, u9, u10, u11, u12, u13, u14] ∧ ∃ F xs kn ws W', H' p = some (ND P w p xs) ∧ DE s3D (fun _ : Unit => PyData.bool true) (fun _ => False) H' xs (kn.map fun a => (a, ())) ∧
      H' qa = some (.lst ws) ∧ Rps (fun _ => False) H' ws (W'.map s3D) ∧ Is H' vf (frD F) ∧ AwW h ls rs rg kn W' F ∧ kn.length ≤ 300 ∧ W'.length ≤ kn.length ∧ m = 2 * (400 - kn.length) + W'.length
    refine run_while W _ ⟨e3, v3, none, none, none, none, none, none, rfl, first rg, _, [start3 h], ws0, [start3 h], k23.nd upd_same, de0.mono (fun _ z => z) k23, hq3, rws.pure _ _ (by show (nol (s3D (start3 h)) && true) = true; rw [nol_s3]; rfl), rv3.is, .start, by simp, Nat.le_refl _, rfl⟩ ?_
    rintro m σ' H' ⟨eH, vf, u9, u10, u11, u12, u13, u14, rfl, F, xs, kn, ws, W', hp', de, hq', rws', rf, aw, hkn, hwk, rfl⟩
    have rl : Is H' (.ref qa) (.list (W'.map s3D)) := .lst trivial hq' rws'.is
    refine ⟨!decide (W' = []), EvT.cast (evt_neD hr.units (ev_var 7 rfl rl) (ev_lst eva_nil) (pl_sh (n := 3) (pls_map pl_s3 _) (by decide)) (by decide +kernel)) ?_, fun hne H4 k4 => ?_, fun he H4 k4 => ?_⟩
    · cases W' <;> rfl
    · rcases List.eq_nil_or_concat W' with e | ⟨W2, s3, e⟩
      · rw [e] at hne; simp at hne
      rw [List.concat_eq_append] at e
      subst e
      rw [List.map_append] at rws'
      obtain ⟨ws2, vg, rfl, rw2, rg3⟩ := rws'.unsnoc
      have hq4 := k4.lst hq'
      have hp4 := k4.nd hp'
      rw [List.length_append, List.length_singleton] at hwk
      have e5 : Ex H (upd H4 qa (.lst ws2)) := (eH.trans k4).mut hqH hq4 trivial
      have hp5 : upd H4 qa (.lst ws2) p = some (ND P w p xs) := by rw [upd_ne (Ne.symm hqp)]; exact hp4
      have hq5 : upd H4 qa (.lst ws2) qa = some (.lst ws2) := upd_same
      have de5 := (de.mono (fun _ z => z) k4).updp (o := .lst ws2) hq4 trivial fun z => z
      have rw5 : Rps (fun _ => False) (upd H4 qa (.lst ws2)) ws2 (W2.map s3D) := (rw2.mono (fun _ z => z) k4).updp hq4 trivial fun z => z
      have rg5 : Rp (fun _ => False) (upd H4 qa (.lst ws2)) vg (s3D s3) := (rg3.mono (fun _ z => z) k4).updp hq4 trivial fun z => z
      have rf5 : Rp (fun _ => False) (upd H4 qa (.lst ws2)) vf (frD F) := ((rf.up k4).pure _ _ rfl).updp hq4 trivial fun z => z
      refine run_pop3 (B3 := upd H4 qa (.lst ws2)) 7 9 10 11 rfl hq4 rg5.is (Ex.refl _) (fun vs vb vl is ib il => ?_) hN
      generalize upd H4 qa (.lst ws2) = H5 at e5 hp5 hq5 de5 rw5 rg5 rf5 is ib il
      have ro := reach_ok o (aw.re s3 (aw.sub s3 (List.mem_append_right _ List.mem_cons_self)))
      obtain ⟨og, lo1, lo2⟩ := ro
      have p0 : Is H5 x0 h.d := f0.up (fz_ex.trans e5)
      have p1 : Is H5 x1 (sortD rs) := f1.up (fz_ex.trans e5)
      have p2 : Is H5 x2 (wD rg) := f2.up (fz_ex.trans e5)
      refine run_set (B := H5) 8 (ev_call F1 hr (.mk rg true F [worthIf h rg s3.1] (aw.fps o).2 fun b hb => by rw [List.mem_singleton.mp hb]; exact og.sm o rg) (eva_cons (ev_var 2 rfl p2) (eva_cons (ev_lst (eva_cons (ev_var 8 rfl rf5) (eva_cons (ev_call F2 hr (.mk h rg s3.1 s3.2 o og) (eva_cons (ev_var 0 rfl p0) (eva_cons (ev_var 2 rfl p2) (eva_cons (ev_tup (eva_cons (ev_var 9 rfl is) (eva_cons (ev_var 10 rfl ib) (eva_cons (ev_var 11 rfl il) eva_nil)))) eva_nil)))) eva_nil))) (eva_cons ev_bool eva_nil)))) (Ex.refl _) (fun vf2 H6 k6 rf6 => ?_) hN
      have eF : topF rg true F [worthIf h rg s3.1] = if isW rg (worthIf h rg s3.1) F then worthIf h rg s3.1 else F := rfl
      generalize hF' : topF rg true F [worthIf h rg s3.1] = F' at rf6 eF
      have e6 := e5.trans k6
      have hl3 : ∀ k ∈ fares3 h rs s3.2, k < h.fs.length := fun k hk => (fares3_lt hk).1
      have hlo : 0 ≤ mayLo rs s3.2 := by
        unfold mayLo
        split
        · split <;> omega
        · omega
      refine run_forN (B := Fz H6) 12 (evi_list (ev_call (F3.mono (by decide : 1 ≤ 2)) hr (.mk h rs s3.2 o (by omega) (by omega)) (eva_cons (ev_var 0 rfl ((p0.up k6).fz (nol_hall h))) (eva_cons (ev_var 1 rfl ((p1.up k6).fz rfl)) (eva_cons (ev_var 11 rfl ((il.up k6).fz rfl)) eva_nil))))) fz_ex (fun B2 H7 k7 kB2 k27 gB => ?_) hN
      have nB2 : ∀ b u, H6 b = some u → Mu u → (∀ ps, u ≠ .tbl ps) → B2 b = none := fun b u hb mu nt => by
        cases e : B2 b with
        | none => rfl
        | some u2 =>
          rcases tbl_or u2 with ⟨ps, z⟩ | z
          · subst z
            obtain ⟨ps', t⟩ := k27.tbl b ps e
            rw [k7.keep b u hb nt] at t
            exact (nt ps' (Option.some.inj t)).elim
          · have t := k27.keep b u2 e z
            rw [k7.keep b u hb nt] at t
            have t' := Option.some.inj t
            subst t'
            rcases gB b _ e mu with ⟨u3, y⟩ | y
            · have y1 := (rs_some y)
              have y2 := y1.1
              rw [hb] at y2
              cases y2
              exact (y1.2 mu).elim
            · rw [hb] at y; cases y
      have pB2 : B2 p = none := nB2 p _ (k6.nd hp5) (nd_mu P w p xs) (nd_ne_tbl P w p xs)
      have qB2 : B2 qa = none := nB2 qa _ (k6.lst hq5) trivial fun ps z => nomatch z
      refine ⟨fun i σ' H' => Ex H H' ∧ Ex B2 H' ∧ ∃ u12 u13 u14, σ' = [some x0, some x1, some x2, some x3, some (.int 300), some nn, some (.ref p), some (.ref qa), some vf2, some vs, some vb, some vl, u12, u13, u14] ∧ ∃ xs add ws, H' p = some (ND P w p xs) ∧ DE s3D (fun _ : Unit => PyData.bool true) (fun _ => False) H' xs ((kn ++ add).map fun a => (a, ())) ∧
        H' qa = some (.lst ws) ∧ Rps (fun _ => False) H' ws ((W2 ++ add).map s3D) ∧ Rp (fun _ => False) H' vf2 (frD F') ∧ Rp (fun _ => False) H' vs (dIs s3.1.1) ∧ Rp (fun _ => False) H' vb (dIs s3.1.2) ∧ (kn ++ add).Nodup ∧ (∀ q ∈ add, ∃ k ∈ fares3 h rs s3.2, q = next3 h ls rs s3 k) ∧
        (∀ j, j < i → ∀ k, (fares3 h rs s3.2)[j]? = some k → next3 h ls rs s3 k ∈ kn ++ add) ∧ add.length ≤ i,
        ⟨e6.trans k7, k27, u12, u13, u14, rfl, xs, [], ws2, (k6.trans k7).nd hp5, by rw [List.append_nil]; exact de5.mono (fun _ z => z) (k6.trans k7), (k6.trans k7).lst hq5, by rw [List.append_nil]; exact rw5.mono (fun _ z => z) (k6.trans k7), (rf6.pure _ _ rfl).mono (fun _ z => z) k7, (is.pure _ _ (nol_dIs _)).mono (fun _ z => z) (k6.trans k7), (ib.pure _ _ (nol_dIs _)).mono (fun _ z => z) (k6.trans k7),
          by rw [List.append_nil]; exact aw.nd, (fun q hq => nomatch hq), (fun j hj => absurd hj (Nat.not_lt_zero j)), Nat.le_refl _⟩, fun i σ' H' t => t.2.1, ?_, ?_⟩
      · rintro i d vv σ' Ha Hb hd ⟨ea, eb2, u12, u13, u14, rfl, xa, add, wa, hpa, dea, hqa, rwa', rfa, rsa, rba, nda, hadd, hcl, hal⟩ kab rvv
        obtain ⟨rfl, hi⟩ := rngD_at hd
        have hfi : (fares3 h rs s3.2)[i]? = some ((mayLo rs s3.2).toNat + i) := by
          unfold fares3
          rw [List.getElem?_map, List.getElem?_range (by omega)]
          rfl
        have hkm : (mayLo rs s3.2).toNat + i ∈ fares3 h rs s3.2 := List.mem_of_getElem? hfi
        have hkl := hl3 _ hkm
        rw [show mayLo rs s3.2 + (i : Int) = (((mayLo rs s3.2).toNat + i : Nat) : Int) by omega] at rvv
        generalize (mayLo rs s3.2).toNat + i = k at hfi hkm hkl rvv
        cases rvv
        have eHb := ea.trans kab
        have s0 : Is (Fz Hb) x0 h.d := (f0.up (fz_ex.trans eHb)).fz (nol_hall h)
        have s1 : Is (Fz Hb) x1 (sortD rs) := (f1.up (fz_ex.trans eHb)).fz rfl
        have s3' : Is (Fz Hb) x3 (dIs ls) := (f3.up (fz_ex.trans eHb)).fz (nol_dIs ls)
        have s9 : Is (Fz Hb) vs (dIs s3.1.1) := (rsa.mono (fun _ z => z) kab).fz (nol_dIs _)
        have s10 : Is (Fz Hb) vb (dIs s3.1.2) := (rba.mono (fun _ z => z) kab).fz (nol_dIs _)
        refine run_set (B := Fz Hb) 13 (ev_ixT (ds := [dIs (stepF h ls s3.1.1 k), .int 0, .str (if taken h ls s3.1.1 k then "taken" else "refused")]) (ev_call F4 hr (.mk h ls s3.1.1 k (by rw [og.l1]; omega) (by rw [ll, og.l1]) (by rw [og.l1]; exact hkl)) (eva_cons (ev_var 0 rfl s0) (eva_cons (ev_tup (eva_cons ev_str (eva_cons (ev_var 3 rfl s3') eva_nil))) (eva_cons (ev_var 9 rfl s9) (eva_cons ev_int (eva_cons (ev_var 12 rfl (.int _ : Is (Fz Hb) _ _)) eva_nil)))))) ev_int rfl) fz_ex (fun v13 Hc kc r13 => ?_) hN
        have s13 : Is (Fz Hc) v13 (dIs (stepF h ls s3.1.1 k)) := r13.fz (nol_dIs _)
        have upc : ∀ {v d}, Is (Fz Hb) v d → nol d = true → Is (Fz Hc) v d := fun z n => (z.up (fz_ex.trans kc)).fz n
        refine run_set (B := Fz Hc) 14 (ev_tup (eva_cons (ev_var 13 rfl s13) (eva_cons (ev_call F5 hr (.mk h s3.1.2 k o og.l2 og.p2 og.s2 (by rw [og.l2]; exact hkl)) (eva_cons (ev_var 0 rfl (upc s0 (nol_hall h))) (eva_cons (ev_var 10 rfl (upc s10 (nol_dIs _))) (eva_cons (ev_var 12 rfl (.int _ : Is (Fz Hc) _ _)) eva_nil))))
          (eva_cons (ev_if (d := .int (if rs then (k : Int) else -1)) (t := rs) (EvT.cast (evt_eqS (ev_var 1 rfl (upc s1 rfl)) ev_str) (by cases rs <;> decide +kernel)) (fun e => by subst e; exact ev_var 12 rfl (.int _ : Is (Fz Hc) _ _)) fun e => by subst e; exact ev_neg1) eva_nil)))) fz_ex (fun v14 Hd kd r14 => ?_) hN
        have r14' : Rp (fun _ => False) Hd v14 (s3D (next3 h ls rs s3 k)) := r14.pure _ _ (nol_s3 _)
        have kbd := kc.trans kd
        have kad := kab.trans kbd
        have ded := dea.mono (fun _ z => z) kad
        refine run_if (B := Hd) (evt_notInN 6 ke_s3 (by show _ + 9 < _; omega) rfl (kad.nd hpa) ded (ev_var 14 rfl r14')) (Ex.refl _) (fun hin He ke => ?_) fun hin He ke => ?_
        · have hin' : next3 h ls rs s3 k ∉ ((kn ++ add).map fun a => (a, ())).map (·.1) := by simpa using hin
          have hin2 : next3 h ls rs s3 k ∉ kn ++ add := fun z => hin' (List.mem_map.mpr ⟨(_, ()), List.mem_map.mpr ⟨_, z, rfl⟩, rfl⟩)
          have hlen : (kn ++ add).length ≤ 400 := by
            rw [List.length_append]
            have hi2 : i < h.fs.length := by
              have h2 := fares3_len h rs s3.2
              have h1 := (List.getElem?_eq_some_iff.mp hfi).1
              omega
            omega
          have dee := ded.mono (fun _ z => z) ke
          refine run_putN (B := Hd) 6 ke_s3 (by show _ + 9 < _; omega) rfl ((kad.trans ke).nd hpa) dee ev_bool (ev_var 14 rfl r14') ke hin' (sl_of (by rw [dee.len, List.length_map]; omega)) fun vt bb Hf kf rvt rbb => ?_
          have hpf := ((kad.trans ke).trans kf).nd hpa
          have mpa := nd_mu P w p xa
          show Run _ _ _ _ (upd Hf p (ND P w p (xa ++ [(toK (s3D (next3 h ls rs s3 k)), bb, vt)])))
          have kaf := (kad.trans ke).trans kf
          have eg : Ex H (upd Hf p (ND P w p (xa ++ [(toK (s3D (next3 h ls rs s3 k)), bb, vt)]))) := (ea.trans kaf).mut hpH hpf mpa
          have eg2 : Ex B2 (upd Hf p (ND P w p (xa ++ [(toK (s3D (next3 h ls rs s3 k)), bb, vt)]))) := (eb2.trans kaf).mut pB2 hpf mpa
          have deg := ((dee.mono (fun _ z => z) kf).snoc (y := ()) rbb (rvt.pure _ _ rfl)).updp (o := ND P w p (xa ++ [(toK (s3D (next3 h ls rs s3 k)), bb, vt)])) hpf mpa fun z => z
          have hqg : upd Hf p (ND P w p (xa ++ [(toK (s3D (next3 h ls rs s3 k)), bb, vt)])) qa = some (.lst wa) := by rw [upd_ne hqp]; exact kaf.lst hqa
          have upg : ∀ {v d}, Rp (fun _ => False) Ha v d → Rp (fun _ => False) (upd Hf p (ND P w p (xa ++ [(toK (s3D (next3 h ls rs s3 k)), bb, vt)]))) v d := fun z => (z.mono (fun _ z => z) kaf).updp hpf mpa fun z => z
          have upgs : ∀ {v d}, Rps (fun _ => False) Ha v d → Rps (fun _ => False) (upd Hf p (ND P w p (xa ++ [(toK (s3D (next3 h ls rs s3 k)), bb, vt)]))) v d := fun z => (z.mono (fun _ z => z) kaf).updp hpf mpa fun z => z
          have rwg := upgs rwa'
          have rfg := upg rfa
          have rsg := upg rsa
          have rbg := upg rba
          have r14g : Rp (fun _ => False) (upd Hf p (ND P w p (xa ++ [(toK (s3D (next3 h ls rs s3 k)), bb, vt)]))) v14 (s3D (next3 h ls rs s3 k)) := (r14'.mono (fun _ z => z) (ke.trans kf)).updp hpf mpa fun z => z
          have hpg : upd Hf p (ND P w p (xa ++ [(toK (s3D (next3 h ls rs s3 k)), bb, vt)])) p = some (ND P w p (xa ++ [(toK (s3D (next3 h ls rs s3 k)), bb, vt)])) := upd_same
          clear upg upgs
          generalize upd Hf p (ND P w p (xa ++ [(toK (s3D (next3 h ls rs s3 k)), bb, vt)])) = Hg at eg eg2 deg hqg rwg rfg rsg rbg r14g hpg
          refine run_app (B := Hg) 7 rfl hqg (ev_var 14 rfl r14g) (Ex.refl _) (sl_of ?_) fun vz Hi ki rvz => ?_
          · rw [rwg.length, List.length_map, List.length_append]
            rw [List.length_append] at hlen
            omega
          · have hqi := ki.lst hqg
            have rvz' : Rp (fun _ => False) Hi vz (s3D (next3 h ls rs s3 k)) := rvz.pure _ _ (nol_s3 _)
            refine run_nil (run_nil ⟨(eg.trans ki).mut hqH hqi trivial, (eg2.trans ki).mut qB2 hqi trivial, _, _, _, rfl, _, add ++ [next3 h ls rs s3 k], _, by rw [upd_ne (Ne.symm hqp)]; exact ki.nd hpg, ?_, upd_same, ?_, (rfg.mono (fun _ z => z) ki).updp hqi trivial fun z => z, (rsg.mono (fun _ z => z) ki).updp hqi trivial fun z => z, (rbg.mono (fun _ z => z) ki).updp hqi trivial fun z => z, ?_, ?_, ?_, ?_⟩)
            · rw [← List.append_assoc, List.map_append]
              exact (deg.mono (fun _ z => z) ki).updp hqi trivial fun z => z
            · rw [← List.append_assoc, List.map_append]
              exact ((rwg.mono (fun _ z => z) ki).snoc rvz').updp hqi trivial fun z => z
            · rw [← List.append_assoc]
              exact List.nodup_append.mpr ⟨nda, by simp, fun a ha c hc e => hin2 (by rw [← List.mem_singleton.mp hc, ← e]; exact ha)⟩
            · intro q hq
              rcases List.mem_append.mp hq with z | z
              · exact hadd q z
              · exact ⟨k, hkm, List.mem_singleton.mp z⟩
            · intro j hj k' hk'
              rw [← List.append_assoc]
              rcases Nat.lt_succ_iff_lt_or_eq.mp hj with z | z
              · exact List.mem_append_left _ (hcl j z k' hk')
              · subst z
                rw [hfi] at hk'
                cases hk'
                exact List.mem_append_right _ List.mem_cons_self
            · rw [List.length_append, List.length_singleton]
              omega
        · have hin' : next3 h ls rs s3 k ∈ kn ++ add := by
            have z : ¬ next3 h ls rs s3 k ∈ kn → next3 h ls rs s3 k ∈ add := by simpa using hin
            by_cases t : next3 h ls rs s3 k ∈ kn
            · exact List.mem_append_left _ t
            · exact List.mem_append_right _ (z t)
          have kae := kad.trans ke
          refine run_nil (run_nil ⟨ea.trans kae, eb2.trans kae, _, _, _, rfl, xa, add, wa, kae.nd hpa, dea.mono (fun _ z => z) kae, kae.lst hqa, rwa'.mono (fun _ z => z) kae, rfa.mono (fun _ z => z) kae, rsa.mono (fun _ z => z) kae, rba.mono (fun _ z => z) kae, nda, hadd, fun j hj k' hk' => ?_, by omega⟩)
          rcases Nat.lt_succ_iff_lt_or_eq.mp hj with z | z
          · exact hcl j z k' hk'
          · subst z
            rw [hfi] at hk'
            cases hk'
            exact hin'
      · rintro σ' Ha ⟨ea, eb2, u12, u13, u14, rfl, xa, add, wa, hpa, dea, hqa, rwa', rfa, rsa, rba, nda, hadd, hcl, hal⟩
        rw [rngD_length] at hcl hal
        have fl := fares3_len h rs s3.2
        have aw' : AwW h ls rs rg (kn ++ add) (W2 ++ add) F' := aw.turn o eF nda hadd fun k hk => by
          obtain ⟨j, hj, e⟩ := List.getElem_of_mem hk
          refine hcl j ?_ k (by rw [List.getElem?_eq_getElem hj, e])
          have : (fares3 h rs s3.2).length = h.fs.length - (mayLo rs s3.2).toNat := by unfold fares3; simp
          omega
        have hal4 : add.length ≤ 4 := by
          have : ((h.fs.length : Int) - mayLo rs s3.2).toNat ≤ h.fs.length := by omega
          omega
        have ela : ((kn ++ add).map fun a => (a, ())).length = kn.length + add.length := by rw [List.length_map, List.length_append]
        refine run_if (B := Ha) (evt_gt (ev_lenN 6 ke_s3 M.z_len rfl hpa dea) (ev_var 4 rfl (.int 300 : Is Ha _ _))) (Ex.refl _) (fun hgt Hb kb => ?_) fun hgt Hb kb => ?_
        · exact run_ret (B := Hb) ev_none (Ex.refl _) fun v Hc kc rc => by
            cases rc
            exact qn Hc (ea.trans (kb.trans kc))
        · have hle : ¬ (300 : Int) < (((kn ++ add).map fun a => (a, ())).length : Nat) := of_decide_eq_false hgt
          rw [ela] at hle
          refine run_nil (run_nil ⟨_, ?_, ea.trans kb, vf2, _, _, _, _, _, _, rfl, F', xa, kn ++ add, wa, W2 ++ add, kb.nd hpa, dea.mono (fun _ z => z) kb, kb.lst hqa, rwa'.mono (fun _ z => z) kb, (rfa.mono (fun _ z => z) kb).is, aw', ?_, ?_, rfl⟩)
          · simp only [List.length_append, List.length_singleton]
            omega
          · rw [List.length_append]; omega
          · rw [List.length_append, List.length_append]; omega
    · have e : W' = [] := by simpa using he
      subst e
      exact run_retV 8 rfl (q F vf H4 (eH.trans k4) (rf.up k4) aw.fin)
end
end Bl

set_option Elab.async false
set_option linter.all false
set_option autoImplicit false
set_option maxRecDepth 100000
set_option maxHeartbeats 2000000
namespace Bl
open PySem PySem.Spec PyProof.Rows L2 LamX StX
theorem Ex.rd {H H' : Hp} {a : Addr} {xs : List V} (e : Ex H H') (h : Rd H a (.lst xs)) : Rd H' a (.lst xs) := h.elim (fun z => .inl (e.lst z)) fun ⟨o, z⟩ => .inr ⟨o, e.keep a _ z fun ps w => nomatch w⟩
theorem Ex.sq {K : PySem.W.Frag} {H H' : Hp} {a : Addr} {xs : List V} (e : Ex H H') (h : SqL K H a xs) : SqL K H' a xs := h.imp e.rd id
section
variable {X : Cx} {σ : L2.St} {B H : Hp} {tg a b e : Expr} {pos p : Pos} {dn : Str} {pd : Pos} {rest : List Stmt} {D : Ends} {d : PyData} {zs : List Int} {l : Addr}
/-- a list of whole numbers that may be known to its object -/
theorem evi_sq (i : Nat) (hs : σ[i]? = some (some (.ref l))) (sq : SqL X.K B l (zs.map V.int)) (hN : X.N[i]? = some dn := by rfl) (hv : Vis X.env.scope dn := by first | exact Or.inl rfl | exact Or.inr (Or.inl rfl) | exact Or.inr (Or.inr rfl)) (hd : (dn == ("__debug__" : Str)) = false := by decide) (hcd : (dn == ("__classdict__" : Str)) = false := by decide) :
    EvI X σ B tg (.Name dn pd) (zs.map .int) := fun H k R q => Itr.of (pi_list (pe_var hN hv hd hcd)) ⟨.ref l, hs, l, rfl, ⟨_, k.sq sq⟩, q _ B H (Ex.refl H) (Ex.refl B) k (fun a u z _ => .inl ⟨u, z⟩) (by
      rw [List.length_map, show zs.length = (zs.map V.int).length by rw [List.length_map]]
      refine walk_list.mono (fun H2 k2 => k2.sq sq) fun i H2 x H3 hi k2 y => ?_
      obtain ⟨rfl, hx⟩ := y
      rw [List.getElem?_map] at hx
      cases hz : zs[i]? with
      | none => rw [hz] at hx; cases hx
      | some z =>
        rw [hz] at hx
        cases hx
        exact ⟨Ex.refl _, .int z, by rw [List.getElem?_map, hz]; rfl, .int z⟩)⟩
theorem evi_sqEnum {elts : List Expr} {kk : Nat} {tpos : Pos} (i : Nat) (hm : X.mg "enumerate" = none) (hs : σ[i]? = some (some (.ref l))) (sq : SqL X.K B l (zs.map V.int)) (hN : X.N[i]? = some dn := by rfl) (hv : Vis X.env.scope dn := by first | exact Or.inl rfl | exact Or.inr (Or.inl rfl) | exact Or.inr (Or.inr rfl)) (hd : (dn == ("__debug__" : Str)) = false := by decide) (hcd : (dn == ("__classdict__" : Str)) = false := by decide)
    (hg : Gl X "enumerate" := by rfl) (he : starEach [.Name dn pd] X.env = (false, eval (.Name dn pd) X.env) :: starEach [] X.env := by rfl) : EvI X σ B (.Tuple elts kk tpos) (.Call (.Name "enumerate" p) [.Name dn pd] [] pos) (enumD (zs.map .int)) := fun H k R q =>
  Itr.of (pi_enum hg hm (pa_cons (pe_var hN hv hd hcd) pa_nil he) he) ⟨.ref l, hs, l, _, rfl, k.sq sq, q _ B H (Ex.refl H) (Ex.refl B) k (fun a u z _ => .inl ⟨u, z⟩) (by
    have rx : Iss B (zs.map V.int) (zs.map PyData.int) := Rps.ofInts zs
    rw [enumD_length, ← rx.length]
    exact walk_enum.mono (fun H2 z => z.sq sq) fun i H2 x H3 hi z y => enum_yd rx z y)⟩
/-- l == [] of such a list -/
theorem evt_sqNil {p2 : Pos} (i : Nat) (hu : X.A.units + 64 < cLine) (hs : σ[i]? = some (some (.ref l))) (sq : SqL X.K B l (zs.map V.int)) (hN : X.N[i]? = some dn := by rfl) (hv : Vis X.env.scope dn := by first | exact Or.inl rfl | exact Or.inr (Or.inl rfl) | exact Or.inr (Or.inr rfl)) (hd : (dn == ("__debug__" : Str)) = false := by decide) (hcd : (dn == ("__classdict__" : Str)) = false := by decide) :
    EvT X σ B (.Compare (.Name dn pd) [.Eq] [.List [] p2] pos) (decide (zs = [])) := fun H k Q q => Tst.of (pt_cmpR (op_eqD hu) (pe_var hN hv hd hcd) Evl.pe (nomark _)) ⟨.ref l, hs, (ev_lst (B := B) eva_nil) H k _ fun y H1 e1 r1 => by
      have dx : Dp X.K H1 (.ref l) (.list (zs.map PyData.int)) := .lst ((k.trans e1).sq sq) (Rps.dp (G := All) (H := H1) _ _ (Rps.ofInts zs))
      refine ⟨_, _, dx, Rp.dp _ _ r1, ?_, by decide +kernel, decide (zs = []), ?_, q H1 e1⟩
      · unfold SeqAt.shaped
        have : ∀ ns : List Int, PyData.canLayAll0 (ns.map .int) = true ∧ PyData.depthAll (ns.map .int) = 0 := by
          intro ns
          induction ns with
          | nil => exact ⟨rfl, rfl⟩
          | cons n ns ih =>
            refine ⟨?_, ?_⟩
            · simp only [List.map_cons, PyData.canLayAll0, PyData.canLay0, ih.1, Bool.and_self]
            · simp only [List.map_cons, PyData.depthAll, PyData.depth, ih.2, Nat.max_self]
        have h1 := (this zs).1
        have h2 := (this zs).2
        simp only [PyData.canLay0, PyData.depth, h1, h2, Bool.true_and]
        decide
      · cases zs <;> rfl⟩
theorem ev_pow {i j : Int} (ha : Ev X σ B a (.int i)) (hb : Ev X σ B b (.int j)) (hc : CPow i j) : Ev X σ B (.BinOp a .Pow b pos) (.int (i ^ j.toNat)) := ev_op op_pow (o2_I hc fun _ _ => .int _) ha hb
/-! dicts with text keys -/
variable {m : Addr} {kvs : List (Key × V)} {x : Str} {v : V}
theorem ev_getK {j : Nat} {p2 : Pos} (i : Nat) (hu : X.A.units + 1 < cLine) (hs : σ[i]? = some (some (.ref m))) (hm : B m = some (.dK kvs)) (hk : valV kvs (.inr x) = some v) {G : Addr → Prop} (r : Rp G B v d) (hN : X.N[i]? = some dn := by rfl) (hv : Vis X.env.scope dn := by first | exact Or.inl rfl | exact Or.inr (Or.inl rfl) | exact Or.inr (Or.inr rfl)) (hd : (dn == ("__debug__" : Str)) = false := by decide) (hcd : (dn == ("__classdict__" : Str)) = false := by decide)
    (hs2 : NoSl (.Constant (.str x) j p2) := by exact fun _ _ => rfl) : Ev X σ B (.Subscript (.Name dn pd) (.Constant (.str x) j p2) pos) d := fun H k Q q =>
  Evl.of (pe_dget hu (pe_var hN hv hd hcd) pe_str hs2) ⟨.ref m, hs, m, v, rfl, by rw [← hk]; exact DGet.k (k := .inr x) (k.keep m _ hm fun ps w => nomatch w), q v H (Ex.refl H) (r.kn.mono (fun _ z => .inl z) k)⟩
/-- y = d["x"]: the very value -/
theorem run_getK {y : Str} {py p2 : Pos} {j : Nat} (i n : Nat) (hu : X.A.units + 1 < cLine) (hs : σ[i]? = some (some (.ref m))) (hm : H m = some (.dK kvs)) (hk : valV kvs (.inr x) = some v) (q : Run X rest D (σ.set n (some v)) H) (hNd : X.N.Nodup) (hN : X.N[i]? = some dn := by rfl) (hv : Vis X.env.scope dn := by first | exact Or.inl rfl | exact Or.inr (Or.inl rfl) | exact Or.inr (Or.inr rfl)) (hd : (dn == ("__debug__" : Str)) = false := by decide) (hcd : (dn == ("__classdict__" : Str)) = false := by decide)
    (hs2 : NoSl (.Constant (.str x) j p2) := by exact fun _ _ => rfl) (hi : X.N[n]? = some y := by rfl) (hx : Loc X.env.scope y := by first | exact Or.inl rfl | exact Or.inr rfl) (hsw : swapsWith (.Subscript (.Name dn pd) (.Constant (.str x) j p2) p) (some (.Name y py)) pos.line X.env = pure false := by rfl)
    (hf : X.fn y = true ∨ X.env.scope.names.lookup y = some .local := by first | exact .inr rfl | exact .inl rfl) : Run X (.Assign [.Name y py] (.Subscript (.Name dn pd) (.Constant (.str x) j p2) p) pos :: rest) D σ H :=
  run_cons (ps_set hNd hi hx (pe_dget hu (pe_var hN hv hd hcd) pe_str hs2) hsw hf) ⟨.ref m, hs, m, v, rfl, by rw [← hk]; exact DGet.k (k := .inr x) hm, q⟩
/-- d["x"] = e -/
theorem run_putK {p2 p3 : Pos} {j : Nat} (i : Nat) (hu : X.A.units + 1 < cLine) (hs : σ[i]? = some (some (.ref m))) (hm : H m = some (.dK kvs)) (h : Ev X σ B e d) (k : Ex B H) (hl : kvs.length < sizeLine) (q : ∀ v H', Ex H H' → Rp (Nw B H) H' v d → Run X rest D σ (upd H' m (.dK (putK kvs (.inr x) v)))) (hN : X.N[i]? = some dn := by rfl) (hv : Vis X.env.scope dn := by first | exact Or.inl rfl | exact Or.inr (Or.inl rfl) | exact Or.inr (Or.inr rfl)) (hd : (dn == ("__debug__" : Str)) = false := by decide) (hcd : (dn == ("__classdict__" : Str)) = false := by decide)
    (hsw : swapsWith e (some (.Subscript (.Name dn pd) (.Constant (.str x) j p2) p3)) pos.line X.env = pure false := by rfl) : Run X (.Assign [.Subscript (.Name dn pd) (.Constant (.str x) j p2) p3] e pos :: rest) D σ H :=
  run_cons (ps_dput hu (pe_var hN hv hd hcd) pe_str Evl.pe hsw) (h H k _ fun v H1 e1 r1 => ⟨.ref m, hs, m, _, rfl, DPut.k (k := .inr x) (e1.keep m _ hm fun ps w => nomatch w) hl, q v H1 e1 r1⟩)
end
end Bl

set_option Elab.async false
set_option linter.all false
set_option autoImplicit false
set_option maxRecDepth 100000
set_option maxHeartbeats 4000000
namespace Bl
open PySem PySem.Spec PyProof.Rows L2 LamX StX
/-! ### the law's own draws -/
def mixF (c n : Int) : Int := (c * (1 + 2 * n) * 48271 % 2147483647 + 7919 * n * n + 104729 * n) * 69621 % 2147483629 / 7
theorem mixF_rg (c n : Int) : 0 ≤ mixF c n ∧ mixF c n < 2147483629 := by
  unfold mixF
  generalize (c * (1 + 2 * n) * 48271 % 2147483647 + 7919 * n * n + 104729 * n) * 69621 = z
  have h1 := Int.emod_nonneg z (by decide : (2147483629 : Int) ≠ 0)
  have h2 := Int.emod_lt_of_pos z (by decide : (0 : Int) < 2147483629)
  omega
theorem Ex.dk {H H' : Hp} {m : Addr} {kvs : List (Key × V)} (e : Ex H H') (h : H m = some (.dK kvs)) : H' m = some (.dK kvs) := e.keep m _ h fun ps w => nomatch w
/-- the draws' dict at m, its lists at c and g, n the spot -/
structure GenAt (H : Hp) (m c g : Addr) (n : Int) : Prop where
  cg : c ≠ g
  ex : ∃ cells great : List Int, H m = some (.dK [(.inr "cells", .ref c), (.inr "great", .ref g), (.inr "spot", .int n)]) ∧ H c = some (.lst (cells.map .int)) ∧ H g = some (.lst (great.map .int)) ∧ cells.length = 64 ∧ (∀ x ∈ cells, 0 ≤ x ∧ x < 2147483647) ∧ (∀ x ∈ great, 0 ≤ x) ∧ great.length ≤ 1000
theorem GenAt.up {H H' : Hp} {m c g : Addr} {n : Int} (s : GenAt H m c g n) (e : Ex H H') : GenAt H' m c g n := by
  obtain ⟨cg, cells, great, h1, h2, h3, r⟩ := s
  exact ⟨cg, cells, great, e.dk h1, e.lst h2, e.lst h3, r⟩
/-- H without the dict and the list that draws write -/
abbrev W2 (m g : Addr) (H : Hp) : Hp := Wo g (Wo m H)
theorem GenAt.mg {H : Hp} {m c g : Addr} {n : Int} (s : GenAt H m c g n) : m ≠ g := by
  obtain ⟨_, _, _, h1, _, h3, _⟩ := s
  exact ne_of h1 h3 fun z => nomatch z
theorem Ex.w2 {B H : Hp} {m c g : Addr} {n : Int} (e : Ex B H) (hm : B m = none) (hg : B g = none) (s : GenAt H m c g n) : Ex B (W2 m g H) := by
  have hmg := s.mg
  obtain ⟨_, _, _, h1, _, h3, _⟩ := s
  exact (e.wo hm h1 trivial).wo (u := .lst _) hg (by rw [wo_ne (Ne.symm hmg)]; exact h3) trivial
theorem w2_ex {m g : Addr} {H : Hp} : Ex (W2 m g H) H := wo_ex.trans wo_ex
theorem w2_g {m g : Addr} {H : Hp} : W2 m g H g = none := wo_self
theorem w2_m {m g : Addr} {H : Hp} (h : m ≠ g) : W2 m g H m = none := by
  show Wo g (Wo m H) m = none
  rw [wo_ne h]
  exact wo_self
/-- two draws after another -/
theorem w2_trans {H H1 H2 : Hp} {m c g : Addr} {n : Int} (s1 : GenAt H1 m c g n) (e1 : Ex (W2 m g H) H1) (e2 : Ex (W2 m g H1) H2) : Ex (W2 m g H) H2 := (e1.w2 (w2_m s1.mg) w2_g s1).trans e2
theorem w2_of {H H1 : Hp} {m g : Addr} (e : Ex H H1) : Ex (W2 m g H) H1 := w2_ex.trans e
theorem Rp.w2 {H : Hp} {m c g : Addr} {n : Int} {G : Addr → Prop} {v : V} {d : PyData} (s : GenAt H m c g n) (h : Rp G H v d) (hm : ¬ G m) (hg : ¬ G g) : Rp G (W2 m g H) v d := by
  have hmg := s.mg
  obtain ⟨_, _, _, h1, _, h3, _⟩ := s
  exact (h.wo h1 trivial hm).wo (u := .lst _) (by rw [wo_ne (Ne.symm hmg)]; exact h3) trivial hg
theorem Rp.w2n {H : Hp} {m c g : Addr} {n : Int} {G : Addr → Prop} {v : V} {d : PyData} (s : GenAt H m c g n) (h : Rp G H v d) (hn : nol d = true) : Is (W2 m g H) v d := ((h.pure (G' := fun _ => False) _ _ hn).w2 s (fun z => z) (fun z => z)).is
section
variable {P : Program} {w : World} {K : PySem.W.Frag} {mg : Str → Option Value} {base : Heap}
inductive PreMixed : List PyData → PyData → Prop
  | mk (c n : Int) : 0 ≤ c → c < 1000000000000 → 0 ≤ n → n ≤ 1000000 → PreMixed [.int c, .int n] (.int (mixF c n))
theorem ok_mixed (M : Md mg) (D : FDef K mg "_law_mixed" s__law_mixed) : Fn P w K mg base 1 "_law_mixed" 2 PreMixed := by
  refine fn_mkP D sc__law_mixed (fun _ _ _ _ _ _ us hl => match us, hl with | [_, _], _ => rfl) rfl (fun _ _ h => by cases h; rfl) (fun _ _ h => by cases h; rfl) ?_
  intro X cdv A outer s f E B H vs Q ds d hX hr k nm r hp q
  cases hp with
  | mk c n c0 c1 n0 n1 =>
    obtain ⟨x, y, rfl, r0, r1⟩ := iss2 r
    subst hX
    refine run_set 2 (ev_add (ev_add (ev_mod (ev_intI M.z_int (ev_mul (ev_mul (ev_var 0 rfl r0) (ev_add ev_int (ev_mul ev_int (ev_var 1 rfl r1) (.inl (by decide)))) (.inl (by omega))) ev_int (.inr (by decide)))) ev_int (by decide)) (ev_mul (ev_mul ev_int (ev_var 1 rfl r1) (.inl (by decide))) (ev_var 1 rfl r1) (.inr (by omega)))) (ev_mul ev_int (ev_var 1 rfl r1) (.inl (by decide)))) k (fun v H1 k1 rv => ?_) sc__law_mixed.nd
    cases rv
    exact run_ret (ev_fdiv (ev_mod (ev_intI M.z_int (ev_mul (ev_var 2 rfl (.int _ : Is B _ _)) ev_int (.inr (by decide)))) ev_int (by decide)) ev_int ⟨by decide, by decide⟩) (k.trans k1) (qk q k1)
def SpDraw : SpQ := fun vs H Q => ∃ (m c g : Addr) (n lim : Int), vs = [.ref m, .int lim] ∧ GenAt H m c g n ∧ 0 ≤ n ∧ n ≤ 100000 ∧ 0 < lim ∧ lim < 1000000 ∧ ∀ r H', 0 ≤ r → r < lim → GenAt H' m c g (n + 1) → Ex (W2 m g H) H' → Q (.int r) H'
theorem ok_draw (M : Md mg) (D : FDef K mg "_law_draw" s__law_draw) (F1 : Fn P w K mg base 1 "_law_mixed" 2 PreMixed) : FnQ P w K mg base 2 "_law_draw" 2 SpDraw := by
  refine fnQ_mk D sc__law_draw (fun _ _ _ _ _ _ us hl => match us, hl with | [_, _], _ => rfl) rfl (fun vs H Q ⟨m, c, g, n, lim, e, _⟩ => by rw [e]; rfl) ?_
  intro X cdv A outer s f E H vs Q hX hr hsp
  obtain ⟨m, c, g, n, lim, rfl, st, n0, n1, l0, l1, q⟩ := hsp
  subst hX
  have hu := hr.un
  have hN := sc__law_draw.nd
  have hmg := st.mg
  obtain ⟨cg, cells, great, hm, hc, hg, hlen, hcr, hgr, hgl⟩ := st
  have hmc : m ≠ c := ne_of hm hc fun z => nomatch z
  refine run_getK 0 2 (by show _ + 1 < _; omega) rfl hm (by rfl) ?_ hN
  refine run_putK (B := H) (d := .int (n + 1)) 0 (by show _ + 1 < _; omega) rfl hm (ev_add (ev_var 2 rfl (.int n : Is H _ _)) ev_int) (Ex.refl H) (sl_of (by simp)) fun v1 H1 k1 r1 => ?_
  cases r1
  have e1 : Ex (W2 m g H) (upd H1 m (.dK [(.inr "cells", .ref c), (.inr "great", .ref g), (.inr "spot", .int (n + 1))])) := (w2_of k1).mut (w2_m hmg) (k1.dk hm) trivial
  show Run _ _ _ _ (upd H1 m (.dK [(.inr "cells", .ref c), (.inr "great", .ref g), (.inr "spot", .int (n + 1))]))
  have hm2 : upd H1 m (.dK [(.inr "cells", .ref c), (.inr "great", .ref g), (.inr "spot", .int (n + 1))]) m = some (.dK [(.inr "cells", .ref c), (.inr "great", .ref g), (.inr "spot", .int (n + 1))]) := upd_same
  have hc2 : upd H1 m (.dK [(.inr "cells", .ref c), (.inr "great", .ref g), (.inr "spot", .int (n + 1))]) c = some (.lst (cells.map .int)) := by rw [upd_ne (Ne.symm hmc)]; exact k1.lst hc
  have hg2 : upd H1 m (.dK [(.inr "cells", .ref c), (.inr "great", .ref g), (.inr "spot", .int (n + 1))]) g = some (.lst (great.map .int)) := by rw [upd_ne (Ne.symm hmg)]; exact k1.lst hg
  generalize upd H1 m (.dK [(.inr "cells", .ref c), (.inr "great", .ref g), (.inr "spot", .int (n + 1))]) = H2 at e1 hm2 hc2 hg2
  -- what both ways end in
  have tail : ∀ (u3 u4 u5 : Option V) (H5 : Hp), Ex (W2 m g H) H5 → GenAt H5 m c g (n + 1) → Run (cxOf CX0 P w K mg base N__law_draw "_law_draw" (defScope s__law_draw) f cdv A outer s H E).nox ((defBody s__law_draw).drop 3) { nx := fun _ H' => Q .non H', rt := Q } [some (.ref m), some (.int lim), some (.int n), u3, u4, u5] H5 := by
    intro u3 u4 u5 H5 e5 s5
    obtain ⟨_, cells5, great5, hm5, hc5, hg5, hlen5, hcr5, hgr5, hgl5⟩ := id s5
    refine run_getK 0 3 (by show _ + 1 < _; omega) rfl hm5 (by rfl) ?_ hN
    have rl : Is H5 (.ref c) (.list (cells5.map .int)) := .lst trivial hc5 (Rps.ofInts _)
    have hn64 : (n % 64).toNat < cells5.length := by omega
    have hcell := hcr5 _ (gD_mem hn64)
    have h64 : n % 64 = (((n % 64).toNat : Nat) : Int) := by omega
    have hq64 : 0 ≤ n / 64 ∧ n / 64 ≤ 100000 := by omega
    have mr := mixF_rg (cells5.getD (n % 64).toNat 0 + 31 * (n / 64)) n
    refine run_ret (B := H5) (ev_mod (ev_intI M.z_int (ev_call F1 hr (.mk (mixF (cells5.getD (n % 64).toNat 0 + 31 * (n / 64)) n) (n + 7) mr.1 (by omega) (by omega) (by omega)) (eva_cons (ev_call F1 hr (.mk (cells5.getD (n % 64).toNat 0 + 31 * (n / 64)) n (by omega) (by omega) n0 (by omega))
      (eva_cons (ev_add (ev_atL (ev_var 3 rfl rl) (Ev.cast (ev_mod (ev_intI M.z_int (ev_var 2 rfl (.int n : Is H5 _ _))) ev_int (by decide)) (congrArg PyData.int h64)) (at_gD hn64)) (ev_mul ev_int (ev_fdiv (ev_var 2 rfl (.int n : Is H5 _ _)) ev_int ⟨by decide, by decide⟩) (.inl (by decide)))) (eva_cons (ev_var 2 rfl (.int n : Is H5 _ _)) eva_nil)))
      (eva_cons (ev_add (ev_var 2 rfl (.int n : Is H5 _ _)) ev_int) eva_nil)))) (ev_var 1 rfl (.int lim : Is H5 _ _)) l0) (Ex.refl _) fun v H6 k6 r6 => ?_
    cases r6
    exact q _ H6 (Int.emod_nonneg _ (by omega)) (Int.emod_lt_of_pos _ l0) (s5.up k6) (e5.trans k6)
  have s2 : GenAt H2 m c g (n + 1) := ⟨cg, cells, great, hm2, hc2, hg2, hlen, hcr, hgr, hgl⟩
  have rg2 : Is H2 (.ref g) (.list (great.map .int)) := .lst trivial hg2 (Rps.ofInts _)
  refine run_if (B := H2) (t := !decide (great = [])) (EvT.cast (evt_neD hr.units (ev_getK 0 (by show _ + 1 < _; omega) rfl hm2 (by rfl) rg2) (ev_lst eva_nil) (pl_sh (n := 1) (pls_ints _) (by decide)) (by decide +kernel)) (by cases great <;> rfl)) (Ex.refl _) (fun hne H3 k3 => ?_) fun he H3 k3 => ?_
  · have s3 := s2.up k3
    have hm3 := k3.dk hm2
    have hg3 := k3.lst hg2
    have rg3 := rg2.up k3
    have gl : 0 < great.length := by
      cases great with
      | nil => simp at hne
      | cons a b => simp
    refine run_getK 0 3 (by show _ + 1 < _; omega) rfl hm3 (by rfl) ?_ hN
    have hr0 := Int.emod_nonneg n (by omega : (great.length : Int) ≠ 0)
    have hr1 := Int.emod_lt_of_pos n (by omega : (0 : Int) < (great.length : Int))
    have hrn : n % (great.length : Int) = (((n % (great.length : Int)).toNat : Nat) : Int) := by omega
    have hlt : (n % (great.length : Int)).toNat < great.length := by omega
    generalize (n % (great.length : Int)).toNat = j at hrn hlt
    refine run_set (B := H3) 4 (Ev.cast (ev_mod (j := (great.length : Int)) (ev_intI M.z_int (ev_var 2 rfl (.int n : Is H3 _ _))) (Ev.cast (ev_lenL M.z_len (ev_var 3 rfl rg3)) (by rw [List.length_map])) (by omega)) (congrArg PyData.int hrn)) (Ex.refl _) (fun v4 H4 k4 r4 => ?_) hN
    cases r4
    refine run_set (B := H4) 5 (ev_atL (ev_var 3 rfl (rg3.up k4)) (ev_var 4 rfl (.int (j : Int) : Is H4 _ _)) (at_gD hlt)) (Ex.refl _) (fun v5 H5 k5 r5 => ?_) hN
    cases r5
    have k35 := k4.trans k5
    have hgj := hgr _ (gD_mem hlt)
    refine run_if (B := H5) (evt_gt (ev_var 5 rfl (.int _ : Is H5 _ _)) ev_int) (Ex.refl _) (fun hpos H6 k6 => ?_) fun hpos H6 k6 => ?_
    · have hg6 := (k35.trans k6).lst hg3
      refine run_setL (B := H6) (n := j) (d := .int (great.getD j 0 / lim)) 3 rfl hg6 (ev_fdiv (ev_var 5 rfl (.int _ : Is H6 _ _)) (ev_var 1 rfl (.int lim : Is H6 _ _)) ⟨l0, by omega⟩) (ev_var 4 rfl (.int (j : Int) : Is H6 _ _)) (Ex.refl _) ?_ fun v7 H7 k7 r7 => ?_
      · unfold L2.ixN
        rw [List.length_map, if_pos (by omega), if_pos (by omega)]
        rfl
      cases r7
      have k37 := k3.trans (k35.trans (k6.trans k7))
      have e8 : Ex (W2 m g H) (upd H7 g (.lst ((great.map V.int).set j (.int (great.getD j 0 / lim))))) := (e1.trans k37).mut w2_g (k7.lst hg6) trivial
      have hm8 : upd H7 g (.lst ((great.map V.int).set j (.int (great.getD j 0 / lim)))) m = some (.dK [(.inr "cells", .ref c), (.inr "great", .ref g), (.inr "spot", .int (n + 1))]) := by rw [upd_ne hmg]; exact k37.dk hm2
      have hc8 : upd H7 g (.lst ((great.map V.int).set j (.int (great.getD j 0 / lim)))) c = some (.lst (cells.map .int)) := by rw [upd_ne cg]; exact k37.lst hc2
      have hg8 : upd H7 g (.lst ((great.map V.int).set j (.int (great.getD j 0 / lim)))) g = some (.lst ((great.set j (great.getD j 0 / lim)).map .int)) := by rw [upd_same, List.map_set]
      generalize upd H7 g (.lst ((great.map V.int).set j (.int (great.getD j 0 / lim)))) = H8 at e8 hm8 hc8 hg8
      have s8 : GenAt H8 m c g (n + 1) := ⟨cg, cells, _, hm8, hc8, hg8, hlen, hcr, fun x hx => by
        rcases List.mem_or_eq_of_mem_set hx with z | z
        · exact hgr x z
        · rw [z]; exact Int.ediv_nonneg hgj (by omega), by rw [List.length_set]; exact hgl⟩
      refine run_ret (B := H8) (ev_mod (ev_intI M.z_int (ev_var 5 rfl (.int _ : Is H8 _ _))) (ev_var 1 rfl (.int lim : Is H8 _ _)) l0) (Ex.refl _) fun v9 H9 k9 r9 => ?_
      cases r9
      exact q _ H9 (Int.emod_nonneg _ (by omega)) (Int.emod_lt_of_pos _ l0) (s8.up k9) (e8.trans k9)
    · exact run_nil (run_nil (tail _ _ _ H6 (e1.trans (k3.trans (k35.trans k6))) (s2.up (k3.trans (k35.trans k6)))))
  · exact run_nil (tail _ _ _ H3 (e1.trans k3) (s2.up k3))
end
end Bl

set_option Elab.async false
set_option linter.all false
set_option autoImplicit false
set_option maxRecDepth 100000
set_option maxHeartbeats 4000000
namespace Bl
open PySem PySem.Spec PyProof.Rows L2 LamX StX
/-- for a, b in .. -/
theorem run_forP {X : Cx} {σ : L2.St} {B H : Hp} {iter : Expr} {pos p1 p2 pt : Pos} {kt : Nat} {y1 y2 : Str} {body rest : List Stmt} {D : Ends} {α : Type} {f1 f2 : α → PyData} (xs : List α) (j1 j2 : Nat) (hi : EvI X σ B (.Tuple [.Name y1 p1, .Name y2 p2] kt pt) iter (xs.map fun x => .tuple [f1 x, f2 x])) (k : Ex B H)
    (h : ∀ B2 H1, Ex H H1 → Ex B B2 → Ex B2 H1 → (∀ a u, B2 a = some u → Mu u → Nw B H a) → ∃ Pv : Nat → L2.St → Hp → Prop, Pv 0 σ H1 ∧ (∀ i σ' H', Pv i σ' H' → Ex B2 H') ∧
      (∀ i x v1 v2 σ' H' H'', xs[i]? = some x → Pv i σ' H' → Ex H' H'' → Rp (Nw B2 H') H'' v1 (f1 x) → Rp (Nw B2 H') H'' v2 (f2 x) → Run X body { D with nx := Pv (i + 1), ct := Pv (i + 1), bk := Run X rest D } ((σ'.set j1 (some v1)).set j2 (some v2)) H'') ∧ ∀ σ' H', Pv xs.length σ' H' → Run X rest D σ' H')
    (hN : X.N.Nodup) (hj1 : X.N[j1]? = some y1 := by rfl) (hj2 : X.N[j2]? = some y2 := by rfl) (hy1 : Loc X.env.scope y1 := by first | exact Or.inl rfl | exact Or.inr rfl) (hf1 : X.fn y1 = true ∨ X.env.scope.names.lookup y1 = some .local := by first | exact .inr rfl | exact .inl rfl) (hy2 : Loc X.env.scope y2 := by first | exact Or.inl rfl | exact Or.inr rfl) (hf2 : X.fn y2 = true ∨ X.env.scope.names.lookup y2 = some .local := by first | exact .inr rfl | exact .inl rfl)
    (hp : PassesOwn (model X.prog X.w) X.A X.env X.xe := by exact PassesOwn.never) (hc : X.calm = true := by rfl) (hs : ∀ x, foldedSetIterable iter X.env x = pure x := by intro _; rfl) : Run X (.For (.Tuple [.Name y1 p1, .Name y2 p2] kt pt) iter body [] pos :: rest) D σ H :=
  run_for (g := gTup X.K 2 (gCons (gName j1) (gCons (gName j2) gNil))) (pg_tup hc (pgs_cons (pg_name hN hj1 hy1 hf1) (pgs_cons (pg_name hN hj2 hy2 hf2) pgs_nil))) hi k (fun B2 H1 e1 e2 e3 gB => by
    obtain ⟨Pv, a, b, c, d⟩ := h B2 H1 e1 e2 e3 gB
    refine ⟨Pv, a, b, fun i dd x σ' H' H'' hd p ex r => ?_, fun σ' H' z => d σ' H' (by rwa [List.length_map] at z)⟩
    rw [List.getElem?_map] at hd
    cases hx : xs[i]? with
    | none => rw [hx] at hd; cases hd
    | some o =>
      rw [hx] at hd
      have ed := Option.some.inj hd
      subst ed
      cases r with
      | tup h1 h2 =>
        cases h2 with
        | cons a1 a2 =>
          cases a2 with
          | cons a2 a3 =>
            cases a3
            exact ⟨_, [_, _], rfl, .inl (.inl h1), rfl, _, [_], rfl, _, [], rfl, rfl, c i o _ _ σ' H' H'' hx p ex a1 a2⟩) hp hc hs
/-- an object that H knows and that changes is none of what is walked -/
theorem not_in2 {B B2 H H1 : Hp} {b : Addr} {u : HO} (gB : ∀ a u, B2 a = some u → Mu u → Nw B H a) (e : Ex B2 H1) (h1 : H1 b = some u) (mu : Mu u) (nt : ∀ ps, u ≠ .tbl ps) (hB : B b = none) (hH : ∃ u', H b = some u') : B2 b = none := by
  cases z : B2 b with
  | none => rfl
  | some u2 =>
    rcases tbl_or u2 with ⟨ps, t⟩ | t
    · subst t
      obtain ⟨ps', t⟩ := e.tbl b ps z
      rw [h1] at t
      exact (nt ps' (Option.some.inj t)).elim
    · have t2 := e.keep b u2 z t
      rw [h1] at t2
      have t3 := Option.some.inj t2
      subst t3
      obtain ⟨u', hu'⟩ := hH
      rcases gB b _ z mu with ⟨u3, y⟩ | y
      · rw [hB] at y; cases y
      · rw [hu'] at y; cases y
section
variable {P : Program} {w : World} {K : PySem.W.Frag} {mg : Str → Option Value} {base : Heap}
/-- 64 cells below 2^31 - 1 -/
structure Cells (cs : List Int) : Prop where
  len : cs.length = 64
  rg : ∀ x ∈ cs, 0 ≤ x ∧ x < 2147483647
theorem Cells.set {cs : List Int} (h : Cells cs) (n : Nat) (x : Int) (h0 : 0 ≤ x) (h1 : x < 2147483647) : Cells (cs.set n x) := ⟨by rw [List.length_set]; exact h.len, fun y hy => by
  rcases List.mem_or_eq_of_mem_set hy with z | z
  · exact h.rg y z
  · rw [z]; exact ⟨h0, h1⟩⟩
def SpFolded (K : PySem.W.Frag) : SpQ := fun vs H Q => ∃ (a : Addr) (zs : List Int), vs = [.ref a] ∧ SqL K H a (zs.map V.int) ∧ zs.length ≤ 63 ∧ ∀ p cells H', Ex H H' → H p = none → H' p = some (.lst (cells.map .int)) → Cells cells → Q (.ref p) H'
theorem ok_folded (M : Md mg) (D : FDef K mg "_law_folded" s__law_folded) : FnQ P w K mg base 1 "_law_folded" 1 (SpFolded K) := by
  refine fnQ_mk D sc__law_folded (fun _ _ _ _ _ _ us hl => match us, hl with | [_], _ => rfl) rfl (fun vs H Q ⟨a, zs, e, _⟩ => by rw [e]; rfl) ?_
  intro X cdv A outer s f E H vs Q hX hr hsp
  obtain ⟨a, zs, rfl, sq, hz, q⟩ := hsp
  subst hX
  have hN := sc__law_folded.nd
  refine run_setLc (B := Fz H) 1 (lcN (own := [("_law_n", 2)]) (List.range 64) (fun (i : Nat) => .int (i : Int)) (fun (i : Nat) => .int (17 + (i : Int))) 2 hN (blkOk_by (N := N__law_folded) (sc := defScope s__law_folded) (by decide +kernel))
    (EvI.cast (evi_rng1 M.z_range ev_int ⟨by decide, by decide⟩) (rngD_0 64)) (fun i hi v B3 kB iv s0 H0 C cl fp => ev_add ev_int (ev_var 2 rfl iv)) (sl_of (by decide))) fz_ex (fun v H1 k1 rv => ?_)
  have rf := rv.fresh k1
  cases rf with
  | lst g0 h0 rs =>
    rename_i p ws
    have hp : H p = none := g0
    have ew : ws = ((List.range 64).map fun (i : Nat) => 17 + (i : Int)).map V.int := by
      have : Rps (Fr0 H) H1 ws (((List.range 64).map fun (i : Nat) => 17 + (i : Int)).map PyData.int) := by rw [List.map_map]; exact rs
      exact this.ints
    have c0 : Cells ((List.range 64).map fun (i : Nat) => 17 + (i : Int)) := ⟨by decide, by decide⟩
    rw [ew] at h0
    generalize ((List.range 64).map fun (i : Nat) => 17 + (i : Int)) = cs0 at h0 c0
    refine run_forP (B := H) zs.zipIdx 2 3 (f1 := fun p => .int (p.2 : Int)) (f2 := fun p => .int p.1) (EvI.cast (evi_sqEnum 0 M.z_enumerate rfl sq) (enum_ints zs)) k1 (fun B2 H2 k2 kB2 k22 gB => ?_) hN
    have pB2 : B2 p = none := not_in2 gB k22 (k2.lst h0) trivial (fun ps z => nomatch z) hp ⟨_, h0⟩
    refine ⟨fun i σ' H' => Ex H H' ∧ Ex B2 H' ∧ ∃ u2 u3, σ' = [some (.ref a), some (.ref p), u2, u3] ∧ ∃ cs : List Int, H' p = some (.lst (cs.map .int)) ∧ Cells cs, ⟨k1.trans k2, k22, none, none, rfl, cs0, k2.lst h0, c0⟩, fun i σ' H' z => z.2.1, ?_, ?_⟩
    · rintro i ⟨c, n⟩ v1 v2 σ' Ha Hb hx ⟨ea, eb, u2, u3, rfl, cs, hpa, cc⟩ kab r1 r2
      cases r1
      cases r2
      have hn : n = i ∧ i < zs.length := by
        rw [List.getElem?_zipIdx] at hx
        cases hz2 : zs[i]? with
        | none => rw [hz2] at hx; cases hx
        | some z =>
          rw [hz2] at hx
          simp only [Option.map_some, Option.some.injEq, Prod.mk.injEq] at hx
          exact ⟨by omega, (List.getElem?_eq_some_iff.mp hz2).1⟩
      have hpb := kab.lst hpa
      have rl : Is Hb (.ref p) (.list (cs.map .int)) := .lst trivial hpb (Rps.ofInts _)
      have hlt : n % 64 < cs.length := by have := cc.len; omega
      have hix : ((n : Int) % 64) = ((n % 64 : Nat) : Int) := by omega
      have m0 : ∀ z : Int, 0 ≤ z % 2147483647 := fun z => Int.emod_nonneg z (by decide)
      have m1 : ∀ z : Int, z % 2147483647 < 2147483647 := fun z => Int.emod_lt_of_pos z (by decide)
      refine run_setL (B := Hb) (n := n % 64) (d := .int ((cs.getD (n % 64) 0 * 48271 + c) % 2147483647)) 1 rfl hpb (ev_mod (ev_intI M.z_int (ev_add (ev_mul (ev_atL (ev_var 1 rfl rl) (Ev.cast (ev_mod (ev_intI M.z_int (ev_var 2 rfl (.int (n : Int) : Is Hb _ _))) ev_int (by decide)) (congrArg PyData.int hix)) (at_gD hlt)) ev_int (.inr (by decide))) (ev_var 3 rfl (.int c : Is Hb _ _)))) ev_int (by decide))
        (ev_mod (ev_intI M.z_int (ev_var 2 rfl (.int (n : Int) : Is Hb _ _))) ev_int (by decide)) (Ex.refl _) ?_ fun v4 H4 k4 r4 => ?_
      · rw [hix]
        unfold L2.ixN
        rw [List.length_map, if_pos (by omega), if_pos (by omega)]
        rfl
      · cases r4
        have hp4 := k4.lst hpb
        refine run_nil ⟨(ea.trans (kab.trans k4)).mut hp hp4 trivial, (eb.trans (kab.trans k4)).mut pB2 hp4 trivial, _, _, rfl, cs.set (n % 64) ((cs.getD (n % 64) 0 * 48271 + c) % 2147483647), by rw [upd_same, List.map_set], cc.set _ _ (m0 _) (m1 _)⟩
    · rintro σ' Ha ⟨ea, eb, u2, u3, rfl, cs, hpa, cc⟩
      refine run_forN (B := H) 2 (evi_rng2 M.z_range ev_int ev_int ⟨by decide, by decide⟩ ⟨by decide, by decide⟩) ea (fun B3 H3 k3 kB3 k33 gB3 => ?_) hN
      have pB3 : B3 p = none := not_in2 gB3 k33 (k3.lst hpa) trivial (fun ps z => nomatch z) hp ⟨_, hpa⟩
      refine ⟨fun i σ' H' => Ex H H' ∧ Ex B3 H' ∧ ∃ u2 u3, σ' = [some (.ref a), some (.ref p), u2, u3] ∧ ∃ cs : List Int, H' p = some (.lst (cs.map .int)) ∧ Cells cs, ⟨ea.trans k3, k33, u2, u3, rfl, cs, k3.lst hpa, cc⟩, fun i σ' H' z => z.2.1, ?_, ?_⟩
      · rintro i d vv σ' Hb Hc hd ⟨eb1, eb2, u2, u3, rfl, cs, hpb, cc⟩ kbc rvv
        obtain ⟨rfl, hi⟩ := rngD_at hd
        cases rvv
        have hi2 : i < 63 := hi
        have hpc := kbc.lst hpb
        have hlen := cc.len
        have rl : Is Hc (.ref p) (.list (cs.map .int)) := .lst trivial hpc (Rps.ofInts _)
        have m0 : ∀ z : Int, 0 ≤ z % 2147483647 := fun z => Int.emod_nonneg z (by decide)
        have m1 : ∀ z : Int, z % 2147483647 < 2147483647 := fun z => Int.emod_lt_of_pos z (by decide)
        have e1 : (1 : Int) + (i : Int) = ((i + 1 : Nat) : Int) := by omega
        refine run_setL (B := Hc) (n := i + 1) (d := .int ((cs.getD (i + 1) 0 + cs.getD i 0 * 16807) % 2147483647)) 1 rfl hpc (ev_mod (ev_intI M.z_int (ev_add (ev_atL (ev_var 1 rfl rl) (Ev.cast (ev_var 2 rfl (.int (1 + (i : Int)) : Is Hc _ _)) (congrArg PyData.int e1)) (at_gD (by omega))) (ev_mul (ev_atL (ev_var 1 rfl rl) (Ev.cast (ev_sub (ev_var 2 rfl (.int (1 + (i : Int)) : Is Hc _ _)) ev_int) (congrArg PyData.int (by omega : (1 : Int) + (i : Int) - 1 = (i : Int)))) (at_gD (by omega))) ev_int (.inr (by decide))))) ev_int (by decide))
          (ev_var 2 rfl (.int (1 + (i : Int)) : Is Hc _ _)) (Ex.refl _) ?_ fun v4 H4 k4 r4 => ?_
        · rw [e1]
          unfold L2.ixN
          rw [List.length_map, if_pos (by omega), if_pos (by omega)]
          rfl
        · cases r4
          have hp4 := k4.lst hpc
          refine run_nil ⟨(eb1.trans (kbc.trans k4)).mut hp hp4 trivial, (eb2.trans (kbc.trans k4)).mut pB3 hp4 trivial, _, _, rfl, cs.set (i + 1) ((cs.getD (i + 1) 0 + cs.getD i 0 * 16807) % 2147483647), by rw [upd_same, List.map_set], cc.set _ _ (m0 _) (m1 _)⟩
      · rintro σ' Hb ⟨eb1, eb2, u2, u3, rfl, cs, hpb, cc⟩
        exact run_retV 1 rfl (q p cs Hb eb1 hp hpb cc)
def SpBegun (K : PySem.W.Frag) : SpQ := fun vs H Q => ∃ (a : Addr) (zs : List Int), vs = [.ref a] ∧ SqL K H a (zs.map V.int) ∧ zs.length ≤ 63 ∧ ∀ m c g H', Ex H H' → H m = none → H c = none → H g = none → GenAt H' m c g 0 → Q (.ref m) H'
theorem ok_begun (M : Md mg) (D : FDef K mg "_law_begun" s__law_begun) (F1 : FnQ P w K mg base 1 "_law_folded" 1 (SpFolded K)) : FnQ P w K mg base 2 "_law_begun" 1 (SpBegun K) := by
  refine fnQ_mk D sc__law_begun (fun _ _ _ _ _ _ us hl => match us, hl with | [_], _ => rfl) rfl (fun vs H Q ⟨a, zs, e, _⟩ => by rw [e]; rfl) ?_
  intro X cdv A outer s f E H vs Q hX hr hsp
  obtain ⟨a, zs, rfl, sq, hz, q⟩ := hsp
  subst hX
  have hN := sc__law_begun.nd
  have hu := hr.un
  refine run_cons (ps_set (i := 1) hN rfl (.inl rfl) (pe_disp (pps_cons pe_str Evl.pe (pps_cons pe_str Evl.pe (pps_cons pe_str pe_int pps_nil))) rfl rfl (by simp) (by decide)) (by rfl) (.inr rfl)) fun m hm => ?_
  show Evl _ _ _ _ _
  refine evl_callQA (t := tCons (tVar 0) tNil) F1 hr (pa_cons (pe_var (i := 0) rfl (.inl rfl) (by decide) (by decide)) pa_nil) ?_
  refine ⟨.ref a, rfl, a, zs, rfl, (Ex.new hm).sq sq, hz, fun c cells H1 k1 hc h1 cc => ?_⟩
  have hcm : c ≠ m := fun e => by rw [e, upd_same] at hc; cases hc
  have hcH : H c = none := by rw [upd_ne hcm] at hc; exact hc
  show Evl _ _ _ _ _
  refine (ev_lst (B := H1) eva_nil) H1 (Ex.refl _) _ fun v2 H2 k2 r2 => ?_
  have k12 := k1.trans k2
  cases r2 with
  | lst g0 hg rs =>
    cases rs
    rename_i g1
    refine ⟨k12.dk upd_same, [(.inr "cells", .ref c), (.inr "great", .ref g1), (.inr "spot", .int 0)], rfl, by simp, ?_⟩
    show Run _ _ _ _ (upd H2 m (.dK [(.inr "cells", .ref c), (.inr "great", .ref g1), (.inr "spot", .int 0)]))
    have e3 : Ex H (upd H2 m (.dK [(.inr "cells", .ref c), (.inr "great", .ref g1), (.inr "spot", .int 0)])) := ((Ex.new hm).trans k12).mut hm (k12.dk upd_same) trivial
    have hm3 : upd H2 m (.dK [(.inr "cells", .ref c), (.inr "great", .ref g1), (.inr "spot", .int 0)]) m = some (.dK [(.inr "cells", .ref c), (.inr "great", .ref g1), (.inr "spot", .int 0)]) := upd_same
    have hc3 : upd H2 m (.dK [(.inr "cells", .ref c), (.inr "great", .ref g1), (.inr "spot", .int 0)]) c = some (.lst (cells.map .int)) := by rw [upd_ne hcm]; exact k2.lst h1
    generalize upd H2 m (.dK [(.inr "cells", .ref c), (.inr "great", .ref g1), (.inr "spot", .int 0)]) = H3 at e3 hm3 hc3
    refine run_cons (ps_dput (by show _ + 1 < _; omega) (pe_var (i := 1) rfl (.inl rfl) (by decide) (by decide)) pe_str Evl.pe (by rfl)) ?_
    show Evl _ _ _ _ _
    refine LcJ.evl (B := H) (lcN (own := [("_law_cell", 2)]) zs .int (fun z => .int (if 10 ^ 18 ≤ z then z else 0)) 2 hN (blkOk_by (N := N__law_begun) (sc := defScope s__law_begun) (by decide +kernel)) (evi_sq 0 rfl sq) (fun z hz v B3 kB iv s0 H0 C cl fp => ?_) (sl_of (by omega))) e3 fun v4 H4 k4 r4 ⟨g, ev, hg4⟩ => ?_
    · refine ev_if (t := decide (10 ^ 18 ≤ z)) (evt_ge (j := 10 ^ 18) (ev_var 2 rfl iv) (ev_pow ev_int ev_int ⟨by decide, by decide, by decide⟩)) (fun e => ?_) fun e => ?_
      · rw [if_pos (of_decide_eq_true e)]
        exact ev_var 2 rfl iv
      · rw [if_neg (of_decide_eq_false e)]
        exact ev_int
    · subst ev
      have hm4 := k4.dk hm3
      refine ⟨.ref m, rfl, m, _, rfl, DPut.k (k := .inr "great") hm4 (sl_of (by simp)), ?_⟩
      show Run _ _ _ _ (upd H4 m (.dK [(.inr "cells", .ref c), (.inr "great", .ref g), (.inr "spot", .int 0)]))
      cases r4 with
      | lst _ hg5 rs4 =>
        have ews := Rps.ints (ns := zs.map fun z => if 10 ^ 18 ≤ z then z else 0) (by rw [List.map_map]; exact rs4)
        rw [ews] at hg5
        have gm : g ≠ m := fun e => by rw [e, hm3] at hg4; cases hg4
        have cg : c ≠ g := fun e => by rw [← e, hc3] at hg4; cases hg4
        refine run_retV 1 rfl (q m c g _ ((e3.trans k4).mut hm hm4 trivial) hm hcH (e3.free hg4) ⟨cg, cells, zs.map (fun z => if 10 ^ 18 ≤ z then z else 0), upd_same, ?_, ?_, cc.len, cc.rg, fun x hx => ?_, by rw [List.length_map]; omega⟩)
        · rw [upd_ne hcm]; exact k4.lst hc3
        · rw [upd_ne gm]; exact hg5
        · obtain ⟨z, _, rfl⟩ := List.mem_map.mp hx
          show 0 ≤ (if (10 : Int) ^ 18 ≤ z then z else 0)
          split
          · have : (0 : Int) ≤ 10 ^ 18 := by decide
            omega
          · exact Int.le_refl _
end
end Bl

set_option Elab.async false
set_option linter.all false
set_option autoImplicit false
set_option maxRecDepth 100000
set_option maxHeartbeats 4000000
namespace Bl
open PySem PySem.Spec PyProof.Rows L2 LamX StX
theorem w2_lst {H H' : Hp} {m g a : Addr} {xs : List V} (e : Ex (W2 m g H) H') (h : H a = some (.lst xs)) (hm : a ≠ m) (hg : a ≠ g) : H' a = some (.lst xs) := e.lst (by
  show Wo g (Wo m H) a = _
  rw [wo_ne hg, wo_ne hm]
  exact h)
theorem w2_none {H : Hp} {m g a : Addr} (h : H a = none) : W2 m g H a = none := by
  show Wo g (Wo m H) a = none
  unfold Wo
  split
  · rfl
  · split
    · rfl
    · exact h
theorem pair_zip {fs : List Int} (h : fs.Pairwise (· < ·)) : ∀ p ∈ fs.zip (fs.drop 1), p.1 < p.2 := by
  induction fs with
  | nil => intro p hp; simp at hp
  | cons a fs ih =>
    intro p hp
    cases fs with
    | nil => simp at hp
    | cons b fs =>
      have h' := List.pairwise_cons.mp h
      rw [List.drop_succ_cons, List.drop_zero, List.zip_cons_cons] at hp
      rcases List.mem_cons.mp hp with e | e
      · subst e; exact h'.1 b List.mem_cons_self
      · exact ih h'.2 p e
section
variable {P : Program} {w : World} {K : PySem.W.Frag} {mg : Str → Option Value} {base : Heap}
theorem evl_draw {X : Cx} {σ : L2.St} {B H : Hp} {e : Expr} {p pos pd : Pos} {dn : Str} {kk : Nat} {m c g : Addr} {n lim : Int} {Q : VK} (F : FnQ X.prog X.w X.K X.mg X.base kk "_law_draw" 2 SpDraw) (hr : Room kk X.A) (i : Nat) (hs : σ[i]? = some (some (.ref m))) (he : Ev X σ B e (.int lim)) (k0 : Ex B H) (st : GenAt H m c g n) (n0 : 0 ≤ n) (n1 : n ≤ 100000) (l0 : 0 < lim) (l1 : lim < 1000000)
    (q : ∀ r H', 0 ≤ r → r < lim → GenAt H' m c g (n + 1) → Ex (W2 m g H) H' → Q (.int r) H') (hN : X.N[i]? = some dn := by rfl) (hv : Vis X.env.scope dn := by first | exact Or.inl rfl | exact Or.inr (Or.inl rfl) | exact Or.inr (Or.inr rfl)) (hd : (dn == ("__debug__" : Str)) = false := by decide) (hcd : (dn == ("__classdict__" : Str)) = false := by decide)
    (hg : Gl X "_law_draw" := by rfl) (h1 : starEach [.Name dn pd, e] X.env = (false, eval (.Name dn pd) X.env) :: starEach [e] X.env := by rfl) (h2 : starEach [e] X.env = (false, eval e X.env) :: starEach [] X.env := by rfl) (hpl : (backTo pos (starEach [e] X.env)).any (·.1) = false := by rfl) :
    Evl X (.Call (.Name "_law_draw" p) [.Name dn pd, e] [] pos) σ H Q := by
  refine evl_callQA (t := tCons (tVar i) (tCons (Evl X e) tNil)) F hr (pa_cons (pe_var hN hv hd hcd) (pa_cons Evl.pe pa_nil h2) h1) ?_ hg (by decide) h1 hpl
  refine ⟨.ref m, hs, he H k0 _ fun y H1 e1 r1 => ?_⟩
  cases r1
  exact ⟨m, c, g, n, lim, rfl, st.up e1, n0, n1, l0, l1, fun r H' a b s ex => q r H' a b s (w2_trans (st.up e1) (w2_of e1) ex)⟩
def SpOf : SpQ := fun vs H Q => ∃ (m c g l : Addr) (n : Int) (xs : List V), vs = [.ref m, .ref l] ∧ GenAt H m c g n ∧ 0 ≤ n ∧ n ≤ 100000 ∧ H l = some (.lst xs) ∧ l ≠ g ∧ xs ≠ [] ∧ xs.length < 1000000 ∧ ∀ x H', x ∈ xs → GenAt H' m c g (n + 1) → Ex (W2 m g H) H' → Q x H'
theorem ok_of (M : Md mg) (D : FDef K mg "_law_of" s__law_of) (F1 : FnQ P w K mg base 2 "_law_draw" 2 SpDraw) : FnQ P w K mg base 3 "_law_of" 2 SpOf := by
  refine fnQ_mk D sc__law_of (fun _ _ _ _ _ _ us hl => match us, hl with | [_, _], _ => rfl) rfl (fun vs H Q ⟨m, c, g, l, n, xs, e, _⟩ => by rw [e]; rfl) ?_
  intro X cdv A outer s f E H vs Q hX hr hsp
  obtain ⟨m, c, g, l, n, xs, rfl, st, n0, n1, hl, lg, hne, hlen, q⟩ := hsp
  subst hX
  have lm : l ≠ m := by
    obtain ⟨_, _, _, hm, _⟩ := st
    exact ne_of hl hm fun z => nomatch z
  have hpos : 0 < xs.length := List.length_pos_iff.mpr hne
  refine run_cons (ps_ret (pe_ix ix_list (pe_var (i := 1) rfl (.inl rfl) (by decide) (by decide)) Evl.pe (fun _ _ => rfl))) ⟨.ref l, rfl, ?_⟩
  refine evl_draw F1 hr 0 rfl (lim := xs.length) (B := H) (fun H0 k0 Q0 q0 => ?_) (Ex.refl H) st n0 n1 (by omega) (by omega) fun r H' r0 r1 s' ex => ?_
  · exact Evl.of (pe_callB call_len_seq rfl M.z_len PySem.boot_len (pa_cons (pe_var (i := 1) rfl (.inl rfl) (by decide) (by decide)) pa_nil rfl) (by decide) (by decide) rfl rfl) ⟨.ref l, rfl, l, xs, rfl, .inl (.inl (.inl (k0.lst hl))), q0 _ _ (Ex.refl _) (.int _)⟩
  · obtain ⟨j, rfl⟩ := Int.eq_ofNat_of_zero_le r0
    have hj : j < xs.length := by omega
    exact ⟨l, xs, j, xs[j], rfl, rfl, .inl (.inl (w2_lst ex hl lm lg)), atI_nat (List.getElem?_eq_getElem hj), q _ H' (List.getElem_mem hj) s' ex⟩
def SpYard : SpQ := fun vs H Q => ∃ (m c g : Addr) (n : Int) (most many : Int), vs = [.ref m, .int most, .int many] ∧ GenAt H m c g n ∧ 0 ≤ n ∧ n ≤ 50000 ∧ 1 ≤ most ∧ most ≤ 6 ∧ 1 ≤ many ∧ many ≤ 4 ∧
  ∀ (h : Hall) n' v H', h.Ok → h.s ≤ most → (h.fs.length : Int) ≤ many → n ≤ n' → n' ≤ n + 20 → GenAt H' m c g n' → Ex (W2 m g H) H' → Is H' v h.d → Q v H'
theorem ok_yard (M : Md mg) (D : FDef K mg "_law_yard" s__law_yard) (F1 : FnQ P w K mg base 2 "_law_draw" 2 SpDraw) : FnQ P w K mg base 3 "_law_yard" 3 SpYard := by
  refine fnQ_mk D sc__law_yard (fun _ _ _ _ _ _ us hl => match us, hl with | [_, _, _], _ => rfl) rfl (fun vs H Q ⟨m, c, g, n, most, many, e, _⟩ => by rw [e]; rfl) ?_
  intro X cdv A outer s f E H vs Q hX hr hsp
  obtain ⟨m, c, g, n, most, many, rfl, st, n0, n1, a1, a2, b1, b2, q⟩ := hsp
  subst hX
  have hN := sc__law_yard.nd
  have hmg := st.mg
  refine run_par (B := Fz H) 3 4 (eva_cons (ev_lst eva_nil) (eva_cons ev_int eva_nil)) fz_ex (fun vf vl H1 k1 rf rl => ?_) hN
  cases rl
  have rf' := rf.fresh k1
  cases rf' with
  | lst g0 hf rs =>
    cases rs
    rename_i fl
    have hfl : H fl = none := g0
    have fm : fl ≠ m := fun e => by
      obtain ⟨_, _, _, hm, _⟩ := st
      rw [e, hm] at hfl; cases hfl
    have fg : fl ≠ g := fun e => by
      obtain ⟨_, _, _, _, _, hg, _⟩ := st
      rw [e, hg] at hfl; cases hfl
    have st1 := st.up k1
    refine run_cons (ps_for PassesOwn.never rfl (pi_range1 rfl M.z_range (pa_cons (pe_op op_add pe_int Evl.pe) pa_nil rfl) rfl) (pg_name (i := 5) hN rfl (.inl rfl) (.inr rfl)) Run.pss (by intro _; rfl)) ?_
    show Evl _ _ _ _ _
    refine evl_draw F1 hr 0 rfl (lim := many) (B := H1) (ev_var 2 rfl (.int many : Is H1 _ _)) (Ex.refl _) st1 n0 (by omega) (by omega) (by omega) fun r H2 r0 r1 s2 ex2 => ?_
    have e2 : Ex (W2 m g H) H2 := w2_trans st1 (w2_of k1) ex2
    refine ⟨1, r, rfl, rfl, 1 + r, rfl, by omega, by omega, ?_⟩
    refine for_it walk_range (fun i σ' H' => Ex (W2 m g H) H' ∧ ∃ (u5 : Option V) (fs : List Int) (n' last : Int), σ' = [some (.ref m), some (.int most), some (.int many), some (.ref fl), some (.int last), u5] ∧ GenAt H' m c g n' ∧ n + 1 ≤ n' ∧ n' ≤ n + 1 + 3 * i ∧ H' fl = some (.lst (fs.map .int)) ∧ fs.length = i ∧ fs.Pairwise (· < ·) ∧ (∀ f ∈ fs, 1 ≤ f ∧ f ≤ last) ∧ 0 ≤ last ∧ last ≤ 24 * i)
      ⟨e2, none, [], n + 1, 0, rfl, s2, by omega, by omega, w2_lst ex2 hf fm fg, rfl, .nil, (fun f hf => nomatch hf), by omega, by omega⟩ (fun _ _ _ _ _ => trivial) (fun i x σ' Ha Hb hi p y => ?_) fun σ' Ha p => ?_
    · obtain ⟨ea, u5, fs, n', last, rfl, sa, na, nb, hfa, hlen, hpw, hfr, l0, l1⟩ := p
      obtain ⟨rfl, rfl⟩ := y
      have hi4 : i < 4 := by omega
      show Run _ _ _ _ _
      refine run_cons (ps_set (i := 4) hN rfl (.inl rfl) (pe_op op_add (pe_op op_add (pe_var (i := 4) rfl (.inl rfl) (by decide) (by decide)) pe_int) (pe_ix ix_list (pe_lst (pa_cons Evl.pe (pa_cons Evl.pe (pa_cons pe_int pa_nil rfl) rfl) rfl)) Evl.pe (fun _ _ => rfl))) (by rfl) (.inr rfl)) ?_
      refine ⟨.int last, rfl, last, 1, rfl, rfl, ?_⟩
      show Evl _ _ _ _ _
      refine evl_draw F1 hr 0 rfl (lim := 3) (B := Hb) ev_int (Ex.refl _) sa (by omega) (by omega) (by decide) (by decide) fun d1 Hc d10 d11 sc exc => ?_
      show Evl _ _ _ _ _
      refine evl_draw F1 hr 0 rfl (lim := 24) (B := Hc) ev_int (Ex.refl _) sc (by omega) (by omega) (by decide) (by decide) fun d2 Hd d20 d21 sd exd => ?_
      refine ⟨sl_le (by simp), fun pl hpl => ?_⟩
      have ed : Ex (W2 m g H) Hd := w2_trans sc (w2_trans sa ea exc) exd
      have hfd := w2_lst exd (w2_lst exc hfa fm fg) fm fg
      have plm : pl ≠ m := fun e => by
        obtain ⟨_, _, _, hm, _⟩ := sd
        rw [e, hm] at hpl; cases hpl
      have plg : pl ≠ g := fun e => by
        obtain ⟨_, _, _, _, _, hg, _⟩ := sd
        rw [e, hg] at hpl; cases hpl
      have hfe : upd Hd pl (.lst [.int d1, .int d2, .int 0]) fl = some (.lst (fs.map .int)) := (Ex.new hpl).lst hfd
      have se := sd.up (Ex.new (o := .lst [.int d1, .int d2, .int 0]) hpl)
      show Evl _ _ _ _ _
      refine evl_draw F1 hr 0 rfl (lim := 3) (B := upd Hd pl (.lst [.int d1, .int d2, .int 0])) ev_int (Ex.refl _) se (by omega) (by omega) (by decide) (by decide) fun d3 He d30 d31 sf exe => ?_
      have hpe := w2_lst exe upd_same plm plg
      have hfe2 := w2_lst exe hfe fm fg
      have ee : Ex (W2 m g H) He := w2_trans se (ed.trans (Ex.new hpl)) exe
      obtain ⟨v, hv, v0, v1⟩ : ∃ v : Int, L2.atI [V.int d1, V.int d2, V.int 0] d3 = some (.int v) ∧ 0 ≤ v ∧ v < 24 := by
        have h3 : d3 = 0 ∨ d3 = 1 ∨ d3 = 2 := by omega
        rcases h3 with rfl | rfl | rfl
        · exact ⟨d1, rfl, d10, by omega⟩
        · exact ⟨d2, rfl, d20, d21⟩
        · exact ⟨0, rfl, by omega, by omega⟩
      refine ⟨pl, _, d3, .int v, rfl, rfl, .inl (.inl hpe), hv, last + 1, v, rfl, rfl, ?_⟩
      show Run _ _ _ _ _
      refine run_app (B := He) 3 rfl hfe2 (ev_var 4 rfl (.int (last + 1 + v) : Is He _ _)) (Ex.refl _) (sl_of (by rw [List.length_map]; omega)) fun vv Hf kf rv => ?_
      cases rv
      have hff := kf.lst hfe2
      refine run_nil ⟨(ee.trans kf).mut (w2_none hfl) hff trivial, _, fs ++ [last + 1 + v], n' + 1 + 1 + 1, last + 1 + v, rfl, ?_, by omega, by omega, ?_, ?_, ?_, ?_, by omega, by omega⟩
      · obtain ⟨cg, cells, great, h1, h2, h3, r⟩ := sf.up kf
        refine ⟨cg, cells, great, by rw [upd_ne (Ne.symm fm)]; exact h1, ?_, by rw [upd_ne (Ne.symm fg)]; exact h3, r⟩
        have fc : c ≠ fl := fun e => by
          obtain ⟨_, _, _, _, hc, _⟩ := st
          rw [e, hfl] at hc; cases hc
        rw [upd_ne fc]; exact h2
      · rw [upd_same, List.map_append]; rfl
      · rw [List.length_append, hlen]; rfl
      · refine List.pairwise_append.mpr ⟨hpw, by simp, fun a ha b hb => ?_⟩
        have := hfr a ha
        have hb' : b = last + 1 + v := by simpa using hb
        omega
      · intro f hf
        rcases List.mem_append.mp hf with z | z
        · have := hfr f z; omega
        · have : f = last + 1 + v := by simpa using z
          omega
    · obtain ⟨ea, u5, fs, n', last, rfl, sa, na, nb, hfa, hlen, hpw, hfr, l0, l1⟩ := p
      have hfl4 : (fs.length : Int) ≤ many ∧ 1 ≤ fs.length := by omega
      refine run_cons (ps_ret (pe_tup (pa_cons (pe_op op_add pe_int Evl.pe) (pa_cons Evl.pe pa_nil rfl) rfl))) ?_
      show Evl _ _ _ _ _
      refine evl_draw F1 hr 0 rfl (lim := most) (B := Ha) (ev_var 1 rfl (.int most : Is Ha _ _)) (Ex.refl _) sa (by omega) (by omega) (by omega) (by omega) fun r5 Hb r50 r51 sb exb => ?_
      refine ⟨1, r5, rfl, rfl, ?_⟩
      have hfb := w2_lst exb hfa fm fg
      have eb : Ex (W2 m g H) Hb := w2_trans sa ea exb
      show Evl _ _ _ _ _
      refine (ev_tupleOf (B := Hb) M.z_tuple (ev_var (v := .ref fl) 3 rfl (.lst trivial hfb (Rps.ofInts fs) : Is Hb _ _))) Hb (Ex.refl _) _ fun v6 H6 k6 r6 => ?_
      have e6 := eb.trans k6
      refine ⟨sl_le (by simp), fun pt hpt => q ⟨1 + r5, fs⟩ (n' + 1) _ _ ⟨by show 1 ≤ 1 + r5; omega, by show 1 + r5 ≤ 6; omega, hfl4.2, by show fs.length ≤ 4; omega, fun f hf => ?_, pair_zip hpw⟩ (by show 1 + r5 ≤ most; omega) hfl4.1 (by omega) (by omega) (sb.up (k6.trans (Ex.new hpt))) (e6.trans (Ex.new hpt)) ?_⟩
      · have := hfr f hf
        omega
      · exact .tup upd_same (.cons (.int _) (.cons (r6.is.up (Ex.new hpt)) .nil))
end
end Bl

set_option Elab.async false
set_option linter.all false
set_option autoImplicit false
set_option maxRecDepth 100000
set_option maxHeartbeats 4000000
namespace Bl
open PySem PySem.Spec PyProof.Rows L2 LamX StX
/-! ### what repr tells whole -/
def smI (i : Int) : Prop := -1000 ≤ i ∧ i ≤ 1000
theorem int_short {i : Int} (h : smI i) : (PyData.shown (.int i)).length ≤ 13 := by
  have all : ∀ n : Fin 2001, (PyData.shown (.int ((n.val : Int) - 1000))).length ≤ 13 := by decide +kernel
  unfold smI at h
  have := all ⟨(i + 1000).toNat, by omega⟩
  rw [show (((i + 1000).toNat : Nat) : Int) - 1000 = i by omega] at this
  exact this
mutual
/-- small ints, None, lists and tuples, n deep at most -/
def sd : Nat → PyData → Bool
  | _, .none => true
  | _, .bool _ => false
  | _, .int i => decide (-1000 ≤ i) && decide (i ≤ 1000)
  | _, .str _ => false
  | 0, .list _ => false
  | 0, .tuple _ => false
  | n + 1, .list ds => sds n ds
  | n + 1, .tuple ds => sds n ds
  | _, .dict _ => false
def sds : Nat → List PyData → Bool
  | _, [] => true
  | n, d :: ds => sd n d && sds n ds
end
mutual
def cnt : PyData → Nat
  | .none => 1
  | .bool _ => 1
  | .int _ => 1
  | .str _ => 1
  | .list ds => 1 + cnts ds
  | .tuple ds => 1 + cnts ds
  | .dict _ => 1
def cnts : List PyData → Nat
  | [] => 0
  | d :: ds => cnt d + cnts ds
end
theorem log_sm {i : Int} (h : smI i) : i.natAbs.log2 ≤ 9 := by
  have hn : i.natAbs < 2 ^ 10 := by
    unfold smI at h
    have : (2 : Nat) ^ 10 = 1024 := by decide
    omega
  by_cases z : i.natAbs = 0
  · rw [z]; decide
  · have := (Nat.log2_lt z).mpr hn
    omega
mutual
theorem sd_ok : ∀ (n : Nat) (d : PyData), sd n d = true → d.canLay0 = true ∧ d.depth ≤ n ∧ d.showable = true ∧ d.intsShort 13 = true ∧ d.weight + 1 ≤ 11 * cnt d
  | n, .none, _ => ⟨rfl, Nat.zero_le _, rfl, rfl, by show 0 + 1 ≤ 11 * 1; decide⟩
  | n, .bool _, h => by simp [sd] at h
  | n, .int i, h => by
    have h' : smI i := by simpa [sd, smI] using h
    have l := log_sm h'
    refine ⟨rfl, Nat.zero_le _, ?_, ?_, ?_⟩
    · show decide (i.natAbs.log2 < 1920) = true
      exact decide_eq_true (by omega)
    · show decide ((PyData.shown (.int i)).length ≤ 13) = true
      exact decide_eq_true (int_short h')
    · show (if i == 0 then 0 else i.natAbs.log2 + 1) + 1 ≤ 11 * 1
      split <;> omega
  | n, .str _, h => by simp [sd] at h
  | 0, .list _, h => by simp [sd] at h
  | 0, .tuple _, h => by simp [sd] at h
  | n + 1, .list ds, h => by
    obtain ⟨a, b, c, d, e⟩ := sds_ok n ds (by simpa [sd] using h)
    exact ⟨a, Nat.succ_le_succ b, c, d, by show PyData.weightAll ds + 1 ≤ 11 * (1 + cnts ds); omega⟩
  | n + 1, .tuple ds, h => by
    obtain ⟨a, b, c, d, e⟩ := sds_ok n ds (by simpa [sd] using h)
    exact ⟨a, Nat.succ_le_succ b, c, d, by show PyData.weightAll ds + 1 ≤ 11 * (1 + cnts ds); omega⟩
  | n, .dict _, h => by simp [sd] at h
theorem sds_ok : ∀ (n : Nat) (ds : List PyData), sds n ds = true → PyData.canLayAll0 ds = true ∧ PyData.depthAll ds ≤ n ∧ PyData.showableAll ds = true ∧ PyData.intsShortAll 13 ds = true ∧ PyData.weightAll ds ≤ 11 * cnts ds
  | n, [], _ => ⟨rfl, Nat.zero_le _, rfl, rfl, Nat.zero_le _⟩
  | n, d :: ds, h => by
    have h' : sd n d = true ∧ sds n ds = true := by simpa [sds] using h
    obtain ⟨a, b, c, e, f⟩ := sd_ok n d h'.1
    obtain ⟨a', b', c', e', f'⟩ := sds_ok n ds h'.2
    refine ⟨?_, Nat.max_le.mpr ⟨b, b'⟩, ?_, ?_, ?_⟩
    · simp only [PyData.canLayAll0, a, a', Bool.and_self]
    · simp only [PyData.showableAll, c, c', Bool.and_self]
    · simp only [PyData.intsShortAll, e, e', Bool.and_self]
    · show d.weight + 1 + PyData.weightAll ds ≤ 11 * (cnt d + cnts ds)
      omega
end
theorem shows_of {d : PyData} (h : sd 60 d = true) (c : cnt d ≤ 90000) (hn : d ≠ .none) : Shows d := by
  obtain ⟨a, b, e, f, g⟩ := sd_ok 60 d h
  have hl : d.layable0 = true := by
    unfold PyData.layable0
    rw [a, decide_eq_true (by omega), decide_eq_true (by have : (2 : Nat) ^ 20 = 1048576 := by decide
                                                         omega)]
    rfl
  refine ⟨e, b, ?_, fun x z => ?_, hn, fun x z => ?_⟩
  · have := PyProof.Rows.shown_le13 hl f
    have e2 : sizeLine = 16777216 := by decide
    omega
  · rw [z] at h; simp [sd] at h
  · rw [z] at h; simp [sd] at h
theorem sds_all {n : Nat} {ds : List PyData} (h : ∀ d ∈ ds, sd n d = true) : sds n ds = true := by
  induction ds with
  | nil => cases n <;> rfl
  | cons d ds ih =>
    have h1 := h d List.mem_cons_self
    have h2 := ih fun x hx => h x (List.mem_cons_of_mem _ hx)
    simp only [sds, h1, h2, Bool.and_self]
theorem cnts_le {ds : List PyData} {b : Nat} (h : ∀ d ∈ ds, cnt d ≤ b) : cnts ds ≤ b * ds.length := by
  induction ds with
  | nil => simp [cnts]
  | cons d ds ih =>
    have h1 := h d List.mem_cons_self
    have h2 := ih fun x hx => h x (List.mem_cons_of_mem _ hx)
    show cnt d + cnts ds ≤ b * (ds.length + 1)
    rw [Nat.mul_add]
    omega
theorem sd_int {n : Nat} {i : Int} (h : smI i) : sd n (.int i) = true := by
  unfold smI at h
  unfold sd
  rw [decide_eq_true h.1, decide_eq_true h.2]
  rfl
theorem sd_dIs {n : Nat} {l : List Int} (h : ∀ x ∈ l, smI x) : sd (n + 1) (dIs l) = true := by
  show sds n (l.map .int) = true
  refine sds_all fun d hd => ?_
  obtain ⟨x, hx, rfl⟩ := List.mem_map.mp hd
  exact sd_int (h x hx)
theorem cnt_dIs (l : List Int) : cnt (dIs l) = 1 + l.length := by
  show 1 + cnts (l.map .int) = _
  congr 1
  induction l with
  | nil => rfl
  | cons a l ih =>
    show 1 + cnts (l.map .int) = l.length + 1
    omega
theorem sd_rows {n : Nat} {rows : List (List Int)} (h : ∀ r ∈ rows, ∀ x ∈ r, smI x) : sds (n + 1) (rows.map dIs) = true := sds_all fun d hd => by
  obtain ⟨r, hr, rfl⟩ := List.mem_map.mp hd
  exact sd_dIs (h r hr)
theorem sd_frD {n : Nat} {p : Int × Int} (h1 : smI p.1) (h2 : smI p.2) : sd (n + 1) (frD p) = true := by
  show (sd n (.int p.1) && (sd n (.int p.2) && sds n [])) = true
  rw [sd_int h1, sd_int h2]
  cases n <;> rfl
theorem sd_plainD {n : Nat} {rg : Bool} {p : Int × Int} (h1 : smI p.1) (h2 : smI p.2) : sd (n + 1) (plainD rg p) = true := by
  unfold plainD
  split
  · exact sd_int h1
  · exact sd_frD h1 h2
theorem cnt_plainD (rg : Bool) (p : Int × Int) : cnt (plainD rg p) ≤ 3 := by
  unfold plainD
  split
  · show 1 ≤ 3; decide
  · show 1 + (1 + (1 + 0)) ≤ 3; decide
/-! small fractions -/
def Fs (p : Int × Int) : Prop := smI p.1 ∧ smI p.2
theorem worthOf_fs {rg : Bool} {a b : Int} (a0 : 0 ≤ a) (a1 : a ≤ 594) (b0 : 0 ≤ b) (b1 : b ≤ 594) : Fs (worthOf rg a b) := by
  unfold worthOf
  cases rg with
  | true => exact ⟨⟨by show -1000 ≤ b - a; omega, by show b - a ≤ 1000; omega⟩, by show (-1000 : Int) ≤ 1; decide, by show (1 : Int) ≤ 1000; decide⟩
  | false =>
    show Fs (frac a b)
    unfold frac
    split
    · exact ⟨⟨by decide, by decide⟩, by decide, by decide⟩
    · have h1 := Int.ediv_nonneg a0 (Int.natCast_nonneg (Int.gcd a b))
      have h2 := Int.ediv_le_self (Int.gcd a b : Int) a0
      have h3 := Int.ediv_nonneg b0 (Int.natCast_nonneg (Int.gcd a b))
      have h4 := Int.ediv_le_self (Int.gcd a b : Int) b0
      exact ⟨⟨by show -1000 ≤ a / _; omega, by show a / _ ≤ 1000; omega⟩, by show -1000 ≤ b / _; omega, by show b / _ ≤ 1000; omega⟩
theorem worseF_fs {rg : Bool} : ∀ {x : Int × Int} {xs : List (Int × Int)}, Fs x → (∀ y ∈ xs, Fs y) → Fs (worseF rg x xs)
  | x, [], h, _ => h
  | x, y :: xs, h, k => by
    unfold worseF
    rw [List.foldl_cons]
    refine worseF_fs (x := if isW rg y x then y else x) (xs := xs) ?_ fun z hz => k z (List.mem_cons_of_mem _ hz)
    split
    · exact k y List.mem_cons_self
    · exact h
theorem betterF_fs {rg : Bool} : ∀ {x : Int × Int} {xs : List (Int × Int)}, Fs x → (∀ y ∈ xs, Fs y) → Fs (betterF rg x xs)
  | x, [], h, _ => h
  | x, y :: xs, h, k => by
    unfold betterF
    rw [List.foldl_cons]
    refine betterF_fs (x := if isW rg x y then y else x) (xs := xs) ?_ fun z hz => k z (List.mem_cons_of_mem _ hz)
    split
    · exact k y List.mem_cons_self
    · exact h
theorem worstL_fs {h : Hall} (o : h.Ok) (rg : Bool) {ls : List Int} (l : LimOk h ls) : Fs (worstL h rg ls) := by
  refine worseF_fs (by cases rg <;> exact ⟨⟨by decide, by decide⟩, by decide, by decide⟩) fun y hy => ?_
  obtain ⟨k, hk, rfl⟩ := List.mem_map.mp hy
  obtain ⟨a, b, c, d⟩ := worthTo_sm o rg l (List.mem_range.mp hk)
  exact worthOf_fs a b c d
theorem bestW_fs {h : Hall} (o : h.Ok) (rg : Bool) : Fs (bestW h rg) := by
  obtain ⟨r, rs, e1, e2⟩ := bestW_is o rg
  rw [e2]
  refine betterF_fs (worstL_fs o rg (allL_lim o (by rw [e1]; exact List.mem_cons_self))) fun y hy => ?_
  obtain ⟨q, hq, rfl⟩ := List.mem_map.mp hy
  exact worstL_fs o rg (allL_lim o (by rw [e1]; exact List.mem_cons_of_mem _ hq))
theorem lim_sm {h : Hall} (o : h.Ok) {ls : List Int} (l : LimOk h ls) : ∀ x ∈ ls, smI x := fun x hx => by
  have := l.rg x hx
  have := o.s6
  exact ⟨by omega, by omega⟩
end Bl

set_option Elab.async false
set_option linter.all false
set_option autoImplicit false
set_option maxRecDepth 100000
set_option maxHeartbeats 2000000
namespace Bl
open PySem PySem.Spec PyProof.Rows L2 LamX StX
/-- a def's promise where nothing is being shown by repr -/
structure FnGOk (P : Program) (w : World) (K : PySem.W.Frag) (mg : Str → Option Value) (base : Heap) (k : Nat) (f : Addr) (fd : FuncData) (ps : List Str) (sp : SpQ) : Prop where
  len : ∀ vs H Q, sp vs H Q → vs.length = ps.length
  run : ∀ (A : Around) (outer : List Env) (s : Shared) (H : Hp) (args : Args) (us : List Value) (vs : List V) (Q : VK) (E : XK), Room k A → A.guards = some [] → Env0 P w K mg base A outer s H → BindsTo s fd args (ps.zip us) → Vals vs us → sp vs H Q →
    codeAny (model P w) A (.call (.ref f) args) (CR CX0 outer P w H s Q E) s
structure FnG (P : Program) (w : World) (K : PySem.W.Frag) (mg : Str → Option Value) (base : Heap) (k : Nat) (x : Str) (n : Nat) (sp : SpQ) : Prop where
  ex : ∃ f fd ps, FnGOk P w K mg base k f fd ps sp ∧ ps.length = n ∧ mg x = some (.ref f) ∧ PySem.W.keepIn K (.ref f) = true ∧ Binds K fd ps []
theorem FnGOk.mono {P : Program} {w : World} {K : PySem.W.Frag} {mg : Str → Option Value} {base : Heap} {j k : Nat} {f : Addr} {fd : FuncData} {ps : List Str} {sp : SpQ} (F : FnGOk P w K mg base j f fd ps sp) (h : j ≤ k) : FnGOk P w K mg base k f fd ps sp :=
  ⟨F.len, fun A outer s H args us vs Q E hr => F.run A outer s H args us vs Q E (hr.mono h)⟩
theorem FnG.mono {P : Program} {w : World} {K : PySem.W.Frag} {mg : Str → Option Value} {base : Heap} {j k n : Nat} {x : Str} {sp : SpQ} (F : FnG P w K mg base j x n sp) (h : j ≤ k) : FnG P w K mg base k x n sp :=
  let ⟨f, fd, ps, F, r⟩ := F.ex; ⟨f, fd, ps, F.mono h, r⟩
section
variable {X : Cx} {σ : L2.St} {B H : Hp} {e : Expr} {es : List Expr} {ds : List PyData} {pos : Pos}
theorem pe_callG {x : Str} {k : Nat} {f : Addr} {fd : FuncData} {ps : List Str} {p : Pos} {sp : SpQ} {t : TA} (F : FnGOk X.prog X.w X.K X.mg X.base k f fd ps sp) (hr : Room k X.A) (gd : X.A.guards = some []) (hg : Gl X x) (hm : X.mg x = some (.ref f)) (hk : PySem.W.keepIn X.K (.ref f) = true) (hb : Binds X.K fd ps [])
    (ha : PA X (e :: es) t) (hdb : (x == ("__debug__" : Str)) = false) (he : starEach (e :: es) X.env = (false, eval e X.env) :: starEach es X.env) (hpl : (backTo pos (starEach es X.env)).any (·.1) = false) :
    PE X (.Call (.Name x p) (e :: es) [] pos) (fun σ H Q => t σ H fun vs H1 => sp vs H1 Q) := by
  constructor
  intro pins s σ H Q I h
  apply wpAny_Call_Name_kw
  refine ld_glob I hg hm ?_ hdb
  refine PySem.W.callWith_K (h₀ := X.base) I.ok.mod.kin hk (thn (ha.run pos pins s σ H _ I h) fun us s1 hz => ?_) he hpl
  obtain ⟨vs, H1, J, r, q⟩ := hz
  refine ⟨J.kIn, ?_⟩
  have lens : us.length = ps.length := r.length.symm.trans (F.len vs H1 Q q)
  have bd := hb s1 us J.kIn (by rw [List.append_nil]; exact lens)
  rw [List.append_nil] at bd
  refine wpAny_call (codeAny_mono (F.run X.A X.stack s1 H1 ⟨us, []⟩ us vs Q (fun _ _ _ => False) hr gd J.env0 bd r q) fun res s2 hq => ?_)
  match res, hq with
  | .ok (.ret u), hq => exact J.after hq
theorem evl_callG {x : Str} {k n : Nat} {p : Pos} {sp : SpQ} {t : TA} (F : FnG X.prog X.w X.K X.mg X.base k x n sp) (hr : Room k X.A) (gd : X.A.guards = some []) (ha : PA X (e :: es) t) {Q : VK} (q : t σ H fun vs H1 => sp vs H1 Q) (hg : Gl X x := by rfl) (hdb : (x == ("__debug__" : Str)) = false := by decide)
    (he : starEach (e :: es) X.env = (false, eval e X.env) :: starEach es X.env := by rfl) (hpl : (backTo pos (starEach es X.env)).any (·.1) = false := by rfl) : Evl X (.Call (.Name x p) (e :: es) [] pos) σ H Q := by
  obtain ⟨f, fd, ps, F, _, hm, hk, hb⟩ := F.ex
  exact Evl.of (pe_callG F hr gd hg hm hk hb ha hdb he hpl) q
/-- .. of data, as data -/
def spG (pre : List PyData → PyData → Prop) : SpQ := fun vs H Q => ∃ ds d, Iss H vs ds ∧ pre ds d ∧ ∀ v H', Ex H H' → Rp (Fr0 H) H' v d → Q v H'
theorem ev_callG {x : Str} {k n : Nat} {p : Pos} {pre : List PyData → PyData → Prop} {d : PyData} (F : FnG X.prog X.w X.K X.mg X.base k x n (spG pre)) (hr : Room k X.A) (gd : X.A.guards = some []) (hp : pre ds d) (ha : EvA X σ B (e :: es) ds) (hg : Gl X x := by rfl) (hdb : (x == ("__debug__" : Str)) = false := by decide)
    (he : starEach (e :: es) X.env = (false, eval e X.env) :: starEach es X.env := by rfl) (hpl : (backTo pos (starEach es X.env)).any (·.1) = false := by rfl) : Ev X σ B (.Call (.Name x p) (e :: es) [] pos) d := fun H k Q q =>
  evl_callG F hr gd (Arg.pa (es := e :: es)) (ha H k _ fun vs H1 e1 r1 => ⟨ds, d, r1.is, hp, fun v H2 e2 r2 => q v H2 (e1.trans e2) (r2.mono (fun _ z => .inr (e1.free z)) (Ex.refl _))⟩) hg hdb he hpl
end
section
variable {P : Program} {w : World} {K : PySem.W.Frag} {mg : Str → Option Value} {base : Heap} {k n : Nat} {x : Str} {st : Stmt} {N ps : List Str} {sp : SpQ}
theorem fnG_mk (D : FDef K mg x st) (S : FnScope N ps (defScope st)) (hb : BindsAs x st ps) (hn : ps.length = n) (len : ∀ vs H Q, sp vs H Q → vs.length = n)
    (hbody : ∀ (X : Cx) (cdv : Value) (A : Around) (outer : List Env) (s : Shared) (f : Addr) (E : XK) (H : Hp) (vs : List V) (Q : VK), X = (cxOf CX0 P w K mg base N x (defScope st) f cdv A outer s H E).nox → Room k X.A → X.A.guards = some [] → sp vs H Q →
      Run X (defBody st) { nx := fun _ H' => Q .non H', rt := Q } (L2.start N vs) H) : FnG P w K mg base (k + 1) x n sp := by
  obtain ⟨f, fd, F, hm⟩ := D
  obtain ⟨oc, od, dV, kV, doc, pm, an, cdv, ct, osl, rfl, lk, hcd, _, _⟩ := F.ex
  refine ⟨f, _, ps, ⟨fun vs H Q h => by rw [len vs H Q h, hn], ?_⟩, hn, hm, F.kp, F.bindsN hb⟩
  intro A outer s H args us vs Q E hr gd e0 hbd hv hsp
  exact run_ofS lk hcd S hr e0 hbd hv (by rw [len vs H Q hsp, hn]) fun hr' => ⟨_, PSs.nox Run.pss, hbody _ cdv A outer s f E H vs Q rfl hr' gd hsp⟩
end
end Bl

set_option Elab.async false
set_option linter.all false
set_option autoImplicit false
set_option maxRecDepth 100000
set_option maxHeartbeats 4000000
namespace Bl
open PySem PySem.Spec PyProof.Rows L2 LamX StX
theorem range_getD' {α : Type} (l : List α) (d : α) : ((List.range l.length).map fun k => l.getD k d) = l := by
  refine List.ext_getElem (by simp) fun i h1 h2 => ?_
  rw [List.getElem_map, List.getElem_range, List.getD_eq_getElem?_getD, List.getElem?_eq_getElem h2]
  rfl
theorem filt_range {α β : Type} {l : List (List α)} (f : List α → β) (p : List α → Bool) : ((List.range l.length).filter fun k => p (l.getD k [])).map (fun k => f (l.getD k [])) = (l.filter p).map f := by
  conv => rhs; rw [← range_getD' l []]
  rw [List.filter_map, List.map_map]
  rfl
section
variable {P : Program} {w : World} {K : PySem.W.Frag} {mg : Str → Option Value} {base : Heap}
inductive PreLike : List PyData → PyData → Prop
  | mk (d : PyData) : Shows d → PreLike [d, d] (.bool true)
theorem ok_like (M : Md mg) (D : FDef K mg "_law_like" s__law_like) : FnG P w K mg base 1 "_law_like" 2 (spG PreLike) := by
  refine fnG_mk D sc__law_like (fun _ _ _ _ _ _ us hl => match us, hl with | [_, _], _ => rfl) rfl (fun vs H Q ⟨ds, d, r, hp, _⟩ => by cases hp; rw [r.length]; rfl) ?_
  intro X cdv A outer s f E H vs Q hX hr gd ⟨ds, d, r, hp, q⟩
  cases hp with
  | mk d sh =>
    obtain ⟨x, y, rfl, r0, r1⟩ := iss2 r
    subst hX
    have hu := hr.un
    refine run_ret (d := .bool true) (B := H) (Ev.cast (ev_eqS (ev_repr gd (by omega) M.z_repr sh (ev_var 0 rfl r0)) (ev_repr gd (by omega) M.z_repr sh (ev_var 1 rfl r1))) (by simp)) (Ex.refl _) fun v H' k r => q v H' k ?_
    exact r.pure _ _ rfl
inductive PreBestRight : List PyData → PyData → Prop
  | mk (h : Hall) (rg : Bool) : h.Ok → PreBestRight [h.d, wD rg] (.bool true)
theorem topF_best {h : Hall} (rg : Bool) {r : List Int} {rs : List (List Int)} (e : allL h.s h.fs.length = r :: rs) : topF rg false (worstL h rg r) (rs.map (worstL h rg)) = bestW h rg := by
  unfold bestW
  rw [e]
  rfl
theorem ok_best_right (M : Md mg) (D : FDef K mg "_law_best_right" s__law_best_right) (F1 : Fn P w K mg base 1 "_law_limits_of" 1 PreLimitsOf) (F2 : Fn P w K mg base 3 "_law_worst" 3 PreLWorst) (F3 : Fn P w K mg base 2 "_law_top" 3 PreLTop) (F4 : FnG P w K mg base 1 "_law_like" 2 (spG PreLike)) (F5 : Fn P w K mg base 6 "best_nested" 2 PreBestNested)
    (F6 : Fn P w K mg base 6 "nested_worth" 2 PreNestedWorth) (F7 : Fn P w K mg base 1 "_law_plain" 2 PreLPlain) : FnG P w K mg base 7 "_law_best_right" 2 (spG PreBestRight) := by
  refine fnG_mk D sc__law_best_right (fun _ _ _ _ _ _ us hl => match us, hl with | [_, _], _ => rfl) rfl (fun vs H Q ⟨ds, d, r, hp, _⟩ => by cases hp; rw [r.length]; rfl) ?_
  intro X cdv A outer s f E H vs Q hX hr gd ⟨ds, d, r, hp, q⟩
  cases hp with
  | mk h rg o =>
    obtain ⟨x, y, rfl, r0, r1⟩ := iss2 r
    subst hX
    have hN := sc__law_best_right.nd
    have sz := allL_sz o
    obtain ⟨r', rs', eL, _⟩ := bestW_is o rg
    have sall : ∀ ls ∈ allL h.s h.fs.length, Sm (worstL h rg ls) := fun ls hl => worstL_sm o rg (allL_lim o hl)
    refine run_set (B := H) 2 (ev_call (F1.mono (by decide : 1 ≤ 6)) hr (.mk h o) (eva_cons (ev_var 0 rfl r0) eva_nil)) (Ex.refl _) (fun v2 H2 k2 rr => ?_) hN
    have r2 : Is H2 v2 (.list ((allL h.s h.fs.length).map dIs)) := rr.is
    refine run_set (B := H2) 3 (LcJ.ev (lcN (own := [("_law_row", 4)]) (allL h.s h.fs.length) dIs (fun ls => frD (worstL h rg ls)) 4 hN (blkOk_by (N := N__law_best_right) (sc := defScope s__law_best_right) (by decide +kernel)) (evi_list (ev_var 2 rfl r2))
      (fun ls hls v B3 kB iv s0 H0 C cl fp => ev_call (F2.mono (by decide : 3 ≤ 6)) hr (.mk h rg ls o (allL_lim o hls)) (eva_cons (ev_var 0 rfl ((r0.up k2).up kB)) (eva_cons (ev_var 1 rfl ((r1.up k2).up kB)) (eva_cons (ev_var 4 rfl iv) eva_nil)))) (sl_of (by omega)))) (Ex.refl _) (fun v3 H3 k3 rw3 => ?_) hN
    have k23 := k2.trans k3
    have r3 : Is H3 v3 (.list ((worstL h rg r' :: rs'.map (worstL h rg)).map frD)) := by
      have := rw3.is
      rw [eL, List.map_cons] at this
      rw [List.map_cons, List.map_map]
      exact this
    refine run_set (B := H3) 5 (ev_call (F3.mono (by decide : 2 ≤ 6)) hr (.mk rg false (worstL h rg r') (rs'.map (worstL h rg)) (sall r' (by rw [eL]; exact List.mem_cons_self)) fun b hb => ?_) (eva_cons (ev_var 1 rfl (r1.up k23)) (eva_cons (ev_var 3 rfl r3) (eva_cons ev_bool eva_nil)))) (Ex.refl _) (fun v5 H5 k5 r5 => ?_) hN
    · obtain ⟨ls, hls, rfl⟩ := List.mem_map.mp hb
      exact sall ls (by rw [eL]; exact List.mem_cons_of_mem _ hls)
    rw [topF_best rg eL] at r5
    have k25 := k23.trans k5
    have r2' : Is H5 v2 (.list ((allL h.s h.fs.length).map dIs)) := r2.up (k3.trans k5)
    have r3' : Is H5 v3 (.list ((allL h.s h.fs.length).map fun ls => frD (worstL h rg ls))) := rw3.is.up k5
    have hat : ∀ k ∈ List.range (allL h.s h.fs.length).length, (allL h.s h.fs.length)[k]? = some ((allL h.s h.fs.length).getD k []) := fun k hk => by
      have := List.mem_range.mp hk
      rw [List.getD_eq_getElem?_getD, List.getElem?_eq_getElem this]
      rfl
    refine run_set (B := H5) 6 (ev_tupleOf M.z_tuple (LcJ.ev (lcNT (own := [("_law_k", 7)]) (List.range (allL h.s h.fs.length).length) (fun (i : Nat) => .int (i : Int)) (fun k => decide (worstL h rg ((allL h.s h.fs.length).getD k []) = bestW h rg)) (fun k => dIs ((allL h.s h.fs.length).getD k [])) 7 hN (blkOk_by (N := N__law_best_right) (sc := defScope s__law_best_right) (by decide +kernel))
      (EvI.cast (evi_rng1 M.z_range (Ev.cast (ev_lenL M.z_len (ev_var 2 rfl r2')) (by rw [List.length_map])) ⟨by omega, by omega⟩) (rngD_0 _))
      (fun k hk v B3 kB iv s0 H0 C cl fp => evs_one (EvT.cast (evt_eqD hr.units (ev_ixL (ev_var 3 rfl (r3'.up kB)) (ev_var 7 rfl iv) (atI_nat (map_at (fun ls => frD (worstL h rg ls)) (hat k hk)))) (ev_var 5 rfl (r5.is.up kB)) (pl_sh (pl_frD _) (by decide)) (pl_sh (pl_frD _) (by decide))) (eqv_frD _ _)))
      (fun k hk _ v B3 kB iv s0 H0 C cl fp => ev_ixL (ev_var 2 rfl (r2'.up kB)) (ev_var 7 rfl iv) (atI_nat (map_at dIs (hat k hk)))) (sl_of (by rw [List.length_range]; omega))))) (Ex.refl _) (fun v6 H6 k6 r6 => ?_) hN
    rw [filt_range dIs (fun ls => decide (worstL h rg ls = bestW h rg))] at r6
    have r6' := r6.is
    have k26 := k25.trans k6
    have sdue : sd 59 (.tuple (((allL h.s h.fs.length).filter fun ls => decide (worstL h rg ls = bestW h rg)).map dIs)) = true := sd_rows (n := 57) fun r hr x hx => lim_sm o (allL_lim o ((List.mem_filter.mp hr).1)) x hx
    have cdue : cnt (.tuple (((allL h.s h.fs.length).filter fun ls => decide (worstL h rg ls = bestW h rg)).map dIs)) ≤ 12006 := by
      have h1 := cnts_le (b := 5) (ds := ((allL h.s h.fs.length).filter fun ls => decide (worstL h rg ls = bestW h rg)).map dIs) fun d hd => by
        obtain ⟨r, hr, rfl⟩ := List.mem_map.mp hd
        have := (allL_lim o ((List.mem_filter.mp hr).1)).len
        have := o.n4
        rw [cnt_dIs]; omega
      rw [List.length_map] at h1
      have h2 := List.length_filter_le (fun ls => decide (worstL h rg ls = bestW h rg)) (allL h.s h.fs.length)
      show 1 + cnts _ ≤ _
      omega
    generalize hdue : PyData.tuple (((allL h.s h.fs.length).filter fun ls => decide (worstL h rg ls = bestW h rg)).map dIs) = due at r6' sdue cdue
    have shows : Shows (.list [due, due]) := shows_of (by show (sd 59 due && (sd 59 due && true)) = true; rw [sdue]; rfl) (by show 1 + (cnt due + (cnt due + 0)) ≤ 90000; omega) fun z => nomatch z
    refine run_ifF (B := H6) (EvT.cast (evt_not (evt_val (ev_callG (F4.mono (by decide : 1 ≤ 6)) hr gd (.mk _ shows) (eva_cons (LcJ.ev (LcJ.cast (lcN (own := [("_law_twice", 8)]) (List.range 2) (fun (i : Nat) => .int (i : Int)) (fun _ => due) 8 hN (blkOk_by (N := N__law_best_right) (sc := defScope s__law_best_right) (by decide +kernel)) (EvI.cast (evi_rng1 M.z_range ev_int ⟨by decide, by decide⟩) (rngD_0 2))
      (fun i hi v B3 kB iv s0 H0 C cl fp => Ev.cast (ev_call F5 hr (.mk h rg o) (eva_cons (ev_var 0 rfl ((r0.up k26).up kB)) (eva_cons (ev_var 1 rfl ((r1.up k26).up kB)) eva_nil))) hdue) (sl_of (by decide))) rfl)) (eva_cons (ev_lst (eva_cons (ev_var 6 rfl r6') (eva_cons (ev_var 6 rfl r6') eva_nil))) eva_nil))))) rfl) (Ex.refl _) fun H7 k7 => ?_
    have k27 := k26.trans k7
    have fs := bestW_fs o rg
    have shows2 : Shows (plainD rg (bestW h rg)) := shows_of (sd_plainD (n := 59) fs.1 fs.2) (by have := cnt_plainD rg (bestW h rg); omega) (by cases rg <;> exact fun z => nomatch z)
    exact run_ret (B := H7) (ev_callG (F4.mono (by decide : 1 ≤ 6)) hr gd (.mk _ shows2) (eva_cons (ev_call F6 hr (.mk h rg o) (eva_cons (ev_var 0 rfl (r0.up k27)) (eva_cons (ev_var 1 rfl (r1.up k27)) eva_nil))) (eva_cons (ev_call (F7.mono (by decide : 1 ≤ 6)) hr (.mk rg _) (eva_cons (ev_var 1 rfl (r1.up k27)) (eva_cons (ev_var 5 rfl (r5.is.up (k6.trans k7))) eva_nil))) eva_nil))) (Ex.refl _) fun v8 H8 k8 r8 => q v8 H8 (k27.trans k8) (r8.pure _ _ rfl)
end
end Bl

set_option Elab.async false
set_option linter.all false
set_option autoImplicit false
set_option maxRecDepth 100000
set_option maxHeartbeats 4000000
namespace Bl
open PySem PySem.Spec PyProof.Rows L2 LamX StX
theorem find_filter {α : Type} (p : α → Bool) : ∀ l : List α, l.find? p = (l.filter p).head?
  | [] => rfl
  | x :: l => by
    rw [List.find?_cons, List.filter_cons]
    cases p x with
    | true => rfl
    | false => exact find_filter p l
section
variable {P : Program} {w : World} {K : PySem.W.Frag} {mg : Str → Option Value} {base : Heap}
inductive PreOneRight : List PyData → PyData → Prop
  | mk (h : Hall) (rg : Bool) (ls : List Int) : h.Ok → LimOk h ls → PreOneRight [h.d, wD rg, dIs ls] (.bool true)
theorem ok_one_right (M : Md mg) (D : FDef K mg "_law_one_right" s__law_one_right) (F1 : Fn P w K mg base 3 "_law_worst" 3 PreLWorst) (F2 : Fn P w K mg base 1 "_law_limits_of" 1 PreLimitsOf) (F3 : Fn P w K mg base 1 "_law_is_worse" 3 PreLIsWorse) (F4 : Fn P w K mg base 1 "_law_plain" 2 PreLPlain) (F5 : Fn P w K mg base 2 "_law_up_to" 4 PreUpTo)
    (F6 : Fn P w K mg base 7 "worst_nested" 3 PreWorstNested) (F7 : Fn P w K mg base 7 "worst_fares" 3 PreWorstFares) (F8 : Fn P w K mg base 7 "better_nested" 3 PreBetterNested) (F9 : FnG P w K mg base 1 "_law_like" 2 (spG PreLike)) : FnG P w K mg base 8 "_law_one_right" 3 (spG PreOneRight) := by
  refine fnG_mk D sc__law_one_right (fun _ _ _ _ _ _ us hl => match us, hl with | [_, _, _], _ => rfl) rfl (fun vs H Q ⟨ds, d, r, hp, _⟩ => by cases hp; rw [r.length]; rfl) ?_
  intro X cdv A outer s f E H vs Q hX hr gd ⟨ds, d, r, hp, q⟩
  cases hp with
  | mk h rg ls o l =>
    obtain ⟨x, y, z, rfl, r0', r1', r2'⟩ := iss3 r
    subst hX
    have hN := sc__law_one_right.nd
    have sz := allL_sz o
    have n4 := o.n4
    have ll := l.len
    have r0 : Is (Fz H) x h.d := r0'.fz (nol_hall h)
    have r1 : Is (Fz H) y (wD rg) := r1'.fz rfl
    have r2 : Is (Fz H) z (dIs ls) := r2'.fz (nol_dIs ls)
    refine run_asg2 (B := Fz H) 3 4 (ev_tup (eva_cons (ev_call (F1.mono (by decide : 3 ≤ 7)) hr (.mk h rg ls o l) (eva_cons (ev_var 0 rfl r0) (eva_cons (ev_var 1 rfl r1) (eva_cons (ev_var 2 rfl r2) eva_nil)))) (eva_cons (ev_lst eva_nil) eva_nil))) fz_ex (fun v3 v4 H1 k1 rv3 rv4 => ?_) hN
    have rf4 := rv4.fresh k1
    cases rf4 with
    | lst g0 h0 rs =>
      cases rs
      rename_i p
      have hp : H p = none := g0
      have u0 : ∀ {H' : Hp} {v : V} {d : PyData}, Ex H H' → Is (Fz H) v d → Is H' v d := fun e r => r.up (fz_ex.trans e)
      have r3 : Rp (fun _ => False) H1 v3 (frD (worstL h rg ls)) := rv3.pure _ _ rfl
      refine run_forN (B := Fz H) 5 (evi_list (ev_call (F2.mono (by decide : 1 ≤ 7)) hr (.mk h o) (eva_cons (ev_var 0 rfl r0) eva_nil))) (fz_ex.trans k1) (fun B2 H2 k2 kB2 k22 gB => ?_) hN
      have pF : Fz H p = none := by
        cases e : Fz H p with
        | none => rfl
        | some u => rw [(rs_some e).1] at hp; cases hp
      have pB2 : B2 p = none := not_in2 gB k22 (k2.lst h0) trivial (fun ps z => nomatch z) pF ⟨_, h0⟩
      refine ⟨fun i σ' H' => Ex H H' ∧ Ex B2 H' ∧ ∃ u5 u6, σ' = [some x, some y, some z, some v3, some (.ref p), u5, u6, none, none, none, none] ∧ Rp (fun _ => False) H' v3 (frD (worstL h rg ls)) ∧ ∃ acc, H' p = some (.lst acc) ∧ Rps (fun _ => False) H' acc ((((allL h.s h.fs.length).take i).filter fun o => decide (unlike ls o = 1) && isW rg (worstL h rg ls) (worstL h rg o)).map dIs),
        ⟨k1.trans k2, k22, none, none, rfl, r3.mono (fun _ z => z) k2, [], k2.lst h0, .nil⟩, fun i σ' H' t => t.2.1, ?_, ?_⟩
      · rintro i d vv σ' Ha Hb hd ⟨ea, eb, u5, u6, rfl, ra3, acc, hpa, racc⟩ kab rvv
        rw [List.getElem?_map] at hd
        cases ho : (allL h.s h.fs.length)[i]? with
        | none => rw [ho] at hd; cases hd
        | some ot =>
          rw [ho] at hd
          have ed := Option.some.inj hd
          subst ed
          have lo := allL_lim o (List.mem_of_getElem? ho)
          have eHb := ea.trans kab
          have hpb := kab.lst hpa
          have q0 : Is Hb x h.d := u0 eHb r0
          have q1 : Is Hb y (wD rg) := u0 eHb r1
          have q2 : Is Hb z (dIs ls) := u0 eHb r2
          have q3 : Is Hb v3 (frD (worstL h rg ls)) := (ra3.mono (fun _ z => z) kab).is
          have q5 : Is Hb vv (dIs ot) := rvv.is
          have hot := lo.len
          refine run_setLc (B := Hb) 6 (lcNT (own := [("_law_k", 7)]) (List.range ot.length) (fun (i : Nat) => .int (i : Int)) (fun k => !decide (ot.getD k 0 = ls.getD k 0)) (fun (i : Nat) => .int (i : Int)) 7 hN (blkOk_by (N := N__law_one_right) (sc := defScope s__law_one_right) (by decide +kernel))
            (EvI.cast (evi_rng1 M.z_range (ev_len M.z_len (ev_var 5 rfl q5)) ⟨by omega, by omega⟩) (rngD_0 _))
            (fun k hk v B3 kB iv s0 H0 C cl fp => by
              have hk' := List.mem_range.mp hk
              exact evs_one (evt_neI (ev_at (ev_var 5 rfl (q5.up kB)) (ev_var 7 rfl iv) (at_gD hk')) (ev_at (ev_var 2 rfl (q2.up kB)) (ev_var 7 rfl iv) (at_gD (by omega)))))
            (fun k hk _ v B3 kB iv s0 H0 C cl fp => ev_var 7 rfl iv) (sl_of (by rw [List.length_range]; omega))) (Ex.refl _) (fun v6 Hc kc r6 => ?_)
          refine run_if (B := Hc) (t := decide (unlike ls ot = 1) && isW rg (worstL h rg ls) (worstL h rg ot)) (evt_and2 (EvT.cast (evt_eqI (ev_lenL M.z_len (ev_var 6 rfl r6)) ev_int) ?_) fun _ => evt_val (ev_call (F3.mono (by decide : 1 ≤ 7)) hr (.mk rg (worstL h rg ls) (worstL h rg ot) (worstL_sm o rg l) (worstL_sm o rg lo)) (eva_cons (ev_var 1 rfl (q1.up kc)) (eva_cons (ev_var 3 rfl (q3.up kc))
            (eva_cons (ev_call (F1.mono (by decide : 3 ≤ 7)) hr (.mk h rg ot o lo) (eva_cons (ev_var 0 rfl (q0.up kc)) (eva_cons (ev_var 1 rfl (q1.up kc)) (eva_cons (ev_var 5 rfl (q5.up kc)) eva_nil)))) eva_nil))))) (Ex.refl _) (fun t Hd kd => ?_) fun t Hd kd => ?_
          · rw [List.length_map]
            unfold unlike
            rw [hot, ll]
            simp only [decide_eq_decide]
            omega
          · have kad := kab.trans (kc.trans kd)
            have hpd := kad.lst hpa
            have rad := racc.mono (fun _ z => z) kad
            refine run_app (B := Hd) 4 rfl hpd (ev_var 5 rfl (q5.up (kc.trans kd))) (Ex.refl _) (sl_of ?_) fun v9 He ke r9 => ?_
            · have h1 := racc.length
              have h2 := List.length_filter_le (fun o => decide (unlike ls o = 1) && isW rg (worstL h rg ls) (worstL h rg o)) ((allL h.s h.fs.length).take i)
              rw [List.length_map] at h1
              rw [List.length_take] at h2
              omega
            · have hpe := ke.lst hpd
              have r9' : Rp (fun _ => False) He v9 (dIs ot) := r9.pure _ _ (nol_dIs ot)
              refine run_nil (run_nil ⟨(ea.trans (kad.trans ke)).mut hp hpe trivial, (eb.trans (kad.trans ke)).mut pB2 hpe trivial, _, _, rfl, (ra3.mono (fun _ z => z) (kad.trans ke)).updp hpe trivial fun z => z, _, upd_same, ?_⟩)
              rw [List.take_add_one, ho, Option.toList_some, List.filter_append, List.filter_cons, if_pos t, List.filter_nil, List.map_append]
              exact ((rad.mono (fun _ z => z) ke).snoc r9').updp hpe trivial fun z => z
          · have kad := kab.trans (kc.trans kd)
            refine run_nil (run_nil ⟨ea.trans kad, eb.trans kad, _, _, rfl, ra3.mono (fun _ z => z) kad, acc, kad.lst hpa, ?_⟩)
            rw [List.take_add_one, ho, Option.toList_some, List.filter_append, List.filter_cons, if_neg (by rw [t]; decide), List.filter_nil, List.append_nil]
            exact racc.mono (fun _ z => z) kad
      · rintro σ' Ha ⟨ea, eb, u5, u6, rfl, ra3, acc, hpa, racc⟩
        rw [List.length_map, List.take_of_length_le (Nat.le_refl _)] at racc
        have q0 : Is Ha x h.d := u0 ea r0
        have q1 : Is Ha y (wD rg) := u0 ea r1
        have q2 : Is Ha z (dIs ls) := u0 ea r2
        have f0 : Is (Fz Ha) x h.d := q0.fz (nol_hall h)
        have f1 : Is (Fz Ha) y (wD rg) := q1.fz rfl
        have f2 : Is (Fz Ha) z (dIs ls) := q2.fz (nol_dIs ls)
        have f3 : Is (Fz Ha) v3 (frD (worstL h rg ls)) := ra3.fz rfl
        refine run_set (B := Fz Ha) 8 (ev_lst (eva_cons (ev_call (F4.mono (by decide : 1 ≤ 7)) hr (.mk rg (worstL h rg ls)) (eva_cons (ev_var 1 rfl f1) (eva_cons (ev_var 3 rfl f3) eva_nil))) (eva_cons (ev_tupleOf M.z_tuple (LcJ.ev (lcNT (own := [("_law_k", 7)]) (List.range ls.length) (fun (i : Nat) => .int (i : Int)) (fun k => decide (worthTo h rg ls k = worstL h rg ls)) (fun (i : Nat) => .int (i : Int)) 7 hN (blkOk_by (N := N__law_one_right) (sc := defScope s__law_one_right) (by decide +kernel))
          (EvI.cast (evi_rng1 M.z_range (ev_len M.z_len (ev_var 2 rfl f2)) ⟨by omega, by omega⟩) (rngD_0 _))
          (fun k hk v B3 kB iv s0 H0 C cl fp => evs_one (EvT.cast (evt_eqD hr.units (ev_call (F5.mono (by decide : 2 ≤ 7)) hr (.mk h rg ls k o l (List.mem_range.mp hk)) (eva_cons (ev_var 0 rfl (f0.up kB)) (eva_cons (ev_var 1 rfl (f1.up kB)) (eva_cons (ev_var 2 rfl (f2.up kB)) (eva_cons (ev_var 7 rfl iv) eva_nil))))) (ev_var 3 rfl (f3.up kB)) (pl_sh (pl_frD _) (by decide)) (pl_sh (pl_frD _) (by decide))) (eqv_frD _ _)))
          (fun k hk _ v B3 kB iv s0 H0 C cl fp => ev_var 7 rfl iv) (sl_of (by rw [List.length_range]; omega))))) eva_nil))) fz_ex (fun v8 Hb kb r8 => ?_) hN
        have rf8 := r8.fresh kb
        cases rf8 with
        | lst g8 h8 rs8 =>
          rename_i p2 ws8
          have hp2a : Ha p2 = none := g8
          have hp2 : H p2 = none := ea.free hp2a
          have npp : p2 ≠ p := fun e => by rw [e, hpa] at hp2a; cases hp2a
          have rs8' : Rps (fun _ => False) Hb ws8 [plainD rg (worstL h rg ls), .tuple (((List.range ls.length).filter fun k => decide (worthTo h rg ls k = worstL h rg ls)).map fun (i : Nat) => .int (i : Int))] := rs8.pure _ _ (by
            simp only [nols, plainD_nol, nol, nols_map (f := fun (i : Nat) => PyData.int (i : Int)) (fun _ => rfl), Bool.and_self])
          have eHb := ea.trans kb
          have rl : Is Hb (.ref p) (.list ((((allL h.s h.fs.length)).filter fun o => decide (unlike ls o = 1) && isW rg (worstL h rg ls) (worstL h rg o)).map dIs)) := .lst trivial (kb.lst hpa) ((racc.mono (fun _ z => z) kb).is)
          refine run_app (B := Hb) (d := optD (betterN h rg ls)) 8 rfl h8 (ev_if (t := !decide ((allL h.s h.fs.length).filter (fun o => decide (unlike ls o = 1) && isW rg (worstL h rg ls) (worstL h rg o)) = [])) (EvT.cast (evt_neD hr.units (ev_var 4 rfl rl) (ev_lst eva_nil) (pl_sh (n := 2) (pls_map pl_dIs _) (by decide)) (by decide +kernel)) ?_) (fun e => ?_) fun e => ?_) (Ex.refl _) (sl_of (by rw [rs8'.length]; simp)) fun v10 Hc kc r10 => ?_
          · generalize (allL h.s h.fs.length).filter (fun o => decide (unlike ls o = 1) && isW rg (worstL h rg ls) (worstL h rg o)) = fl
            cases fl <;> rfl
          · have eb : betterN h rg ls = ((allL h.s h.fs.length).filter fun o => decide (unlike ls o = 1) && isW rg (worstL h rg ls) (worstL h rg o)).head? := find_filter _ _
            rw [eb]
            generalize (allL h.s h.fs.length).filter (fun o => decide (unlike ls o = 1) && isW rg (worstL h rg ls) (worstL h rg o)) = fl at e rl
            cases fl with
            | nil => simp at e
            | cons a b => exact ev_ixL (ev_var 4 rfl rl) ev_int (atI_nat (n := 0) rfl)
          · have eb : betterN h rg ls = ((allL h.s h.fs.length).filter fun o => decide (unlike ls o = 1) && isW rg (worstL h rg ls) (worstL h rg o)).head? := find_filter _ _
            rw [eb]
            generalize (allL h.s h.fs.length).filter (fun o => decide (unlike ls o = 1) && isW rg (worstL h rg ls) (worstL h rg o)) = fl at e rl
            cases fl with
            | nil => exact ev_none
            | cons a b => simp at e
          · have hc8 := kc.lst h8
            have eD : Ex H (upd Hc p2 (.lst (ws8 ++ [v10]))) := (eHb.trans kc).mut hp2 hc8 trivial
            have r10' : Rp (fun _ => False) Hc v10 (optD (betterN h rg ls)) := r10.pure _ _ (optD_nol _)
            have rd : Rps (fun _ => False) (upd Hc p2 (.lst (ws8 ++ [v10]))) (ws8 ++ [v10]) ([plainD rg (worstL h rg ls), .tuple (((List.range ls.length).filter fun k => decide (worthTo h rg ls k = worstL h rg ls)).map fun (i : Nat) => .int (i : Int))] ++ [optD (betterN h rg ls)]) := ((rs8'.mono (fun _ z => z) kc).snoc r10').updp hc8 trivial fun z => z
            have rdue : Is (upd Hc p2 (.lst (ws8 ++ [v10]))) (.ref p2) (.list [plainD rg (worstL h rg ls), .tuple (((List.range ls.length).filter fun k => decide (worthTo h rg ls k = worstL h rg ls)).map fun (i : Nat) => .int (i : Int)), optD (betterN h rg ls)]) := .lst trivial upd_same rd.is
            generalize upd Hc p2 (.lst (ws8 ++ [v10])) = Hd at eD rdue
            have fs := worstL_fs o rg l
            have bo : ∀ l', betterN h rg ls = some l' → LimOk h l' := fun l' e => allL_lim o (List.mem_of_find?_eq_some e)
            have shows : Shows (.list [plainD rg (worstL h rg ls), .tuple (((List.range ls.length).filter fun k => decide (worthTo h rg ls k = worstL h rg ls)).map fun (i : Nat) => .int (i : Int)), optD (betterN h rg ls)]) := by
              refine shows_of ?_ ?_ fun z => nomatch z
              · show (sd 59 (plainD rg (worstL h rg ls)) && (sd 59 (.tuple _) && (sd 59 (optD (betterN h rg ls)) && true))) = true
                rw [sd_plainD (n := 58) fs.1 fs.2]
                have a2 : sd 59 (.tuple (((List.range ls.length).filter fun k => decide (worthTo h rg ls k = worstL h rg ls)).map fun (i : Nat) => .int (i : Int))) = true := sds_all (n := 58) fun d hd => by
                  obtain ⟨i, hi, rfl⟩ := List.mem_map.mp hd
                  have := List.mem_range.mp (List.mem_filter.mp hi).1
                  exact sd_int ⟨by omega, by omega⟩
                rw [a2]
                cases eb : betterN h rg ls with
                | none => rfl
                | some l' =>
                  have a3 : sd 59 (dIs l') = true := sd_dIs (n := 58) (lim_sm o (bo l' eb))
                  show (true && (true && (sd 59 (dIs l') && true))) = true
                  rw [a3]; rfl
              · have c1 := cnt_plainD rg (worstL h rg ls)
                have c2 : cnts (((List.range ls.length).filter fun k => decide (worthTo h rg ls k = worstL h rg ls)).map fun (i : Nat) => PyData.int (i : Int)) ≤ 1 * (((List.range ls.length).filter fun k => decide (worthTo h rg ls k = worstL h rg ls)).map fun (i : Nat) => PyData.int (i : Int)).length := cnts_le fun d hd => by
                  obtain ⟨i, hi, rfl⟩ := List.mem_map.mp hd
                  exact Nat.le_refl 1
                have c3 := List.length_filter_le (fun k => decide (worthTo h rg ls k = worstL h rg ls)) (List.range ls.length)
                rw [List.length_map] at c2
                rw [List.length_range] at c3
                have c4 : cnt (optD (betterN h rg ls)) ≤ 10 := by
                  cases eb : betterN h rg ls with
                  | none => show 1 ≤ 10; decide
                  | some l' =>
                    show cnt (dIs l') ≤ 10
                    rw [cnt_dIs, (bo l' eb).len]; omega
                show 1 + (cnt (plainD rg (worstL h rg ls)) + ((1 + cnts _) + (cnt (optD (betterN h rg ls)) + 0))) ≤ 90000
                omega
            generalize hdue : PyData.list [plainD rg (worstL h rg ls), .tuple (((List.range ls.length).filter fun k => decide (worthTo h rg ls k = worstL h rg ls)).map fun (i : Nat) => .int (i : Int)), optD (betterN h rg ls)] = due at rdue shows
            refine run_forN (B := Hd) 9 (EvI.cast (evi_rng1 M.z_range ev_int ⟨by decide, by decide⟩) (rngD_0 2)) (Ex.refl _) (fun B3 H3 k3 kB3 k33 gB3 => ?_) hN
            refine ⟨fun i σ' H' => Ex Hd H' ∧ Ex B3 H' ∧ ∃ u9 u10, σ' = [some x, some y, some z, some v3, some (.ref p), u5, u6, none, some (.ref p2), u9, u10], ⟨k3, k33, none, none, rfl⟩, fun i σ' H' t => t.2.1, ?_, ?_⟩
            · rintro i d vv σ' He Hf hd ⟨e1, e2, u9, u10, rfl⟩ kef rvv
              have eF := eD.trans (e1.trans kef)
              have s0 : Is Hf x h.d := u0 eF r0
              have s1 : Is Hf y (wD rg) := u0 eF r1
              have s2 : Is Hf z (dIs ls) := u0 eF r2
              refine run_set (B := Hf) (d := due) 10 (Ev.cast (ev_lst (eva_cons (ev_call F6 hr (.mk h rg ls o l) (eva_cons (ev_var 0 rfl s0) (eva_cons (ev_var 1 rfl s1) (eva_cons (ev_var 2 rfl s2) eva_nil)))) (eva_cons (ev_call F7 hr (.mk h rg ls o l) (eva_cons (ev_var 0 rfl s0) (eva_cons (ev_var 1 rfl s1) (eva_cons (ev_var 2 rfl s2) eva_nil))))
                (eva_cons (ev_call F8 hr (.mk h rg ls o l) (eva_cons (ev_var 0 rfl s0) (eva_cons (ev_var 1 rfl s1) (eva_cons (ev_var 2 rfl s2) eva_nil)))) eva_nil)))) hdue) (Ex.refl _) (fun v11 Hg kg r11 => ?_) hN
              refine run_ifF (B := Hg) (EvT.cast (evt_not (evt_val (ev_callG (F9.mono (by decide : 1 ≤ 7)) hr gd (.mk due shows) (eva_cons (ev_var 10 rfl r11) (eva_cons (ev_var 8 rfl (rdue.up (e1.trans (kef.trans kg)))) eva_nil))))) rfl) (Ex.refl _) fun Hh kh => ?_
              exact run_nil ⟨e1.trans (kef.trans (kg.trans kh)), e2.trans (kef.trans (kg.trans kh)), _, _, rfl⟩
            · rintro σ' He ⟨e1, e2, u9, u10, rfl⟩
              exact run_ret (B := He) ev_bool (Ex.refl _) fun v12 Hf kf r12 => q v12 Hf (eD.trans (e1.trans kf)) (r12.pure _ _ rfl)
end
end Bl

set_option Elab.async false
set_option linter.all false
set_option autoImplicit false
set_option maxRecDepth 100000
set_option maxHeartbeats 2000000
namespace Bl
open PySem PySem.Spec PyProof.Rows L2 LamX StX
/-! ### a lambda with one parameter -/
/-- its function object, told -/
def LamFn (X : Cx) (f : Addr) (params : Arguments) (body : Expr) (scope : Scope) (c' : Addr) : HO :=
  .ext fun h => ∃ pm ctv, h.get? f = some (PySem.W.kla_obj "<lambda>" (X.env.qual ++ "<lambda>") params body scope (cloFrom X.env.cells scope.names []) pm c' ctv)
structure LamP (sc scope : Scope) (y : Str) : Prop where
  kind : scope.kind = .function
  co : scope.isCoroutine = false
  gen : scope.isGenerator = false
  nocell : ∀ z ∈ scope.names, z.2 ≠ .cell
  own : ∀ z ∈ scope.names, z.2 = .local → z.1 = y
  par : scope.names.lookup y = some .local
  free : ∀ z ∈ scope.names, z.2 = .free → sc.names.lookup z.1 = some .cell ∨ sc.names.lookup z.1 = some .free
theorem LamP.has {X : Cx} {scope : Scope} {y : Str} (L : LamP X.env.scope scope y) (ok : X.Ok) : ∀ z ∈ scope.names, z.2 = .free → ∃ c, X.env.cells.lookup z.1 = some c := fun z hz e => (L.free z hz e).elim (fun k => ok.has _ (.inl k)) fun k => ok.has _ (.inr k)
theorem woT_ex {B H : Hp} {p : Addr} {ps : Array Value} (e : Ex B H) (hp : B p = none) (hm : H p = some (.tbl ps)) : Ex B (Wo p H) where
  keep := fun b x h n => by
    rw [wo_ne (ne_of_none h hp)]
    exact e.keep b x h n
  tbl := fun b x h => by
    rw [wo_ne (ne_of_none h hp)]
    exact e.tbl b x h
  tabs := fun P q t => by
    obtain ⟨qs, h0, _, _⟩ := id t
    have hne := ne_of_none h0 hp
    obtain ⟨rs, h1, h2, h3⟩ := e.tabs P q t
    refine ⟨rs, by rw [wo_ne hne]; exact h1, h2, fun pos cv hc => ?_⟩
    obtain ⟨c, e1, e2⟩ := h3 pos cv hc
    refine ⟨c, e1, ?_⟩
    rw [wo_ne (ne_of e2 hm (codeO_ne ps))]
    exact e2
section
variable {X : Cx} {σ : L2.St} {H : Hp}
def tLamP (X : Cx) (P : Addr) (params : Arguments) (body : Expr) (scope : Scope) : TE := fun _ H Q => TabS H P (X.env.qual ++ "<lambda>") ∧
  ∀ (f c' : Addr) (H1 : Hp), Ex (Wo P H) H1 → TabS H1 P (X.env.qual ++ "<lambda>") → H f = none → f ≠ P → H1 f = some (LamFn X f params body scope c') → H1 c' = some (CodeO c' (X.env.qual ++ "<lambda>")) → Q (.ref f) H1
theorem lamfn_ok {P : Program} {w : World} {H1 : Hp} {h : Heap} {f c' : Addr} {params : Arguments} {body : Expr} {scope : Scope} {pm ctv : Value}
    (e : h.get? f = some (PySem.W.kla_obj "<lambda>" (X.env.qual ++ "<lambda>") params body scope (cloFrom X.env.cells scope.names []) pm c' ctv)) : ObjOk P w H1 h f (LamFn X f params body scope c') :=
  ⟨⟨pm, ctv, e⟩, ⟨_, e⟩, fun h1 h2 ⟨pm', ctv', z⟩ k => ⟨pm', ctv', k _ z⟩⟩
theorem pe_lamG {c P : Addr} {params : Arguments} {body : Expr} {scope : Scope} {pos : Pos} (TB : TabB X.base X.mg c P) (hcode : X.env.code = .ref c) (hfree : X.Ok → ∀ z ∈ scope.names, z.2 = .free → ∃ c, X.env.cells.lookup z.1 = some c) (hdef : defaultsOf params X.env = ([], [])) : PE X (.Lambda params body scope pos) (tLamP X P params body scope) := by
  constructor
  intro pins s σ H Q I tq
  obtain ⟨tb, q⟩ := tq
  obtain ⟨ps, hP, tri, ent⟩ := id tb
  have obP : s.heap.get? P = some { cls := .none, data := .fields ps } := I.hok P _ hP
  have bltP : s.heap.BuiltinsAt X.mg P := TB.bm.keeps I.bk
  have capt := closure_ok (hfree I.ok)
  refine PySem.W.kla_eval hdef ?_
  rcases hfound : codeAmong pos ps.toList with _ | cv
  · refine PySem.W.kla_makeFunction (mg := X.mg) (P := P) (ps := ps) capt I.ok.glob (I.mod.glob.keeps I.bk) hcode (TB.code.keeps I.bk) obP tri hfound TB.gP bltP ?_
    intro c' ctv g tk grown above below rec tab
    obtain ⟨c0, oc, vs, t, ec, hoc, hod, hov⟩ := rec
    cases ec
    have freshC : H c' = none := I.hok.fresh above
    have hPc : P ≠ c' := ne_of_none hP freshC
    have J := inv_table (t' := tk) (more := #[rawInt pos.line, rawInt pos.col, .ref c']) (h' := g) I hP (fun b o hb e => grown b o hb e) tab above ⟨oc, vs, t, hoc, hod, hov⟩
    have szg : s.heap.objs.size ≤ g.objs.size := Nat.le_of_lt (Nat.lt_of_le_of_lt above below)
    have freshF : H g.objs.size = none := I.hok.fresh szg
    have fP : g.objs.size ≠ P := (ne_of_none hP freshF).symm
    have fc : g.objs.size ≠ c' := Nat.ne_of_gt below
    have J2 := J.laid (t' := tk) (a := g.objs.size) (o := LamFn X g.objs.size params body scope c') (h' := g.push (PySem.W.kla_obj "<lambda>" (X.env.qual ++ "<lambda>") params body scope (cloFrom X.env.cells scope.names []) ((X.mg "__name__").getD .none) c' ctv)) (fun b u e => Heap.get?_push_of_some _ e) (Nat.le_refl _) (lamfn_ok (Heap.get?_push_size _ rfl))
    have others : ∀ b o, H b = some o → b ≠ P → upd (upd (upd H P (.tbl (ps ++ #[rawInt pos.line, rawInt pos.col, .ref c']))) c' (CodeO c' (X.env.qual ++ "<lambda>"))) g.objs.size (LamFn X g.objs.size params body scope c') b = some o := fun b o e nb => by
      rw [upd_ne (ne_of_none e freshF), upd_ne (ne_of_none e freshC), upd_ne nb]
      exact e
    have atC : upd (upd (upd H P (.tbl (ps ++ #[rawInt pos.line, rawInt pos.col, .ref c']))) c' (CodeO c' (X.env.qual ++ "<lambda>"))) g.objs.size (LamFn X g.objs.size params body scope c') c' = some (CodeO c' (X.env.qual ++ "<lambda>")) := by
      rw [upd_ne (Ne.symm fc), upd_same]
    have atP : upd (upd (upd H P (.tbl (ps ++ #[rawInt pos.line, rawInt pos.col, .ref c']))) c' (CodeO c' (X.env.qual ++ "<lambda>"))) g.objs.size (LamFn X g.objs.size params body scope c') P = some (.tbl (ps ++ #[rawInt pos.line, rawInt pos.col, .ref c'])) := by
      rw [upd_ne (Ne.symm fP), upd_ne hPc, upd_same]
    have lst : (ps ++ #[rawInt pos.line, rawInt pos.col, .ref c']).toList = ps.toList ++ [rawInt pos.line, rawInt pos.col, .ref c'] := by simp
    refine ⟨.ref g.objs.size, _, J2, rfl, q g.objs.size c' _ (.all fun b o e => others b o (wo_some e).2 (wo_some e).1) ⟨_, atP, by rw [lst]; exact PySem.TriplesOk_snoc _ _ _ _ tri, fun pos' cv' hcv => ?_⟩ freshF fP upd_same atC⟩
    rw [lst] at hcv
    rcases among_app _ tri hcv with z | z
    · obtain ⟨cc, e1, e2⟩ := ent pos' cv' z
      exact ⟨cc, e1, others _ _ e2 (ne_of e2 hP (codeO_ne ps))⟩
    · exact ⟨c', z, atC⟩
  · obtain ⟨c', ec, hco⟩ := ent pos cv hfound
    subst ec
    refine PySem.W.kla_makeFunctionHit (mg := X.mg) (P := P) (ps := ps) capt I.ok.glob (I.mod.glob.keeps I.bk) hcode (TB.code.keeps I.bk) obP tri hfound bltP ?_
    intro ctv g tk grown szg
    have freshF : H g.objs.size = none := I.hok.fresh szg
    have J2 := I.laid (t' := tk) (a := g.objs.size) (o := LamFn X g.objs.size params body scope c') (h' := g.push (PySem.W.kla_obj "<lambda>" (X.env.qual ++ "<lambda>") params body scope (cloFrom X.env.cells scope.names []) ((X.mg "__name__").getD .none) c' ctv)) (fun b u e => Heap.get?_push_of_some _ (grown b u e)) szg (lamfn_ok (Heap.get?_push_size _ rfl))
    have new := Ex.new (o := LamFn X g.objs.size params body scope c') freshF
    exact ⟨.ref g.objs.size, _, J2, rfl, q g.objs.size c' _ (wo_ex.trans new) (new.tabs _ _ tb) freshF (ne_of_none hP freshF).symm upd_same (by rw [upd_ne (ne_of_none hco freshF)]; exact hco)⟩
theorem pe_lamP {c P : Addr} {params : Arguments} {body : Expr} {scope : Scope} {pos : Pos} {y : Str} (TB : TabB X.base X.mg c P) (hcode : X.env.code = .ref c) (L : LamP X.env.scope scope y) (hdef : defaultsOf params X.env = ([], [])) : PE X (.Lambda params body scope pos) (tLamP X P params body scope) := pe_lamG TB hcode (fun ok => L.has ok) hdef
end
end Bl

set_option Elab.async false
set_option linter.all false
set_option autoImplicit false
set_option maxRecDepth 100000
set_option maxHeartbeats 2000000
namespace Bl
open PySem PySem.Spec PyProof.Rows L2 LamX StX
/-- the context of the body of a lambda that is called from X under A -/
def lamCx1 (X : Cx) (A : Around) (s : Shared) (H : Hp) (scope : Scope) (f c' : Addr) : Cx where
  prog := X.prog
  w := X.w
  K := X.K
  mg := X.mg
  base := X.base
  A := A.deeper (lamEnv X scope s.heap.objs.size f c')
  N := X.N
  s_0 := s
  H_0 := H
  env := lamEnv X scope s.heap.objs.size f c'
  outer := X.stack
  stack := lamEnv X scope s.heap.objs.size f c' :: X.stack
  ex := []
  fn := fun _ => false
  calm := true
  pn := []
  xe := fun _ _ => False
section
variable {X : Cx} {pins : List (Addr × Obj)} {σ : L2.St} {H : Hp} {s : Shared}
theorem lam_start1 {A : Around} {scope : Scope} {y : Str} {j : Nat} {f c' : Addr} {g : Heap} {tk : Nat} {v : V} {u : Value} (I : Inv X pins σ H s) (L : LamP X.env.scope scope y) (hN : X.N.Nodup) (hj : X.N[j]? = some y) (e0 : Env0 X.prog X.w X.K X.mg X.base A X.stack s H) (hd : A.handled = none) (rv : RelV v u)
    (ns : g.Ns s.heap.objs.size fun z => ([(y, u)] : List (Str × Value)).reverse.lookup z) (kp : ∀ b o, s.heap.get? b = some o → g.get? b = some o) : Inv (lamCx1 X A s H scope f c') [] (σ.set j (some v)) H { s with heap := g, toks := tk } := by
  have cap := L.has I.ok
  have back : ∀ {z c}, (cloFrom X.env.cells scope.names []).lookup z = some c → X.env.cells.lookup z = some c := fun {z c} e => by
    rcases cloFrom_mem (PySem.mem_of_lookup e) with t | ⟨t1, t2⟩
    · cases t
    · obtain ⟨d, hdz⟩ := cap _ t1 rfl
      have hdz' : X.env.cells.lookup z = some d := hdz
      have ecd : c = d := by rw [t2, hdz'] <;> rfl
      rw [ecd]; exact hdz'
  have look : ∀ {z}, scope.names.lookup z = some .free → ∃ c, (cloFrom X.env.cells scope.names []).lookup z = some c := fun {z} hl => mem_lookup (cloFrom_has (cells := X.env.cells) (acc := []) (show (z, NameKind.free) ∈ scope.names from PySem.mem_of_lookup hl))
  have cellK : ∀ {c : Addr} {z : Option Value}, s.heap.IsCell c z → g.IsCell c z := fun {c z} ⟨o, ho, hz⟩ => ⟨o, kp _ _ ho, hz⟩
  have noex : ∀ b : Addr, b ∉ (lamCx1 X A s H scope f c').ex := fun b z => absurd (show b ∈ ([] : List Addr) from z) (by simp)
  refine ⟨⟨e0.mod, L.kind, rfl, rfl, Nat.le_refl _, fun a b c e1 e2 => I.ok.inj a b c (back e1) (back e2), fun z hz => ?_, fun a c z _ => ?_, fun _ => hd, Around.frames_deeper e0.frames, .inr ⟨rfl, rfl⟩, fun b z => absurd z (noex b), e0.bs, e0.bsz, fun b _ _ => noex b, fun b z => absurd z (noex b), e0.funs, e0.frf⟩,
    rfl, e0.bare, Un.kept kp, ⟨_, ns, fun i x v' e1 e2 e3 => ?_⟩, fun a c e => ?_, e0.hok.fresh (Nat.le_refl _), fun a c e => I.freeC a c (back e), fun q hq => absurd (show q ∈ ([] : List (Addr × Obj)) ++ [] from hq) (by simp), e0.hok.kept kp, by rw [List.length_set]; exact I.len⟩
  · have hz' : scope.names.lookup z = some .cell ∨ scope.names.lookup z = some .free := hz
    rcases hz' with t | t
    · exact absurd rfl (L.nocell _ (PySem.mem_of_lookup t))
    · exact look t
  · have z' : false = true := z
    cases z'
  · have e3' : Vis scope x := e3
    by_cases hij : i = j
    · subst hij
      have exy : x = y := Option.some.inj (e1.symm.trans hj)
      subst exy
      have hlt : i < σ.length := by
        rw [I.len]
        exact (List.getElem?_eq_some_iff.mp hj).1
      rw [List.getElem?_set_self hlt] at e2
      cases e2
      exact ⟨u, rv, .inl ⟨L.par, by simp [List.lookup]⟩⟩
    · rw [List.getElem?_set_ne (Ne.symm hij)] at e2
      rcases e3' with t | t | t
      · have exy : x = y := L.own _ (PySem.mem_of_lookup t) rfl
        exact absurd (nodup_ix hN e1 (exy ▸ hj)) hij
      · exact absurd rfl (L.nocell _ (PySem.mem_of_lookup t))
      · obtain ⟨m, hn, hl⟩ := I.loc
        have vis : Vis X.env.scope x := (L.free _ (PySem.mem_of_lookup t) rfl).elim (fun k => .inr (.inl k)) fun k => .inr (.inr k)
        obtain ⟨w', r, qq⟩ := hl i x v' e1 e2 vis
        obtain ⟨c2, hc2⟩ := look t
        refine ⟨w', r, .inr ⟨.inr t, c2, hc2, ?_⟩⟩
        have hc1 := back hc2
        rcases qq with ⟨k, _⟩ | ⟨_, c3, hc3, z⟩
        · have k' : X.env.scope.names.lookup x = some .local := k
          rcases L.free _ (PySem.mem_of_lookup t) rfl with k2 | k2
          · rw [show X.env.scope.names.lookup x = _ from k2] at k'; cases k'
          · rw [show X.env.scope.names.lookup x = _ from k2] at k'; cases k'
        · rw [hc1] at hc3
          cases hc3
          exact cellK z
  · obtain ⟨z, hz⟩ := I.cell a c (back e)
    exact ⟨z, cellK hz⟩
/-- f(u), f such a lambda, from X under A -/
theorem lam_call1 {A : Around} {scope : Scope} {params : Arguments} {body : Expr} {y : Str} {j : Nat} {f c' : Addr} {v : V} {u : Value} {Q : VK} {E : Value → Shared → Prop} (I : Inv X pins σ H s) (L : LamP X.env.scope scope y) (hN : X.N.Nodup) (hj : X.N[j]? = some y) (e0 : Env0 X.prog X.w X.K X.mg X.base A X.stack s H) (hd : A.handled = none) (dp : A.depth < recursionLimit)
    (hf : H f = some (LamFn X f params body scope c')) (hc : H c' = some (CodeO c' (X.env.qual ++ "<lambda>"))) (rv : RelV v u) (hb : ∀ pm cv ctv, bindArgs (PySem.W.kla_fn "<lambda>" (X.env.qual ++ "<lambda>") params body scope (cloFrom X.env.cells scope.names []) pm cv ctv) ⟨[u], []⟩ = pure [(y, u)])
    (h : Evl (lamCx1 X A s H scope f c') body (σ.set j (some v)) H Q) : wpAny (model X.prog X.w) A (call (.ref f) [u]) (EP X pins σ Q) E s := by
  obtain ⟨⟨pm, ctv, of⟩, _, _⟩ := I.hok f _ hf
  obtain ⟨⟨oc, vs, t, hoc, hdc, hvc⟩, _, _⟩ := I.hok c' _ hc
  have rc : codeAny (model X.prog X.w) A (.call (.ref f) ⟨[u], []⟩) (CR CX0 X.stack X.prog X.w H s Q (fun _ _ _ => False)) s := by
    refine PySem.W.kla_callFunE dp of rfl L.co L.gen rfl ⟨c', oc, vs, t, rfl, hoc, hdc, hvc⟩ ?_
    rw [hb]
    refine wpAny_pure (wpAny_newFunctionEnv L.nocell (fun z hz => by rw [List.mem_singleton.mp hz]; exact L.par) (fun g ns sb => ⟨I.nolimit.fresh _ sb, ?_⟩) L.kind)
    show codeAny _ _ (.expr body (lamEnv X scope s.heap.objs.size f c')) _ _
    have kp : ∀ b o, s.heap.get? b = some o → g.get? b = some o := fun b o e => sb.extBut b o (Nat.ne_of_lt (Heap.lt_size e)) (Heap.get?_push_of_some _ e)
    have J := lam_start1 (tk := s.toks + ([(y, u)] : List (Str × Value)).length) (f := f) (c' := c') I L hN hj e0 hd rv ns kp
    refine PySem.W.kla_codeExpr (wpAny_mono (h [] _ J) (fun r s' hq => ?_) fun e s' hq => hq.elim)
    obtain ⟨w', H', J', rr, q⟩ := hq
    exact ⟨w', H', J'.os, J'.bare, J'.base, J'.hok, rr, q⟩
  refine wpAny_call (codeAny_mono rc fun r s' hq => ?_)
  match r, hq with
  | .ok (.ret z), hq => exact I.after hq
end
end Bl

set_option Elab.async false
set_option linter.all false
set_option autoImplicit false
set_option maxRecDepth 100000
set_option maxHeartbeats 2000000
namespace Bl
open PySem PySem.Spec PyProof.Rows L2 LamX StX
theorem ext_mu {φ : Heap → Prop} {p : Addr} (hφ : ∀ h, φ h → ∃ o, h.get? p = some o ∧ ∀ vs, o.data ≠ .fields vs) : Mu (.ext φ) := fun c q e => by
  unfold CodeO at e
  have e' := HO.ext.inj e
  let ob : Obj := ⟨.none, none, .fields #[.none, .str q 0], #[]⟩
  let hh : Heap := { objs := Array.replicate (c + 1) ob }
  have hg : ∀ a o, hh.get? a = some o → o = ob := fun a o ho => by
    unfold Heap.get? at ho
    by_cases ha : a < c + 1
    · rw [show hh.objs[a]? = some ob by simp [hh, ha]] at ho
      exact (Option.some.inj ho).symm
    · rw [Array.getElem?_eq_none (show hh.objs.size ≤ a from (Array.size_replicate (n := c + 1) (v := ob)).symm ▸ Nat.le_of_not_lt ha)] at ho
      cases ho
  have hc : hh.get? c = some ob := by
    unfold Heap.get?
    rw [show hh.objs[c]? = some ob by simp [hh]]
  have z : (∃ (oc : Obj) (vs : Array Value) (t : Tok), hh.get? c = some oc ∧ oc.data = .fields vs ∧ vs[1]? = some (.str q t)) := ⟨ob, _, 0, hc, rfl, rfl⟩
  have z' : φ hh := by rw [e']; exact z
  obtain ⟨o, ho, hn⟩ := hφ hh z'
  rw [hg p o ho] at hn
  exact hn _ rfl
/-- the list that is being sorted stands empty; the keys made so far -/
def ObE (a : Addr) (e1 : Nat) : HO := .ext fun h => h.get? a = some (seqObj "list" #[] e1)
def ObK (k : Addr) (ws : List V) : HO := .ext fun h => ∃ (us : List Value) (e : Nat), Vals ws us ∧ us.length ≤ sizeLine ∧ h.get? k = some (seqObj "list" us.toArray e)
theorem obE_mu (a : Addr) (e1 : Nat) : Mu (ObE a e1) := ext_mu (p := a) fun h z => ⟨_, z, fun vs w => nomatch w⟩
theorem obK_mu (k : Addr) (ws : List V) : Mu (ObK k ws) := ext_mu (p := k) fun h ⟨us, e, _, _, z⟩ => ⟨_, z, fun vs w => nomatch w⟩
theorem obE_ok {P : Program} {w : World} {H : Hp} {h : Heap} {a : Addr} {e1 : Nat} (z : h.get? a = some (seqObj "list" #[] e1)) : ObjOk P w H h a (ObE a e1) := ⟨z, ⟨_, z⟩, fun h1 h2 y k => k _ y⟩
theorem obK_ok {P : Program} {w : World} {H : Hp} {h : Heap} {k : Addr} {ws : List V} {us : List Value} {e : Nat} (r : Vals ws us) (l : us.length ≤ sizeLine) (z : h.get? k = some (seqObj "list" us.toArray e)) : ObjOk P w H h k (ObK k ws) :=
  ⟨⟨us, e, r, l, z⟩, ⟨_, z⟩, fun h1 h2 ⟨us', e', r', l', y⟩ kk => ⟨us', e', r', l', kk _ y⟩⟩
theorem each_vals {α : Type} {fk : α → PyData} {H : Hp} : ∀ {us : List Value} {gs : List α}, PySem.W.EachIs (fun (u : Value) (g : α) => ∃ x : V, RelV x u ∧ Rp (fun _ => False) H x (fk g)) us gs → ∃ ys : List V, Vals ys us ∧ Rps (fun _ => False) H ys (gs.map fk)
  | _, _, .nil => ⟨[], .nil, .nil⟩
  | _, _, .cons h t => by
    obtain ⟨x, r, d⟩ := h
    obtain ⟨ys, a, b⟩ := each_vals t
    exact ⟨x :: ys, .cons r a, .cons d b⟩
theorem vals_each {α : Type} {fk : α → PyData} {H : Hp} : ∀ {gs : List α} {xs : List V} {us : List Value}, Rps (fun _ => False) H xs (gs.map fk) → Vals xs us → PySem.W.EachIs (fun (u : Value) (g : α) => ∃ x : V, RelV x u ∧ Rp (fun _ => False) H x (fk g)) us gs
  | [], _, _, h, r => by cases h; cases r; exact .nil
  | g :: gs, _, _, h, r => by
    cases h with
    | cons h1 h2 =>
      cases r with
      | cons r1 r2 => exact .cons ⟨_, r1, h1⟩ (vals_each h2 r2)
theorem keys_each {X : Cx} {pins : List (Addr × Obj)} {σ : L2.St} {H : Hp} {s : Shared} (I : Inv X pins σ H s) {G : Addr → Prop} : ∀ {ds : List PyData} {xs : List V} {us : List Value}, Rps G H xs ds → Vals xs us → PySem.W.EachIs (fun (u : Value) (d : PyData) => ∃ as, Reads s.heap u d as) us ds
  | [], _, _, h, r => by cases h; cases r; exact .nil
  | d :: ds, _, _, h, r => by
    cases h with
    | cons h1 h2 =>
      cases r with
      | cons r1 r2 => exact .cons (Dp.reads I d _ _ (Rp.dp d _ h1) r1) (keys_each I h2 r2)
theorem map_at' {α β : Type} {xs : List α} {n : Nat} {x : α} (f : α → β) (h : xs[n]? = some x) : (xs.map f)[n]? = some (f x) := by rw [List.getElem?_map, h]; rfl
/-- data stays when what is no list changes -/
theorem kupd {H : Hp} {p : Addr} {u o : HO} {vs : List V} {ds : List PyData} (h : Iss H vs ds) (hp : H p = some u) (m : Mu u) (n : ∀ xs, u ≠ .lst xs) : Iss (upd H p o) vs ds :=
  Rps.to (fun a xs _ q => ⟨trivial, by rw [upd_ne (fun e => n xs (by rw [e, hp] at q; exact Option.some.inj q))]; exact q⟩) (fun a xs q => by rw [upd_ne (mu_ne m hp q fun z => z)]; exact q) ds vs h
theorem Inv.env0A {X : Cx} {pins : List (Addr × Obj)} {σ : L2.St} {H Hi : Hp} {s s' : Shared} {A : Around} (J : L2.Inv X pins σ Hi s') (e0 : Env0 X.prog X.w X.K X.mg X.base A X.stack s H) (fr : A.frames = X.A.frames) : Env0 X.prog X.w X.K X.mg X.base A.in1.in1 X.stack s' Hi :=
  let z := J.env0
  ⟨fr.trans z.frames, z.mod, z.bs, z.bsz, z.funs, z.frf, z.hok, z.bare⟩
section
variable {X : Cx} {pins : List (Addr × Obj)} {σ : L2.St} {H : Hp} {s : Shared} {α : Type} {fk kd : α → PyData}
theorem sorted_lam {A : Around} {scope : Scope} {params : Arguments} {body : Expr} {y : Str} {j : Nat} {f c' l : Addr} {xs : List V} {gs : List α} {Q : VK} {E : Value → Shared → Prop} (I : Inv X pins σ H s) (L : LamP X.env.scope scope y) (hN : X.N.Nodup) (hj : X.N[j]? = some y) (hr : Room 10 A) (e0 : Env0 X.prog X.w X.K X.mg X.base A X.stack s H)
    (fr : A.frames = X.A.frames) (hX : X.ex = []) (h0 : ∀ b, H b = none → X.H_0 b = none) (hf : H f = some (LamFn X f params body scope c')) (hc : H c' = some (CodeO c' (X.env.qual ++ "<lambda>"))) (hl : H l = some (.lst xs)) (rs : Rps (fun _ => False) H xs (gs.map fk)) (hal : PySem.W.AllAlike (gs.map kd)) (hsk : PySem.W.Sortable (gs.map kd)) (hdp : ∀ g ∈ gs, (kd g).depth ≤ 60)
    (hb : ∀ u pm cv ctv, bindArgs (PySem.W.kla_fn "<lambda>" (X.env.qual ++ "<lambda>") params body scope (cloFrom X.env.cells scope.names []) pm cv ctv) ⟨[u], []⟩ = pure [(y, u)])
    (turn : ∀ g ∈ gs, ∀ (s1 : Shared) (H1 : Hp) (v : V) (Q1 : VK), Ex H H1 → Is H1 v (fk g) → (∀ w H2, Ex H1 H2 → Is H2 w (kd g) → Q1 w H2) → Evl (lamCx1 X A.in1.in1 s1 H1 scope f c') body (σ.set j (some v)) H1 Q1)
    (q : ∀ p ys H', Ex H H' → H p = none → H' p = some (.lst ys) → Rps (fun _ => False) H' ys ((gs.mergeSort (PySem.W.dataLe false kd)).map fk) → Q (.ref p) H') :
    wpAny (model X.prog X.w) A (call (.builtin "sorted") [.ref l] [(Str.ofString "key", .ref f)]) (EP X pins σ Q) E s := by
  obtain ⟨hz, vs, n, rv, ol⟩ := (show ObjOk X.prog X.w H s.heap l (.lst xs) from I.hok l _ hl)
  have lv := rv.length
  have lg : xs.length = gs.length := by rw [rs.length, List.length_map]
  have hL : vs.length ≤ sizeLine := by omega
  refine PySem.W.sorted_of_sort (vs := vs) ⟨_, ol, rfl, n, rfl⟩ hL (PyProof.Rows.ksk_s1 _ _) (fun x => PyProof.Rows.ksk_l1 _ _) fun E' => ?_
  rw [PyProof.Rows.ksk_t1]
  generalize ea : s.heap.objs.size + 1 = a
  have alt : s.heap.objs.size ≤ a := by omega
  have oa : (PySem.W.copyHeap s.heap vs).get? a = some (seqObj "list" vs.toArray 0) := ea ▸ PySem.W.copyHeap_at s.heap vs
  have old1 : ∀ b o, s.heap.get? b = some o → b ≠ a ∧ (PySem.W.copyHeap s.heap vs).get? b = some o := fun b o e => ⟨Nat.ne_of_lt (Nat.lt_of_lt_of_le (Heap.lt_size e) alt), PySem.W.copyHeap_old e⟩
  generalize PySem.W.copyHeap s.heap vs = hcp at oa old1
  obtain ⟨e1, oa1⟩ : ∃ e1, (hcp.update a (Obj.mapSeq fun _ => (#[] : Array Value))).get? a = some (seqObj "list" #[] e1) := ⟨_, get?_update_seq oa fun _ => #[]⟩
  have old2 : ∀ b o, s.heap.get? b = some o → (hcp.update a (Obj.mapSeq fun _ => (#[] : Array Value))).get? b = some o := fun b o e => ((Heap.SameBut.update hcp a (Obj.mapSeq fun _ => (#[] : Array Value))).2 b (old1 b o e).1).trans (old1 b o e).2
  unfold PyProof.Rows.ksk_tree
  refine wpAny_bind (listItems_at oa rfl ?_)
  refine wpAny_bind (listUpdate_at oa rfl ?_ (by rw [List.size_toArray]; exact hL) (Nat.zero_le _))
  refine wpAny_bind (seqEpoch_at oa1 rfl ?_)
  refine wpAny_bind (wpAny_newTuple ?_ (by show vs.length ≤ _; exact hL))
  refine wpAny_bind (wpAny_newList ?_ (Nat.zero_le _))
  refine wpAny_holding ?_
  generalize hcp.update a (Obj.mapSeq fun _ => (#[] : Array Value)) = hup at oa1 old2
  have oa2 : (hup.push (seqObj "tuple" vs.toArray 0)).get? a = some (seqObj "list" #[] e1) := Heap.get?_push_of_some _ oa1
  have I1 := I.laid (t' := s.toks) (a := a) (o := ObE a e1) (h' := hup.push (seqObj "tuple" vs.toArray 0)) (fun b o e => Heap.get?_push_of_some _ (old2 b o e)) alt (obE_ok oa2)
  have hHa : H a = none := I.hok.fresh alt
  have I2 := I1.laid (t' := s.toks) (a := (hup.push (seqObj "tuple" vs.toArray 0)).objs.size) (o := ObK _ []) (h' := (hup.push (seqObj "tuple" vs.toArray 0)).push (seqObj "list" #[] 0)) (fun b o e => Heap.get?_push_of_some _ e) (Nat.le_refl _) (obK_ok (us := []) .nil (Nat.zero_le _) (Heap.get?_push_size _ rfl))
  have hka : (hup.push (seqObj "tuple" vs.toArray 0)).objs.size ≠ a := Nat.ne_of_gt (Heap.lt_size oa2)
  have hHk : H (hup.push (seqObj "tuple" vs.toArray 0)).objs.size = none := by
    have z := I1.hok.fresh (Nat.le_refl (hup.push (seqObj "tuple" vs.toArray 0)).objs.size)
    rw [upd_ne hka] at z
    exact z
  generalize (hup.push (seqObj "tuple" vs.toArray 0)).push (seqObj "list" #[] 0) = hs2 at I2
  generalize (hup.push (seqObj "tuple" vs.toArray 0)).objs.size = kS at I2 hka hHk
  have eH2 : Ex H (upd (upd H a (ObE a e1)) kS (ObK kS [])) := (Ex.new hHa).trans (Ex.new (by rw [upd_ne hka]; exact hHk))
  have a2 : upd (upd H a (ObE a e1)) kS (ObK kS []) a = some (ObE a e1) := by rw [upd_ne (Ne.symm hka), upd_same]
  have k2 : upd (upd H a (ObE a e1)) kS (ObK kS []) kS = some (ObK kS []) := upd_same
  generalize upd (upd H a (ObE a e1)) kS (ObK kS []) = H2 at I2 eH2 a2 k2
  unfold PyProof.Rows.ksk_rest
  refine wpAny_bind (wpAny_rule ?_)
  rw [List.forIn_toArray]
  refine wpAny_bind (PyProof.Rows.ksk_fold (fun i s' => ∃ Hi ws, Inv X pins σ Hi s' ∧ Ex H Hi ∧ Hi a = some (ObE a e1) ∧ Hi kS = some (ObK kS ws) ∧ Iss Hi ws ((gs.take i).map kd)) vs 0 _ ⟨H2, [], I2, eH2, a2, k2, by rw [List.take_zero]; exact .nil⟩ ?step ?done)
  case step =>
    rintro i u s' hu ⟨Hi, ws, J, eH, ha, hk, rw'⟩
    simp only [Nat.zero_add] at rw' ⊢
    have hi : i < vs.length := (List.getElem?_eq_some_iff.mp hu).1
    have hgi : gs[i]? = some (gs[i]'(by omega)) := List.getElem?_eq_getElem (by omega)
    generalize gs[i]'(by omega) = gi at hgi
    have gm : gi ∈ gs := List.mem_of_getElem? hgi
    obtain ⟨vi, hvi, rvi⟩ : ∃ v, xs[i]? = some v ∧ Rp (fun _ => False) H v (fk gi) := rs.get (map_at' fk hgi)
    have ruv : RelV vi u := by
      obtain ⟨u', hu', r⟩ := rv.get hvi
      rw [hu] at hu'
      cases hu'
      exact r
    have e1' : Env0 X.prog X.w X.K X.mg X.base A.in1.in1 X.stack s' Hi := Bl.Inv.env0A J e0 fr
    refine wpAny_bind (wpAny_attempt (wpAny_mono (lam_call1 (E := fun _ _ => False) (Q := fun w H'' => Ex Hi H'' ∧ Is H'' w (kd gi)) J L hN hj e1' hr.hd (by have := hr.dp; show A.depth < _; omega) (eH.keep f _ hf fun ps z => nomatch z) (eH.keep c' _ hc (codeO_ne)) ruv (hb u) (turn gi gm s' Hi vi _ eH (rvi.up eH) fun w H'' e r => ⟨e, r⟩)) (fun kv s'' he => ?_) fun _ _ hF => hF.elim))
    obtain ⟨wv, H'', J'', rkv, eHi, rwv⟩ := he
    have hk2 : H'' kS = some (ObK kS ws) := eHi.keep kS _ hk fun ps z => nomatch z
    have ha2 : H'' a = some (ObE a e1) := eHi.keep a _ ha fun ps z => nomatch z
    obtain ⟨⟨us, e, rus, lus, nk⟩, _, _⟩ := J''.hok kS _ hk2
    have lws : us.length = i := by
      rw [← rus.length, rw'.length, List.length_map, List.length_take]
      omega
    try dsimp only
    have sb := Heap.SameBut.update s''.heap kS (Obj.mapSeq (·.push kv))
    obtain ⟨e', nk3⟩ : ∃ e', (s''.heap.update kS (Obj.mapSeq (·.push kv))).get? kS = some (seqObj "list" (us ++ [kv]).toArray e') := by
      have z := get?_update_seq nk (·.push kv)
      rw [show (us ++ [kv]).toArray = us.toArray.push kv by simp]
      exact ⟨_, z⟩
    refine wpAny_bind (listUpdate_at nk rfl ?_ (by rw [List.size_toArray]; omega) (by rw [Array.size_push, List.size_toArray]; omega))
    have J3 := d_write (t' := s''.toks) (ob := ObK kS (ws ++ [wv])) J'' (by rw [hk2]; exact True.intro) sb ⟨_, nk3⟩ (obK_ok (rus.append (.cons rkv .nil)) (by rw [List.length_append, List.length_singleton]; omega) nk3)
    have eH3 : Ex H H'' := eH.trans eHi
    refine wpAny_pure ⟨rfl, _, ws ++ [wv], J3, eH3.mut hHk hk2 (obK_mu _ _), by rw [upd_ne (Ne.symm hka)]; exact ha2, upd_same, ?_⟩
    rw [List.take_add_one, hgi, Option.toList_some, List.map_append]
    exact ((rw'.up eHi).snoc rwv |> fun z => kupd z hk2 (obK_mu kS ws) (fun xs t => nomatch t))
  case done =>
    rintro s' ⟨Hi, ws, J, eH, ha, hk, rw'⟩
    rw [Nat.zero_add, List.take_of_length_le (by omega)] at rw'
    obtain ⟨⟨us, e, rus, lus, nk⟩, _, _⟩ := J.hok kS _ hk
    obtain ⟨na, _, _⟩ := J.hok a _ ha
    have lus2 : us.length = vs.length := by
      rw [← rus.length, rw'.length, List.length_map]
      omega
    obtain ⟨G, g1, g2, JG⟩ := J.untrack hk (fun u z => by rw [h0 kS hHk] at z; cases z) hX
    try dsimp only
    refine wpAny_bind (listItems_at nk rfl ?_)
    have hks := keys_each J rw' rus
    have hne : ∀ b, b ≠ kS → delH Hi kS b = Hi b := fun b hb => by
      unfold delH
      rw [if_neg hb]
    refine PySem.W.keyH_end (κ := PySem.W.dataKind s'.heap (gs.map kd)) (h₁ := G) (s := s') (fun b o _ z => g1 b o z) g2 nk na hka (PySem.W.SortsAt.data (s := s') (vs := us.toArray.toList) (by exact hks) hal hsk ?_) (by rw [List.size_toArray]; exact lus2) hL fun h3 tk3 c kp n3 => ?_
    · intro d hd
      obtain ⟨g, hg, rfl⟩ := List.mem_map.mp hd
      have := hdp g hg
      have := hr.un
      show A.units + 2 + _ < _
      omega
    have ko : PySem.W.KeyedOut false (gs.map kd) vs (PySem.W.sortVals (PySem.W.dataKind s'.heap (gs.map kd)) false us vs) := ⟨s'.heap, us, hal, rfl, hks⟩
    obtain ⟨ys, ry, rys⟩ := each_vals (PySem.W.keyedOut_each kd ko (vals_each rs rv))
    generalize PySem.W.sortVals (PySem.W.dataKind s'.heap (gs.map kd)) false us vs = out at ry n3
    have haD : delH Hi kS a = some (ObE a e1) := by rw [hne a (Ne.symm hka)]; exact ha
    have eD : Ex H (delH Hi kS) := eH.wo hHk hk (obK_mu kS ws)
    have eF : Ex H (upd (delH Hi kS) a (.lst ys)) := eD.mut hHa haD (obE_mu a e1)
    have lo : ys.length ≤ sizeLine := by
      rw [rys.length, List.length_map, List.length_mergeSort]
      omega
    have JF := JG.write (t' := tk3) (x := a) (e := a) (o := .lst ys) (h' := h3) (by rw [haD]; exact True.intro) (.inl rfl) (fun b o hb z => kp b o hb z) ⟨_, n3⟩ ⟨lo, out, c, ry, n3⟩
    exact ⟨rfl, .ref a, _, JF, rfl, q a ys _ eF hHa upd_same (Rps.to (fun b xs g _ => g.elim) (fun b xs z => eF.keep b _ z fun ps t => nomatch t) _ _ rys)⟩
end
end Bl

set_option Elab.async false
set_option linter.all false
set_option autoImplicit false
set_option maxRecDepth 100000
set_option maxHeartbeats 2000000
namespace Bl
open PySem PySem.Spec PyProof.Rows L2 LamX StX
section
variable {X : Cx} {σ : L2.St} {H : Hp} {α : Type} {fk kd : α → PyData}
/-- what the table hides stays known -/
theorem wo_tab_none {P : Addr} {q : Str} {H H1 : Hp} (e : Ex (Wo P H) H1) (t : TabS H1 P q) : ∀ b, H1 b = none → H b = none := fun b z => by
  obtain ⟨ps, hP, _, _⟩ := id t
  have hb : b ≠ P := fun w => by rw [w, hP] at z; cases z
  cases w : H b with
  | none => rfl
  | some u =>
    obtain ⟨u', e'⟩ := e.has b u (by rw [wo_ne hb]; exact w)
    rw [z] at e'
    cases e'
theorem tab_ne_tup {P b : Addr} {q : Str} {H : Hp} {xs : List V} (t : TabS H P q) (z : H b = some (.tup xs)) : b ≠ P := fun w => by
  obtain ⟨ps, hP, _, _⟩ := id t
  rw [w, hP] at z
  cases z
theorem Ex.woT2 {P : Addr} {q : Str} {H H1 : Hp} (e : Ex H H1) (t : TabS H P q) : Ex (Wo P H) (Wo P H1) := by
  obtain ⟨ps, hP, _, _⟩ := e.tabs _ _ t
  exact woT_ex (wo_ex.trans e) wo_self hP
/-- sorted(list, key=lambda y: ..) -/
theorem evl_sortedLam {c P : Addr} {params : Arguments} {body e : Expr} {scope : Scope} {y : Str} {j : Nat} {p pos lpos kpos : Pos} {gs : List α} {Q : VK} (TB : TabB X.base X.mg c P) (hcode : X.env.code = .ref c) (L : LamP X.env.scope scope y) (hdef : defaultsOf params X.env = ([], []))
    (hN : X.N.Nodup) (hj : X.N[j]? = some y) (hr : Room 10 X.A) (hX : X.ex = []) (h0 : ∀ b, H b = none → X.H_0 b = none) (tab : TabS H P (X.env.qual ++ "<lambda>"))
    (hal : PySem.W.AllAlike (gs.map kd)) (hsk : PySem.W.Sortable (gs.map kd)) (hdp : ∀ g ∈ gs, (kd g).depth ≤ 60)
    (ha : ∀ Q1 : List V → Hp → Prop, (∀ l xs H1, Ex H H1 → H1 l = some (.lst xs) → Rps (fun _ => False) H1 xs (gs.map fk) → Q1 [.ref l] H1) → Arg X [e] σ H Q1)
    (hb : ∀ u pm (c' : Value) ctv, bindArgs (PySem.W.kla_fn "<lambda>" (X.env.qual ++ "<lambda>") params body scope (cloFrom X.env.cells scope.names []) pm c' ctv) ⟨[u], []⟩ = pure [(y, u)])
    (turn : ∀ g ∈ gs, ∀ f c' (s1 : Shared) (H1 : Hp) (v : V) (Q1 : VK), Ex (Wo P H) H1 → Is H1 v (fk g) → (∀ w H2, Ex H1 H2 → Is H2 w (kd g) → Q1 w H2) → Evl (lamCx1 X X.A.in1.in1 s1 H1 scope f c') body (σ.set j (some v)) H1 Q1)
    (q : ∀ p ys H', Ex (Wo P H) H' → TabS H' P (X.env.qual ++ "<lambda>") → H p = none → H' p = some (.lst ys) → Rps (fun _ => False) H' ys ((gs.mergeSort (PySem.W.dataLe false kd)).map fk) → Q (.ref p) H')
    (hg : Gl X "sorted" := by rfl) (hm : X.mg "sorted" = none := by rfl) (hv : bootBuiltins "sorted" = some (.builtin "sorted") := by rfl) (hn : ("sorted" : Str) ≠ "__name__" := by decide) (hdb : (("sorted" : Str) == ("__debug__" : Str)) = false := by decide)
    (he : backTo pos (starEach [e] X.env) = (false, eval e X.env) :: backTo pos (starEach [] X.env) := by rfl) (hpl : (backTo pos (starEach [e] X.env)).any (·.1) = false := by rfl) :
    Evl X (.Call (.Name "sorted" p) [e] [⟨some "key", .Lambda params body scope lpos, kpos⟩] pos) σ H Q := by
  intro pins s I
  refine wpAny_Call_Name_kw (ld_blt I hg hm hv ?_ hn hdb)
  have pk : PK X [⟨some "key", .Lambda params body scope lpos, kpos⟩] (tCons (tLamP X P params body scope) tNil) := pk_cons (pe_lamP TB hcode L hdef) pk_nil
  refine PyProof.Rows.callWith_kw (thn (ha (fun vs H1 => ∃ l xs, vs = [.ref l] ∧ Ex H H1 ∧ H1 l = some (.lst xs) ∧ Rps (fun _ => False) H1 xs (gs.map fk)) (fun l xs H1 e1 z r => ⟨l, xs, rfl, e1, z, r⟩) pos pins s I) fun us s1 ⟨vs, H1, I1, r1, q1⟩ => ?_) he hpl rfl rfl
  obtain ⟨l, xs, rfl, e1, zl, rx⟩ := q1
  have ur := Vals.ref1 r1
  subst ur
  have hlP : l ≠ P := fun w => by
    obtain ⟨ps, hP, _, _⟩ := e1.tabs _ _ tab
    rw [w, hP] at zl
    cases zl
  refine thn (pk.run pos pins s1 σ H1 (fun zs H2 => ∃ f c', zs = [.ref f] ∧ Ex (Wo P H1) H2 ∧ TabS H2 P (X.env.qual ++ "<lambda>") ∧ H2 f = some (LamFn X f params body scope c') ∧ H2 c' = some (CodeO c' (X.env.qual ++ "<lambda>"))) I1 ?_) fun ws s2 ⟨zs, H2, I2, r2, q2⟩ => ?_
  · exact ⟨e1.tabs _ _ tab, fun f c' H2 e2 t2 _ _ hf hc => ⟨f, c', rfl, e2, t2, hf, hc⟩⟩
  obtain ⟨f, c', rfl, e2, t2, hf, hc⟩ := q2
  have wr := Vals.ref1 r2
  subst wr
  have hn2 := wo_tab_none e2 t2
  have hn1 : ∀ b, H1 b = none → H b = none := fun b z => by
    cases w : H b with
    | none => rfl
    | some u =>
      obtain ⟨u', e'⟩ := e1.has b u w
      rw [z] at e'
      cases e'
  have e3 : Ex (Wo P H) H2 := (Ex.woT2 e1 tab).trans e2
  refine sorted_lam (s := s2) I2 L hN hj hr I2.env0 rfl hX (fun b z => h0 b (hn1 b (hn2 b z))) hf hc (e2.keep l _ (by rw [wo_ne hlP]; exact zl) fun ps z => nomatch z) (Rps.to (fun b xs g _ => g.elim) (fun b ys z => e2.keep b _ (by rw [wo_ne (tab_ne_tup (e1.tabs _ _ tab) z)]; exact z) fun ps t => nomatch t) _ _ rx) hal hsk hdp (fun u pm cv ctv => hb u pm cv ctv) (fun g hg s3 H3 v Q1 e4 iv k => turn g hg f c' s3 H3 v Q1 (e3.trans e4) iv k) fun p ys H' e4 hp hl r => q p ys H' (e3.trans e4) (e4.tabs _ _ t2) (hn1 p (hn2 p hp)) hl r
end
end Bl

set_option Elab.async false
set_option linter.all false
set_option autoImplicit false
set_option maxRecDepth 100000
set_option maxHeartbeats 2000000
namespace Bl
open PySem PySem.Spec PyProof.Rows L2 LamX StX
/-- a def whose code object is known: it makes lambdas -/
def FDefC (K : PySem.W.Frag) (mg : Str → Option Value) (x : Str) (st : Stmt) (c : Addr) : Prop := ∃ f fd, FunD K x x (defArgs st) (defBody st) (defScope st) [] [] f fd ∧ mg x = some (.ref f) ∧ fd.code = .ref c
section
variable {P : Program} {w : World} {K : PySem.W.Frag} {mg : Str → Option Value} {base : Heap} {k n : Nat} {x : Str} {st : Stmt} {N ps : List Str} {sp : SpQ} {c : Addr}
theorem fnQ_mkC (D : FDefC K mg x st c) (S : FnScope N ps (defScope st)) (hb : BindsAs x st ps) (hn : ps.length = n) (len : ∀ vs H Q, sp vs H Q → vs.length = n)
    (hbody : ∀ (X : Cx) (A : Around) (outer : List Env) (s : Shared) (f : Addr) (E : XK) (H : Hp) (vs : List V) (Q : VK), X = (cxOf CX0 P w K mg base N x (defScope st) f (.ref c) A outer s H E).nox → Room k X.A → sp vs H Q →
      Run X (defBody st) { nx := fun _ H' => Q .non H', rt := Q } (L2.start N vs) H) : FnQ P w K mg base (k + 1) x n sp := by
  obtain ⟨f, fd, F, hm, hcc⟩ := D
  obtain ⟨oc, od, dV, kV, doc, pm, an, cdv, ct, osl, rfl, lk, hcd, _, _⟩ := F.ex
  cases (show cdv = .ref c from hcc)
  refine ⟨f, _, ps, ⟨fun vs H Q E h => by rw [len vs H Q h, hn], ?_⟩, hn, hm, F.kp, F.bindsN hb⟩
  intro A outer s H args us vs Q E hr e0 hbd hv hsp
  exact run_ofS lk hcd S hr e0 hbd hv (by rw [len vs H Q hsp, hn]) fun hr' => ⟨_, PSs.nox Run.pss, hbody _ A outer s f E H vs Q rfl hr' hsp⟩
theorem fnG_mkC (D : FDefC K mg x st c) (S : FnScope N ps (defScope st)) (hb : BindsAs x st ps) (hn : ps.length = n) (len : ∀ vs H Q, sp vs H Q → vs.length = n)
    (hbody : ∀ (X : Cx) (A : Around) (outer : List Env) (s : Shared) (f : Addr) (E : XK) (H : Hp) (vs : List V) (Q : VK), X = (cxOf CX0 P w K mg base N x (defScope st) f (.ref c) A outer s H E).nox → Room k X.A → X.A.guards = some [] → sp vs H Q →
      Run X (defBody st) { nx := fun _ H' => Q .non H', rt := Q } (L2.start N vs) H) : FnG P w K mg base (k + 1) x n sp := by
  obtain ⟨f, fd, F, hm, hcc⟩ := D
  obtain ⟨oc, od, dV, kV, doc, pm, an, cdv, ct, osl, rfl, lk, hcd, _, _⟩ := F.ex
  cases (show cdv = .ref c from hcc)
  refine ⟨f, _, ps, ⟨fun vs H Q h => by rw [len vs H Q h, hn], ?_⟩, hn, hm, F.kp, F.bindsN hb⟩
  intro A outer s H args us vs Q E hr gd e0 hbd hv hsp
  exact run_ofS lk hcd S hr e0 hbd hv (by rw [len vs H Q hsp, hn]) fun hr' => ⟨_, PSs.nox Run.pss, hbody _ A outer s f E H vs Q rfl hr' gd hsp⟩
end
end Bl

set_option Elab.async false
set_option linter.all false
set_option autoImplicit false
set_option maxRecDepth 100000
set_option maxHeartbeats 2000000
namespace Bl
open PySem PySem.Spec PyProof.Rows L2 LamX StX
section
variable {X : Cx} {σ : L2.St} {H : Hp} {iter : Expr} {pos : Pos} {body rest : List Stmt} {D : Ends} {ds : List PyData}
/-- a for over a list of data that the expression makes, whatever else it does -/
theorem run_forE {Fr : Hp → Prop} {x : Str} {px : Pos} (j : Nat) (he : ∀ Q1 : VK, (∀ p xs H1, Fr H1 → H1 p = some (.lst xs) → Rps (fun _ => False) H1 xs ds → Q1 (.ref p) H1) → Evl X iter σ H Q1)
    (h : ∀ p xs H1, Fr H1 → H1 p = some (.lst xs) → Rps (fun _ => False) H1 xs ds → ∃ Pv : Nat → L2.St → Hp → Prop, Pv 0 σ H1 ∧ (∀ i σ' H', Pv i σ' H' → H' p = some (.lst xs)) ∧
      (∀ i d v σ' H', ds[i]? = some d → Pv i σ' H' → Rp (fun _ => False) H1 v d → Run X body { D with nx := Pv (i + 1), ct := Pv (i + 1), bk := Run X rest D } (σ'.set j (some v)) H') ∧ ∀ σ' H', Pv ds.length σ' H' → Run X rest D σ' H')
    (hN : X.N.Nodup) (hj : X.N[j]? = some x := by rfl) (hx : Loc X.env.scope x := by first | exact Or.inl rfl | exact Or.inr rfl) (hf : X.fn x = true ∨ X.env.scope.names.lookup x = some .local := by first | exact .inr rfl | exact .inl rfl)
    (hp : PassesOwn (model X.prog X.w) X.A X.env X.xe := by exact PassesOwn.never) (hc : X.calm = true := by rfl) (hs : ∀ x, foldedSetIterable iter X.env x = pure x := by intro _; rfl) : Run X (.For (.Name x px) iter body [] pos :: rest) D σ H :=
  run_cons (ps_for hp hc (pi_list Evl.pe) (pg_name hN hj hx hf) Run.pss hs) (he _ fun p xs H1 fr z r => by
    obtain ⟨Pv, h0, hB, hs, hd⟩ := h p xs H1 fr z r
    refine ⟨p, rfl, ⟨xs, .inl (.inl z)⟩, ?_⟩
    have lx : ds.length = xs.length := r.length.symm
    rw [lx] at hd
    refine for_it walk_list Pv h0 (fun i σ' H' _ p => .inl (.inl (hB i σ' H' p))) (fun i x σ' H' H'' hi p y => ?_) hd
    obtain ⟨rfl, hx⟩ := y
    obtain ⟨d, hd, rd⟩ := r.getV hx
    exact hs i d x σ' _ hd p rd)
end
end Bl

set_option Elab.async false
set_option linter.all false
set_option autoImplicit false
set_option maxRecDepth 100000
set_option maxHeartbeats 4000000
namespace Bl
open PySem PySem.Spec PyProof.Rows L2 LamX StX
/-! ### the rank grows -/
theorem wo_cons (f c : Int) (fs cs : List Int) : wo (f :: fs) (c :: cs) = f * c + wo fs cs := by
  unfold wo
  rw [List.zip_cons_cons, List.map_cons, List.sum_cons]
theorem wo_more : ∀ {fs cs : List Int} {k : Nat} (m : Int), k < cs.length → k < fs.length → wo fs (more cs k m) = wo fs cs + m * fs.getD k 0
  | [], _, _, _, _, h => by cases h
  | _ :: _, [], _, _, h, _ => by cases h
  | f :: fs, c :: cs, 0, m, _, _ => by
    rw [more_cons_zero, wo_cons, wo_cons, List.getD_cons_zero, Int.mul_add, Int.mul_comm m f]
    omega
  | f :: fs, c :: cs, k + 1, m, h1, h2 => by
    rw [more_cons_succ, wo_cons, wo_cons, wo_more m (by simpa using h1) (by simpa using h2), List.getD_cons_succ]
    omega
theorem cheap_le : ∀ {cs : List Int} {k : Nat}, k < cs.length → 0 < cs.getD k 0 → cheap cs ≤ k := fun {cs k} h hp => by
  unfold cheap
  apply Nat.le_of_not_lt
  intro hl
  have := List.not_of_lt_findIdx hl
  rw [← gD h] at this
  rw [decide_eq_true hp] at this
  cases this
theorem more_getD_self {cs : List Int} {k : Nat} {m : Int} (h : k < cs.length) : (more cs k m).getD k 0 = cs.getD k 0 + m := by
  unfold more
  rw [gD (by rw [List.length_set]; exact h), List.getElem_set_self]
theorem more_back {cs : List Int} {k : Nat} (h : k < cs.length) : more (more cs k 1) k (-1) = cs := by
  unfold more
  rw [List.set_set, gD (l := cs.set k _) (by rw [List.length_set]; exact h), List.getElem_set_self, gD h]
  rw [show cs[k] + 1 + -1 = cs[k] by omega]
  exact List.set_getElem_self h
theorem asc_step {h : Hall} (o : h.Ok) {i : Nat} (hi : i + 1 < h.fs.length) : h.fs.getD i 0 < h.fs.getD (i + 1) 0 := by
  rw [gD (by omega), gD hi]
  refine o.asc (h.fs[i], h.fs[i + 1]) ?_
  refine List.mem_of_getElem? (i := i) ?_
  rw [List.getElem?_zip_eq_some]
  exact ⟨List.getElem?_eq_getElem (by omega), by rw [List.getElem?_drop, Nat.add_comm]; exact List.getElem?_eq_getElem hi⟩
theorem asc_lt {h : Hall} (o : h.Ok) {i : Nat} : ∀ {j : Nat}, i < j → j < h.fs.length → h.fs.getD i 0 < h.fs.getD j 0
  | 0, h1, _ => by cases h1
  | j + 1, h1, h2 => by
    have := asc_step o h2
    rcases Nat.lt_or_ge i j with q | q
    · have := asc_lt o q (by omega : j < h.fs.length)
      omega
    · rw [show i = j by omega]
      exact this
/-- what is seen is more, or dearer, or the same -/
theorem seenW_up {h : Hall} (o : h.Ok) {cs : List Int} {k : Nat} (hl : cs.length = h.fs.length) (hc : ∀ c ∈ cs, 0 ≤ c) (hs : cs.sum ≤ h.s) (hk : k < h.fs.length) :
    seenW h.s cs k = cs ∨ cs.sum < (seenW h.s cs k).sum ∨ (cs.sum = (seenW h.s cs k).sum ∧ wo h.fs cs < wo h.fs (seenW h.s cs k)) := by
  have hk' : k < cs.length := by omega
  have ms := more_sum (cs := cs) (k := k) 1 hk'
  have hpos : 0 < (more cs k 1).getD k 0 := by
    rw [more_getD_self hk']
    have := hc _ (gD_mem hk')
    omega
  have hle := cheap_le (cs := more cs k 1) (by rw [more_length]; exact hk') hpos
  unfold seenW
  split
  · exact .inr (.inl (by omega))
  · rcases Nat.lt_or_ge (cheap (more cs k 1)) k with q | q
    · refine .inr (.inr ⟨?_, ?_⟩)
      · rw [more_sum (-1) (by rw [more_length]; omega)]
        omega
      · rw [wo_more (-1) (by rw [more_length]; omega) (by omega), wo_more 1 hk' hk]
        have := asc_lt o q hk
        omega
    · rw [show cheap (more cs k 1) = k by omega]
      exact .inl (more_back hk')
/-- every state behind a turn has the greater rank -/
theorem turn_up {h : Hall} (o : h.Ok) {g g' : Gm} (og : GmOk h g) {t : Nat × List Gm} (ht : t ∈ turnsOf h g) (hg : g' ∈ t.2) : g.2.sum < g'.2.sum ∨ (g.2.sum = g'.2.sum ∧ wo h.fs g.2 < wo h.fs g'.2) := by
  unfold turnsOf at ht
  obtain ⟨ht, hn⟩ := List.mem_filter.mp ht
  obtain ⟨k, hk, rfl⟩ := List.mem_map.mp ht
  have hk := List.mem_range.mp hk
  have hn : g ∉ laters h g k := by simpa using hn
  have hs : g'.2 = seenW h.s g.2 k := by
    have hg : g' ∈ laters h g k := hg
    unfold laters behL at hg
    rw [List.map_cons] at hg
    rcases List.mem_cons.mp hg with e | e
    · rw [e]
    · split at e
      · rw [List.map_cons, List.map_nil, List.mem_singleton] at e
        rw [e]
      · cases e
  rw [hs]
  rcases seenW_up o og.l2 og.p2 og.s2 hk with q | q
  · refine absurd ?_ hn
    unfold laters behL
    rw [List.map_cons, q]
    exact List.mem_cons_self
  · exact q
theorem turn_sub {h : Hall} {g : Gm} {t : Nat × List Gm} (ht : t ∈ turnsOf h g) : t.1 < h.fs.length ∧ t.2 = laters h g t.1 := by
  unfold turnsOf at ht
  obtain ⟨ht, hn⟩ := List.mem_filter.mp ht
  obtain ⟨k, hk, rfl⟩ := List.mem_map.mp ht
  exact ⟨List.mem_range.mp hk, rfl⟩
theorem rank_lt {h : Hall} {g g' : Gm} (q : g.2.sum < g'.2.sum ∨ (g.2.sum = g'.2.sum ∧ wo h.fs g.2 < wo h.fs g'.2)) : PySem.W.dataLe false (rankD h) g' g = false := by
  rw [PySem.W.dataLe_eq]
  show (!PySem.W.dataLt (rankD h g) (rankD h g')) = false
  have e : PySem.W.dataLt (rankD h g) (rankD h g') = true := by
    unfold rankD
    rw [PySem.W.dataLt_tuple]
    have z := PySem.W.dataLt_ints [g.2.sum, wo h.fs g.2, g.1.sum, -1] [g'.2.sum, wo h.fs g'.2, g'.1.sum, -1]
    unfold PySem.W.rowLt at z
    simp only [List.map_cons, List.map_nil] at z
    rw [z]
    rw [decide_eq_true_eq, List.cons_lt_cons_iff, List.cons_lt_cons_iff]
    rcases q with q | ⟨q1, q2⟩
    · exact .inl q
    · exact .inr ⟨q1, .inl q2⟩
  rw [e]
  rfl
/-- the order of the searching: reversed by rank -/
def order (h : Hall) (net : Net) : List Gm := ((net.map (·.1)).mergeSort (PySem.W.dataLe false (rankD h))).reverse
theorem dataLe_tot {α : Type} (k : α → PyData) : (∀ a b c, PySem.W.dataLe false k a b = true → PySem.W.dataLe false k b c = true → PySem.W.dataLe false k a c = true) ∧ ∀ a b, (PySem.W.dataLe false k a b || PySem.W.dataLe false k b a) = true := by
  have z : PySem.W.TotalLe (PySem.W.dataLe false k) := PySem.W.sortLe_total (PyProof.Rows.listOrd PyProof.Rows.itemOrd) false (fun x => PySem.W.keyToks (k x))
  exact ⟨z.trans, fun a b => Bool.or_eq_true _ _ ▸ z.total a b⟩
theorem order_perm (h : Hall) (net : Net) : (order h net).Perm (net.map (·.1)) := (List.reverse_perm _).trans (List.mergeSort_perm _ _)
/-- behind a state of the order stand those of greater rank -/
theorem order_split {h : Hall} {b : Gm} {net : Net} (o : h.Ok) (no : NetOk h b net) {done todo : List Gm} {g : Gm} (e : order h net = done ++ g :: todo) {t : Nat × List Gm} (ht : t ∈ turnsOf h g) {g' : Gm} (hg : g' ∈ t.2) : g' ∈ done := by
  have gin : g ∈ net.map (·.1) := (order_perm h net).mem_iff.mp (by rw [e]; simp)
  have og := no.ok g gin
  have up := rank_lt (turn_up o og ht hg)
  have g'in : g' ∈ order h net := (order_perm h net).mem_iff.mpr (no.cl g gin t.1 (turn_sub ht).1 g' (by rw [← (turn_sub ht).2]; exact hg))
  have srt : ((net.map (·.1)).mergeSort (PySem.W.dataLe false (rankD h))).Pairwise fun a b => PySem.W.dataLe false (rankD h) a b = true := List.pairwise_mergeSort (dataLe_tot (rankD h)).1 (dataLe_tot (rankD h)).2 _
  have srt2 : (order h net).Pairwise fun a b => PySem.W.dataLe false (rankD h) b a = true := List.pairwise_reverse.mpr srt
  rw [e] at g'in srt2
  rcases List.mem_append.mp g'in with q | q
  · exact q
  · rcases List.mem_cons.mp q with q | q
    · rw [q] at up
      have z := (dataLe_tot (rankD h)).2 g g
      rw [up] at z
      cases z
    · have z := (List.pairwise_append.mp srt2).2.1
      have z := (List.pairwise_cons.mp z).1 g' q
      rw [up] at z
      cases z
end Bl

set_option Elab.async false
set_option linter.all false
set_option autoImplicit false
set_option maxRecDepth 100000
set_option maxHeartbeats 4000000
namespace Bl
open PySem PySem.Spec PyProof.Rows L2 LamX StX
theorem rank_alike (h : Hall) (g g' : Gm) : PySem.W.alike (rankD h g) (rankD h g') = true := by
  unfold rankD; simp [PySem.W.alike, PySem.W.alikeAll]
theorem rank_depth (h : Hall) (g : Gm) : (rankD h g).depth ≤ 60 := by
  unfold rankD; simp [PyData.depth, PyData.depthAll]
/-! ### what the search of the game finds -/
abbrev Fnd := List (Gm × (Int × Int))
def lkF (fnd : Fnd) (g : Gm) : Int × Int := (lk g fnd).getD (1, 1)
/-- the best of the ways behind one fare -/
def turnB (rg : Bool) (fnd : Fnd) (ls : List Gm) : Int × Int := betterF rg (lkF fnd (ls.headD ([], []))) ((ls.drop 1).map (lkF fnd))
def valW (h : Hall) (rg : Bool) (fnd : Fnd) (g : Gm) : Int × Int := worseF rg (worthIf h rg g) ((turnsOf h g).map fun t => turnB rg fnd t.2)
def worthsL (h : Hall) (rg : Bool) (gs : List Gm) : Fnd := gs.foldl (fun f g => f ++ [(g, valW h rg f g)]) []
theorem worthsL_snoc (h : Hall) (rg : Bool) (gs : List Gm) (g : Gm) : worthsL h rg (gs ++ [g]) = worthsL h rg gs ++ [(g, valW h rg (worthsL h rg gs) g)] := by
  unfold worthsL
  rw [List.foldl_append]
  rfl
theorem worthsL_keys (h : Hall) (rg : Bool) (gs : List Gm) : (worthsL h rg gs).map (·.1) = gs := by
  rcases List.eq_nil_or_concat gs with e | ⟨gs', g, e⟩
  · rw [e]; rfl
  · rw [List.concat_eq_append] at e
    subst e
    rw [worthsL_snoc, List.map_append, worthsL_keys h rg gs']
    rfl
termination_by gs.length
decreasing_by rw [e]; simp
theorem laters_split (h : Hall) (g : Gm) (k : Nat) : laters h g k = (laters h g k).headD ([], []) :: (laters h g k).drop 1 := by
  unfold laters behL
  rfl
theorem lkF_of {fnd : Fnd} {g : Gm} (h : g ∈ fnd.map (·.1)) : lk g fnd = some (lkF fnd g) := by
  obtain ⟨y, hy⟩ := lk_mem h
  unfold lkF
  rw [hy]
  rfl
theorem lk_in {fnd : Fnd} {g : Gm} {y : Int × Int} (h : lk g fnd = some y) : (g, y) ∈ fnd := by
  unfold lk at h
  obtain ⟨x, hx, rfl⟩ := Option.map_eq_some_iff.mp h
  have h1 := List.mem_of_find?_eq_some hx
  have h2 : x.1 = g := of_decide_eq_true (List.find?_some (p := fun x : Gm × (Int × Int) => decide (x.1 = g)) hx)
  rw [← h2]
  exact h1
theorem lkF_in {fnd : Fnd} {g : Gm} (h : g ∈ fnd.map (·.1)) : (g, lkF fnd g) ∈ fnd := lk_in (lkF_of h)
theorem turnB_sm {rg : Bool} {fnd : Fnd} {ls : List Gm} (hf : ∀ e ∈ fnd, Sm e.2) (hl : ∀ g ∈ ls, g ∈ fnd.map (·.1)) (hn : ls ≠ []) : Sm (turnB rg fnd ls) := by
  cases ls with
  | nil => exact (hn rfl).elim
  | cons x xs =>
    unfold turnB
    refine betterF_sm (hf _ (lkF_in (hl x List.mem_cons_self))) fun y hy => ?_
    obtain ⟨g, hg, rfl⟩ := List.mem_map.mp hy
    exact hf _ (lkF_in (hl g (List.mem_cons_of_mem _ hg)))
theorem valW_sm {h : Hall} (o : h.Ok) {rg : Bool} {fnd : Fnd} {g : Gm} (og : GmOk h g) (hf : ∀ e ∈ fnd, Sm e.2) (hl : ∀ t ∈ turnsOf h g, ∀ g' ∈ t.2, g' ∈ fnd.map (·.1)) : Sm (valW h rg fnd g) := by
  unfold valW
  refine worseF_sm (og.sm o rg) fun y hy => ?_
  obtain ⟨t, ht, rfl⟩ := List.mem_map.mp hy
  refine turnB_sm hf (hl t ht) ?_
  rw [(turn_sub ht).2, laters_split]
  exact fun z => nomatch z
end Bl

set_option Elab.async false
set_option linter.all false
set_option autoImplicit false
set_option maxRecDepth 100000
set_option maxHeartbeats 400000
namespace Bl
open PySem PySem.Spec PyProof.Rows L2 LamX StX
variable {P : Program} {w : World} {K : PySem.W.Frag} {mg : Str → Option Value} {base : Heap}
abbrev qW : Str := "worths_of" ++ ".<locals>." ++ "<lambda>"
theorem rps_order {h : Hall} {net : Net} {H' : Hp} {l2 : Addr} {u : HO} {ys : List V} (r : Rps (fun _ => False) H' ys (((net.map (·.1)).mergeSort (PySem.W.dataLe false (rankD h))).map gmD)) (hl : H' l2 = none) : Rps (fun _ => False) (upd H' l2 u) ys.reverse ((order h net).map gmD) := by
  unfold order
  rw [List.map_reverse]
  exact Rps.reverse (Rps.to (fun b xs g _ => g.elim) (fun b xs z => by rw [upd_ne (ne_of_none z hl)]; exact z) _ _ r)
theorem Ev.run {X : Cx} {σ : L2.St} {B H : Hp} {e : Expr} {d : PyData} {Q : VK} (h : Ev X σ B e d) (k : Ex B H) (q : ∀ v H', Ex H H' → Is H' v d → Q v H') : Evl X e σ H Q := h H k Q fun v H' e r => q v H' e r.is
theorem is_wo {G : Addr → Prop} {H H' : Hp} {Pt : Addr} {q : Str} {v : V} {d : PyData} (t : TabS H Pt q) (e : Ex (Wo Pt H) H') (r : Rp G H v d) : Rp G H' v d :=
  Rp.to (fun a xs g z => ⟨g, e.keep a _ (by
    have ne : a ≠ Pt := fun w => by
      obtain ⟨ps, hP, _, _⟩ := id t
      rw [w, hP] at z
      cases z
    rw [wo_ne ne]; exact z) fun ps t => nomatch t⟩) (fun a xs z => e.keep a _ (by rw [wo_ne (tab_ne_tup t z)]; exact z) fun ps t => nomatch t) d v r
theorem de_wo {α β : Type} {fk : α → PyData} {fv : β → PyData} {G : Addr → Prop} {H H' : Hp} {Pt : Addr} {q : Str} {xs : List Ent} {kvs : List (α × β)} (t : TabS H Pt q) (e : Ex (Wo Pt H) H') (h : DE fk fv G H xs kvs) : DE fk fv G H' xs kvs := by
  induction h with
  | nil => exact .nil
  | cons h1 h2 _ ih => exact .cons (is_wo t e h1) (is_wo t e h2) ih
/-- what a dict holds lies in the heap -/
theorem de_has {α β : Type} {fk : α → PyData} {fv : β → PyData} {G : Addr → Prop} {H : Hp} {xs : List Ent} {kvs : List (α × β)} (h : DE fk fv G H xs kvs) : DE fk fv (fun a => H a ≠ none) H xs kvs := by
  induction h with
  | nil => exact .nil
  | cons h1 h2 _ ih => exact .cons h1 (Rp.to (fun a xs _ z => ⟨fun e => (by rw [z] at e; cases e), z⟩) (fun a xs z => z) _ _ h2) ih
theorem nd_woE {H H' : Hp} {Pt p : Addr} {q : Str} {P : Program} {w : World} {xs : List Ent} (t : TabS H Pt q) (e : Ex (Wo Pt H) H') (h : H p = some (ND P w p xs)) : H' p = some (ND P w p xs) := by
  refine e.keep p _ ?_ (nd_ne_tbl P w p xs)
  rw [wo_ne (fun z => ?_)]
  · exact h
  · obtain ⟨ps, hP, _, _⟩ := id t
    rw [z, hP] at h
    exact nd_ne_tbl P w _ xs ps (Option.some.inj h).symm
theorem nols_keys : ∀ (net : Net), nols (net.map fun x => gmD x.1) = true
  | [] => rfl
  | e :: net => by
    show (nol (gmD e.1) && nols (net.map fun x => gmD x.1)) = true
    rw [nol_gmD, nols_keys net]
    rfl
theorem keys_lst {B H' : Hp} {vs : List V} {net : Net} (r : Rps (Nw B B) H' vs [.list (net.map fun x => gmD x.1)]) : ∃ l xs, vs = [.ref l] ∧ H' l = some (.lst xs) ∧ Rps (fun _ => False) H' xs ((net.map (·.1)).map gmD) := by
  cases r with
  | cons r1 r2 =>
    cases r2
    cases r1 with
    | lst g h0 rs =>
      refine ⟨_, _, rfl, h0, ?_⟩
      rw [List.map_map]
      exact rs.pure _ _ (nols_keys net)
def SpWorths (P : Program) (w : World) (Pw : Addr) : SpQ := fun vs H Q => ∃ (h : Hall) (rg : Bool) (b : Gm) (net : Net) (v0 v1 : V) (p : Addr) (xs : List Ent) (G : Addr → Prop), vs = [v0, v1, .ref p] ∧ Is H v0 h.d ∧ Is H v1 (wD rg) ∧ H p = some (ND P w p xs) ∧ DE gmD turnsD G H xs net ∧
  h.Ok ∧ NetOk h b net ∧ Few h ∧ TabS H Pw (("worths_of" : Str) ++ ".<locals>." ++ "<lambda>") ∧
  ∀ pf ys H', Ex (Wo Pw H) H' → TabS H' Pw (("worths_of" : Str) ++ ".<locals>." ++ "<lambda>") → H pf = none → H' pf = some (ND P w pf ys) → DE gmD frD (fun a => H a = none ∧ a ≠ pf) H' ys (worthsL h rg (order h net)) → Q (.ref pf) H'
theorem ok_worths_of {c Pw : Addr} (M : Md mg) (TB : TabB base mg c Pw) (D : FDefC K mg "worths_of" s_worths_of c) (F1 : Fn P w K mg base 2 "rank_of" 2 PreRankOf) (F2 : Fn P w K mg base 2 "better" 2 PreBetter) (F3 : Fn P w K mg base 2 "worse" 2 PreWorse) (F4 : Fn P w K mg base 3 "worth_if" 3 PreWorthIf) : FnQ P w K mg base 11 "worths_of" 3 (SpWorths P w Pw) := by
  refine fnQ_mkC D sc_worths_of (fun _ _ _ _ _ _ us hl => match us, hl with | [_, _, _], _ => rfl) rfl (fun vs H Q hsp => ?_) ?_
  · obtain ⟨h, rg, b, net, v0, v1, p, xs, G, rfl, _⟩ := hsp
    rfl
  rintro X A outer s f E H vs Q hX hr ⟨h, rg, b, net, v0, v1, p, xs, G, rfl, i0, i1, hp, de, o, no, fw, tab, q⟩
  subst hX
  have hN := sc_worths_of.nd
  refine run_newN 3 (fun pf hpf => ?_) hN
  have hppf : p ≠ pf := ne_of_none hp hpf
  have k1 : Ex H (upd H pf (ND P w pf [])) := Ex.new hpf
  have hpf1 : upd H pf (ND P w pf []) pf = some (ND P w pf []) := upd_same
  have tab1 := k1.tabs _ _ tab
  have nn1 : ∀ b, upd H pf (ND P w pf []) b = none → H b = none := fun b z => by
    by_cases e : b = pf
    · rw [e, upd_same] at z; cases z
    · rw [upd_ne e] at z; exact z
  have hp1 := k1.nd hp
  have de1 := de.mono (fun _ z => z) k1
  have i01 := i0.up k1
  have i11 := i1.up k1
  show Run _ _ _ _ (upd H pf (ND P w pf []))
  generalize upd H pf (ND P w pf []) = H1 at k1 hpf1 tab1 nn1 hp1 de1 i01 i11
  refine run_forE (Fr := fun H' => Ex (Wo Pw H1) H' ∧ TabS H' Pw (("worths_of" : Str) ++ ".<locals>." ++ "<lambda>")) (ds := (order h net).map gmD) 4 (fun Q1 q1 => ?_) (fun l xs2 H2 fr hl rl => ?_) hN
  · refine Evl.of (pe_revL Evl.pe) (evl_sortedLam (gs := net.map (·.1)) (fk := gmD) (kd := rankD h) (y := "one") (j := 5) TB rfl ⟨rfl, rfl, rfl, by decide +kernel, by decide +kernel, rfl, ?fr⟩ rfl hN rfl (hr.mono (by decide)) rfl nn1 tab1 ?hal ?hsk ?hdp ?ha (fun u pm c' ctv => rfl) ?turn ?q (hm := M.z_sorted))
    case hal =>
      intro d hd d' hd'
      obtain ⟨g, _, rfl⟩ := List.mem_map.mp hd
      obtain ⟨g', _, rfl⟩ := List.mem_map.mp hd'
      exact rank_alike h g g'
    case hsk =>
      refine .inl fun d hd => ?_
      obtain ⟨g, _, rfl⟩ := List.mem_map.mp hd
      exact ⟨_, _, rfl⟩
    case hdp =>
      intro g hg
      exact rank_depth h g
    case ha =>
      intro Q2 q2
      exact (eva_cons (ev_listN 2 M.z_list rfl hp1 de1) eva_nil) H1 (Ex.refl _) Q2 fun vs H' e r => by
        obtain ⟨l, xs, rfl, z, r⟩ := keys_lst r
        exact q2 l xs H' e z r
    case turn =>
      intro g hg f1 c' s1 H3 v Q2 e3 iv q2
      obtain ⟨e, he, rfl⟩ := List.mem_map.mp hg
      have og := no.ok e.1 (List.mem_map.mpr ⟨e, he, rfl⟩)
      have j0 := is_wo tab1 e3 i01
      have hrk : Room 3 (A.deeper (envOfC "worths_of" (defScope s_worths_of) s.heap.objs.size f (.ref c))).in1.in1 := ((hr.mono (by decide : 5 ≤ 10) : Room 5 _).in1 : Room 4 _).in1
      refine Ev.run (B := H3) (d := rankD h e.1) ?_ (Ex.refl _) fun w H4 k r => q2 w H4 k r
      exact ev_call F1 (hrk.deeper _) (.mk h e.1 o og) (eva_cons (ev_var 0 rfl j0) (eva_cons (ev_var 5 rfl iv) eva_nil))
    case q =>
      intro l ys H' e2 t2 hl0 hl r
      refine ⟨l, ys, rfl, .inl (.inl hl), fun l2 hl2 => ?_⟩
      have e5 : Ex H' (upd H' l2 (.lst ys.reverse)) := Ex.new hl2
      exact q1 l2 ys.reverse _ ⟨e2.trans e5, e5.tabs _ _ t2⟩ upd_same (rps_order r hl2)
    case fr =>
      intro z hz e
      simp only [List.mem_cons, List.mem_nil_iff, or_false] at hz
      rcases hz with rfl | rfl | rfl
      · cases e
      · exact .inl rfl
      · cases e
  · obtain ⟨eF, t2⟩ := fr
    have j0 := is_wo tab1 eF i01
    have j1 := is_wo tab1 eF i11
    have hp2 := nd_woE tab1 eF hp1
    have hpf2 := nd_woE tab1 eF hpf1
    have de2 := de_wo tab1 eF ((de_has de).mono (fun _ z => z) k1)
    refine ⟨fun i σ' H' => Ex (Wo Pw H) H' ∧ TabS H' Pw (("worths_of" : Str) ++ ".<locals>." ++ "<lambda>") ∧ H' l = some (.lst xs2) ∧ Ex (Wo pf H2) H' ∧ ∃ u4 u6 ys, σ' = [some v0, some v1, some (.ref p), some (.ref pf), u4, none, u6, none, none, none] ∧ H' pf = some (ND P w pf ys) ∧ DE gmD frD (fun a => H a = none ∧ a ≠ pf) H' ys (worthsL h rg ((order h net).take i)) ∧ ∀ e ∈ worthsL h rg ((order h net).take i), Sm e.2,
      ⟨(Ex.woT2 k1 tab).trans eF, t2, hl, wo_ex, none, none, [], rfl, hpf2, .nil, fun e z => nomatch z⟩, fun i σ' H' z => z.2.2.1, ?_, ?_⟩
    · rintro i d v σ' H3 hd ⟨eH, t3, hl3, e3, u4, u6, ys, rfl, hpf3, de3, sm3⟩ rv
      rw [List.getElem?_map] at hd
      obtain ⟨g, hgi, rfl⟩ := Option.map_eq_some_iff.mp hd
      have eo : order h net = (order h net).take i ++ g :: (order h net).drop (i + 1) := by
        have hi := (List.getElem?_eq_some_iff.mp hgi).1
        have z := (List.getElem?_eq_some_iff.mp hgi).2
        rw [← z, List.getElem_cons_drop_succ_eq_drop]
        exact (List.take_append_drop i _).symm
      have gin : g ∈ net.map (·.1) := (order_perm h net).mem_iff.mp (List.mem_of_getElem? hgi)
      have og := no.ok g gin
      have keys := worthsL_keys h rg ((order h net).take i)
      have lat : ∀ t ∈ turnsOf h g, ∀ g' ∈ t.2, g' ∈ (worthsL h rg ((order h net).take i)).map (·.1) := fun t ht g' hg' => by
        rw [keys]
        exact order_split o no eo ht hg'
      have nt : (order h net).take (i + 1) = (order h net).take i ++ [g] := by
        rw [List.take_add_one, hgi]
        rfl
      have up : ∀ {G' : Addr → Prop} {vv : V} {d : PyData}, nol d = true → Rp G' H2 vv d → Rp (fun _ => False) H3 vv d := fun {G' vv d} hn r => (Rp.wo (Rp.pure d vv hn r : Rp (fun _ => False) H2 vv d) hpf2 (nd_mu P w pf []) fun z => z).mono (fun _ z => z) e3
      have z0 : Is H3 v0 h.d := (up (nol_hall h) j0).is
      have z1 : Is H3 v1 (wD rg) := (up (by cases rg <;> rfl) j1).is
      have z4 : Rp (fun _ => False) H3 v (gmD g) := up (nol_gmD g) rv
      have hpn : Wo pf H2 p = some (ND P w p xs) := by rw [wo_ne hppf]; exact hp2
      have hp3 : H3 p = some (ND P w p xs) := e3.nd hpn
      obtain ⟨tv, htv⟩ := lk_mem gin
      have tve : tv = turnsOf h g := no.val (g, tv) (by
        unfold lk at htv
        obtain ⟨x, hx, rfl⟩ := Option.map_eq_some_iff.mp htv
        have h1 := List.mem_of_find?_eq_some hx
        have h2 : x.1 = g := of_decide_eq_true (List.find?_some (p := fun x : Gm × List (Nat × List Gm) => decide (x.1 = g)) hx)
        rw [show (g, x.2) = x by rw [← h2]]
        exact h1)
      have de3' : DE gmD turnsD (fun a => H a ≠ none) H3 xs net := (de2.wo hpf2 (nd_mu P w pf []) fun z => z hpf).mono (fun _ z => z) e3
      subst tve
      have hu := hr.un
      generalize hfn : worthsL h rg ((order h net).take i) = fnd at keys lat de3 sm3
      refine run_setLc (B := H3) 6 (lcP (own := [("fare", 8), ("laters", 9)]) (turnsOf h g) (fun t => .int (t.1 : Int)) (fun t => .list (t.2.map gmD)) (fun t => frD (turnB rg fnd t.2)) 8 9 hN (blkOk_by (N := N_worths_of) (sc := defScope s_worths_of) (by decide +kernel))
        (evi_list (Ev.cast (ev_getN (fv := turnsD) 2 ke_gm (by show _ + 9 < _; omega) rfl hp3 de3' (ev_var 4 rfl z4.is) htv) rfl)) (fun t ht u vl B3 kB iu iv s0 H0 C cl fp => ?_) (sl_of ?_)) (Ex.refl _) (fun vs4 H4 k4 r4 => ?_)
      case refine_2 =>
        have : (turnsOf h g).length ≤ h.fs.length := by
          unfold turnsOf
          refine Nat.le_trans (List.length_filter_le _ _) ?_
          rw [List.length_map, List.length_range]
          exact Nat.le_refl _
        have := o.n4
        omega
      case refine_1 =>
        have et : t.2 = t.2.headD ([], []) :: t.2.drop 1 := by rw [(turn_sub ht).2]; exact laters_split _ _ _
        have lt := lat t ht
        have hu9 : (cxOf CX0 P w K mg base N_worths_of "worths_of" (defScope s_worths_of) f (.ref c) A outer s H E).nox.A.units + 9 < cLine := by omega
        have sm1 : ∀ g' ∈ t.2, Sm (lkF fnd g') := fun g' hg' => sm3 _ (lkF_in (lt g' hg'))
        refine ev_call (F2.mono (by decide : 2 ≤ 10)) hr (.mk rg (lkF fnd (t.2.headD ([], []))) ((t.2.drop 1).map (lkF fnd)) (sm1 _ (by rw [et]; exact List.mem_cons_self)) fun y hy => ?_) (eva_cons (ev_var 1 rfl (z1.up kB)) (eva_cons (Ev.cast (LcJ.ev (lcN (own := [("later", 7)]) t.2 gmD (fun g' => frD (lkF fnd g')) 7 hN (blkOk_by (by rfl)) (evi_list (ev_var 9 rfl iv))
          (fun g' hg' v2 B4 kB4 iv2 s1 H5 C2 cl2 fp2 => ev_getN 3 ke_gm hu9 rfl ((kB.trans kB4).nd hpf3) (de3.mono (fun _ z => z) (kB.trans kB4)) (ev_var 7 rfl iv2) (lkF_of (lt g' hg'))) (sl_of ?_))) ?_) eva_nil))
        · obtain ⟨g', hg', rfl⟩ := List.mem_map.mp hy
          exact sm1 g' (List.mem_of_mem_drop hg')
        · rw [(turn_sub ht).2]
          have := laters_len h g t.1
          omega
        · refine congrArg PyData.list ?_
          have e2 : (lkF fnd (t.2.headD ([], [])) :: (t.2.drop 1).map (lkF fnd)) = t.2.map (lkF fnd) := by
            conv => rhs; rw [et]
            rfl
          rw [e2, List.map_map]
          rfl
      have hu9 : (cxOf CX0 P w K mg base N_worths_of "worths_of" (defScope s_worths_of) f (.ref c) A outer s H E).nox.A.units + 9 < cLine := by omega
      have gn : g ∉ fnd.map (·.1) := by
        rw [keys]
        intro hin
        have nd := (order_perm h net).nodup_iff.mpr no.nd
        rw [eo] at nd
        exact (List.nodup_append.mp nd).2.2 g hin g List.mem_cons_self rfl
      have tl : (turnsOf h g).length ≤ 4 := by
        have : (turnsOf h g).length ≤ h.fs.length := by
          unfold turnsOf
          refine Nat.le_trans (List.length_filter_le _ _) ?_
          rw [List.length_map, List.length_range]
          exact Nat.le_refl _
        have := o.n4
        omega
      refine run_putN (B := H4) 3 ke_gm hu9 rfl (k4.nd hpf3) (de3.mono (fun _ z => z) k4) (ev_call (F3.mono (by decide : 2 ≤ 10)) hr (.mk rg (worthIf h rg g) ((turnsOf h g).map fun t => turnB rg fnd t.2) (og.sm o rg) fun y hy => ?sm)
        (eva_cons (ev_var 1 rfl (z1.up k4)) (eva_cons (Ev.cast (ev_lst (eva_cons (ev_call (F4.mono (by decide : 3 ≤ 10)) hr (.mk h rg g o og) (eva_cons (ev_var 0 rfl (z0.up k4)) (eva_cons (ev_var 1 rfl (z1.up k4)) (eva_cons (ev_var 4 rfl (z4.is.up k4)) eva_nil)))) (eva_starL (ev_var 6 rfl r4.is) eva_nil)) (sl_le (by simp; omega))) ?shape) eva_nil)))
        (ev_var 4 rfl (z4.is.up k4)) (Ex.refl _) gn ?len (fun vv bk H5 k5 r5 rb => ?fin)
      case sm =>
        obtain ⟨t, ht, rfl⟩ := List.mem_map.mp hy
        refine turnB_sm sm3 (lat t ht) ?_
        rw [(turn_sub ht).2, laters_split]
        exact fun z => nomatch z
      case shape =>
        rw [List.append_nil, List.map_cons, List.map_map]
        rfl
      case len =>
        have l1 := de3.len
        have l2 : fnd.length = ((order h net).take i).length := by rw [← keys, List.length_map]
        have l3 := (order_perm h net).length_eq
        have l4 := keys_few o fw no.nd no.ok
        rw [List.length_take] at l2
        have fw' : (allG h).length < 20000 := fw
        exact sl_of (by omega)
      case fin =>
        refine run_nil ?_
        have mp := nd_mu P w pf ys
        have hpf5 := (k4.trans k5).nd hpf3
        have e5 := k4.trans k5
        have wn : Wo Pw H pf = none := by
          unfold Wo
          split
          · rfl
          · exact hpf
        refine ⟨(eH.trans e5).mut wn hpf5 mp, tab_but (e5.tabs _ _ t3) hpf5 mp fun b x hb hx => by rw [upd_ne hb]; exact hx, ?f3, ?f4, some v, some vs4, _, rfl, upd_same, ?f5, ?f6⟩
        case f3 =>
          rw [upd_ne (fun z => by rw [z, hpf3] at hl3; exact (nomatch hl3))]
          exact e5.lst hl3
        case f4 => exact (e3.trans e5).mut wo_self hpf5 mp
        case f5 =>
          rw [nt, worthsL_snoc, hfn]
          exact ((de3.mono (fun _ z => z) e5).snoc rb (r5.pure _ _ rfl)).updp hpf5 mp fun z => z.2 rfl
        case f6 =>
          rw [nt, worthsL_snoc, hfn]
          intro e he
          rcases List.mem_append.mp he with q | q
          · exact sm3 e q
          · rw [List.mem_singleton.mp q]
            exact valW_sm o og sm3 lat
    · rintro σ' H' ⟨eH, t3, hl3, e3, u4, u6, ys, rfl, hpf3, de3, sm3⟩
      rw [List.length_map, List.take_length] at de3
      exact run_retV 3 rfl (q pf ys H' eH t3 hpf hpf3 de3)
end Bl

set_option Elab.async false
set_option linter.all false
set_option autoImplicit false
set_option maxRecDepth 100000
set_option maxHeartbeats 400000
namespace Bl
open PySem PySem.Spec PyProof.Rows L2 LamX StX
/-! ### the worst and the best of some worths -/
theorem worseF_all {rg : Bool} : ∀ {x : Int × Int} {xs : List (Int × Int)}, Ps x → (∀ y ∈ xs, Ps y) → Ps (worseF rg x xs) ∧ nw rg x (worseF rg x xs) ∧ ∀ y ∈ xs, nw rg y (worseF rg x xs)
  | x, [], h, _ => ⟨h, nw_refl _ _, fun _ z => nomatch z⟩
  | x, y :: xs, h, k => by
    have hy := k y List.mem_cons_self
    have hk : ∀ z ∈ xs, Ps z := fun z hz => k z (List.mem_cons_of_mem _ hz)
    unfold worseF
    rw [List.foldl_cons]
    by_cases e : isW rg y x = true
    · rw [if_pos e]
      obtain ⟨a, b, c⟩ := worseF_all (rg := rg) (x := y) (xs := xs) hy hk
      refine ⟨a, nw_trans h hy a (nw_of e) b, fun z hz => ?_⟩
      rcases List.mem_cons.mp hz with q | q
      · rw [q]; exact b
      · exact c z q
    · rw [if_neg e]
      obtain ⟨a, b, c⟩ := worseF_all (rg := rg) (x := x) (xs := xs) h hk
      refine ⟨a, b, fun z hz => ?_⟩
      rcases List.mem_cons.mp hz with q | q
      · rw [q]; exact nw_trans hy h a (Bool.eq_false_iff.mpr e) b
      · exact c z q
theorem worseF_mem {rg : Bool} : ∀ {x : Int × Int} {xs : List (Int × Int)}, worseF rg x xs = x ∨ worseF rg x xs ∈ xs
  | x, [] => .inl rfl
  | x, y :: xs => by
    unfold worseF
    rw [List.foldl_cons]
    by_cases e : isW rg y x = true
    · rw [if_pos e]
      rcases worseF_mem (rg := rg) (x := y) (xs := xs) with q | q
      · exact .inr (List.mem_cons.mpr (.inl q))
      · exact .inr (List.mem_cons_of_mem _ q)
    · rw [if_neg e]
      exact (worseF_mem (rg := rg) (x := x) (xs := xs)).imp id fun q => List.mem_cons_of_mem _ q
theorem betterF_all {rg : Bool} : ∀ {x : Int × Int} {xs : List (Int × Int)}, Ps x → (∀ y ∈ xs, Ps y) → Ps (betterF rg x xs) ∧ nw rg (betterF rg x xs) x ∧ ∀ y ∈ xs, nw rg (betterF rg x xs) y
  | x, [], h, _ => ⟨h, nw_refl _ _, fun _ z => nomatch z⟩
  | x, y :: xs, h, k => by
    have hy := k y List.mem_cons_self
    have hk : ∀ z ∈ xs, Ps z := fun z hz => k z (List.mem_cons_of_mem _ hz)
    unfold betterF
    rw [List.foldl_cons]
    by_cases e : isW rg x y = true
    · rw [if_pos e]
      obtain ⟨a, b, c⟩ := betterF_all (rg := rg) (x := y) (xs := xs) hy hk
      refine ⟨a, nw_trans a hy h b (nw_of e), fun z hz => ?_⟩
      rcases List.mem_cons.mp hz with q | q
      · rw [q]; exact b
      · exact c z q
    · rw [if_neg e]
      obtain ⟨a, b, c⟩ := betterF_all (rg := rg) (x := x) (xs := xs) h hk
      refine ⟨a, b, fun z hz => ?_⟩
      rcases List.mem_cons.mp hz with q | q
      · rw [q]; exact nw_trans a h hy b (Bool.eq_false_iff.mpr e)
      · exact c z q
theorem betterF_mem {rg : Bool} : ∀ {x : Int × Int} {xs : List (Int × Int)}, betterF rg x xs = x ∨ betterF rg x xs ∈ xs
  | x, [] => .inl rfl
  | x, y :: xs => by
    unfold betterF
    rw [List.foldl_cons]
    by_cases e : isW rg x y = true
    · rw [if_pos e]
      rcases betterF_mem (rg := rg) (x := y) (xs := xs) with q | q
      · exact .inr (List.mem_cons.mpr (.inl q))
      · exact .inr (List.mem_cons_of_mem _ q)
    · rw [if_neg e]
      exact (betterF_mem (rg := rg) (x := x) (xs := xs)).imp id fun q => List.mem_cons_of_mem _ q
/-! ### counts by parts -/
theorem drop_more_lt {cs : List Int} {k m : Nat} {x : Int} (h : k < m) : (more cs k x).drop m = cs.drop m := by
  unfold more
  rw [List.drop_set, if_pos h]
theorem drop_more_ge {cs : List Int} {k m : Nat} {x : Int} (h : m ≤ k) : (more cs k x).drop m = more (cs.drop m) (k - m) x := by
  unfold more
  rw [List.drop_set, if_neg (by omega)]
  congr 2
  rw [List.getD_eq_getElem?_getD, List.getD_eq_getElem?_getD, List.getElem?_drop]
  congr 3
  omega
theorem take_more_le {cs : List Int} {k m : Nat} {x : Int} (h : m ≤ k) : (more cs k x).take m = cs.take m := by
  unfold more
  rw [List.take_set, List.set_eq_of_length_le (by rw [List.length_take]; omega)]
theorem take_more_gt {cs : List Int} {k m : Nat} {x : Int} (h : k < m) (hk : k < cs.length) : ((more cs k x).take m).sum = (cs.take m).sum + x := by
  have e : (more cs k x).take m = more (cs.take m) k x := by
    unfold more
    rw [List.take_set]
    congr 2
    rw [List.getD_eq_getElem?_getD, List.getD_eq_getElem?_getD, List.getElem?_take, if_pos h]
  rw [e, more_sum x (by rw [List.length_take]; omega)]
theorem sum_td (cs : List Int) (m : Nat) : cs.sum = (cs.take m).sum + (cs.drop m).sum := by
  conv => lhs; rw [← List.take_append_drop m cs]
  rw [List.sum_append]
theorem seen_drop_lo {s : Int} {cs : List Int} {k m : Nat} (h : k < m) (hk : k < cs.length) (hc : ∀ c ∈ cs, 0 ≤ c) : (seenW s cs k).drop m = cs.drop m := by
  unfold seenW
  split
  · exact drop_more_lt h
  · have hpos : 0 < (more cs k 1).getD k 0 := by
      rw [more_getD_self hk]
      have := hc _ (gD_mem hk)
      omega
    have hle := cheap_le (cs := more cs k 1) (by rw [more_length]; exact hk) hpos
    rw [drop_more_lt (by omega), drop_more_lt h]
theorem seen_drop_hi {s : Int} {cs : List Int} {k m : Nat} (h : m ≤ k) (hk : k < cs.length) (hp : cs.sum + 1 > s → 0 < (cs.take m).sum) (hc : ∀ c ∈ cs, 0 ≤ c) : (seenW s cs k).drop m = more (cs.drop m) (k - m) 1 := by
  unfold seenW
  have ms := more_sum (cs := cs) (k := k) 1 hk
  split
  · exact drop_more_ge h
  · rename_i hgt
    obtain ⟨c, hcm, hc0⟩ := pos_of_sum (cs.take m) (hp (by omega))
    obtain ⟨i, hi, e⟩ := List.getElem_of_mem hcm
    rw [List.length_take] at hi
    have him : i < m := by omega
    have hic : i < cs.length := by omega
    have e2 : (more cs k 1).getD i 0 = c := by
      unfold more
      rw [gD (by rw [List.length_set]; exact hic), List.getElem_set_ne (by omega), ← e, List.getElem_take]
    have hle := cheap_le (cs := more cs k 1) (k := i) (by rw [more_length]; exact hic) (by rw [e2]; exact hc0)
    rw [drop_more_lt (by omega), drop_more_ge h]
/-! ### what a nested rule keeps true -/
structure Nst (h : Hall) (ls : List Int) (g : Gm) : Prop where
  cap : ∀ j, j < h.fs.length → (g.1.take (j + 1)).sum ≤ ls.getD j 0
  ex : ∃ m, m ≤ h.fs.length ∧ (m = 0 ∨ (g.1.take m).sum = ls.getD (m - 1) 0) ∧ g.1.drop m = g.2.drop m
theorem zeros_take (n m : Nat) : ((zeros n).take m).sum = 0 := by
  unfold zeros
  rw [List.take_replicate]
  generalize min m n = j
  induction j with
  | zero => rfl
  | succ j ih => rw [List.replicate_succ, List.sum_cons, ih]; rfl
theorem Nst.start {h : Hall} {ls : List Int} (l : LimOk h ls) : Nst h ls (start3 h).1 :=
  ⟨fun j hj => by
    show ((zeros _).take _).sum ≤ _
    rw [zeros_take]
    exact (l.rg _ (gD_mem (by rw [l.len]; exact hj))).1, 0, Nat.zero_le _, .inl rfl, rfl⟩
theorem Nst.step {h : Hall} (o : h.Ok) {ls : List Int} (l : LimOk h ls) {g : Gm} (og : GmOk h g) (n : Nst h ls g) {k : Nat} (hk : k < h.fs.length) : Nst h ls (stepF h ls g.1 k, seenW h.s g.2 k) := by
  obtain ⟨m, hm, hq, hd⟩ := n.ex
  have k1 : k < g.1.length := by rw [og.l1]; exact hk
  have k2 : k < g.2.length := by rw [og.l2]; exact hk
  have nn1 : ∀ i, 0 ≤ (g.1.take i).sum := fun i => sum_nonneg fun c hc => og.p1 c (List.mem_of_mem_take hc)
  by_cases ht : taken h ls g.1 k = true
  · have es : stepF h ls g.1 k = more g.1 k 1 := by unfold stepF; rw [if_pos ht]
    unfold taken at ht
    rw [Bool.and_eq_true, decide_eq_true_iff] at ht
    obtain ⟨hs, hl⟩ := ht
    rw [letsB_iff] at hl
    have hmk : m ≤ k := by
      apply Nat.le_of_not_lt
      intro hlt
      rcases hq with q | q
      · omega
      · have := hl (m - 1) (by omega) (by rw [og.l1]; omega)
        rw [show m - 1 + 1 = m by omega, take_more_gt hlt k1] at this
        omega
    refine ⟨fun j hj => ?_, m, hm, ?_, ?_⟩
    · show ((stepF h ls g.1 k).take (j + 1)).sum ≤ _
      rw [es]
      rcases Nat.lt_or_ge j k with q | q
      · rw [take_more_le (by omega)]
        exact n.cap j hj
      · exact hl j q (by rw [og.l1]; exact hj)
    · refine hq.imp id fun q => ?_
      show ((stepF h ls g.1 k).take m).sum = _
      rw [es, take_more_le hmk]
      exact q
    · show (stepF h ls g.1 k).drop m = (seenW h.s g.2 k).drop m
      rw [es, drop_more_ge hmk, hd]
      refine (seen_drop_hi hmk k2 (fun hgt => ?_) og.p2).symm
      have e1 := sum_td g.1 m
      have e2 := sum_td g.2 m
      have := nn1 m
      rw [hd] at e1
      omega
  · have es : stepF h ls g.1 k = g.1 := by unfold stepF; rw [if_neg ht]
    suffices hz : ∃ m', k < m' ∧ m' ≤ h.fs.length ∧ (g.1.take m').sum = ls.getD (m' - 1) 0 ∧ g.1.drop m' = g.2.drop m' by
      obtain ⟨m', a, b, c, d⟩ := hz
      refine ⟨fun j hj => ?_, m', b, .inr ?_, ?_⟩
      · show ((stepF h ls g.1 k).take (j + 1)).sum ≤ _
        rw [es]; exact n.cap j hj
      · show ((stepF h ls g.1 k).take m').sum = _
        rw [es]; exact c
      · show (stepF h ls g.1 k).drop m' = (seenW h.s g.2 k).drop m'
        rw [es, seen_drop_lo a k2 og.p2]; exact d
    by_cases hs : g.1.sum < h.s
    · have hl : ¬ letsB ls g.1 k = true := fun z => ht (by unfold taken; rw [z, decide_eq_true hs]; rfl)
      rw [letsB_iff] at hl
      have : ∃ j, k ≤ j ∧ j < g.1.length ∧ ls.getD j 0 < ((more g.1 k 1).take (j + 1)).sum := by
        apply Classical.byContradiction
        intro hn
        apply hl
        intro j h1 h2
        apply Int.not_lt.mp
        intro h3
        exact hn ⟨j, h1, h2, h3⟩
      obtain ⟨j, h1, h2, h3⟩ := this
      rw [take_more_gt (by omega) k1] at h3
      rw [og.l1] at h2
      have h4 := n.cap j h2
      rcases Nat.lt_or_ge j m with q | q
      · refine ⟨m, by omega, hm, hq.resolve_left (by omega), hd⟩
      · refine ⟨j + 1, by omega, by omega, by rw [Nat.add_sub_cancel]; omega, ?_⟩
        have e := congrArg (List.drop (j + 1 - m)) hd
        rw [List.drop_drop, List.drop_drop, show m + (j + 1 - m) = j + 1 by omega] at e
        exact e
    · have n1 := o.n1
      have e1 : g.1.take h.fs.length = g.1 := List.take_of_length_le (by rw [og.l1]; exact Nat.le_refl _)
      have c := n.cap (h.fs.length - 1) (by omega)
      rw [show h.fs.length - 1 + 1 = h.fs.length by omega, e1] at c
      have r := (l.rg _ (gD_mem (l := ls) (i := h.fs.length - 1) (by rw [l.len]; omega))).2
      have s1 := og.s1
      refine ⟨h.fs.length, hk, Nat.le_refl _, by rw [e1]; omega, ?_⟩
      rw [List.drop_of_length_le (by rw [og.l1]; exact Nat.le_refl _), List.drop_of_length_le (by rw [og.l2]; exact Nat.le_refl _)]
theorem reach_nst {h : Hall} (o : h.Ok) {ls : List Int} (l : LimOk h ls) {rs : Bool} {p : S3} (r : Reach h ls rs p) : Nst h ls p.1 := by
  induction r with
  | start => exact Nst.start l
  | @step p k r hk ih => exact ih.step o l (reach_ok o r).1 (fares3_lt hk).1
/-! ### worths -/
theorem wo_td : ∀ (m : Nat) (fs cs : List Int), wo fs cs = wo (fs.take m) (cs.take m) + wo (fs.drop m) (cs.drop m)
  | 0, fs, cs => by simp [wo]
  | m + 1, [], cs => by simp [wo]
  | m + 1, f :: fs, [] => by simp [wo]
  | m + 1, f :: fs, c :: cs => by
    rw [List.take_succ_cons, List.take_succ_cons, List.drop_succ_cons, List.drop_succ_cons, wo_cons, wo_cons, wo_td m fs cs]
    omega
theorem wo_le : ∀ {fs cs : List Int} {F : Int}, cs.length = fs.length → (∀ f ∈ fs, f ≤ F) → (∀ c ∈ cs, 0 ≤ c) → wo fs cs ≤ F * cs.sum
  | [], [], F, _, _, _ => by simp [wo]
  | [], _ :: _, _, h, _, _ => by simp at h
  | _ :: _, [], _, h, _, _ => by simp at h
  | f :: fs, c :: cs, F, h, hf, hc => by
    have ih := wo_le (fs := fs) (cs := cs) (F := F) (by simpa using h) (fun x hx => hf x (List.mem_cons_of_mem _ hx)) fun x hx => hc x (List.mem_cons_of_mem _ hx)
    have := Int.mul_le_mul_of_nonneg_right (hf f List.mem_cons_self) (hc c List.mem_cons_self)
    rw [wo_cons, List.sum_cons, Int.mul_add]
    omega
theorem wo_nn : ∀ {fs cs : List Int}, (∀ f ∈ fs, 0 ≤ f) → (∀ c ∈ cs, 0 ≤ c) → 0 ≤ wo fs cs
  | [], _, _, _ => by simp [wo]
  | _ :: _, [], _, _ => by simp [wo]
  | f :: fs, c :: cs, hf, hc => by
    have ih := wo_nn (fs := fs) (cs := cs) (fun x hx => hf x (List.mem_cons_of_mem _ hx)) fun x hx => hc x (List.mem_cons_of_mem _ hx)
    have := Int.mul_nonneg (hf f List.mem_cons_self) (hc c List.mem_cons_self)
    rw [wo_cons]
    omega
theorem abel : ∀ (fs a b : List Int) (c x : Int), a.length = fs.length → b.length = fs.length → fs.Pairwise (· ≤ ·) → (∀ f ∈ fs, x ≤ f) → 0 ≤ c → (∀ j, j ≤ fs.length → 0 ≤ c + (b.take j).sum - (a.take j).sum) → c + b.sum - a.sum = 0 → wo fs b + c * x ≤ wo fs a
  | [], a, b, c, x, ha, hb, _, _, _, _, he => by
    have ea := List.eq_nil_of_length_eq_zero ha
    have eb := List.eq_nil_of_length_eq_zero hb
    subst ea
    subst eb
    have : c = 0 := by simpa using he
    rw [this]
    simp [wo]
  | f :: fs, [], _, _, _, ha, _, _, _, _, _, _ => by simp at ha
  | f :: fs, _ :: _, [], _, _, _, hb, _, _, _, _, _ => by simp at hb
  | f :: fs, a0 :: a, b0 :: b, c, x, ha, hb, hp, hx, hc, hj, he => by
    have hp' := List.pairwise_cons.mp hp
    have h1 := hj 1 (by simp)
    rw [List.take_succ_cons, List.take_succ_cons, List.take_zero, List.take_zero, List.sum_cons, List.sum_cons, List.sum_nil] at h1
    rw [List.sum_cons, List.sum_cons] at he
    have ih := abel fs a b (c + b0 - a0) f (by simpa using ha) (by simpa using hb) hp'.2 hp'.1 (by omega) (fun j hjl => by
      have := hj (j + 1) (by simpa using hjl)
      rw [List.take_succ_cons, List.take_succ_cons, List.sum_cons, List.sum_cons] at this
      omega) (by omega)
    have h2 := Int.mul_le_mul_of_nonneg_left (hx f List.mem_cons_self) hc
    rw [wo_cons, wo_cons]
    have h3 : (c + b0 - a0) * f = c * f + f * b0 - f * a0 := by
      rw [Int.sub_mul, Int.add_mul, Int.mul_comm b0 f, Int.mul_comm a0 f]
    omega
/-- a share in least terms, scaled -/
theorem frac_sc {a b : Int} (hb : 0 < b) : ∃ d : Int, 0 < d ∧ a = d * (frac a b).1 ∧ b = d * (frac a b).2 := by
  have g0 : 0 < Int.gcd a b := Int.gcd_pos_of_ne_zero_right a (by omega)
  refine ⟨(Int.gcd a b : Int), by omega, ?_, ?_⟩
  · unfold frac
    rw [if_neg (by omega)]
    exact (Int.mul_ediv_cancel' (Int.gcd_dvd_left a b)).symm
  · unfold frac
    rw [if_neg (by omega)]
    exact (Int.mul_ediv_cancel' (Int.gcd_dvd_right a b)).symm
theorem nw_worth {rg : Bool} {a b c d : Int} (b0 : 0 ≤ b) (d0 : 0 < d) (cd : c ≤ d) (h1 : b - a ≤ d - c) (h2 : c * b ≤ a * d) : nw rg (worthOf rg a b) (worthOf rg c d) := by
  rw [nw_iff]
  cases rg with
  | true =>
    show (b - a) * 1 ≤ (d - c) * 1
    omega
  | false =>
    show (frac c d).1 * (frac a b).2 ≤ (frac a b).1 * (frac c d).2
    obtain ⟨y, y0, e3, e4⟩ := frac_sc (a := c) d0
    by_cases hb : b = 0
    · have : frac a b = (1, 1) := by unfold frac; rw [if_pos hb]
      rw [this]
      show (frac c d).1 * 1 ≤ 1 * (frac c d).2
      rw [Int.mul_one, Int.one_mul]
      refine Int.le_of_mul_le_mul_left ?_ y0
      rw [← e3, ← e4]
      exact cd
    · obtain ⟨x, x0, e1, e2⟩ := frac_sc (a := a) (by omega : 0 < b)
      refine Int.le_of_mul_le_mul_left ?_ (Int.mul_pos y0 x0)
      have t1 : y * x * ((frac c d).1 * (frac a b).2) = c * b := by
        conv => rhs; rw [e3, e2]
        ac_rfl
      have t2 : y * x * ((frac a b).1 * (frac c d).2) = a * d := by
        conv => rhs; rw [e1, e4]
        ac_rfl
      rw [t1, t2]
      exact h2
theorem nw_same {rg : Bool} {a : Int} (ha : 0 ≤ a) : nw rg (worthOf rg a a) (first rg) := by
  have := nw_worth (rg := rg) (a := a) (b := a) (c := 1) (d := 1) ha (by decide) (by decide) (by omega) (by omega)
  cases rg with
  | true => exact this
  | false => exact this
theorem fs_pair {h : Hall} (o : h.Ok) (m : Nat) : (h.fs.take m).Pairwise (· ≤ ·) := by
  rw [List.pairwise_iff_getElem]
  intro i j hi hj hij
  rw [List.length_take] at hi hj
  rw [List.getElem_take, List.getElem_take]
  have := asc_lt o hij (by omega : j < h.fs.length)
  rw [gD (by omega), gD (by omega)] at this
  exact Int.le_of_lt this
theorem fs_top {h : Hall} (o : h.Ok) {m : Nat} (hm : m < h.fs.length) : ∀ f ∈ h.fs.take (m + 1), f ≤ h.fs.getD m 0 := fun f hf => by
  obtain ⟨i, hi, e⟩ := List.getElem_of_mem hf
  rw [List.length_take] at hi
  rw [List.getElem_take] at e
  rcases Nat.lt_or_ge i m with q | q
  · have := asc_lt o q hm
    rw [gD (by omega), e] at this
    omega
  · have : i = m := by omega
    subst this
    rw [gD hm, e]
    exact Int.le_refl _
theorem worstL_all {h : Hall} (o : h.Ok) (rg : Bool) {ls : List Int} (l : LimOk h ls) : Ps (worstL h rg ls) ∧ nw rg (first rg) (worstL h rg ls) ∧ ∀ k, k < ls.length → nw rg (worthTo h rg ls k) (worstL h rg ls) := by
  obtain ⟨a, b, c⟩ := worseF_all (rg := rg) (x := first rg) (xs := (List.range ls.length).map (worthTo h rg ls)) (first_ps rg) (fun y hy => by
    obtain ⟨k, hk, rfl⟩ := List.mem_map.mp hy
    exact worthOf_ps rg _ _ (worthTo_sm o rg l (List.mem_range.mp hk)).2.2.1)
  exact ⟨a, b, fun k hk => c _ (List.mem_map.mpr ⟨k, List.mem_range.mpr hk, rfl⟩)⟩
/-- at such a state the worth is no worse than the worst told -/
theorem nst_nw {h : Hall} (o : h.Ok) (rg : Bool) {ls : List Int} (l : LimOk h ls) {g : Gm} (og : GmOk h g) (n : Nst h ls g) : nw rg (worthIf h rg g) (worstL h rg ls) := by
  obtain ⟨m, hm, hq, hd⟩ := n.ex
  obtain ⟨wp0, w1, w2⟩ := worstL_all o rg l
  have gp := og.ps o rg
  have fn : ∀ f ∈ h.fs, (0 : Int) ≤ f := fun f hf => by have := o.fr f hf; omega
  cases m with
  | zero =>
    rw [List.drop_zero, List.drop_zero] at hd
    refine nw_trans gp (first_ps rg) wp0 ?_ w1
    unfold worthIf
    rw [← hd]
    exact nw_same (og.w1 o).1
  | succ J =>
    have hq := hq.resolve_left (by omega)
    rw [Nat.add_sub_cancel] at hq
    have hJ : J < h.fs.length := by omega
    have hJl : J < ls.length := by rw [l.len]; exact hJ
    refine nw_trans gp (worthOf_ps rg _ _ (worthTo_sm o rg l hJl).2.2.1) wp0 ?_ (w2 J hJl)
    obtain ⟨c0, _, d0, _⟩ := worthTo_sm o rg l hJl
    show nw rg (worthIf h rg g) (worthOf rg (wp ((parts ls).take (J + 1)) h.fs) (h.s * h.fs.getD J 0))
    unfold worthIf
    have fpos : 1 ≤ h.fs.getD J 0 := (o.fr _ (gD_mem hJ)).1
    have s1 := o.s1
    have dpos : 0 < h.s * h.fs.getD J 0 := Int.mul_pos (by omega) (by omega)
    have top := fs_top o hJ
    have lp : ((parts ls).take (J + 1)).length = (h.fs.take (J + 1)).length := by rw [List.length_take, List.length_take, parts_length, l.len]
    have l1 : (g.1.take (J + 1)).length = (h.fs.take (J + 1)).length := by rw [List.length_take, List.length_take, og.l1]
    have l2 : (g.2.take (J + 1)).length = (h.fs.take (J + 1)).length := by rw [List.length_take, List.length_take, og.l2]
    have lf : (h.fs.take (J + 1)).length = J + 1 := by rw [List.length_take]; omega
    have pw : wp ((parts ls).take (J + 1)) h.fs = wo (h.fs.take (J + 1)) ((parts ls).take (J + 1)) := by
      rw [wp_wo, wo_td (J + 1) h.fs]
      rw [List.take_take, Nat.min_self, List.drop_of_length_le (l := (parts ls).take (J + 1)) (by rw [lp, lf]; exact Nat.le_refl _)]
      have : wo (List.drop (J + 1) h.fs) [] = 0 := by simp [wo]
      omega
    have ps := parts_sum (ls := ls) hJl
    have A := abel (h.fs.take (J + 1)) (g.1.take (J + 1)) ((parts ls).take (J + 1)) 0 0 l1 lp (fs_pair o _) (fun f hf => fn f (List.mem_of_mem_take hf)) (Int.le_refl _) (fun j hj => by
      rw [lf] at hj
      rw [List.take_take, List.take_take, Nat.min_eq_left hj]
      cases j with
      | zero => simp
      | succ j =>
        rw [parts_sum (ls := ls) (by omega : j < ls.length)]
        have := n.cap j (by omega)
        omega) (by rw [ps]; omega)
    rw [← pw] at A
    have T0 : 0 ≤ wo (h.fs.drop (J + 1)) (g.1.drop (J + 1)) := wo_nn (fun f hf => fn f (List.mem_of_mem_drop hf)) fun c hc => og.p1 c (List.mem_of_mem_drop hc)
    have B := wo_le l2 top fun c hc => og.p2 c (List.mem_of_mem_take hc)
    have B0 : 0 ≤ wo (h.fs.take (J + 1)) (g.2.take (J + 1)) := wo_nn (fun f hf => fn f (List.mem_of_mem_take hf)) fun c hc => og.p2 c (List.mem_of_mem_take hc)
    have sd : 0 ≤ (g.2.drop (J + 1)).sum := sum_nonneg fun c hc => og.p2 c (List.mem_of_mem_drop hc)
    have st := sum_td g.2 (J + 1)
    have s2 := og.s2
    have B2 : h.fs.getD J 0 * (g.2.take (J + 1)).sum ≤ h.fs.getD J 0 * h.s := Int.mul_le_mul_of_nonneg_left (by omega) (by omega)
    rw [Int.mul_comm (h.fs.getD J 0) h.s] at B2
    have C := wo_le lp top fun c hc => parts_nn l.row c (List.mem_of_mem_take hc)
    rw [← pw, ps] at C
    have rl := (l.rg _ (gD_mem hJl)).2
    have C2 : h.fs.getD J 0 * ls.getD J 0 ≤ h.fs.getD J 0 * h.s := Int.mul_le_mul_of_nonneg_left rl (by omega)
    rw [Int.mul_comm (h.fs.getD J 0) h.s] at C2
    have e1 := wo_td (J + 1) h.fs g.1
    have e2 := wo_td (J + 1) h.fs g.2
    rw [← hd] at e2
    generalize wo (h.fs.drop (J + 1)) (g.1.drop (J + 1)) = T at *
    generalize wo (h.fs.take (J + 1)) (g.1.take (J + 1)) = a0 at *
    generalize wo (h.fs.take (J + 1)) (g.2.take (J + 1)) = b0 at *
    generalize wp ((parts ls).take (J + 1)) h.fs = c at *
    generalize h.s * h.fs.getD J 0 = d at *
    have i1 : c * b0 ≤ a0 * d := Int.mul_le_mul (by omega) (by omega) B0 (by omega)
    have i2 : c * T ≤ d * T := Int.mul_le_mul_of_nonneg_right (by omega) T0
    rw [e1, e2]
    refine nw_worth (by omega) dpos (by omega) (by omega) ?_
    rw [Int.mul_add, Int.add_mul, Int.mul_comm T d]
    omega
end Bl

set_option Elab.async false
set_option linter.all false
set_option autoImplicit false
set_option maxRecDepth 100000
set_option maxHeartbeats 400000
namespace Bl
open PySem PySem.Spec PyProof.Rows L2 LamX StX
/-! ### the calls that do worst -/
def rowsN (s k : Nat) : List Nat := (List.range (k + 1)).flatMap fun i => List.replicate s i
def goT (s : Int) (ls : List Int) (g : Gm) (k : Nat) : Gm := (stepF ⟨s, []⟩ ls g.1 k, seenW s g.2 k)
/-- behind them: all parts sold, the dearest seen -/
def endT (s : Int) (n : Nat) (ls : List Int) (k : Nat) : Gm := ((parts ls).take (k + 1) ++ zeros (n - (k + 1)), zeros k ++ s :: zeros (n - (k + 1)))
theorem rows_end : ∀ s ∈ [1, 2, 3], ∀ n ∈ [1, 2, 3], ∀ ls ∈ allL ((s : Nat) : Int) n, ∀ k ∈ List.range n, (rowsN s k).foldl (goT s ls) (zeros n, zeros n) = endT s n ls k := by decide +kernel
theorem rows_up : ∀ s ∈ [1, 2, 3], ∀ k ∈ [0, 1, 2], (rowsN s k).Pairwise (· ≤ ·) ∧ ∀ i ∈ rowsN s k, i ≤ k := by decide +kernel
theorem fold_go {h : Hall} {ls : List Int} {rs : Bool} : ∀ (cs : List Nat) (p : S3), (cs.foldl (next3 h ls rs) p).1 = cs.foldl (goT h.s ls) p.1
  | [], _ => rfl
  | c :: cs, p => by
    rw [List.foldl_cons, List.foldl_cons, fold_go cs]
    rfl
theorem fold_in {h : Hall} {ls : List Int} {rs : Bool} {S : List S3} (cl : ∀ p ∈ S, ∀ k ∈ fares3 h rs p.2, next3 h ls rs p k ∈ S) : ∀ (cs : List Nat) (p : S3), p ∈ S → (∀ k ∈ cs, k < h.fs.length ∧ p.2 ≤ (k : Int)) → cs.Pairwise (· ≤ ·) → cs.foldl (next3 h ls rs) p ∈ S
  | [], _, hp, _, _ => hp
  | c :: cs, p, hp, hk, hw => by
    have hc := hk c List.mem_cons_self
    have hw' := List.pairwise_cons.mp hw
    rw [List.foldl_cons]
    refine fold_in cl cs _ (cl p hp c ?_) (fun k hkm => ⟨(hk k (List.mem_cons_of_mem _ hkm)).1, ?_⟩) hw'.2
    · unfold fares3
      have : (mayLo rs p.2).toNat ≤ c := by
        unfold mayLo
        split
        · split <;> omega
        · omega
      exact List.mem_map.mpr ⟨c - (mayLo rs p.2).toNat, List.mem_range.mpr (by omega), by omega⟩
    · have := hw'.1 k hkm
      show (if rs then (c : Int) else -1) ≤ _
      split <;> omega
theorem wo_z : ∀ (fs : List Int) (n : Nat), wo fs (zeros n) = 0
  | [], _ => by simp [wo]
  | _ :: _, 0 => by simp [wo, zeros]
  | f :: fs, n + 1 => by
    have := wo_z fs n
    unfold zeros at *
    rw [List.replicate_succ, wo_cons, this, Int.mul_zero]
    rfl
theorem wo_appz : ∀ (fs cs : List Int) (n : Nat), wo fs (cs ++ zeros n) = wo fs cs
  | fs, [], n => by rw [List.nil_append, wo_z]; simp [wo]
  | [], c :: cs, n => by simp [wo]
  | f :: fs, c :: cs, n => by rw [List.cons_append, wo_cons, wo_cons, wo_appz]
theorem wo_one : ∀ (fs : List Int) (k : Nat) (s : Int) (n : Nat), wo fs (zeros k ++ s :: zeros n) = s * fs.getD k 0
  | [], k, s, n => by simp [wo]
  | f :: fs, 0, s, n => by
    show wo (f :: fs) (s :: zeros n) = _
    rw [wo_cons, wo_z, List.getD_cons_zero, Int.mul_comm]
    omega
  | f :: fs, k + 1, s, n => by
    show wo (f :: fs) (0 :: (zeros k ++ s :: zeros n)) = _
    rw [wo_cons, wo_one fs k s n, List.getD_cons_succ]
    omega
theorem aw_reach {h : Hall} (o : h.Ok) (h3 : h.s ≤ 3) (n3 : h.fs.length ≤ 3) {ls : List Int} (l : LimOk h ls) {rs : Bool} (rg : Bool) {S : List S3} (st : start3 h ∈ S) (cl : ∀ p ∈ S, ∀ k ∈ fares3 h rs p.2, next3 h ls rs p k ∈ S) {k : Nat} (hk : k < h.fs.length) :
    ∃ p ∈ S, worthIf h rg p.1 = worthTo h rg ls k := by
  have s1 := o.s1
  have n1 := o.n1
  have hs : h.s.toNat ∈ [1, 2, 3] := by
    have : h.s.toNat = 1 ∨ h.s.toNat = 2 ∨ h.s.toNat = 3 := by omega
    rcases this with e | e | e <;> rw [e] <;> decide
  have hn : h.fs.length ∈ [1, 2, 3] := by
    have : h.fs.length = 1 ∨ h.fs.length = 2 ∨ h.fs.length = 3 := by omega
    rcases this with e | e | e <;> rw [e] <;> decide
  have hk2 : k ∈ [0, 1, 2] := by
    have : k = 0 ∨ k = 1 ∨ k = 2 := by omega
    rcases this with e | e | e <;> rw [e] <;> decide
  have es : ((h.s.toNat : Nat) : Int) = h.s := by omega
  have hl : ls ∈ allL ((h.s.toNat : Nat) : Int) h.fs.length := by
    rw [es]
    exact row_allL (by omega) _ _ l.row
  have R := rows_end _ hs _ hn ls hl k (List.mem_range.mpr hk)
  rw [es] at R
  have U := rows_up _ hs k hk2
  refine ⟨(rowsN h.s.toNat k).foldl (next3 h ls rs) (start3 h), fold_in cl _ _ st (fun i hi => ⟨?_, ?_⟩) U.1, ?_⟩
  · have := U.2 i hi
    omega
  · show (-1 : Int) ≤ _
    omega
  · unfold worthIf
    rw [fold_go]
    have e : List.foldl (goT h.s ls) (start3 h).1 (rowsN h.s.toNat k) = endT h.s h.fs.length ls k := R
    rw [e]
    show worthOf rg (wo h.fs ((parts ls).take (k + 1) ++ zeros _)) (wo h.fs (zeros k ++ h.s :: zeros _)) = _
    rw [wo_appz, wo_one, ← wp_wo]
    rfl
/-! ### equal worths are the same -/
def Rd1 (rg : Bool) (p : Int × Int) : Prop := Ps p ∧ if rg then p.2 = 1 else Int.gcd p.1 p.2 = 1
theorem first_rd (rg : Bool) : Rd1 rg (first rg) := ⟨first_ps rg, by cases rg <;> decide⟩
theorem worthOf_rd {rg : Bool} {a b : Int} (hb : 0 ≤ b) : Rd1 rg (worthOf rg a b) := by
  refine ⟨worthOf_ps rg a b hb, ?_⟩
  cases rg with
  | true => rfl
  | false =>
    show Int.gcd (frac a b).1 (frac a b).2 = 1
    unfold frac
    split
    · decide
    · rename_i h
      exact Int.gcd_ediv_gcd_ediv_gcd (Int.gcd_pos_of_ne_zero_right a h)
theorem int_cop {a b d : Int} (g : Int.gcd b a = 1) (h : b ∣ a * d) : b ∣ d := by
  have h' := Int.natAbs_dvd_natAbs.mpr h
  rw [Int.natAbs_mul] at h'
  exact Int.natAbs_dvd_natAbs.mp (Nat.Coprime.dvd_of_dvd_mul_left (show Nat.gcd b.natAbs a.natAbs = 1 from g) h')
theorem nw_anti {rg : Bool} {p q : Int × Int} (hp : Rd1 rg p) (hq : Rd1 rg q) (h1 : nw rg p q) (h2 : nw rg q p) : p = q := by
  obtain ⟨a, b⟩ := p
  obtain ⟨c, d⟩ := q
  obtain ⟨p1, p2⟩ := hp
  obtain ⟨q1, q2⟩ := hq
  rw [nw_iff] at h1 h2
  have e : a * d = c * b := by
    cases rg with
    | true =>
      have h1' : a * d ≤ c * b := h1
      have h2' : c * b ≤ a * d := h2
      omega
    | false =>
      have h1' : c * b ≤ a * d := h1
      have h2' : a * d ≤ c * b := h2
      omega
  have b0 : 0 < b := p1
  have d0 : 0 < d := q1
  cases rg with
  | true =>
    have e1 : b = 1 := p2
    have e2 : d = 1 := q2
    subst e1
    subst e2
    rw [Int.mul_one, Int.mul_one] at e
    rw [e]
  | false =>
    have g1 : Int.gcd a b = 1 := p2
    have g2 : Int.gcd c d = 1 := q2
    have db : b ∣ d := int_cop (a := a) (by rw [Int.gcd_comm]; exact g1) ⟨c, by rw [e, Int.mul_comm]⟩
    have bd : d ∣ b := int_cop (a := c) (by rw [Int.gcd_comm]; exact g2) ⟨a, by rw [← e, Int.mul_comm]⟩
    have ebd : b = d := by
      have := Int.le_of_dvd d0 db
      have := Int.le_of_dvd b0 bd
      omega
    subst ebd
    have : a = c := Int.eq_of_mul_eq_mul_right (by omega) e
    rw [this]
/-- the law's own going along finds what is told -/
theorem aw_eq {h : Hall} (o : h.Ok) (h3 : h.s ≤ 3) (n3 : h.fs.length ≤ 3) {ls : List Int} (l : LimOk h ls) {rs rg : Bool} {F : Int × Int} (a : AwOk h ls rs rg F) : F = worstL h rg ls := by
  obtain ⟨S, st, re, cl, fm, fa, fi⟩ := a.ex
  obtain ⟨w0, w1, w2⟩ := worstL_all o rg l
  have rF : Rd1 rg F := by
    rcases fm with e | ⟨p, hp, e⟩
    · rw [e]; exact first_rd rg
    · rw [e]; exact worthOf_rd ((reach_ok o (re p hp)).1.w2 o).1
  have rT : ∀ k, k < ls.length → Rd1 rg (worthTo h rg ls k) := fun k hk => worthOf_rd (worthTo_sm o rg l hk).2.2.1
  have wm := worseF_mem (rg := rg) (x := first rg) (xs := (List.range ls.length).map (worthTo h rg ls))
  have rW : Rd1 rg (worstL h rg ls) := by
    rcases wm with e | e
    · show Rd1 rg (worseF rg (first rg) _)
      rw [e]; exact first_rd rg
    · obtain ⟨k, hk, e⟩ := List.mem_map.mp e
      show Rd1 rg (worseF rg (first rg) _)
      rw [← e]
      exact rT k (List.mem_range.mp hk)
  refine nw_anti rF rW ?_ ?_
  · rcases fm with e | ⟨p, hp, e⟩
    · rw [e]; exact w1
    · rw [e]
      exact nst_nw o rg l (reach_ok o (re p hp)).1 (reach_nst o l (re p hp))
  · rcases wm with e | e
    · show nw rg (worseF rg (first rg) _) F
      rw [e]; exact fi
    · obtain ⟨k, hk, e⟩ := List.mem_map.mp e
      show nw rg (worseF rg (first rg) _) F
      rw [← e]
      have hk := List.mem_range.mp hk
      obtain ⟨p, hp, ep⟩ := aw_reach o h3 n3 l rg st cl (by rw [← l.len]; exact hk)
      rw [← ep]
      exact fa p hp
end Bl

set_option Elab.async false
set_option linter.all false
set_option autoImplicit false
set_option maxRecDepth 100000
set_option maxHeartbeats 400000
namespace Bl
open PySem PySem.Spec PyProof.Rows L2 LamX StX
/-! ### limits never do better than the game -/
theorem lk_snoc {fnd : Fnd} {g g' : Gm} {v : Int × Int} : lk g (fnd ++ [(g', v)]) = (lk g fnd).or (if g' = g then some v else none) := by
  unfold lk
  rw [List.find?_append]
  cases e : List.find? (fun x : Gm × (Int × Int) => decide (x.1 = g)) fnd with
  | some x => rfl
  | none =>
    rw [List.find?_cons]
    by_cases q : g' = g
    · rw [if_pos q, decide_eq_true q]; rfl
    · rw [if_neg q, decide_eq_false q]; rfl
theorem lk_none {fnd : Fnd} {g : Gm} (h : g ∉ fnd.map (·.1)) : lk g fnd = none := by
  cases e : lk g fnd with
  | none => rfl
  | some y => exact absurd (List.mem_map.mpr ⟨_, lk_in e, rfl⟩) h
theorem lkF_new {fnd : Fnd} {g : Gm} {v : Int × Int} (h : g ∉ fnd.map (·.1)) : lkF (fnd ++ [(g, v)]) g = v := by
  unfold lkF
  rw [lk_snoc, lk_none h, if_pos rfl]
  rfl
theorem lkF_old {fnd : Fnd} {g g' : Gm} {v : Int × Int} (h : g ∈ fnd.map (·.1)) : lkF (fnd ++ [(g', v)]) g = lkF fnd g := by
  unfold lkF
  rw [lk_snoc, lkF_of h]
  rfl
theorem lkF_ps {fnd : Fnd} (h : ∀ e ∈ fnd, Ps e.2) (g : Gm) : Ps (lkF fnd g) := by
  unfold lkF
  cases e : lk g fnd with
  | none => exact (by decide : (0 : Int) < 1)
  | some y => exact h _ (lk_in e)
theorem turnB_all {rg : Bool} {fnd : Fnd} (hf : ∀ e ∈ fnd, Ps e.2) (ls : List Gm) : Ps (turnB rg fnd ls) ∧ ∀ g ∈ ls, nw rg (turnB rg fnd ls) (lkF fnd g) := by
  obtain ⟨a, b, c⟩ := betterF_all (rg := rg) (x := lkF fnd (ls.headD ([], []))) (xs := (ls.drop 1).map (lkF fnd)) (lkF_ps hf _) (fun y hy => by
    obtain ⟨g, _, rfl⟩ := List.mem_map.mp hy
    exact lkF_ps hf g)
  refine ⟨a, fun g hg => ?_⟩
  cases ls with
  | nil => cases hg
  | cons x xs =>
    rcases List.mem_cons.mp hg with e | e
    · rw [e]; exact b
    · exact c _ (List.mem_map.mpr ⟨g, e, rfl⟩)
theorem valW_ps {h : Hall} (o : h.Ok) {rg : Bool} {fnd : Fnd} (hf : ∀ e ∈ fnd, Ps e.2) {g : Gm} (og : GmOk h g) : Ps (valW h rg fnd g) :=
  (worseF_all (og.ps o rg) (fun y hy => by
    obtain ⟨t, _, rfl⟩ := List.mem_map.mp hy
    exact (turnB_all hf t.2).1)).1
/-- the choice of the rule lies behind the call -/
theorem step_in (h : Hall) (ls : List Int) (g : Gm) (k : Nat) : (stepF h ls g.1 k, seenW h.s g.2 k) ∈ laters h g k := by
  unfold stepF laters behL
  rw [List.map_cons]
  by_cases ht : taken h ls g.1 k = true
  · have hs : g.1.sum < h.s := by
      unfold taken at ht
      rw [Bool.and_eq_true, decide_eq_true_iff] at ht
      exact ht.1
    rw [if_pos ht, if_pos hs]
    exact List.mem_cons_of_mem _ List.mem_cons_self
  · rw [if_neg ht]
    exact List.mem_cons_self
theorem game_go {h : Hall} (o : h.Ok) (rg : Bool) {ls : List Int} (l : LimOk h ls) {b : Gm} {net : Net} (no : NetOk h b net) : ∀ (n : Nat) (done todo : List Gm), done.length = n → order h net = done ++ todo →
    (∀ e ∈ worthsL h rg done, Ps e.2) ∧ ∀ g ∈ done, Reach h ls false (g, -1) → nw rg (lkF (worthsL h rg done) g) (worstL h rg ls)
  | 0, done, todo, hl, _ => by
    have : done = [] := List.eq_nil_of_length_eq_zero hl
    subst this
    exact ⟨(fun _ z => nomatch z), fun _ z => nomatch z⟩
  | n + 1, done, todo, hl, e => by
    rcases List.eq_nil_or_concat done with z | ⟨d0, g0, z⟩
    · rw [z] at hl; cases hl
    · rw [List.concat_eq_append] at z
      subst z
      rw [List.append_assoc, List.singleton_append] at e
      obtain ⟨ih1, ih2⟩ := game_go o rg l no n d0 (g0 :: todo) (by simpa using hl) e
      have pm := order_perm h net
      have g0in : g0 ∈ net.map (·.1) := pm.mem_iff.mp (by rw [e]; simp)
      have og := no.ok g0 g0in
      have nd := pm.nodup_iff.mpr no.nd
      rw [e] at nd
      have gn : g0 ∉ (worthsL h rg d0).map (·.1) := by
        rw [worthsL_keys]
        intro hin
        exact (List.nodup_append.mp nd).2.2 g0 hin g0 List.mem_cons_self rfl
      have vp := valW_ps o (rg := rg) ih1 og
      rw [worthsL_snoc]
      refine ⟨fun x hx => ?_, fun g hg rg' => ?_⟩
      · rcases List.mem_append.mp hx with q | q
        · exact ih1 x q
        · rw [List.mem_singleton.mp q]; exact vp
      · rcases List.mem_append.mp hg with q | q
        · rw [lkF_old (by rw [worthsL_keys]; exact q)]
          exact ih2 g q rg'
        · have eg := List.mem_singleton.mp q
          subst eg
          rw [lkF_new gn]
          rcases worseF_mem (rg := rg) (x := worthIf h rg g) (xs := (turnsOf h g).map fun t => turnB rg (worthsL h rg d0) t.2) with v | v
          · show nw rg (worseF rg (worthIf h rg g) _) _
            rw [v]
            exact nst_nw o rg l og (reach_nst o l rg')
          · obtain ⟨t, ht, v⟩ := List.mem_map.mp v
            show nw rg (worseF rg (worthIf h rg g) _) _
            rw [← v]
            obtain ⟨hk, et⟩ := turn_sub ht
            have hin : (stepF h ls g.1 t.1, seenW h.s g.2 t.1) ∈ t.2 := by rw [et]; exact step_in h ls g t.1
            obtain ⟨t1, t2⟩ := turnB_all (rg := rg) ih1 t.2
            have r2 : Reach h ls false ((stepF h ls g.1 t.1, seenW h.s g.2 t.1), -1) := Reach.step (p := (g, -1)) (k := t.1) rg' (by
              unfold fares3
              refine List.mem_map.mpr ⟨t.1, List.mem_range.mpr ?_, ?_⟩
              · show t.1 < h.fs.length - 0
                omega
              · show 0 + t.1 = t.1
                omega)
            exact nw_trans t1 (lkF_ps ih1 _) (worstL_all o rg l).1 (t2 _ hin) (ih2 _ (order_split o no e ht hin) r2)
def begG (h : Hall) : Gm := (zeros h.fs.length, zeros h.fs.length)
/-- what the game is worth at the beginning -/
def gameV (h : Hall) (rg : Bool) (net : Net) : Int × Int := lkF (worthsL h rg (order h net)) (begG h)
theorem game_nw {h : Hall} (o : h.Ok) (rg : Bool) {net : Net} (no : NetOk h (begG h) net) : nw rg (gameV h rg net) (bestW h rg) := by
  have key : ∀ ls, LimOk h ls → nw rg (gameV h rg net) (worstL h rg ls) := fun ls l =>
    (game_go o rg l no (order h net).length (order h net) [] rfl (List.append_nil _).symm).2 (begG h) ((order_perm h net).mem_iff.mpr no.beg) .start
  obtain ⟨r, rs, e1, e2⟩ := bestW_is o rg
  rw [e2]
  rcases betterF_mem (rg := rg) (x := worstL h rg r) (xs := rs.map (worstL h rg)) with v | v
  · rw [v]
    exact key r (allL_lim o (by rw [e1]; exact List.mem_cons_self))
  · obtain ⟨q, hq, v⟩ := List.mem_map.mp v
    rw [← v]
    exact key q (allL_lim o (by rw [e1]; exact List.mem_cons_of_mem _ hq))
end Bl

set_option Elab.async false
set_option linter.all false
set_option autoImplicit false
set_option maxRecDepth 100000
set_option maxHeartbeats 400000
namespace Bl
open PySem PySem.Spec PyProof.Rows L2 LamX StX
/-- what is true of the pieces is true of the game's value -/
theorem worthsL_sel {h : Hall} {rg : Bool} {C : Int × Int → Prop} (c1 : C (1, 1)) : ∀ (n : Nat) (gs : List Gm), gs.length = n → (∀ g ∈ gs, C (worthIf h rg g)) → ∀ e ∈ worthsL h rg gs, C e.2
  | 0, gs, hl, _, e, he => by
    have : gs = [] := List.eq_nil_of_length_eq_zero hl
    subst this
    cases he
  | n + 1, gs, hl, hc, e, he => by
    rcases List.eq_nil_or_concat gs with z | ⟨d0, g0, z⟩
    · rw [z] at hl; cases hl
    · rw [List.concat_eq_append] at z
      subst z
      have ih := worthsL_sel (h := h) (rg := rg) c1 n d0 (by simpa using hl) fun g hg => hc g (List.mem_append_left _ hg)
      have lkC : ∀ g, C (lkF (worthsL h rg d0) g) := fun g => by
        unfold lkF
        cases q : lk g (worthsL h rg d0) with
        | none => exact c1
        | some y => exact ih _ (lk_in q)
      rw [worthsL_snoc] at he
      rcases List.mem_append.mp he with q | q
      · exact ih e q
      · rw [List.mem_singleton.mp q]
        show C (worseF rg (worthIf h rg g0) _)
        rcases worseF_mem (rg := rg) (x := worthIf h rg g0) (xs := (turnsOf h g0).map fun t => turnB rg (worthsL h rg d0) t.2) with v | v
        · rw [v]; exact hc g0 (List.mem_append_right _ List.mem_cons_self)
        · obtain ⟨t, _, v⟩ := List.mem_map.mp v
          rw [← v]
          show C (betterF rg _ _)
          rcases betterF_mem (rg := rg) (x := lkF (worthsL h rg d0) (t.2.headD ([], []))) (xs := (t.2.drop 1).map (lkF (worthsL h rg d0))) with u | u
          · rw [u]; exact lkC _
          · obtain ⟨g, _, u⟩ := List.mem_map.mp u
            rw [← u]; exact lkC g
structure GV (h : Hall) (rg : Bool) (V : Int × Int) : Prop where
  nw : nw rg V (bestW h rg)
  one : rg = true → V.2 = 1
  sm : Sm V
theorem gameV_ok {h : Hall} (o : h.Ok) (rg : Bool) {net : Net} (no : NetOk h (begG h) net) : GV h rg (gameV h rg net) := by
  have ok : ∀ g ∈ order h net, GmOk h g := fun g hg => no.ok g ((order_perm h net).mem_iff.mp hg)
  have sel : ∀ {C : Int × Int → Prop}, C (1, 1) → (∀ g ∈ order h net, C (worthIf h rg g)) → C (gameV h rg net) := fun {C} c1 cw => by
    unfold gameV lkF
    cases q : lk (begG h) (worthsL h rg (order h net)) with
    | none => exact c1
    | some y => exact worthsL_sel c1 _ _ rfl cw _ (lk_in q)
  refine ⟨game_nw o rg no, fun e => ?_, sel ⟨by decide, by decide⟩ fun g hg => (ok g hg).sm o rg⟩
  subst e
  exact sel (C := fun p => p.2 = 1) rfl fun g hg => rfl
theorem worstL_one (h : Hall) (ls : List Int) : (worstL h true ls).2 = 1 := by
  rcases worseF_mem (rg := true) (x := first true) (xs := (List.range ls.length).map (worthTo h true ls)) with v | v
  · show (worseF true (first true) _).2 = 1
    rw [v]; rfl
  · obtain ⟨k, _, v⟩ := List.mem_map.mp v
    show (worseF true (first true) _).2 = 1
    rw [← v]; rfl
theorem bestW_one {h : Hall} (o : h.Ok) : (bestW h true).2 = 1 := by
  obtain ⟨r, rs, e1, e2⟩ := bestW_is o true
  rw [e2]
  rcases betterF_mem (rg := true) (x := worstL h true r) (xs := rs.map (worstL h true)) with v | v
  · rw [v]; exact worstL_one h r
  · obtain ⟨q, _, v⟩ := List.mem_map.mp v
    rw [← v]; exact worstL_one h q
theorem bestW_sm {h : Hall} (o : h.Ok) (rg : Bool) : Sm (bestW h rg) := by
  obtain ⟨r, rs, e1, e2⟩ := bestW_is o rg
  rw [e2]
  refine betterF_sm (worstL_sm o rg (allL_lim o (by rw [e1]; exact List.mem_cons_self))) fun y hy => ?_
  obtain ⟨q, hq, rfl⟩ := List.mem_map.mp hy
  exact worstL_sm o rg (allL_lim o (by rw [e1]; exact List.mem_cons_of_mem _ hq))
/-- a regret: never less -/
theorem GV.le {h : Hall} (o : h.Ok) {V : Int × Int} (v : GV h true V) : V.1 ≤ (bestW h true).1 := by
  have a := nw_iff.mp v.nw
  have b := v.one rfl
  have c := bestW_one o
  rw [if_pos rfl, b, c] at a
  omega
end Bl

set_option Elab.async false
set_option linter.all false
set_option autoImplicit false
set_option maxRecDepth 100000
set_option maxHeartbeats 400000
namespace Bl
open PySem PySem.Spec PyProof.Rows L2 LamX StX
variable {P : Program} {w : World} {K : PySem.W.Frag} {mg : Str → Option Value} {base : Heap}
/-- what of the game is told -/
def SpGame (Pw : Addr) (h : Hall) (rg : Bool) (d : Int × Int → PyData) (H : Hp) (Q : VK) : Prop := h.Ok ∧ Few h ∧ TabS H Pw qW ∧ ∀ V v H', Ex (Wo Pw H) H' → TabS H' Pw qW → GV h rg V → Is H' v (d V) → Q v H'
def SpKept (Pw : Addr) : SpQ := fun vs H Q => ∃ (h : Hall) (rg : Bool), Iss H vs [h.d, anyD, wD rg] ∧ SpGame Pw h rg frD H Q
def SpLeast (Pw : Addr) : SpQ := fun vs H Q => ∃ (h : Hall), Iss H vs [h.d, anyD] ∧ SpGame Pw h true (fun V => .int V.1) H Q
def SpShare (Pw : Addr) : SpQ := fun vs H Q => ∃ (h : Hall), Iss H vs [h.d, anyD] ∧ SpGame Pw h false frD H Q
theorem SpGame.back {Pw : Addr} {h : Hall} {rg : Bool} {d : Int × Int → PyData} {H H1 : Hp} {Q : VK} (e : Ex H H1) (g : SpGame Pw h rg d H Q) : SpGame Pw h rg d H1 Q :=
  ⟨g.1, g.2.1, e.tabs _ _ g.2.2.1, fun V v H' e' => g.2.2.2 V v H' ((Ex.woT2 e g.2.2.1).trans e')⟩
theorem ok_kept_worth {Pw : Addr} (M : Md mg) (D : FDef K mg "kept_worth" s_kept_worth) (F1 : Fn P w K mg base 2 "first_game" 1 PreFirstGame) (F2 : FnQ P w K mg base 6 "game_net" 3 (SpGameNet P w)) (F3 : FnQ P w K mg base 11 "worths_of" 3 (SpWorths P w Pw)) : FnQ P w K mg base 12 "kept_worth" 3 (SpKept Pw) := by
  refine fnQ_mk D sc_kept_worth (fun _ _ _ _ _ _ us hl => match us, hl with | [_, _, _], _ => rfl) rfl (fun vs H Q ⟨h, rg, r, _⟩ => by rw [r.length]; rfl) ?_
  intro X cdv A outer s f E H vs Q hX hr ⟨h, rg, r, sp⟩
  obtain ⟨x, y, z, rfl, r0, r1, r2⟩ := iss3 r
  subst hX
  have hN := sc_kept_worth.nd
  have hu := hr.un
  have o := sp.1
  refine run_set (B := H) 3 (ev_call (F1.mono (by decide : 2 ≤ 11)) hr (.mk h o) (eva_cons (ev_var 0 rfl r0) eva_nil)) (Ex.refl _) (fun vb H1 k1 rb => ?_) hN
  have sp1 := sp.back k1
  have r01 := r0.up k1
  have r11 := r1.up k1
  have r21 := r2.up k1
  have rb1 : Is H1 vb (gmD (begG h)) := rb.is
  refine run_cons (ps_ret (pe_getN (by show _ + 9 < _; omega) Evl.pe Evl.pe (fun _ _ => rfl))) ?_
  show Evl _ _ _ H1 _
  refine evl_callQA (t := tCons (tVar 0) (tCons (tVar 2) (tCons (Evl _ _) tNil))) F3 hr (pa_cons (pe_var (i := 0) rfl (.inl rfl) (by decide) (by decide)) (pa_cons (pe_var (i := 2) rfl (.inl rfl) (by decide) (by decide)) (pa_cons Evl.pe pa_nil rfl) rfl) rfl) ?_
  refine ⟨x, rfl, z, rfl, ?_⟩
  show Evl _ _ _ H1 _
  refine evl_callQ (B := H1) (F2.mono (by decide : 6 ≤ 11)) hr (eva_cons (ev_var 0 rfl r01) (eva_cons (ev_var 1 rfl r11) (eva_cons (ev_var 3 rfl rb1) eva_nil))) (Ex.refl H1) fun vs H2 k2 r2 => ⟨h, begG h, r2.is, o, sp1.2.1, zeros_ok o, fun p xs net H3 e3 hp hp3 de no => ?_⟩
  have k13 := k2.trans e3
  have sp3 := sp1.back k13
  refine ⟨h, rg, begG h, net, x, z, p, xs, _, rfl, r01.up k13, r21.up k13, hp3, de, o, no, sp1.2.1, sp3.2.2.1, fun pf ys H4 e4 t4 hpf hpf4 de4 => ?_⟩
  show Evl _ _ _ H4 _
  have rb4 := is_wo sp3.2.2.1 e4 (rb1.up k13)
  refine (ev_var (B := H4) 3 rfl rb4) H4 (Ex.refl _) _ fun y H5 k5 r5 => ?_
  obtain ⟨bb, rfl, rbb⟩ := key_ref ke_gm r5
  have hy : lk (begG h) (worthsL h rg (order h net)) = some (gameV h rg net) := lkF_of (by rw [worthsL_keys]; exact (order_perm h net).mem_iff.mpr no.beg)
  obtain ⟨v, h1, h2⟩ := de4.at_some ke_gm hy
  exact ⟨pf, bb, ys, gmD (begG h), v, rfl, rfl, k5.nd hpf4, (de4.mono (fun _ z => z) k5).ok ke_gm, ke_gm.nk _, rbb, h1, sp3.2.2.2 (gameV h rg net) v H5 (e4.trans k5) (k5.tabs _ _ t4) (gameV_ok o rg no) (h2.is.up k5)⟩
theorem ok_least_regret {Pw : Addr} (M : Md mg) (D : FDef K mg "least_regret" s_least_regret) (F1 : Fn P w K mg base 3 "need_game" 3 PreNeedGame) (F2 : FnQ P w K mg base 12 "kept_worth" 3 (SpKept Pw)) : FnQ P w K mg base 13 "least_regret" 2 (SpLeast Pw) := by
  refine fnQ_mk D sc_least_regret (fun _ _ _ _ _ _ us hl => match us, hl with | [_, _], _ => rfl) rfl (fun vs H Q ⟨h, r, _⟩ => by rw [r.length]; rfl) ?_
  intro X cdv A outer s f E H vs Q hX hr ⟨h, r, sp⟩
  obtain ⟨x, y, rfl, r0, r1⟩ := iss2 r
  subst hX
  have o := sp.1
  refine run_expr (B := H) (ev_call (F1.mono (by decide : 3 ≤ 12)) hr (.mk h true o) (eva_cons (ev_var 0 rfl r0) (eva_cons (ev_var 1 rfl r1) (eva_cons (ev_gstr M.c_REGRET) eva_nil)))) (Ex.refl _) fun H1 k1 => ?_
  refine run_cons (ps_ret (pe_ix ix_tup Evl.pe pe_int (fun _ _ => rfl))) ?_
  show Evl _ _ _ H1 _
  refine evl_callQ (B := H1) F2 hr (eva_cons (ev_var 0 rfl (r0.up k1)) (eva_cons (ev_var 1 rfl (r1.up k1)) (eva_cons (ev_gstr M.c_REGRET) eva_nil))) (Ex.refl H1) fun vs H2 k2 r2 => ⟨h, true, r2.is, (sp.back (k1.trans k2)).1, sp.2.1, (sp.back (k1.trans k2)).2.2.1, fun V v H3 e3 t3 gv rv => ?_⟩
  cases rv with
  | tup h1 h2 =>
    cases h2 with
    | cons a1 a2 =>
      cases a1
      exact ⟨_, _, 0, .int V.1, rfl, rfl, .inl (.inl h1), atI_nat (n := 0) rfl, (sp.back (k1.trans k2)).2.2.2 V _ H3 e3 t3 gv (.int _)⟩
theorem ok_greatest_share {Pw : Addr} (M : Md mg) (D : FDef K mg "greatest_share" s_greatest_share) (F1 : Fn P w K mg base 3 "need_game" 3 PreNeedGame) (F2 : FnQ P w K mg base 12 "kept_worth" 3 (SpKept Pw)) : FnQ P w K mg base 13 "greatest_share" 2 (SpShare Pw) := by
  refine fnQ_mk D sc_greatest_share (fun _ _ _ _ _ _ us hl => match us, hl with | [_, _], _ => rfl) rfl (fun vs H Q ⟨h, r, _⟩ => by rw [r.length]; rfl) ?_
  intro X cdv A outer s f E H vs Q hX hr ⟨h, r, sp⟩
  obtain ⟨x, y, rfl, r0, r1⟩ := iss2 r
  subst hX
  have o := sp.1
  refine run_expr (B := H) (ev_call (F1.mono (by decide : 3 ≤ 12)) hr (.mk h false o) (eva_cons (ev_var 0 rfl r0) (eva_cons (ev_var 1 rfl r1) (eva_cons (ev_gstr M.c_SHARE) eva_nil)))) (Ex.refl _) fun H1 k1 => ?_
  refine run_cons (ps_ret Evl.pe) ?_
  show Evl _ _ _ H1 _
  exact evl_callQ (B := H1) F2 hr (eva_cons (ev_var 0 rfl (r0.up k1)) (eva_cons (ev_var 1 rfl (r1.up k1)) (eva_cons (ev_gstr M.c_SHARE) eva_nil))) (Ex.refl H1) fun vs H2 k2 r2 => ⟨h, false, r2.is, (sp.back (k1.trans k2)).1, sp.2.1, (sp.back (k1.trans k2)).2.2.1, fun V v H3 e3 t3 gv rv => (sp.back (k1.trans k2)).2.2.2 V v H3 e3 t3 gv rv⟩
end Bl

set_option Elab.async false
set_option linter.all false
set_option autoImplicit false
set_option maxRecDepth 100000
set_option maxHeartbeats 400000
namespace Bl
open PySem PySem.Spec PyProof.Rows L2 LamX StX
/-! ### a lambda without parameters and without names of its own, called by whoever has it -/
def LamFn0 (f : Addr) (q : Str) (params : Arguments) (body : Expr) (scope : Scope) (c' : Addr) : HO :=
  .ext fun h => ∃ pm ctv, h.get? f = some (PySem.W.kla_obj "<lambda>" q params body scope [] pm c' ctv)
structure LamS0 (scope : Scope) : Prop where
  kind : scope.kind = .function
  co : scope.isCoroutine = false
  gen : scope.isGenerator = false
  no : ∀ z ∈ scope.names, z.2 ≠ .local ∧ z.2 ≠ .cell ∧ z.2 ≠ .free
def lamCx0 (P : Program) (w : World) (K : PySem.W.Frag) (mg : Str → Option Value) (base : Heap) (A : Around) (outer : List Env) (s : Shared) (H : Hp) (q : Str) (scope : Scope) (f c' : Addr) : Cx where
  prog := P
  w := w
  K := K
  mg := mg
  base := base
  A := A.deeper (PySem.W.envX q scope s.heap.objs.size f (.ref c') [])
  N := []
  s_0 := s
  H_0 := H
  env := PySem.W.envX q scope s.heap.objs.size f (.ref c') []
  outer := outer
  stack := PySem.W.envX q scope s.heap.objs.size f (.ref c') [] :: outer
  ex := []
  fn := fun _ => false
  calm := true
  pn := []
  xe := fun _ _ => False
section
variable {P : Program} {w : World} {K : PySem.W.Frag} {mg : Str → Option Value} {base : Heap} {H : Hp} {s : Shared}
theorem lam_start0 {A : Around} {outer : List Env} {q : Str} {scope : Scope} {f c' : Addr} {g : Heap} {tk : Nat} (L : LamS0 scope) (e0 : Env0 P w K mg base A outer s H) (hd : A.handled = none)
    (ns : g.Ns s.heap.objs.size fun z => ([] : List (Str × Value)).reverse.lookup z) (kp : ∀ b o, s.heap.get? b = some o → g.get? b = some o) : Inv (lamCx0 P w K mg base A outer s H q scope f c') [] [] H { s with heap := g, toks := tk } := by
  have noex : ∀ b : Addr, b ∉ (lamCx0 P w K mg base A outer s H q scope f c').ex := fun b z => absurd (show b ∈ ([] : List Addr) from z) (by simp)
  have nol : ∀ {y : Str} {c : Addr}, ([] : List (Str × Addr)).lookup y = some c → False := fun {y c} e => by cases e
  refine ⟨⟨e0.mod, L.kind, rfl, rfl, Nat.le_refl _, fun a b c e1 e2 => (nol e1).elim, fun z hz => ?_, fun a c z _ => ?_, fun _ => hd, Around.frames_deeper e0.frames, .inr ⟨rfl, rfl⟩, fun b z => absurd z (noex b), e0.bs, e0.bsz, fun b _ _ => noex b, fun b z => absurd z (noex b), e0.funs, e0.frf⟩,
    rfl, e0.bare, Un.kept kp, ⟨_, ns, fun i x v' e1 e2 e3 => ?_⟩, fun a c e => (nol e).elim, e0.hok.fresh (Nat.le_refl _), fun a c e => (nol e).elim, fun q hq => absurd (show q ∈ ([] : List (Addr × Obj)) ++ [] from hq) (by simp), e0.hok.kept kp, rfl⟩
  · have hz' : scope.names.lookup z = some .cell ∨ scope.names.lookup z = some .free := hz
    rcases hz' with t | t
    · exact absurd rfl (L.no _ (PySem.mem_of_lookup t)).2.1
    · exact absurd rfl (L.no _ (PySem.mem_of_lookup t)).2.2
  · have z' : false = true := z
    cases z'
  · have e1' : ([] : List Str)[i]? = some x := e1
    simp at e1'
end
section
variable {X : Cx} {pins : List (Addr × Obj)} {σ : L2.St} {H : Hp} {s : Shared}
theorem lam_call0 {scope : Scope} {params : Arguments} {body : Expr} {q : Str} {f c' : Addr} {Q : VK} {E : Value → Shared → Prop} (I : Inv X pins σ H s) (L : LamS0 scope) (hd : X.A.handled = none) (dp : X.A.depth < recursionLimit) (hf : H f = some (LamFn0 f q params body scope c')) (hc : H c' = some (CodeO c' q))
    (hb : ∀ pm cv ctv, bindArgs (PySem.W.kla_fn "<lambda>" q params body scope [] pm cv ctv) ⟨[], []⟩ = pure []) (h : Evl (lamCx0 X.prog X.w X.K X.mg X.base X.A X.stack s H q scope f c') body [] H Q) : wpAny (model X.prog X.w) X.A (call (.ref f) []) (EP X pins σ Q) E s := by
  obtain ⟨⟨pm, ctv, of⟩, _, _⟩ := I.hok f _ hf
  obtain ⟨⟨oc, vs, t, hoc, hdc, hvc⟩, _, _⟩ := I.hok c' _ hc
  have rc : codeAny (model X.prog X.w) X.A (.call (.ref f) ⟨[], []⟩) (CR CX0 X.stack X.prog X.w H s Q (fun _ _ _ => False)) s := by
    refine PySem.W.kla_callFunE dp of rfl L.co L.gen rfl ⟨c', oc, vs, t, rfl, hoc, hdc, hvc⟩ ?_
    rw [hb]
    refine wpAny_pure (wpAny_newFunctionEnv (fun z hz => (L.no z hz).2.1) (fun z hz => absurd hz (by simp)) (fun g ns sb => ⟨I.nolimit.fresh _ sb, ?_⟩) L.kind)
    show codeAny _ _ (.expr body (PySem.W.envX q scope s.heap.objs.size f (.ref c') [])) _ _
    have kp : ∀ b o, s.heap.get? b = some o → g.get? b = some o := fun b o e => sb.extBut b o (Nat.ne_of_lt (Heap.lt_size e)) (Heap.get?_push_of_some _ e)
    have J := lam_start0 (q := q) (tk := s.toks + ([] : List (Str × Value)).length) (f := f) (c' := c') L I.env0 hd ns kp
    refine PySem.W.kla_codeExpr (wpAny_mono (h [] _ J) (fun r s' hq => ?_) fun e s' hq => hq.elim)
    obtain ⟨w', H', J', rr, q⟩ := hq
    exact ⟨w', H', J'.os, J'.bare, J'.base, J'.hok, rr, q⟩
  refine wpAny_call (codeAny_mono rc fun r s' hq => ?_)
  match r, hq with
  | .ok (.ret z), hq => exact I.after hq
/-- a lambda object that can be called -/
structure Lam0 (P : Program) (w : World) (K : PySem.W.Frag) (mg : Str → Option Value) (base : Heap) (k : Nat) (H : Hp) (f : Addr) (R : V → Hp → Prop) : Prop where
  ex : ∃ q params body scope c', LamS0 scope ∧ H f = some (LamFn0 f q params body scope c') ∧ H c' = some (CodeO c' q) ∧ (∀ pm cv ctv, bindArgs (PySem.W.kla_fn "<lambda>" q params body scope [] pm cv ctv) ⟨[], []⟩ = pure []) ∧
    ∀ A outer s H1 (Q : VK), Room k (A.deeper (PySem.W.envX q scope s.heap.objs.size f (.ref c') [])) → Ex H H1 → (∀ v H2, R v H2 → Q v H2) → Evl (lamCx0 P w K mg base A outer s H1 q scope f c') body [] H1 Q
theorem evl_lam0 {a : Str} {p1 p2 : Pos} {k : Nat} {f : Addr} {H0 : Hp} {R : V → Hp → Prop} {Q : VK} (i : Nat) (hs : σ[i]? = some (some (.ref f))) (lam : Lam0 X.prog X.w X.K X.mg X.base k H0 f R) (e : Ex H0 H) (hr : Room (k + 1) X.A) (q : ∀ v H2, R v H2 → Q v H2) (hN : X.N[i]? = some a := by rfl)
    (hv : Vis X.env.scope a := by first | exact Or.inl rfl | exact Or.inr (Or.inl rfl) | exact Or.inr (Or.inr rfl)) (hd : (a == ("__debug__" : Str)) = false := by decide) (hcd : (a == ("__classdict__" : Str)) = false := by decide) : Evl X (.Call (.Name a p1) [] [] p2) σ H Q := by
  intro pins s I
  obtain ⟨qq, params, body, scope, c', L, hf, hc, hb, hbody⟩ := lam.ex
  refine wpAny_Call_Name_kw (thn ((pe_var (pos := p1) (i := i) hN hv hd hcd).run pins s σ H (fun v H1 => v = .ref f ∧ H1 = H) I ⟨.ref f, hs, rfl, rfl⟩) fun u s1 ⟨v, H1, I1, r1, q1⟩ => ?_)
  obtain ⟨ev, eH⟩ := q1
  subst ev
  subst eH
  obtain rfl : u = Value.ref f := r1
  have hf1 := e.keep f _ hf fun ps z => nomatch z
  have hc1 := e.keep c' _ hc codeO_ne
  obtain ⟨⟨pm, ctv, of⟩, _, _⟩ := I1.hok f _ hf1
  refine PySem.W.callWith_F0 ⟨_, _, _, _, of⟩ ?_
  exact lam_call0 I1 L hr.hd (by have := hr.dp; omega) hf1 hc1 hb (hbody _ _ s1 _ Q (hr.deeper _) e q)
end
end Bl

set_option Elab.async false
set_option linter.all false
set_option autoImplicit false
set_option maxRecDepth 100000
set_option maxHeartbeats 400000
namespace Bl
open PySem PySem.Spec PyProof.Rows L2 LamX StX
variable {P : Program} {w : World} {K : PySem.W.Frag} {mg : Str → Option Value} {base : Heap}
def SpTold (P : Program) (w : World) (K : PySem.W.Frag) (mg : Str → Option Value) (base : Heap) : SpQ := fun vs H Q => ∃ (f : Addr) (R : V → Hp → Prop), vs = [.ref f] ∧ Lam0 P w K mg base 13 H f R ∧ ∀ v H1 H2 p, R v H1 → Ex H1 H2 → H2 p = none → Q (.ref p) (upd H2 p (.lst [v]))
theorem ok_told (M : Md mg) (D : FDef K mg "_law_told" s__law_told) : FnQ P w K mg base 15 "_law_told" 1 (SpTold P w K mg base) := by
  refine fnQ_mk D sc__law_told (fun _ _ _ _ _ _ us hl => match us, hl with | [_], _ => rfl) rfl (fun vs H Q ⟨f, R, e, _⟩ => by rw [e]; rfl) ?_
  intro X cdv A outer s f E H vs Q hX hr hsp
  obtain ⟨fl, R, rfl, lam, q⟩ := hsp
  subst hX
  have hN := sc__law_told.nd
  refine run_asg2 (B := H) 1 2 (ev_tup (eva_cons ev_none (eva_cons ev_none eva_nil))) (Ex.refl _) (fun u v H1 k1 ru rv => ?_) hN
  cases ru
  cases rv
  refine run_cons (ps_try_thru0 Run.pss) ?_
  show Run _ _ _ _ _
  refine run_cons (ps_set (i := 1) hN rfl (.inl rfl) Evl.pe (by rfl) (.inr rfl)) ?_
  show Evl _ _ _ _ _
  refine evl_lam0 0 rfl lam k1 hr fun v H2 r => ?_
  show Run _ [] _ _ _
  refine run_nil ?_
  show Run _ _ _ _ _
  refine run_ifT (B := H2) (evt_isN (ev_var 2 rfl (.non : Is H2 _ _)) ev_none) (Ex.refl _) fun H3 k3 => ?_
  exact run_cons (ps_ret (pe_lst (pa_cons (pe_var (i := 1) rfl (.inl rfl) (by decide) (by decide)) pa_nil rfl))) ⟨v, rfl, sl_le (by simp), fun p hp => q v H2 H3 p r k3 hp⟩
end Bl

set_option Elab.async false
set_option linter.all false
set_option autoImplicit false
set_option maxRecDepth 100000
set_option maxHeartbeats 400000
namespace Bl
open PySem PySem.Spec PyProof.Rows L2 LamX StX
variable {P : Program} {w : World} {K : PySem.W.Frag} {mg : Str → Option Value} {base : Heap}
abbrev qL : Str := "law" ++ ".<locals>." ++ "<lambda>"
/-! ### what stays while the law runs -/
/-- data without lists stays -/
def Dat (H H' : Hp) : Prop := ∀ v d, nol d = true → Is H v d → Is H' v d
theorem Dat.trans {H H1 H2 : Hp} (a : Dat H H1) (b : Dat H1 H2) : Dat H H2 := fun v d n r => b v d n (a v d n r)
structure Jn (B : Hp) (Pw Pl m c g : Addr) (H : Hp) (n : Int) : Prop where
  ex : Ex B H
  tw : TabS H Pw qW
  tl : TabS H Pl qL
  gen : GenAt H m c g n
  n0 : 0 ≤ n
theorem tabs_mu {H : Hp} {p P : Addr} {q : Str} {u : HO} (t : TabS H P q) (hp : H p = some u) (m : Mu u) : TabS (Wo p H) P q := tab_but t hp m fun b o hb h => by
  rw [wo_ne hb]
  exact h
theorem tabs_w2 {H : Hp} {m c g P : Addr} {q : Str} {n : Int} (s : GenAt H m c g n) (t : TabS H P q) : TabS (W2 m g H) P q := by
  have hmg := s.mg
  obtain ⟨_, _, _, h1, _, h3, _⟩ := s
  exact tabs_mu (u := .lst _) (tabs_mu t h1 trivial) (by rw [wo_ne (Ne.symm hmg)]; exact h3) trivial
theorem tabs_wo {H : Hp} {P Pw : Addr} {q qw : Str} (t : TabS H P q) (tw : TabS H Pw qw) (ne : P ≠ Pw) : TabS (Wo Pw H) P q := by
  obtain ⟨ps, hP, _, _⟩ := tw
  obtain ⟨qs, h1, h2, h3⟩ := t
  refine ⟨qs, by rw [wo_ne ne]; exact h1, h2, fun pos cv hc => ?_⟩
  obtain ⟨c, e1, e2⟩ := h3 pos cv hc
  exact ⟨c, e1, by rw [wo_ne (ne_of e2 hP (codeO_ne ps))]; exact e2⟩
theorem gen_wo {H : Hp} {m c g Pw : Addr} {n : Int} {q : Str} (s : GenAt H m c g n) (tw : TabS H Pw q) : GenAt (Wo Pw H) m c g n := by
  obtain ⟨ps, hP, _, _⟩ := tw
  obtain ⟨cg, cells, great, h1, h2, h3, r⟩ := s
  exact ⟨cg, cells, great, by rw [wo_ne (ne_of h1 hP fun z => nomatch z)]; exact h1, by rw [wo_ne (ne_of h2 hP fun z => nomatch z)]; exact h2, by rw [wo_ne (ne_of h3 hP fun z => nomatch z)]; exact h3, r⟩
section
variable {B H H' : Hp} {Pw Pl m c g : Addr} {n n' : Int}
theorem Jn.e (j : Jn B Pw Pl m c g H n) (e : Ex H H') : Jn B Pw Pl m c g H' n ∧ Dat H H' := ⟨⟨j.ex.trans e, e.tabs _ _ j.tw, e.tabs _ _ j.tl, j.gen.up e, j.n0⟩, fun v d _ r => r.up e⟩
theorem Jn.w2 (hm : B m = none) (hg : B g = none) (j : Jn B Pw Pl m c g H n) (s : GenAt H' m c g n') (e : Ex (W2 m g H) H') (n0 : 0 ≤ n') : Jn B Pw Pl m c g H' n' ∧ Dat H H' :=
  ⟨⟨(j.ex.w2 hm hg j.gen).trans e, e.tabs _ _ (tabs_w2 j.gen j.tw), e.tabs _ _ (tabs_w2 j.gen j.tl), s, n0⟩, fun v d hn r => (Rp.w2n j.gen r hn).up e⟩
theorem Jn.wo (hB : B Pw = none) (ne : Pl ≠ Pw) (j : Jn B Pw Pl m c g H n) (e : Ex (Wo Pw H) H') (t : TabS H' Pw qW) : Jn B Pw Pl m c g H' n ∧ Dat H H' := by
  have tw := j.tw
  obtain ⟨ps, hP, _, _⟩ := id tw
  exact ⟨⟨(woT_ex j.ex hB hP).trans e, t, e.tabs _ _ (tabs_wo j.tl tw ne), (gen_wo j.gen tw).up e, j.n0⟩, fun v d _ r => is_wo tw e r⟩
end
section
variable {X : Cx} {σ : L2.St} {B H : Hp} {e : Expr} {p pos pd p1 p2 : Pos} {dn : Str} {kk j1 j2 : Nat} {m c g : Addr} {n : Int} {Q : VK}
/-- _law_yard(m, most, many) -/
theorem evl_yard {most many : Int} (F : FnQ X.prog X.w X.K X.mg X.base kk "_law_yard" 3 SpYard) (hr : Room kk X.A) (i : Nat) (hs : σ[i]? = some (some (.ref m))) (st : GenAt H m c g n) (n0 : 0 ≤ n) (n1 : n ≤ 50000) (a1 : 1 ≤ most) (a2 : most ≤ 6) (b1 : 1 ≤ many) (b2 : many ≤ 4)
    (q : ∀ (h : Hall) n' v H', h.Ok → h.s ≤ most → (h.fs.length : Int) ≤ many → n ≤ n' → n' ≤ n + 20 → GenAt H' m c g n' → Ex (W2 m g H) H' → Is H' v h.d → Q v H') (hN : X.N[i]? = some dn := by rfl)
    (hv : Vis X.env.scope dn := by first | exact Or.inl rfl | exact Or.inr (Or.inl rfl) | exact Or.inr (Or.inr rfl)) (hd : (dn == ("__debug__" : Str)) = false := by decide) (hcd : (dn == ("__classdict__" : Str)) = false := by decide) (hg : Gl X "_law_yard" := by rfl)
    (h1 : starEach [.Name dn pd, .Constant (.int most) j1 p1, .Constant (.int many) j2 p2] X.env = (false, eval (.Name dn pd) X.env) :: starEach [.Constant (.int most) j1 p1, .Constant (.int many) j2 p2] X.env := by rfl)
    (h2 : starEach [.Constant (.int most) j1 p1, .Constant (.int many) j2 p2] X.env = (false, eval (.Constant (.int most) j1 p1) X.env) :: starEach [.Constant (.int many) j2 p2] X.env := by rfl)
    (h3 : starEach [.Constant (.int many) j2 p2] X.env = (false, eval (.Constant (.int many) j2 p2) X.env) :: starEach [] X.env := by rfl) (hpl : (backTo pos (starEach [.Constant (.int most) j1 p1, .Constant (.int many) j2 p2] X.env)).any (·.1) = false := by rfl) :
    Evl X (.Call (.Name "_law_yard" p) [.Name dn pd, .Constant (.int most) j1 p1, .Constant (.int many) j2 p2] [] pos) σ H Q := by
  refine evl_callQA (t := tCons (tVar i) (tCons (tC (.int most)) (tCons (tC (.int many)) tNil))) F hr (pa_cons (pe_var hN hv hd hcd) (pa_cons pe_int (pa_cons pe_int pa_nil h3) h2) h1) ?_ hg (by decide) h1 hpl
  exact ⟨.ref m, hs, m, c, g, n, most, many, rfl, st, n0, n1, a1, a2, b1, b2, q⟩
theorem rps_mem {H : Hp} {G : Addr → Prop} {vs : List V} {ds : List PyData} (h : Rps G H vs ds) {v : V} (hv : v ∈ vs) : ∃ d ∈ ds, Rp G H v d := by
  obtain ⟨i, hi, e⟩ := List.getElem_of_mem hv
  obtain ⟨d, hd, r⟩ := h.getV (i := i) (v := v) (by rw [List.getElem?_eq_getElem hi, e])
  exact ⟨d, List.mem_of_getElem? hd, r⟩
/-- _law_of(m, list) -/
theorem evl_of {ds : List PyData} (F : FnQ X.prog X.w X.K X.mg X.base kk "_law_of" 2 SpOf) (hr : Room kk X.A) (i : Nat) (hs : σ[i]? = some (some (.ref m))) (he : Ev X σ B e (.list ds)) (k0 : Ex B H) (gB : B g = none) (st : GenAt H m c g n) (n0 : 0 ≤ n) (n1 : n ≤ 100000) (hne : ds ≠ []) (hlen : ds.length < 1000000) (hp : ∀ d ∈ ds, nol d = true)
    (q : ∀ d v H', d ∈ ds → Is H' v d → GenAt H' m c g (n + 1) → Ex (W2 m g H) H' → Q v H') (hN : X.N[i]? = some dn := by rfl)
    (hv : Vis X.env.scope dn := by first | exact Or.inl rfl | exact Or.inr (Or.inl rfl) | exact Or.inr (Or.inr rfl)) (hd : (dn == ("__debug__" : Str)) = false := by decide) (hcd : (dn == ("__classdict__" : Str)) = false := by decide) (hg : Gl X "_law_of" := by rfl)
    (h1 : starEach [.Name dn pd, e] X.env = (false, eval (.Name dn pd) X.env) :: starEach [e] X.env := by rfl) (h2 : starEach [e] X.env = (false, eval e X.env) :: starEach [] X.env := by rfl) (hpl : (backTo pos (starEach [e] X.env)).any (·.1) = false := by rfl) :
    Evl X (.Call (.Name "_law_of" p) [.Name dn pd, e] [] pos) σ H Q := by
  refine evl_callQA (t := tCons (tVar i) (tCons (Evl X e) tNil)) F hr (pa_cons (pe_var hN hv hd hcd) (pa_cons Evl.pe pa_nil h2) h1) ?_ hg (by decide) h1 hpl
  refine ⟨.ref m, hs, he H k0 _ fun y H1 e1 r1 => ?_⟩
  have st1 := st.up e1
  cases r1 with
  | lst g0 h0 rs =>
    rename_i l xs
    have lg : l ≠ g := fun z => by
      subst z
      rcases g0 with ⟨o, z⟩ | z
      · rw [gB] at z; cases z
      · obtain ⟨_, _, _, _, _, h3, _⟩ := st
        rw [h3] at z; cases z
    have xne : xs ≠ [] := fun z => by
      have := rs.length
      rw [z] at this
      exact hne (List.eq_nil_of_length_eq_zero this.symm)
    refine ⟨m, c, g, l, n, xs, rfl, st1, n0, n1, h0, lg, xne, by rw [rs.length]; exact hlen, fun x H' hx s' ex => ?_⟩
    obtain ⟨d, hd', r⟩ := rps_mem rs hx
    exact q d x H' hd' ((Rp.w2n st1 r (hp d hd')).up ex) s' (w2_trans st1 (w2_of e1) ex)
end
end Bl

set_option Elab.async false
set_option linter.all false
set_option autoImplicit false
set_option maxRecDepth 100000
set_option maxHeartbeats 4000000
namespace Bl
open PySem PySem.Spec PyProof.Rows L2 LamX StX
variable {P : Program} {w : World} {K : PySem.W.Frag} {mg : Str → Option Value} {base : Heap}
/-- a if c else b, both ways told alike -/
theorem tif_two {X : Cx} {σ : L2.St} {H : Hp} {c a b : Expr} {t : Bool} {R : V → Hp → Prop} {Q : VK} (hc : EvT X σ H c t) (ha : t = true → ∀ H1 (Q1 : VK), Ex H H1 → (∀ v H', R v H' → Q1 v H') → Evl X a σ H1 Q1) (hb : t = false → ∀ H1 (Q1 : VK), Ex H H1 → (∀ v H', R v H' → Q1 v H') → Evl X b σ H1 Q1)
    (q : ∀ v H', R v H' → Q v H') : tIf (Tst X c) (Evl X a) (Evl X b) σ H Q := hc H (Ex.refl H) _ fun H1 k => by
  cases t with
  | true => exact ha rfl H1 Q k q
  | false => exact hb rfl H1 Q k q
theorem wD_sha (rg : Bool) : decide ((if rg then ("regret" : Str) else "share") = "share") = !rg := by cases rg <;> decide +kernel
theorem evt_reg {X : Cx} {σ : L2.St} {B : Hp} {a b : Expr} {pos : Pos} {rg : Bool} (ha : Ev X σ B a (wD rg)) (hb : Ev X σ B b (.str "regret")) : EvT X σ B (.Compare a [.Eq] [b] pos) rg := EvT.cast (evt_eqS ha hb) (wD_reg rg)
theorem evt_sha {X : Cx} {σ : L2.St} {B : Hp} {a b : Expr} {pos : Pos} {rg : Bool} (ha : Ev X σ B a (wD rg)) (hb : Ev X σ B b (.str "share")) : EvT X σ B (.Compare a [.Eq] [b] pos) (!rg) := EvT.cast (evt_eqS ha hb) (wD_sha rg)
theorem sq_wo {H : Hp} {a Pw : Addr} {xs : List V} {q : Str} (sq : SqL K H a xs) (tw : TabS H Pw q) : SqL K (Wo Pw H) a xs := by
  obtain ⟨ps, hP, _, _⟩ := tw
  refine sq.imp (fun rd => ?_) id
  rcases rd with z | ⟨o, z⟩
  · exact .inl (by rw [wo_ne (ne_of z hP fun t => nomatch t)]; exact z)
  · exact .inr ⟨o, by rw [wo_ne (ne_of z hP fun t => nomatch t)]; exact z⟩
theorem eqv_self {n : Nat} {d : PyData} (h : pl n d = true) : PyData.eqv d d = true := (eqv_pl n n d d h h).mpr rfl
theorem pl_plainD (rg : Bool) (p : Int × Int) : pl 1 (plainD rg p) = true := by cases rg <;> rfl
abbrev h5 : Hall := ⟨5, [1, 2, 3]⟩
abbrev h2 : Hall := ⟨2, [10, 25]⟩
theorem o5 : h5.Ok := ⟨by decide, by decide, by decide, by decide, by decide, by decide⟩
theorem o2 : h2.Ok := ⟨by decide, by decide, by decide, by decide, by decide, by decide⟩
theorem l22 : LimOk h2 [2, 2] := ⟨by decide, by decide, by decide⟩
theorem b5 : 0 ≤ (bestW h5 true).1 := by decide +kernel
theorem c1 : (allL h2.s h2.fs.length).filter (fun ls => decide (worstL h2 true ls = bestW h2 true)) = [[1, 2]] := by decide +kernel
theorem c2 : (bestW h2 true).1 = 15 := by decide +kernel
theorem c3 : worstL h2 false [2, 2] = (2, 5) := by decide +kernel
theorem c4 : (List.range 2).filter (fun k => decide (worthTo h2 true [2, 2] k = worstL h2 true [2, 2])) = [1] := by decide +kernel
theorem c5 : betterN h2 true [2, 2] = some [0, 2] := by decide +kernel
def SpLaw (K : PySem.W.Frag) (Pl Pw : Addr) : SpQ := fun vs H Q => ∃ (a : Addr) (zs : List Int), vs = [.ref a] ∧ SqL K H a (zs.map V.int) ∧ zs.length ≤ 63 ∧ TabS H Pl qL ∧ TabS H Pw qW ∧ Pl ≠ Pw ∧ ∀ H', Q (.bl true) H'
theorem ok_law {cl Pl Pw : Addr} (M : Md mg) (TB : TabB base mg cl Pl) (D : FDefC K mg "law" s_law cl) (F1 : FnQ P w K mg base 2 "_law_begun" 1 (SpBegun K)) (F2 : FnQ P w K mg base 3 "_law_yard" 3 SpYard) (F3 : FnQ P w K mg base 3 "_law_of" 2 SpOf) (F4 : Fn P w K mg base 1 "_law_limits_of" 1 PreLimitsOf)
    (F5 : FnQ P w K mg base 3 "_law_all_worst" 5 SpAllWorst) (F6 : Fn P w K mg base 7 "worst_nested" 3 PreWorstNested) (F7 : Fn P w K mg base 1 "_law_plain" 2 PreLPlain) (F8 : FnG P w K mg base 7 "_law_best_right" 2 (spG PreBestRight)) (F9 : FnG P w K mg base 8 "_law_one_right" 3 (spG PreOneRight))
    (F10 : FnQ P w K mg base 13 "least_regret" 2 (SpLeast Pw)) (F11 : FnQ P w K mg base 13 "greatest_share" 2 (SpShare Pw)) (F12 : Fn P w K mg base 6 "nested_worth" 2 PreNestedWorth) (F13 : Fn P w K mg base 1 "_law_is_worse" 3 PreLIsWorse) (F14 : FnQ P w K mg base 15 "_law_told" 1 (SpTold P w K mg base))
    (F15 : Fn P w K mg base 6 "best_nested" 2 PreBestNested) (F16 : Fn P w K mg base 7 "worst_fares" 3 PreWorstFares) (F17 : Fn P w K mg base 7 "better_nested" 3 PreBetterNested) (F18 : FnG P w K mg base 1 "_law_like" 2 (spG PreLike)) : FnG P w K mg base 16 "law" 1 (SpLaw K Pl Pw) := by
  refine fnG_mkC D sc_law (fun _ _ _ _ _ _ us hl => match us, hl with | [_], _ => rfl) rfl (fun vs H Q ⟨a, zs, e, _⟩ => by rw [e]; rfl) ?_
  intro X A outer s f E H vs Q hX hr gd hsp
  obtain ⟨a, zs, rfl, sq, hz, tl, tw, ne, q⟩ := hsp
  subst hX
  have hN := sc_law.nd
  have hu := hr.un
  replace F1 := F1.mono (by decide : 2 ≤ 15)
  replace F2 := F2.mono (by decide : 3 ≤ 15)
  replace F3 := F3.mono (by decide : 3 ≤ 15)
  replace F4 := F4.mono (by decide : 1 ≤ 15)
  replace F5 := F5.mono (by decide : 3 ≤ 15)
  replace F6 := F6.mono (by decide : 7 ≤ 15)
  replace F7 := F7.mono (by decide : 1 ≤ 15)
  replace F8 := F8.mono (by decide : 7 ≤ 15)
  replace F9 := F9.mono (by decide : 8 ≤ 15)
  have F10' := F10.mono (by decide : 13 ≤ 15)
  replace F11 := F11.mono (by decide : 13 ≤ 15)
  replace F12 := F12.mono (by decide : 6 ≤ 15)
  replace F13 := F13.mono (by decide : 1 ≤ 15)
  replace F15 := F15.mono (by decide : 6 ≤ 15)
  replace F16 := F16.mono (by decide : 7 ≤ 15)
  replace F17 := F17.mono (by decide : 7 ≤ 15)
  replace F18 := F18.mono (by decide : 1 ≤ 15)
  refine run_cons (ps_set (i := 1) hN rfl (.inl rfl) Evl.pe (by rfl) (.inr rfl)) ?_
  show Evl _ _ _ _ _
  refine evl_callQA (t := tCons (tVar 0) tNil) F1 hr (pa_cons (pe_var (i := 0) rfl (.inl rfl) (by decide) (by decide)) pa_nil) ?_
  refine ⟨.ref a, rfl, a, zs, rfl, sq, hz, fun m c g H1 k1 hm hc hg st => ?_⟩
  have wn : ∀ b, H b = none → Wo Pw H b = none := fun b z => by
    unfold Wo
    split
    · rfl
    · exact z
  have hBm := wn m hm
  have hBg := wn g hg
  have hBw : Wo Pw H Pw = none := wo_self
  have sqB := sq_wo sq tw
  have j1 : Jn (Wo Pw H) Pw Pl m c g H1 0 := ⟨wo_ex.trans k1, k1.tabs _ _ tw, k1.tabs _ _ tl, st, by decide⟩
  generalize Wo Pw H = B at hBm hBg hBw sqB j1
  show Run _ _ _ _ _
  refine run_cons (ps_for PassesOwn.never rfl (pi_range1 rfl M.z_range (pa_cons pe_int pa_nil rfl) rfl) (pg_name (i := 2) hN rfl (.inl rfl) (.inr rfl)) Run.pss (by intro _; rfl)) ?_
  refine ⟨4, rfl, by decide, by decide, ?_⟩
  refine for_it walk_range (fun i σ' H' => ∃ (n : Int) (u2 u3 u4 u5 u6 u7 u8 u9 u10 : Option V), σ' = [some (.ref a), some (.ref m), u2, u3, u4, u5, u6, u7, u8, u9, u10, none, none] ∧ Jn B Pw Pl m c g H' n ∧ n ≤ 60 * i)
    ⟨0, none, none, none, none, none, none, none, none, none, rfl, j1, by decide⟩ (fun _ _ _ _ _ => trivial) (fun i x σ' Ha Hb hi p y => ?_) fun σ' Ha p => ?_
  · obtain ⟨n, u2, u3, u4, u5, u6, u7, u8, u9, u10, rfl, j, hn⟩ := p
    obtain ⟨rfl, rfl⟩ := y
    have hi4 : i < 4 := hi
    show Run _ _ _ _ _
    refine run_cons (ps_par rfl hN (i := 3) (j := 4) rfl rfl (by decide) rfl rfl (pa_cons Evl.pe (pa_cons Evl.pe pa_nil rfl) rfl) rfl rfl) ?_
    show Evl _ _ _ _ _
    refine evl_yard F2 hr 1 rfl j.gen j.n0 (by omega) (by decide) (by decide) (by decide) (by decide) fun h n1 v3 H1 o s3 l3 na nb st1 e1 i3 => ?_
    obtain ⟨j1, d1⟩ := j.w2 hBm hBg st1 e1 (by have := j.n0; omega)
    show Evl _ _ _ _ _
    refine evl_of (B := W2 m g H1) F3 hr 1 rfl (ev_lst (eva_cons ev_str (eva_cons ev_str eva_nil))) w2_ex w2_g j1.gen j1.n0 (by omega) (fun z => nomatch z) (by simp) (fun d hd => ?_) fun d v4 H2 hd i4 st2 e2 => ?_
    · rcases List.mem_cons.mp hd with z | z
      · rw [z]; rfl
      · rw [List.mem_singleton.mp z]; rfl
    obtain ⟨j2, d2⟩ := j1.w2 hBm hBg st2 e2 (by have := j1.n0; omega)
    obtain ⟨rg, rfl⟩ : ∃ rg, d = wD rg := by
      rcases List.mem_cons.mp hd with z | z
      · exact ⟨true, z⟩
      · exact ⟨false, List.mem_singleton.mp z⟩
    have i32 := d2 v3 h.d (nol_hall h) i3
    refine ⟨v3, v4, rfl, ?_⟩
    show Run _ _ _ _ _
    refine run_cons (ps_set (i := 5) hN rfl (.inl rfl) Evl.pe (by rfl) (.inr rfl)) ?_
    show Evl _ _ _ _ _
    have sz := allL_sz o
    have nel : allL h.s h.fs.length ≠ [] := allL_ne (by have := o.s1; omega) _
    refine evl_of (B := W2 m g H2) F3 hr 1 rfl (ev_call F4 hr (.mk h o) (eva_cons (ev_var 3 rfl (Rp.w2n j2.gen i32 (nol_hall h))) eva_nil)) w2_ex w2_g j2.gen j2.n0 (by omega) (fun z => nel (List.map_eq_nil_iff.mp z)) (by rw [List.length_map]; omega) (fun d hd => ?_) fun d v5 H3 hd i5 st3 e3 => ?_
    · obtain ⟨ls, _, rfl⟩ := List.mem_map.mp hd
      exact nol_dIs ls
    obtain ⟨j3, d3⟩ := j2.w2 hBm hBg st3 e3 (by have := j2.n0; omega)
    obtain ⟨ls, hl, rfl⟩ := List.mem_map.mp hd
    have l := allL_lim o hl
    have i33 := d3 v3 h.d (nol_hall h) i32
    have i43 := d3 v4 (wD rg) rfl i4
    show Run _ _ _ _ _
    refine run_forN (B := H3) 6 (evi_tup (ev_tup (eva_cons ev_str (eva_cons ev_str eva_nil)))) (Ex.refl _) (fun B2 H4 k4 kB2 k24 gB => ?_) hN
    refine ⟨fun _ σ' H' => Ex H3 H' ∧ Ex B2 H' ∧ ∃ u6 u7, σ' = [some (.ref a), some (.ref m), some (.int (0 + (i : Int))), some v3, some v4, some v5, u6, u7, u8, u9, u10, none, none], ⟨k4, k24, _, _, rfl⟩, fun i σ' H' t => t.2.1, ?_, ?_⟩
    · rintro k d vv σ' Hc Hd hd ⟨ec, eb, u6, u7, rfl⟩ kcd rv
      obtain ⟨rs, rfl⟩ : ∃ rs, d = sortD rs := by
        have z := List.mem_of_getElem? hd
        rcases List.mem_cons.mp z with z | z
        · exact ⟨false, z⟩
        · exact ⟨true, List.mem_singleton.mp z⟩
      have ed := ec.trans kcd
      have ebd := eb.trans kcd
      have x3 := i33.up ed
      have x4 := i43.up ed
      have x5 := i5.up ed
      refine run_cons (ps_set (i := 7) hN rfl (.inl rfl) Evl.pe (by rfl) (.inr rfl)) ?_
      show Evl _ _ _ _ _
      refine evl_callQ (B := Hd) F5 hr (eva_cons (ev_var 3 rfl x3) (eva_cons (ev_var 6 rfl rv) (eva_cons (ev_var 4 rfl x4) (eva_cons (ev_var 5 rfl x5) (eva_cons ev_int eva_nil))))) (Ex.refl _) fun ws He ke r5 => ⟨h, rs, rg, ls, r5.is, o, l, fun Hf kf => ?_, fun F v7 Hf kf i7 aw => ?_⟩
      · show Run _ _ _ _ _
        refine run_ifF (B := Hf) (EvT.cast (evt_and2 (u := false) (evt_notN (ev_var 7 rfl (.non : Is Hf _ _)) ev_none) (fun z => nomatch z)) rfl) (Ex.refl _) fun Hg kg => ?_
        exact run_nil ⟨ed.trans (ke.trans (kf.trans kg)), ebd.trans (ke.trans (kf.trans kg)), _, _, rfl⟩
      · have eF := aw_eq o s3 (by omega) l aw
        subst eF
        have kdf := ke.trans kf
        show Run _ _ _ _ _
        refine run_ifF (B := Hf) (EvT.cast (evt_and2 (evt_notN (ev_var 7 rfl i7) ev_none) (fun _ => evt_neD hr.units (ev_call F6 hr (.mk h rg ls o l) (eva_cons (ev_var 3 rfl (x3.up kdf)) (eva_cons (ev_var 4 rfl (x4.up kdf)) (eva_cons (ev_var 5 rfl (x5.up kdf)) eva_nil)))) (ev_call F7 hr (.mk rg (worstL h rg ls)) (eva_cons (ev_var 4 rfl (x4.up kdf)) (eva_cons (ev_var 7 rfl i7) eva_nil)))
          (pl_sh (pl_plainD _ _) (by decide)) (pl_sh (pl_plainD _ _) (by decide)))) (by rw [eqv_self (pl_plainD _ _)]; rfl)) (Ex.refl _) fun Hg kg => ?_
        exact run_nil ⟨ed.trans (kdf.trans kg), ebd.trans (kdf.trans kg), _, _, rfl⟩
    · rintro σ' Hc ⟨ec, eb, u6, u7, rfl⟩
      obtain ⟨jc, _⟩ := j3.e ec
      have x3 := i33.up ec
      have x4 := i43.up ec
      have x5 := i5.up ec
      refine run_ifF (B := Hc) (EvT.cast (evt_or2 (evt_not (evt_val (ev_callG F8 hr gd (.mk h rg o) (eva_cons (ev_var 3 rfl x3) (eva_cons (ev_var 4 rfl x4) eva_nil))))) (fun _ => evt_not (evt_val (ev_callG F9 hr gd (.mk h rg ls o l) (eva_cons (ev_var 3 rfl x3) (eva_cons (ev_var 4 rfl x4) (eva_cons (ev_var 5 rfl x5) eva_nil))))))) rfl) (Ex.refl _) fun Hd kd => ?_
      obtain ⟨jd, _⟩ := jc.e kd
      have y3 := x3.up kd
      have y4 := x4.up kd
      refine run_cons (ps_set (i := 8) hN rfl (.inl rfl) (pe_ifExp Tst.pt Evl.pe Evl.pe) (by rfl) (.inr rfl)) ?_
      have fw : Few h := few_33 o s3 (by omega)
      refine tif_two (t := rg) (R := fun v H' => ∃ V, Ex (Wo Pw Hd) H' ∧ TabS H' Pw qW ∧ GV h rg V ∧ Is H' v (plainD rg V)) (EvT.cast (evt_eqS (ev_var 4 rfl y4) ev_str) (wD_reg rg)) (fun e H1 Q1 k1 q1 => ?_) (fun e H1 Q1 k1 q1 => ?_) fun v8 He hR => ?_
      · subst e
        refine evl_callQ (B := H1) F10' hr (eva_cons (ev_var 3 rfl (y3.up k1)) (eva_cons ev_str eva_nil)) (Ex.refl _) fun ws H2 k2 r2 => ⟨h, r2.is, o, fw, (k1.trans k2).tabs _ _ jd.tw, fun V v H' e t gv iv => q1 v H' ⟨V, (Ex.woT2 (k1.trans k2) jd.tw).trans e, t, gv, iv⟩⟩
      · subst e
        refine evl_callQ (B := H1) F11 hr (eva_cons (ev_var 3 rfl (y3.up k1)) (eva_cons ev_str eva_nil)) (Ex.refl _) fun ws H2 k2 r2 => ⟨h, r2.is, o, fw, (k1.trans k2).tabs _ _ jd.tw, fun V v H' e t gv iv => q1 v H' ⟨V, (Ex.woT2 (k1.trans k2) jd.tw).trans e, t, gv, iv⟩⟩
      obtain ⟨V, ew, t8, gv, i8⟩ := hR
      obtain ⟨je, de⟩ := jd.wo hBw ne ew t8
      have z3 := de v3 h.d (nol_hall h) y3
      have z4 := de v4 (wD rg) rfl y4
      show Run _ _ _ _ _
      refine run_set (B := He) 9 (ev_call F12 hr (.mk h rg o) (eva_cons (ev_var 3 rfl z3) (eva_cons (ev_var 4 rfl z4) eva_nil))) (Ex.refl _) (fun v9 Hf kf r9 => ?_) hN
      obtain ⟨jf, _⟩ := je.e kf
      have i9 := r9.is
      have i8' := i8.up kf
      have z4' := z4.up kf
      refine run_ifF (B := Hf) ?tst (Ex.refl _) fun Hg kg => ?rest
      case tst =>
        cases rg with
        | true =>
          refine EvT.cast (b := (true && decide ((bestW h true).1 < V.1)) || false) ?_ (by rw [decide_eq_false (by have := gv.le o; omega)]; rfl)
          refine evt_or2 (evt_and2 (t := true) ?_ fun _ => ?_) fun _ => ?_
          · exact evt_reg (ev_var 4 rfl z4') ev_str
          · exact evt_lt (i := (bestW h true).1) (j := V.1) (ev_var 9 rfl i9) (ev_var 8 rfl i8')
          · exact evt_and2 (t := false) (u := true) (evt_sha (ev_var 4 rfl z4') ev_str) fun z => nomatch z
        | false =>
          refine EvT.cast (b := (false && true) || (true && isW false V (bestW h false))) ?_ (by rw [show isW false V (bestW h false) = false from gv.nw]; rfl)
          refine evt_or2 (evt_and2 ?_ fun z => nomatch z) fun _ => evt_and2 (t := true) ?_ fun _ => evt_val ?_
          · exact evt_reg (ev_var 4 rfl z4') ev_str
          · exact evt_sha (ev_var 4 rfl z4') ev_str
          · exact ev_call F13 hr (.mk false V (bestW h false) gv.sm (bestW_sm o false)) (eva_cons (ev_var 4 rfl z4') (eva_cons (ev_var 8 rfl i8') (eva_cons (ev_var 9 rfl i9) eva_nil)))
      case rest =>
        obtain ⟨jg, _⟩ := jf.e kg
        have x4 := z4'.up kg
        refine run_cons (ps_set (i := 10) hN rfl (.inl rfl) Evl.pe (by rfl) (.inr rfl)) ?_
        show Evl _ _ _ _ _
        refine evl_yard F2 hr 1 rfl jg.gen jg.n0 (by omega) (by decide) (by decide) (by decide) (by decide) fun h' n4 v10 H5 o' s6 l4 na4 nb4 st5 e5 i10 => ?_
        obtain ⟨j5, d5⟩ := jg.w2 hBm hBg st5 e5 (by have := jg.n0; omega)
        have x45 := d5 v4 (wD rg) rfl x4
        show Run _ _ _ _ _
        refine run_cons (ps_if (pt_not (pt_val Evl.pe)) Run.pss Run.pss) ?_
        show Evl _ _ _ _ _
        refine evl_callG F9 hr gd (pa_cons (pe_var (i := 10) rfl (.inl rfl) (by decide) (by decide)) (pa_cons (pe_var (i := 4) rfl (.inl rfl) (by decide) (by decide)) (pa_cons Evl.pe pa_nil rfl) rfl) rfl) ?_
        refine ⟨v10, rfl, v4, rfl, ?_⟩
        show Evl _ _ _ _ _
        have sz' := allL_sz o'
        have nel' : allL h'.s h'.fs.length ≠ [] := allL_ne (by have := o'.s1; omega) _
        refine evl_of (B := W2 m g H5) F3 hr 1 rfl (ev_call F4 hr (.mk h' o') (eva_cons (ev_var 10 rfl (Rp.w2n j5.gen i10 (nol_hall h'))) eva_nil)) w2_ex w2_g j5.gen j5.n0 (by omega) (fun z => nel' (List.map_eq_nil_iff.mp z)) (by rw [List.length_map]; omega) (fun d hd => ?_) fun d v11 H6 hd i11 st6 e6 => ?_
        · obtain ⟨ls, _, rfl⟩ := List.mem_map.mp hd
          exact nol_dIs ls
        obtain ⟨j6, d6⟩ := j5.w2 hBm hBg st6 e6 (by have := j5.n0; omega)
        obtain ⟨ls', hl', rfl⟩ := List.mem_map.mp hd
        have l' := allL_lim o' hl'
        refine ⟨_, _, .cons (d6 v10 h'.d (nol_hall h') i10) (.cons (d6 v4 (wD rg) rfl x45) (.cons i11 .nil)), .mk h' rg ls' o' l', fun v H7 k7 r7 => ?_⟩
        cases r7
        refine ⟨true, rfl, ?_⟩
        show Run _ [] _ _ _
        obtain ⟨j7, _⟩ := j6.e k7
        exact run_nil (run_nil ⟨_, _, _, _, _, _, _, _, _, _, rfl, j7, by omega⟩)
  · obtain ⟨n, u2, u3, u4, u5, u6, u7, u8, u9, u10, rfl, j, hn⟩ := p
    show Run _ _ _ _ _
    refine run_cons (ps_set (i := 11) hN rfl (.inl rfl) (pe_ifExp Tst.pt Evl.pe Evl.pe) (by rfl) (.inr rfl)) ?_
    refine tif_two (t := decide (zs = [])) (R := fun v H' => ∃ z : Int, Is H' v (.list [.int z]) ∧ z ≤ (bestW h5 true).1) (evt_sqNil (B := Ha) 0 hr.units rfl (j.ex.sq sqB)) (fun e H1 Q1 k1 q1 => ?_) (fun e H1 Q1 k1 q1 => ?_) fun v11 He hR => ?_
    · refine evl_callQA (t := tCons (tLamP _ Pl _ _ _) tNil) F14 hr (pa_cons (pe_lamG TB rfl (fun ok z hz e => ?_) rfl) pa_nil rfl) ?_
      · rw [List.mem_singleton.mp hz] at e
        cases e
      refine ⟨k1.tabs _ _ j.tl, fun f1 c1 H2 e2 t2 hf0 hfP hf hc => ?_⟩
      have tw2 : TabS H2 Pw qW := e2.tabs _ _ (tabs_wo (k1.tabs _ _ j.tw) (k1.tabs _ _ j.tl) (Ne.symm ne))
      refine ⟨f1, fun v _ => ∃ V, GV h5 true V ∧ v = .int V.1, rfl, ⟨qL, _, _, _, c1, ⟨rfl, rfl, rfl, ?_⟩, hf, hc, fun _ _ _ => rfl, fun A' outer' s' H3 Q3 hr3 k3 q3 => ?_⟩, fun v H3 H4 p hv k4 hp => ?_⟩
      · intro z hz
        rw [List.mem_singleton.mp hz]
        exact ⟨fun t => (by cases t), fun t => (by cases t), fun t => by cases t⟩
      · refine evl_callQ (B := H3) F10 hr3 (eva_cons (ev_tup (eva_cons ev_int (eva_cons (ev_tup (eva_cons ev_int (eva_cons ev_int (eva_cons ev_int eva_nil)))) eva_nil))) (eva_cons ev_str eva_nil)) (Ex.refl _) fun ws H4 k4 r4 => ⟨h5, r4.is, o5, few_53, (k3.trans k4).tabs _ _ tw2, fun V v H' e t gv iv => q3 v H' ⟨V, gv, ?_⟩⟩
        cases iv
        rfl
      · obtain ⟨V, gv, rfl⟩ := hv
        exact q1 _ _ ⟨V.1, .lst trivial upd_same (.cons (.int _) .nil), gv.le o5⟩
    · exact (ev_lst (B := H1) (eva_cons ev_int eva_nil)) H1 (Ex.refl _) _ fun v H' e r => q1 v H' ⟨0, r.is, b5⟩
    obtain ⟨z, i11, hz5⟩ := hR
    show Run _ _ _ _ _
    refine run_ifF (B := He) ?tst (Ex.refl _) fun Hf kf => ?_
    case tst =>
      refine EvT.cast (b := (!true) || decide ((bestW h5 true).1 < z)) ?_ (by rw [decide_eq_false (by omega)]; rfl)
      refine evt_or2 (evt_not (evt_val ?_)) fun _ => ?_
      · exact ev_isi M.z_isinstance (ev_var 11 rfl i11) M.z_list bt_list k_ll
      · exact evt_gt (ev_ixL (ev_var 11 rfl i11) ev_int (atI_nat (n := 0) rfl)) (Ev.cast (ev_call F12 hr (.mk h5 true o5) (eva_cons (ev_tup (eva_cons ev_int (eva_cons (ev_tup (eva_cons ev_int (eva_cons ev_int (eva_cons ev_int eva_nil)))) eva_nil))) (eva_cons ev_str eva_nil))) rfl)
    refine run_set (B := Hf) (d := h2.d) 3 (ev_tup (eva_cons ev_int (eva_cons (ev_tup (eva_cons ev_int (eva_cons ev_int eva_nil))) eva_nil))) (Ex.refl _) (fun v3 Hg kg r3 => ?_) hN
    have i3 := r3.is
    refine run_set (B := Hg) (d := .list [.tuple [dIs [1, 2]], .int 15, frD (2, 5)]) 12 (ev_lst (eva_cons (Ev.cast (ev_call F15 hr (.mk h2 true o2) (eva_cons (ev_var 3 rfl i3) (eva_cons ev_str eva_nil))) (by rw [c1]; rfl)) (eva_cons (Ev.cast (ev_call F12 hr (.mk h2 true o2) (eva_cons (ev_var 3 rfl i3) (eva_cons ev_str eva_nil))) (by show PyData.int (bestW h2 true).1 = _; rw [c2]))
      (eva_cons (Ev.cast (ev_call F6 hr (.mk h2 false [2, 2] o2 l22) (eva_cons (ev_var 3 rfl i3) (eva_cons ev_str (eva_cons (ev_tup (eva_cons ev_int (eva_cons ev_int eva_nil))) eva_nil)))) (by show frD (worstL h2 false [2, 2]) = _; rw [c3])) eva_nil)))) (Ex.refl _) (fun v12 Hh kh r12 => ?_) hN
    have i3' := i3.up kh
    refine run_set (B := Hh) (d := .list [.tuple [dIs [1, 2]], .int 15, frD (2, 5), dIs [1], dIs [0, 2]]) 12 (Ev.cast (ev_catL (ev_var 12 rfl r12.is) (ev_lst (ds := [dIs [1], dIs [0, 2]]) (eva_cons (Ev.cast (ev_call F16 hr (.mk h2 true [2, 2] o2 l22) (eva_cons (ev_var 3 rfl i3') (eva_cons ev_str (eva_cons (ev_tup (eva_cons ev_int (eva_cons ev_int eva_nil))) eva_nil)))) (by show PyData.tuple (((List.range 2).filter _).map _) = _; rw [c4]; rfl))
      (eva_cons (Ev.cast (ev_call F17 hr (.mk h2 true [2, 2] o2 l22) (eva_cons (ev_var 3 rfl i3') (eva_cons ev_str (eva_cons (ev_tup (eva_cons ev_int (eva_cons ev_int eva_nil))) eva_nil)))) (by rw [c5]; rfl)) eva_nil))) (by decide)) rfl) (Ex.refl _) (fun v13 Hi ki r13 => ?_) hN
    refine run_ret (B := Hi) (d := .bool true) ?_ (Ex.refl _) fun v H' k r => ?_
    · refine ev_callG F18 hr gd (.mk (.list [.tuple [dIs [1, 2]], .int 15, frD (2, 5), dIs [1], dIs [0, 2]]) (shows_of (by decide +kernel) (by decide +kernel) fun z => nomatch z)) ?_
      refine eva_cons (ev_var 12 rfl r13.is) (eva_cons ?_ eva_nil)
      refine Ev.cast (ev_lst (ds := [.tuple [.tuple [.int 1, .int 2]], .int 15, .tuple [.int 2, .int 5], .tuple [.int 1], .tuple [.int 0, .int 2]]) ?_ (by decide)) rfl
      refine eva_cons ?_ (eva_cons ev_int (eva_cons ?_ (eva_cons ?_ (eva_cons ?_ eva_nil))))
      · exact ev_tup (eva_cons (ev_tup (eva_cons ev_int (eva_cons ev_int eva_nil))) eva_nil)
      · exact ev_tup (eva_cons ev_int (eva_cons ev_int eva_nil))
      · exact ev_tup (eva_cons ev_int eva_nil)
      · exact ev_tup (eva_cons ev_int (eva_cons ev_int eva_nil))
    · cases r
      exact q H'
end Bl

set_option Elab.async false
set_option linter.all false
set_option autoImplicit false
set_option maxRecDepth 100000
set_option maxHeartbeats 400000
namespace Bl
open PySem PySem.Spec PyProof.Rows L2 LamX StX
/-! ### the law's own call -/
abbrev tabO : Obj := { cls := .none, data := .fields #[] }
abbrev lisO (vs : List Value) : Obj := { cls := .type "list", data := .seq vs.toArray }
/-- what stands where the law begins: its script at a, the code objects' tables, empty -/
structure Beg (K : PySem.W.Frag) (mg mb : Str → Option Value) (cs : List (Addr × Addr)) (a : Addr) (vs : List Value) (ns : List Int) (s : Shared) : Prop where
  kin : K.In s.heap
  glo : s.heap.Ns mainGlobals mg
  blt : s.heap.Ns builtinsNs mb
  bbt : ∀ x : Str, x ≠ "__name__" → mb x = bootBuiltins x
  lim : s.heap.NoLimit
  gen : s.gens = #[]
  tab : ∀ p ∈ cs, s.heap.get? p.2 = some tabO
  out : ∀ p ∈ cs, K.lookup p.2 = none
  cod : ∀ p ∈ cs, PySem.W.CodeHd s.heap p.1 p.2
  bmo : ∃ (bm : Addr) (ob : Obj), mg "__builtins__" = some (.ref bm) ∧ bm ≠ builtinsNs ∧ s.heap.get? bm = some ob ∧ ob.cls = .type "module" ∧ ob.dict = some builtinsNs ∧ ob.data = .plain
  lst : s.heap.get? a = some (lisO vs)
  are : IntsAre vs ns
  few : ns.length ≤ sizeLine
/-- the heap that is known there -/
noncomputable def begH (K : PySem.W.Frag) (cs : List (Addr × Addr)) (a : Addr) (vs : List Value) (ns : List Int) : Hp := open Classical in
  fun b => if ∃ p ∈ cs, p.2 = b then some (.tbl #[]) else if b = a ∧ K.lookup a = none then some (.frz (lisO vs) (.lst (ns.map V.int))) else none
section
variable {P : Program} {w : World} {K : PySem.W.Frag} {mg mb : Str → Option Value} {cs : List (Addr × Addr)} {a : Addr} {vs : List Value} {ns : List Int} {s : Shared}
theorem begH_tab {p : Addr × Addr} (hp : p ∈ cs) : begH K cs a vs ns p.2 = some (.tbl #[]) := if_pos ⟨p, hp, rfl⟩
theorem begH_or {b : Addr} {u : HO} (h : begH K cs a vs ns b = some u) : ((∃ p ∈ cs, p.2 = b) ∧ u = .tbl #[]) ∨ (b = a ∧ K.lookup a = none ∧ u = .frz (lisO vs) (.lst (ns.map V.int))) := by
  unfold begH at h
  split at h
  · rename_i hp
    exact .inl ⟨hp, (Option.some.inj h).symm⟩
  · split at h
    · rename_i hp
      exact .inr ⟨hp.1, hp.2, (Option.some.inj h).symm⟩
    · cases h
theorem tab_lis {vs : List Value} (h : (some tabO : Option Obj) = some (lisO vs)) : False := by
  have z : Value.none = Value.type "list" := congrArg Obj.cls (Option.some.inj h)
  cases z
variable (B : Beg K mg mb cs a vs ns s)
include B
theorem Beg.hok : HOk P w (begH K cs a vs ns) s.heap := fun b u e => by
  rcases begH_or e with ⟨⟨p, hp, rfl⟩, rfl⟩ | ⟨rfl, _, rfl⟩
  · exact B.tab p hp
  · have := B.few
    exact ⟨B.lst, by rw [List.length_map]; exact this, vs, _, vals_ints B.are, B.lst⟩
/-- what is neither the script nor such a table is not known -/
theorem Beg.vis {b : Addr} {o : Obj} (e : s.heap.get? b = some o) (h1 : o ≠ tabO) (h2 : o ≠ lisO vs) : begH K cs a vs ns b = none := by
  cases q : begH K cs a vs ns b with
  | none => rfl
  | some u =>
    rcases begH_or q with ⟨⟨p, hp, rfl⟩, _⟩ | ⟨rfl, _, _⟩
    · rw [B.tab p hp] at e
      exact absurd (Option.some.inj e).symm h1
    · rw [B.lst] at e
      exact absurd (Option.some.inj e).symm h2
theorem Beg.sql : SqL K (begH K cs a vs ns) a (ns.map V.int) := by
  cases hk : K.lookup a with
  | none =>
    refine .inl (.inr ⟨lisO vs, ?_⟩)
    unfold begH
    rw [if_neg, if_pos ⟨rfl, hk⟩]
    rintro ⟨p, hp, z⟩
    have t := B.tab p hp
    rw [z, B.lst] at t
    exact tab_lis t.symm
  | some o =>
    have e := (B.kin a o hk).symm.trans B.lst
    have e' := Option.some.inj e
    subst e'
    have h1 := B.are.length
    have h2 := B.few
    exact .inr ⟨lisO vs, vs.toArray, _, hk, rfl, rfl, rfl, by rw [List.size_toArray]; omega, by rw [List.toList_toArray]; exact vals_ints B.are⟩
/-- the rest, as a heap of its own -/
theorem Beg.at_ {b : Addr} {o : Obj} (e : s.heap.get? b = some o) (h1 : o ≠ tabO) (h2 : o ≠ lisO vs) : (hidT s.heap (begH K cs a vs ns)).get? b = some o := hidT_get e (B.vis e h1 h2)
theorem Beg.ns_ {b : Addr} {m : Str → Option Value} (x : s.heap.Ns b m) : (hidT s.heap (begH K cs a vs ns)).Ns b m := by
  obtain ⟨o, es, ep, e, hd, r⟩ := x
  refine ⟨o, es, ep, B.at_ e (fun z => ?_) (fun z => ?_), hd, r⟩
  · rw [z] at hd
    cases hd
  · rw [z] at hd
    cases hd
theorem Beg.kin_ : K.In (hidT s.heap (begH K cs a vs ns)) := fun b o e => hidT_get (B.kin b o e) (by
  cases q : begH K cs a vs ns b with
  | none => rfl
  | some u =>
    rcases begH_or q with ⟨⟨p, hp, rfl⟩, _⟩ | ⟨rfl, hk, _⟩
    · rw [B.out p hp] at e; cases e
    · rw [hk] at e; cases e)
theorem Beg.mod_ : L2.Mod K mg (hidT s.heap (begH K cs a vs ns)) := by
  obtain ⟨mc, l1, l2⟩ := B.lim
  exact ⟨B.kin_, B.ns_ B.glo, ⟨mb, B.ns_ B.blt, B.bbt⟩, mc, B.ns_ l1, l2⟩
theorem Beg.tabB {p : Addr × Addr} (hp : p ∈ cs) : TabB (hidT s.heap (begH K cs a vs ns)) mg p.1 p.2 where
  code := by
    obtain ⟨o, us, file, tf, flags, tg, inF, text, tt, e, c, r⟩ := B.cod p hp
    refine ⟨o, us, file, tf, flags, tg, inF, text, tt, B.at_ e (fun z => ?_) (fun z => ?_), c, r⟩
    · rw [z] at c
      cases c
    · rw [z] at c
      simp at c
  bm := by
    obtain ⟨bm, ob, b1, b2, e, c, dc, dt⟩ := B.bmo
    have n1 : bm ≠ mainGlobals := fun z => by
      obtain ⟨o, es, ep, e', hd, _⟩ := B.glo
      rw [← z, e] at e'
      rw [← Option.some.inj e', dt] at hd
      cases hd
    have n2 : bm ≠ p.2 := fun z => by
      have t := B.tab p hp
      rw [← z, e] at t
      rw [Option.some.inj t] at c
      cases c
    refine ⟨bm, ob, b1, b2, n1, n2, B.at_ e (fun z => ?_) (fun z => ?_), c, dc, dt⟩
    · rw [z] at c
      cases c
    · rw [z] at dt
      cases dt
  gP := fun z => by
    obtain ⟨o, es, ep, e', hd, _⟩ := B.glo
    rw [z, B.tab p hp] at e'
    rw [← Option.some.inj e'] at hd
    cases hd
theorem Beg.env0 : Env0 P w K mg (hidT s.heap (begH K cs a vs ns)) callerA [] s (begH K cs a vs ns) where
  frames := rfl
  mod := B.mod_
  bs := fun b o e => of_hidT e
  bsz := Nat.le_of_eq (hidT_size _ _)
  funs := trivial
  frf := fun b hb => nomatch (show b ∈ ([] : List Addr) from hb)
  hok := B.hok
  bare := .of_eq B.gen
/-- a law whose promise is told answers True, and what stood stands -/
theorem law_go {k : Nat} {fa : Addr} {x : Str} {sp : SpQ} (hr : Room k callerA) (hm : mg x = some (.ref fa)) (F : ∀ base : Heap, K.In base → base.Ns mainGlobals mg → (∀ p ∈ cs, TabB base mg p.1 p.2) → FnG P w K mg base k x 1 sp)
    (hsp : ∀ H : Hp, (∀ p ∈ cs, H p.2 = some (.tbl #[])) → SqL K H a (ns.map V.int) → sp [.ref a] H fun v _ => v = .bl true) :
    codeAny (model P w) callerA (.call (.ref fa) ⟨[.ref a], []⟩) (fun r s' => r = .ok (.ret (.bool true)) ∧ OldK s.heap s'.heap ∧ s'.os = s.os ∧ AllBare s'.gens) s := by
  obtain ⟨f, fd, ps, Fk, hl, hm', _, hb⟩ := (F _ B.kin_ (B.ns_ B.glo) fun p hp => B.tabB hp).ex
  cases hm.symm.trans hm'
  have bd := hb s [.ref a] B.kin (by rw [List.append_nil, hl]; rfl)
  rw [List.append_nil] at bd
  have go := Fk.run callerA [] s (begH K cs a vs ns) ⟨[.ref a], []⟩ [.ref a] [.ref a] (fun v _ => v = .bl true) (fun _ _ _ => False) hr rfl B.env0 bd (.cons rfl .nil) (hsp _ (fun p hp => begH_tab hp) B.sql)
  refine codeAny_mono go fun r s' h => ?_
  match r, h with
  | .ok (.ret u), ⟨v, H', os, bare, un, hok', ru, q⟩ =>
    subst q
    obtain rfl : u = Value.bool true := ru
    have old : ∀ b o, s.heap.get? b = some o → s'.heap.get? b = some o ∨ ∃ p ∈ cs, p.2 = b := fun b o e => by
      cases q : begH K cs a vs ns b with
      | none => exact .inl (un.keep b o e q (fun z => nomatch (show b ∈ ([] : List Addr) from z)) (fun z => nomatch z))
      | some u =>
        rcases begH_or q with ⟨hp, _⟩ | ⟨_, _, eu⟩
        · exact .inr hp
        · rw [eu] at q
          obtain ⟨e1, _⟩ := (Beg.hok (P := P) (w := w) B) b _ q
          obtain ⟨e2, _⟩ := hok' b _ (un.frzs b _ _ q)
          rw [e] at e1
          rw [Option.some.inj e1]
          exact .inl e2
    have grew : ∀ p ∈ cs, ∃ ps : Array Value, s'.heap.get? p.2 = some { cls := .none, data := .fields ps } := fun p hp => by
      obtain ⟨ps, z⟩ := un.tbls p.2 #[] (begH_tab hp)
      exact ⟨_, hok' p.2 _ z⟩
    refine ⟨rfl, ⟨fun b o e => ?_, fun b o e => ?_⟩, os, bare⟩
    · rcases old b o e with z | ⟨p, hp, rfl⟩
      · exact .inl z
      · obtain ⟨ps, hps⟩ := grew p hp
        rw [B.tab p hp] at e
        rw [← Option.some.inj e]
        exact .inr (.inl ⟨((B.cod p hp).tab (B.tab p hp)).isCodeTable, rfl, #[], ps, rfl, by rw [Array.empty_append]; exact hps⟩)
    · rcases old b o e with z | ⟨p, hp, rfl⟩
      · exact ⟨o, z⟩
      · obtain ⟨ps, hps⟩ := grew p hp
        exact ⟨_, hps⟩
  | .ok .next, h => exact False.elim h
  | .ok .brk, h => exact False.elim h
  | .ok .cont, h => exact False.elim h
  | .error e, h => exact (show False from h).elim
end
end Bl

set_option Elab.async false
set_option linter.all false
set_option autoImplicit false
set_option maxRecDepth 100000
set_option maxHeartbeats 2000000
namespace Bl
open PySem PySem.Spec PyProof.Rows L2 LamX StX
section
variable {P : Program} {w : World} {K : PySem.W.Frag} {mg : Str → Option Value} {h : Heap}
theorem fdef_of (X : K.In h) (G : h.Ns mainGlobals mg) (c : He.SaysD fa fn K) (i : Nat) {x : Str} {st : Stmt} (h1 : fn[i]? = some (dd x st)) (h2 : fa[i]? = some (.glo x)) : FDef K mg x st := by
  obtain ⟨fd, F⟩ := c.def_ i h1
  exact ⟨_, fd, F, He.glo_ok X G (c.fact i h2)⟩
theorem fdefC_of (X : K.In h) (G : h.Ns mainGlobals mg) (c : He.SaysD fa fn K) (i : Nat) {x : Str} {st : Stmt} (h1 : fn[i]? = some (dd x st)) (h2 : fa[i]? = some (.glo x)) : FDefC K mg x st (He.codeOf K (x, none)) := by
  obtain ⟨fd, F⟩ := c.def_ i h1
  have F' : FunD K x x (defArgs st) (defBody st) (defScope st) [] [] (He.fAd K (x, none)) fd := F
  obtain ⟨oc, od, dV, kV, doc, pm, an, cdv, ct, osl, e, lk, hcd, r⟩ := id F'.ex
  obtain ⟨c', ec⟩ := He.codeIn_ref hcd
  have e2 : fd.code = .ref c' := by rw [e, ec]
  exact ⟨_, fd, F', He.glo_ok X G (c.fact i h2), by rw [He.codeOf_eq lk e2]; exact e2⟩
theorem md_of (X : K.In h) (G : h.Ns mainGlobals mg) (c : He.SaysD fa fn K) : Md mg where
  z_int := He.free_ok X G (c.fact 70 (f := .free "int") rfl)
  z_str := He.free_ok X G (c.fact 71 (f := .free "str") rfl)
  z_bool := He.free_ok X G (c.fact 72 (f := .free "bool") rfl)
  z_tuple := He.free_ok X G (c.fact 73 (f := .free "tuple") rfl)
  z_list := He.free_ok X G (c.fact 74 (f := .free "list") rfl)
  z_isinstance := He.free_ok X G (c.fact 75 (f := .free "isinstance") rfl)
  z_len := He.free_ok X G (c.fact 76 (f := .free "len") rfl)
  z_all := He.free_ok X G (c.fact 77 (f := .free "all") rfl)
  z_zip := He.free_ok X G (c.fact 78 (f := .free "zip") rfl)
  z_enumerate := He.free_ok X G (c.fact 79 (f := .free "enumerate") rfl)
  z_sum := He.free_ok X G (c.fact 80 (f := .free "sum") rfl)
  z_range := He.free_ok X G (c.fact 81 (f := .free "range") rfl)
  z_max := He.free_ok X G (c.fact 82 (f := .free "max") rfl)
  z_sorted := He.free_ok X G (c.fact 83 (f := .free "sorted") rfl)
  z_repr := He.free_ok X G (c.fact 84 (f := .free "repr") rfl)
  c_MOST_SEATS := He.int_ok X G (c.fact 85 (f := .int "MOST_SEATS" 6) rfl)
  c_MOST_FARES := He.int_ok X G (c.fact 86 (f := .int "MOST_FARES" 4) rfl)
  c_MOST_FARE := He.int_ok X G (c.fact 87 (f := .int "MOST_FARE" 99) rfl)
  c_MOST_FEE := He.int_ok X G (c.fact 88 (f := .int "MOST_FEE" 99) rfl)
  c_MOST_WORDS := He.int_ok X G (c.fact 89 (f := .int "MOST_WORDS" 7) rfl)
  c_MOST_DEEP := He.int_ok X G (c.fact 90 (f := .int "MOST_DEEP" 3) rfl)
  c_APART := He.str_ok X G (c.fact 91 (f := .str "APART" "apart") rfl)
  c_NESTED := He.str_ok X G (c.fact 92 (f := .str "NESTED" "nested") rfl)
  c_KEPT := He.str_ok X G (c.fact 93 (f := .str "KEPT" "kept") rfl)
  c_ALL := He.str_ok X G (c.fact 94 (f := .str "ALL" "all") rfl)
  c_ANY := He.str_ok X G (c.fact 95 (f := .str "ANY" "any") rfl)
  c_OUST := He.str_ok X G (c.fact 96 (f := .str "OUST" "oust") rfl)
  c_RISING := He.str_ok X G (c.fact 97 (f := .str "RISING" "rising") rfl)
  c_MOST_GAME := He.int_ok X G (c.fact 98 (f := .int "MOST_GAME" 20000) rfl)
  c_REGRET := He.str_ok X G (c.fact 99 (f := .str "REGRET" "regret") rfl)
  c_SHARE := He.str_ok X G (c.fact 100 (f := .str "SHARE" "share") rfl)
  c_YES := He.str_ok X G (c.fact 101 (f := .str "YES" "yes") rfl)
  c_NO := He.str_ok X G (c.fact 102 (f := .str "NO" "no") rfl)
end
/-- all defs keep their promises, so the law does -/
theorem all_ok {P : Program} {w : World} {K : PySem.W.Frag} {mg : Str → Option Value} {h base : Heap} (X : K.In h) (G : h.Ns mainGlobals mg) (c : He.SaysD fa fn K) {Pl Pw : Addr} (TL : TabB base mg (He.codeOf K ("law", none)) Pl) (TW : TabB base mg (He.codeOf K ("worths_of", none)) Pw) :
    FnG P w K mg base 16 "law" 1 (SpLaw K Pl Pw) := by
  have M := md_of X G c
  have f__law_folded := ok_folded (P := P) (w := w) (base := base) M (fdef_of X G c 45 (x := "_law_folded") (st := s__law_folded) rfl rfl)
  have f__law_begun := ok_begun (P := P) (w := w) (base := base) M (fdef_of X G c 47 (x := "_law_begun") (st := s__law_begun) rfl rfl) f__law_folded
  have f__law_mixed := ok_mixed (P := P) (w := w) (base := base) M (fdef_of X G c 44 (x := "_law_mixed") (st := s__law_mixed) rfl rfl)
  have f__law_draw := ok_draw (P := P) (w := w) (base := base) M (fdef_of X G c 46 (x := "_law_draw") (st := s__law_draw) rfl rfl) f__law_mixed
  have f__law_yard := ok_yard (P := P) (w := w) (base := base) M (fdef_of X G c 50 (x := "_law_yard") (st := s__law_yard) rfl rfl) f__law_draw
  have f__law_of := ok_of (P := P) (w := w) (base := base) M (fdef_of X G c 49 (x := "_law_of") (st := s__law_of) rfl rfl) f__law_draw
  have f__law_limits_of := ok_limits_of (P := P) (w := w) (base := base) M (fdef_of X G c 63 (x := "_law_limits_of") (st := s__law_limits_of) rfl rfl)
  have f__law_is_worse := ok_lis_worse (P := P) (w := w) (base := base) M (fdef_of X G c 59 (x := "_law_is_worse") (st := s__law_is_worse) rfl rfl)
  have f__law_top := ok_ltop (P := P) (w := w) (base := base) M (fdef_of X G c 60 (x := "_law_top") (st := s__law_top) rfl rfl) f__law_is_worse
  have f__law_sum := ok_lsum (P := P) (w := w) (base := base) M (fdef_of X G c 54 (x := "_law_sum") (st := s__law_sum) rfl rfl)
  have f__law_lowest := ok_lowest (P := P) (w := w) (base := base) M (fdef_of X G c 55 (x := "_law_lowest") (st := s__law_lowest) rfl rfl)
  have f__law_worth_if := ok_lworth_if (P := P) (w := w) (base := base) M (fdef_of X G c 58 (x := "_law_worth_if") (st := s__law_worth_if) rfl rfl) f__law_sum f__law_lowest
  have f__law_may := ok_may (P := P) (w := w) (base := base) M (fdef_of X G c 57 (x := "_law_may") (st := s__law_may) rfl rfl)
  have f__law_lets := ok_lets (P := P) (w := w) (base := base) M (fdef_of X G c 51 (x := "_law_lets") (st := s__law_lets) rfl rfl)
  have f__law_step := ok_step (P := P) (w := w) (base := base) M (fdef_of X G c 52 (x := "_law_step") (st := s__law_step) rfl rfl) f__law_lets
  have f__law_dearest := ok_dearest (P := P) (w := w) (base := base) M (fdef_of X G c 53 (x := "_law_dearest") (st := s__law_dearest) rfl rfl)
  have f__law_seen_more := ok_seen_more (P := P) (w := w) (base := base) M (fdef_of X G c 56 (x := "_law_seen_more") (st := s__law_seen_more) rfl rfl) f__law_dearest
  have f__law_all_worst := ok_all_worst (P := P) (w := w) (base := base) M (fdef_of X G c 64 (x := "_law_all_worst") (st := s__law_all_worst) rfl rfl) f__law_top f__law_worth_if f__law_may f__law_step f__law_seen_more
  have f_is_whole := ok_is_whole (P := P) (w := w) (base := base) M (fdef_of X G c 0 (x := "is_whole") (st := s_is_whole) rfl rfl)
  have f_need_hall := ok_need_hall (P := P) (w := w) (base := base) M (fdef_of X G c 1 (x := "need_hall") (st := s_need_hall) rfl rfl) f_is_whole
  have f_need_what := ok_need_what (P := P) (w := w) (base := base) M (fdef_of X G c 15 (x := "need_what") (st := s_need_what) rfl rfl)
  have f_are_limits := ok_are_limits (P := P) (w := w) (base := base) M (fdef_of X G c 2 (x := "are_limits") (st := s_are_limits) rfl rfl) f_is_whole
  have f_is_plain := ok_is_plain (P := P) (w := w) (base := base) M (fdef_of X G c 3 (x := "is_plain") (st := s_is_plain) rfl rfl) f_are_limits
  have f_is_word := ok_is_word (P := P) (w := w) (base := base) M (fdef_of X G c 4 (x := "is_word") (st := s_is_word) rfl rfl) f_is_plain
  have f_parts_of := ok_parts_of (P := P) (w := w) (base := base) M (fdef_of X G c 5 (x := "parts_of") (st := s_parts_of) rfl rfl)
  have f_need_rule := ok_need_rule (P := P) (w := w) (base := base) M (fdef_of X G c 6 (x := "need_rule") (st := s_need_rule) rfl rfl) f_need_hall f_is_word f_parts_of
  have f_need_limits := ok_need_limits (P := P) (w := w) (base := base) M (fdef_of X G c 37 (x := "need_limits") (st := s_need_limits) rfl rfl) f_need_hall f_need_what f_need_rule
  have f_plain := ok_plain (P := P) (w := w) (base := base) M (fdef_of X G c 29 (x := "plain") (st := s_plain) rfl rfl)
  have f_parts_sold := ok_parts_sold (P := P) (w := w) (base := base) M (fdef_of X G c 34 (x := "parts_sold") (st := s_parts_sold) rfl rfl)
  have f_common := ok_common (P := P) (w := w) (base := base) M (fdef_of X G c 13 (x := "common") (st := s_common) rfl rfl)
  have f_fraction := ok_fraction (P := P) (w := w) (base := base) M (fdef_of X G c 14 (x := "fraction") (st := s_fraction) rfl rfl) f_common
  have f_worth_to := ok_worth_to (P := P) (w := w) (base := base) M (fdef_of X G c 35 (x := "worth_to") (st := s_worth_to) rfl rfl) f_parts_sold f_fraction
  have f_is_worse := ok_is_worse (P := P) (w := w) (base := base) M (fdef_of X G c 22 (x := "is_worse") (st := s_is_worse) rfl rfl)
  have f_worse := ok_worse (P := P) (w := w) (base := base) M (fdef_of X G c 23 (x := "worse") (st := s_worse) rfl rfl) f_is_worse
  have f_worst_limits := ok_worst_limits (P := P) (w := w) (base := base) M (fdef_of X G c 36 (x := "worst_limits") (st := s_worst_limits) rfl rfl) f_worth_to f_worse
  have f_worst_nested := ok_worst_nested (P := P) (w := w) (base := base) M (fdef_of X G c 38 (x := "worst_nested") (st := s_worst_nested) rfl rfl) f_need_limits f_plain f_worst_limits
  have f__law_plain := ok_lplain (P := P) (w := w) (base := base) M (fdef_of X G c 61 (x := "_law_plain") (st := s__law_plain) rfl rfl)
  have f__law_up_to := ok_up_to (P := P) (w := w) (base := base) M (fdef_of X G c 65 (x := "_law_up_to") (st := s__law_up_to) rfl rfl) f__law_lowest
  have f__law_worst := ok_lworst (P := P) (w := w) (base := base) M (fdef_of X G c 66 (x := "_law_worst") (st := s__law_worst) rfl rfl) f__law_up_to f__law_top
  have f__law_like := ok_like (P := P) (w := w) (base := base) M (fdef_of X G c 48 (x := "_law_like") (st := s__law_like) rfl rfl)
  have f_better := ok_better (P := P) (w := w) (base := base) M (fdef_of X G c 24 (x := "better") (st := s_better) rfl rfl) f_is_worse
  have f_all_limits := ok_all_limits (P := P) (w := w) (base := base) M (fdef_of X G c 33 (x := "all_limits") (st := s_all_limits) rfl rfl)
  have f_best_worth := ok_best_worth (P := P) (w := w) (base := base) M (fdef_of X G c 39 (x := "best_worth") (st := s_best_worth) rfl rfl) f_worst_limits f_better f_all_limits
  have f_best_nested := ok_best_nested (P := P) (w := w) (base := base) M (fdef_of X G c 40 (x := "best_nested") (st := s_best_nested) rfl rfl) f_need_hall f_need_what f_best_worth f_all_limits f_worst_limits
  have f_nested_worth := ok_nested_worth (P := P) (w := w) (base := base) M (fdef_of X G c 41 (x := "nested_worth") (st := s_nested_worth) rfl rfl) f_need_hall f_need_what f_best_worth f_plain
  have f__law_best_right := ok_best_right (P := P) (w := w) (base := base) M (fdef_of X G c 67 (x := "_law_best_right") (st := s__law_best_right) rfl rfl) f__law_limits_of f__law_worst f__law_top f__law_like f_best_nested f_nested_worth f__law_plain
  have f_worst_fares := ok_worst_fares (P := P) (w := w) (base := base) M (fdef_of X G c 42 (x := "worst_fares") (st := s_worst_fares) rfl rfl) f_need_limits f_worst_limits f_worth_to
  have f_better_nested := ok_better_nested (P := P) (w := w) (base := base) M (fdef_of X G c 43 (x := "better_nested") (st := s_better_nested) rfl rfl) f_need_limits f_worst_limits f_all_limits f_is_worse
  have f__law_one_right := ok_one_right (P := P) (w := w) (base := base) M (fdef_of X G c 68 (x := "_law_one_right") (st := s__law_one_right) rfl rfl) f__law_worst f__law_limits_of f__law_is_worse f__law_plain f__law_up_to f_worst_nested f_worst_fares f_better_nested f__law_like
  have f_need_kind := ok_need_kind (P := P) (w := w) (base := base) M (fdef_of X G c 7 (x := "need_kind") (st := s_need_kind) rfl rfl)
  have f_need_game := ok_need_game (P := P) (w := w) (base := base) M (fdef_of X G c 16 (x := "need_game") (st := s_need_game) rfl rfl) f_need_hall f_need_kind f_need_what
  have f_none_of := ok_none_of (P := P) (w := w) (base := base) M (fdef_of X G c 8 (x := "none_of") (st := s_none_of) rfl rfl)
  have f_first_game := ok_first_game (P := P) (w := w) (base := base) M (fdef_of X G c 17 (x := "first_game") (st := s_first_game) rfl rfl) f_none_of
  have f_fares_in := ok_fares_in (P := P) (w := w) (base := base) M (fdef_of X G c 18 (x := "fares_in") (st := s_fares_in) rfl rfl)
  have f_with_more := ok_with_more (P := P) (w := w) (base := base) M (fdef_of X G c 9 (x := "with_more") (st := s_with_more) rfl rfl)
  have f_cheapest_sold := ok_cheapest_sold (P := P) (w := w) (base := base) M (fdef_of X G c 10 (x := "cheapest_sold") (st := s_cheapest_sold) rfl rfl)
  have f_seen_with := ok_seen_with (P := P) (w := w) (base := base) M (fdef_of X G c 11 (x := "seen_with") (st := s_seen_with) rfl rfl) f_with_more f_cheapest_sold
  have f_behind_no := ok_behind_no (P := P) (w := w) (base := base) M (fdef_of X G c 19 (x := "behind_no") (st := s_behind_no) rfl rfl) f_seen_with
  have f_behind_all := ok_behind_all (P := P) (w := w) (base := base) M (fdef_of X G c 20 (x := "behind_all") (st := s_behind_all) rfl rfl) f_behind_no f_with_more
  have f_turns_of := ok_turns_of (P := P) (w := w) (base := base) M (fdef_of X G c 26 (x := "turns_of") (st := s_turns_of) rfl rfl) f_fares_in f_behind_all
  have f_game_net := ok_game_net (P := P) (w := w) (base := base) M (fdef_of X G c 27 (x := "game_net") (st := s_game_net) rfl rfl) f_turns_of f_fares_in f_behind_all
  have f_worth_of := ok_worth_of (P := P) (w := w) (base := base) M (fdef_of X G c 12 (x := "worth_of") (st := s_worth_of) rfl rfl)
  have f_rank_of := ok_rank_of (P := P) (w := w) (base := base) M (fdef_of X G c 25 (x := "rank_of") (st := s_rank_of) rfl rfl) f_worth_of
  have f_worth_if := ok_worth_if (P := P) (w := w) (base := base) M (fdef_of X G c 21 (x := "worth_if") (st := s_worth_if) rfl rfl) f_worth_of f_fraction
  have f_worths_of := ok_worths_of (P := P) (w := w) (base := base) M TW (fdefC_of X G c 28 (x := "worths_of") (st := s_worths_of) rfl rfl) f_rank_of f_better f_worse f_worth_if
  have f_kept_worth := ok_kept_worth (P := P) (w := w) (base := base) M (fdef_of X G c 30 (x := "kept_worth") (st := s_kept_worth) rfl rfl) f_first_game f_game_net f_worths_of
  have f_least_regret := ok_least_regret (P := P) (w := w) (base := base) M (fdef_of X G c 31 (x := "least_regret") (st := s_least_regret) rfl rfl) f_need_game f_kept_worth
  have f_greatest_share := ok_greatest_share (P := P) (w := w) (base := base) M (fdef_of X G c 32 (x := "greatest_share") (st := s_greatest_share) rfl rfl) f_need_game f_kept_worth
  have f__law_told := ok_told (P := P) (w := w) (base := base) M (fdef_of X G c 62 (x := "_law_told") (st := s__law_told) rfl rfl)
  exact ok_law M TL (fdefC_of X G c 69 (x := "law") (st := s_law) rfl rfl) f__law_begun f__law_yard f__law_of f__law_limits_of f__law_all_worst f_worst_nested f__law_plain f__law_best_right f__law_one_right f_least_regret f_greatest_share f_nested_worth f__law_is_worse f__law_told f_best_nested f_worst_fares f_better_nested f__law_like
end Bl

set_option Elab.async false
set_option linter.all false
set_option autoImplicit false
set_option maxRecDepth 100000
set_option maxHeartbeats 400000
namespace Bl
open PySem PySem.Spec PyProof.Rows L2 LamX StX
/-- the law's call, where the head's facts are told -/
theorem law_end {P : Program} {w : World} {K : PySem.W.Frag} {mg mb : Str → Option Value} {a f : Addr} {vs : List Value} {ns : List Int} {s : Shared} (X : K.In s.heap) (c : He.SaysX fa fn [] tf ex1 w s.heap K) (glo : s.heap.Ns mainGlobals mg) (blt : s.heap.Ns builtinsNs mb) (bbt : ∀ x : Str, x ≠ "__name__" → mb x = bootBuiltins x)
    (lim : s.heap.NoLimit) (gen : s.gens = #[]) (bmo : ∃ (bm : Addr) (ob : Obj), mg "__builtins__" = some (.ref bm) ∧ bm ≠ builtinsNs ∧ s.heap.get? bm = some ob ∧ ob.cls = .type "module" ∧ ob.dict = some builtinsNs ∧ ob.data = .plain)
    (hm : mg "law" = some (.ref f)) (ha : s.heap.get? a = some (lisO vs)) (hi : IntsAre vs ns) (hl : ns.length ≤ 63) :
    codeAny (model P w) callerA (.call (.ref f) ⟨[.ref a], []⟩) (fun r s' => r = .ok (.ret (.bool true)) ∧ OldK s.heap s'.heap ∧ s'.os = s.os ∧ AllBare s'.gens) s := by
  have B : Beg K mg mb (tf.map (He.cT K)) a vs ns s := by
    refine ⟨X, glo, blt, bbt, lim, gen, fun p hp => ?_, fun p hp => ?_, fun p hp => ?_, bmo, ha, hi, sl_le (by omega)⟩
    · obtain ⟨q, hq, rfl⟩ := List.mem_map.mp hp
      exact c.empty q hq
    · obtain ⟨q, hq, rfl⟩ := List.mem_map.mp hp
      exact c.out q hq
    · obtain ⟨q, hq, rfl⟩ := List.mem_map.mp hp
      exact PySem.W.codeHd_of_K X (c.hd q hq)
  have m1 : He.cT K ("law", none) ∈ tf.map (He.cT K) := List.mem_map.mpr ⟨_, List.mem_cons_self, rfl⟩
  have m2 : He.cT K ("worths_of", none) ∈ tf.map (He.cT K) := List.mem_map.mpr ⟨_, List.mem_cons_of_mem _ List.mem_cons_self, rfl⟩
  have ne : (He.cT K ("law", none)).2 ≠ (He.cT K ("worths_of", none)).2 := fun e => by
    have z : (!decide ((He.cT K ("law", none)).2 = (He.cT K ("worths_of", none)).2)) = true := c.more
    rw [decide_eq_true e] at z
    cases z
  exact law_go B (k := 16) ⟨rfl, by decide, by decide⟩ hm (fun base kb gb tb => all_ok (h := base) kb gb c.t.d (tb _ m1) (tb _ m2)) fun H hH hS => ⟨a, ns, rfl, hS, hl, .nil (hH _ m1), .nil (hH _ m2), ne, fun _ => rfl⟩
end Bl

set_option maxHeartbeats 0
set_option maxRecDepth 100000
open PySem PySem.W PySem.Calls PyProof.Rows
theorem PySem.Challenge.cw_booklimits_k46_whole_nested_limits_holds : PySem.Challenge.rw_booklimits_k46_whole_nested_limits.Holds := by
  w_on; o_law
  refine HandSHeadRun.head_any (r := Bl.R) (q := view Bl.R.prog [102]) (H := Bl.hk) (ob := Bl.ob) (M := 5000) (loose := Bl.loose) (d := HandSHeadRun.topDef Bl.R.prog 102) (kwd := []) Bl.ob_eq
    (by kernel_rfl) (fun s => by kernel_rfl) Bl.run (by kernel_rfl) (by kernel_rfl) (by kernel_rfl) (by rfl) (by first | assumption | decide +kernel) (by decide +kernel) ⟨rfl, rfl, rfl, rfl, rfl, by decide +kernel⟩ ?hw ?hc
  case hw => w_witness2
  case hc =>
    refine Att.attach_callB (l := PySem.Challenge.rw_booklimits_k46_whole_nested_limits) (n := 63) rfl (by kernel_rfl) fun w s₀ s₁ mg mb f o pm cd doc a vs ns G Y ho hd hcd hmg hobj hints hlen hbits hg => ?_
    obtain ⟨K, KX, c⟩ := Y
    have hm : mg ("law" : PySem.Str) = some (.ref f) := by
      have e : (HandSHeadRun.topDef Bl.R.prog 102).name = ("law" : PySem.Str) := by kernel_rfl
      rw [← e]
      exact hmg
    exact Bl.law_end KX c G.T.g G.T.b G.T.builtins G.T.nolimit hg G.T.bmain hm hobj hints hlen
