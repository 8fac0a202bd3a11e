import PyProof.Rows.All
import Wide.All
import OpenK.AllK
import Wide.FinOn
import KE.KStateDown
import Lean
import HandS.Base
import HandS.Call
import HandS.Ends
import HandS.More
import HandS.Words
import HandS.WordsExc
import HandS.Defaults
import HandS.Head0
import HandS.Head1
import HandS.Head2
import HandS.HeadEnd
import HandS.HeadHook1
import HandS.HeadHook2
import PySem.Challenge.RW_lastpasted_k77_whole_one_photo_of_all_bi
import HandS.ForMost
import HandS.Codes
import HandS.Evl
import HandS.DictComp
import HandS.Zip
import HandS.IsInst
import HandS.Deep
import HandS.TupAny
import HandS.Star
import HandS.Conv
import HandS.Flow
import HandS.Style
import HandS.TupSets
import KE.SortData
import PyProof.MinMaxWalk
import KE.DataMinMax
import KE.KDictSum
import KE.GoesMore
set_option Elab.async false
set_option linter.all false
set_option maxRecDepth 100000
set_option maxHeartbeats 0
namespace K77
open PySem PySem.Spec PyProof.Rows L2
/-! ### the text: the defs by their places in the top -/
def top (i : Nat) : Stmt := PySem.Challenge.pw_lastpasted_k77_whole_one_photo_of_all_bi.main.body.getD i (.Pass ⟨0, 0, 0, 0⟩)
abbrev FnP (K : PySem.W.Frag) (x : Str) (st : Stmt) (dfl : List V) (f : Addr) (fd : FuncData) : Prop := FunD K x x (defArgs st) (defBody st) (defScope st) dfl [] f fd
abbrev s_tupled : Stmt := top 7
abbrev s_set_of : Stmt := top 8
abbrev s_names : Stmt := top 10
abbrev s_check_names : Stmt := top 11
abbrev s_over : Stmt := top 12
abbrev s_cut_points : Stmt := top 13
abbrev s_pieces : Stmt := top 14
abbrev s_clash : Stmt := top 16
abbrev s_clashes : Stmt := top 17
abbrev s_hold_together : Stmt := top 18
abbrev s_told_below : Stmt := top 19
abbrev s_sure_layers : Stmt := top 20
abbrev s_order_for : Stmt := top 21
abbrev s_is_order : Stmt := top 22
abbrev s_top_in : Stmt := top 23
abbrev s_is_order_for : Stmt := top 24
abbrev s_surely_below : Stmt := top 25
abbrev s_seen_there : Stmt := top 26
abbrev s_sure_cells : Stmt := top 27
abbrev s_check_photo : Stmt := top 32
abbrev s_with_telling : Stmt := top 33
abbrev s_with_fact : Stmt := top 34
abbrev s_forced : Stmt := top 36
abbrev s_settled : Stmt := top 37
abbrev s_belows : Stmt := top 38
abbrev s_pasting_order : Stmt := top 39
abbrev s_ring_in : Stmt := top 40
abbrev s_a_clash : Stmt := top 41
abbrev s_can_fit : Stmt := top 42
abbrev s_check_fit : Stmt := top 43
abbrev s_latest_history : Stmt := top 44
abbrev s_check_asked : Stmt := top 45
abbrev s_check_case : Stmt := top 47
abbrev s_surely_before : Stmt := top 48
abbrev s_answers : Stmt := top 49
abbrev s_law_box : Stmt := top 51
abbrev s_law_take : Stmt := top 52
abbrev s_law_cells : Stmt := top 53
abbrev s_law_of : Stmt := top 54
abbrev s_law_pick : Stmt := top 55
abbrev s_law_plank : Stmt := top 56
abbrev s_law_over : Stmt := top 57
abbrev s_law_names : Stmt := top 58
abbrev s_law_last : Stmt := top 59
abbrev s_law_sees : Stmt := top 60
abbrev s_law_parts : Stmt := top 61
abbrev s_law_three : Stmt := top 62
abbrev s_law_case : Stmt := top 63
abbrev s_law_sees_right : Stmt := top 64
abbrev s_law_by_hand_right : Stmt := top 65
abbrev s_law_case_right : Stmt := top 66
abbrev s_law_right : Stmt := top 67
abbrev s_law : Stmt := top 68
def d_tupled : He.DefD := ⟨("tupled", none), "tupled", "tupled", defArgs s_tupled, defBody s_tupled, defScope s_tupled, [], []⟩
def d_set_of : He.DefD := ⟨("set_of", none), "set_of", "set_of", defArgs s_set_of, defBody s_set_of, defScope s_set_of, [], []⟩
def d_names : He.DefD := ⟨("names", none), "names", "names", defArgs s_names, defBody s_names, defScope s_names, [], []⟩
def d_check_names : He.DefD := ⟨("check_names", none), "check_names", "check_names", defArgs s_check_names, defBody s_check_names, defScope s_check_names, [], []⟩
def d_over : He.DefD := ⟨("over", none), "over", "over", defArgs s_over, defBody s_over, defScope s_over, [], []⟩
def d_cut_points : He.DefD := ⟨("cut_points", none), "cut_points", "cut_points", defArgs s_cut_points, defBody s_cut_points, defScope s_cut_points, [], []⟩
def d_pieces : He.DefD := ⟨("pieces", none), "pieces", "pieces", defArgs s_pieces, defBody s_pieces, defScope s_pieces, [], []⟩
def d_clash : He.DefD := ⟨("clash", none), "clash", "clash", defArgs s_clash, defBody s_clash, defScope s_clash, [], []⟩
def d_clashes : He.DefD := ⟨("clashes", none), "clashes", "clashes", defArgs s_clashes, defBody s_clashes, defScope s_clashes, [], []⟩
def d_hold_together : He.DefD := ⟨("hold_together", none), "hold_together", "hold_together", defArgs s_hold_together, defBody s_hold_together, defScope s_hold_together, [], []⟩
def d_told_below : He.DefD := ⟨("told_below", none), "told_below", "told_below", defArgs s_told_below, defBody s_told_below, defScope s_told_below, [], []⟩
def d_sure_layers : He.DefD := ⟨("sure_layers", none), "sure_layers", "sure_layers", defArgs s_sure_layers, defBody s_sure_layers, defScope s_sure_layers, [], []⟩
def d_order_for : He.DefD := ⟨("order_for", none), "order_for", "order_for", defArgs s_order_for, defBody s_order_for, defScope s_order_for, [], []⟩
def d_is_order : He.DefD := ⟨("is_order", none), "is_order", "is_order", defArgs s_is_order, defBody s_is_order, defScope s_is_order, [], []⟩
def d_top_in : He.DefD := ⟨("top_in", none), "top_in", "top_in", defArgs s_top_in, defBody s_top_in, defScope s_top_in, [], []⟩
def d_is_order_for : He.DefD := ⟨("is_order_for", none), "is_order_for", "is_order_for", defArgs s_is_order_for, defBody s_is_order_for, defScope s_is_order_for, [], []⟩
def d_surely_below : He.DefD := ⟨("surely_below", none), "surely_below", "surely_below", defArgs s_surely_below, defBody s_surely_below, defScope s_surely_below, [], []⟩
def d_seen_there : He.DefD := ⟨("seen_there", none), "seen_there", "seen_there", defArgs s_seen_there, defBody s_seen_there, defScope s_seen_there, [], []⟩
def d_sure_cells : He.DefD := ⟨("sure_cells", none), "sure_cells", "sure_cells", defArgs s_sure_cells, defBody s_sure_cells, defScope s_sure_cells, [], []⟩
def d_check_photo : He.DefD := ⟨("check_photo", none), "check_photo", "check_photo", defArgs s_check_photo, defBody s_check_photo, defScope s_check_photo, [], []⟩
def d_with_telling : He.DefD := ⟨("with_telling", none), "with_telling", "with_telling", defArgs s_with_telling, defBody s_with_telling, defScope s_with_telling, [], []⟩
def d_with_fact : He.DefD := ⟨("with_fact", none), "with_fact", "with_fact", defArgs s_with_fact, defBody s_with_fact, defScope s_with_fact, [], []⟩
def d_forced : He.DefD := ⟨("forced", none), "forced", "forced", defArgs s_forced, defBody s_forced, defScope s_forced, [], []⟩
def d_settled : He.DefD := ⟨("settled", none), "settled", "settled", defArgs s_settled, defBody s_settled, defScope s_settled, [], []⟩
def d_belows : He.DefD := ⟨("belows", none), "belows", "belows", defArgs s_belows, defBody s_belows, defScope s_belows, [], []⟩
def d_pasting_order : He.DefD := ⟨("pasting_order", none), "pasting_order", "pasting_order", defArgs s_pasting_order, defBody s_pasting_order, defScope s_pasting_order, [], []⟩
def d_ring_in : He.DefD := ⟨("ring_in", none), "ring_in", "ring_in", defArgs s_ring_in, defBody s_ring_in, defScope s_ring_in, [], []⟩
def d_a_clash : He.DefD := ⟨("a_clash", none), "a_clash", "a_clash", defArgs s_a_clash, defBody s_a_clash, defScope s_a_clash, [], []⟩
def d_can_fit : He.DefD := ⟨("can_fit", none), "can_fit", "can_fit", defArgs s_can_fit, defBody s_can_fit, defScope s_can_fit, [], []⟩
def d_check_fit : He.DefD := ⟨("check_fit", none), "check_fit", "check_fit", defArgs s_check_fit, defBody s_check_fit, defScope s_check_fit, [], []⟩
def d_latest_history : He.DefD := ⟨("latest_history", none), "latest_history", "latest_history", defArgs s_latest_history, defBody s_latest_history, defScope s_latest_history, [], []⟩
def d_check_asked : He.DefD := ⟨("check_asked", none), "check_asked", "check_asked", defArgs s_check_asked, defBody s_check_asked, defScope s_check_asked, [.non], []⟩
def d_check_case : He.DefD := ⟨("check_case", none), "check_case", "check_case", defArgs s_check_case, defBody s_check_case, defScope s_check_case, [.non], []⟩
def d_surely_before : He.DefD := ⟨("surely_before", none), "surely_before", "surely_before", defArgs s_surely_before, defBody s_surely_before, defScope s_surely_before, [], []⟩
def d_answers : He.DefD := ⟨("answers", none), "answers", "answers", defArgs s_answers, defBody s_answers, defScope s_answers, [], []⟩
def d_law_box : He.DefD := ⟨("_law_box", none), "_law_box", "_law_box", defArgs s_law_box, defBody s_law_box, defScope s_law_box, [], []⟩
def d_law_take : He.DefD := ⟨("_law_take", none), "_law_take", "_law_take", defArgs s_law_take, defBody s_law_take, defScope s_law_take, [], []⟩
def d_law_cells : He.DefD := ⟨("_law_cells", none), "_law_cells", "_law_cells", defArgs s_law_cells, defBody s_law_cells, defScope s_law_cells, [], []⟩
def d_law_of : He.DefD := ⟨("_law_of", none), "_law_of", "_law_of", defArgs s_law_of, defBody s_law_of, defScope s_law_of, [], []⟩
def d_law_pick : He.DefD := ⟨("_law_pick", none), "_law_pick", "_law_pick", defArgs s_law_pick, defBody s_law_pick, defScope s_law_pick, [], []⟩
def d_law_plank : He.DefD := ⟨("_law_plank", none), "_law_plank", "_law_plank", defArgs s_law_plank, defBody s_law_plank, defScope s_law_plank, [], []⟩
def d_law_over : He.DefD := ⟨("_law_over", none), "_law_over", "_law_over", defArgs s_law_over, defBody s_law_over, defScope s_law_over, [], []⟩
def d_law_names : He.DefD := ⟨("_law_names", none), "_law_names", "_law_names", defArgs s_law_names, defBody s_law_names, defScope s_law_names, [], []⟩
def d_law_last : He.DefD := ⟨("_law_last", none), "_law_last", "_law_last", defArgs s_law_last, defBody s_law_last, defScope s_law_last, [], []⟩
def d_law_sees : He.DefD := ⟨("_law_sees", none), "_law_sees", "_law_sees", defArgs s_law_sees, defBody s_law_sees, defScope s_law_sees, [], []⟩
def d_law_parts : He.DefD := ⟨("_law_parts", none), "_law_parts", "_law_parts", defArgs s_law_parts, defBody s_law_parts, defScope s_law_parts, [], []⟩
def d_law_three : He.DefD := ⟨("_law_three", none), "_law_three", "_law_three", defArgs s_law_three, defBody s_law_three, defScope s_law_three, [], []⟩
def d_law_case : He.DefD := ⟨("_law_case", none), "_law_case", "_law_case", defArgs s_law_case, defBody s_law_case, defScope s_law_case, [], []⟩
def d_law_sees_right : He.DefD := ⟨("_law_sees_right", none), "_law_sees_right", "_law_sees_right", defArgs s_law_sees_right, defBody s_law_sees_right, defScope s_law_sees_right, [], []⟩
def d_law_by_hand_right : He.DefD := ⟨("_law_by_hand_right", none), "_law_by_hand_right", "_law_by_hand_right", defArgs s_law_by_hand_right, defBody s_law_by_hand_right, defScope s_law_by_hand_right, [], []⟩
def d_law_case_right : He.DefD := ⟨("_law_case_right", none), "_law_case_right", "_law_case_right", defArgs s_law_case_right, defBody s_law_case_right, defScope s_law_case_right, [], []⟩
def d_law_right : He.DefD := ⟨("_law_right", none), "_law_right", "_law_right", defArgs s_law_right, defBody s_law_right, defScope s_law_right, [], []⟩
def d_law : He.DefD := ⟨("law", none), "law", "law", defArgs s_law, defBody s_law, defScope s_law, [], []⟩
def fn0 : List He.DefD := [d_tupled, d_set_of, d_names, d_check_names, d_over, d_cut_points, d_pieces, d_clash, d_clashes, d_hold_together, d_told_below, d_sure_layers, d_order_for, d_is_order, d_top_in, d_is_order_for, d_surely_below, d_seen_there, d_sure_cells, d_check_photo]
def fn1 : List He.DefD := [d_with_telling, d_with_fact, d_forced, d_settled, d_belows, d_pasting_order, d_ring_in, d_a_clash, d_can_fit, d_check_fit, d_latest_history, d_check_asked, d_check_case, d_surely_before, d_answers, d_law_box, d_law_take, d_law_cells, d_law_of, d_law_pick]
def fn2 : List He.DefD := [d_law_plank, d_law_over, d_law_names, d_law_last, d_law_sees, d_law_parts, d_law_three, d_law_case, d_law_sees_right, d_law_by_hand_right, d_law_case_right, d_law_right, d_law]
def fn : List He.DefD := fn0 ++ fn1 ++ fn2
def fa0 : List He.Fa := [.glo "tupled", .glo "set_of", .glo "names", .glo "check_names", .glo "over", .glo "cut_points", .glo "pieces", .glo "clash", .glo "clashes", .glo "hold_together", .glo "told_below", .glo "sure_layers", .glo "order_for", .glo "is_order", .glo "top_in", .glo "is_order_for", .glo "surely_below", .glo "seen_there", .glo "sure_cells", .glo "check_photo"]
def fa1 : List He.Fa := [.glo "with_telling", .glo "with_fact", .glo "forced", .glo "settled", .glo "belows", .glo "pasting_order", .glo "ring_in", .glo "a_clash", .glo "can_fit", .glo "check_fit", .glo "latest_history", .glo "check_asked", .glo "check_case", .glo "surely_before", .glo "answers", .glo "_law_box", .glo "_law_take", .glo "_law_cells", .glo "_law_of", .glo "_law_pick"]
def fa2 : List He.Fa := [.glo "_law_plank", .glo "_law_over", .glo "_law_names", .glo "_law_last", .glo "_law_sees", .glo "_law_parts", .glo "_law_three", .glo "_law_case", .glo "_law_sees_right", .glo "_law_by_hand_right", .glo "_law_case_right", .glo "_law_right", .glo "law", .free "isinstance", .free "list", .free "tuple", .free "sorted", .free "set", .free "zip", .free "len"]
def fa3 : List He.Fa := [.free "enumerate", .free "any", .free "all", .free "min", .free "range", .free "abs", .free "int", .free "str", .str "BARE" "-", .str "BEFORE" "before", .str "THERE" "there", .str "NOT" "not"]
def fa : List He.Fa := fa0 ++ fa1 ++ fa2 ++ fa3
def loose0 : List Str := ["NoName", "NoPhoto", "NoHistory", "NotOver", "BARE", "tupled", "set_of", "names", "check_names", "over", "cut_points", "pieces", "clash", "clashes", "hold_together", "told_below", "sure_layers", "order_for", "is_order", "top_in"]
def loose1 : List Str := ["is_order_for", "surely_below", "seen_there", "sure_cells", "BEFORE", "THERE", "NOT", "check_photo", "with_telling", "with_fact", "forced", "settled", "belows", "pasting_order", "ring_in", "a_clash", "can_fit", "check_fit", "latest_history", "check_asked"]
def loose2 : List Str := ["check_case", "surely_before", "answers", "_law_box", "_law_take", "_law_cells", "_law_of", "_law_pick", "_law_plank", "_law_over", "_law_names", "_law_last", "_law_sees", "_law_parts", "_law_three", "_law_case", "_law_sees_right", "_law_by_hand_right", "_law_case_right", "_law_right"]
def loose : List Str := loose0 ++ loose1 ++ loose2
abbrev R : PySem.W.OpenRow := PySem.W.OpenLaw.row PySem.Challenge.rw_lastpasted_k77_whole_one_photo_of_all_bi
abbrev hk : PySem.W.Hook := He.hookD 4 fa fn
def ob (s : PySem.W.SharedT) : He.AlD := He.obsDG 4 fa fn (HandSHeadRun.getT s)
theorem ob_eq (s : PySem.W.SharedT) : ob s = hk.obs s.abs := He.obsDG_eq (HandSHeadRun.getT_eq s)
theorem run (w : World) : HandSHeadRun.RunEq R (PySem.W.view R.prog [68]) hk ob 9000 loose w := by
  intro os
  kernel_rfl
end K77
set_option maxHeartbeats 1000000
/-! The reading layer: values that read as data (PyData of none, bools, ints, texts, tuples), and what expressions evaluate to. -/
namespace K77
open PySem PySem.Spec PyProof.Rows L2 Evl

/-! ### data -/
mutual
inductive Dt (K : PySem.W.Frag) (H : Hp) : V → PyData → Prop
  | non : Dt K H .non .none
  | bl (b : Bool) : Dt K H (.bl b) (.bool b)
  | int (i : Int) : Dt K H (.int i) (.int i)
  | str (x : Str) : Dt K H (.str x) (.str x)
  | tup {a : Addr} {xs : List V} {ds : List PyData} : SqT K H a xs → Dts K H xs ds → Dt K H (.ref a) (.tuple ds)
inductive Dts (K : PySem.W.Frag) (H : Hp) : List V → List PyData → Prop
  | nil : Dts K H [] []
  | cons {v : V} {vs : List V} {d : PyData} {ds : List PyData} : Dt K H v d → Dts K H vs ds → Dts K H (v :: vs) (d :: ds)
end
/-- tuples stay -/
def TLe (K : PySem.W.Frag) (H H' : Hp) : Prop := ∀ a xs, SqT K H a xs → SqT K H' a xs
section
variable {K : PySem.W.Frag} {H H' H2 : Hp} {v : V} {vs : List V} {d : PyData} {ds : List PyData}
theorem TLe.refl : TLe K H H := fun _ _ h => h
theorem TLe.trans (a : TLe K H H') (b : TLe K H' H2) : TLe K H H2 := fun x xs h => b x xs (a x xs h)
theorem TLe.ex (e : Ex H H') : TLe K H H' := fun _ _ h => ex_t e h
theorem TLe.put {a : Addr} {o o' : HO} (h : H a = some o) (n : ∀ xs, o ≠ .tup xs) (n2 : ∀ ob xs, o ≠ .frz ob (.tup xs)) : TLe K H (upd H a o') := fun b xs q => by
  rcases q with (q | ⟨ob, q⟩) | q
  · refine .inl (.inl ?_)
    rw [upd_ne fun z => by rw [z, h] at q; exact n xs (Option.some.inj q)]
    exact q
  · refine .inl (.inr ⟨ob, ?_⟩)
    rw [upd_ne fun z => by rw [z, h] at q; exact n2 ob xs (Option.some.inj q)]
    exact q
  · exact .inr q
theorem TLe.lst {a : Addr} {xs : List V} {o' : HO} (h : H a = some (.lst xs)) : TLe K H (upd H a o') := TLe.put h (fun _ z => by cases z) fun _ _ z => by cases z
theorem TLe.dk {a : Addr} {xs : List (Key × V)} {o' : HO} (h : H a = some (.dK xs)) : TLe K H (upd H a o') := TLe.put h (fun _ z => by cases z) fun _ _ z => by cases z
theorem TLe.dtt {a : Addr} {xs : List (List Key × V)} {o' : HO} (h : H a = some (.dT xs)) : TLe K H (upd H a o') := TLe.put h (fun _ z => by cases z) fun _ _ z => by cases z
mutual
theorem Dt.mono (e : TLe K H H') : ∀ {v : V} {d : PyData}, Dt K H v d → Dt K H' v d
  | _, _, .non => .non
  | _, _, .bl b => .bl b
  | _, _, .int i => .int i
  | _, _, .str x => .str x
  | _, _, .tup h r => .tup (e _ _ h) (Dts.mono e r)
theorem Dts.mono (e : TLe K H H') : ∀ {vs : List V} {ds : List PyData}, Dts K H vs ds → Dts K H' vs ds
  | _, _, .nil => .nil
  | _, _, .cons h r => .cons (Dt.mono e h) (Dts.mono e r)
end
theorem Dt.ex (e : Ex H H') (h : Dt K H v d) : Dt K H' v d := h.mono (TLe.ex e)
theorem Dts.ex (e : Ex H H') (h : Dts K H vs ds) : Dts K H' vs ds := h.mono (TLe.ex e)
theorem Dts.length : ∀ {vs : List V} {ds : List PyData}, Dts K H vs ds → vs.length = ds.length
  | _, _, .nil => rfl
  | _, _, .cons _ r => by rw [List.length_cons, List.length_cons, Dts.length r]
theorem Dts.get : ∀ {vs : List V} {ds : List PyData} {i : Nat} {v : V}, Dts K H vs ds → vs[i]? = some v → ∃ d, ds[i]? = some d ∧ Dt K H v d
  | _, _, _, _, .nil, e => by simp at e
  | _, _, 0, _, .cons h _, e => by simp at e; subst e; exact ⟨_, rfl, h⟩
  | _, _, i + 1, v, .cons _ r, e => by
    obtain ⟨d, h1, h2⟩ := Dts.get (i := i) (v := v) r (by simpa using e)
    exact ⟨d, by simpa using h1, h2⟩
theorem Dts.get' : ∀ {vs : List V} {ds : List PyData} {i : Nat} {d : PyData}, Dts K H vs ds → ds[i]? = some d → ∃ v, vs[i]? = some v ∧ Dt K H v d
  | _, _, _, _, .nil, e => by simp at e
  | _, _, 0, _, .cons h _, e => by simp at e; subst e; exact ⟨_, rfl, h⟩
  | _, _, i + 1, d, .cons _ r, e => by
    obtain ⟨v, h1, h2⟩ := Dts.get' (i := i) (d := d) r (by simpa using e)
    exact ⟨v, by simpa using h1, h2⟩
theorem Dts.append : ∀ {vs ws : List V} {ds es : List PyData}, Dts K H vs ds → Dts K H ws es → Dts K H (vs ++ ws) (ds ++ es)
  | _, _, _, _, .nil, s => s
  | _, _, _, _, .cons h r, s => .cons h (Dts.append r s)
theorem Dts.take : ∀ {vs : List V} {ds : List PyData} (n : Nat), Dts K H vs ds → Dts K H (vs.take n) (ds.take n)
  | _, _, 0, _ => .nil
  | _, _, _ + 1, .nil => .nil
  | _, _, n + 1, .cons r t => .cons r (Dts.take n t)
theorem Dts.drop : ∀ {vs : List V} {ds : List PyData} (n : Nat), Dts K H vs ds → Dts K H (vs.drop n) (ds.drop n)
  | _, _, 0, r => r
  | _, _, _ + 1, .nil => .nil
  | _, _, n + 1, .cons _ t => Dts.drop n t
theorem Dts.strs : ∀ {vs : List V} {xs : List Str}, Dts K H vs (xs.map PyData.str) → vs = xs.map V.str
  | _, [], .nil => rfl
  | _, x :: xs, .cons h r => by
    cases h
    rw [Dts.strs r] <;> rfl
theorem Dts.ints : ∀ {vs : List V} {xs : List Int}, Dts K H vs (xs.map PyData.int) → vs = xs.map V.int
  | _, [], .nil => rfl
  | _, x :: xs, .cons h r => by
    cases h
    rw [Dts.ints r] <;> rfl
theorem Dts.bools : ∀ {vs : List V} {xs : List Bool}, Dts K H vs (xs.map PyData.bool) → vs = xs.map V.bl
  | _, [], .nil => rfl
  | _, x :: xs, .cons h r => by
    cases h
    rw [Dts.bools r] <;> rfl
theorem dts_strs : ∀ xs : List Str, Dts K H (xs.map V.str) (xs.map PyData.str)
  | [] => .nil
  | x :: xs => .cons (.str x) (dts_strs xs)
theorem dts_ints : ∀ xs : List Int, Dts K H (xs.map V.int) (xs.map PyData.int)
  | [] => .nil
  | x :: xs => .cons (.int x) (dts_ints xs)
theorem Dt.tupE {a : Addr} (h : Dt K H (.ref a) (.tuple ds)) : ∃ xs, SqT K H a xs ∧ Dts K H xs ds := by
  cases h with
  | tup h r => exact ⟨_, h, r⟩
theorem Dt.tupV (h : Dt K H v (.tuple ds)) : ∃ a xs, v = .ref a ∧ SqT K H a xs ∧ Dts K H xs ds := by
  cases h with
  | tup h r => exact ⟨_, _, rfl, h, r⟩
theorem Dt.intV {i : Int} (h : Dt K H v (.int i)) : v = .int i := by cases h; rfl
theorem Dt.strV {x : Str} (h : Dt K H v (.str x)) : v = .str x := by cases h; rfl
theorem Dt.boolV {x : Bool} (h : Dt K H v (.bool x)) : v = .bl x := by cases h; rfl
theorem Dt.nonV (h : Dt K H v .none) : v = .non := by cases h; rfl
mutual
theorem Dt.dp : ∀ {v : V} {d : PyData}, Dt K H v d → Dp K H v d
  | _, _, .non => .non
  | _, _, .bl b => .bl b
  | _, _, .int i => .int i
  | _, _, .str x => .str x
  | _, _, .tup h r => .tup h (Dts.dp r)
theorem Dts.dp : ∀ {vs : List V} {ds : List PyData}, Dts K H vs ds → DpAll K H vs ds
  | _, _, .nil => .nil
  | _, _, .cons h r => .cons (Dt.dp h) (Dts.dp r)
end
end

/-! ### what expressions evaluate to -/
/-- to a value that reads as d -/
def ED (K : PySem.W.Frag) (te : TE) (σ : L2.St) (H : Hp) (d : PyData) : Prop := ∀ H1, Ex H H1 → ∀ Q : VK, (∀ v H2, Ex H1 H2 → Dt K H2 v d → Q v H2) → te σ H1 Q
/-- to a new list of values that read as ds -/
def EL (K : PySem.W.Frag) (te : TE) (σ : L2.St) (H : Hp) (ds : List PyData) : Prop := ∀ H1, Ex H H1 → ∀ Q : VK, (∀ p xs H2, H1 p = none → Ex H1 H2 → H2 p = some (.lst xs) → Dts K H2 xs ds → Q (.ref p) H2) → te σ H1 Q
/-- to a list, new or old -/
def ES (K : PySem.W.Frag) (te : TE) (σ : L2.St) (H : Hp) (ds : List PyData) : Prop := ∀ H1, Ex H H1 → ∀ Q : VK, (∀ p xs H2, Ex H1 H2 → SqL K H2 p xs → Dts K H2 xs ds → Q (.ref p) H2) → te σ H1 Q
/-- arguments -/
def EA (K : PySem.W.Frag) (ta : TA) (σ : L2.St) (H : Hp) (ds : List PyData) : Prop := ∀ H1, Ex H H1 → ∀ Q : List V → Hp → Prop, (∀ vs H2, Ex H1 H2 → Dts K H2 vs ds → Q vs H2) → ta σ H1 Q
section
variable {K : PySem.W.Frag} {σ : L2.St} {H H' : Hp} {ta tb te tx : TE} {t u : TT} {v : V} {d e : PyData} {ds es : List PyData} {r : R2}
theorem ED.mono (x : Ex H H') (h : ED K te σ H d) : ED K te σ H' d := fun H1 a Q q => h H1 (x.trans a) Q q
theorem EL.mono (x : Ex H H') (h : EL K te σ H ds) : EL K te σ H' ds := fun H1 a Q q => h H1 (x.trans a) Q q
theorem EA.mono {ta : TA} (x : Ex H H') (h : EA K ta σ H ds) : EA K ta σ H' ds := fun H1 a Q q => h H1 (x.trans a) Q q
theorem EL.toS (h : EL K te σ H ds) : ES K te σ H ds := fun H1 a Q q => h H1 a Q fun p xs H2 _ e hp hd => q p xs H2 e (sq_of hp) hd
theorem es_old {a : Addr} {xs : List V} (h : Ev te σ H (.ref a)) (hx : SqL K H a xs) (hd : Dts K H xs ds) : ES K te σ H ds := fun H1 x Q q => h H1 x _ fun H2 e2 => q a xs H2 e2 (ex_l (x.trans e2) hx) (hd.ex (x.trans e2))
theorem g_var {i : Nat} (h : σ[i]? = some (some v)) (hd : Dt K H v d) : ED K (tVar i) σ H d := fun H1 e _ q => ⟨v, h, q v H1 (Ex.refl H1) (hd.ex e)⟩
theorem g_ev (h : Ev te σ H v) (hd : Dt K H v d) : ED K te σ H d := fun H1 e _ q => h H1 e _ fun H2 e2 => q v H2 e2 (hd.ex (e.trans e2))
theorem g_int {i : Int} : ED K (tC (.int i)) σ H (.int i) := fun H1 _ _ q => q _ H1 (Ex.refl H1) (.int i)
theorem g_str {x : Str} : ED K (tC (.str x)) σ H (.str x) := fun H1 _ _ q => q _ H1 (Ex.refl H1) (.str x)
theorem g_bl {b : Bool} : ED K (tC (.bl b)) σ H (.bool b) := fun H1 _ _ q => q _ H1 (Ex.refl H1) (.bl b)
theorem g_non : ED K (tC .non) σ H .none := fun H1 _ _ q => q _ H1 (Ex.refl H1) .non
/-- ints, texts, bools are values -/
theorem ED.int {i : Int} (h : ED K te σ H (.int i)) : Ev te σ H (.int i) := fun H1 e _ q => h H1 e _ fun v H2 e2 hd => by rw [hd.intV]; exact q H2 e2
theorem ED.str {x : Str} (h : ED K te σ H (.str x)) : Ev te σ H (.str x) := fun H1 e _ q => h H1 e _ fun v H2 e2 hd => by rw [hd.strV]; exact q H2 e2
theorem ED.bool {x : Bool} (h : ED K te σ H (.bool x)) : Ev te σ H (.bl x) := fun H1 e _ q => h H1 e _ fun v H2 e2 hd => by rw [hd.boolV]; exact q H2 e2
theorem g_ofInt {i : Int} (h : Ev te σ H (.int i)) : ED K te σ H (.int i) := g_ev h (.int i)
theorem g_ofStr {i : Str} (h : Ev te σ H (.str i)) : ED K te σ H (.str i) := g_ev h (.str i)
theorem g_ofBool {i : Bool} (h : Ev te σ H (.bl i)) : ED K te σ H (.bool i) := g_ev h (.bl i)
theorem g_test {b : Bool} (h : ED K te σ H (.bool b)) : EvT (tTest te) σ H b := et_test h.bool
theorem g_testB {b : Bool} (h : ED K te σ H (.bool b)) : EvT (tB te) σ H b := et_B h.bool
theorem a_nil : EA K tNil σ H [] := fun H1 _ _ q => q [] H1 (Ex.refl H1) .nil
theorem a_cons {tr : TA} (h : ED K te σ H d) (hr : EA K tr σ H ds) : EA K (tCons te tr) σ H (d :: ds) := fun H1 e _ q =>
  h H1 e _ fun v H2 e2 hd => hr H2 (e.trans e2) _ fun vs H3 e3 hds => q (v :: vs) H3 (e2.trans e3) (.cons (hd.ex e3) hds)
theorem a_star {tr : TA} (h : ED K te σ H (.tuple es)) (hr : EA K tr σ H ds) : EA K (StX.tStar K te tr) σ H (es ++ ds) := fun H1 e _ q =>
  h H1 e _ fun v H2 e2 hd => by
    obtain ⟨a, xs, rfl, hs, hx⟩ := hd.tupV
    exact ⟨a, xs, rfl, .inl hs, hr H2 (e.trans e2) _ fun vs H3 e3 hds => q (xs ++ vs) H3 (e2.trans e3) ((hx.ex e3).append hds)⟩
theorem a_starL {tr : TA} (h : ES K te σ H es) (hr : EA K tr σ H ds) : EA K (StX.tStar K te tr) σ H (es ++ ds) := fun H1 e _ q =>
  h H1 e _ fun p xs H2 e2 hs hx => ⟨p, xs, rfl, .inr hs, hr H2 (e.trans e2) _ fun vs H3 e3 hds => q (xs ++ vs) H3 (e2.trans e3) ((hx.ex e3).append hds)⟩
theorem g_tup {ta : TA} (h : EA K ta σ H ds) (hl : ds.length ≤ 100000) : ED K (tTup ta) σ H (.tuple ds) := fun H1 e _ q =>
  h H1 e _ fun vs H2 e2 hd => ⟨by rw [hd.length]; exact sz_of hl, fun p hp => q (.ref p) _ (e2.trans (Ex.new hp)) (.tup (st_of upd_same) (hd.ex (Ex.new hp)))⟩
theorem l_lst {ta : TA} (h : EA K ta σ H ds) (hl : ds.length ≤ 100000) : EL K (tLst ta) σ H ds := fun H1 e _ q =>
  h H1 e _ fun vs H2 e2 hd => ⟨by rw [hd.length]; exact sz_of hl, fun p hp => q p vs _ (fresh_back e2 hp) (e2.trans (Ex.new hp)) upd_same (hd.ex (Ex.new hp))⟩
/-- a def's promise of a datum -/
def SpD (K : PySem.W.Frag) (sp : Sp) (ds : List PyData) (d : PyData) : Prop := ∀ (H : Hp) (vs : List V), Dts K H vs ds → ∀ Q : VK, (∀ v H2, Ex H H2 → Dt K H2 v d → Q v H2) → ∀ E : XK, sp vs H Q E
def SpL (K : PySem.W.Frag) (sp : Sp) (ds es : List PyData) : Prop := ∀ (H : Hp) (vs : List V), Dts K H vs ds → ∀ Q : VK, (∀ p xs H2, H p = none → Ex H H2 → H2 p = some (.lst xs) → Dts K H2 xs es → Q (.ref p) H2) → ∀ E : XK, sp vs H Q E
theorem g_call {sp : Sp} {E : XK} {ta : TA} (h : EA K ta σ H ds) (hs : SpD K sp ds d) : ED K (tCall sp [] E ta) σ H d := fun H1 e Q q =>
  h H1 e _ fun vs H2 e2 hd => by
    show sp (vs ++ []) H2 Q E
    rw [List.append_nil]
    exact hs H2 vs hd Q (fun v H3 e3 => q v H3 (e2.trans e3)) E
theorem l_call {sp : Sp} {E : XK} {ta : TA} (h : EA K ta σ H ds) (hs : SpL K sp ds es) : EL K (tCall sp [] E ta) σ H es := fun H1 e Q q =>
  h H1 e _ fun vs H2 e2 hd => by
    show sp (vs ++ []) H2 Q E
    rw [List.append_nil]
    exact hs H2 vs hd Q (fun p xs H3 hp e3 => q p xs H3 (fresh_back e2 hp) (e2.trans e3)) E
theorem g_op (ha : ED K ta σ H d) (hb : ED K tb σ H e) {w : PyData} (hr : ∀ H1 x y, Ex H H1 → Dt K H1 x d → Dt K H1 y e → ∀ Q : VK, (∀ v H2, Ex H1 H2 → Dt K H2 v w → Q v H2) → r x y H1 Q) : ED K (tOp r ta tb) σ H w := fun H1 x1 Q q =>
  ha H1 x1 _ fun v H2 x2 hv => hb H2 (x1.trans x2) _ fun y H3 x3 hy => hr H3 v y ((x1.trans x2).trans x3) (hv.ex x3) hy Q fun z H4 x4 => q z H4 ((x2.trans x3).trans x4)
/-- t[i] -/
theorem atI_ds {vs : List V} {ds : List PyData} (h : Dts K H vs ds) {i : Int} {j : Nat} (hj : ixN ds.length i = some j) {d : PyData} (hd : ds[j]? = some d) : ∃ v, atI vs i = some v ∧ Dt K H v d := by
  obtain ⟨v, hv, hd⟩ := h.get' hd
  refine ⟨v, ?_, hd⟩
  unfold atI
  rw [h.length, hj]
  exact hv
theorem g_ixT {i : Int} {j : Nat} (ha : ED K ta σ H (.tuple ds)) (hb : ED K tb σ H (.int i)) (hj : ixN ds.length i = some j) (hd : ds[j]? = some d) : ED K (tOp (rIxT K) ta tb) σ H d :=
  g_op ha hb fun H1 x y _ hx hy Q q => by
    obtain ⟨a, xs, rfl, hs, hxs⟩ := hx.tupV
    rw [hy.intV]
    obtain ⟨v, hv, hdv⟩ := atI_ds hxs hj hd
    exact ⟨a, xs, i, v, rfl, rfl, hs, hv, q v H1 (Ex.refl H1) hdv⟩
theorem g_ixL {i : Int} {j : Nat} (ha : ES K ta σ H ds) (hb : ED K tb σ H (.int i)) (hj : ixN ds.length i = some j) (hd : ds[j]? = some d) : ED K (tOp (rIxL K) ta tb) σ H d := fun H1 x1 Q q =>
  ha H1 x1 _ fun p xs H2 x2 hs hxs => hb H2 (x1.trans x2) _ fun y H3 x3 hy => by
    rw [hy.intV]
    obtain ⟨v, hv, hdv⟩ := atI_ds (hxs.ex x3) hj hd
    exact ⟨p, xs, i, v, rfl, rfl, ex_l x3 hs, hv, q v H3 (x2.trans x3) hdv⟩
theorem ixN_at {n j : Nat} (h : j < n) : ixN n (j : Int) = some j := by
  unfold ixN
  rw [if_pos (by omega), if_pos (by omega)]
  simp
theorem ixN_last {n : Nat} (h : 0 < n) : ixN n (-1) = some (n - 1) := by
  unfold ixN
  rw [if_neg (by omega), if_pos (by omega)]
  congr 1
  omega
theorem g_if {b : Bool} (h : EvT t σ H b) (h1 : b = true → ED K ta σ H d) (h2 : b = false → ED K tb σ H d) : ED K (tIf t ta tb) σ H d := fun H1 e Q q => h H1 e _ fun H2 e2 => by
  cases b with
  | true =>
    show ta σ H2 Q
    exact h1 rfl H2 (e.trans e2) Q fun v H3 e3 => q v H3 (e2.trans e3)
  | false =>
    show tb σ H2 Q
    exact h2 rfl H2 (e.trans e2) Q fun v H3 e3 => q v H3 (e2.trans e3)
/-- len -/
theorem g_lenT (h : ED K te σ H (.tuple ds)) : ED K (tCB (fun xs H Q => ∃ p ys, xs = [.ref p] ∧ (SqL K H p ys ∨ SqT K H p ys) ∧ Q (.int ys.length) H) (tCons te tNil)) σ H (.int ds.length) := fun H1 e Q q =>
  h H1 e _ fun v H2 e2 hd => by
    obtain ⟨a, xs, rfl, hs, hx⟩ := hd.tupV
    refine ⟨a, xs, rfl, .inr hs, ?_⟩
    rw [hx.length]
    exact q _ H2 e2 (.int _)
theorem g_lenL (h : ES K te σ H ds) : ED K (tCB (fun xs H Q => ∃ p ys, xs = [.ref p] ∧ (SqL K H p ys ∨ SqT K H p ys) ∧ Q (.int ys.length) H) (tCons te tNil)) σ H (.int ds.length) := fun H1 e Q q =>
  h H1 e _ fun p xs H2 e2 hs hx => by
    refine ⟨p, xs, rfl, .inl hs, ?_⟩
    rw [hx.length]
    exact q _ H2 e2 (.int _)
/-- tuple(list) -/
theorem g_tupleOf (h : ES K te σ H ds) : ED K (tCB (fun xs H Q => ∃ p ys, xs = [.ref p] ∧ ((SqL K H p ys ∧ ∀ l, H l = none → Q (.ref l) (upd H l (.tup ys))) ∨ (SqT K H p ys ∧ Q (.ref p) H))) (tCons te tNil)) σ H (.tuple ds) := fun H1 e Q q =>
  h H1 e _ fun p xs H2 e2 hs hx => ⟨p, xs, rfl, .inl ⟨hs, fun l hl => q (.ref l) _ (e2.trans (Ex.new hl)) (.tup (st_of upd_same) (hx.ex (Ex.new hl)))⟩⟩
/-- list(tuple), list(list) -/
theorem l_listOf (h : ED K te σ H (.tuple ds)) : EL K (tCB (fun xs H Q => ∃ p ys, xs = [.ref p] ∧ (SqL K H p ys ∨ SqT K H p ys) ∧ ∀ l, H l = none → Q (.ref l) (upd H l (.lst ys))) (tCons te tNil)) σ H ds := fun H1 e Q q =>
  h H1 e _ fun v H2 e2 hd => by
    obtain ⟨a, xs, rfl, hs, hx⟩ := hd.tupV
    exact ⟨a, xs, rfl, .inr hs, fun l hl => q l xs _ (fresh_back e2 hl) (e2.trans (Ex.new hl)) upd_same (hx.ex (Ex.new hl))⟩
theorem l_listOfL (h : ES K te σ H ds) : EL K (tCB (fun xs H Q => ∃ p ys, xs = [.ref p] ∧ (SqL K H p ys ∨ SqT K H p ys) ∧ ∀ l, H l = none → Q (.ref l) (upd H l (.lst ys))) (tCons te tNil)) σ H ds := fun H1 e Q q =>
  h H1 e _ fun a xs H2 e2 hs hx => ⟨a, xs, rfl, .inl hs, fun l hl => q l xs _ (fresh_back e2 hl) (e2.trans (Ex.new hl)) upd_same (hx.ex (Ex.new hl))⟩
theorem g_any {bs : List Bool} (h : ES K te σ H (bs.map PyData.bool)) : ED K (tCB (rAny K) (tCons te tNil)) σ H (.bool (bs.any id)) := fun H1 e Q q =>
  h H1 e _ fun a xs H2 e2 hs hx => ⟨a, bs, rfl, by rw [← hx.bools]; exact hs, q _ H2 e2 (.bl _)⟩
theorem g_all {bs : List Bool} (h : ES K te σ H (bs.map PyData.bool)) : ED K (tCB (rAll K) (tCons te tNil)) σ H (.bool (bs.all id)) := fun H1 e Q q =>
  h H1 e _ fun a xs H2 e2 hs hx => ⟨a, bs, rfl, by rw [← hx.bools]; exact hs, q _ H2 e2 (.bl _)⟩
/-- comparisons of ints, of scalars -/
theorem g_I0 {g : Int → Int → V} {i j : Int} {w : PyData} (ha : ED K ta σ H (.int i)) (hb : ED K tb σ H (.int j)) (hw : ∀ H, Dt K H (g i j) w) : ED K (tOp (rI0 g) ta tb) σ H w :=
  g_op ha hb fun H1 x y _ hx hy Q q => ⟨i, j, hx.intV, hy.intV, q _ H1 (Ex.refl H1) (hw H1)⟩
theorem g_add {i j : Int} (ha : ED K ta σ H (.int i)) (hb : ED K tb σ H (.int j)) : ED K (tOp (rI0 fun i j => .int (i + j)) ta tb) σ H (.int (i + j)) := g_I0 ha hb fun _ => .int _
theorem g_sub {i j : Int} (ha : ED K ta σ H (.int i)) (hb : ED K tb σ H (.int j)) : ED K (tOp (rI0 fun i j => .int (i - j)) ta tb) σ H (.int (i - j)) := g_I0 ha hb fun _ => .int _
theorem g_cmpI {g : Int → Int → Bool} {i j : Int} (ha : ED K ta σ H (.int i)) (hb : ED K tb σ H (.int j)) : ED K (tOp (rI0 fun i j => .bl (g i j)) ta tb) σ H (.bool (g i j)) := g_I0 ha hb fun _ => .bl _
theorem g_eqS {x y : Str} (ha : ED K ta σ H (.str x)) (hb : ED K tb σ H (.str y)) : ED K (tOp rEq ta tb) σ H (.bool (decide (x = y))) :=
  g_op ha hb fun H1 a b _ hx hy Q q => by
    rw [hx.strV, hy.strV]
    refine ⟨rfl, ?_⟩
    have e : decide (V.str x = V.str y) = decide (x = y) := by by_cases h : x = y <;> simp [h]
    rw [e]
    exact q _ H1 (Ex.refl H1) (.bl _)
theorem g_neS {x y : Str} (ha : ED K ta σ H (.str x)) (hb : ED K tb σ H (.str y)) : ED K (tOp rNe ta tb) σ H (.bool (!decide (x = y))) :=
  g_op ha hb fun H1 a b _ hx hy Q q => by
    rw [hx.strV, hy.strV]
    refine ⟨rfl, ?_⟩
    have e : decide (V.str x = V.str y) = decide (x = y) := by by_cases h : x = y <;> simp [h]
    rw [e]
    exact q _ H1 (Ex.refl H1) (.bl _)
theorem g_eqI {x y : Int} (ha : ED K ta σ H (.int x)) (hb : ED K tb σ H (.int y)) : ED K (tOp rEq ta tb) σ H (.bool (decide (x = y))) :=
  g_op ha hb fun H1 a b _ hx hy Q q => by
    rw [hx.intV, hy.intV]
    refine ⟨rfl, ?_⟩
    have e : decide (V.int x = V.int y) = decide (x = y) := by by_cases h : x = y <;> simp [h]
    rw [e]
    exact q _ H1 (Ex.refl H1) (.bl _)
theorem g_neB {x y : Bool} (ha : ED K ta σ H (.bool x)) (hb : ED K tb σ H (.bool y)) : ED K (tOp rNe ta tb) σ H (.bool (x != y)) :=
  g_op ha hb fun H1 a b _ hx hy Q q => by
    rw [hx.boolV, hy.boolV]
    refine ⟨rfl, ?_⟩
    have e : (!decide (V.bl x = V.bl y)) = (x != y) := by cases x <;> cases y <;> rfl
    rw [e]
    exact q _ H1 (Ex.refl H1) (.bl _)
theorem flat_ofS (xs : List Str) : (xs.map V.str).all flatV = true := by
  induction xs with
  | nil => rfl
  | cons x r ih => rw [List.map_cons, List.all_cons, ih] <;> rfl
theorem inV_strs (x : Str) (xs : List Str) : inV (.str x) (xs.map V.str) = decide (x ∈ xs) := by
  unfold inV
  induction xs with
  | nil => simp
  | cons y r ih =>
    rw [List.map_cons, List.any_cons, ih]
    have e : eqV (V.str y) (V.str x) = decide (x = y) := by
      show decide (y = x) = decide (x = y)
      by_cases h : x = y
      · subst h; simp
      · rw [decide_eq_false h, decide_eq_false fun z => h z.symm]
    rw [e]
    by_cases h : x = y <;> simp [h]
/-- a text in a tuple, a list of texts -/
theorem g_inT {x : Str} {xs : List Str} (ha : ED K ta σ H (.str x)) (hb : ED K tb σ H (.tuple (xs.map PyData.str))) : ED K (tOp (rIn K false) ta tb) σ H (.bool (decide (x ∈ xs))) :=
  g_op ha hb fun H1 a b _ hx hy Q q => by
    rw [hx.strV]
    obtain ⟨p, vs, rfl, hs, hv⟩ := hy.tupV
    refine ⟨p, vs, rfl, .inr hs, rfl, by rw [hv.strs]; exact flat_ofS xs, ?_⟩
    rw [hv.strs, inV_strs]
    exact q _ H1 (Ex.refl H1) (.bl _)
theorem g_notInT {x : Str} {xs : List Str} (ha : ED K ta σ H (.str x)) (hb : ED K tb σ H (.tuple (xs.map PyData.str))) : ED K (tOp (rIn K true) ta tb) σ H (.bool (!decide (x ∈ xs))) :=
  g_op ha hb fun H1 a b _ hx hy Q q => by
    rw [hx.strV]
    obtain ⟨p, vs, rfl, hs, hv⟩ := hy.tupV
    refine ⟨p, vs, rfl, .inr hs, rfl, by rw [hv.strs]; exact flat_ofS xs, ?_⟩
    rw [hv.strs, inV_strs]
    exact q _ H1 (Ex.refl H1) (.bl _)
theorem g_inL {x : Str} {xs : List Str} (ha : ED K ta σ H (.str x)) (hb : ES K tb σ H (xs.map PyData.str)) : ED K (tOp (rIn K false) ta tb) σ H (.bool (decide (x ∈ xs))) := fun H1 x1 Q q =>
  ha H1 x1 _ fun v H2 x2 hv => hb H2 (x1.trans x2) _ fun p vs H3 x3 hs hd => by
    rw [hv.strV]
    refine ⟨p, vs, rfl, .inl hs, rfl, by rw [hd.strs]; exact flat_ofS xs, ?_⟩
    rw [hd.strs, inV_strs]
    exact q _ H3 (x2.trans x3) (.bl _)
theorem g_notInL {x : Str} {xs : List Str} (ha : ED K ta σ H (.str x)) (hb : ES K tb σ H (xs.map PyData.str)) : ED K (tOp (rIn K true) ta tb) σ H (.bool (!decide (x ∈ xs))) := fun H1 x1 Q q =>
  ha H1 x1 _ fun v H2 x2 hv => hb H2 (x1.trans x2) _ fun p vs H3 x3 hs hd => by
    rw [hv.strV]
    refine ⟨p, vs, rfl, .inl hs, rfl, by rw [hd.strs]; exact flat_ofS xs, ?_⟩
    rw [hd.strs, inV_strs]
    exact q _ H3 (x2.trans x3) (.bl _)
/-- a < b < c and its like on ints -/
theorem g_chainI {g g' : Int → Int → Bool} {i j k : Int} {tc : TE} (ha : ED K ta σ H (.int i)) (hb : ED K tb σ H (.int j)) (hc : ED K tc σ H (.int k)) :
    ED K (tChain (rI0 fun i j => .bl (g i j)) (rI0 fun i j => .bl (g' i j)) ta tb tc) σ H (.bool (g i j && g' j k)) := fun H1 x1 Q q =>
  ha H1 x1 _ fun v H2 x2 hv => hb H2 (x1.trans x2) _ fun y H3 x3 hy => by
    rw [hv.intV, hy.intV]
    refine ⟨i, j, rfl, rfl, g i j, rfl, ?_⟩
    cases hg : g i j with
    | false =>
      have q' := q (.bl false) H3 (x2.trans x3)
      rw [hg] at q'
      exact q' (.bl false)
    | true =>
      show tc σ H3 _
      refine hc H3 ((x1.trans x2).trans x3) _ fun z H4 x4 hz => ?_
      rw [hz.intV]
      refine ⟨j, k, rfl, rfl, q (.bl (g' j k)) H4 ((x2.trans x3).trans x4) ?_⟩
      rw [hg, Bool.true_and]
      exact .bl _
theorem g_notV {b : Bool} (h : ED K ta σ H (.bool b)) : ED K (tNotV ta) σ H (.bool (!b)) := g_ofBool (ev_notV h.bool)
theorem g_andV {a b : Bool} (h1 : ED K ta σ H (.bool a)) (h2 : a = true → ED K tb σ H (.bool b)) : ED K (tAndV ta tb) σ H (.bool (a && b)) := g_ofBool (ev_andV h1.bool fun h => (h2 h).bool)
theorem g_orV {a b : Bool} (h1 : ED K ta σ H (.bool a)) (h2 : a = false → ED K tb σ H (.bool b)) : ED K (tOrV ta tb) σ H (.bool (a || b)) := g_ofBool (ev_orV h1.bool fun h => (h2 h).bool)
theorem ED.is {d' : PyData} (h : ED K te σ H d) (e : d = d') : ED K te σ H d' := e ▸ h
theorem EL.is {ds' : List PyData} (h : EL K te σ H ds) (e : ds = ds') : EL K te σ H ds' := e ▸ h
theorem es_is {ds' : List PyData} (h : ES K te σ H ds) (e : ds = ds') : ES K te σ H ds' := e ▸ h

/-! ### comprehensions -/
/-- what a turn's target leaves, and what is made of it -/
def Trn (K : PySem.W.Frag) (g : TG) (t : TT) (te : TE) (vs : List Nat) (σ : L2.St) (H : Hp) (v : V) (f : Bool) (e : PyData) : Prop :=
  ∃ σ2, (∀ Q : L2.St → Hp → Prop, Q σ2 H → g v (wipe σ vs) H Q) ∧ wipe σ2 vs = wipe σ vs ∧ EvT t σ2 H f ∧ (f = true → ED K te σ2 H e)
/-- the new list at D behind some turns -/
def Cn (K : PySem.W.Frag) (H : Hp) (Dl : Addr) (es : List PyData) (H' : Hp) : Prop := H Dl = none ∧ Ex H H' ∧ ∃ acc, H' Dl = some (.lst acc) ∧ Dts K H' acc es
theorem cn_turn {g : TG} {vs : List Nat} {H H' : Hp} {Dl : Addr} {es : List PyData} {f : Bool} {v : V} {e : PyData} (p : Cn K H Dl es H') (hl : es.length < 60000) (h : Trn K g t te vs σ H' v f e) :
    g v (wipe σ vs) H' fun σ2 H2 => wipe σ2 vs = wipe σ vs ∧ t σ2 H2 fun b H3 => if b = true then te σ2 H3 fun y H4 => ∃ acc, H4 Dl = some (.lst acc) ∧ acc.length < sizeLine ∧ Cn K H Dl (es ++ if f then [e] else []) (upd H4 Dl (.lst (acc ++ [y]))) else Cn K H Dl (es ++ if f then [e] else []) H3 := by
  obtain ⟨p1, p2, acc, p3, p4⟩ := p
  obtain ⟨σ2, h1, h2, h3, h4⟩ := h
  refine h1 _ ⟨h2, h3 H' (Ex.refl H') _ fun H3 e3 => ?_⟩
  cases f with
  | true =>
    show te σ2 H3 _
    refine h4 rfl H3 e3 _ fun y H4 e4 hy => ?_
    have q := e4 Dl _ (e3 Dl _ p3)
    have d4 := (p4.ex e3).ex e4
    refine ⟨acc, q, sz_lt (by rw [p4.length]; omega), p1, Ex.mut ((p2.trans e3).trans e4) p1, _, upd_same, ?_⟩
    rw [if_pos rfl]
    exact (d4.mono (TLe.lst q)).append (.cons (hy.mono (TLe.lst q)) .nil)
  | false =>
    show Cn K H Dl _ H3
    refine ⟨p1, p2.trans e3, acc, e3 Dl _ p3, ?_⟩
    rw [if_neg Bool.false_ne_true, List.append_nil]
    exact p4.ex e3
def picked (f : PyData → Bool) (e : PyData → PyData) (ds : List PyData) : List PyData := (ds.filter f).map e
theorem picked_succ {f : PyData → Bool} {e : PyData → PyData} {ds : List PyData} {i : Nat} {d : PyData} (h : ds[i]? = some d) : picked f e (ds.take (i + 1)) = picked f e (ds.take i) ++ if f d then [e d] else [] := by
  unfold picked
  rw [List.take_add_one, h, Option.toList_some, List.filter_append, List.map_append]
  cases hf : f d <;> simp [hf]
theorem picked_len {f : PyData → Bool} {e : PyData → PyData} {ds : List PyData} (i : Nat) : (picked f e (ds.take i)).length ≤ ds.length := by
  unfold picked
  rw [List.length_map]
  refine Nat.le_trans (List.length_filter_le _ _) ?_
  rw [List.length_take]
  omega
/-- over a tuple -/
theorem l_lcT {tl : TE} {g : TG} {vs : List Nat} (f : PyData → Bool) (e : PyData → PyData) (h : ED K tl σ H (.tuple ds)) (hl : ds.length < 50000)
    (ht : ∀ d, d ∈ ds → ∀ v H1, Ex H H1 → Dt K H1 v d → Trn K g t te vs σ H1 v (f d) (e d)) : EL K (tLc (iTup K tl) g t te vs) σ H (picked f e ds) := fun H0 e0 Q q => h H0 e0 _ fun v H1 e1 hd => by
  obtain ⟨a, xs, rfl, hs, hx⟩ := hd.tupV
  refine ⟨a, rfl, ⟨xs, hs⟩, fun Dl hD => ?_⟩
  refine lc_tup (xs := xs) (fun i H' => Cn K H1 Dl (picked f e (ds.take i)) H') ⟨hD, Ex.new hD, [], upd_same, .nil⟩ (fun i H' _ p => ex_t p.2.1 hs) (fun i x H' hi p => ?_) fun H' p => ?_
  · obtain ⟨d, hdi, hdx⟩ := hx.get hi
    have e2 := p.2.1
    have := cn_turn p (Nat.lt_of_le_of_lt (picked_len i) (by omega)) (ht d (List.mem_of_getElem? hdi) x H' ((e0.trans e1).trans e2) (hdx.ex e2))
    rw [← picked_succ hdi] at this
    exact this
  · obtain ⟨p1, p2, acc, p3, p4⟩ := p
    refine q Dl acc H' (fresh_back e1 p1) (e1.trans p2) p3 ?_
    rw [hx.length, List.take_length] at p4
    exact p4
/-- over a list -/
theorem l_lcL {tl : TE} {g : TG} {vs : List Nat} (f : PyData → Bool) (e : PyData → PyData) (h : ES K tl σ H ds) (hl : ds.length < 50000)
    (ht : ∀ d, d ∈ ds → ∀ v H1, Ex H H1 → Dt K H1 v d → Trn K g t te vs σ H1 v (f d) (e d)) : EL K (tLc (iList K tl) g t te vs) σ H (picked f e ds) := fun H0 e0 Q q => h H0 e0 _ fun a xs H1 e1 hs hx => by
  refine ⟨a, rfl, ⟨xs, hs⟩, fun Dl hD => ?_⟩
  refine lc_list (xs := xs) (fun i H' => Cn K H1 Dl (picked f e (ds.take i)) H') ⟨hD, Ex.new hD, [], upd_same, .nil⟩ (fun i H' _ p => ex_l p.2.1 hs) (fun i x H' hi p => ?_) fun H' p => ?_
  · obtain ⟨d, hdi, hdx⟩ := hx.get hi
    have e2 := p.2.1
    have := cn_turn p (Nat.lt_of_le_of_lt (picked_len i) (by omega)) (ht d (List.mem_of_getElem? hdi) x H' ((e0.trans e1).trans e2) (hdx.ex e2))
    rw [← picked_succ hdi] at this
    exact this
  · obtain ⟨p1, p2, acc, p3, p4⟩ := p
    refine q Dl acc H' (fresh_back e1 p1) (e1.trans p2) p3 ?_
    rw [hx.length, List.take_length] at p4
    exact p4
/-- a turn whose target is a name -/
theorem trn_name {j : Nat} {vs : List Nat} {f : Bool} {e : PyData} (hw : wipe ((wipe σ vs).set j (some v)) vs = wipe σ vs) (h1 : EvT t ((wipe σ vs).set j (some v)) H f) (h2 : f = true → ED K te ((wipe σ vs).set j (some v)) H e) : Trn K (gName j) t te vs σ H v f e :=
  ⟨_, fun _ q => q, hw, h1, h2⟩
/-- .. a tuple of names -/
theorem trn_tup {vs : List Nat} {f : Bool} {e : PyData} {n : Nat} {g : TGs} {ds : List PyData} (hd : Dt K H v (.tuple ds)) (hn : ds.length = n)
    (h : ∀ ws, Dts K H ws ds → ∃ σ2, (∀ Q : L2.St → Hp → Prop, Q σ2 H → g ws (wipe σ vs) H Q) ∧ wipe σ2 vs = wipe σ vs ∧ EvT t σ2 H f ∧ (f = true → ED K te σ2 H e)) : Trn K (gTup K n g) t te vs σ H v f e := by
  obtain ⟨a, xs, rfl, hs, hx⟩ := hd.tupV
  obtain ⟨σ2, h1, h2, h3, h4⟩ := h xs hx
  exact ⟨σ2, fun Q q => ⟨a, xs, rfl, hs, by rw [hx.length, hn], h1 Q q⟩, h2, h3, h4⟩
theorem yes_t : EvT tYes σ H true := fun H1 _ _ q => q H1 (Ex.refl H1)

/-! ### statements -/
variable {D : Ends} {tu tw tz : TS} {g : TG}
theorem s_asgD {i : Nat} (h : ED K te σ H d) (k : ∀ v H1, Ex H H1 → Dt K H1 v d → D.nx (σ.set i (some v)) H1) : tAsg te (gName i) D σ H := h H (Ex.refl H) _ k
theorem q_asgD {i : Nat} (h : ED K te σ H d) (k : ∀ v H1, Ex H H1 → Dt K H1 v d → tz D (σ.set i (some v)) H1) : tSeq (tAsg te (gName i)) tz D σ H := h H (Ex.refl H) _ k
theorem q_asgN {i : Nat} (h : EL K te σ H ds) (k : ∀ p xs H1, H p = none → Ex H H1 → H1 p = some (.lst xs) → Dts K H1 xs ds → tz D (σ.set i (some (.ref p))) H1) : tSeq (tAsg te (gName i)) tz D σ H := h H (Ex.refl H) _ k
theorem s_retD (h : ED K te σ H d) (k : ∀ v H1, Ex H H1 → Dt K H1 v d → D.rt v H1) : tRet te D σ H := h H (Ex.refl H) _ k
theorem s_retN (h : EL K te σ H ds) (k : ∀ p xs H1, H p = none → Ex H H1 → H1 p = some (.lst xs) → Dts K H1 xs ds → D.rt (.ref p) H1) : tRet te D σ H := h H (Ex.refl H) _ k
/-- a, b, .. = e -/
theorem q_asgT {n : Nat} {g : TGs} (h : ED K te σ H (.tuple ds)) (hn : ds.length = n) (k : ∀ ws H1, Ex H H1 → Dts K H1 ws ds → g ws σ H1 (tz D)) : tSeq (tAsg te (gTup K n g)) tz D σ H := h H (Ex.refl H) _ fun v H1 e hd => by
  obtain ⟨a, xs, rfl, hs, hx⟩ := hd.tupV
  exact ⟨a, xs, rfl, hs, by rw [hx.length, hn], k xs H1 e hx⟩
end
/-- what a def gives back: a datum -/
def Gives (K : PySem.W.Frag) (H : Hp) (Q : VK) (d : PyData) : Prop := ∀ v H2, Ex H H2 → Dt K H2 v d → Q v H2
/-- a promise: from arguments that read as ds, where P holds, a datum -/
def spD {α : Type} (K : PySem.W.Frag) (args : α → List PyData) (P : α → Prop) (res : α → PyData) : Sp := fun vs H Q _ => ∃ a, P a ∧ Dts K H vs (args a) ∧ Gives K H Q (res a)
theorem spD_len {α : Type} {K : PySem.W.Frag} {args : α → List PyData} {P : α → Prop} {res : α → PyData} {n : Nat} (hn : ∀ a, (args a).length = n) : ∀ vs H Q E, spD K args P res vs H Q E → vs.length = n := by
  rintro vs H Q E ⟨a, _, hd, _⟩
  rw [hd.length, hn]
theorem spD_use {α : Type} {K : PySem.W.Frag} {args : α → List PyData} {P : α → Prop} {res : α → PyData} (a : α) (h : P a) : SpD K (spD K args P res) (args a) (res a) := fun H vs hd Q q E => ⟨a, h, hd, q⟩

/-! ### what the top has written -/
structure Df (K : PySem.W.Frag) (mg : Str → Option Value) (x : Str) (st : Stmt) (dfl : List V) : Prop where
  ex : ∃ f fd, FnP K x st dfl f fd ∧ mg x = some (.ref f)
section
variable {P : Program} {w : World} {K : PySem.W.Frag} {mg : Str → Option Value} {base : Heap}
/-- a def under its name, from its body -/
theorem cal_of {x : Str} {st : Stmt} {N ps : List Str} {k : Nat} {sp : Sp} (D : Df K mg x st [])
    (hb : ∀ (kV doc pm : Value) (an : Option Addr) (cdv ct : Value) (us : List Value), us.length = ps.length → bindArgs (PySem.W.fnOf x x (defArgs st) (defBody st) (defScope st) .none kV doc pm an cdv ct) ⟨us, []⟩ = pure (ps.zip us))
    (S : FnScope N ps (defScope st)) (len : ∀ vs H Q E, sp vs H Q E → vs.length = ps.length)
    (hbody : ∀ (f : Addr) (cdv : Value) (A : Around) (outer : List Env) (s : Shared) (H : Hp) (vs : List V) (Q : VK) (E : XK), Room k (A.deeper (envOfC x (defScope st) s.heap.objs.size f cdv)) → sp vs H Q E →
      ∃ t, PSs (cxOf CX0 P w K mg base N x (defScope st) f cdv A outer s H E).nox (defBody st) t ∧ t { nx := fun _ H' => Q .non H', rt := Q } (start N vs) H) : C8.Cal P w K mg base (k + 1) x sp [] := by
  obtain ⟨f, fd, F, g⟩ := D.ex
  refine ⟨f, fd, ps, [], F.ok S len (fun cdv A outer s H vs Q E hr h => ?_), g, F.kp, F.bindsN hb, .nil⟩
  obtain ⟨t, h1, h2⟩ := hbody f cdv A outer s H vs Q E hr h
  exact ⟨t, h1.nox, h2⟩
end
section
variable {X : Cx}
/-- a text of the module -/
theorem pe_gs {x z : Str} {pos : Pos} (h : ∃ t, X.mg x = some (.str z t)) (hg : Gl X x) (hd : (x == ("__debug__" : Str)) = false := by decide) : PE X (.Name x pos) (tC (.str z)) := by
  obtain ⟨t, h⟩ := h
  exact pe_glob hg h ⟨t, rfl⟩ hd
end
end K77
set_option maxHeartbeats 1000000
/-! What the top has written, by name. -/
namespace K77
open PySem PySem.Spec PyProof.Rows L2
structure Txt (K : PySem.W.Frag) (mg : Str → Option Value) : Prop where
  d_tupled : Df K mg "tupled" s_tupled []
  d_set_of : Df K mg "set_of" s_set_of []
  d_names : Df K mg "names" s_names []
  d_check_names : Df K mg "check_names" s_check_names []
  d_over : Df K mg "over" s_over []
  d_cut_points : Df K mg "cut_points" s_cut_points []
  d_pieces : Df K mg "pieces" s_pieces []
  d_clash : Df K mg "clash" s_clash []
  d_clashes : Df K mg "clashes" s_clashes []
  d_hold_together : Df K mg "hold_together" s_hold_together []
  d_told_below : Df K mg "told_below" s_told_below []
  d_sure_layers : Df K mg "sure_layers" s_sure_layers []
  d_order_for : Df K mg "order_for" s_order_for []
  d_is_order : Df K mg "is_order" s_is_order []
  d_top_in : Df K mg "top_in" s_top_in []
  d_is_order_for : Df K mg "is_order_for" s_is_order_for []
  d_surely_below : Df K mg "surely_below" s_surely_below []
  d_seen_there : Df K mg "seen_there" s_seen_there []
  d_sure_cells : Df K mg "sure_cells" s_sure_cells []
  d_check_photo : Df K mg "check_photo" s_check_photo []
  d_with_telling : Df K mg "with_telling" s_with_telling []
  d_with_fact : Df K mg "with_fact" s_with_fact []
  d_forced : Df K mg "forced" s_forced []
  d_settled : Df K mg "settled" s_settled []
  d_belows : Df K mg "belows" s_belows []
  d_pasting_order : Df K mg "pasting_order" s_pasting_order []
  d_ring_in : Df K mg "ring_in" s_ring_in []
  d_a_clash : Df K mg "a_clash" s_a_clash []
  d_can_fit : Df K mg "can_fit" s_can_fit []
  d_check_fit : Df K mg "check_fit" s_check_fit []
  d_latest_history : Df K mg "latest_history" s_latest_history []
  d_check_asked : Df K mg "check_asked" s_check_asked [.non]
  d_check_case : Df K mg "check_case" s_check_case [.non]
  d_surely_before : Df K mg "surely_before" s_surely_before []
  d_answers : Df K mg "answers" s_answers []
  d_law_box : Df K mg "_law_box" s_law_box []
  d_law_take : Df K mg "_law_take" s_law_take []
  d_law_cells : Df K mg "_law_cells" s_law_cells []
  d_law_of : Df K mg "_law_of" s_law_of []
  d_law_pick : Df K mg "_law_pick" s_law_pick []
  d_law_plank : Df K mg "_law_plank" s_law_plank []
  d_law_over : Df K mg "_law_over" s_law_over []
  d_law_names : Df K mg "_law_names" s_law_names []
  d_law_last : Df K mg "_law_last" s_law_last []
  d_law_sees : Df K mg "_law_sees" s_law_sees []
  d_law_parts : Df K mg "_law_parts" s_law_parts []
  d_law_three : Df K mg "_law_three" s_law_three []
  d_law_case : Df K mg "_law_case" s_law_case []
  d_law_sees_right : Df K mg "_law_sees_right" s_law_sees_right []
  d_law_by_hand_right : Df K mg "_law_by_hand_right" s_law_by_hand_right []
  d_law_case_right : Df K mg "_law_case_right" s_law_case_right []
  d_law_right : Df K mg "_law_right" s_law_right []
  d_law : Df K mg "law" s_law []
  z_isinstance : mg "isinstance" = none
  z_list : mg "list" = none
  z_tuple : mg "tuple" = none
  z_sorted : mg "sorted" = none
  z_set : mg "set" = none
  z_zip : mg "zip" = none
  z_len : mg "len" = none
  z_enumerate : mg "enumerate" = none
  z_any : mg "any" = none
  z_all : mg "all" = none
  z_min : mg "min" = none
  z_range : mg "range" = none
  z_abs : mg "abs" = none
  z_int : mg "int" = none
  z_str : mg "str" = none
  g_BARE : ∃ t, mg "BARE" = some (.str "-" t)
  g_BEFORE : ∃ t, mg "BEFORE" = some (.str "before" t)
  g_THERE : ∃ t, mg "THERE" = some (.str "there" t)
  g_NOT : ∃ t, mg "NOT" = some (.str "not" t)
theorem txt_of {K : PySem.W.Frag} {h : Heap} {mg : Str → Option Value} (X : K.In h) (G : h.Ns mainGlobals mg) (c : He.SaysD fa fn K) : Txt K mg where
  d_tupled := by
    obtain ⟨fd, F⟩ := c.def_ 0 (d := d_tupled) rfl
    exact ⟨_, fd, F, He.glo_ok X G (c.fact 0 (f := .glo "tupled") rfl)⟩
  d_set_of := by
    obtain ⟨fd, F⟩ := c.def_ 1 (d := d_set_of) rfl
    exact ⟨_, fd, F, He.glo_ok X G (c.fact 1 (f := .glo "set_of") rfl)⟩
  d_names := by
    obtain ⟨fd, F⟩ := c.def_ 2 (d := d_names) rfl
    exact ⟨_, fd, F, He.glo_ok X G (c.fact 2 (f := .glo "names") rfl)⟩
  d_check_names := by
    obtain ⟨fd, F⟩ := c.def_ 3 (d := d_check_names) rfl
    exact ⟨_, fd, F, He.glo_ok X G (c.fact 3 (f := .glo "check_names") rfl)⟩
  d_over := by
    obtain ⟨fd, F⟩ := c.def_ 4 (d := d_over) rfl
    exact ⟨_, fd, F, He.glo_ok X G (c.fact 4 (f := .glo "over") rfl)⟩
  d_cut_points := by
    obtain ⟨fd, F⟩ := c.def_ 5 (d := d_cut_points) rfl
    exact ⟨_, fd, F, He.glo_ok X G (c.fact 5 (f := .glo "cut_points") rfl)⟩
  d_pieces := by
    obtain ⟨fd, F⟩ := c.def_ 6 (d := d_pieces) rfl
    exact ⟨_, fd, F, He.glo_ok X G (c.fact 6 (f := .glo "pieces") rfl)⟩
  d_clash := by
    obtain ⟨fd, F⟩ := c.def_ 7 (d := d_clash) rfl
    exact ⟨_, fd, F, He.glo_ok X G (c.fact 7 (f := .glo "clash") rfl)⟩
  d_clashes := by
    obtain ⟨fd, F⟩ := c.def_ 8 (d := d_clashes) rfl
    exact ⟨_, fd, F, He.glo_ok X G (c.fact 8 (f := .glo "clashes") rfl)⟩
  d_hold_together := by
    obtain ⟨fd, F⟩ := c.def_ 9 (d := d_hold_together) rfl
    exact ⟨_, fd, F, He.glo_ok X G (c.fact 9 (f := .glo "hold_together") rfl)⟩
  d_told_below := by
    obtain ⟨fd, F⟩ := c.def_ 10 (d := d_told_below) rfl
    exact ⟨_, fd, F, He.glo_ok X G (c.fact 10 (f := .glo "told_below") rfl)⟩
  d_sure_layers := by
    obtain ⟨fd, F⟩ := c.def_ 11 (d := d_sure_layers) rfl
    exact ⟨_, fd, F, He.glo_ok X G (c.fact 11 (f := .glo "sure_layers") rfl)⟩
  d_order_for := by
    obtain ⟨fd, F⟩ := c.def_ 12 (d := d_order_for) rfl
    exact ⟨_, fd, F, He.glo_ok X G (c.fact 12 (f := .glo "order_for") rfl)⟩
  d_is_order := by
    obtain ⟨fd, F⟩ := c.def_ 13 (d := d_is_order) rfl
    exact ⟨_, fd, F, He.glo_ok X G (c.fact 13 (f := .glo "is_order") rfl)⟩
  d_top_in := by
    obtain ⟨fd, F⟩ := c.def_ 14 (d := d_top_in) rfl
    exact ⟨_, fd, F, He.glo_ok X G (c.fact 14 (f := .glo "top_in") rfl)⟩
  d_is_order_for := by
    obtain ⟨fd, F⟩ := c.def_ 15 (d := d_is_order_for) rfl
    exact ⟨_, fd, F, He.glo_ok X G (c.fact 15 (f := .glo "is_order_for") rfl)⟩
  d_surely_below := by
    obtain ⟨fd, F⟩ := c.def_ 16 (d := d_surely_below) rfl
    exact ⟨_, fd, F, He.glo_ok X G (c.fact 16 (f := .glo "surely_below") rfl)⟩
  d_seen_there := by
    obtain ⟨fd, F⟩ := c.def_ 17 (d := d_seen_there) rfl
    exact ⟨_, fd, F, He.glo_ok X G (c.fact 17 (f := .glo "seen_there") rfl)⟩
  d_sure_cells := by
    obtain ⟨fd, F⟩ := c.def_ 18 (d := d_sure_cells) rfl
    exact ⟨_, fd, F, He.glo_ok X G (c.fact 18 (f := .glo "sure_cells") rfl)⟩
  d_check_photo := by
    obtain ⟨fd, F⟩ := c.def_ 19 (d := d_check_photo) rfl
    exact ⟨_, fd, F, He.glo_ok X G (c.fact 19 (f := .glo "check_photo") rfl)⟩
  d_with_telling := by
    obtain ⟨fd, F⟩ := c.def_ 20 (d := d_with_telling) rfl
    exact ⟨_, fd, F, He.glo_ok X G (c.fact 20 (f := .glo "with_telling") rfl)⟩
  d_with_fact := by
    obtain ⟨fd, F⟩ := c.def_ 21 (d := d_with_fact) rfl
    exact ⟨_, fd, F, He.glo_ok X G (c.fact 21 (f := .glo "with_fact") rfl)⟩
  d_forced := by
    obtain ⟨fd, F⟩ := c.def_ 22 (d := d_forced) rfl
    exact ⟨_, fd, F, He.glo_ok X G (c.fact 22 (f := .glo "forced") rfl)⟩
  d_settled := by
    obtain ⟨fd, F⟩ := c.def_ 23 (d := d_settled) rfl
    exact ⟨_, fd, F, He.glo_ok X G (c.fact 23 (f := .glo "settled") rfl)⟩
  d_belows := by
    obtain ⟨fd, F⟩ := c.def_ 24 (d := d_belows) rfl
    exact ⟨_, fd, F, He.glo_ok X G (c.fact 24 (f := .glo "belows") rfl)⟩
  d_pasting_order := by
    obtain ⟨fd, F⟩ := c.def_ 25 (d := d_pasting_order) rfl
    exact ⟨_, fd, F, He.glo_ok X G (c.fact 25 (f := .glo "pasting_order") rfl)⟩
  d_ring_in := by
    obtain ⟨fd, F⟩ := c.def_ 26 (d := d_ring_in) rfl
    exact ⟨_, fd, F, He.glo_ok X G (c.fact 26 (f := .glo "ring_in") rfl)⟩
  d_a_clash := by
    obtain ⟨fd, F⟩ := c.def_ 27 (d := d_a_clash) rfl
    exact ⟨_, fd, F, He.glo_ok X G (c.fact 27 (f := .glo "a_clash") rfl)⟩
  d_can_fit := by
    obtain ⟨fd, F⟩ := c.def_ 28 (d := d_can_fit) rfl
    exact ⟨_, fd, F, He.glo_ok X G (c.fact 28 (f := .glo "can_fit") rfl)⟩
  d_check_fit := by
    obtain ⟨fd, F⟩ := c.def_ 29 (d := d_check_fit) rfl
    exact ⟨_, fd, F, He.glo_ok X G (c.fact 29 (f := .glo "check_fit") rfl)⟩
  d_latest_history := by
    obtain ⟨fd, F⟩ := c.def_ 30 (d := d_latest_history) rfl
    exact ⟨_, fd, F, He.glo_ok X G (c.fact 30 (f := .glo "latest_history") rfl)⟩
  d_check_asked := by
    obtain ⟨fd, F⟩ := c.def_ 31 (d := d_check_asked) rfl
    exact ⟨_, fd, F, He.glo_ok X G (c.fact 31 (f := .glo "check_asked") rfl)⟩
  d_check_case := by
    obtain ⟨fd, F⟩ := c.def_ 32 (d := d_check_case) rfl
    exact ⟨_, fd, F, He.glo_ok X G (c.fact 32 (f := .glo "check_case") rfl)⟩
  d_surely_before := by
    obtain ⟨fd, F⟩ := c.def_ 33 (d := d_surely_before) rfl
    exact ⟨_, fd, F, He.glo_ok X G (c.fact 33 (f := .glo "surely_before") rfl)⟩
  d_answers := by
    obtain ⟨fd, F⟩ := c.def_ 34 (d := d_answers) rfl
    exact ⟨_, fd, F, He.glo_ok X G (c.fact 34 (f := .glo "answers") rfl)⟩
  d_law_box := by
    obtain ⟨fd, F⟩ := c.def_ 35 (d := d_law_box) rfl
    exact ⟨_, fd, F, He.glo_ok X G (c.fact 35 (f := .glo "_law_box") rfl)⟩
  d_law_take := by
    obtain ⟨fd, F⟩ := c.def_ 36 (d := d_law_take) rfl
    exact ⟨_, fd, F, He.glo_ok X G (c.fact 36 (f := .glo "_law_take") rfl)⟩
  d_law_cells := by
    obtain ⟨fd, F⟩ := c.def_ 37 (d := d_law_cells) rfl
    exact ⟨_, fd, F, He.glo_ok X G (c.fact 37 (f := .glo "_law_cells") rfl)⟩
  d_law_of := by
    obtain ⟨fd, F⟩ := c.def_ 38 (d := d_law_of) rfl
    exact ⟨_, fd, F, He.glo_ok X G (c.fact 38 (f := .glo "_law_of") rfl)⟩
  d_law_pick := by
    obtain ⟨fd, F⟩ := c.def_ 39 (d := d_law_pick) rfl
    exact ⟨_, fd, F, He.glo_ok X G (c.fact 39 (f := .glo "_law_pick") rfl)⟩
  d_law_plank := by
    obtain ⟨fd, F⟩ := c.def_ 40 (d := d_law_plank) rfl
    exact ⟨_, fd, F, He.glo_ok X G (c.fact 40 (f := .glo "_law_plank") rfl)⟩
  d_law_over := by
    obtain ⟨fd, F⟩ := c.def_ 41 (d := d_law_over) rfl
    exact ⟨_, fd, F, He.glo_ok X G (c.fact 41 (f := .glo "_law_over") rfl)⟩
  d_law_names := by
    obtain ⟨fd, F⟩ := c.def_ 42 (d := d_law_names) rfl
    exact ⟨_, fd, F, He.glo_ok X G (c.fact 42 (f := .glo "_law_names") rfl)⟩
  d_law_last := by
    obtain ⟨fd, F⟩ := c.def_ 43 (d := d_law_last) rfl
    exact ⟨_, fd, F, He.glo_ok X G (c.fact 43 (f := .glo "_law_last") rfl)⟩
  d_law_sees := by
    obtain ⟨fd, F⟩ := c.def_ 44 (d := d_law_sees) rfl
    exact ⟨_, fd, F, He.glo_ok X G (c.fact 44 (f := .glo "_law_sees") rfl)⟩
  d_law_parts := by
    obtain ⟨fd, F⟩ := c.def_ 45 (d := d_law_parts) rfl
    exact ⟨_, fd, F, He.glo_ok X G (c.fact 45 (f := .glo "_law_parts") rfl)⟩
  d_law_three := by
    obtain ⟨fd, F⟩ := c.def_ 46 (d := d_law_three) rfl
    exact ⟨_, fd, F, He.glo_ok X G (c.fact 46 (f := .glo "_law_three") rfl)⟩
  d_law_case := by
    obtain ⟨fd, F⟩ := c.def_ 47 (d := d_law_case) rfl
    exact ⟨_, fd, F, He.glo_ok X G (c.fact 47 (f := .glo "_law_case") rfl)⟩
  d_law_sees_right := by
    obtain ⟨fd, F⟩ := c.def_ 48 (d := d_law_sees_right) rfl
    exact ⟨_, fd, F, He.glo_ok X G (c.fact 48 (f := .glo "_law_sees_right") rfl)⟩
  d_law_by_hand_right := by
    obtain ⟨fd, F⟩ := c.def_ 49 (d := d_law_by_hand_right) rfl
    exact ⟨_, fd, F, He.glo_ok X G (c.fact 49 (f := .glo "_law_by_hand_right") rfl)⟩
  d_law_case_right := by
    obtain ⟨fd, F⟩ := c.def_ 50 (d := d_law_case_right) rfl
    exact ⟨_, fd, F, He.glo_ok X G (c.fact 50 (f := .glo "_law_case_right") rfl)⟩
  d_law_right := by
    obtain ⟨fd, F⟩ := c.def_ 51 (d := d_law_right) rfl
    exact ⟨_, fd, F, He.glo_ok X G (c.fact 51 (f := .glo "_law_right") rfl)⟩
  d_law := by
    obtain ⟨fd, F⟩ := c.def_ 52 (d := d_law) rfl
    exact ⟨_, fd, F, He.glo_ok X G (c.fact 52 (f := .glo "law") rfl)⟩
  z_isinstance := He.free_ok X G (c.fact 53 (f := .free "isinstance") rfl)
  z_list := He.free_ok X G (c.fact 54 (f := .free "list") rfl)
  z_tuple := He.free_ok X G (c.fact 55 (f := .free "tuple") rfl)
  z_sorted := He.free_ok X G (c.fact 56 (f := .free "sorted") rfl)
  z_set := He.free_ok X G (c.fact 57 (f := .free "set") rfl)
  z_zip := He.free_ok X G (c.fact 58 (f := .free "zip") rfl)
  z_len := He.free_ok X G (c.fact 59 (f := .free "len") rfl)
  z_enumerate := He.free_ok X G (c.fact 60 (f := .free "enumerate") rfl)
  z_any := He.free_ok X G (c.fact 61 (f := .free "any") rfl)
  z_all := He.free_ok X G (c.fact 62 (f := .free "all") rfl)
  z_min := He.free_ok X G (c.fact 63 (f := .free "min") rfl)
  z_range := He.free_ok X G (c.fact 64 (f := .free "range") rfl)
  z_abs := He.free_ok X G (c.fact 65 (f := .free "abs") rfl)
  z_int := He.free_ok X G (c.fact 66 (f := .free "int") rfl)
  z_str := He.free_ok X G (c.fact 67 (f := .free "str") rfl)
  g_BARE := He.str_ok X G (c.fact 68 (f := .str "BARE" "-") rfl)
  g_BEFORE := He.str_ok X G (c.fact 69 (f := .str "BEFORE" "before") rfl)
  g_THERE := He.str_ok X G (c.fact 70 (f := .str "THERE" "there") rfl)
  g_NOT := He.str_ok X G (c.fact 71 (f := .str "NOT" "not") rfl)
end K77
set_option maxHeartbeats 3200000
/-! set(xs) of a list, for any kind of elements whose adding is known; two kinds: atoms (ints, texts) and tuples of atoms. -/
namespace K77
open PySem PySem.Spec PyProof.Rows L2

/-- an empty set's object -/
abbrev nset (w : World) : Obj := { cls := .type "set", dict := none, data := .set #[] 0 (.fresh 0 0 (!w.params.followText "set-order")) }
/-- a kind of elements -/
structure Flav (P : Program) (w : World) (κ : Type) where
  is : Heap → κ → Value → Prop
  St : Heap → Addr → List (Value × κ) → Prop
  room : Around → Prop
  isK : ∀ {h h' : Heap} {k : κ} {v : Value}, is h k v → (∀ b o, h.get? b = some o → h'.get? b = some o) → is h' k v
  stK : ∀ {h h' : Heap} {a : Addr} {L : List (Value × κ)}, St h a L → (∀ o, h.get? a = some o → h'.get? a = some o) → St h' a L
  new : ∀ {h : Heap} {a : Addr}, h.get? a = some (nset w) → St h a []
  add : ∀ {A : Around} {E : Value → Shared → Prop} {s : Shared} {a : Addr} {L : List (Value × κ)} {v : Value} {k : κ} {Q : Bool → Shared → Prop}, room A → St s.heap a L → (∀ p ∈ L, is s.heap p.2 p.1) → is s.heap k v → L.length + 1 < 64 →
    (∀ b h' L' tk, s.toks ≤ tk → Heap.SameBut a s.heap h' → St h' a L' → (k ∈ L.map (·.2) → L' = L) → (k ∉ L.map (·.2) → L'.Perm ((v, k) :: L)) → Q b { s with heap := h', toks := tk }) → wpAny (model P w) A (setAdd a v) Q E s
  out : ∀ {h : Heap} {a : Addr} {L : List (Value × κ)}, St h a L → L.length < 64 → ∃ es ep t, SetAt h a es ep t ∧ t.fits es.size = true ∧ es.size < scanBound ∧ Ris t.place.toList ∧ (w.params.followText "set-order" = true ∨ t.led = true) ∧ es.toList.map (·.2) = L.map (·.1)

/-- what a set has from the first i -/
structure Has {κ : Type} (ks : List (Value × κ)) (i : Nat) (L : List (Value × κ)) : Prop where
  sub : ∀ p ∈ L, p ∈ ks.take i
  all : ∀ p ∈ ks.take i, p.2 ∈ L.map (·.2)
  nd : (L.map (·.2)).Nodup
  len : L.length ≤ i
section
variable {κ : Type} {ks L L' : List (Value × κ)} {i : Nat} {x : Value × κ}
theorem Has.zero (ks : List (Value × κ)) : Has ks 0 [] := ⟨nofun, fun p h => by simp at h, List.nodup_nil, Nat.le_refl _⟩
theorem Has.step (g : Has ks i L) (h : ks[i]? = some x) (c1 : x.2 ∈ L.map (·.2) → L' = L) (c2 : x.2 ∉ L.map (·.2) → L'.Perm (x :: L)) : Has ks (i + 1) L' := by
  have tk : ks.take (i + 1) = ks.take i ++ [x] := by rw [List.take_add_one, h, Option.toList_some]
  by_cases c : x.2 ∈ L.map (·.2)
  · rw [c1 c]
    refine ⟨fun p hp => by rw [tk]; exact List.mem_append_left _ (g.sub p hp), fun p hp => ?_, g.nd, Nat.le_succ_of_le g.len⟩
    rw [tk, List.mem_append, List.mem_singleton] at hp
    rcases hp with z | z
    · exact g.all p z
    · rw [z]; exact c
  · have pm := c2 c
    refine ⟨fun p hp => ?_, fun p hp => ?_, ?_, ?_⟩
    · rw [tk, List.mem_append, List.mem_singleton]
      rcases List.mem_cons.mp (pm.mem_iff.mp hp) with z | z
      · exact .inr z
      · exact .inl (g.sub p z)
    · rw [(pm.map (·.2)).mem_iff, List.map_cons, List.mem_cons]
      rw [tk, List.mem_append, List.mem_singleton] at hp
      rcases hp with z | z
      · exact .inr (g.all p z)
      · rw [z]; exact .inl rfl
    · rw [(pm.map (·.2)).nodup_iff, List.map_cons]
      exact List.nodup_cons.mpr ⟨c, g.nd⟩
    · rw [pm.length_eq, List.length_cons]
      exact Nat.succ_le_succ g.len
end
section
variable {P : Program} {w : World} {A : Around} {E : Value → Shared → Prop} {s : Shared} {κ : Type}
/-- the loop that fills a set from an iterator -/
theorem fill_loop (Y : Flav P w κ) {I : Addr} {fp wr : List Addr} {G : Array GenState → Array GenState → Prop} {n : Nat} {Pv : Nat → Value → Prop} {St : Nat → Shared → Prop} {R : Result → Shared → Prop}
    (W : WalksS P w A.in1 I fp wr G n Pv St) (S : Addr) (hSf : S ∉ fp) (ks : List (Value × κ)) (hn : n = ks.length) (hf : ks.length < 64) (hv : ∀ i v, Pv i v → ∃ p, ks[i]? = some p ∧ v = p.1)
    (h0 : Heap) (hk : ∀ p ∈ ks, Y.is h0 p.2 p.1) (hS0 : h0.get? S = none) (hw0 : ∀ b ∈ wr, h0.get? b = none) (hr : Y.room A.in1) :
    ∀ (m i : Nat) (s : Shared), n - i = m → i ≤ n → St i s → (∀ b o, h0.get? b = some o → s.heap.get? b = some o) → (∃ L, Y.St s.heap S L ∧ Has ks i L) →
      (∀ s' L, Moved (S :: wr) G s s' → Y.St s'.heap S L → Has ks n L → (∀ b o, h0.get? b = some o → s'.heap.get? b = some o) → R (.ok (.ret .none)) s') →
      codeAny (model P w) A (.builtin "set.update.loop" ⟨[.ref S, .ref I], []⟩) R s := by
  have hSw : S ∉ wr := fun h => hSf (W.sub _ h)
  have hsub : ∀ b ∈ wr, b ∈ S :: wr := fun b => List.mem_cons_of_mem _
  have kp : ∀ {s s' : Shared}, Moved wr G s s' → (∀ b o, h0.get? b = some o → s.heap.get? b = some o) → ∀ b o, h0.get? b = some o → s'.heap.get? b = some o := fun hm k b o e =>
    hm.heap b o (fun z => nomatch (hw0 b z).symm.trans e) (k b o e)
  intro m
  induction m with
  | zero =>
    intro i s hm hi st k ⟨L, hL, g⟩ hR
    obtain rfl : i = n := by omega
    refine codeAny_builtin F.entry_set_update_loop ?_
    rw [Around.under_plainId F.plain_set_update_loop _]
    show wpAny _ A.in1 (pyNext (.ref I) >>= _) _ _ s
    exact wpAny_bind (W.done s _ _ st fun s' mv => wpAny_pure (hR s' L (mv.mono hsub) (Y.stK hL fun o e => mv.heap S o hSw e) g (kp mv k)))
  | succ m ih =>
    intro i s hm hi st k ⟨L, hL, g⟩ hR
    have hlt : i < n := by omega
    refine codeAny_builtin F.entry_set_update_loop ?_
    rw [Around.under_plainId F.plain_set_update_loop _]
    show wpAny _ A.in1 (pyNext (.ref I) >>= _) _ _ s
    refine wpAny_bind (W.item i s _ _ hlt st fun v s' hP st' mv => ?_)
    obtain ⟨p, hp, rfl⟩ := hv i v hP
    have k' := kp mv k
    have sub : ∀ q ∈ L, q ∈ ks := fun q hq => List.mem_of_mem_take (g.sub q hq)
    show wpAny _ A.in1 (holding [p.1] (setAdd S p.1) >>= _) _ _ s'
    refine wpAny_bind (wpAny_holding (Y.add hr (Y.stK hL fun o e => mv.heap S o hSw e) (fun q hq => Y.isK (hk q (sub q hq)) k') (Y.isK (hk p (List.mem_of_getElem? hp)) k') (by have := g.len; omega) fun b h' L' tk ht sb hS' c1 c2 => ?_))
    have g' : Has ks (i + 1) L' := g.step hp c1 c2
    have k2 : ∀ b o, h0.get? b = some o → h'.get? b = some o := fun b o e => (sb.2 b fun z => by rw [z, hS0] at e; cases e).trans (k' b o e)
    refine wpAny_pure ⟨plainId_quiet F.plain_set_update_loop _, ih (i + 1) _ (by omega) hlt (W.frame _ s' _ _ st' ht fun b hb o e => ?_) k2 ⟨L', hS', g'⟩ fun s2 L2 mv2 hS2 g2 k3 => ?_⟩
    · rw [sb.2 b fun z => hSf (z ▸ hb)]; exact e
    · refine hR s2 L2 (Moved.trans W.gtrans ((mv.mono hsub).then_heap ht fun b o hb e => ?_) mv2) hS2 g2 k3
      rw [sb.2 b fun z => hb (z ▸ List.mem_cons_self)]; exact e
/-- set(xs) -/
theorem call_set_fl (Y : Flav P w κ) {l : Addr} {items : Array Value} (ks : List (Value × κ)) {Q : Value → Shared → Prop} (hh : A.handled = none) (hl : s.heap.IsList l items) (hit : items.toList = ks.map (·.1))
    (hk : ∀ p ∈ ks, Y.is s.heap p.2 p.1) (hf : ks.length < 64) (hr : Y.room A.in1.in1.in1)
    (h : ∀ (h' : Heap) (tk : Nat) L, Y.St h' s.heap.objs.size L → Has ks ks.length L → (∀ b o, s.heap.get? b = some o → h'.get? b = some o) → Q (.ref s.heap.objs.size) { s with heap := h', toks := tk }) :
    wpAny (model P w) A (call (.type "set") [.ref l]) Q E s := by
  have hz : items.size = ks.length := by
    have q := congrArg List.length hit
    rwa [Array.length_toList, List.length_map] at q
  obtain ⟨c, tl, hmro⟩ := F.called_set.mro
  have hmade := F.called_set.made
  have hsub := F.called_set.sub
  refine wpAny_call (codeAny_of_tree ?_)
  show wpAny _ _ (callAny (.type "set") _) _ _ _
  refine wpAny_pure ⟨Code.quiet_builtin _ (by decide +kernel), codeAny_builtin F.entry_type_call ?_⟩
  rw [Around.under_plain (weight_type_call_type "set" [.ref l] []) rfl]
  have h1 := F.called_set.notType
  have h2 := F.called_set.canCreate
  have hct := F.typeCall_set_1 (.ref l)
  repeat (any_goals (first | assumption | wp_step))
  refine codeAny_mono (code_set_led1 (.ref l) (E := E) (Q₁ := fun obj s₁ => obj = .ref s.heap.objs.size ∧ s₁ = { s with heap := s.heap.push (nset w) }) ⟨rfl, rfl⟩) fun r s₁ hr1 => ?_
  rcases r with e | fl
  · exact hr1
  cases fl with
  | ret obj =>
    obtain ⟨rfl, rfl⟩ := hr1
    have hS : (s.heap.push (nset w)).get? s.heap.objs.size = some (nset w) := Heap.get?_push_size _ rfl
    have hT : Shared.TypeIs { s with heap := s.heap.push (nset w) } (.ref s.heap.objs.size) "set" := ⟨_, hS, rfl⟩
    have hli := F.called_set.init.lookup
    have hbi := F.called_set.init.bind (.ref s.heap.objs.size)
    repeat (any_goals (first | assumption | wp_step))
    refine codeAny_mono (codeAny_call_builtin (R := wants (fun r s₂ => r = .none ∧ ∃ h' tk L, s₂ = { s with heap := h', toks := tk } ∧ Y.St h' s.heap.objs.size L ∧ Has ks ks.length L ∧
      (∀ b o, s.heap.get? b = some o → h'.get? b = some o)) E) F.called_set.init.plain F.entry_set_init (check_set_init_1 hT ?_)) fun r₂ s₂ hr₂ => ?_
    · obtain ⟨⟨ocls, odict, odata, oslots⟩, hol, hcl, nl, hdl⟩ := hl
      dsimp only at hcl hdl
      subst hcl hdl
      have hol' : (s.heap.push (nset w)).get? l = some { cls := .type "list", dict := odict, data := .seq items nl, slots := oslots } := Heap.get?_push_of_some _ hol
      have hsls := F.sub_list_set
      have hslf := F.sub_list_frozenset
      have hne : (Value.type "list" == Value.type "dict") = false := by decide
      have hl1 : (s.heap.push (nset w)).IsList l items := ⟨_, hol', rfl, nl, rfl⟩
      unfold Builtin.«set.__init__» noKeywords Builtin.Frozenset.updateFrom
      generalize hPI : pyIter = PI
      wp_walk
      subst hPI
      refine wpAny_pyIter_list hl1 (wpAny_bind (wpAny_runValue ?_))
      have lS : l < s.heap.objs.size := Heap.lt_size hol
      have hh3 : A.in1.in1.in1.handled = none := by simp [hh]
      have zp : (s.heap.push (nset w)).objs.size = s.heap.objs.size + 1 := Heap.size_push ..
      have lI : l ≠ (s.heap.push (nset w)).objs.size := by rw [zp]; exact Nat.ne_of_lt (Nat.lt_succ_of_lt lS)
      have nn : ∀ b, s.heap.objs.size ≤ b → s.heap.get? b = none := fun b hb => by
        cases q : s.heap.get? b with
        | none => rfl
        | some o => exact absurd (Nat.lt_of_lt_of_le (Heap.lt_size q) hb) (Nat.lt_irrefl _)
      refine fill_loop Y ((Walks.list hh3 _ l lI items).toS) s.heap.objs.size (by simp only [List.mem_cons, List.not_mem_nil, or_false, not_or]; rw [zp]; exact ⟨Nat.ne_of_lt (Nat.lt_succ_self _), Nat.ne_of_gt lS⟩) ks hz hf (fun i v hv => ?_) s.heap hk (nn _ (Nat.le_refl _)) (fun b hb => nn b ?_) hr (items.size - 0) 0 _ (by omega) (Nat.zero_le _)
        ⟨⟨_, Heap.get?_push_size _ rfl, rfl, rfl⟩, (hl1.push _)⟩ (fun b o e => Heap.get?_push_of_some _ (Heap.get?_push_of_some _ e)) ⟨[], Y.new (Heap.get?_push_of_some _ hS), Has.zero ks⟩ ?_
      · have q : items.toList[i]? = some v := (Array.getElem?_toList ..).trans hv
        rw [hit, List.getElem?_map] at q
        obtain ⟨p, hp, e⟩ := Option.map_eq_some_iff.mp q
        exact ⟨p, hp, e.symm⟩
      · rw [List.mem_singleton.mp hb, zp]; exact Nat.le_succ _
      · intro s' L mv hS' g' k
        obtain ⟨h', gg, dd, tk, oo⟩ := s'
        have eg : gg = s.gens := mv.gens
        have ed : dd = s.drawn := mv.drawn
        have eo : oo = s.os := mv.os
        subst eg ed eo
        rw [hz] at g'
        show wpAny _ _ _ _ _ _
        refine wpAny_pure ?_
        show wpAny _ _ (ret Value.none) _ _ _
        exact wpAny_pure ⟨rfl, h', tk, L, rfl, hS', g', k⟩
    · rcases r₂ with e | fl₂
      · exact hr₂
      cases fl₂ with
      | ret r =>
        obtain ⟨rfl, h', tk, L, rfl, hS', g', k⟩ := hr₂
        repeat (any_goals (first | assumption | wp_step))
        exact h _ _ _ hS' g' k
      | _ => exact hr₂.elim
  | _ => exact hr1.elim
end
end K77
set_option maxHeartbeats 3200000
/-! The two kinds of elements: atoms by scan, tuples of atoms by the table. -/
namespace K77
open PySem PySem.Spec PyProof.Rows L2
/-- a rearranged image is the image of a rearrangement -/
theorem perm_back {α β : Type} (f : α → β) {l m : List β} (p : l.Perm m) : ∀ L : List α, m = L.map f → ∃ L' : List α, l = L'.map f ∧ L'.Perm L := by
  induction p with
  | nil =>
    intro L e
    exact ⟨[], rfl, by rw [List.map_eq_nil_iff.mp e.symm]⟩
  | cons x _ ih =>
    intro L e
    cases L with
    | nil => cases e
    | cons y L =>
      rw [List.map_cons, List.cons.injEq] at e
      obtain ⟨L', e1, p1⟩ := ih L e.2
      exact ⟨y :: L', by rw [List.map_cons, e1, e.1], p1.cons y⟩
  | swap x y l =>
    intro L e
    match L, e with
    | a :: b :: L, e =>
      rw [List.map_cons, List.map_cons, List.cons.injEq, List.cons.injEq] at e
      exact ⟨b :: a :: L, by rw [List.map_cons, List.map_cons, e.1, e.2.1, e.2.2], List.Perm.swap a b L⟩
  | trans _ _ ih1 ih2 =>
    intro L e
    obtain ⟨L2, e2, p2⟩ := ih2 L e
    obtain ⟨L1, e1, p1⟩ := ih1 L2 e2
    exact ⟨L1, e1, p1.trans p2⟩
theorem sc_of {k : Key} {v : Value} (h : keyIs k v = true) : v.scannable = true := by
  rcases keyIs_shape h with ⟨i, t, rfl, rfl⟩ | ⟨x, t, rfl, rfl⟩ <;> rfl
section
variable {P : Program} {w : World}
/-! ### atoms -/
abbrev rowA (P : Program) (w : World) (p : Value × Key) : Int × Value := ((mixKind P w).hash p.2, p.1)
structure AtS (P : Program) (w : World) (h : Heap) (a : Addr) (L : List (Value × Key)) : Prop where
  ex : ∃ o es ep t, h.get? a = some o ∧ o.ExactSet ∧ o.data = .set es ep t ∧ es.toList = L.map (rowA P w) ∧ t.fits es.size = true ∧ Ris t.place.toList ∧ (w.params.followText "set-order" = true ∨ t.led = true)
theorem rowsA_el {L : List (Value × Key)} (h : ∀ p ∈ L, (mixKind P w).is p.2 p.1 = true) : ElemsOf (mixKind P w) (L.map (rowA P w)) := fun e he => by
  obtain ⟨p, hp, rfl⟩ := List.mem_map.mp he
  exact ⟨⟨p.2, h p hp, rfl⟩, sc_of (h p hp)⟩
theorem at_tail {A : Around} {E : Value → Shared → Prop} {s : Shared} {g : Bool → Sem Unit} (hg : ∀ (b : Bool) (s₁ : Shared) (Q' : Unit → Shared → Prop), Q' () s₁ → wpAny (model P w) A (g b) Q' E s₁)
    {a : Addr} {o : Obj} {es es1 : Array (Int × Value)} {ep : Nat} {t t2 : SetTable} (ho : s.heap.get? a = some o) (hex : o.ExactSet) (hd : o.data = .set es ep t) {L1 : List (Value × Key)} (e1 : es1.toList = L1.map (rowA P w)) (hl : L1.length < scanBound)
    (f2 : t2.fits es1.size = true) (r2 : Ris t2.place.toList) (l2 : w.params.followText "set-order" = true ∨ t2.led = true) {wd : Bool} {R : Option Bool → Shared → Prop}
    (hR : ∀ h' L', Heap.SameBut a s.heap h' → AtS P w h' a L' → L'.Perm L1 → R (some true) { s with heap := h' }) :
    wpAny (model P w) A (do
        storeSet a es1 t2
        if (!wd && t2.tooFull) = true then do
            g (relayAll t2 es1 (SetTable.grown es1.size)).2.2
            storeSet a (relayAll t2 es1 (SetTable.grown es1.size)).1 (relayAll t2 es1 (SetTable.grown es1.size)).2.1
            pure (some true)
          else pure (some true)) R E s := by
  have z1 : es1.size < scanBound := by
    have q := congrArg List.length e1
    rw [Array.length_toList, List.length_map] at q
    omega
  refine wpAny_bind (wpAny_storeSet_of ho hd ?_ (fits_of_scanBound z1))
  have ho1 := store_at (es' := es1) (t' := t2) ho hd
  have sb := Heap.SameBut.update s.heap a (Obj.putSet es1 t2)
  split
  · have pm := relayAll_perm t2 es1 (SetTable.grown es1.size)
    have f3 := relayAll_fits t2 es1 (SetTable.grown es1.size)
    have r3 := relayAll_ris t2 es1 (SetTable.grown es1.size)
    have l3 := relayAll_led t2 es1 (SetTable.grown es1.size)
    generalize relayAll t2 es1 (SetTable.grown es1.size) = Z at pm f3 r3 l3 ⊢
    obtain ⟨es2, t3, gv⟩ := Z
    dsimp only at pm f3 r3 l3 ⊢
    have z2 : es2.size < scanBound := by rw [← Array.length_toList, pm.length_eq, Array.length_toList]; exact z1
    obtain ⟨L', e2, p2⟩ := perm_back (rowA P w) pm L1 e1
    refine wpAny_bind (hg _ _ _ (wpAny_bind (wpAny_storeSet_of ho1 rfl ?_ (fits_of_scanBound z2))))
    exact wpAny_pure (hR _ L' (sb.trans (Heap.SameBut.update _ a _)) ⟨⟨_, es2, _, t3, store_at ho1 rfl, hex, rfl, e2, f3, r3, l2.imp id fun z => l3.trans z⟩⟩ p2)
  · exact wpAny_pure (hR _ L1 sb ⟨⟨_, es1, _, t2, ho1, hex, rfl, e1, f2, r2, l2⟩⟩ (List.Perm.refl _))
theorem at_add {A : Around} {E : Value → Shared → Prop} {s : Shared} {a : Addr} {L : List (Value × Key)} {v : Value} {k : Key} {Q : Bool → Shared → Prop} (H : AtS P w s.heap a L) (hL : ∀ p ∈ L, (mixKind P w).is p.2 p.1 = true) (hk : (mixKind P w).is k v = true) (hf : L.length + 1 < 64)
    (h : ∀ b h' L' tk, s.toks ≤ tk → Heap.SameBut a s.heap h' → AtS P w h' a L' → (k ∈ L.map (·.2) → L' = L) → (k ∉ L.map (·.2) → L'.Perm ((v, k) :: L)) → Q b { s with heap := h', toks := tk }) : wpAny (model P w) A (setAdd a v) Q E s := by
  obtain ⟨o, es, ep, t, ho, hex, hd, er, ft, ri, ld⟩ := H.ex
  unfold setAdd
  refine wpAny_holding (wpAny_bind ((mixKind P w).pyHash hk ?_))
  have h' := fun b h' L' => h b h' L' (s.toks + 1) (Nat.le_succ _)
  generalize hs1 : ({ s with toks := s.toks + 1 } : Shared) = s1
  have eh : s1.heap = s.heap := by rw [← hs1]
  rw [← eh] at ho
  replace h' : ∀ b h' L', Heap.SameBut a s1.heap h' → AtS P w h' a L' → (k ∈ L.map (·.2) → L' = L) → (k ∉ L.map (·.2) → L'.Perm ((v, k) :: L)) → Q b { s1 with heap := h' } := fun b hh L' sb hA c1 c2 => by
    subst hs1
    exact h' b hh L' sb hA c1 c2
  have el := rowsA_el hL
  rw [← er] at el
  have zz : es.size = L.length := by
    have q := congrArg List.length er
    rwa [Array.length_toList, List.length_map] at q
  have zb : es.size < scanBound := by unfold scanBound; omega
  unfold setAddHashed setAddHashedIn
  refine wpAny_holding (wpAny_bind (wpAny_setState_of ho hd ft ?_))
  dsimp only
  rw [byScan_of (sc_of hk) zb el]
  simp only [↓reduceIte]
  unfold setAddByScan
  refine wpAny_bind (wpAny_bind (wpAny_rule (wpAny_bind (wpAny_setScan_of hk ho hd ft el ?_))))
  cases fi : List.findIdx? (fun e => (mixKind P w).is k e.2) es.toList with
  | some j =>
    dsimp only
    obtain ⟨hj, pj, _⟩ := List.findIdx?_eq_some_iff_getElem.mp fi
    have hm : k ∈ L.map (·.2) := by
      obtain ⟨p, hp, e⟩ := List.mem_map.mp (by have m := List.getElem_mem hj; rw [List.mem_iff_getElem?] at m ⊢; rw [← er]; exact m : es.toList[j] ∈ L.map (rowA P w))
      have e2 : k = p.2 := (mixKind P w).inj _ _ _ pj (by rw [← e]; exact hL p hp)
      rw [e2]
      exact List.mem_map_of_mem hp
    exact wpAny_pure (wpAny_pure (h' false s1.heap L (Heap.SameBut.refl a _) ⟨⟨o, es, ep, t, ho, hex, hd, er, ft, ri, ld⟩⟩ (fun _ => rfl) fun z => absurd hm z))
  | none =>
    dsimp only
    have hn : k ∉ L.map (·.2) := fun z => by
      obtain ⟨p, hp, e⟩ := List.mem_map.mp z
      have c := List.findIdx?_eq_none_iff.mp fi (rowA P w p) (by rw [er]; exact List.mem_map_of_mem hp)
      have c2 := hL p hp
      rw [e] at c2
      rw [c2] at c
      cases c
    have pm := layNew_perm t es ((mixKind P w).hash k) v
    have f1 := layNew_fits t es ((mixKind P w).hash k) v
    have r1 := layNew_ris t es ((mixKind P w).hash k) v ri
    have l1 := layNew_led t es ((mixKind P w).hash k) v
    generalize layNew t es ((mixKind P w).hash k) v = Z at pm f1 r1 l1 ⊢
    obtain ⟨es1, t1, wd, gv⟩ := Z
    dsimp only at pm f1 r1 l1 ⊢
    rw [Array.toList_push] at pm
    obtain ⟨L1, e1, p1⟩ := perm_back (rowA P w) (pm.trans (List.perm_append_singleton _ _)) ((v, k) :: L) (by rw [List.map_cons, er])
    have z1 : L1.length < scanBound := by rw [p1.length_eq, List.length_cons]; unfold scanBound; omega
    have ld1 : w.params.followText "set-order" = true ∨ t1.led = true := ld.imp id fun z => l1.trans z
    have gw : ∀ (b : Bool) {s₁ : Shared} {Q' : Unit → Shared → Prop}, Q' () s₁ → wpAny (model P w) A (match b with | true => rule "set.scan.the-table-gave-way" | false => pure ()) Q' E s₁ :=
      fun b s₁ Q' q => by cases b <;> first | exact wpAny_pure q | exact wpAny_rule q
    have fin : ∀ h2 L', Heap.SameBut a s1.heap h2 → AtS P w h2 a L' → L'.Perm L1 → Q true { s1 with heap := h2 } := fun h2 L' sb r pp => h' true h2 L' sb r (fun z => absurd z hn) fun _ => pp.trans p1
    refine wpAny_bind (gw _ ?_)
    split
    · refine wpAny_bind ?_
      rw [hashByValue_scannable 8 (sc_of hk)]
      refine wpAny_pure ?_
      refine at_tail ?_ ho hex hd e1 z1 ?_ ?_ ?_ ?_
      · intro b s₁ Q' q; cases b <;> first | exact wpAny_pure q | exact wpAny_rule q
      · split <;> first | exact f1 | exact SetTable.fits_plain_off f1
      · split <;> exact r1
      · split <;> exact ld1
      · intro h2 L' sb r pp; dsimp only; exact wpAny_pure (fin h2 L' sb r pp)
    · refine wpAny_bind (wpAny_pure ?_)
      simp only [↓reduceIte]
      refine at_tail ?_ ho hex hd e1 z1 f1 r1 ld1 ?_
      · intro b s₁ Q' q; cases b <;> first | exact wpAny_pure q | exact wpAny_rule q
      · intro h2 L' sb r pp; dsimp only; exact wpAny_pure (fin h2 L' sb r pp)
theorem led_new (w : World) : w.params.followText "set-order" = true ∨ (!w.params.followText "set-order") = true := by
  cases w.params.followText "set-order" <;> simp
/-- ints and texts -/
def flA (P : Program) (w : World) : Flav P w Key where
  is := fun _ k v => (mixKind P w).is k v = true
  St := AtS P w
  room := fun _ => True
  isK := fun h _ => h
  stK := fun ⟨⟨o, es, ep, t, ho, r⟩⟩ k => ⟨⟨o, es, ep, t, k o ho, r⟩⟩
  new := fun ho => ⟨⟨_, #[], 0, _, ho, ⟨rfl, rfl, rfl⟩, rfl, rfl, rfl, List.Pairwise.nil, led_new w⟩⟩
  add := fun _ H hL hk hf h => at_add H hL hk hf h
  out := fun {h a L} H hl => by
    obtain ⟨o, es, ep, t, ho, hex, hd, er, ft, ri, ld⟩ := H.ex
    have q := congrArg List.length er
    rw [Array.length_toList, List.length_map] at q
    refine ⟨es, ep, t, ⟨o, ho, hex.1, hd⟩, ft, by unfold scanBound; omega, ri, ld, ?_⟩
    rw [er, List.map_map]
    rfl
end
end K77
set_option maxHeartbeats 3200000
/-! Sets of tuples of atoms (ints and texts, mixed). -/
namespace K77
open PySem PySem.Spec PyProof.Rows L2
abbrev TKy := List Key
abbrev hK (P : Program) (w : World) (k : TKy) : Int := tupleKeyHash (mixKind P w) k
abbrev isK (P : Program) (w : World) (h : Heap) (k : TKy) (a : Addr) : Prop := IsTupleKey (mixKind P w) h k a
section
variable {P : Program} {w : World} {A : Around} {E : Value → Shared → Prop} {s : Shared}
theorem item_key {k : TKy} {vs : List Value} (h : ItemsAre (mixKind P w) k vs) : ∀ v ∈ vs, ∃ j, keyIs j v = true := by
  induction h with
  | nil => exact nofun
  | @cons j v ks vs h1 _ ih =>
    intro u hu
    rcases List.mem_cons.mp hu with e | hu
    · exact ⟨j, e ▸ h1⟩
    · exact ih u hu
theorem stm_key (n : Nat) {j : Key} {v : Value} (h : keyIs j v = true) : ofAClassStatement n v = pure false := by
  rcases keyIs_shape h with ⟨i, t, rfl, rfl⟩ | ⟨x, t, rfl, rfl⟩ <;> cases n <;> rfl
theorem stm_tup {k : TKy} {b : Addr} {Q : Bool → Shared → Prop} (hk : isK P w s.heap k b) (h : Q false s) : wpAny (model P w) A (ofAClassStatement 8 (.ref b)) Q E s := by
  have hT := hk.typeIs
  obtain ⟨o, items, n, ho, _, hd, hi⟩ := hk
  unfold ofAClassStatement
  refine wpAny_bind (wpAny_typeOf hT ?_)
  dsimp only
  simp only [show (("tuple" : String) == "tuple") = true by decide, if_true, Bool.not_true, Bool.false_eq_true, if_false]
  try refine wpAny_bind (wpAny_pure ?_)
  try simp only [Bool.not_true, Bool.false_eq_true, if_false]
  refine wpAny_bind (m := seqItems? (.ref b)) (wpAny_seqItems ho hd ?_)
  dsimp only
  refine wpAny_bind ?_
  show wpAny _ _ (forIn items _ _) _ _ s
  rw [← Array.forIn_toList]
  refine wpAny_forIn_list _ (fun rest r s' => r.1 = none ∧ s' = s ∧ ∀ v ∈ rest, ∃ j, keyIs j v = true) _ ?_ ?_ _ _ ⟨rfl, rfl, item_key hi⟩
  · rintro v rest r s' ⟨hr, rfl, hall⟩
    obtain ⟨j, hj⟩ := hall v List.mem_cons_self
    rw [stm_key 7 hj]
    refine wpAny_bind (wpAny_pure ?_)
    simp only [Bool.false_eq_true, if_false]
    exact wpAny_pure ⟨rfl, rfl, fun u hu => hall u (List.mem_cons_of_mem _ hu)⟩
  · rintro ⟨r1, r2⟩ s' ⟨hr, rfl, _⟩
    obtain rfl : r1 = none := hr
    exact wpAny_pure h
theorem hbv_tup {k : TKy} {b : Addr} {Q : Bool → Shared → Prop} (hk : isK P w s.heap k b) (h : ∀ c, Q c s) : wpAny (model P w) A (hashByValue 8 (.ref b)) Q E s := by
  have hT := hk.typeIs
  obtain ⟨o, items, n, ho, _, hd, hi⟩ := hk
  unfold hashByValue
  refine wpAny_bind (wpAny_specialOf hT F.slot_tuple_hash.lookup ?_)
  refine wpAny_bind (m := seqItems? (.ref b)) (wpAny_seqItems ho hd ?_)
  refine wpAny_bind ?_
  show wpAny _ _ (forIn items _ _) _ _ s
  rw [← Array.forIn_toList]
  refine wpAny_forIn_list _ (fun rest r s' => r.1 = none ∧ s' = s ∧ ∀ v ∈ rest, ∃ j, keyIs j v = true) _ ?_ ?_ _ _ ⟨rfl, rfl, item_key hi⟩
  · rintro v rest r s' ⟨hr, rfl, hall⟩
    obtain ⟨j, hj⟩ := hall v List.mem_cons_self
    have tl : ∀ u ∈ rest, ∃ j, keyIs j u = true := fun u hu => hall u (List.mem_cons_of_mem _ hu)
    rw [hashByValue_scannable 7 (sc_of hj)]
    refine wpAny_bind (wpAny_pure ?_)
    cases plainKind v
    · simp only [Bool.not_false, if_true]
      exact wpAny_pure (wpAny_pure (h false))
    · simp only [Bool.not_true, Bool.false_eq_true, if_false]
      exact wpAny_pure ⟨rfl, rfl, tl⟩
  · rintro ⟨r1, r2⟩ s' ⟨hr, rfl, _⟩
    obtain rfl : r1 = none := hr
    exact wpAny_pure (h true)
theorem unseen_tup {k : TKy} {b : Addr} {Q : Bool → Shared → Prop} (hk : isK P w s.heap k b) {ys : List Value} (hy : ∀ y ∈ ys, ∃ j c, y = Value.ref c ∧ isK P w s.heap j c) (h : Q false s) :
    wpAny (model P w) A (searchCouldBeSeen (.ref b) ys) Q E s := by
  unfold searchCouldBeSeen
  refine wpAny_bind ?_
  refine wpAny_forIn_list _ (fun rest r s' => r.1 = none ∧ s' = s ∧ ∀ y ∈ rest, ∃ j c, y = Value.ref c ∧ isK P w s.heap j c) _ ?_ ?_ _ _ ⟨rfl, rfl, hy⟩
  · rintro v rest r s' ⟨hr, rfl, hall⟩
    obtain ⟨j, c, rfl, hc⟩ := hall v List.mem_cons_self
    have tl : ∀ y ∈ rest, ∃ j c, y = Value.ref c ∧ isK P w s'.heap j c := fun u hu => hall u (List.mem_cons_of_mem _ hu)
    dsimp only
    by_cases hv : (b == c || (carriedByValue (.ref b) && carriedByValue (.ref c))) = true
    · exact wp_if_pos hv (wpAny_pure ⟨rfl, rfl, tl⟩)
    · refine wp_if_neg hv (wpAny_bind (wpAny_eqIsQuiet_tuple hk ?_))
      simp only [Bool.not_true, Bool.false_eq_true, if_false]
      refine wpAny_bind (wpAny_eqIsQuiet_tuple hc ?_)
      simp only [Bool.not_true, Bool.false_eq_true, if_false]
      refine wpAny_bind (stm_tup hk ?_)
      simp only [Bool.false_eq_true, if_false]
      refine wpAny_bind (stm_tup hc ?_)
      simp only [Bool.false_eq_true, if_false]
      exact wpAny_pure ⟨rfl, rfl, tl⟩
  · rintro ⟨r1, r2⟩ s' ⟨hr, rfl, _⟩
    obtain rfl : r1 = none := hr
    exact wpAny_pure h
end
/-! ### the set -/
abbrev rowT (P : Program) (w : World) (p : Addr × TKy) : Int × Value := (hK P w p.2, .ref p.1)
structure TS0 (P : Program) (w : World) (h : Heap) (a : Addr) (L : List (Addr × TKy)) (es : Array (Int × Value)) (ep : Nat) (t : SetTable) : Prop where
  ob : ∃ o, h.get? a = some o ∧ o.ExactSet ∧ o.data = .set es ep t
  rows : es.toList = L.map (rowT P w)
  tab : TabOk t (L.map fun p => hK P w p.2)
  led : w.params.followText "set-order" = true ∨ t.led = true
  room : L.length * 5 < t.mask * 3
section
variable {P : Program} {w : World} {A : Around} {E : Value → Shared → Prop} {s : Shared} {a : Addr} {L : List (Addr × TKy)} {es : Array (Int × Value)} {ep : Nat} {t : SetTable}
theorem rows_size (r : es.toList = L.map (rowT P w)) : es.size = L.length := by
  have q := congrArg List.length r
  rwa [Array.length_toList, List.length_map] at q
theorem TS0.fits (R : TS0 P w s.heap a L es ep t) : t.fits es.size = true := by
  have h1 := R.tab.sz
  rw [List.length_map] at h1
  have h2 := rows_size R.rows
  have h3 := R.room
  unfold SetTable.fits SetTable.fill
  rw [R.tab.dm, Bool.and_eq_true, beq_iff_eq, decide_eq_true_eq]
  show t.place.size = es.size ∧ t.place.size + 0 ≤ t.mask
  omega
theorem TS0.at (R : TS0 P w s.heap a L es ep t) {i : Nat} {p : Addr × TKy} (h : L[i]? = some p) : es[i]? = some (hK P w p.2, Value.ref p.1) := by
  rw [← Array.getElem?_toList, R.rows, List.getElem?_map, h]
  rfl
theorem nodummy (m : Nat) : ∀ (n : Nat) (p : SetTable.Probe), p.dummy = none → (nth m p n).dummy = none
  | 0, _, h => h
  | n + 1, p, h => nodummy m n (adv m p) (by unfold adv; split <;> exact h)
abbrev st0 (t : SetTable) (h : Int) : SetTable.Probe := runAt t.mask (SetTable.bits h % (t.mask + 1)) (SetTable.bits h)
/-- the search for k from the c-th step on: K is the first free one of its way -/
theorem find_from (R : TS0 P w s.heap a L es ep t) (hL : ∀ p ∈ L, isK P w s.heap p.2 p.1) {x : Addr} {k : TKy} (hx : isK P w s.heap k x) (hu : A.units < cLine) {K : Nat} (hKf : K < 10 * SetTable.turns t.mask)
    (hKn : way t.mask (hK P w k) K ∉ t.place.toList) (hb : ∀ c, c < K → way t.mask (hK P w k) c ∈ t.place.toList) {Q : SetFound → Shared → Prop}
    (hin : k ∈ L.map (·.2) → Q (.there none) s) (hout : k ∉ L.map (·.2) → Q (.free (way t.mask (hK P w k) K) false) s) :
    ∀ (f c : Nat) (stand : Option SetTable.Probe), stand.getD (t.probeStart (hK P w k)) = nth t.mask (st0 t (hK P w k)) c → c ≤ K → K - c < f →
      (∀ (i : Nat) p, L[i]? = some p → p.2 = k → ∃ c', c ≤ c' ∧ c' < K ∧ t.place.toList[i]? = some (way t.mask (hK P w k) c')) →
      wpAny (model P w) A (setSearchFrom a (.ref x) (hK P w k) true f stand) Q E s := by
  obtain ⟨o, ho, hex, hd⟩ := R.ob
  have gw : ¬ t.gaveWay = true := by unfold SetTable.gaveWay; rw [mask_odd R.tab.mok]; decide
  have hsh : ∀ (i : Nat) p, L[i]? = some p → (fun i => (es[i]?.map (·.1)).getD 0) i = hK P w p.2 := fun i p hp => by
    show (es[i]?.map (·.1)).getD 0 = _
    rw [R.at hp]; rfl
  intro f
  induction f with
  | zero => intro c _ _ _ hf; exact absurd hf (Nat.not_lt_zero _)
  | succ f ih =>
    intro c stand hst hc hf hre
    have sh : ∀ q, nth t.mask (nth t.mask (st0 t (hK P w k)) c) q = nth t.mask (st0 t (hK P w k)) (c + q) := fun q => (nth_add t.mask c _ q).symm
    have ew : ∀ q, (nth t.mask (nth t.mask (st0 t (hK P w k)) c) q).j = way t.mask (hK P w k) (c + q) := fun q => congrArg SetTable.Probe.j (sh q)
    rw [setSearchFrom_succ]
    refine wpAny_bind (wpAny_setState_of ho hd R.fits ?_)
    dsimp only
    refine wp_if_neg gw ?_
    try refine wpAny_bind (wpAny_pure ?_)
    rcases go_spec t R.tab.ris R.tab.dm (fun i => (es[i]?.map (·.1)).getD 0) (hK P w k) (10 * SetTable.turns t.mask) (K - c) (nth t.mask (st0 t (hK P w k)) c) (nodummy _ c _ rfl) (by omega)
      (fun q hq => by rw [ew]; exact hb (c + q) (by omega)) (by rw [ew, show c + (K - c) = K by omega]; exact hKn) with ⟨q, i, hq, hi, hh, hno, hpr⟩ | ⟨hno, hpr⟩
    · have hpr' : t.probe (fun i => (es[i]?.map (·.1)).getD 0) (hK P w k) (stand.getD (t.probeStart (hK P w k))) = some (.candidate (way t.mask (hK P w k) (c + q)) i (nth t.mask (st0 t (hK P w k)) (c + (q + 1)))) := by
        rw [hst, ← ew, ← sh]; exact hpr
      rw [hpr']
      dsimp only
      rw [ew] at hi
      have hil : i < L.length := by
        have h1 : i < t.place.toList.length := (List.getElem?_eq_some_iff.mp hi).1
        have h2 := R.tab.sz
        rw [List.length_map] at h2
        rw [Array.length_toList] at h1
        omega
      obtain ⟨p, hp⟩ : ∃ p, L[i]? = some p := ⟨_, List.getElem?_eq_getElem hil⟩
      have mem : p ∈ L := List.mem_of_getElem? hp
      have rest : wpAny (model P w) A (searchRest a (.ref x) (hK P w k) true f es t (way t.mask (hK P w k) (c + q)) i (nth t.mask (st0 t (hK P w k)) (c + (q + 1)))) Q E s := by
        unfold searchRest
        rw [R.at hp]
        dsimp only
        refine wpAny_bind (wpAny_holding (wpAny_eqBool_tuple hu (hL p mem) hx ?_))
        refine wpAny_bind (wpAny_setState_of ho hd R.fits ?_)
        dsimp only
        by_cases hkk : p.2 = k
        · exact wp_if_pos (by simp [hkk]) (wpAny_pure (hin (List.mem_map.mpr ⟨p, mem, hkk⟩)))
        · refine wp_if_neg (by simp [hkk]) ?_
          try refine wpAny_bind (wpAny_pure ?_)
          rw [sameMem]
          dsimp only
          have sl : t.slot (way t.mask (hK P w k) (c + q)) = .live i := slot_live R.tab.ris hi
          simp only [if_true, sl, R.at hp]
          refine wpAny_bind (wpAny_isSame_ref_self (wpAny_bind (wpAny_pure ?_)))
          simp only [if_true]
          refine wp_if_neg (by simp [hkk]) ?_
          refine ih (c + (q + 1)) _ rfl (by omega) (by omega) fun i0 p0 h0 hk0 => ?_
          obtain ⟨c', a1, a2, a3⟩ := hre i0 p0 h0 hk0
          refine ⟨c', ?_, a2, a3⟩
          rcases Nat.lt_trichotomy c' (c + q) with z | z | z
          · exact absurd ((hsh i0 p0 h0).trans (congrArg (hK P w) hk0)) (hno (c' - c) i0 (by omega) (by rw [ew, show c + (c' - c) = c' by omega]; exact a3))
          · rw [z] at a3
            have s0 := slot_live R.tab.ris a3
            rw [sl] at s0
            injection s0 with s0
            rw [← s0, hp] at h0
            exact absurd ((congrArg Prod.snd (Option.some.inj h0)).trans hk0) hkk
          · omega
      by_cases hl : t.led = true
      · refine wp_if_neg (by simp [hl]) ?_
        try refine wpAny_bind (wpAny_pure ?_)
        exact rest
      · refine wp_if_pos (by simp [hl]) ?_
        refine wpAny_bind (unseen_tup hx (fun y hy => ?_) ?_)
        · obtain ⟨e, he, ee⟩ := List.mem_map.mp hy
          have he2 : e ∈ es.toList := by
            have := (show e ∈ es ∧ e.1 = hK P w k by simpa using he).1
            simpa using this
          rw [R.rows] at he2
          obtain ⟨p2, hp2, e2⟩ := List.mem_map.mp he2
          exact ⟨p2.2, p2.1, by rw [← ee, ← e2], hL p2 hp2⟩
        · refine wp_if_neg (by decide) ?_
          try refine wpAny_bind (wpAny_pure ?_)
          exact rest
    · have hpr' : t.probe (fun i => (es[i]?.map (·.1)).getD 0) (hK P w k) (stand.getD (t.probeStart (hK P w k))) = some (.empty (way t.mask (hK P w k) K) none) := by
        have e2 := ew (K - c)
        rw [show c + (K - c) = K by omega] at e2
        rw [hst, ← e2]
        exact hpr
      rw [hpr']
      dsimp only
      refine wpAny_pure (hout fun hm => ?_)
      obtain ⟨p0, h0, hk0⟩ := List.mem_map.mp hm
      obtain ⟨i0, hi0, e0⟩ := List.getElem_of_mem h0
      have h00 : L[i0]? = some p0 := by rw [List.getElem?_eq_getElem hi0, e0]
      obtain ⟨c', a1, a2, a3⟩ := hre i0 p0 h00 hk0
      exact hno (c' - c) i0 (by omega) (by rw [ew, show c + (c' - c) = c' by omega]; exact a3) ((hsh i0 p0 h00).trans (congrArg (hK P w) hk0))
theorem find_at (R : TS0 P w s.heap a L es ep t) (hL : ∀ p ∈ L, isK P w s.heap p.2 p.1) {x : Addr} {k : TKy} (hx : isK P w s.heap k x) (hu : A.units < cLine) {Q : SetFound → Shared → Prop}
    (hin : k ∈ L.map (·.2) → Q (.there none) s)
    (hout : ∀ K, k ∉ L.map (·.2) → way t.mask (hK P w k) K ∉ t.place.toList → (∀ c, c < K → way t.mask (hK P w k) c ∈ t.place.toList) → Q (.free (way t.mask (hK P w k) K) false) s) :
    wpAny (model P w) A (setSearch a (.ref x) (hK P w k) true) Q E s := by
  have hroom := R.room
  obtain ⟨K, hKf, hKn, hb⟩ := R.tab.first (by rw [List.length_map]; omega) (hK P w k)
  have big : 10 * SetTable.turns t.mask ≤ 1420 := by
    unfold SetTable.turns
    rcases R.tab.mok with e | e | e <;> omega
  unfold setSearch
  refine find_from R hL hx hu hKf hKn hb hin (fun hn => hout K hn hKn hb) 100000 0 none rfl (Nat.zero_le _) (by omega) fun i p hp hk => ?_
  have hi : (L.map fun p => hK P w p.2)[i]? = some (hK P w k) := by rw [List.getElem?_map, hp, ← hk]; rfl
  have hil : i < t.place.toList.length := by
    have h1 : i < L.length := (List.getElem?_eq_some_iff.mp hp).1
    have h2 := R.tab.sz
    rw [List.length_map] at h2
    rw [Array.length_toList]
    omega
  have hj := List.getElem?_eq_getElem hil
  obtain ⟨c, hc, e⟩ := R.tab.before hKn hi hj
  exact ⟨c, Nat.zero_le _, hc, by rw [hj, e]⟩
/-- a tuple is another object than the set -/
theorem isK_off {h h' : Heap} {k : TKy} {b : Addr} {o : Obj} (hb : isK P w h k b) (ho : h.get? a = some o) (hd : o.data = .set es ep t) (hs : Heap.SameBut a h h') : isK P w h' k b := by
  obtain ⟨o', items, n, ho', r⟩ := hb
  have ne : b ≠ a := by
    rintro rfl
    obtain rfl : o' = o := Option.some.inj (ho'.symm.trans ho)
    rw [hd] at r
    exact nomatch r.2.1
  exact ⟨o', items, n, (hs.2 b ne).trans ho', r⟩
theorem pick_rows {order : Array Nat} (r : es.toList = L.map (rowT P w)) (hp : order.toList.Perm (List.range L.length)) :
    ∃ L2 : List (Addr × TKy), (order.filterMap (es[·]?)).toList = L2.map (rowT P w) ∧ L2.Perm L ∧ (L2.map fun p => hK P w p.2) = order.toList.map fun i => (es.map (·.1)).getD i 0 := by
  have hz := rows_size r
  have lt : ∀ i ∈ order.toList, i < L.length := fun i hi => List.mem_range.mp (hp.mem_iff.mp hi)
  have ent : ∀ i, es[i]? = (L[i]?).map (rowT P w) := fun i => by rw [← Array.getElem?_toList, r, List.getElem?_map]
  have key : ∀ l : List Nat, (∀ i ∈ l, i < L.length) → l.filterMap (fun i => es[i]?) = (l.filterMap fun i => L[i]?).map (rowT P w) ∧ ((l.filterMap fun i => L[i]?).map fun p => hK P w p.2) = l.map fun i => (es.map (·.1)).getD i 0 := by
    intro l
    induction l with
    | nil => intro _; exact ⟨rfl, rfl⟩
    | cons i l ih =>
      intro hl
      obtain ⟨e1, e2⟩ := ih fun j hj => hl j (List.mem_cons_of_mem _ hj)
      have hi : L[i]? = some (L[i]'(hl i List.mem_cons_self)) := List.getElem?_eq_getElem _
      have hi2 : es[i]? = some (rowT P w (L[i]'(hl i List.mem_cons_self))) := by rw [ent, hi]; rfl
      refine ⟨by rw [List.filterMap_cons_some hi2, List.filterMap_cons_some hi, List.map_cons, e1], ?_⟩
      rw [List.filterMap_cons_some hi, List.map_cons, List.map_cons, e2]
      have : (es.map (·.1)).getD i 0 = hK P w (L[i]'(hl i List.mem_cons_self)).2 := by
        rw [Array.getD_eq_getD_getElem?, Array.getElem?_map, hi2]; rfl
      rw [this]
  obtain ⟨e1, e2⟩ := key _ lt
  refine ⟨_, by rw [Array.toList_filterMap]; exact e1, (hp.filterMap _).trans (List.Perm.of_eq ?_), e2⟩
  have all : ∀ n, n ≤ L.length → (List.range n).filterMap (fun i => L[i]?) = L.take n := by
    intro n
    induction n with
    | zero => intro _; rfl
    | succ n ih =>
      intro hn
      rw [List.range_succ, List.filterMap_append, ih (Nat.le_of_lt hn), List.take_add_one, List.getElem?_eq_getElem hn]
      rw [List.filterMap_cons_some (List.getElem?_eq_getElem hn)]; rfl
  rw [all L.length (Nat.le_refl _), List.take_length]
/-- the table laid anew -/
theorem relay_t {o : Obj} (ho : s.heap.get? a = some o) (hex : o.ExactSet) (hd : o.data = .set es ep t) (r : es.toList = L.map (rowT P w)) (hsz : t.place.size = es.size) (hdm : t.dummies = #[]) (hfl : es.size ≤ t.mask)
    (ld : w.params.followText "set-order" = true ∨ t.led = true) {wanted M : Nat} (hw : SetTable.sizeAbove wanted - 1 = M) (hM : MaskOk M) (hw2 : SetTable.sizeAbove wanted ≤ 128) (hn : L.length * 5 < M * 3) {Q : Unit → Shared → Prop}
    (hQ : ∀ h' L' es' ep' t', Heap.SameBut a s.heap h' → TS0 P w h' a L' es' ep' t' → L'.Perm L → Q () { s with heap := h' }) : wpAny (model P w) A (setRelay a wanted) Q E s := by
  have hz := rows_size r
  have hm : M ≤ 127 := by rcases hM with e | e | e <;> omega
  have ft : t.fits es.size = true := by
    unfold SetTable.fits SetTable.fill
    rw [hdm, Bool.and_eq_true, beq_iff_eq, decide_eq_true_eq]
    show t.place.size = es.size ∧ t.place.size + 0 ≤ t.mask
    omega
  obtain ⟨t', order, e, hp, T, em, el, _, _⟩ := relaid_ok t (hs := es.map (·.1)) (wanted := wanted) hw hM (by rw [Array.size_map, hz]; omega)
  rw [Array.size_map, hz] at hp
  obtain ⟨L2, r1, r2, r3⟩ := pick_rows r hp
  rw [← r3] at T
  have z2 : (order.filterMap (es[·]?)).size = es.size := by rw [rows_size r1, r2.length_eq, hz]
  rw [setRelay_eq]
  refine wpAny_bind (wpAny_setState_of ho hd ft ?_)
  dsimp only
  refine wp_if_neg (by rw [sizeLine_eq]; omega) ?_
  try refine wpAny_bind (wpAny_pure ?_)
  rw [e]
  dsimp only
  refine wpAny_bind ?_
  refine wp_if_neg (by rw [z2]; simp) ?_
  try refine wpAny_bind (wpAny_pure ?_)
  refine wpAny_pure ?_
  dsimp only
  refine wpAny_storeSet_of ho hd ?_ (by rw [z2, hz, sizeLine_eq]; omega)
  exact hQ _ L2 (order.filterMap (es[·]?)) (ep + 1) t' (Heap.SameBut.update ..) ⟨⟨_, store_at ho hd, ⟨hex.1, hex.2.1, hex.2.2⟩, rfl⟩, r1, T, by rw [el]; exact ld, by rw [r2.length_eq, em]; exact hn⟩ r2
theorem size_at4 : SetTable.sizeAbove (SetTable.grown 5) = 32 := by decide +kernel
theorem size_at18 : SetTable.sizeAbove (SetTable.grown 19) = 128 := by decide +kernel
/-- adding -/
theorem tup_add (R : TS0 P w s.heap a L es ep t) (hL : ∀ p ∈ L, isK P w s.heap p.2 p.1) {x : Addr} {k : TKy} (hx : isK P w s.heap k x) (hu : A.units < cLine) (hfew : L.length + 1 < 64) {Q : Bool → Shared → Prop}
    (hQ : ∀ b h' L' es' ep' t', Heap.SameBut a s.heap h' → TS0 P w h' a L' es' ep' t' → (k ∈ L.map (·.2) → L' = L) → (k ∉ L.map (·.2) → L'.Perm ((x, k) :: L)) → Q b { s with heap := h' }) :
    wpAny (model P w) A (setAddHashed a (.ref x) (hK P w k)) Q E s := by
  obtain ⟨o, ho, hex, hd⟩ := R.ob
  have hz := rows_size R.rows
  have hroom := R.room
  unfold setAddHashed
  refine wpAny_holding ?_
  rw [show (100000 : Nat) = 99999 + 1 from rfl, setAddHashedIn_succ]
  refine wpAny_bind (wpAny_setState_of ho hd R.fits ?_)
  dsimp only
  refine wp_if_neg (by simp [byScan, Value.scannable]) ?_
  try refine wpAny_bind (wpAny_pure ?_)
  refine wpAny_bind (find_at R hL hx hu (fun hm => ?_) fun K hm hKn hb => ?_)
  · dsimp only
    exact wpAny_pure (hQ false s.heap L es ep t (Heap.SameBut.refl a s.heap) R (fun _ => rfl) fun z => absurd hm z)
  · dsimp only
    refine wpAny_bind (wpAny_setState_of ho hd R.fits ?_)
    dsimp only
    obtain ⟨q1, q2, q3, q4, q5, q6, q7, q8, q9⟩ := R.tab.put hKn hb
    generalize hj : way t.mask (hK P w k) K = j at q1 q2 q3 q4 q5 q6 q7 q8 q9 ⊢
    generalize hpt : t.put j = pt at q1 q3 q4 q5 q6 q7 q8 q9 ⊢
    obtain ⟨t1, p⟩ := pt
    dsimp only at q1 q3 q4 q5 q6 q7 q8 q9 ⊢
    subst q1
    -- the rest, whatever plain says
    have tail : ∀ t2 : SetTable, t2.mask = t1.mask → t2.place = t1.place → t2.dummies = t1.dummies → t2.led = t1.led →
        wpAny (model P w) A (do storeSet a (SetTable.insertAt es (SetTable.below t.place j) (hK P w k, Value.ref x)) t2
                                if (!false && t2.tooFull) = true then do { setRelay a (SetTable.grown (es.size + 1)); pure true } else pure true) Q E s := fun t2 m1 m2 m3 m4 => by
      have hin : (SetTable.insertAt es (SetTable.below t.place j) (hK P w k, Value.ref x)).toList = (L.take (SetTable.below t.place j) ++ (x, k) :: L.drop (SetTable.below t.place j)).map (rowT P w) := by
        rw [SetTable.toList_insertAt, R.rows, List.map_append, List.map_cons, List.map_take, List.map_drop]
      generalize SetTable.below t.place j = p at q2 q3 hin ⊢
      have pm := put_perm L p (x, k)
      have hlen : (L.take p ++ (x, k) :: L.drop p).length = L.length + 1 := pm.length_eq
      have hhs : (L.take p ++ (x, k) :: L.drop p).map (fun p => hK P w p.2) = (L.map fun p => hK P w p.2).take p ++ hK P w k :: (L.map fun p => hK P w p.2).drop p := by
        rw [List.map_append, List.map_cons, List.map_take, List.map_drop]
      rw [← hhs] at q3
      have T2 : TabOk t2 ((L.take p ++ (x, k) :: L.drop p).map fun p => hK P w p.2) := by
        obtain ⟨a1, a2, a3, a4, a5, a6⟩ := q3
        exact ⟨by rw [m2]; exact a1, by rw [m3]; exact a2, by rw [m2]; exact a3, by rw [m1]; exact a4, by rw [m1, m2]; exact a5, by rw [m1, m2]; exact a6⟩
      have q9' : t2.fill = L.length + 1 := by
        rw [List.length_map] at q9
        unfold SetTable.fill at q9 ⊢
        rw [m2, m3]; exact q9
      have hes := rows_size hin
      rw [hlen] at hes
      generalize SetTable.insertAt es p (hK P w k, Value.ref x) = es1 at hin hes ⊢
      generalize L.take p ++ (x, k) :: L.drop p = L1 at pm hlen T2 hin
      refine wpAny_bind (wpAny_storeSet_of ho hd ?_ (by rw [hes, sizeLine_eq]; omega))
      have sb : Heap.SameBut a s.heap (s.heap.update a (Obj.putSet es1 t2)) := Heap.SameBut.update ..
      have ho1 := store_at (es' := es1) (t' := t2) ho hd
      generalize s.heap.update a (Obj.putSet es1 t2) = h1 at sb ho1 ⊢
      have ld1 : w.params.followText "set-order" = true ∨ t2.led = true := by rw [m4, q5]; exact R.led
      have mq : t2.mask = t.mask := m1.trans q4
      by_cases hf : t2.tooFull = true
      · refine wp_if_pos (by simp [hf]) ?_
        have full : (L.length + 1) * 5 ≥ t2.mask * 3 := by
          have h := hf
          unfold SetTable.tooFull at h
          rwa [decide_eq_true_eq, q9'] at h
        rw [hz]
        have sz1 : t2.place.size = es1.size := by
          have h := T2.sz
          rw [List.length_map, hlen] at h
          rw [h, hes]
        have two : (t.mask = 7 ∧ L.length = 4) ∨ (t.mask = 31 ∧ L.length = 18) := by
          rw [mq] at full
          rcases R.tab.mok with e | e | e
          · left; rw [e] at full hroom; exact ⟨e, by omega⟩
          · right; rw [e] at full hroom; exact ⟨e, by omega⟩
          · exfalso; rw [e] at full; omega
        have go : ∀ M, SetTable.sizeAbove (SetTable.grown (L.length + 1)) - 1 = M → MaskOk M → SetTable.sizeAbove (SetTable.grown (L.length + 1)) ≤ 128 → (L.length + 1) * 5 < M * 3 →
            wpAny (model P w) A (setRelay a (SetTable.grown (L.length + 1)) >>= fun _ => pure true) Q E { s with heap := h1 } := fun M g1 g2 g3 g4 => by
          refine wpAny_bind (relay_t (s := { s with heap := h1 }) ho1 ⟨hex.1, hex.2.1, hex.2.2⟩ rfl hin sz1 T2.dm (by rw [hes, mq]; rcases two with ⟨e, e2⟩ | ⟨e, e2⟩ <;> omega) ld1 g1 g2 g3 (by rw [hlen]; exact g4) ?_)
          intro h2 L2 es2 ep2 t2 sb2 R2 pm2
          exact wpAny_pure (hQ true h2 L2 es2 ep2 t2 (sb.trans sb2) R2 (fun z => absurd z hm) fun _ => pm2.trans pm)
        rcases two with ⟨_, e2⟩ | ⟨_, e2⟩
        · exact go 31 (by rw [e2, size_at4]) (.inr (.inl rfl)) (by rw [e2, size_at4]; decide) (by omega)
        · exact go 127 (by rw [e2, size_at18]) (.inr (.inr rfl)) (by rw [e2, size_at18]; decide) (by omega)
      · refine wp_if_neg (by simp [hf]) ?_
        refine wpAny_pure (hQ true h1 L1 es1 (ep + 1) t2 sb ⟨⟨_, ho1, ⟨hex.1, hex.2.1, hex.2.2⟩, rfl⟩, hin, T2, ld1, ?_⟩ (fun z => absurd z hm) fun _ => pm)
        have h := hf
        unfold SetTable.tooFull at h
        rw [decide_eq_true_eq, q9'] at h
        rw [hlen]
        omega
    by_cases hpl : t1.plain = true
    · first
        | (refine wpAny_bind ?_; refine wp_if_pos hpl (hbv_tup hx fun c => ?_))
        | refine wp_if_pos hpl (wpAny_bind (hbv_tup hx fun c => ?_))
      cases c
      · simp only [Bool.false_eq_true, if_false]
        exact tail { t1 with plain := false } rfl rfl rfl rfl
      · simp only [if_true]
        exact tail t1 rfl rfl rfl rfl
    · first
        | (refine wpAny_bind ?_; refine wp_if_neg hpl (wpAny_pure ?_))
        | refine wp_if_neg hpl (wpAny_bind (wpAny_pure ?_))
      simp only [if_true]
      exact tail t1 rfl rfl rfl rfl
end
section
variable {P : Program} {w : World}
theorem TS0.keep {h h' : Heap} {a : Addr} {L : List (Addr × TKy)} {es : Array (Int × Value)} {ep : Nat} {t : SetTable} (R : TS0 P w h a L es ep t) (k : ∀ o, h.get? a = some o → h'.get? a = some o) : TS0 P w h' a L es ep t := by
  obtain ⟨o, ho, r⟩ := R.ob
  exact ⟨⟨o, k o ho, r⟩, R.rows, R.tab, R.led, R.room⟩
abbrev up (p : Addr × TKy) : Value × TKy := (.ref p.1, p.2)
theorem up_two (L : List (Addr × TKy)) : (L.map up).map (·.2) = L.map (·.2) := by rw [List.map_map]; rfl
/-- tuples of atoms -/
def flT (P : Program) (w : World) : Flav P w TKy where
  is := fun h k v => ∃ x, v = .ref x ∧ isK P w h k x
  St := fun h a L => ∃ L0 es ep t, L = L0.map up ∧ TS0 P w h a L0 es ep t
  room := fun A => A.units < cLine
  isK := fun ⟨x, e, o, items, n, ho, r⟩ k => ⟨x, e, o, items, n, k x o ho, r⟩
  stK := fun ⟨L0, es, ep, t, e, R⟩ k => ⟨L0, es, ep, t, e, R.keep k⟩
  new := fun ho => ⟨[], #[], 0, _, rfl, ⟨⟨_, ho, ⟨rfl, rfl, rfl⟩, rfl⟩, rfl, ⟨List.Pairwise.nil, rfl, rfl, .inl rfl, nofun, fun i h j hi => by simp at hi⟩, led_new w, by show 0 * 5 < 7 * 3; decide⟩⟩
  add := fun {A E s a L v k Q} hr hS hL hk hf h => by
    obtain ⟨L0, es, ep, t, rfl, R⟩ := hS
    obtain ⟨x, rfl, hx⟩ := hk
    rw [List.length_map] at hf
    have hL0 : ∀ p ∈ L0, isK P w s.heap p.2 p.1 := fun p hp => by
      obtain ⟨y, e, hy⟩ := hL (up p) (List.mem_map_of_mem hp)
      injection e with e
      rw [e]; exact hy
    unfold setAdd
    refine wpAny_holding (wpAny_bind (wpAny_pyHash_tuple hr hx ?_))
    refine tup_add (s := { s with toks := s.toks + (k.length + 1) }) R hL0 hx hr hf fun b h' L' es' ep' t' sb R' c1 c2 => ?_
    exact h b h' (L'.map up) _ (Nat.le_add_right _ _) sb ⟨L', es', ep', t', rfl, R'⟩ (fun z => by rw [c1 (by rw [up_two] at z; exact z)]) fun z => (c2 (by rw [up_two] at z; exact z)).map up
  out := fun {h a L} hS hl => by
    obtain ⟨L0, es, ep, t, rfl, R⟩ := hS
    obtain ⟨o, ho, hex, hd⟩ := R.ob
    rw [List.length_map] at hl
    have hz := rows_size R.rows
    refine ⟨es, ep, t, ⟨o, ho, hex.1, hd⟩, ?_, by unfold scanBound; omega, R.tab.ris, R.led, ?_⟩
    · have h1 := R.tab.sz
      have h3 := R.room
      rw [List.length_map] at h1
      unfold SetTable.fits SetTable.fill
      rw [R.tab.dm, Bool.and_eq_true, beq_iff_eq, decide_eq_true_eq]
      show t.place.size = es.size ∧ t.place.size + 0 ≤ t.mask
      omega
    · rw [R.rows, List.map_map, List.map_map]
      rfl
end
end K77
set_option maxHeartbeats 3200000
/-! sorted(set(xs)). -/
namespace K77
open PySem PySem.Spec PyProof.Rows L2
/-- the order of values that are keys k, by their data -/
noncomputable def softKind {κ : Type} (is : κ → Value → Prop) (enc : κ → PyData) (ks : List κ) : PyProof.Rows.KeyKind where
  toKeyOrd := PyProof.Rows.listOrd PyProof.Rows.itemOrd
  keyOf v := open Classical in if q : ∃ k, k ∈ ks ∧ is k v then some (PySem.W.keyToks (enc q.choose)) else none
  dflt := ([] : List (Int ⊕ List Nat))
section
variable {κ : Type} {is : κ → Value → Prop} {enc : κ → PyData} {ks : List κ} {v : Value}
theorem soft_some (one : ∀ k k' v, is k v → is k' v → k = k') {k : κ} (hk : k ∈ ks) (h : is k v) : (softKind is enc ks).keyOf v = some (PySem.W.keyToks (enc k)) := by
  have q : ∃ k, k ∈ ks ∧ is k v := ⟨k, hk, h⟩
  show (open Classical in if q : ∃ k, k ∈ ks ∧ is k v then some (PySem.W.keyToks (enc q.choose)) else none) = _
  rw [dif_pos q, one _ _ _ q.choose_spec.2 h]
theorem soft_inv {t : List (Int ⊕ List Nat)} (e : (softKind is enc ks).keyOf v = some t) : ∃ k, k ∈ ks ∧ is k v ∧ t = PySem.W.keyToks (enc k) := by
  change (open Classical in if q : ∃ k, k ∈ ks ∧ is k v then some (PySem.W.keyToks (enc q.choose)) else none) = _ at e
  by_cases q : ∃ k, k ∈ ks ∧ is k v
  · rw [dif_pos q] at e
    exact ⟨_, q.choose_spec.1, q.choose_spec.2, (Option.some.inj e).symm⟩
  · rw [dif_neg q] at e
    cases e
end
/-- a kind of elements whose values can be compared -/
structure Cmp {P : Program} {w : World} {κ : Type} (Y : Flav P w κ) (enc : κ → PyData) (cmp : κ → κ → Prop) : Prop where
  one : ∀ {h : Heap} (k k' : κ) (v : Value), Y.is h k v → Y.is h k' v → k = k'
  inj : ∀ k k', enc k = enc k' → k = k'
  srt : ∀ {A : Around} {s : Shared} {L : List (Value × κ)}, (∀ p ∈ L, Y.is s.heap p.2 p.1) → (∀ p ∈ L, ∀ q ∈ L, cmp p.2 q.2) →
    ∃ kd : SortKind, PyProof.Rows.H.LtAt P w A s (softKind (Y.is s.heap) enc (L.map (·.2))) kd ∧ (2 ≤ L.length → ∀ (E : Value → Shared → Prop) {Q : SortKind → Shared → Prop}, Q kd s → wpAny (model P w) A (keyKind' (L.map (·.1)).toArray) Q E s)
section
variable {P : Program} {w : World} {A : Around} {E : Value → Shared → Prop} {s : Shared} {κ : Type} {Y : Flav P w κ} {enc : κ → PyData} {cmp : κ → κ → Prop}
theorem each_self {α β : Type} {R : α → β → Prop} (f : β → α) : ∀ L : List β, (∀ p ∈ L, R (f p) p) → PySem.W.EachIs R (L.map f) L
  | [], _ => .nil
  | p :: L, h => .cons (h p List.mem_cons_self) (each_self f L fun q hq => h q (List.mem_cons_of_mem _ hq))
theorem each_eq {α β : Type} {f : β → α} {as : List α} {bs : List β} (h : PySem.W.EachIs (fun a b => a = f b) as bs) : as = bs.map f := by
  induction h with
  | nil => rfl
  | cons e _ ih => rw [List.map_cons, e, ih]
/-- sorted(x), x a thing that is collected into values of a kind -/
theorem sorted_gen (C : Cmp Y enc cmp) {v : Value} {L : List (Value × κ)} {Q : Value → Shared → Prop} (hL : ∀ p ∈ L, Y.is s.heap p.2 p.1) (h64 : L.length < 64) (hc : ∀ p ∈ L, ∀ q ∈ L, cmp p.2 q.2)
    (hcol : ∀ {Q : List Value → Shared → Prop} {E : Value → Shared → Prop}, (∀ (s1 : Shared) (L1 : List (Value × κ)), (∀ b o, s.heap.get? b = some o → s1.heap.get? b = some o) → s1.gens = s.gens → s1.os = s.os → L1.Perm L → Q (L1.map (·.1)) s1) → wpAny (model P w) A.in1 (collect v) Q E s)
    (hQ : ∀ (s1 s' : Shared) p (c : Nat) (L' : List (Value × κ)), (∀ b o, s.heap.get? b = some o → s1.heap.get? b = some o) → s1.gens = s.gens → s1.os = s.os → (∀ b o, s1.heap.get? b = some o → s'.heap.get? b = some o) → s'.gens = s1.gens → s'.os = s1.os → s1.heap.objs.size ≤ p →
      s'.heap.get? p = some (seqObj "list" (L'.map (·.1)).toArray c) → L'.Perm L → L'.Pairwise (fun p q => PySem.W.dataLt (enc q.2) (enc p.2) = false) → Q (.ref p) s') :
    wpAny (model P w) A (call (.builtin "sorted") [v]) Q E s := by
  refine Calls.call_function_entry kind_sorted plain_sorted entry_sorted (args_sorted1 _) ?_
  unfold Builtin.«sorted»
  refine wpAny_bind (m := checkCount "sorted" 1 1 _) (wpAny_pure ?_)
  refine wpAny_bind (hcol fun s1 L1 k1 g1 o1 p1 => ?_)
  have n64 : L1.length < 64 := by rw [p1.length_eq]; exact h64
  refine wpAny_bind (wpAny_newList ?_ (by rw [List.length_map, sizeLine_eq]; omega))
  generalize hh1 : s1.heap.push (seqObj "list" (L1.map (·.1)).toArray 0) = h1
  have hoL : h1.get? s1.heap.objs.size = some (seqObj "list" (L1.map (·.1)).toArray 0) := by rw [← hh1]; exact Heap.get?_push_size _ rfl
  have k2 : ∀ b o, s1.heap.get? b = some o → h1.get? b = some o := fun b o e => by rw [← hh1]; exact Heap.get?_push_of_some _ e
  have z1 : h1.objs.size = s1.heap.objs.size + 1 := by rw [← hh1, size_push']
  generalize hsh : PySem.W.sortingHeap h1 s1.heap.objs.size (L1.map (·.1)) = hS
  have kk : ∀ b o, s.heap.get? b = some o → hS.get? b = some o := fun b o e => by
    rw [← hsh]
    exact PySem.W.sortingHeap_old (Nat.ne_of_lt (Heap.lt_size (k1 b o e))) (k2 _ _ (k1 b o e))
  obtain ⟨kd, lt, kn⟩ := C.srt (A := A.in1.in1) (s := { s1 with heap := hS }) (L := L1) (fun p hp => Y.isK (hL p (p1.mem_iff.mp hp)) kk) (fun p hp q hq => hc p (p1.mem_iff.mp hp) q (p1.mem_iff.mp hq))
  have ke : ∀ p ∈ L1, (softKind (Y.is hS) enc (L1.map (·.2))).keyOf p.1 = some (PySem.W.keyToks (enc p.2)) := fun p hp =>
    soft_some (fun k k' v => C.one k k' v) (List.mem_map_of_mem hp) (Y.isK (hL p (p1.mem_iff.mp hp)) kk)
  refine wpAny_bind (wpAny_holding (wpAny_call_entry slot_list_sort ⟨_, hoL, rfl⟩ entry_list_sort (PySem.W.list_sort_vals (s := { s1 with heap := h1 }) (κ := softKind (Y.is hS) enc (L1.map (·.2))) hoL ⟨fun v hv => ?_, kd, by rw [hsh]; exact lt, fun h2 E Q q => by rw [hsh]; exact kn (by rwa [List.length_map] at h2) E (by rw [← hsh]; exact q)⟩ (by rw [List.length_map, sizeLine_eq]; omega) ⟨_, rfl, ?_⟩) (args_list_sort _)))
  · obtain ⟨p, hp, rfl⟩ := List.mem_map.mp hv
    exact ⟨_, ke p hp⟩
  have srt := PySem.W.sortVals_each (κ := softKind (Y.is hS) enc (L1.map (·.2))) (rev := false) (fun p : Value × κ => PySem.W.keyToks (enc p.2)) (each_self (R := fun v p => v = p.1) (·.1) L1 fun p _ => rfl) (each_self (R := fun v p => (softKind (Y.is hS) enc (L1.map (·.2))).keyOf v = some (PySem.W.keyToks (enc p.2))) (·.1) L1 ke)
  have eo := each_eq srt
  generalize hL' : L1.mergeSort (PySem.W.sortLe (softKind (Y.is hS) enc (L1.map (·.2))).toKeyOrd false (fun p : Value × κ => PySem.W.keyToks (enc p.2))) = L' at eo
  have pw := PySem.W.sort_pairwise (PySem.W.sortLe_total (PyProof.Rows.listOrd PyProof.Rows.itemOrd) false fun p : Value × κ => PySem.W.keyToks (enc p.2)) L1
  have hL2 : L1.mergeSort (PySem.W.sortLe (PyProof.Rows.listOrd PyProof.Rows.itemOrd) false fun p : Value × κ => PySem.W.keyToks (enc p.2)) = L' := hL'
  rw [hL2] at pw
  have pp : L'.Perm L1 := by rw [← hL2]; exact List.mergeSort_perm _ _
  rw [eo]
  obtain ⟨c, hc'⟩ := sortedHeap_at (vs := L1.map (·.1)) (out := (L'.map (·.1)).toArray) hoL
  refine wpAny_pure ⟨_, rfl, hQ s1 _ s1.heap.objs.size c L' k1 g1 o1 (fun b u q => ?_) rfl rfl (Nat.le_refl _) hc' (pp.trans p1) (pw.imp fun {p q} hpq => ?_)⟩
  · have hlt := Heap.lt_size q
    show (sortedHeap h1 s1.heap.objs.size _ _).get? b = some u
    rw [sortedHeap_old (Nat.ne_of_lt hlt) (by rw [z1]; exact Nat.lt_succ_of_lt hlt)]
    exact k2 _ _ q
  · have e : (!PySem.W.dataLt (enc q.2) (enc p.2)) = true := hpq
    simpa using e
/-- sorted(a set) -/
theorem sorted_fl (C : Cmp Y enc cmp) {a : Addr} {L : List (Value × κ)} {Q : Value → Shared → Prop} (R : Y.St s.heap a L) (hL : ∀ p ∈ L, Y.is s.heap p.2 p.1) (h64 : L.length < 64) (hc : ∀ p ∈ L, ∀ q ∈ L, cmp p.2 q.2) (hh : A.handled = none)
    (hQ : ∀ (s1 s' : Shared) p (c : Nat) (L' : List (Value × κ)), (∀ b o, s.heap.get? b = some o → s1.heap.get? b = some o) → s1.gens = s.gens → s1.os = s.os → (∀ b o, s1.heap.get? b = some o → s'.heap.get? b = some o) → s'.gens = s1.gens → s'.os = s1.os → s1.heap.objs.size ≤ p →
      s'.heap.get? p = some (seqObj "list" (L'.map (·.1)).toArray c) → L'.Perm L → L'.Pairwise (fun p q => PySem.W.dataLt (enc q.2) (enc p.2) = false) → Q (.ref p) s') :
    wpAny (model P w) A (call (.builtin "sorted") [.ref a]) Q E s := by
  obtain ⟨es, ep, t, sa, ft, sb, ri, ld, em⟩ := Y.out R h64
  refine sorted_gen C hL h64 hc (fun {Q E} q => collect_set (A := A.in1) hh sa ft sb ri ld fun s1 vs k1 hz g1 o1 pm => ?_) hQ
  rw [em] at pm
  obtain ⟨L1, rfl, p1⟩ := perm_back (·.1) pm L rfl
  exact q s1 L1 k1 g1 o1 p1
end
/-! ### the two kinds -/
def encK : Key → PyData
  | .inl i => .int i
  | .inr x => .str x
abbrev encT (k : TKy) : PyData := .tuple (k.map encK)
theorem encK_inj : ∀ k k' : Key, encK k = encK k' → k = k'
  | .inl i, .inl j, h => by injection h with h; rw [h]
  | .inr i, .inr j, h => by injection h with h; rw [h]
  | .inl _, .inr _, h => nomatch h
  | .inr _, .inl _, h => nomatch h
theorem encT_inj (k k' : TKy) (h : encT k = encT k') : k = k' := by
  injection h with h
  exact (List.map_inj_right fun a b => encK_inj a b).mp h
def sgn : Key → Bool
  | .inl _ => false
  | .inr _ => true
def tyK : Bool → Value
  | false => .type "int"
  | true => .type "str"
theorem looks_key {M : Model} {h : Heap} {k : Key} {v : Value} (e : keyIs k v = true) : PySem.W.Looks M h (typeOf v) (tyK (sgn k)) := by
  rcases keyIs_shape e with ⟨i, t, rfl, rfl⟩ | ⟨x, t, rfl, rfl⟩
  · exact PySem.W.Looks.of_pure rfl
  · exact PySem.W.Looks.of_pure rfl
section
variable {P : Program} {w : World} {A : Around} {E : Value → Shared → Prop} {s : Shared}
theorem oneLt_key {f : Bool} {j k : Key} {u v : Value} {Q : Bool → Shared → Prop} (hj : keyIs j u = true) (hk : keyIs k v = true) (e : sgn j = sgn k) (h : Q (PySem.W.dataLt (encK j) (encK k)) s) : wpAny (model P w) A (oneLt' f u v) Q E s := by
  rcases keyIs_shape hj with ⟨i, t, rfl, rfl⟩ | ⟨x, t, rfl, rfl⟩ <;> rcases keyIs_shape hk with ⟨i', t', rfl, rfl⟩ | ⟨x', t', rfl, rfl⟩
  · refine PyProof.Rows.oneLt_any_int ?_
    rw [← PySem.W.dataLt_int]; exact h
  · cases e
  · cases e
  · refine PyProof.Rows.oneLt_any_str ?_
    rw [← PySem.W.dataLt_str]; exact h
def cmpA (a b : Key) : Prop := sgn a = sgn b
theorem cmp_atoms : Cmp (flA P w) encK cmpA where
  one := fun k k' v h1 h2 => (mixKind P w).inj v k k' h1 h2
  inj := encK_inj
  srt := fun {A s L} hL hc => by
    refine ⟨oneType', fun E x y a b Q ha hb hq => ?_, fun h2 E Q hq => ?_⟩
    · obtain ⟨j, hj, ij, rfl⟩ := soft_inv ha
      obtain ⟨k, hk, ik, rfl⟩ := soft_inv hb
      obtain ⟨p, hp, rfl⟩ := List.mem_map.mp hj
      obtain ⟨q, hq', rfl⟩ := List.mem_map.mp hk
      rw [keyLt'_oneType]
      exact oneLt_key ij ik (hc p hp q hq') hq
    · obtain ⟨p0, hp0⟩ : ∃ p, p ∈ L := List.exists_mem_of_length_pos (by omega)
      refine PySem.W.kas_kind (T := tyK (sgn p0.2)) (by rw [List.length_map]; exact h2) (fun v hv => ?_) (by cases sgn p0.2 <;> decide) (by cases sgn p0.2 <;> decide) hq
      obtain ⟨p, hp, rfl⟩ := List.mem_map.mp hv
      rw [← (show sgn p.2 = sgn p0.2 from hc p hp p0 hp0)]
      exact looks_key (hL p hp)
/-- comparable place by place, up to the first that differs -/
def soft : TKy → TKy → Prop
  | a :: as, b :: bs => sgn a = sgn b ∧ (a = b → soft as bs)
  | _, _ => True
def cmpT (a b : TKy) : Prop := a ≠ [] ∧ b ≠ [] ∧ soft a b
theorem alike_key {a b : Key} (h : sgn a = sgn b) : PySem.W.alike (encK a) (encK b) = true := by
  cases a <;> cases b <;> first | rfl | cases h
theorem eqv_key (a b : Key) : PyData.eqv (encK a) (encK b) = decide (a = b) := by
  cases a <;> cases b <;> simp only [encK, PyData.eqv] <;> exact Bool.eq_iff_iff.mpr (by simp)
theorem soft_lex {b fin : Bool} {Q : Bool → Shared → Prop} : ∀ (j k : TKy) (i : Nat) (us vs : List Value), ItemsAre (mixKind P w) j us → ItemsAre (mixKind P w) k vs → soft j k → fin = decide (j.length < k.length) →
    Q (PyProof.Rows.lexLt PyProof.Rows.itemOrd (PySem.W.keyToksAll (j.map encK)) (PySem.W.keyToksAll (k.map encK))) s → PySem.W.KatLex P w A b fin Q (us.zip vs) i s
  | [], [], i, _, _, hj, hk, _, hf, h => by
    cases hj; cases hk
    have e : fin = false := by rw [hf]; rfl
    subst e
    rw [PyProof.Rows.lex_irrefl] at h
    exact PySem.W.kat_nil h
  | [], y :: ys, i, _, _, hj, hk, _, hf, h => by
    cases hj
    have e : fin = true := by rw [hf]; exact decide_eq_true (Nat.succ_pos _)
    subst e
    rw [List.map_cons, PySem.W.toks_all_cons] at h
    simp only [List.map_nil, PySem.W.keyToksAll] at h
    rw [PyProof.Rows.lex_diff (O := PyProof.Rows.itemOrd) (by simp)] at h
    rw [List.zip_nil_left]
    exact PySem.W.kat_nil (by simpa [PyProof.Rows.itemLt] using h)
  | x :: xs, [], i, _, _, hj, hk, _, hf, h => by
    cases hk
    have e : fin = false := by rw [hf]; exact decide_eq_false (Nat.not_lt_zero _)
    subst e
    rw [List.map_cons, PySem.W.toks_all_cons] at h
    simp only [List.map_nil, PySem.W.keyToksAll] at h
    rw [PyProof.Rows.lex_diff (O := PyProof.Rows.itemOrd) (by simp)] at h
    rw [List.zip_nil_right]
    exact PySem.W.kat_nil (by simpa [PyProof.Rows.itemLt] using h)
  | x :: xs, y :: ys, i, _, _, hj, hk, hs, hf, h => by
    have hf' : fin = decide (xs.length < ys.length) := by
      rw [hf]
      simp only [List.length_cons, Nat.add_lt_add_iff_right]
    cases hj with
    | cons h1 t1 =>
      cases hk with
      | cons h2 t2 =>
        rw [List.zip_cons_cons]
        refine PySem.W.kat_cons ((mixKind P w).eqBool h1 h2 ?_)
        rw [List.map_cons, List.map_cons] at h
        by_cases e : x = y
        · rw [decide_eq_true e]
          rw [PySem.W.dataLt_all_yes (alike_key hs.1) (by rw [eqv_key]; exact decide_eq_true e)] at h
          exact PySem.W.kat_yes (soft_lex xs ys (i + 1) _ _ t1 t2 (hs.2 e) hf' h)
        · rw [decide_eq_false e]
          rw [PySem.W.dataLt_all_no (alike_key hs.1) (by rw [eqv_key]; exact decide_eq_false e)] at h
          exact PySem.W.kat_no (oneLt_key h1 h2 hs.1 h)
theorem kat_tups {h : Heap} : ∀ L : List (Value × TKy), (∀ p ∈ L, (flT P w).is h p.2 p.1) → (∀ p ∈ L, p.2 ≠ []) → ∃ fs, PySem.W.KatTups h (L.map (·.1)) fs ∧ fs.length = L.length ∧ ∀ f ∈ fs, ∃ p ∈ L, ∃ a r, p.2 = a :: r ∧ keyIs a f = true
  | [], _, _ => ⟨[], PySem.W.KatTups.nil, rfl, nofun⟩
  | p :: L, hL, hn => by
    obtain ⟨fs, h1, h2, h3⟩ := kat_tups L (fun q hq => hL q (List.mem_cons_of_mem _ hq)) fun q hq => hn q (List.mem_cons_of_mem _ hq)
    obtain ⟨x, e, o, items, n, ho, hc, hd, hi⟩ := hL p List.mem_cons_self
    obtain ⟨v, k⟩ := p
    dsimp only at e hi
    cases k with
    | nil => exact absurd rfl (hn _ List.mem_cons_self)
    | cons a r =>
      cases q : items.toList with
      | nil => rw [q] at hi; cases hi
      | cons f fr =>
        rw [q] at hi
        cases hi with
        | cons g1 g2 =>
          have hf : items[0]? = some f := by rw [← Array.getElem?_toList, q]; rfl
          refine ⟨f :: fs, by rw [List.map_cons, e]; exact PySem.W.KatTups.cons ho hc hd hf h1, by rw [List.length_cons, List.length_cons, h2], fun g hg => ?_⟩
          rcases List.mem_cons.mp hg with z | z
          · exact ⟨_, List.mem_cons_self, a, r, rfl, z ▸ g1⟩
          · obtain ⟨p', hp', r'⟩ := h3 g z
            exact ⟨p', List.mem_cons_of_mem _ hp', r'⟩
theorem cmp_tups : Cmp (flT P w) encT cmpT where
  one := fun k k' v ⟨x, e, hx⟩ ⟨y, e', hy⟩ => by
    rw [e] at e'
    injection e' with e'
    subst e'
    exact hx.inj hy
  inj := encT_inj
  srt := fun {A s L} hL hc => by
    by_cases h0 : L = []
    · subst h0
      exact ⟨general', fun E x y a b Q ha _ _ => (by
        obtain ⟨j, hj, _⟩ := soft_inv ha
        exact absurd hj (by simp)), fun h2 => absurd h2 (by simp)⟩
    · obtain ⟨p0, hp0⟩ := List.exists_mem_of_ne_nil L h0
      obtain ⟨a0, r0, e0⟩ := List.exists_cons_of_ne_nil (hc p0 hp0 p0 hp0).1
      refine ⟨tuples' (tyK (sgn a0) != Value.type "tuple"), fun E x y a b Q ha hb hq => ?_, fun h2 E Q hq => ?_⟩
      · obtain ⟨j, hj, ⟨u, eu, oj, vj, nj, gj, cj, dj, ij⟩, rfl⟩ := soft_inv ha
        obtain ⟨k, hk, ⟨v, ev, ok, vk, nk, gk, ck, dk, ik⟩, rfl⟩ := soft_inv hb
        obtain ⟨p, hp, rfl⟩ := List.mem_map.mp hj
        obtain ⟨q, hq', rfl⟩ := List.mem_map.mp hk
        subst eu ev
        have hq2 : Q (PySem.W.dataLt (encT p.2) (encT q.2)) s := hq
        rw [PySem.W.dataLt_tuple] at hq2
        have lj := ij.length
        have lk := ik.length
        rw [Array.length_toList] at lj lk
        exact PySem.W.kat_lt gj dj gk dk (soft_lex p.2 q.2 0 _ _ ij ik (hc p hp q hq').2.2 (by rw [lj, lk]) hq2)
      · obtain ⟨fs, t1, t2, t3⟩ := kat_tups (P := P) (w := w) L hL fun p hp => (hc p hp p hp).1
        refine PySem.W.kat_kind (T := tyK (sgn a0)) t1 (by omega) (fun f hf => ?_) (by cases sgn a0 <;> decide) hq
        obtain ⟨p, hp, a, r, e, ha⟩ := t3 f hf
        have c := (hc p hp p0 hp0).2.2
        rw [e, e0] at c
        rw [← c.1]
        exact looks_key ha
end
/-! ### the rule -/
def bk : Value → V
  | .int i _ => .int i
  | .str x _ => .str x
  | .ref a => .ref a
  | _ => .non
theorem vals_self : ∀ {us : List Value}, (∀ u ∈ us, RelV (bk u) u) → Vals (us.map bk) us
  | [], _ => .nil
  | u :: us, h => .cons (h u List.mem_cons_self) (vals_self fun v hv => h v (List.mem_cons_of_mem _ hv))
section
variable {X : Cx} {pins : List (Addr × Obj)} {σ : L2.St} {H : Hp} {s : Shared}
theorem zip_up {κ : Type} {enc : κ → PyData} {K : PySem.W.Frag} (hb : ∀ k v u, Dt K H v (enc k) → RelV v u → RelV (bk u) u ∧ Dt K H (bk u) (enc k)) : ∀ {xs : List V} {us : List Value} {ks : List κ}, Dts K H xs (ks.map enc) → Vals xs us →
    ∃ L : List (Value × κ), us = L.map (·.1) ∧ ks = L.map (·.2) ∧ ∀ p ∈ L, RelV (bk p.1) p.1 ∧ Dt K H (bk p.1) (enc p.2)
  | [], _, [], _, .nil => ⟨[], rfl, rfl, nofun⟩
  | v :: xs, u :: us, k :: ks, .cons h t, .cons r rs => by
    obtain ⟨L, e1, e2, h3⟩ := zip_up hb t rs
    refine ⟨(u, k) :: L, by rw [List.map_cons, ← e1], by rw [List.map_cons, ← e2], fun p hp => ?_⟩
    rcases List.mem_cons.mp hp with z | z
    · rw [z]; exact hb k v u h r
    · exact h3 p z
theorem bk_atom (k : Key) (v : V) (u : Value) (h : Dt X.K H v (encK k)) (r : RelV v u) : RelV (bk u) u ∧ Dt X.K H (bk u) (encK k) := by
  cases k with
  | inl i =>
    rw [show v = .int i from h.intV] at r h
    obtain ⟨t, rfl⟩ := r
    exact ⟨⟨t, rfl⟩, h⟩
  | inr x =>
    rw [show v = .str x from h.strV] at r h
    obtain ⟨t, rfl⟩ := r
    exact ⟨⟨t, rfl⟩, h⟩
theorem bk_tup (k : TKy) (v : V) (u : Value) (h : Dt X.K H v (encT k)) (r : RelV v u) : RelV (bk u) u ∧ Dt X.K H (bk u) (encT k) := by
  obtain ⟨a, xs, rfl, hs, hx⟩ := h.tupV
  obtain rfl : u = .ref a := r
  exact ⟨rfl, .tup hs hx⟩
theorem is_atom {k : Key} {u : Value} (h : Dt X.K H (bk u) (encK k)) (r : RelV (bk u) u) : (flA X.prog X.w).is s.heap k u := by
  have e : bk u = kV k := by
    cases k with
    | inl i => exact h.intV
    | inr x => exact h.strV
  rw [e] at r
  exact kV_is r
theorem items_key {K : PySem.W.Frag} {P : Program} {w : World} : ∀ {k : TKy} {xs : List V} {us : List Value}, Dts K H xs (k.map encK) → Vals xs us → ItemsAre (mixKind P w) k us
  | [], [], _, .nil, .nil => .nil
  | j :: k, x :: xs, u :: us, .cons h t, .cons r rs => by
    have e : x = kV j := by
      cases j with
      | inl i => exact h.intV
      | inr z => exact h.strV
    rw [e] at r
    exact .cons (kV_is r) (items_key t rs)
theorem is_tup (I : Inv X pins σ H s) {k : TKy} {u : Value} (h : Dt X.K H (bk u) (encT k)) (r : RelV (bk u) u) : (flT X.prog X.w).is s.heap k u := by
  obtain ⟨a, xs, e, hs, hx⟩ := h.tupV
  rw [e] at r
  obtain rfl : u = .ref a := r
  obtain ⟨its, rv, ⟨o, ho, hc, n, hd⟩, _⟩ := I.tuple hs
  exact ⟨a, rfl, o, its.toArray, n, ho, hc, hd, by simpa using items_key hx rv⟩
theorem inv_kept {s1 : Shared} (I : Inv X pins σ H s) (k : ∀ b o, s.heap.get? b = some o → s1.heap.get? b = some o) (gs : s1.gens = s.gens) (os : s1.os = s.os) : Inv X pins σ H s1 := by
  have J : Inv X pins σ H { s with heap := s1.heap, gens := s1.gens, drawn := s1.drawn, toks := s1.toks } := I.call (ch := []) (Un.kept k) (I.hok.kept k) (by rw [gs]; exact I.bare) (fun _ z => nomatch z)
  have e : s1 = { s with heap := s1.heap, gens := s1.gens, drawn := s1.drawn, toks := s1.toks } := by
    cases s1
    cases s
    cases os
    rfl
  rw [e]
  exact J
/-- the new list, tracked -/
theorem srt_fin {κ : Type} {enc : κ → PyData} {Q : VK} (I : Inv X pins σ H s) {L L' : List (Value × κ)} {s1 s' : Shared} {p : Addr} {c : Nat} (hL0 : ∀ p ∈ L, RelV (bk p.1) p.1 ∧ Dt X.K H (bk p.1) (enc p.2)) (sub : ∀ p ∈ L', p ∈ L) (hlen : L'.length ≤ sizeLine)
    (k0 : ∀ b o, s.heap.get? b = some o → s1.heap.get? b = some o) (gs0 : s1.gens = s.gens) (os0 : s1.os = s.os) (k3 : ∀ b o, s1.heap.get? b = some o → s'.heap.get? b = some o) (gs : s'.gens = s1.gens) (os : s'.os = s1.os) (hsz : s1.heap.objs.size ≤ p) (hg : s'.heap.get? p = some (seqObj "list" (L'.map (·.1)).toArray c))
    (q : ∀ ys, H p = none → Dts X.K H ys (L'.map fun p => enc p.2) → Q (.ref p) (upd H p (.lst ys))) : ∃ x H', Inv X pins σ H' s' ∧ RelV x (.ref p) ∧ Q x H' := by
  replace I : Inv X pins σ H s1 := inv_kept I k0 gs0 os0
  have hn : H p = none := I.hok.fresh hsz
  have hV : Vals ((L'.map (·.1)).map bk) (L'.map (·.1)) := vals_self fun u hu => by
    obtain ⟨z, hz', rfl⟩ := List.mem_map.mp hu
    exact (hL0 z (sub z hz')).1
  have hl2 : ((L'.map (·.1)).map bk).length ≤ sizeLine := by rw [List.length_map, List.length_map]; exact hlen
  have J : Inv X pins σ (upd H p (.lst ((L'.map (·.1)).map bk))) { s1 with heap := s'.heap, gens := s'.gens, drawn := s'.drawn, toks := s'.toks } :=
    I.call (ch := []) (Un.laid k3 hsz hn) (I.hok.laid k3 hsz ⟨hl2, L'.map (·.1), c, hV, hg⟩) (by rw [show s'.gens = s1.gens from gs]; exact I.bare) (fun _ z => nomatch z)
  have e : s' = { s1 with heap := s'.heap, gens := s'.gens, drawn := s'.drawn, toks := s'.toks } := by
    cases s'
    cases s1
    cases os
    rfl
  rw [e]
  have dd : ∀ M : List (Value × κ), (∀ p ∈ M, p ∈ L) → Dts X.K H ((M.map (·.1)).map bk) (M.map fun p => enc p.2) := by
    intro M
    induction M with
    | nil => intro _; exact .nil
    | cons x M ih => intro hM; exact .cons (hL0 x (hM x List.mem_cons_self)).2 (ih fun z hz => hM z (List.mem_cons_of_mem _ hz))
  exact ⟨.ref p, _, J, rfl, q _ hn (dd L' sub)⟩
/-- what sorted(set(xs)) leaves of the data ds -/
def SetOut (K : PySem.W.Frag) (H : Hp) (ds : List PyData) (Q : VK) : Prop := ∀ p ys es, H p = none → es.Nodup → (∀ d, d ∈ es ↔ d ∈ ds) → es.Pairwise (fun x y => PySem.W.dataLt y x = false) → es.length ≤ ds.length → Dts K H ys es → Q (.ref p) (upd H p (.lst ys))
def SetIn (ds : List PyData) : Prop := (∃ ks : List Key, ds = ks.map encK ∧ ∀ j ∈ ks, ∀ k ∈ ks, cmpA j k) ∨ (∃ ks : List TKy, ds = ks.map encT ∧ ∀ j ∈ ks, ∀ k ∈ ks, cmpT j k)
def tSS (K : PySem.W.Frag) (ta : TE) : TE := fun σ H Q => ta σ H fun x H1 => ∃ l xs ds, x = .ref l ∧ SqL K H1 l xs ∧ Dts K H1 xs ds ∧ ds.length < 64 ∧ SetIn ds ∧ SetOut K H1 ds Q
theorem ss_run {κ : Type} {Y : Flav X.prog X.w κ} {enc : κ → PyData} {cmp : κ → κ → Prop} (C : Cmp Y enc cmp) (hc : X.calm = true) (hr : Y.room X.A.in1.in1.in1) (I : Inv X pins σ H s)
    (hb : ∀ k v u, Dt X.K H v (enc k) → RelV v u → RelV (bk u) u ∧ Dt X.K H (bk u) (enc k)) (hi : ∀ k u, Dt X.K H (bk u) (enc k) → RelV (bk u) u → Y.is s.heap k u)
    {l : Addr} {xs : List V} {ks : List κ} (hl : SqL X.K H l xs) (hd : Dts X.K H xs (ks.map enc)) (hf : ks.length < 64) (hcm : ∀ j ∈ ks, ∀ k ∈ ks, cmp j k) {Q : VK} (q : SetOut X.K H (ks.map enc) Q) (E : Value → Shared → Prop) :
    wpAny (model X.prog X.w) X.A (call (.type "set") [.ref l]) (fun v s1 => wpAny (model X.prog X.w) X.A (call (.builtin "sorted") [v]) (fun v s' => ∃ x H', Inv X pins σ H' s' ∧ RelV x v ∧ Q x H') E s1) E s := by
  obtain ⟨its, rv, pl, hz⟩ := I.list hl
  obtain ⟨L0, rfl, rfl, hL0⟩ := zip_up hb hd rv
  rw [List.length_map] at hf
  refine call_set_fl Y L0 (I.ok.hd hc) pl.isList (by simp) (fun p hp => hi _ _ (hL0 p hp).2 (hL0 p hp).1) hf hr fun h' tk L hS g k => ?_
  have sub : ∀ p ∈ L, p ∈ L0 := fun p hp => List.mem_of_mem_take (g.sub p hp)
  have hLn : L.length < 64 := Nat.lt_of_le_of_lt g.len hf
  refine sorted_fl C (s := { s with heap := h', toks := tk }) hS (fun p hp => Y.isK (hi _ _ (hL0 p (sub p hp)).2 (hL0 p (sub p hp)).1) k) hLn (fun p hp r hr => hcm _ (List.mem_map_of_mem (sub p hp)) _ (List.mem_map_of_mem (sub r hr))) (I.ok.hd hc) fun s1 s' p c L' k0 gs0 os0 k2 gs os hp hg pm pw => ?_
  refine srt_fin (s := { s with heap := h', toks := tk }) (I.kept k) hL0 (fun z hz => sub z (pm.mem_iff.mp hz)) (by rw [pm.length_eq, sizeLine_eq]; omega) k0 gs0 os0 k2 gs os hp hg fun ys hn hys => q p ys _ hn ?_ (fun d => ?_) ?_ ?_ hys
  · have n2 : (L'.map (·.2)).Nodup := (pm.map (·.2)).nodup_iff.mpr g.nd
    have := List.Pairwise.map (S := fun x y => x ≠ y) enc (fun a b (h : a ≠ b) he => h (C.inj a b he)) n2
    rw [List.map_map] at this
    exact this
  · rw [List.mem_map, List.map_map, List.mem_map]
    constructor
    · rintro ⟨z, hz', e⟩
      exact ⟨z, sub z (pm.mem_iff.mp hz'), e⟩
    · rintro ⟨z, hz', e⟩
      obtain ⟨z2, h2, e2⟩ := List.mem_map.mp (g.all z (by rw [List.take_length]; exact hz'))
      exact ⟨z2, pm.mem_iff.mpr h2, by rw [show z2.2 = z.2 from e2]; exact e⟩
  · rw [List.pairwise_map]
    exact pw
  · rw [List.length_map, List.length_map, List.length_map, pm.length_eq]
    exact g.len
theorem pe_sortedSet {a : Expr} {ta : TE} {p p2 q pos : Pos} (hc : X.calm = true) (hu : X.A.units + 64 < cLine) (hg : Gl X "sorted") (hm : X.mg "sorted" = none) (hg2 : Gl X "set") (hm2 : X.mg "set" = none) (ha : PE X a ta)
    (na : starEach [a] X.env = (false, eval a X.env) :: starEach [] X.env := by rfl) : PE X (.Call (.Name "sorted" p) [.Call (.Name "set" p2) [a] [] q] [] pos) (tSS X.K ta) := by
  refine ⟨fun pins s σ H Q I h => ?_⟩
  refine Call_ (ld_blt I hg hm PyProof.Rows.boot_sorted ?_)
  refine PyProof.Rows.callWith_builtin1 (PyProof.Rows.args_cons ?_ rfl) rfl rfl
  refine Call_ (ld_blt I hg2 hm2 PyProof.Rows.boot_set ?_)
  refine PyProof.Rows.callWith_type1 (PyProof.Rows.args_cons (thn (ha.run pins s σ H _ I h) fun v s1 ⟨x, H1, I1, r1, q1⟩ => PyProof.Rows.args_nil ?_) na) na rfl
  obtain ⟨l, xs, ds, rfl, hl, hd, hf, hin, q1⟩ := q1
  cases r1
  have fin : ∀ E, wpAny (model X.prog X.w) X.A (call (.type "set") [.ref l]) (fun v s1 => wpAny (model X.prog X.w) X.A (call (.builtin "sorted") [v]) (fun v s' => ∃ x H', Inv X pins σ H' s' ∧ RelV x v ∧ Q x H') E s1) E s1 := fun E => by
    rcases hin with ⟨ks, rfl, hcm⟩ | ⟨ks, rfl, hcm⟩
    · rw [List.length_map] at hf
      exact ss_run cmp_atoms hc trivial I1 bk_atom (fun k u h r => is_atom h r) hl hd hf hcm q1 E
    · rw [List.length_map] at hf
      exact ss_run cmp_tups hc (by show X.A.units + 3 < cLine; omega) I1 bk_tup (fun k u h r => is_tup I1 h r) hl hd hf hcm q1 E
  exact wpAny_mono (fin _) (fun v s' h => PyProof.Rows.args_nil h) fun _ _ e => e
end
end K77
set_option maxHeartbeats 3200000
/-! sorted of a list, a tuple, a dict with tuple keys; min of data; list.remove of a text; in a tuple of data; enumerate of a tuple; d[k] = v as a target; a call without arguments. -/
namespace K77
open PySem PySem.Spec PyProof.Rows L2 Evl
theorem vals_at : ∀ {xs : List V} {us : List Value} {i : Nat} {u : Value}, Vals xs us → us[i]? = some u → ∃ x, xs[i]? = some x ∧ RelV x u
  | _, _, _, _, .nil, e => by simp at e
  | x :: _, _, 0, _, .cons r _, e => by simp at e; subst e; exact ⟨x, rfl, r⟩
  | _ :: xs, _ :: us, i + 1, u, .cons _ t, e => by
    obtain ⟨x, h1, h2⟩ := vals_at (i := i) (u := u) t (by simpa using e)
    exact ⟨x, by simpa using h1, h2⟩
section
variable {X : Cx}
/-! ### sorted -/
def SrtOut (K : PySem.W.Frag) (H : Hp) (ds : List PyData) (Q : VK) : Prop := ∀ p ys es, H p = none → es.Perm ds → es.Pairwise (fun x y => PySem.W.dataLt y x = false) → Dts K H ys es → Q (.ref p) (upd H p (.lst ys))
def rSrt (K : PySem.W.Frag) : List V → Hp → VK → Prop := fun vs H Q => ∃ a xs ds, vs = [.ref a] ∧ (SqL K H a xs ∨ SqT K H a xs) ∧ Dts K H xs ds ∧ ds.length < 64 ∧ SetIn ds ∧ SrtOut K H ds Q
theorem srt_seq {κ : Type} {Y : Flav X.prog X.w κ} {enc : κ → PyData} {cmp : κ → κ → Prop} (C : Cmp Y enc cmp) {pins : List (Addr × Obj)} {σ : L2.St} {H : Hp} {s : Shared} (I : Inv X pins σ H s)
    (hb : ∀ k v u, Dt X.K H v (enc k) → RelV v u → RelV (bk u) u ∧ Dt X.K H (bk u) (enc k)) (hi : ∀ k u, Dt X.K H (bk u) (enc k) → RelV (bk u) u → Y.is s.heap k u)
    {a : Addr} {its : List Value} {ks : List κ} {xs : List V} (hd : Dts X.K H xs (ks.map enc)) (rv : Vals xs its) (hf : ks.length < 64) (hcm : ∀ j ∈ ks, ∀ k ∈ ks, cmp j k)
    (hcol : ∀ {Q : List Value → Shared → Prop} {E : Value → Shared → Prop}, (∀ h' tk, (∀ b o, s.heap.get? b = some o → h'.get? b = some o) → Q its { s with heap := h', toks := tk }) → wpAny (model X.prog X.w) X.A.in1 (collect (.ref a)) Q E s)
    {Q : VK} (q : SrtOut X.K H (ks.map enc) Q) : wpAny (model X.prog X.w) X.A (call (.builtin "sorted") [.ref a]) (EP X pins σ Q) X.xe s := by
  obtain ⟨L0, rfl, rfl, hL0⟩ := zip_up hb hd rv
  rw [List.length_map] at hf
  refine sorted_gen C (L := L0) (fun p hp => hi _ _ (hL0 p hp).2 (hL0 p hp).1) hf (fun p hp r hr => hcm _ (List.mem_map_of_mem hp) _ (List.mem_map_of_mem hr)) (fun {Q E} q => hcol fun h' tk k => q _ L0 k rfl rfl (List.Perm.refl _)) fun s1 s' p c L' k0 gs0 os0 k2 gs os hp hg pm pw => ?_
  refine srt_fin I hL0 (fun z hz => pm.mem_iff.mp hz) (by rw [pm.length_eq, sizeLine_eq]; omega) k0 gs0 os0 k2 gs os hp hg fun ys hn hys => q p ys _ hn ?_ ?_ hys
  · rw [List.map_map]
    exact pm.map _
  · rw [List.pairwise_map]
    exact pw
theorem cr_srt : CallR X (.builtin "sorted") (rSrt X.K) := by
  intro pins s σ H vs us Q I r h
  obtain ⟨a, xs, ds, rfl, hs, hd, hf, hin, q⟩ := h
  rw [Vals.ref1 r]
  have col : ∃ its : List Value, Vals xs its ∧ ∀ {Q : List Value → Shared → Prop} {E : Value → Shared → Prop}, (∀ h' tk, (∀ b o, s.heap.get? b = some o → h'.get? b = some o) → Q its { s with heap := h', toks := tk }) → wpAny (model X.prog X.w) X.A.in1 (collect (.ref a)) Q E s := by
    rcases hs with hs | hs
    · obtain ⟨its, rv, pl, hz⟩ := I.list hs
      obtain ⟨o, ho, hc, n, hdt⟩ := pl.isList
      exact ⟨its, rv, fun {Q E} q => wpAny_collect_seq a (.inl rfl) ho hc hdt (fun h' k => q h' s.toks k) (by rw [List.size_toArray, ← rv.length]; exact hz)⟩
    · obtain ⟨its, rv, ⟨o, ho, hc, n, hdt⟩, hz⟩ := I.tuple hs
      exact ⟨its, rv, fun {Q E} q => wpAny_collect_seq a (.inr rfl) ho hc hdt (fun h' k => q h' s.toks k) (by rw [List.size_toArray, ← rv.length]; exact hz)⟩
  obtain ⟨its, rv, hcol⟩ := col
  rcases hin with ⟨ks, rfl, hcm⟩ | ⟨ks, rfl, hcm⟩
  · rw [List.length_map] at hf
    exact srt_seq cmp_atoms I bk_atom (fun k u h r => is_atom h r) hd rv hf hcm hcol q
  · rw [List.length_map] at hf
    exact srt_seq cmp_tups I bk_tup (fun k u h r => is_tup I h r) hd rv hf hcm hcol q
/-- of a dict with tuple keys -/
def rSrtD (K : PySem.W.Frag) : List V → Hp → VK → Prop := fun vs H Q => ∃ d kvs, vs = [.ref d] ∧ Rd H d (.dT kvs) ∧ kvs.length < 64 ∧ (∀ p ∈ kvs, ∀ r ∈ kvs, cmpT p.1 r.1) ∧ SrtOut K H (kvs.map fun p => encT p.1) Q
theorem kt_data {K : PySem.W.Frag} {H : Hp} {kvs : List (List Key × V)} {xs : List (List Key × Addr × Value)} (r : KT H kvs xs) : Dts K H (xs.map fun x => V.ref x.2.1) ((xs.map fun x => x.1).map encT) ∧ xs.map (fun x => x.1) = kvs.map (·.1) := by
  induction r with
  | nil => exact ⟨.nil, rfl⟩
  | @cons p x ps xs h t ih =>
    refine ⟨.cons (.tup (st_of h.2.1) ?_) ih.1, ?_⟩
    · rw [h.1]
      have key : ∀ k : List Key, Dts K H (k.map kV) (k.map encK) := by
        intro k
        induction k with
        | nil => exact .nil
        | cons j k ih => exact .cons (by cases j <;> constructor) ih
      exact key _
    · rw [List.map_cons, List.map_cons, ih.2, h.1]
theorem cr_srtD (hc : X.calm = true) : CallR X (.builtin "sorted") (rSrtD X.K) := by
  intro pins s σ H vs us Q I r h
  obtain ⟨d, kvs, rfl, hd, hf, hcm, q⟩ := h
  rw [Vals.ref1 r]
  obtain ⟨z, hs, ks, pr, o, es, ep, ho, hx, hdt, he, hn⟩ := (show ObjOk X.prog X.w H s.heap d (.dT kvs) from hd.ok I.hok)
  have l1 : es.size = ks.length := size_of_entries he
  have l2 : kvs.length = ks.length := Paired.length pr
  obtain ⟨dd, ek⟩ := kt_data (K := X.K) pr
  have e2 : (kvs.map fun p => encT p.1) = (ks.map fun x => x.1).map encT := by rw [ek, List.map_map]; rfl
  rw [e2] at q
  refine srt_seq cmp_tups I bk_tup (fun k u h r => is_tup I h r) dd (its := ks.map fun x => Value.ref x.2.1) ?_ (by rw [List.length_map]; omega) ?_ (fun {Q E} q => ?_) q
  · have := vals_refs (ks.map fun x => x.2.1)
    rwa [List.map_map, List.map_map] at this
  · intro j hj k hk
    rw [ek] at hj hk
    obtain ⟨p, hp, rfl⟩ := List.mem_map.mp hj
    obtain ⟨p2, hp2, rfl⟩ := List.mem_map.mp hk
    exact hcm p hp p2 hp2
  · refine PySem.W.kdu_collect (A := X.A.in1) (kdl_raw hs hx hdt) (I.ok.hd hc) ho (by rw [l1, sizeLine_eq]; omega) fun h' tk acc k it => ?_
    have ea : acc.toList = ks.map fun x => Value.ref x.2.1 := by
      have hl : acc.toList.length = ks.length := by rw [Array.length_toList, it.1]; exact l1
      apply List.ext_getElem?
      intro j
      rw [List.getElem?_map]
      cases hj : acc.toList[j]? with
      | none =>
        rw [List.getElem?_eq_none (by have := List.getElem?_eq_none_iff.mp hj; omega)]
        rfl
      | some v =>
        obtain ⟨en, hen, hv⟩ := it.2 j v (by rw [← Array.getElem?_toList]; exact hj)
        have qe := entry_at he j
        rw [hen] at qe
        obtain ⟨b, hb, e3⟩ := Option.map_eq_some_iff.mp qe.symm
        rw [hb, hv, ← e3]
        rfl
    rw [ea]
    exact q h' tk k
/-! ### min -/
def rMinL (K : PySem.W.Frag) : List V → Hp → VK → Prop := fun vs H Q => ∃ a xs ds, vs = [.ref a] ∧ SqL K H a xs ∧ Dts K H xs ds ∧ ds ≠ [] ∧ PySem.W.AlikeAll ds ∧ PyData.depthAll ds ≤ 60 ∧ ∀ (i : Nat) v, xs[i]? = some v → Q v H
theorem cr_minL (hc : X.calm = true) (hu : X.A.units + 64 < cLine) : CallR X (.builtin "min") (rMinL X.K) := by
  intro pins s σ H vs us Q I r h
  obtain ⟨a, xs, ds, rfl, hs, hd, hne, ha, hsh, q⟩ := h
  rw [Vals.ref1 r]
  obtain ⟨its, rv, pl, hz⟩ := I.list hs
  obtain ⟨as, ra⟩ := Dp.readsAll I ds xs its hd.dp rv
  cases ds with
  | nil => exact absurd rfl hne
  | cons d ds =>
    refine PySem.W.min_list_data (I.ok.hd hc) pl.isList (by simpa using ra) ha ?_ fun i v h' tk bs hv _ k => ?_
    · omega
    · obtain ⟨x, hx, rx⟩ := vals_at rv (show its[i]? = some v by simpa using hv)
      exact ⟨x, H, I.kept k, rx, q i x hx⟩
/-! ### list.remove of a text that is there -/
def rRemS : V → List V → Hp → VK → Prop := fun x xs H Q => ∃ (l : Addr) (ns : List Str) (k : Str), x = .ref l ∧ xs = [.str k] ∧ H l = some (.lst (ns.map V.str)) ∧ k ∈ ns ∧ Q .non (upd H l (.lst ((ns.erase k).map V.str)))
def isS (k : Str) (v : Value) : Bool := match v with
  | .str x _ => decide (x = k)
  | _ => false
theorem erase_at {α β : Type} (f : α → β) : ∀ (l : List α) (j : Nat), (l.map f).eraseIdx j = (l.eraseIdx j).map f
  | [], _ => rfl
  | _ :: _, 0 => rfl
  | x :: l, j + 1 => by simp only [List.map_cons, List.eraseIdx_cons_succ, erase_at f l j]
theorem vals_erase : ∀ {xs : List V} {us : List Value} (j : Nat), Vals xs us → Vals (xs.eraseIdx j) (us.eraseIdx j)
  | _, _, _, .nil => .nil
  | _, _, 0, .cons _ t => t
  | _, _, j + 1, .cons r t => .cons r (vals_erase j t)
theorem idx_le : ∀ (l : List Str) (m : Nat) (x : Str), l[m]? = some x → l.idxOf x ≤ m
  | [], _, _, h => by simp at h
  | y :: l, 0, x, h => by
    simp at h
    subst h
    simp
  | y :: l, m + 1, x, h => by
    have ih := idx_le l m x (by simpa using h)
    rw [List.idxOf_cons]
    by_cases e : y == x
    · simp [e]
    · simp [e]; exact ih
theorem mt_removeS : MtM X "list.remove" rRemS := by
  intro pins s σ H x xs v us Q I rx rxs h
  obtain ⟨l, ns, k, rfl, rfl, hH, hk, q⟩ := h
  cases rx
  obtain ⟨u, rfl, ru⟩ := rxs.one
  obtain ⟨t, rfl⟩ := ru
  obtain ⟨z, its, n, r, hl, e⟩ := I.lstM hH
  rw [List.length_map] at hl z
  have hit : ∀ (m : Nat) (y : Value), its[m]? = some y → ∃ x t, ns[m]? = some x ∧ y = .str x t := fun m y hy => by
    obtain ⟨w, hw, rw'⟩ := vals_at r hy
    rw [List.getElem?_map] at hw
    obtain ⟨x, hx, e⟩ := Option.map_eq_some_iff.mp hw
    subst e
    obtain ⟨t, rfl⟩ := rw'
    exact ⟨x, t, hx, rfl⟩
  have hj : ns.idxOf k < ns.length := List.idxOf_lt_length_of_mem hk
  have hjl : ns.idxOf k < its.toArray.size := by rw [List.size_toArray]; omega
  have hat : ∀ (m : Nat) (hm : m < its.toArray.size), ∃ x t, ns[m]? = some x ∧ its.toArray[m] = .str x t := fun m hm => hit m _ (by rw [List.getElem_toArray, List.getElem?_eq_getElem])
  refine call_meets PySem.F.slot_list_remove ⟨_, e, rfl⟩ PySem.F.entry_list_remove (PySem.F.args_list_remove_2 _ _)
    (MeetsSeq.list_remove l its.toArray n (.str k t) (isS k) (fun y hy => ?_) (ns.idxOf k) hjl ?_ ?_ (by rw [List.size_toArray]; omega)) ⟨e, ?_⟩
  · obtain ⟨m, hm, ey⟩ := Array.getElem_of_mem hy
    obtain ⟨x, t', _, e2⟩ := hat m hm
    rw [← ey, e2]
    intro _ _ _ _ _ _ h
    exact wpAny_eqBool_str h
  · obtain ⟨x, t', hx, e2⟩ := hat _ hjl
    rw [e2]
    rw [List.getElem?_eq_getElem hj, List.getElem_idxOf] at hx
    exact decide_eq_true (Option.some.inj hx).symm
  · intro m hm hmj
    obtain ⟨x, t', hx, e2⟩ := hat m hm
    rw [e2]
    refine decide_eq_false fun ex => ?_
    subst ex
    have h1 := idx_le ns m x hx
    omega
  · have rr := vals_erase (ns.idxOf k) r
    rw [erase_at, ← List.erase_eq_eraseIdx_of_idxOf rfl] at rr
    refine ⟨.non, _, I.lset (its' := its.eraseIdx (ns.idxOf k)) (t' := s.toks) hH e ?_ rr ?_, rfl, q⟩
    · show its.toArray.eraseIdxIfInBounds _ = (its.eraseIdx _).toArray
      rw [List.eraseIdxIfInBounds_toArray]
    · rw [List.length_map]
      exact Nat.le_trans (List.length_erase_le) (by omega)
/-! ### x in a tuple of data -/
def rInTD (K : PySem.W.Frag) : R2 := fun x y H Q => ∃ d ds, Dp K H x d ∧ Dp K H y (.tuple ds) ∧ SeqAt.shaped d = true ∧ SeqAt.shaped (.tuple ds) = true ∧ Q (.bl (ds.any fun z => PyData.eqv z d)) H
theorem op_inTD (hu : X.A.units + 65 < cLine) : OpR X (compareOp .In) (rInTD X.K) := by
  intro pins s σ H x y v u Q I rx ry h
  obtain ⟨d, ds, hd, he, sd, se, q⟩ := h
  obtain ⟨as, r1⟩ := Dp.reads I d x v hd rx
  obtain ⟨bs, r2⟩ := Dp.reads I (.tuple ds) y u he ry
  exact SeqAt.in_tuple_reads r2 r1 (SeqAt.canLay_of_shaped se) (SeqAt.canLay_of_shaped sd) (room_in_shaped sd hu) ⟨.bl _, H, I, rfl, q⟩
/-! ### d[k] = v as a target -/
def rSetK : V → V → V → Hp → (Hp → Prop) → Prop := fun o i v H Q => ∃ a H', o = .ref a ∧ DPut H a i v H' ∧ Q H'
theorem set_dictK (hu : X.A.units + 1 < cLine) : PSet X rSetK := by
  intro pins s σ H o i v ov iv u Q I ro ri rv h
  obtain ⟨a, H', rfl, g, q⟩ := h
  cases ro
  exact d_setItem hu I g ri rv fun s' I' => ⟨H', I', q⟩
/-! ### f() -/
theorem pe_c0 {k j : Nat} {x : Str} {sp : Sp} {dvs : List V} {p pos : Pos} (c : C8.Cal X.prog X.w X.K X.mg X.base k x sp dvs) (hr : Room j X.A) (hk : k ≤ j) (hg : Gl X x) (hdb : (x == ("__debug__" : Str)) = false := by decide) : PE X (.Call (.Name x p) [] [] pos) (tCall sp dvs E0 tNil) := by
  obtain ⟨f, fd, ps, ds, F, hm, kp, b, d⟩ := c.ex
  exact pe_call0 F (hr.mono hk) hg hm kp b d C8.pass0 hdb
end
end K77
set_option maxHeartbeats 3200000
/-! enumerate of a tuple. -/
namespace K77
open PySem PySem.Spec PyProof.Rows L2 Evl
theorem meets_enum1 {v : Value} {o : Obj} {H : Heap → Prop} (B : PySem.Begins v o H) :
    Meets (Builtin.«enumerate.__new__» ⟨[.type "enumerate", v], []⟩) (fun _ R s => H s.heap ∧
      R (.ok (.ret (.ref (s.heap.push o).objs.size))) { s with heap := (s.heap.push o).push { cls := .type "enumerate", data := .fields #[.none, .bool false, .ref s.heap.objs.size, rawInt 0, .none, .none] } }) :=
  .of_wp fun prog w A R s h => by
    obtain ⟨hp, g, d, tk, os⟩ := s
    obtain ⟨h1, h⟩ := h
    have hsub := sub_enumerate
    have q1 : ∀ {A' : Around} {E : Value → Shared → Prop} {Q : Value → Shared → Prop}, Q (.ref hp.objs.size) ⟨hp.push o, g, d, tk, os⟩ → wpAny (model prog w) A' (pyIter v) Q E ⟨hp, g, d, tk, os⟩ :=
      fun q => B.iter prog w _ _ ⟨hp, g, d, tk, os⟩ _ h1 q
    wp_walk using q1
    refine wpAny_stack_any fun st => wpAny_pure ?_
    split
    · rename_i c _ _ _ _ _
      cases (c == Value.type "enumerate") <;> (wp_walk using q1; exact ⟨_, rfl, h⟩)
    · wp_walk using q1
      exact ⟨_, rfl, h⟩
section
variable {prog : Program} {w : World} {A : Around} {E : Value → Shared → Prop} {s : Shared}
theorem call_enumT {a : Addr} {items : Array Value} {Q : Value → Shared → Prop} (hT : s.heap.IsTuple a items)
    (h : ∀ h', IsEnum h' (s.heap.objs.size + 1) s.heap.objs.size 0 .none → h'.IsTupleIter s.heap.objs.size a 0 → (∀ b o, s.heap.get? b = some o → h'.get? b = some o) → Q (.ref (s.heap.objs.size + 1)) { s with heap := h' }) :
    wpAny (model prog w) A (call (.type "enumerate") [.ref a]) Q E s := by
  refine callType_new F.called_enumerate (by decide) (F.typeCall_enumerate_1 _) (F.newCall_enumerate_1 _) (fun obj => F.args_object_init_2 obj _) F.entry_enumerate_new
    (meets_enum1 (PySem.begins_tuple a items)) ⟨hT, ?_⟩
  have hz : (s.heap.push { cls := .type "tuple_iterator", data := .fields #[.ref a, .int 0 0] }).objs.size = s.heap.objs.size + 1 := Heap.size_push ..
  show _ ∧ _
  rw [hz]
  have he : IsEnum ((s.heap.push { cls := .type "tuple_iterator", data := .fields #[.ref a, .int 0 0] }).push { cls := .type "enumerate", data := .fields #[.none, .bool false, .ref s.heap.objs.size, rawInt 0, .none, .none] }) (s.heap.objs.size + 1) s.heap.objs.size 0 .none := by
    have := Heap.get?_push_size (s.heap.push { cls := .type "tuple_iterator", data := .fields #[.ref a, .int 0 0] }) (o := { cls := .type "enumerate", data := .fields #[.none, .bool false, .ref s.heap.objs.size, rawInt 0, .none, .none] }) rfl
    rwa [hz] at this
  exact ⟨⟨_, he, rfl⟩, h _ he ⟨_, Heap.get?_push_of_some _ (Heap.get?_push_size _ rfl), rfl, rfl⟩ fun b o x => Heap.get?_push_of_some _ (Heap.get?_push_of_some _ x)⟩
end
/-- the tuple at a, its items in new pairs -/
def IteT (K : PySem.W.Frag) (a : Addr) : It :=
  ⟨fun i H => ∃ (xs : List V) (x : V), SqT K H a xs ∧ xs[i]? = some x, fun i H v H' => ∃ T x, v = .ref T ∧ H T = none ∧ H' = upd H T (.tup [.int (i : Nat), x]) ∧ ∀ xs, SqT K H a xs → xs[i]? = some x, fun i H => ∃ xs : List V, SqT K H a xs ∧ xs.length = i⟩
theorem tup_one {X : Cx} {pins : List (Addr × Obj)} {σ : L2.St} {H : Hp} {s : Shared} (I : Inv X pins σ H s) {a : Addr} {xs ys : List V} (h1 : SqT X.K H a xs) (h2 : SqT X.K H a ys) : xs = ys := I.tuple_inj h1 h2
theorem turn_enumT {P : Program} {w : World} {K : PySem.W.Frag} {elts : List Expr} {kk : Nat} {tpos : Pos} (a e it : Addr) :
    Turn P w K (.Tuple elts kk tpos) (IteT K a) [e, it] e (fun i h => (∃ old, IsEnum h e it ((i : Nat) : Int) old) ∧ h.IsTupleIter it a i ∧ e ≠ it ∧ a ≠ it ∧ a ≠ e) where
  mem := by simp
  obj := fun i h st b hb => by
    obtain ⟨⟨old, he⟩, ⟨o, ho, hc, hd⟩, _⟩ := st
    rcases List.mem_cons.mp hb with z | z
    · rw [z]; exact ⟨_, he, fun v q => nomatch q⟩
    · rw [List.mem_singleton.mp z]; exact ⟨o, ho, fun v q => by rw [hd] at q; cases q⟩
  keep := fun i h h' st k => let ⟨⟨old, he⟩, hi, hne⟩ := st; ⟨⟨old, k e (by simp) _ he⟩, hi.at fun o q => k it (by simp) o q, hne⟩
  item := by
    intro X hP hw hK hc i pins s σ H E I hf st hg
    subst hP hw hK
    obtain ⟨⟨old, he⟩, hit, hne, ha, hae⟩ := st
    obtain ⟨xs, x, hq, hx⟩ := hg
    obtain ⟨its, rv, p, hz⟩ := I.tuple hq
    obtain ⟨u, hu, ru⟩ := rv.get hx
    have hel : e < s.heap.objs.size := Heap.lt_size he
    have hil : it < s.heap.objs.size := by obtain ⟨_, q, _⟩ := hit; exact Heap.lt_size q
    have hlt : i < its.toArray.size := by
      rw [List.size_toArray]
      exact (List.getElem?_eq_some_iff.mp hu).1
    refine wpAny_pyNext_enum_itemD (PySem.Draws.tuple (A := X.A.in1) (I.ok.hd hc) it a ha its.toArray) he ⟨hit, p⟩ hlt hne (by simp only [List.mem_cons, List.not_mem_nil, or_false, not_or]; exact ⟨hne, fun z => hae z.symm⟩) fun y h' tk hy ho hst' hT hsz hk => ?_
    obtain rfl : y = u := by
      have e2 : its[i]? = some y := by simpa using hy
      rw [hu] at e2
      exact (Option.some.inj e2).symm
    refine ⟨_, rfl, wpAny_letOwnedTupleGo_enum (s := { s with heap := h', toks := tk + 1 }) ho fun h'' he' sb => ?_⟩
    have hT2 : h''.get? s.heap.objs.size = some { cls := .type "tuple", data := .seq #[.int i tk, y] } := (sb.2 _ (Nat.ne_of_gt hel)).trans hT
    have new : ObjOk X.prog X.w (upd H s.heap.objs.size (.tup [.int (i : Nat), x])) h'' s.heap.objs.size (.tup [.int (i : Nat), x]) :=
      ⟨by show 2 ≤ sizeLine; decide, [.int i tk, y], .cons ⟨_, rfl⟩ (.cons ru .nil), ⟨_, hT2, rfl, _, rfl⟩⟩
    have I1 : Inv X pins σ (upd H s.heap.objs.size (.tup [.int (i : Nat), x])) { s with heap := h'', toks := tk + 1 } :=
      I.turnedNew (ch := [e, it]) (fun b ob hb q => (sb.2 b (fun z => hb (by simp [z]))).trans (hk b ob (fun z => hb (by simp [z])) (fun z => hb (by simp [z])) q)) hf (Nat.le_refl _) new
    refine ⟨.ref s.heap.objs.size, _, I1, rfl, ⟨_, x, rfl, I.hok.fresh (Nat.le_refl _), rfl, fun ys hy => by rw [tup_one I hy hq]; exact hx⟩, ⟨⟨y, ?_⟩, hst'.1.at fun o q => (sb.2 it (Ne.symm hne)).trans q, hne, ha, hae⟩, fun b hb => ?_⟩
    · have e1 : ((i + 1 : Nat) : Int) = (i : Int) + 1 := by omega
      rw [e1]; exact he'
    · have hb' : b < s.heap.objs.size := by
        rcases List.mem_cons.mp hb with z | z
        · rw [z]; exact hel
        · rw [List.mem_singleton.mp z]; exact hil
      rw [upd_ne (Nat.ne_of_lt hb')]
      exact (hf b hb).1
  done := by
    intro X hP hw hK hc i pins s σ H E I hf st hg
    subst hP hw hK
    obtain ⟨⟨old, he⟩, hit, hne, ha, hae⟩ := st
    obtain ⟨xs, hq, hx⟩ := hg
    obtain ⟨its, rv, p, hz⟩ := I.tuple hq
    obtain ⟨f0, f1, f2, f3, f4, f5⟩ := hf it (by simp)
    have hl := rv.length
    have hi : its.toArray.size = i := by rw [List.size_toArray, ← hl]; exact hx
    exact wpAny_pyNext_enum_endD (PySem.Draws.tuple (A := X.A.in1) (I.ok.hd hc) it a ha its.toArray) he ⟨by rw [hi]; exact hit, p⟩ fun h' eb => ⟨rfl, I.turned (t' := s.toks) (fun b o hb q => eb b o hb q) f0 f1 f3 f4 f5⟩
  self := fun A i s Q E st h => let ⟨⟨_, he⟩, _⟩ := st; wpAny_pyIter_enum he h
def iEnumT (K : PySem.W.Frag) (ta : TA) : TI := fun σ H R => ta σ H fun vs H1 => ∃ a xs, vs = [.ref a] ∧ SqT K H1 a xs ∧ R (IteT K a) H1
theorem pi_enumT {X : Cx} {e : Expr} {ta : TA} {p pos tpos : Pos} {elts : List Expr} {kk : Nat} (hg : Gl X "enumerate") (hm : X.mg "enumerate" = none) (ha : PA X [e] ta) (hs : starEach [e] X.env = [(false, eval e X.env)] := by rfl) :
    PI X (.Tuple elts kk tpos) (.Call (.Name "enumerate" p) [e] [] pos) (iEnumT X.K ta) := by
  refine ⟨fun pins s σ H R I h => ?_⟩
  refine Call_ (ld_blt I hg hm boot_enumerate (PyProof.Rows.callWith_type1 (thn (ha.run pos pins s σ H _ I h) fun us s1 ⟨vs, H1, I1, r1, q1⟩ => ?_) hs rfl))
  obtain ⟨a, xs, rfl, hq, q⟩ := q1
  obtain ⟨u, rfl, r⟩ := r1.one
  cases r
  obtain ⟨its, rv, p', hz⟩ := I1.tuple hq
  have hal : a < s1.heap.objs.size := by obtain ⟨o, ho, _⟩ := p'; exact Heap.lt_size ho
  refine call_enumT (items := its.toArray) p' fun h' he hit hk => wpAny_pyIter_enum he ?_
  have I2 : Inv X pins σ H1 { s1 with heap := h' } := I1.kept (t' := s1.toks) hk
  refine ⟨s1.heap.objs.size + 1, [s1.heap.objs.size + 1, s1.heap.objs.size], _, _, H1, rfl, I2, turn_enumT a (s1.heap.objs.size + 1) s1.heap.objs.size, ⟨⟨.none, he⟩, hit, Nat.succ_ne_self _, Nat.ne_of_lt hal, Nat.ne_of_lt (Nat.lt_succ_of_lt hal)⟩, fun b hb => ?_, q⟩
  have hle : s1.heap.objs.size ≤ b := by
    rcases List.mem_cons.mp hb with z | z
    · rw [z]; exact Nat.le_succ _
    · rw [List.mem_singleton.mp z]; exact Nat.le_refl _
  exact I1.fpOk hle (I1.hok.fresh hle)
section
variable {X : Cx}
/-- name = {k: v for ..} on one line, the name a local -/
theorem sw_trueD {kx vx : Expr} {gs : List Comprehension} {scope : Scope} {pos py : Pos} {y : Str} {l : Nat} {env : Env} (hk : env.scope.kind = .function) (hy : env.scope.names.lookup y = some .local) (hl : (py.line == pos.line) = true)
    (ha : (scope.names.any fun (n, k) => n == y && (k == .local || k == .cell)) = false) : swapsWith (.DictComp kx vx gs scope pos) (some (.Name y py)) l env = pure true := by
  have ky : env.kindOf y = some .local := hy
  have hb : env.blockKind = .function := by unfold Env.blockKind; rw [hk]; rfl
  unfold swapsWith
  simp only [hb, ky, ha, Expr.pos, hl]
  rfl
theorem ps_setDc {i : Nat} {y : Str} {py : Pos} {kx vx tg iter : Expr} {ifs : List Expr} {scope : Scope} {own : List (Str × Nat)} {pos spos : Pos} {wi : TI} {g : TG} {tt : TT} {tk tv : TE} (hc : X.calm = true) (hN : X.N.Nodup) (hy : X.N[i]? = some y) (hyl : X.env.scope.names.lookup y = some .local)
    (hsw : swapsWith (.DictComp kx vx [⟨tg, iter, ifs, 0⟩] scope pos) (some (.Name y py)) spos.line X.env = pure true) (hi : PI X tg iter wi) (ok : BlkOk X.N X.env.scope scope own)
    (hg : ∀ (s : Shared) (H : Hp) (C : Addr) (cl : List (Str × Addr)) (fp : List Addr), PG (X.blk s H scope (compEnvC scope cl C X.env) fp) tg g) (ht : ∀ (s : Shared) (H : Hp) (C : Addr) (cl : List (Str × Addr)) (fp : List Addr), PTs (X.blk s H scope (compEnvC scope cl C X.env) fp) ifs tt)
    (hk : ∀ (s : Shared) (H : Hp) (C : Addr) (cl : List (Str × Addr)) (fp : List Addr), PE (X.blk s H scope (compEnvC scope cl C X.env) fp) kx tk)
    (he : ∀ (s : Shared) (H : Hp) (C : Addr) (cl : List (Str × Addr)) (fp : List Addr), PE (X.blk s H scope (compEnvC scope cl C X.env) fp) vx tv) (hs : ∀ x, foldedSetIterable iter X.env x = pure x := by intro _; rfl) :
    PS X (.Assign [.Name y py] (.DictComp kx vx [⟨tg, iter, ifs, 0⟩] scope pos) spos) (tAsg (tDc wi g tt tk tv (own.map (·.2))) (gName i)) := by
  refine ⟨fun pins s σ H D I h => ?_⟩
  rw [exec_Assign_Name_used _ _ _ _ hsw]
  refine wpAny_bind (wpAny_standAt (wpAny_bind ?_))
  show wpAny _ X.A (do let _ ← comprehension (.DictComp kx vx [⟨tg, iter, ifs, 0⟩] scope pos) scope X.env (firstIterPos [⟨tg, iter, ifs, 0⟩] pos) newDict false (eval iter X.env) (some (assign (.Name y py) X.env))) _ _ s
  have h : tDc wi g tt tk tv (own.map (·.2)) σ H (fun x H1 => gName i x σ H1 D.nx) := h
  refine wpAny_bind (thn (dc_core (Qf := fun _ s' => SP X pins D .next s') hc hN I hi ok hg ht hk he hs h fun L C s' m H' I' q hn f => ?_) fun _ s' hq => wpAny_pure (wpAny_pure hq))
  show wpAny _ _ (assign (.Name y py) X.env (.ref L)) _ _ _
  refine wpAny_assign_Name (store_ok2 (v := V.ref L) I' hN hy (.inl hyl) rfl (fun s2 I2 ⟨a, sb, ha⟩ => ?_) (.inr hyl))
  obtain ⟨f0, f1, f2, f3, f4, f5⟩ := f
  have apart : C ≠ a := ha.elim (fun z => by rw [z]; exact f1) fun z e => f4 y a z e.symm
  exact ⟨m, hn.sameBut sb apart, fun h3 sb3 => ⟨_, H', I2.turned (t' := s2.toks) (fun b o hb e => (sb3.2 b hb).trans e) f0 f1 f3 f4 f5, q⟩⟩
end
end K77
set_option maxHeartbeats 1000000
/-! The plain model: bills, sights, cases. -/
namespace K77
open PySem PySem.Spec PyProof.Rows L2 Evl
structure Bill where
  n : Str
  lo : Int
  hi : Int
deriving DecidableEq
abbrev Fence := List Bill
abbrev Si := Int × Str
abbrev strsD (xs : List Str) : PyData := .tuple (xs.map PyData.str)
def bD (b : Bill) : PyData := .tuple [.str b.n, .int b.lo, .int b.hi]
abbrev fD (F : Fence) : PyData := .tuple (F.map bD)
def sD (s : Si) : PyData := .tuple [.int s.1, .str s.2]
abbrev ssD (ss : List Si) : PyData := .tuple (ss.map sD)
def nm (F : Fence) : List Str := F.map Bill.n
def isOver (c : Int) (b : Bill) : Bool := decide (b.lo ≤ c) && decide (c ≤ b.hi)
def ov (F : Fence) (c : Int) : List Str := (F.filter (isOver c)).map Bill.n
theorem mem_ov {F : Fence} {c : Int} {x : Str} : x ∈ ov F c ↔ ∃ b ∈ F, b.n = x ∧ b.lo ≤ c ∧ c ≤ b.hi := by
  unfold ov isOver
  simp only [List.mem_map, List.mem_filter, Bool.and_eq_true, decide_eq_true_eq]
  constructor
  · rintro ⟨b, ⟨h1, h2, h3⟩, h4⟩
    exact ⟨b, h1, h4, h2, h3⟩
  · rintro ⟨b, h1, h4, h2, h3⟩
    exact ⟨b, ⟨h1, h2, h3⟩, h4⟩
theorem ov_nm {F : Fence} {c : Int} {x : Str} (h : x ∈ ov F c) : x ∈ nm F := by
  obtain ⟨b, hb, e, _⟩ := mem_ov.mp h
  exact List.mem_map.mpr ⟨b, hb, e⟩
theorem ov_len (F : Fence) (c : Int) : (ov F c).length ≤ F.length := by
  unfold ov
  rw [List.length_map]
  exact List.length_filter_le _ _
theorem nm_len (F : Fence) : (nm F).length = F.length := List.length_map _
theorem bD_inj {a b : Bill} (h : bD a = bD b) : a = b := by
  cases a; cases b
  simp only [bD, PyData.tuple.injEq, List.cons.injEq, PyData.str.injEq, PyData.int.injEq] at h
  simp only [Bill.mk.injEq]
  exact ⟨h.1, h.2.1, h.2.2.1⟩
theorem sD_inj {a b : Si} (h : sD a = sD b) : a = b := by
  cases a; cases b
  simp only [sD, PyData.tuple.injEq, List.cons.injEq, PyData.str.injEq, PyData.int.injEq] at h
  rw [h.1, h.2.1]
section
variable {K : PySem.W.Frag} {H : Hp}
theorem dts0 {vs : List V} (h : Dts K H vs []) : vs = [] := by cases h; rfl
theorem dts1 {vs : List V} {d : PyData} (h : Dts K H vs [d]) : ∃ v, vs = [v] ∧ Dt K H v d := by
  cases h with
  | cons h t => rw [dts0 t]; exact ⟨_, rfl, h⟩
theorem dts2 {vs : List V} {d e : PyData} (h : Dts K H vs [d, e]) : ∃ v u, vs = [v, u] ∧ Dt K H v d ∧ Dt K H u e := by
  cases h with
  | cons h t =>
    obtain ⟨u, rfl, hu⟩ := dts1 t
    exact ⟨_, _, rfl, h, hu⟩
theorem dts3 {vs : List V} {d e f : PyData} (h : Dts K H vs [d, e, f]) : ∃ v u w, vs = [v, u, w] ∧ Dt K H v d ∧ Dt K H u e ∧ Dt K H w f := by
  cases h with
  | cons h t =>
    obtain ⟨u, w, rfl, hu, hw⟩ := dts2 t
    exact ⟨_, _, _, rfl, h, hu, hw⟩
theorem dts4 {vs : List V} {d e f g : PyData} (h : Dts K H vs [d, e, f, g]) : ∃ v u w x, vs = [v, u, w, x] ∧ Dt K H v d ∧ Dt K H u e ∧ Dt K H w f ∧ Dt K H x g := by
  cases h with
  | cons h t =>
    obtain ⟨u, w, x, rfl, hu, hw, hx⟩ := dts3 t
    exact ⟨_, _, _, _, rfl, h, hu, hw, hx⟩
end
end K77
set_option maxHeartbeats 1000000
/-! Rules whose K is named, so that they stand inside comprehensions. -/
namespace K77
open PySem PySem.Spec PyProof.Rows L2 Evl
section
variable (K : PySem.W.Frag) {X : Cx}
theorem k_tupOf (hK : X.K = K) : CallR X (.type "tuple") (fun xs H Q => ∃ p ys, xs = [.ref p] ∧ ((SqL K H p ys ∧ ∀ l, H l = none → Q (.ref l) (upd H l (.tup ys))) ∨ (SqT K H p ys ∧ Q (.ref p) H))) := by subst hK; exact call_tuple_of
theorem k_listOf (hK : X.K = K) : CallR X (.type "list") (fun xs H Q => ∃ p ys, xs = [.ref p] ∧ (SqL K H p ys ∨ SqT K H p ys) ∧ ∀ l, H l = none → Q (.ref l) (upd H l (.lst ys))) := by subst hK; exact call_list_of
theorem k_len (hK : X.K = K) : CallR X (.builtin "len") (fun xs H Q => ∃ p ys, xs = [.ref p] ∧ (SqL K H p ys ∨ SqT K H p ys) ∧ Q (.int ys.length) H) := by subst hK; exact call_len_seq
theorem k_any (hK : X.K = K) (hc : X.calm = true) : CallR X (.builtin "any") (rAny K) := by subst hK; exact cr_any hc
theorem k_all (hK : X.K = K) (hc : X.calm = true) : CallR X (.builtin "all") (rAll K) := by subst hK; exact cr_all hc
theorem k_in (hK : X.K = K) : OpR X (compareOp .In) (rIn K false) := by subst hK; exact op_in_seq
theorem k_notIn (hK : X.K = K) : OpR X (compareOp .NotIn) (rIn K true) := by subst hK; exact op_notIn_seq
theorem k_ixT (hK : X.K = K) : IxR X (rIxT K) := by subst hK; exact ix_tup
theorem k_ixL (hK : X.K = K) : IxR X (rIxL K) := by subst hK; exact ix_list
theorem k_slL (hK : X.K = K) : SlR X (rSlL K) := by subst hK; exact sl_list
theorem k_slT (hK : X.K = K) : SlR X (rSlA K) := by subst hK; exact sl_tupA
theorem k_gT (n : Nat) (hK : X.K = K) {es : List Expr} {k : Nat} {t : TGs} {pos : Pos} (hc : X.calm = true) (h : PGs X es t)
    (hn : (assignEach es X.env).length = n := by rfl) (hst : (assignEach es X.env).findIdx? (·.1) = none := by rfl) : PG X (.Tuple es k pos) (gTup K n t) := by subst hK; exact pg_tup hc h hn hst
theorem k_piT (hK : X.K = K) {tg l : Expr} {tl : TE} (hl : PE X l tl) : PI X tg l (iTup K tl) := by subst hK; exact pi_tup hl
theorem k_piL (hK : X.K = K) {tg l : Expr} {tl : TE} (hl : PE X l tl) : PI X tg l (iList K tl) := by subst hK; exact pi_list hl
theorem k_zip (hK : X.K = K) {e e2 : Expr} {ta : TA} {p pos tpos : Pos} {elts : List Expr} {kk : Nat} (hg : Gl X "zip") (hm : X.mg "zip" = none) (ha : PA X [e, e2] ta)
    (hs : starEach [e, e2] X.env = (false, eval e X.env) :: starEach [e2] X.env := by rfl) (hpl : (backTo pos (starEach [e2] X.env)).any (·.1) = false := by rfl) :
    PI X (.Tuple elts kk tpos) (.Call (.Name "zip" p) [e, e2] [] pos) (RZ.iZipA K ta) := by subst hK; exact RZ.pi_zipA hg hm ha hs hpl
theorem k_enum (hK : X.K = K) {e : Expr} {ta : TA} {p pos tpos : Pos} {elts : List Expr} {kk : Nat} (hg : Gl X "enumerate") (hm : X.mg "enumerate" = none) (ha : PA X [e] ta) (hs : starEach [e] X.env = [(false, eval e X.env)] := by rfl) :
    PI X (.Tuple elts kk tpos) (.Call (.Name "enumerate" p) [e] [] pos) (iEnum K ta) := by subst hK; exact pi_enum hg hm ha hs
theorem k_enumT (hK : X.K = K) {e : Expr} {ta : TA} {p pos tpos : Pos} {elts : List Expr} {kk : Nat} (hg : Gl X "enumerate") (hm : X.mg "enumerate" = none) (ha : PA X [e] ta) (hs : starEach [e] X.env = [(false, eval e X.env)] := by rfl) :
    PI X (.Tuple elts kk tpos) (.Call (.Name "enumerate" p) [e] [] pos) (iEnumT K ta) := by subst hK; exact pi_enumT hg hm ha hs
theorem k_star (hK : X.K = K) {e : Expr} {es : List Expr} {te : TE} {t : TA} {p : Pos} (he : PE X e te) (hr : PA X es t) (hs : starEach (.Starred e p :: es) X.env = (true, eval e X.env) :: starEach es X.env := by rfl) : PA X (.Starred e p :: es) (StX.tStar K te t) := by subst hK; exact StX.pa_star he hr hs
theorem k_eqD (hK : X.K = K) (hu : X.A.units + 64 < cLine) : OpR X (compareOp .Eq) (rEqD K) := by subst hK; exact op_eqD hu
theorem k_neD (hK : X.K = K) (hu : X.A.units + 64 < cLine) : OpR X (compareOp .NotEq) (rNeD K) := by subst hK; exact op_neD hu
theorem k_inTD (hK : X.K = K) (hu : X.A.units + 65 < cLine) : OpR X (compareOp .In) (rInTD K) := by subst hK; exact op_inTD hu
theorem k_isi (hK : X.K = K) : CallR X (.builtin "isinstance") (rIsi K) := by subst hK; exact call_isi
theorem k_isiT (hK : X.K = K) : CallR X (.builtin "isinstance") (rIsiT K) := by subst hK; exact call_isiT
theorem k_srt (hK : X.K = K) : CallR X (.builtin "sorted") (rSrt K) := by subst hK; exact cr_srt
theorem k_srtD (hK : X.K = K) (hc : X.calm = true) : CallR X (.builtin "sorted") (rSrtD K) := by subst hK; exact cr_srtD hc
theorem k_minL (hK : X.K = K) (hc : X.calm = true) (hu : X.A.units + 64 < cLine) : CallR X (.builtin "min") (rMinL K) := by subst hK; exact cr_minL hc hu
theorem k_ss (hK : X.K = K) {a : Expr} {ta : TE} {p p2 q pos : Pos} (hc : X.calm = true) (hu : X.A.units + 64 < cLine) (hg : Gl X "sorted") (hm : X.mg "sorted" = none) (hg2 : Gl X "set") (hm2 : X.mg "set" = none) (ha : PE X a ta)
    (na : starEach [a] X.env = (false, eval a X.env) :: starEach [] X.env := by rfl) : PE X (.Call (.Name "sorted" p) [.Call (.Name "set" p2) [a] [] q] [] pos) (tSS K ta) := by subst hK; exact pe_sortedSet hc hu hg hm hg2 hm2 ha na
end
end K77
set_option maxHeartbeats 1000000
/-! Iterables, comprehensions and loops over typed things. -/
namespace K77
open PySem PySem.Spec PyProof.Rows L2 Evl
/-- an iterator gives the things xs, as long as Kp stands -/
structure Runs {α : Type} (J : It) (xs : List α) (R : Hp → V → α → Prop) (Kp : Hp → Prop) : Prop where
  go : ∀ i H, Kp H → i < xs.length → J.go i H
  stop : ∀ H, Kp H → J.stop xs.length H
  yld : ∀ i H v H', Kp H → i < xs.length → J.yld i H v H' → ∃ x, xs[i]? = some x ∧ Ex H H' ∧ R H' v x
/-- an iterable of the things xs -/
def IV {α : Type} (wi : TI) (σ : L2.St) (H : Hp) (xs : List α) (R : Hp → V → α → Prop) (S : Hp → Hp → Prop) : Prop := ∀ H1, Ex H H1 → ∀ Q : It → Hp → Prop, (∀ J H2 (Kp : Hp → Prop), Ex H1 H2 → (∀ H3, S H2 H3 → Kp H3) → Runs J xs R Kp → Q J H2) → wi σ H1 Q
section
variable {K : PySem.W.Frag} {σ : L2.St} {H H' : Hp} {ta tb te tl : TE} {t u : TT} {v : V} {d e : PyData} {ds es : List PyData} {α β : Type} {xs : List α} {enc : α → PyData}
abbrev RD (K : PySem.W.Frag) {α : Type} (enc : α → PyData) : Hp → V → α → Prop := fun H v x => Dt K H v (enc x)
theorem map_at {vs : List V} (h : Dts K H vs (xs.map enc)) {i : Nat} {v : V} (hv : vs[i]? = some v) : ∃ x, xs[i]? = some x ∧ Dt K H v (enc x) := by
  obtain ⟨d, h1, h2⟩ := h.get hv
  rw [List.getElem?_map] at h1
  obtain ⟨x, hx, e⟩ := Option.map_eq_some_iff.mp h1
  exact ⟨x, hx, e ▸ h2⟩
theorem map_len {vs : List V} (h : Dts K H vs (xs.map enc)) : vs.length = xs.length := by rw [h.length, List.length_map]
theorem runs_tup {a : Addr} {vs : List V} : Runs (Itt K a) xs (RD K enc) (fun H => SqT K H a vs ∧ Dts K H vs (xs.map enc)) where
  go := fun i H ⟨hs, hd⟩ hi => by
    have hl : i < vs.length := by rw [map_len hd]; exact hi
    exact ⟨vs, vs[i], hs, List.getElem?_eq_getElem hl⟩
  stop := fun H ⟨hs, hd⟩ => ⟨vs, hs, by rw [map_len hd]; exact Nat.le_refl _⟩
  yld := fun i H v H' ⟨hs, hd⟩ _ ⟨e, y⟩ => by
    subst e
    obtain ⟨x, hx, h⟩ := map_at hd (y vs hs)
    exact ⟨x, hx, Ex.refl _, h⟩
theorem runs_list {a : Addr} {vs : List V} : Runs (Itl K a) xs (RD K enc) (fun H => SqL K H a vs ∧ Dts K H vs (xs.map enc)) where
  go := fun i H ⟨hs, hd⟩ hi => by
    have hl : i < vs.length := by rw [map_len hd]; exact hi
    exact ⟨vs, vs[i], hs, List.getElem?_eq_getElem hl⟩
  stop := fun H ⟨hs, hd⟩ => ⟨vs, hs, by rw [map_len hd]; exact Nat.le_refl _⟩
  yld := fun i H v H' ⟨hs, hd⟩ _ ⟨e, y⟩ => by
    subst e
    obtain ⟨x, hx, h⟩ := map_at hd (y vs hs)
    exact ⟨x, hx, Ex.refl _, h⟩
theorem iv_tup (h : ED K tl σ H (.tuple (xs.map enc))) : IV (iTup K tl) σ H xs (RD K enc) (TLe K) := fun H1 e1 Q q => h H1 e1 _ fun v H2 e2 hd => by
  obtain ⟨a, vs, rfl, hs, hx⟩ := hd.tupV
  exact ⟨a, rfl, ⟨vs, hs⟩, q _ H2 _ e2 (fun H3 k => ⟨k _ _ hs, hx.mono k⟩) runs_tup⟩
theorem iv_list (h : ES K tl σ H (xs.map enc)) : IV (iList K tl) σ H xs (RD K enc) Ex := fun H1 e1 Q q => h H1 e1 _ fun a vs H2 e2 hs hx =>
  ⟨a, rfl, ⟨vs, hs⟩, q _ H2 _ e2 (fun H3 k => ⟨ex_l k hs, hx.ex k⟩) runs_list⟩
theorem IV.ex {wi : TI} {R : Hp → V → α → Prop} (h : IV wi σ H xs R (TLe K)) : IV wi σ H xs R Ex := fun H1 e1 Q q => h H1 e1 Q fun J H2 Kp e2 k r => q J H2 Kp e2 (fun H3 e3 => k H3 (TLe.ex e3)) r
theorem IV.up {wi : TI} {R : Hp → V → α → Prop} {S : Hp → Hp → Prop} (x : Ex H H') (h : IV wi σ H xs R S) : IV wi σ H' xs R S := fun H1 e1 Q q => h H1 (x.trans e1) Q q
theorem iv_range {ta : TA} {n : Nat} (h : EA K ta σ H [.int (n : Int)]) (hn : n ≤ 100000) : IV (iRng1 ta) σ H (List.range n) (fun _ v i => v = .int (i : Int)) (fun _ _ => True) := fun H1 e1 Q q => h H1 e1 _ fun vs H2 e2 hd => by
  obtain ⟨v, rfl, hv⟩ := dts1 hd
  rw [hv.intV]
  refine ⟨n, rfl, by omega, by omega, q _ H2 (fun _ => True) e2 (fun _ _ => trivial) ⟨fun i H _ hi => ?_, fun H _ => ?_, fun i H v H' _ hi ⟨e, y⟩ => ?_⟩⟩
  · show i < (n : Int).toNat
    rw [List.length_range] at hi
    omega
  · show (n : Int).toNat ≤ _
    rw [List.length_range]
    omega
  · subst e
    rw [List.length_range] at hi
    exact ⟨i, List.getElem?_range hi, Ex.refl _, by rw [y]; congr 1; omega⟩
/-! enumerate of a tuple, zip of tuples, of lists -/
theorem iv_enumT {ta : TA} (h : EA K ta σ H [.tuple (xs.map enc)]) : IV (iEnumT K ta) σ H xs.zipIdx (fun H v x => Dt K H v (.tuple [.int (x.2 : Int), enc x.1])) (TLe K) := fun H1 e1 Q q => h H1 e1 _ fun us H2 e2 hd => by
  obtain ⟨v, rfl, hv⟩ := dts1 hd
  obtain ⟨a, vs, rfl, hs, hx⟩ := hv.tupV
  refine ⟨a, vs, rfl, hs, q _ H2 (fun H => SqT K H a vs ∧ Dts K H vs (xs.map enc)) e2 (fun H3 k => ⟨k _ _ hs, hx.mono k⟩) ⟨fun i H ⟨hs, hd⟩ hi => ?_, fun H ⟨hs, hd⟩ => ?_, fun i H v H' ⟨hs, hd⟩ hi y => ?_⟩⟩
  · rw [List.length_zipIdx] at hi
    have hl : i < vs.length := by rw [map_len hd]; exact hi
    exact ⟨vs, vs[i], hs, List.getElem?_eq_getElem hl⟩
  · exact ⟨vs, hs, by rw [map_len hd, List.length_zipIdx]⟩
  · obtain ⟨T, x, rfl, hT, rfl, hx⟩ := y
    obtain ⟨z, hz, hzd⟩ := map_at hd (hx vs hs)
    have ex : Ex H (upd H T (.tup [.int (i : Nat), x])) := Ex.new hT
    refine ⟨(z, i), by rw [List.getElem?_zipIdx, hz]; simp, ex, ?_⟩
    exact .tup (st_of upd_same) (.cons (.int _) (.cons (hzd.ex ex) .nil))
theorem zip_get {a : List α} {b : List β} {i : Nat} {x : α} {y : β} (h1 : a[i]? = some x) (h2 : b[i]? = some y) : (a.zip b)[i]? = some (x, y) := by
  rw [List.getElem?_zip_eq_some]
  exact ⟨h1, h2⟩
theorem iv_zipT {ta : TA} {ys : List β} {enc2 : β → PyData} (h : EA K ta σ H [.tuple (xs.map enc), .tuple (ys.map enc2)]) : IV (RZ.iZipA K ta) σ H (xs.zip ys) (fun H v p => Dt K H v (.tuple [enc p.1, enc2 p.2])) (TLe K) := fun H1 e1 Q q => h H1 e1 _ fun us H2 e2 hd => by
  obtain ⟨v, u, rfl, hv, hu⟩ := dts2 hd
  obtain ⟨a, vs, rfl, hs, hx⟩ := hv.tupV
  obtain ⟨b, ws, rfl, ht, hy⟩ := hu.tupV
  refine ⟨a, b, vs, ws, rfl, .inr ⟨hs, ht, q _ H2 (fun H => (SqT K H a vs ∧ Dts K H vs (xs.map enc)) ∧ SqT K H b ws ∧ Dts K H ws (ys.map enc2)) e2 (fun H3 k => ⟨⟨k _ _ hs, hx.mono k⟩, k _ _ ht, hy.mono k⟩) ⟨fun i H ⟨⟨hs, hd⟩, ht, hd2⟩ hi => ?_, fun H ⟨⟨hs, hd⟩, ht, hd2⟩ => ?_, fun i H v H' ⟨⟨hs, hd⟩, ht, hd2⟩ hi y => ?_⟩⟩⟩
  · rw [List.length_zip] at hi
    have h1 : i < vs.length := by rw [map_len hd]; omega
    have h2 : i < ws.length := by rw [map_len hd2]; omega
    exact ⟨vs, ws, vs[i], ws[i], hs, ht, List.getElem?_eq_getElem h1, List.getElem?_eq_getElem h2⟩
  · refine ⟨vs, ws, hs, ht, ?_⟩
    rw [map_len hd, map_len hd2, List.length_zip]
    omega
  · obtain ⟨T, x, z, rfl, hT, rfl, hx, hz⟩ := y
    obtain ⟨x', hx', hd'⟩ := map_at hd (hx vs hs)
    obtain ⟨z', hz', hd2'⟩ := map_at hd2 (hz ws ht)
    have ex : Ex H (upd H T (.tup [x, z])) := Ex.new hT
    exact ⟨(x', z'), zip_get hx' hz', ex, .tup (st_of upd_same) (.cons (hd'.ex ex) (.cons (hd2'.ex ex) .nil))⟩
/-- arguments, two lists -/
def EAL2 (K : PySem.W.Frag) (ta : TA) (σ : L2.St) (H : Hp) (ds es : List PyData) : Prop := ∀ H1, Ex H H1 → ∀ Q : List V → Hp → Prop, (∀ p q xs ys H2, Ex H1 H2 → SqL K H2 p xs → Dts K H2 xs ds → SqL K H2 q ys → Dts K H2 ys es → Q [.ref p, .ref q] H2) → ta σ H1 Q
theorem eal2 (h1 : ES K ta σ H ds) (h2 : ES K tb σ H es) : EAL2 K (tCons ta (tCons tb tNil)) σ H ds es := fun H1 e1 Q q => h1 H1 e1 _ fun p xs H2 e2 hp hx => h2 H2 (e1.trans e2) _ fun r ys H3 e3 hr hy =>
  q p r xs ys H3 (e2.trans e3) (ex_l e3 hp) (hx.ex e3) hr hy
theorem iv_zipL {ta : TA} {ys : List β} {enc2 : β → PyData} (h : EAL2 K ta σ H (xs.map enc) (ys.map enc2)) : IV (RZ.iZipA K ta) σ H (xs.zip ys) (fun H v p => Dt K H v (.tuple [enc p.1, enc2 p.2])) Ex := fun H1 e1 Q q => h H1 e1 _ fun a b vs ws H2 e2 hs hx ht hy => by
  refine ⟨a, b, vs, ws, rfl, .inl ⟨hs, ht, q _ H2 (fun H => (SqL K H a vs ∧ Dts K H vs (xs.map enc)) ∧ SqL K H b ws ∧ Dts K H ws (ys.map enc2)) e2 (fun H3 k => ⟨⟨ex_l k hs, hx.ex k⟩, ex_l k ht, hy.ex k⟩) ⟨fun i H ⟨⟨hs, hd⟩, ht, hd2⟩ hi => ?_, fun H ⟨⟨hs, hd⟩, ht, hd2⟩ => ?_, fun i H v H' ⟨⟨hs, hd⟩, ht, hd2⟩ hi y => ?_⟩⟩⟩
  · rw [List.length_zip] at hi
    have h1 : i < vs.length := by rw [map_len hd]; omega
    have h2 : i < ws.length := by rw [map_len hd2]; omega
    exact ⟨vs, ws, vs[i], ws[i], hs, ht, List.getElem?_eq_getElem h1, List.getElem?_eq_getElem h2⟩
  · refine ⟨vs, ws, hs, ht, ?_⟩
    rw [map_len hd, map_len hd2, List.length_zip]
    omega
  · obtain ⟨T, x, z, rfl, hT, rfl, hx, hz⟩ := y
    obtain ⟨x', hx', hd'⟩ := map_at hd (hx vs hs)
    obtain ⟨z', hz', hd2'⟩ := map_at hd2 (hz ws ht)
    have ex : Ex H (upd H T (.tup [x, z])) := Ex.new hT
    exact ⟨(x', z'), zip_get hx' hz', ex, .tup (st_of upd_same) (.cons (hd'.ex ex) (.cons (hd2'.ex ex) .nil))⟩
/-! ### comprehensions -/
def made (f : α → Bool) (e : α → PyData) (xs : List α) : List PyData := (xs.filter f).map e
theorem made_succ {f : α → Bool} {e : α → PyData} {i : Nat} {x : α} (h : xs[i]? = some x) : made f e (xs.take (i + 1)) = made f e (xs.take i) ++ if f x then [e x] else [] := by
  unfold made
  rw [List.take_add_one, h, Option.toList_some, List.filter_append, List.map_append]
  cases hf : f x <;> simp [hf]
theorem made_len {f : α → Bool} {e : α → PyData} (i : Nat) : (made f e (xs.take i)).length ≤ xs.length := by
  unfold made
  rw [List.length_map]
  refine Nat.le_trans (List.length_filter_le _ _) ?_
  rw [List.length_take]
  omega
theorem l_lcI {wi : TI} {g : TG} {vs : List Nat} {R : Hp → V → α → Prop} {S : Hp → Hp → Prop} (f : α → Bool) (e : α → PyData) (h : IV wi σ H xs R S) (hS : ∀ {H H'}, Ex H H' → S H H') (hl : xs.length < 50000)
    (ht : ∀ x, x ∈ xs → ∀ v H1, Ex H H1 → R H1 v x → Trn K g t te vs σ H1 v (f x) (e x)) : EL K (tLc wi g t te vs) σ H (made f e xs) := fun H0 e0 Q q => h H0 e0 _ fun J H1 Kp e1 hk r Dl hD => by
  refine ⟨fun i m H' => m = xs.length - i ∧ i ≤ xs.length ∧ Cn K H1 Dl (made f e (xs.take i)) H', ⟨xs.length, by omega, Nat.zero_le _, hD, Ex.new hD, [], upd_same, .nil⟩, ?_⟩
  rintro i m H' ⟨rfl, hi, p⟩
  have kp := hk H' (hS p.2.1)
  by_cases hlt : i < xs.length
  · refine .inr ⟨r.go i H' kp hlt, Cn K H1 Dl (made f e (xs.take (i + 1))), fun H2 p2 => ⟨xs.length - (i + 1), by omega, rfl, hlt, p2⟩, fun v H2 y => ?_⟩
    obtain ⟨x, hx, ex, hr⟩ := r.yld i H' v H2 kp hlt y
    obtain ⟨p1, p2, acc, p3, p4⟩ := p
    have := cn_turn (es := made f e (xs.take i)) ⟨p1, p2.trans ex, acc, ex _ _ p3, p4.ex ex⟩ (Nat.lt_of_le_of_lt (made_len i) (by omega)) (ht x (List.mem_of_getElem? hx) v H2 ((e0.trans e1).trans (p2.trans ex)) hr)
    rw [← made_succ hx] at this
    exact this
  · obtain rfl : i = xs.length := by omega
    obtain ⟨p1, p2, acc, p3, p4⟩ := p
    rw [List.take_length] at p4
    exact .inl ⟨r.stop H' kp, q Dl acc H' (fresh_back e1 p1) (e1.trans p2) p3 p4⟩
/-- two fors -/
def Trn2 (K : PySem.W.Frag) {β : Type} (g : TG) (t : TT) (wi1 : TI) (g1 : TG) (t1 : TT) (te : TE) (vs vs1 : List Nat) (σ : L2.St) (H : Hp) (v : V) (f : Bool) (ys : List β) (f1 : β → Bool) (e1 : β → PyData) : Prop :=
  ∃ σ2, (∀ Q : L2.St → Hp → Prop, Q σ2 H → g v (wipe σ vs) H Q) ∧ wipe σ2 vs = wipe σ vs ∧ EvT t σ2 H f ∧ (f = true → ∃ (R : Hp → V → β → Prop), IV wi1 σ2 H ys R (TLe K) ∧
    ∀ y, y ∈ ys → ∀ u H1, TLe K H H1 → R H1 u y → Trn K g1 t1 te vs1 σ2 H1 u (f1 y) (e1 y))
def made2 (f : α → Bool) (ys : α → List β) (f1 : α → β → Bool) (e : α → β → PyData) (xs : List α) : List PyData := xs.flatMap fun x => if f x then made (f1 x) (e x) (ys x) else []
theorem made2_succ {f : α → Bool} {ys : α → List β} {f1 : α → β → Bool} {e : α → β → PyData} {i : Nat} {x : α} (h : xs[i]? = some x) : made2 f ys f1 e (xs.take (i + 1)) = made2 f ys f1 e (xs.take i) ++ if f x then made (f1 x) (e x) (ys x) else [] := by
  unfold made2
  rw [List.take_add_one, h, Option.toList_some, List.flatMap_append]
  simp
theorem made2_len {f : α → Bool} {ys : α → List β} {f1 : α → β → Bool} {e : α → β → PyData} {n : Nat} : ∀ xs : List α, (∀ x ∈ xs, f x = true → (ys x).length < n) → (made2 f ys f1 e xs).length ≤ xs.length * n
  | [], _ => Nat.zero_le _
  | x :: xs, h => by
    have ih := made2_len (f1 := f1) (e := e) xs fun y hy => h y (List.mem_cons_of_mem _ hy)
    have h1 : (if f x then made (f1 x) (e x) (ys x) else []).length ≤ n := by
      cases hf : f x with
      | true =>
        have := h x List.mem_cons_self hf
        rw [if_pos rfl]
        unfold made
        rw [List.length_map]
        exact Nat.le_trans (List.length_filter_le _ _) (Nat.le_of_lt this)
      | false => exact Nat.zero_le _
    unfold made2 at ih ⊢
    rw [List.flatMap_cons, List.length_append, List.length_cons, Nat.succ_mul]
    omega
theorem l_lc2I {wi wi1 : TI} {g g1 : TG} {t1 : TT} {vs vs1 : List Nat} {R : Hp → V → α → Prop} {S : Hp → Hp → Prop} (f : α → Bool) (ys : α → List β) (f1 : α → β → Bool) (e : α → β → PyData) (h : IV wi σ H xs R S) (hS : ∀ {H H'}, Ex H H' → S H H') (hl : xs.length < 300)
    (hy : ∀ x ∈ xs, f x = true → (ys x).length < 100)
    (ht : ∀ x, x ∈ xs → ∀ v H1, Ex H H1 → R H1 v x → Trn2 K g t wi1 g1 t1 te vs vs1 σ H1 v (f x) (ys x) (f1 x) (e x)) : EL K (tLc2 wi g t wi1 g1 t1 te vs vs1) σ H (made2 f ys f1 e xs) := fun H0 e0 Q q => h H0 e0 _ fun J H1 Kp e1 hk r Dl hD => by
  refine ⟨fun i m H' => m = xs.length - i ∧ i ≤ xs.length ∧ Cn K H1 Dl (made2 f ys f1 e (xs.take i)) H', ⟨xs.length, by omega, Nat.zero_le _, hD, Ex.new hD, [], upd_same, .nil⟩, ?_⟩
  rintro i m H' ⟨rfl, hi, p⟩
  have kp := hk H' (hS p.2.1)
  by_cases hlt : i < xs.length
  · refine .inr ⟨r.go i H' kp hlt, Cn K H1 Dl (made2 f ys f1 e (xs.take (i + 1))), fun H2 p2 => ⟨xs.length - (i + 1), by omega, rfl, hlt, p2⟩, fun v H2 y => ?_⟩
    obtain ⟨x, hx, ex, hr⟩ := r.yld i H' v H2 kp hlt y
    obtain ⟨p1, p2, acc, p3, p4⟩ := p
    have hm := List.mem_of_getElem? hx
    obtain ⟨σ2, a1, a2, a3, a4⟩ := ht x hm v H2 ((e0.trans e1).trans (p2.trans ex)) hr
    refine a1 _ ⟨a2, a3 H2 (Ex.refl H2) _ fun H3 e3 => ?_⟩
    have p2' := (p2.trans ex).trans e3
    have p3' := e3 _ _ (ex _ _ p3)
    have p4' := (p4.ex ex).ex e3
    have ln : (made2 f ys f1 e (xs.take i)).length ≤ 30000 := by
      have q1 := made2_len (f := f) (ys := ys) (f1 := f1) (e := e) (n := 100) (xs.take i) fun z hz => hy z (List.mem_of_mem_take hz)
      rw [List.length_take] at q1
      omega
    rw [made2_succ hx]
    cases hf : f x with
    | false =>
      show Cn K H1 Dl _ H3
      refine ⟨p1, p2', acc, p3', ?_⟩
      simpa using p4'
    | true =>
      show wi1 σ2 H3 _
      obtain ⟨R1, b1, b4⟩ := a4 hf
      refine b1 H3 e3 _ fun J1 H4 Kp1 e4 hk1 r1 => ?_
      refine ⟨fun j k H' => k = (ys x).length - j ∧ j ≤ (ys x).length ∧ TLe K H4 H' ∧ (∀ a o, a ≠ Dl → H4 a = some o → H' a = some o) ∧ Cn K H1 Dl (made2 f ys f1 e (xs.take i) ++ made (f1 x) (e x) ((ys x).take j)) H', ⟨(ys x).length, by omega, Nat.zero_le _, TLe.refl, fun _ _ _ z => z, p1, p2'.trans e4, acc, e4 _ _ p3', ?_⟩, ?_⟩
      · show Dts K H4 acc (_ ++ [])
        rw [List.append_nil]
        exact p4'.ex e4
      · rintro j k H5 ⟨rfl, hj, tl, ko, c1, c2, acc5, c3, c4⟩
        have kp1 := hk1 H5 tl
        by_cases hjl : j < (ys x).length
        · refine .inr ⟨r1.go j H5 kp1 hjl, fun H' => TLe K H4 H' ∧ (∀ a o, a ≠ Dl → H4 a = some o → H' a = some o) ∧ Cn K H1 Dl (made2 f ys f1 e (xs.take i) ++ made (f1 x) (e x) ((ys x).take (j + 1))) H', fun H6 p6 => ⟨(ys x).length - (j + 1), by omega, rfl, hjl, p6⟩, fun u H6 y1 => ?_⟩
          obtain ⟨z, hz, ex1, hr1⟩ := r1.yld j H5 u H6 kp1 hjl y1
          have hzm := List.mem_of_getElem? hz
          have hx2 : Ex H2 H4 := e3.trans e4
          obtain ⟨σ3, d1, d2, d3, d4⟩ := b4 z hzm u H6 (((TLe.ex hx2).trans tl).trans (TLe.ex ex1)) hr1
          refine d1 _ ⟨d2, d3 H6 (Ex.refl H6) _ fun H7 e7 => ?_⟩
          have l1 : (made2 f ys f1 e (xs.take i) ++ made (f1 x) (e x) ((ys x).take j)).length < 60000 := by
            rw [List.length_append]
            have := made_len (f := f1 x) (e := e x) (xs := ys x) j
            have := hy x hm hf
            omega
          have t7 : TLe K H4 H7 := tl.trans (TLe.ex (ex1.trans e7))
          have ko7 : ∀ a o, a ≠ Dl → H4 a = some o → H7 a = some o := fun a o ha z => e7 _ _ (ex1 _ _ (ko a o ha z))
          rw [made_succ hz, ← List.append_assoc]
          cases hf1 : f1 x z with
          | false =>
            show _ ∧ _ ∧ Cn K H1 Dl _ H7
            refine ⟨t7, ko7, c1, (c2.trans ex1).trans e7, acc5, e7 _ _ (ex1 _ _ c3), ?_⟩
            simpa using (c4.ex ex1).ex e7
          | true =>
            show te σ3 H7 _
            refine d4 hf1 H7 e7 _ fun y H8 e8 hy8 => ?_
            have q8 := e8 _ _ (e7 _ _ (ex1 _ _ c3))
            have dd := ((c4.ex ex1).ex e7).ex e8
            refine ⟨acc5, q8, sz_lt (by rw [dd.length]; omega), (t7.trans (TLe.ex e8)).trans (TLe.lst q8), fun a o ha z => ?_, c1, Ex.mut (((c2.trans ex1).trans e7).trans e8) c1, _, upd_same, ?_⟩
            · rw [upd_ne ha]
              exact e8 _ _ (ko7 a o ha z)
            · rw [if_pos rfl]
              exact (dd.mono (TLe.lst q8)).append (.cons (hy8.mono (TLe.lst q8)) .nil)
        · obtain rfl : j = (ys x).length := by omega
          rw [List.take_length] at c4
          exact .inl ⟨r1.stop H5 kp1, c1, c2, acc5, c3, c4⟩
  · obtain rfl : i = xs.length := by omega
    obtain ⟨p1, p2, acc, p3, p4⟩ := p
    rw [List.take_length] at p4
    exact .inl ⟨r.stop H' kp, q Dl acc H' (fresh_back e1 p1) (e1.trans p2) p3 p4⟩
/-! dict comprehension: names to values -/
def TrnD (K : PySem.W.Frag) (g : TG) (t : TT) (tk tv : TE) (vs : List Nat) (σ : L2.St) (H : Hp) (v : V) (k : Str) (W : Hp → V → Prop) : Prop :=
  ∃ σ2, (∀ Q : L2.St → Hp → Prop, Q σ2 H → g v (wipe σ vs) H Q) ∧ wipe σ2 vs = wipe σ vs ∧ EvT t σ2 H true ∧ Ev tk σ2 H (.str k) ∧ ∀ H1, Ex H H1 → ∀ Q : VK, (∀ v H2, Ex H1 H2 → W H2 v → Q v H2) → tv σ2 H1 Q
/-- a dict from the names ks, the values as W says -/
def DK (W : Hp → V → Str → Prop) (H : Hp) (kvs : List (Key × V)) (ks : List Str) : Prop := kvs.map (·.1) = ks.map Sum.inr ∧ ∀ p ∈ kvs, ∀ k, p.1 = .inr k → W H p.2 k
theorem putK_new {kvs : List (Key × V)} {k : Key} {v : V} (h : k ∉ kvs.map (·.1)) : putK kvs k v = kvs ++ [(k, v)] := by
  unfold putK
  rw [if_neg]
  intro c
  obtain ⟨p, hp, e⟩ := List.any_eq_true.mp c
  exact h (List.mem_map.mpr ⟨p, hp, of_decide_eq_true e⟩)
theorem d_dcI {wi : TI} {g : TG} {tk tv : TE} {vs : List Nat} {R : Hp → V → Str → Prop} {S : Hp → Hp → Prop} {ks : List Str} (W : Hp → V → Str → Prop) (hW : ∀ {H H' v k}, (∀ a o, (∀ xs, o ≠ .dK xs) → H a = some o → H' a = some o) → W H v k → W H' v k) (h : IV wi σ H ks R S) (hS : ∀ {H H'}, Ex H H' → S H H') (hl : ks.length < 5000) (hn : ks.Nodup)
    (ht : ∀ k, k ∈ ks → ∀ v H1, Ex H H1 → R H1 v k → TrnD K g t tk tv vs σ H1 v k (fun H v => W H v k)) : ∀ H0, Ex H H0 → ∀ Q : VK, (∀ p kvs H2, H0 p = none → Ex H0 H2 → H2 p = some (.dK kvs) → DK W H2 kvs ks → Q (.ref p) H2) → tDc wi g t tk tv vs σ H0 Q := fun H0 e0 Q q => h H0 e0 _ fun J H1 Kp e1 hk r Dl hD => by
  refine ⟨fun i m H' => m = ks.length - i ∧ i ≤ ks.length ∧ Ex H1 H' ∧ ∃ kvs, H' Dl = some (.dK kvs) ∧ DK W H' kvs (ks.take i), ⟨ks.length, by omega, Nat.zero_le _, Ex.new hD, [], upd_same, rfl, nofun⟩, ?_⟩
  rintro i m H' ⟨rfl, hi, p1, kvs, p2, p3, p4⟩
  have kp := hk H' (hS p1)
  by_cases hlt : i < ks.length
  · refine .inr ⟨r.go i H' kp hlt, fun H' => Ex H1 H' ∧ ∃ kvs, H' Dl = some (.dK kvs) ∧ DK W H' kvs (ks.take (i + 1)), fun H2 p2 => ⟨ks.length - (i + 1), by omega, rfl, hlt, p2⟩, fun v H2 y => ?_⟩
    obtain ⟨x, hx, ex, hr⟩ := r.yld i H' v H2 kp hlt y
    obtain ⟨σ2, a1, a2, a3, a4, a5⟩ := ht x (List.mem_of_getElem? hx) v H2 ((e0.trans e1).trans (p1.trans ex)) hr
    refine a1 _ ⟨a2, a3 H2 (Ex.refl H2) _ fun H3 e3 => ?_⟩
    show tk σ2 H3 _
    refine a4 H3 e3 _ fun H4 e4 => a5 H4 (e3.trans e4) _ fun z H5 e5 hz => ?_
    have x5 : Ex H' H5 := ((ex.trans e3).trans e4).trans e5
    have q5 := x5 _ _ p2
    have hnk : (Sum.inr x : Key) ∉ kvs.map (·.1) := by
      rw [p3]
      intro c
      obtain ⟨y, hy, e⟩ := List.mem_map.mp c
      injection e with e
      subst e
      obtain ⟨j, hj, ej⟩ := List.getElem_of_mem hy
      rw [List.length_take] at hj
      have e2 : ks[j]? = some y := by
        rw [List.getElem_take] at ej
        rw [← ej]
        exact List.getElem?_eq_getElem _
      have := (List.getElem?_inj (by omega) hn).mp (e2.trans hx.symm)
      omega
    have len : kvs.length = i := by
      have := congrArg List.length p3
      rw [List.length_map, List.length_map, List.length_take] at this
      omega
    refine ⟨kvs, .inr x, rfl, q5, sz_lt (by omega), Ex.mut (p1.trans x5) hD, _, upd_same, ?_, ?_⟩
    · rw [putK_new hnk, List.map_append, p3, List.take_add_one, hx, Option.toList_some, List.map_append]
      rfl
    · rw [putK_new hnk]
      intro p hp k hk'
      have st : ∀ a o, (∀ xs, o ≠ HO.dK xs) → H5 a = some o → upd H5 Dl (.dK (kvs ++ [(.inr x, z)])) a = some o := fun a o ho e => by
        rw [upd_ne fun c => by rw [c, q5] at e; exact ho _ (Option.some.inj e).symm]
        exact e
      rcases List.mem_append.mp hp with hp | hp
      · exact hW (fun a o ho e => st a o ho (x5 _ _ e)) (p4 p hp k hk')
      · rw [List.mem_singleton] at hp
        subst hp
        injection hk' with hk'
        subst hk'
        exact hW st hz
  · obtain rfl : i = ks.length := by omega
    rw [List.take_length] at p3
    exact .inl ⟨r.stop H' kp, q Dl kvs H' (fresh_back e1 hD) (e1.trans p1) p2 ⟨p3, by simpa using p4⟩⟩
/-! ### loops -/
variable {D : Ends} {tz tbd : TS}
theorem s_forI {wi : TI} {g : TG} {R : Hp → V → α → Prop} {S : Hp → Hp → Prop} (h : IV wi σ H xs R S) (Pv : Hp → Nat → L2.St → Hp → Prop) (h0 : ∀ H2, Ex H H2 → Pv H2 0 σ H2) (hS : ∀ H2 i σ' H', Ex H H2 → Pv H2 i σ' H' → S H2 H')
    (hs : ∀ H2 i x v σ' H' H3, Ex H H2 → xs[i]? = some x → Pv H2 i σ' H' → Ex H' H3 → R H3 v x → g v σ' H3 fun σ2 H4 => tbd { D with nx := Pv H2 (i + 1), ct := Pv H2 (i + 1), bk := D.nx } σ2 H4)
    (hd : ∀ H2 σ' H', Ex H H2 → Pv H2 xs.length σ' H' → D.nx σ' H') : tFor wi g tbd D σ H := h H (Ex.refl H) _ fun J H1 Kp e1 hk r => by
  refine ⟨fun i m σ' H' => m = xs.length - i ∧ i ≤ xs.length ∧ Pv H1 i σ' H', ⟨xs.length, by omega, Nat.zero_le _, h0 H1 e1⟩, ?_⟩
  rintro i m σ' H' ⟨rfl, hi, p⟩
  have kp := hk H' (hS H1 i σ' H' e1 p)
  by_cases hlt : i < xs.length
  · refine .inr ⟨r.go i H' kp hlt, Pv H1 (i + 1), fun σ2 H2 p2 => ⟨xs.length - (i + 1), by omega, rfl, hlt, p2⟩, fun v H2 y => ?_⟩
    obtain ⟨x, hx, ex, hr⟩ := r.yld i H' v H2 kp hlt y
    exact hs H1 i x v σ' H' H2 e1 hx p ex hr
  · obtain rfl : i = xs.length := by omega
    exact .inl ⟨r.stop H' kp, hd H1 σ' H' e1 p⟩
theorem q_forI {wi : TI} {g : TG} {R : Hp → V → α → Prop} {S : Hp → Hp → Prop} (h : IV wi σ H xs R S) (Pv : Hp → Nat → L2.St → Hp → Prop) (h0 : ∀ H2, Ex H H2 → Pv H2 0 σ H2) (hS : ∀ H2 i σ' H', Ex H H2 → Pv H2 i σ' H' → S H2 H')
    (hs : ∀ H2 i x v σ' H' H3, Ex H H2 → xs[i]? = some x → Pv H2 i σ' H' → Ex H' H3 → R H3 v x → g v σ' H3 fun σ2 H4 => tbd { D with nx := Pv H2 (i + 1), ct := Pv H2 (i + 1), bk := tz D } σ2 H4)
    (hd : ∀ H2 σ' H', Ex H H2 → Pv H2 xs.length σ' H' → tz D σ' H') : tSeq (tFor wi g tbd) tz D σ H := s_forI (D := { D with nx := tz D }) h Pv h0 hS hs hd
/-- t[k], k a number -/
theorem g_ixk {k : Nat} (ha : ED K ta σ H (.tuple ds)) (hd : ds[k]? = some d) : ED K (tOp (rIxT K) ta (tC (.int k))) σ H d := g_ixT ha g_int (ixN_at (List.getElem?_eq_some_iff.mp hd).1) hd
theorem made_all {e : α → PyData} : made (fun _ => true) e xs = xs.map e := by unfold made; rw [List.filter_eq_self.mpr fun _ _ => rfl]
/-- turns whose target is a tuple of names -/
theorem trn_t2 {i j : Nat} {vs : List Nat} {f : Bool} {e a b : PyData} (hd : Dt K H v (.tuple [a, b])) (h : ∀ x y, Dt K H x a → Dt K H y b → wipe (((wipe σ vs).set i (some x)).set j (some y)) vs = wipe σ vs ∧ EvT t (((wipe σ vs).set i (some x)).set j (some y)) H f ∧
    (f = true → ED K te (((wipe σ vs).set i (some x)).set j (some y)) H e)) : Trn K (gTup K 2 (gCons (gName i) (gCons (gName j) gNil))) t te vs σ H v f e := by
  refine trn_tup hd rfl fun ws hw => ?_
  obtain ⟨x, y, rfl, hx, hy⟩ := dts2 hw
  exact ⟨_, fun Q q => ⟨x, [y], rfl, y, [], rfl, rfl, q⟩, h x y hx hy⟩
theorem trn_t3 {i j k : Nat} {vs : List Nat} {f : Bool} {e a b c : PyData} (hd : Dt K H v (.tuple [a, b, c])) (h : ∀ x y z, Dt K H x a → Dt K H y b → Dt K H z c → wipe ((((wipe σ vs).set i (some x)).set j (some y)).set k (some z)) vs = wipe σ vs ∧
    EvT t ((((wipe σ vs).set i (some x)).set j (some y)).set k (some z)) H f ∧ (f = true → ED K te ((((wipe σ vs).set i (some x)).set j (some y)).set k (some z)) H e)) : Trn K (gTup K 3 (gCons (gName i) (gCons (gName j) (gCons (gName k) gNil)))) t te vs σ H v f e := by
  refine trn_tup hd rfl fun ws hw => ?_
  obtain ⟨x, y, z, rfl, hx, hy, hz⟩ := dts3 hw
  exact ⟨_, fun Q q => ⟨x, [y, z], rfl, y, [z], rfl, z, [], rfl, rfl, q⟩, h x y z hx hy hz⟩
/-- targets of loops -/
theorem g_t2 {i j : Nat} {a b : PyData} {Q : L2.St → Hp → Prop} (hd : Dt K H v (.tuple [a, b])) (h : ∀ x y, Dt K H x a → Dt K H y b → Q ((σ.set i (some x)).set j (some y)) H) : gTup K 2 (gCons (gName i) (gCons (gName j) gNil)) v σ H Q := by
  obtain ⟨p, xs, rfl, hs, hx⟩ := hd.tupV
  obtain ⟨x, y, rfl, hx, hy⟩ := dts2 hx
  exact ⟨p, _, rfl, hs, rfl, x, [y], rfl, y, [], rfl, rfl, h x y hx hy⟩
theorem g_t3 {i j k : Nat} {a b c : PyData} {Q : L2.St → Hp → Prop} (hd : Dt K H v (.tuple [a, b, c])) (h : ∀ x y z, Dt K H x a → Dt K H y b → Dt K H z c → Q (((σ.set i (some x)).set j (some y)).set k (some z)) H) : gTup K 3 (gCons (gName i) (gCons (gName j) (gCons (gName k) gNil))) v σ H Q := by
  obtain ⟨p, xs, rfl, hs, hx⟩ := hd.tupV
  obtain ⟨x, y, z, rfl, hx, hy, hz⟩ := dts3 hx
  exact ⟨p, _, rfl, hs, rfl, x, [y, z], rfl, y, [z], rfl, z, [], rfl, rfl, h x y z hx hy hz⟩
theorem g_t4 {i j k l : Nat} {a b c d : PyData} {Q : L2.St → Hp → Prop} (hd : Dt K H v (.tuple [a, b, c, d])) (h : ∀ x y z u, Dt K H x a → Dt K H y b → Dt K H z c → Dt K H u d → Q ((((σ.set i (some x)).set j (some y)).set k (some z)).set l (some u)) H) : gTup K 4 (gCons (gName i) (gCons (gName j) (gCons (gName k) (gCons (gName l) gNil)))) v σ H Q := by
  obtain ⟨p, xs, rfl, hs, hx⟩ := hd.tupV
  obtain ⟨x, y, z, u, rfl, hx, hy, hz, hu⟩ := dts4 hx
  exact ⟨p, _, rfl, hs, rfl, x, [y, z, u], rfl, y, [z, u], rfl, z, [u], rfl, u, [], rfl, rfl, h x y z u hx hy hz hu⟩
/-! slices -/
def cutD (ds : List PyData) (lo hi : Option Int) : List PyData := (ds.drop (HT.sIx ds.length 0 lo)).take (HT.sIx ds.length ds.length hi - HT.sIx ds.length 0 lo)
theorem cut_dts {vs : List V} (h : Dts K H vs ds) (lo hi : Option Int) : Dts K H (cutV vs lo hi) (cutD ds lo hi) := by
  unfold cutV cutD
  rw [h.length]
  exact (h.drop _).take _
theorem cutD_from (ds : List PyData) (k : Nat) : cutD ds (some (k : Int)) none = ds.drop k := by
  unfold cutD
  rw [HT.sIx_nat, HT.sIx_none]
  rcases Nat.le_total k ds.length with h | h
  · rw [Nat.min_eq_left h, List.take_of_length_le (by rw [List.length_drop]; exact Nat.le_refl _)]
  · rw [Nat.min_eq_right h, List.drop_of_length_le h, List.drop_of_length_le (Nat.le_refl _), List.take_nil]
theorem cutD_to (ds : List PyData) (k : Nat) : cutD ds none (some (k : Int)) = ds.take k := by
  unfold cutD
  rw [HT.sIx_nat, HT.sIx_none, List.drop_zero, Nat.sub_zero]
  rcases Nat.le_total k ds.length with h | h
  · rw [Nat.min_eq_left h]
  · rw [Nat.min_eq_right h, List.take_of_length_le (Nat.le_refl _), List.take_of_length_le h]
theorem cutD_last (ds : List PyData) : cutD ds none (some (-1)) = ds.dropLast := by
  unfold cutD
  rw [HT.sIx_none, List.drop_zero, Nat.sub_zero, List.dropLast_eq_take]
  congr 1
  show (if (-1 : Int) < 0 then ((-1 : Int) + (ds.length : Int)).toNat else min (-1 : Int).toNat ds.length) = _
  rw [if_pos (by omega)]
  omega
theorem g_slT {tl th : TO} {lo hi : Option Int} (h : ED K te σ H (.tuple ds)) (h1 : EvO tl σ H lo) (h2 : EvO th σ H hi) : ED K (tSl (rSlA K) te tl th) σ H (.tuple (cutD ds lo hi)) := fun H1 e1 Q q => h H1 e1 _ fun v H2 e2 hv => by
  obtain ⟨a, vs, rfl, hs, hx⟩ := hv.tupV
  refine h1 H2 (e1.trans e2) _ fun H3 e3 => h2 H3 ((e1.trans e2).trans e3) _ fun H4 e4 => ?_
  have e34 := e3.trans e4
  refine ⟨a, vs, rfl, ex_t e34 hs, fun hw => q _ H4 (e2.trans e34) (.tup (ex_t e34 hs) ?_), fun _ p hp => q _ _ ((e2.trans e34).trans (Ex.new hp)) (.tup (st_of upd_same) ((cut_dts (hx.ex e34) lo hi).ex (Ex.new hp)))⟩
  have c := cut_dts (hx.ex e34) lo hi
  unfold cutV at c
  rw [hw.1, hw.2, List.drop_zero, Nat.sub_zero, List.take_length] at c
  exact c
theorem l_slL {tl th : TO} {lo hi : Option Int} (h : ES K te σ H ds) (h1 : EvO tl σ H lo) (h2 : EvO th σ H hi) : EL K (tSl (rSlL K) te tl th) σ H (cutD ds lo hi) := fun H1 e1 Q q => h H1 e1 _ fun a vs H2 e2 hs hx => by
  refine h1 H2 (e1.trans e2) _ fun H3 e3 => h2 H3 ((e1.trans e2).trans e3) _ fun H4 e4 => ?_
  have e34 := e3.trans e4
  exact ⟨a, vs, rfl, ex_l e34 hs, fun p hp => q p _ _ (fresh_back (e2.trans e34) hp) ((e2.trans e34).trans (Ex.new hp)) upd_same ((cut_dts (hx.ex e34) lo hi).ex (Ex.new hp))⟩
/-! isinstance -/
def tyD : PyData → Value
  | .none => .type "NoneType"
  | .bool _ => .type "bool"
  | .int _ => .type "int"
  | .str _ => .type "str"
  | .list _ => .type "list"
  | .tuple _ => .type "tuple"
  | .dict _ => .type "dict"
theorem tyx_of (h : Dt K H v d) : TyX K H v (tyD d) := by
  cases h with
  | non => exact .base .non
  | bl b => exact .base (.bl b)
  | int i => exact .base (.int i)
  | str x => exact .base (.str x)
  | tup hs _ =>
    rcases hs with (h | ⟨ob, h⟩) | ⟨o, _, _, h1, h2, _⟩
    · exact .base (.tup h)
    · exact .fTuple h
    · exact .kTuple h1 h2
theorem g_isi1 {T : String} {b : Bool} (h : ED K te σ H d) (hk : PySem.W.kitOne K (tyD d) (.type T) = some b) : ED K (tCB (rIsi K) (tCons te (tCons (tC (.ty T)) tNil))) σ H (.bool b) := fun H1 e1 Q q => h H1 e1 _ fun v H2 e2 hv =>
  ⟨v, .ty T, _, _, b, rfl, .ty T, tyx_of hv, hk, q _ H2 e2 (.bl _)⟩
theorem g_isi2 {T U : String} {b : Bool} (h : ED K te σ H d) (hk : PySem.W.kitAny K (tyD d) [.type T, .type U] = some b) : ED K (tCB (rIsiT K) (tCons te (tCons (tTup (tCons (tC (.ty T)) (tCons (tC (.ty U)) tNil))) tNil))) σ H (.bool b) := fun H1 e1 Q q => h H1 e1 _ fun v H2 e2 hv =>
  ⟨sz_of (by simp), fun p hp => ⟨v, p, [.ty T, .ty U], _, _, b, rfl, upd_same, .cons (.ty T) (.cons (.ty U) .nil), tyx_of (hv.ex (Ex.new hp)), hk, q _ _ (e2.trans (Ex.new hp)) (.bl _)⟩⟩
/-! lists that grow -/
theorem s_appD {l : Addr} {zs : List V} {to : TE} (hl : H l = some (.lst zs)) (ha : Ev to σ H (.ref l)) (h : ED K te σ H d) (hz : zs.length < 100000) (k : ∀ v H1, Ex H H1 → Dt K H1 v d → D.nx σ (upd H1 l (.lst (zs ++ [v])))) : tDrop (tBM K "list" rAppend to (tCons te tNil)) D σ H :=
  ha H (Ex.refl H) _ fun H1 e1 => ⟨.inl ⟨rfl, zs, sq_of (e1 _ _ hl)⟩, h H1 e1 _ fun v H2 e2 hv => ⟨l, zs, v, rfl, rfl, e2 _ _ (e1 _ _ hl), sz_lt hz, k v H2 (e1.trans e2) hv⟩⟩
theorem s_extD {l : Addr} {zs : List V} {to : TE} (hl : H l = some (.lst zs)) (ha : Ev to σ H (.ref l)) (h : EL K te σ H ds) (hz : zs.length + ds.length < 100000) (k : ∀ ws H1, Ex H H1 → Dts K H1 ws ds → D.nx σ (upd H1 l (.lst (zs ++ ws)))) : tDrop (tBM K "list" rExtend to (tCons te tNil)) D σ H :=
  ha H (Ex.refl H) _ fun H1 e1 => ⟨.inl ⟨rfl, zs, sq_of (e1 _ _ hl)⟩, h H1 e1 _ fun p ws H2 hp e2 h2 hw => ⟨l, p, zs, ws, rfl, rfl, e2 _ _ (e1 _ _ hl), h2, sz_of (by rw [hw.length]; omega), k ws H2 (e1.trans e2) hw⟩⟩
theorem q_appD {l : Addr} {zs : List V} {to : TE} (hl : H l = some (.lst zs)) (ha : Ev to σ H (.ref l)) (h : ED K te σ H d) (hz : zs.length < 100000) (k : ∀ v H1, Ex H H1 → Dt K H1 v d → tz D σ (upd H1 l (.lst (zs ++ [v])))) : tSeq (tDrop (tBM K "list" rAppend to (tCons te tNil))) tz D σ H := s_appD (D := { D with nx := tz D }) hl ha h hz k
theorem q_extD {l : Addr} {zs : List V} {to : TE} (hl : H l = some (.lst zs)) (ha : Ev to σ H (.ref l)) (h : EL K te σ H ds) (hz : zs.length + ds.length < 100000) (k : ∀ ws H1, Ex H H1 → Dts K H1 ws ds → tz D σ (upd H1 l (.lst (zs ++ ws)))) : tSeq (tDrop (tBM K "list" rExtend to (tCons te tNil))) tz D σ H := s_extD (D := { D with nx := tz D }) hl ha h hz k
/-- a, b = e, [..] -/
theorem q_parDL {i j : Nat} (h1 : ED K ta σ H d) (h2 : EL K tb σ H ds) (k : ∀ v p xs H1, Ex H H1 → H p = none → Dt K H1 v d → H1 p = some (.lst xs) → Dts K H1 xs ds → tz D ((σ.set i (some v)).set j (some (.ref p))) H1) : tSeq (tPar i j (tCons ta (tCons tb tNil))) tz D σ H :=
  h1 H (Ex.refl H) _ fun v H1 e1 hv => h2 H1 e1 _ fun p xs H2 hp e2 hx hd => ⟨v, .ref p, rfl, k v p xs H2 (e1.trans e2) (fresh_back e1 hp) (hv.ex e2) hx hd⟩
/-- to some datum with R -/
def ER (K : PySem.W.Frag) (te : TE) (σ : L2.St) (H : Hp) (R : PyData → Prop) : Prop := ∀ H1, Ex H H1 → ∀ Q : VK, (∀ v H2 d, Ex H1 H2 → Dt K H2 v d → R d → Q v H2) → te σ H1 Q
theorem ER.of {R : PyData → Prop} (h : ED K te σ H d) (hr : R d) : ER K te σ H R := fun H1 e Q q => h H1 e Q fun v H2 e2 hd => q v H2 d e2 hd hr
theorem q_asgR {i : Nat} {R : PyData → Prop} (h : ER K te σ H R) (k : ∀ v H1 d, Ex H H1 → Dt K H1 v d → R d → tz D (σ.set i (some v)) H1) : tSeq (tAsg te (gName i)) tz D σ H := h H (Ex.refl H) _ k
theorem s_retR {R : PyData → Prop} (h : ER K te σ H R) (k : ∀ v H1 d, Ex H H1 → Dt K H1 v d → R d → D.rt v H1) : tRet te D σ H := h H (Ex.refl H) _ k
end
end K77
set_option maxHeartbeats 1000000
/-! Sorted lists without repeats are told by what they hold. -/
namespace K77
open PySem PySem.Spec PyProof.Rows L2 Evl
theorem perm_uniq {α : Type} {r : α → α → Prop} : ∀ {l m : List α}, (∀ a ∈ l, ∀ b ∈ l, r a b → r b a → a = b) → l.Perm m → l.Pairwise r → m.Pairwise r → l = m
  | [], m, _, p, _, _ => (List.Perm.nil_eq p)
  | a :: l, [], _, p, _, _ => absurd p.length_eq (by simp)
  | a :: l, b :: m, anti, p, h1, h2 => by
    obtain ⟨h1a, h1b⟩ := List.pairwise_cons.mp h1
    obtain ⟨h2a, h2b⟩ := List.pairwise_cons.mp h2
    have e : a = b := by
      rcases List.mem_cons.mp (p.mem_iff.mp List.mem_cons_self) with e | e
      · exact e
      · rcases List.mem_cons.mp (p.mem_iff.mpr List.mem_cons_self) with e' | e'
        · exact e'.symm
        · exact anti a List.mem_cons_self b (List.mem_cons_of_mem _ e') (h1a b e') (h2a a e)
    subst e
    rw [perm_uniq (fun x hx y hy => anti x (List.mem_cons_of_mem _ hx) y (List.mem_cons_of_mem _ hy)) (List.Perm.cons_inv p) h1b h2b]
def NotGt (x y : PyData) : Prop := PySem.W.dataLt y x = false
theorem toks_of {x y : PyData} (h1 : NotGt x y) (h2 : NotGt y x) : PySem.W.keyToks x = PySem.W.keyToks y := PyProof.Rows.lex_total _ _ h2 h1
theorem anti_int {i j : Int} (h1 : NotGt (.int i) (.int j)) (h2 : NotGt (.int j) (.int i)) : i = j := by
  have := toks_of h1 h2
  simpa [PySem.W.keyToks] using this
theorem anti_str {x y : Str} (h1 : NotGt (.str x) (.str y)) (h2 : NotGt (.str y) (.str x)) : x = y := by
  have := toks_of h1 h2
  simp only [PySem.W.keyToks, List.cons.injEq, Sum.inr.injEq, and_true] at this
  exact PySem.W.str_of_cps this
abbrev prD (p : Str × Str) : PyData := .tuple [.str p.1, .str p.2]
theorem anti_pr {p q : Str × Str} (h1 : NotGt (prD p) (prD q)) (h2 : NotGt (prD q) (prD p)) : p = q := by
  have := toks_of h1 h2
  simp only [PySem.W.keyToks, PySem.W.keyToksAll, List.cons_append, List.nil_append, List.cons.injEq, Sum.inr.injEq, and_true, true_and] at this
  obtain ⟨a, b⟩ := p
  obtain ⟨c, d⟩ := q
  rw [PySem.W.str_of_cps (x := a) (y := c) this.1, PySem.W.str_of_cps (x := b) (y := d) this.2]
theorem all_of {α : Type} {enc : α → PyData} : ∀ {es : List PyData}, (∀ d ∈ es, ∃ x, d = enc x) → ∃ xs : List α, es = xs.map enc
  | [], _ => ⟨[], rfl⟩
  | d :: es, h => by
    obtain ⟨x, rfl⟩ := h d List.mem_cons_self
    obtain ⟨xs, rfl⟩ := all_of fun e he => h e (List.mem_cons_of_mem _ he)
    exact ⟨x :: xs, rfl⟩
/-- what a set, sorted, holds -/
structure SetRes (ds es : List PyData) : Prop where
  nd : es.Nodup
  mem : ∀ d, d ∈ es ↔ d ∈ ds
  srt : es.Pairwise NotGt
  len : es.length ≤ ds.length
theorem set_uniq {α : Type} {enc : α → PyData} (anti : ∀ a b, NotGt (enc a) (enc b) → NotGt (enc b) (enc a) → a = b) {l m : List α} (h : SetRes (l.map enc) es) (hn : m.Nodup) (hm : ∀ x, x ∈ m ↔ x ∈ l) (hs : m.Pairwise fun a b => NotGt (enc a) (enc b)) : es = m.map enc := by
  have inj : ∀ a b, enc a = enc b → a = b := fun a b e => anti a b (by rw [e]; exact PyProof.Rows.lex_irrefl _) (by rw [e]; exact PyProof.Rows.lex_irrefl _)
  refine perm_uniq (r := NotGt) (fun a ha b hb h1 h2 => ?_) ?_ h.srt (List.pairwise_map.mpr hs)
  · obtain ⟨x, _, rfl⟩ := List.mem_map.mp ((h.mem a).mp ha)
    obtain ⟨y, _, rfl⟩ := List.mem_map.mp ((h.mem b).mp hb)
    rw [anti x y h1 h2]
  · refine (List.perm_ext_iff_of_nodup h.nd ?_).mpr fun d => ?_
    · exact List.Pairwise.map enc (fun a b (hab : a ≠ b) e => hab (inj a b e)) hn
    · rw [h.mem d, List.mem_map, List.mem_map]
      constructor
      · rintro ⟨x, hx, e⟩
        exact ⟨x, (hm x).mpr hx, e⟩
      · rintro ⟨x, hx, e⟩
        exact ⟨x, (hm x).mp hx, e⟩
/-- ints, sorted, without repeats -/
def usort (l : List Int) : List Int := l.eraseDups.mergeSort fun a b => decide (a ≤ b)
theorem nodup_eraseDups {α : Type} [BEq α] [LawfulBEq α] : ∀ (n : Nat) (l : List α), l.length ≤ n → l.eraseDups.Nodup
  | _, [], _ => by simp
  | 0, a :: l, h => absurd h (by simp)
  | n + 1, a :: l, h => by
    rw [List.eraseDups_cons]
    refine List.nodup_cons.mpr ⟨fun c => ?_, nodup_eraseDups n _ (Nat.le_trans (List.length_filter_le _ _) (by simpa using h))⟩
    rw [List.mem_eraseDups, List.mem_filter] at c
    simp at c
theorem len_eraseDups {α : Type} [BEq α] [LawfulBEq α] : ∀ (n : Nat) (l : List α), l.length ≤ n → l.eraseDups.length ≤ l.length
  | _, [], _ => by simp
  | 0, a :: l, h => absurd h (by simp)
  | n + 1, a :: l, h => by
    rw [List.eraseDups_cons, List.length_cons, List.length_cons]
    have h1 := List.length_filter_le (fun b => !b == a) l
    have h2 := len_eraseDups n (l.filter fun b => !b == a) (Nat.le_trans h1 (by simpa using h))
    omega
theorem usort_mem {l : List Int} {x : Int} : x ∈ usort l ↔ x ∈ l := by
  unfold usort
  rw [List.mem_mergeSort, List.mem_eraseDups]
theorem usort_nd (l : List Int) : (usort l).Nodup := (List.mergeSort_perm _ _).nodup_iff.mpr (nodup_eraseDups _ l (Nat.le_refl _))
theorem usort_le (l : List Int) : (usort l).Pairwise (· ≤ ·) := by
  have := List.pairwise_mergeSort (le := fun a b : Int => decide (a ≤ b)) (fun a b c h1 h2 => by simp at *; omega) (fun a b => by simp; omega) l.eraseDups
  exact this.imp fun h => by simpa using h
theorem usort_len (l : List Int) : (usort l).length ≤ l.length := by
  unfold usort
  rw [List.length_mergeSort]
  exact len_eraseDups _ l (Nat.le_refl _)
theorem notGt_int {i j : Int} : NotGt (.int i) (.int j) ↔ i ≤ j := by
  unfold NotGt
  rw [PySem.W.dataLt_int]
  simp
theorem set_ints {l : List Int} {es : List PyData} (h : SetRes (l.map PyData.int) es) : es = (usort l).map PyData.int :=
  set_uniq (fun _ _ => anti_int) h (usort_nd l) (fun _ => usort_mem) ((usort_le l).imp notGt_int.mpr)
end K77
set_option maxHeartbeats 1000000
/-! names, over, clash and their like. -/
namespace K77
open PySem PySem.Spec PyProof.Rows L2 Evl
section
variable {P : Program} {w : World} {K : PySem.W.Frag} {mg : Str → Option Value} {base : Heap}
/-! names -/
-- 0 fence, 1 bill
theorem sc_names : FnScope ["fence", "bill"] ["fence"] (defScope s_names) := C8.fnScope_by (by decide +kernel)
theorem c_names (T : Txt K mg) : C8.Cal P w K mg base 1 "names" (spD K (fun F : Fence => [fD F]) (fun F => F.length ≤ 100) fun F => strsD (nm F)) [] := by
  refine cal_of T.d_names (fun _ _ _ _ _ _ us hu => by match us, hu with | [_], _ => rfl) sc_names (spD_len fun _ => rfl) fun f cdv A outer s H vs Q E hr h => ?_
  obtain ⟨F, hF, hd, gv⟩ := h
  obtain ⟨v, rfl, hv⟩ := dts1 hd
  refine ⟨_, (pss_one (ps_ret (pe_callTy (k_tupOf K rfl) (by rfl) T.z_tuple (by decide +kernel) (pa_cons (pe_lc (own := [("bill", 1)]) rfl sc_names.nd (k_piT K rfl (pv 0)) (blkOk_by (by kernel_rfl)) (fun _ _ _ _ _ => (pg_name (i := 1) sc_names.nd rfl (by first | exact Or.inl rfl | exact Or.inr rfl))) (fun _ _ _ _ _ => pts_nil) (fun _ _ _ _ _ => (pe_ix (k_ixT K rfl) (pv 1) pe_int (fun _ _ => rfl)))) pa_nil)))), ?_⟩
  refine s_retD (g_tupleOf (EL.toS (ds := (nm F).map PyData.str) ?_)) gv
  refine (l_lcI (fun _ => true) (fun b : Bill => .str b.n) (iv_tup (g_var rfl hv)) TLe.ex (by omega) fun b hb v1 H1 e1 h1 => ?_).is ?_
  · exact trn_name rfl yes_t fun _ => g_ixk (k := 0) (g_var rfl h1) rfl
  · rw [made_all]
    unfold nm
    rw [List.map_map]
    rfl
/-! over -/
-- 0 fence, 1 cell, 2 name, 3 first, 4 last
theorem sc_over : FnScope ["fence", "cell", "name", "first", "last"] ["fence", "cell"] (defScope s_over) := C8.fnScope_by (by decide +kernel)
theorem c_over (T : Txt K mg) : C8.Cal P w K mg base 1 "over" (spD K (fun p : Fence × Int => [fD p.1, .int p.2]) (fun p => p.1.length ≤ 100) fun p => strsD (ov p.1 p.2)) [] := by
  refine cal_of T.d_over (fun _ _ _ _ _ _ us hu => by match us, hu with | [_, _], _ => rfl) sc_over (spD_len fun _ => rfl) fun f cdv A outer s H vs Q E hr h => ?_
  obtain ⟨⟨F, c⟩, hF, hd, gv⟩ := h
  dsimp only at hF hd gv
  obtain ⟨v, u, rfl, hv, hu⟩ := dts2 hd
  refine ⟨_, (pss_one (ps_ret (pe_callTy (k_tupOf K rfl) (by rfl) T.z_tuple (by decide +kernel) (pa_cons (pe_lc (own := [("name", 2), ("first", 3), ("last", 4)]) rfl sc_over.nd (k_piT K rfl (pv 0)) (blkOk_by (by kernel_rfl)) (fun _ _ _ _ _ => (k_gT K 3 rfl rfl (pgs_cons (pg_name (i := 2) sc_over.nd rfl (by first | exact Or.inl rfl | exact Or.inr rfl)) (pgs_cons (pg_name (i := 3) sc_over.nd rfl (by first | exact Or.inl rfl | exact Or.inr rfl)) (pgs_cons (pg_name (i := 4) sc_over.nd rfl (by first | exact Or.inl rfl | exact Or.inr rfl)) pgs_nil))))) (fun _ _ _ _ _ => (pts_one (pt_chain op_le op_le (pv 3) (pv 1) (pv 4)))) (fun _ _ _ _ _ => (pv 2))) pa_nil)))), ?_⟩
  refine s_retD (g_tupleOf (EL.toS (ds := (ov F c).map PyData.str) ?_)) gv
  refine (l_lcI (isOver c) (fun b : Bill => .str b.n) (iv_tup (g_var rfl hv)) TLe.ex (by omega) fun b hb v1 H1 e1 h1 => ?_).is ?_
  · refine trn_t3 h1 fun x y z hx hy hz => ⟨rfl, ?_, fun _ => g_var rfl hx⟩
    exact g_test (g_chainI (g := fun i j => decide (i ≤ j)) (g' := fun i j => decide (i ≤ j)) (g_var rfl hy) (g_var rfl (hu.ex e1)) (g_var rfl hz))
  · unfold made ov
    rw [List.map_map]
    rfl
/-! set_of -/
def spSet (K : PySem.W.Frag) : Sp := fun vs H Q _ => ∃ p xs ds, vs = [.ref p] ∧ SqL K H p xs ∧ Dts K H xs ds ∧ ds.length < 64 ∧ SetIn ds ∧ ∀ v H2 es, Ex H H2 → SetRes ds es → Dt K H2 v (.tuple es) → Q v H2
-- 0 things
theorem sc_set_of : FnScope ["things"] ["things"] (defScope s_set_of) := C8.fnScope_by (by decide +kernel)
theorem c_set_of (T : Txt K mg) : C8.Cal P w K mg base 1 "set_of" (spSet K) [] := by
  refine cal_of T.d_set_of (fun _ _ _ _ _ _ us hu => by match us, hu with | [_], _ => rfl) sc_set_of (fun vs H Q E h => by obtain ⟨p, xs, ds, rfl, _⟩ := h; rfl) fun f cdv A outer s H vs Q E hr h => ?_
  obtain ⟨p, xs, ds, rfl, hs, hd, hl, hin, q⟩ := h
  refine ⟨_, (pss_one (ps_ret (pe_callTy (k_tupOf K rfl) (by rfl) T.z_tuple (by decide +kernel) (pa_cons (k_ss K rfl (by rfl) hr.units (by rfl) T.z_sorted (by rfl) T.z_set (pv 0)) pa_nil)))), ?_⟩
  refine ⟨.ref p, rfl, p, xs, ds, rfl, hs, hd, hl, hin, fun p2 ys es hp n m pw ln hy => ⟨p2, ys, rfl, .inl ⟨sq_of upd_same, fun l hl => ?_⟩⟩⟩
  exact q _ _ es ((Ex.new hp).trans (Ex.new hl)) ⟨n, m, pw, ln⟩ (.tup (st_of upd_same) (hy.ex ((Ex.new hp).trans (Ex.new hl))))
theorem r_setOf {σ : L2.St} {H : Hp} {tl : TE} {ds : List PyData} {E : XK} (h : ES K tl σ H ds) (hl : ds.length < 64) (hin : SetIn ds) : ER K (tCall (spSet K) [] E (tCons tl tNil)) σ H fun d => ∃ es, d = .tuple es ∧ SetRes ds es := fun H1 e1 Q q =>
  h H1 e1 _ fun p xs H2 e2 hp hx => ⟨p, xs, ds, rfl, hp, hx, hl, hin, fun v H3 es e3 r hv => q v H3 _ (e2.trans e3) hv ⟨es, rfl, r⟩⟩
/-! cut_points -/
def cutL (F : Fence) : List Int := F.flatMap fun b => [b.lo, b.hi + 1]
def cuts (F : Fence) : List Int := usort (cutL F)
theorem cutL_len (F : Fence) : (cutL F).length = 2 * F.length := by
  unfold cutL
  induction F with
  | nil => rfl
  | cons b F ih => rw [List.flatMap_cons, List.length_append, ih, List.length_cons]; simp; omega
theorem cuts_len (F : Fence) : (cuts F).length ≤ 2 * F.length := by rw [← cutL_len]; exact usort_len _
theorem setIn_ints (l : List Int) : SetIn (l.map PyData.int) := .inl ⟨l.map Sum.inl, by rw [List.map_map]; rfl, fun j hj k hk => by
  obtain ⟨x, _, rfl⟩ := List.mem_map.mp hj
  obtain ⟨y, _, rfl⟩ := List.mem_map.mp hk
  rfl⟩
theorem setIn_strs (l : List Str) : SetIn (l.map PyData.str) := .inl ⟨l.map Sum.inr, by rw [List.map_map]; rfl, fun j hj k hk => by
  obtain ⟨x, _, rfl⟩ := List.mem_map.mp hj
  obtain ⟨y, _, rfl⟩ := List.mem_map.mp hk
  rfl⟩
abbrev intsD (l : List Int) : PyData := .tuple (l.map PyData.int)
-- 0 fence, 1 cell, 2 name, 3 first, 4 last
theorem sc_cut_points : FnScope ["fence", "cell", "name", "first", "last"] ["fence"] (defScope s_cut_points) := C8.fnScope_by (by decide +kernel)
theorem c_cut_points (T : Txt K mg) : C8.Cal P w K mg base 2 "cut_points" (spD K (fun F : Fence => [fD F]) (fun F => F.length ≤ 20) fun F => intsD (cuts F)) [] := by
  refine cal_of T.d_cut_points (fun _ _ _ _ _ _ us hu => by match us, hu with | [_], _ => rfl) sc_cut_points (spD_len fun _ => rfl) fun f cdv A outer s H vs Q E hr h => ?_
  obtain ⟨F, hF, hd, gv⟩ := h
  obtain ⟨v, rfl, hv⟩ := dts1 hd
  refine ⟨_, (pss_one (ps_ret (C8.pe_c (c_set_of T) hr (by decide) (by rfl) (pa_cons (pe_lc2 (own := [("name", 2), ("first", 3), ("last", 4), ("cell", 1)]) rfl sc_cut_points.nd (k_piT K rfl (pv 0)) (blkOk_by (by kernel_rfl)) (vs1 := [1]) (by decide) (fun _ _ _ _ _ => (k_gT K 3 rfl rfl (pgs_cons (pg_name (i := 2) sc_cut_points.nd rfl (by first | exact Or.inl rfl | exact Or.inr rfl)) (pgs_cons (pg_name (i := 3) sc_cut_points.nd rfl (by first | exact Or.inl rfl | exact Or.inr rfl)) (pgs_cons (pg_name (i := 4) sc_cut_points.nd rfl (by first | exact Or.inl rfl | exact Or.inr rfl)) pgs_nil))))) (fun _ _ _ _ _ => pts_nil) (fun _ _ _ _ _ => (k_piT K rfl (pe_tup (pa_cons (pv 3) (pa_cons (pe_op op_add (pv 4) pe_int) pa_nil))))) (fun _ _ _ _ _ => (pg_name (i := 1) sc_cut_points.nd rfl (by first | exact Or.inl rfl | exact Or.inr rfl))) (fun _ _ _ _ _ => pts_nil) (fun _ _ _ _ _ => (pv 1))) pa_nil)))), ?_⟩
  refine s_retR (r_setOf (EL.toS (ds := (cutL F).map PyData.int) ?_) (by rw [List.length_map, cutL_len]; omega) (setIn_ints _)) fun v H1 d e1 hv1 ⟨es, e, r⟩ => ?_
  · refine (l_lc2I (fun _ => true) (fun b : Bill => [b.lo, b.hi + 1]) (fun _ _ => true) (fun _ c => .int c) (iv_tup (g_var rfl hv)) TLe.ex (by omega) (fun _ _ _ => by simp) fun b hb v1 H1 e1 h1 => ?_).is ?_
    · obtain ⟨a, xs, rfl, hs, hx⟩ := h1.tupV
      obtain ⟨x, y, z, rfl, hx, hy, hz⟩ := dts3 hx
      refine ⟨_, fun Q q => ⟨a, _, rfl, hs, rfl, x, [y, z], rfl, y, [z], rfl, z, [], rfl, rfl, q⟩, rfl, yes_t, fun _ => ⟨_, iv_tup (enc := PyData.int) (xs := [b.lo, b.hi + 1]) (g_tup (a_cons (g_var rfl hy) (a_cons (g_add (g_var rfl hz) g_int) a_nil)) (by simp)), fun c hc u H2 e2 hu => ?_⟩⟩
      exact trn_name rfl yes_t fun _ => g_var rfl hu
    · unfold made2 cutL
      simp only [if_true, made_all]
      rw [List.map_flatMap]
  · rw [e, set_ints r] at hv1
    exact gv v H1 e1 hv1
/-! pieces -/
def gaps (F : Fence) : List (Int × Int) := (cuts F).zip ((cuts F).drop 1) |>.map fun p => (p.1, p.2 - 1)
def partL (F : Fence) : List (Int × Int) := (gaps F).filter fun p => decide (0 < (ov F p.1).length)
def piD (p : Int × Int) : PyData := .tuple [.int p.1, .int p.2]
theorem gaps_len (F : Fence) : (gaps F).length ≤ 2 * F.length := by
  unfold gaps
  rw [List.length_map, List.length_zip]
  have := cuts_len F
  omega
-- 0 fence, 1 points, 2 found, 3 first, 4 after, 5 piece
theorem sc_pieces : FnScope ["fence", "points", "found", "first", "after", "piece"] ["fence"] (defScope s_pieces) := C8.fnScope_by (by decide +kernel)
theorem c_pieces (T : Txt K mg) : C8.Cal P w K mg base 3 "pieces" (spD K (fun F : Fence => [fD F]) (fun F => F.length ≤ 20) fun F => .tuple ((partL F).map piD)) [] := by
  refine cal_of T.d_pieces (fun _ _ _ _ _ _ us hu => by match us, hu with | [_], _ => rfl) sc_pieces (spD_len fun _ => rfl) fun f cdv A outer s H vs Q E hr h => ?_
  obtain ⟨F, hF, hd, gv⟩ := h
  obtain ⟨v, rfl, hv⟩ := dts1 hd
  refine ⟨_, (pss_cons (ps_set (i := 1) sc_pieces.nd rfl (by first | exact Or.inl rfl | exact Or.inr rfl) (C8.pe_c (c_cut_points T) hr (by decide) (by rfl) (pa_cons (pv 0) pa_nil)))
  (pss_cons (ps_setLc (i := 2) (own := [("first", 3), ("after", 4)]) rfl sc_pieces.nd rfl rfl (sw_true rfl rfl rfl (by decide +kernel)) (k_zip K rfl (by rfl) T.z_zip (pa_cons (pv 1) (pa_cons (pe_slice (k_slT K rfl) (pv 1) (po_some pe_int) po_none) pa_nil))) (blkOk_by (by kernel_rfl)) (fun _ _ _ _ _ => (k_gT K 2 rfl rfl (pgs_cons (pg_name (i := 3) sc_pieces.nd rfl (by first | exact Or.inl rfl | exact Or.inr rfl)) (pgs_cons (pg_name (i := 4) sc_pieces.nd rfl (by first | exact Or.inl rfl | exact Or.inr rfl)) pgs_nil)))) (fun _ _ _ _ _ => pts_nil) (fun _ _ _ _ _ => (pe_tup (pa_cons (pv 3) (pa_cons (pe_op op_sub (pv 4) pe_int) pa_nil)))))
  (pss_one (ps_ret (pe_callTy (k_tupOf K rfl) (by rfl) T.z_tuple (by decide +kernel) (pa_cons (pe_lc (own := [("piece", 5)]) rfl sc_pieces.nd (k_piL K rfl (pv 2)) (blkOk_by (by kernel_rfl)) (fun _ _ _ _ _ => (pg_name (i := 5) sc_pieces.nd rfl (by first | exact Or.inl rfl | exact Or.inr rfl))) (fun _ _ _ _ _ => (pts_one (pt_cmpR op_gt (pe_callB (k_len K rfl) (by rfl) T.z_len (by decide +kernel) (pa_cons (C8.pe_c (c_over T) hr (by decide) (by rfl) (pa_cons (pv 0) (pa_cons (pe_ix (k_ixT K rfl) (pv 5) pe_int (fun _ _ => rfl)) pa_nil))) pa_nil)) pe_int (nomark _)))) (fun _ _ _ _ _ => (pv 5))) pa_nil)))))), ?_⟩
  refine q_asgD (g_call (a_cons (g_var rfl hv) a_nil) (spD_use F hF)) fun v1 H1 e1 h1 => ?_
  have hc := cuts_len F
  refine q_asgN (K := K) (ds := (gaps F).map piD) ?_ fun p xs H2 hp e2 h2 hx => ?_
  · refine (l_lcI (xs := (cuts F).zip ((cuts F).drop 1)) (fun _ => true) (fun p => piD (p.1, p.2 - 1)) (iv_zipT (enc := PyData.int) (enc2 := PyData.int) (a_cons (g_var rfl h1) (a_cons ((g_slT (g_var rfl h1) (eo_some ev_c) eo_none).is ?_) a_nil))) TLe.ex ?_ fun q hq v2 H2 e2 h2 => ?_).is ?_
    · rw [show (1 : Int) = ((1 : Nat) : Int) from rfl, cutD_from, List.map_drop]
    · rw [List.length_zip]; omega
    · refine trn_t2 h2 fun x y hx hy => ⟨rfl, yes_t, fun _ => g_tup (a_cons (g_var rfl hx) (a_cons (g_sub (g_var rfl hy) g_int) a_nil)) (by simp)⟩
    · rw [made_all]
      unfold gaps
      rw [List.map_map]
      rfl
  · refine s_retD (g_tupleOf (EL.toS (ds := (partL F).map piD) ?_)) fun v3 H3 e3 h3 => gv v3 H3 ((e1.trans e2).trans e3) h3
    refine l_lcI (xs := gaps F) (fun p => decide (0 < (ov F p.1).length)) piD (iv_list (es_old (ev_var rfl) (sq_of h2) hx)) id (by have := gaps_len F; omega) fun q hq v2 H3 e3 hh => ?_
    refine trn_name rfl (et_is (g_test (g_cmpI (g := fun i j => decide (j < i)) (g_lenT (g_call (a_cons (g_var rfl (hv.ex ((e1.trans e2).trans e3))) (a_cons (g_ixk (k := 0) (g_var rfl hh) rfl) a_nil)) (spD_use (F, q.1) (by show F.length ≤ 100; omega)))) g_int)) ?_) fun _ => g_var rfl hh
    show decide ((0 : Int) < (((ov F q.1).map PyData.str).length : Int)) = decide (0 < (ov F q.1).length)
    rw [List.length_map]
    exact decide_eq_decide.mpr (by omega)
/-! clash -/
def clashB (F : Fence) (a b : Si) : Bool := !decide (a.2 = b.2) && (decide (a.2 ∈ ov F b.1) && decide (b.2 ∈ ov F a.1))
-- 0 fence, 1 one, 2 other
theorem sc_clash : FnScope ["fence", "one", "other"] ["fence", "one", "other"] (defScope s_clash) := C8.fnScope_by (by decide +kernel)
theorem c_clash (T : Txt K mg) : C8.Cal P w K mg base 2 "clash" (spD K (fun p : Fence × Si × Si => [fD p.1, sD p.2.1, sD p.2.2]) (fun p => p.1.length ≤ 100) fun p => .bool (clashB p.1 p.2.1 p.2.2)) [] := by
  refine cal_of T.d_clash (fun _ _ _ _ _ _ us hu => by match us, hu with | [_, _, _], _ => rfl) sc_clash (spD_len fun _ => rfl) fun f cdv A outer s H vs Q E hr h => ?_
  obtain ⟨⟨F, a, b⟩, hF, hd, gv⟩ := h
  dsimp only at hF hd gv
  obtain ⟨v, x, y, rfl, hv, hx, hy⟩ := dts3 hd
  refine ⟨_, (pss_one (ps_ret (pe_and (pe_cmpR op_ne (pe_ix (k_ixT K rfl) (pv 1) pe_int (fun _ _ => rfl)) (pe_ix (k_ixT K rfl) (pv 2) pe_int (fun _ _ => rfl)) (nomark _)) (pe_and (pe_cmpR (k_in K rfl) (pe_ix (k_ixT K rfl) (pv 1) pe_int (fun _ _ => rfl)) (C8.pe_c (c_over T) hr (by decide) (by rfl) (pa_cons (pv 0) (pa_cons (pe_ix (k_ixT K rfl) (pv 2) pe_int (fun _ _ => rfl)) pa_nil))) (by rfl)) (pe_one (pe_cmpR (k_in K rfl) (pe_ix (k_ixT K rfl) (pv 2) pe_int (fun _ _ => rfl)) (C8.pe_c (c_over T) hr (by decide) (by rfl) (pa_cons (pv 0) (pa_cons (pe_ix (k_ixT K rfl) (pv 1) pe_int (fun _ _ => rfl)) pa_nil))) (by rfl))))))), ?_⟩
  have n1 : ∀ {i : Nat} {z : V} {s : Si}, (start ["fence", "one", "other"] [v, x, y])[i]? = some (some z) → Dt K H z (sD s) → ED K (tOp (rIxT K) (tVar i) (tC (.int 1))) (start ["fence", "one", "other"] [v, x, y]) H (.str s.2) := fun h hd => g_ixk (k := 1) (g_var h hd) rfl
  have n0 : ∀ {i : Nat} {z : V} {s : Si}, (start ["fence", "one", "other"] [v, x, y])[i]? = some (some z) → Dt K H z (sD s) → ED K (tOp (rIxT K) (tVar i) (tC (.int 0))) (start ["fence", "one", "other"] [v, x, y]) H (.int s.1) := fun h hd => g_ixk (k := 0) (g_var h hd) rfl
  refine s_retD (g_andV (g_neS (n1 rfl hx) (n1 rfl hy)) fun _ => g_andV (g_inT (n1 rfl hx) (g_call (a_cons (g_var rfl hv) (a_cons (n0 rfl hy) a_nil)) (spD_use (F, b.1) hF))) fun _ => ?_) gv
  exact g_inT (n1 rfl hy) (g_call (a_cons (g_var rfl hv) (a_cons (n0 rfl hx) a_nil)) (spD_use (F, a.1) hF))
/-! tupled -/
def okD : Nat → PyData → Prop
  | 0, d => ∀ ds, d ≠ .tuple ds
  | n + 1, d => ∀ ds, d = .tuple ds → ds.length ≤ 1000 ∧ ∀ x ∈ ds, okD n x
-- 0 thing, 1 part
theorem sc_tupled : FnScope ["thing", "part"] ["thing"] (defScope s_tupled) := C8.fnScope_by (by decide +kernel)
theorem tupled_step (T : Txt K mg) {k : Nat} {sp : Sp} (c : C8.Cal P w K mg base k "tupled" sp []) (ok : PyData → Prop) (hok : ∀ ds, ok (.tuple ds) → ds.length ≤ 1000 ∧ ∀ x ∈ ds, SpD K sp [x] x) : C8.Cal P w K mg base (k + 1) "tupled" (spD K (fun d => [d]) ok id) [] := by
  refine cal_of T.d_tupled (fun _ _ _ _ _ _ us hu => by match us, hu with | [_], _ => rfl) sc_tupled (spD_len fun _ => rfl) fun f cdv A outer s H vs Q E hr h => ?_
  obtain ⟨d, hd, hds, gv⟩ := h
  obtain ⟨v, rfl, hv⟩ := dts1 hds
  refine ⟨_, (pss_one (ps_ret (pe_ifExp (pt_val (pe_callB (k_isiT K rfl) (by rfl) T.z_isinstance (by decide +kernel) (pa_cons (pv 0) (pa_cons (pe_tup (pa_cons (pe_bltn (v := .ty "list") (by rfl) T.z_list (by decide +kernel) rfl) (pa_cons (pe_bltn (v := .ty "tuple") (by rfl) T.z_tuple (by decide +kernel) rfl) pa_nil))) pa_nil)))) (pe_callTy (k_tupOf K rfl) (by rfl) T.z_tuple (by decide +kernel) (pa_cons (pe_lc (own := [("part", 1)]) rfl sc_tupled.nd (k_piT K rfl (pv 0)) (blkOk_by (by kernel_rfl)) (fun _ _ _ _ _ => (pg_name (i := 1) sc_tupled.nd rfl (by first | exact Or.inl rfl | exact Or.inr rfl))) (fun _ _ _ _ _ => pts_nil) (fun _ _ _ _ _ => (C8.pe_c c hr (Nat.le_refl _) (by rfl) (pa_cons (pv 1) pa_nil)))) pa_nil)) (pv 0)))), ?_⟩
  by_cases hT : ∃ ds, d = .tuple ds
  · obtain ⟨ds, rfl⟩ := hT
    obtain ⟨hl, hx⟩ := hok ds hd
    refine s_retD (g_if (b := true) (g_testB (g_isi2 (g_var rfl hv) rfl)) (fun _ => ?_) (fun h => nomatch h)) gv
    refine g_tupleOf (EL.toS ((l_lcI (xs := ds) (fun _ => true) (fun x => x) (iv_tup (xs := ds) (enc := fun x => x) (by rw [List.map_id']; exact g_var rfl hv)) TLe.ex (by omega) fun x hx' v1 H1 e1 h1 => ?_).is (by rw [made_all, List.map_id'])))
    exact trn_name rfl yes_t fun _ => g_call (a_cons (g_var rfl h1) a_nil) (hx x hx')
  · refine s_retD (g_if (b := false) (g_testB (g_isi2 (g_var rfl hv) ?_)) (fun h => nomatch h) fun _ => g_var rfl hv) gv
    cases hv with
    | tup _ _ => exact absurd ⟨_, rfl⟩ hT
    | _ => rfl
theorem c_tupledN (T : Txt K mg) : ∀ n, C8.Cal P w K mg base (n + 2) "tupled" (spD K (fun d => [d]) (okD n) id) []
  | 0 => tupled_step T (k := 1) (sp := fun _ _ _ _ => False) (cal_of T.d_tupled (fun _ _ _ _ _ _ us hu => by match us, hu with | [_], _ => rfl) sc_tupled (fun _ _ _ _ h => h.elim) fun _ _ _ _ _ _ _ _ _ _ h => h.elim) (okD 0) fun ds h => absurd rfl (h ds)
  | n + 1 => tupled_step T (c_tupledN T n) (okD (n + 1)) fun ds h => by
    obtain ⟨h1, h2⟩ := h ds rfl
    exact ⟨h1, fun x hx => spD_use x (h2 x hx)⟩
theorem c_tupled (T : Txt K mg) : C8.Cal P w K mg base 6 "tupled" (spD K (fun d => [d]) (okD 4) id) [] := c_tupledN T 4
theorem okD_succ : ∀ {n : Nat} {d : PyData}, okD n d → okD (n + 1) d
  | 0, d, h => fun ds e => absurd e (h ds)
  | n + 1, d, h => fun ds e => ⟨(h ds e).1, fun x hx => okD_succ ((h ds e).2 x hx)⟩
theorem ok_int (n : Nat) (i : Int) : okD n (.int i) := by cases n <;> exact fun _ e => nomatch e
theorem ok_str (n : Nat) (i : Str) : okD n (.str i) := by cases n <;> exact fun _ e => nomatch e
theorem ok_tup {n : Nat} {ds : List PyData} (hl : ds.length ≤ 1000) (h : ∀ x ∈ ds, okD n x) : okD (n + 1) (.tuple ds) := fun ds' e => by
  injection e with e
  rw [← e]
  exact ⟨hl, h⟩
theorem ok_map {α : Type} {n : Nat} {enc : α → PyData} {xs : List α} (hl : xs.length ≤ 1000) (h : ∀ x ∈ xs, okD n (enc x)) : okD (n + 1) (.tuple (xs.map enc)) := ok_tup (by rw [List.length_map]; exact hl) fun d hd => by
  obtain ⟨x, hx, rfl⟩ := List.mem_map.mp hd
  exact h x hx
theorem ok_s (n : Nat) (s : Si) : okD (n + 1) (sD s) := ok_tup (by simp) fun d hd => by
  rcases List.mem_cons.mp hd with e | hd
  · rw [e]; exact ok_int _ _
  · rw [List.mem_singleton.mp hd]; exact ok_str _ _
theorem ok_b (n : Nat) (b : Bill) : okD (n + 1) (bD b) := ok_tup (by simp) fun d hd => by
  rcases List.mem_cons.mp hd with e | hd
  · rw [e]; exact ok_str _ _
  · rcases List.mem_cons.mp hd with e | hd
    · rw [e]; exact ok_int _ _
    · rw [List.mem_singleton.mp hd]; exact ok_int _ _
/-! clashes -/
def clashL (F : Fence) (ss : List Si) : List (Si × Si) := ss.zipIdx.flatMap fun p => ((ss.drop (p.2 + 1)).filter (clashB F p.1)).map fun o => (p.1, o)
def ppD (p : Si × Si) : PyData := .tuple [sD p.1, sD p.2]
-- 0 fence, 1 sights, 2 own, 3 found, 4 place, 5 one, 6 other
theorem sc_clashes : FnScope ["fence", "sights", "own", "found", "place", "one", "other"] ["fence", "sights"] (defScope s_clashes) := C8.fnScope_by (by decide +kernel)
theorem c_clashes (T : Txt K mg) : C8.Cal P w K mg base 7 "clashes" (spD K (fun p : Fence × List Si => [fD p.1, ssD p.2]) (fun p => p.1.length ≤ 100 ∧ p.2.length ≤ 50) fun p => .tuple ((clashL p.1 p.2).map ppD)) [] := by
  refine cal_of T.d_clashes (fun _ _ _ _ _ _ us hu => by match us, hu with | [_, _], _ => rfl) sc_clashes (spD_len fun _ => rfl) fun f cdv A outer s H vs Q E hr h => ?_
  obtain ⟨⟨F, ss⟩, ⟨hF, hS⟩, hd, gv⟩ := h
  dsimp only at hF hS hd gv
  obtain ⟨v, u, rfl, hv, hu⟩ := dts2 hd
  refine ⟨_, (pss_cons (ps_par (i := 2) (j := 3) rfl sc_clashes.nd rfl rfl (by decide) rfl rfl (pa_cons (C8.pe_c (c_tupled T) hr (by decide) (by rfl) (pa_cons (pv 1) pa_nil)) (pa_cons (pe_lst pa_nil) pa_nil)) rfl)
  (pss_cons (ps_for PassesOwn.never rfl (k_enumT K rfl (by rfl) T.z_enumerate (pa_cons (pv 2) pa_nil)) (k_gT K 2 rfl rfl (pgs_cons (pg_name (i := 4) sc_clashes.nd rfl (by first | exact Or.inl rfl | exact Or.inr rfl)) (pgs_cons (pg_name (i := 5) sc_clashes.nd rfl (by first | exact Or.inl rfl | exact Or.inr rfl)) pgs_nil))) (pss_one (ps_expr (pe_bm PySem.F.plainAttrs_list PySem.F.slot_list_extend PySem.F.type_list_extend mt_extend (pv 3) (pa_cons (pe_lc (own := [("other", 6)]) rfl sc_clashes.nd (k_piT K rfl (pe_slice (k_slT K rfl) (pv 2) (po_some (pe_op op_add (pv 4) pe_int)) po_none)) (blkOk_by (by kernel_rfl)) (fun _ _ _ _ _ => (pg_name (i := 6) sc_clashes.nd rfl (by first | exact Or.inl rfl | exact Or.inr rfl))) (fun _ _ _ _ _ => (pts_one (pt_val (C8.pe_c (c_clash T) hr (by decide) (by rfl) (pa_cons (pv 0) (pa_cons (pv 5) (pa_cons (pv 6) pa_nil))))))) (fun _ _ _ _ _ => (pe_tup (pa_cons (pv 5) (pa_cons (pv 6) pa_nil))))) pa_nil)))))
  (pss_one (ps_ret (pe_callTy (k_tupOf K rfl) (by rfl) T.z_tuple (by decide +kernel) (pa_cons (pv 3) pa_nil)))))), ?_⟩
  refine q_parDL (g_call (a_cons (g_var rfl hu) a_nil) (spD_use (ssD ss) (okD_succ (okD_succ (ok_map (by omega) fun s _ => ok_s 0 s))))) (l_lst a_nil (by simp)) fun o p xs H1 e1 hp ho hl hx => ?_
  obtain rfl : xs = [] := by cases hx; rfl
  refine q_forI (iv_enumT (xs := ss) (a_cons (g_var rfl ho) a_nil)) (fun H2 i σ' H' => TLe K H2 H' ∧ Ex H H' ∧ (∃ a b, σ' = [some v, some u, some o, some (.ref p), a, b, none]) ∧ ∃ zs, H' p = some (.lst zs) ∧ Dts K H' zs (made2 (fun _ => true) (fun q => ss.drop (q.2 + 1)) (fun q o => clashB F q.1 o) (fun q o => ppD (q.1, o)) (ss.zipIdx.take i)))
    (fun H2 e2 => ⟨TLe.refl, e1.trans e2, ⟨none, none, rfl⟩, [], e2 _ _ hl, .nil⟩) (fun H2 i σ' H' _ h => h.1) (fun H2 i x v1 σ' H' H3 e2 hx ⟨t, ex, ⟨a, b, hσ⟩, zs, hz, hzd⟩ e3 hr => ?_) fun H2 σ' H' e2 ⟨t, ex, ⟨a, b, hσ⟩, zs, hz, hzd⟩ => ?_
  · subst hσ
    obtain ⟨one, place⟩ := x
    refine g_t2 hr fun x y hx' hy' => ?_
    have t3 : TLe K H2 H3 := t.trans (TLe.ex e3)
    have x3 : Ex H H3 := ex.trans e3
    have ho3 : Dt K H3 o (ssD ss) := (ho.ex e2).mono t3
    have ln : (made2 (fun _ => true) (fun q : Si × Nat => ss.drop (q.2 + 1)) (fun q o => clashB F q.1 o) (fun q o => ppD (q.1, o)) (ss.zipIdx.take i)).length ≤ 3000 := by
      have q1 := made2_len (f := fun _ => true) (ys := fun q : Si × Nat => ss.drop (q.2 + 1)) (f1 := fun q o => clashB F q.1 o) (e := fun q o => ppD (q.1, o)) (n := 51) (ss.zipIdx.take i) fun z _ _ => by rw [List.length_drop]; omega
      rw [List.length_take, List.length_zipIdx] at q1
      omega
    refine s_extD (ds := made (clashB F one) (fun q => ppD (one, q)) (ss.drop (place + 1))) (e3 _ _ hz) (ev_var rfl) ?_ ?_ fun ws H4 e4 hw => ?_
    · refine l_lcI (xs := ss.drop (place + 1)) _ _ (iv_tup (xs := ss.drop (place + 1)) (enc := sD) ((g_slT (g_var rfl ho3) (eo_some (g_add (g_var rfl hx') g_int).int) eo_none).is ?_)) TLe.ex (by rw [List.length_drop]; omega) fun q hq v2 H4 e4 h4 => ?_
      · rw [show ((place : Int) + 1) = ((place + 1 : Nat) : Int) from rfl, cutD_from, List.map_drop]
      · exact trn_name rfl (g_testB (g_call (a_cons (g_var rfl (hv.ex (x3.trans e4))) (a_cons (g_var rfl (hy'.ex e4)) (a_cons (g_var rfl h4) a_nil))) (spD_use (F, one, q) hF))) fun _ => g_tup (a_cons (g_var rfl (hy'.ex e4)) (a_cons (g_var rfl h4) a_nil)) (by simp)
    · rw [hzd.length]
      unfold made
      rw [List.length_map]
      have := List.length_filter_le (clashB F one) (ss.drop (place + 1))
      rw [List.length_drop] at this
      omega
    · refine ⟨(t3.trans (TLe.ex e4)).trans (TLe.lst (e4 _ _ (e3 _ _ hz))), Ex.mut (x3.trans e4) hp, ⟨_, _, rfl⟩, _, upd_same, ?_⟩
      rw [made2_succ hx]
      exact (((hzd.ex e3).ex e4).mono (TLe.lst (e4 _ _ (e3 _ _ hz)))).append (hw.mono (TLe.lst (e4 _ _ (e3 _ _ hz))))
  · subst hσ
    refine s_retD (g_tupleOf ((es_old (ev_var rfl) (sq_of hz) hzd))) fun v2 H3 e3 h3 => gv v2 H3 (ex.trans e3) ?_
    rw [List.take_length] at h3
    refine (congrArg (Dt K H3 v2) (congrArg PyData.tuple ?_)).mp h3
    unfold made2 clashL made
    rw [List.map_flatMap]
    simp only [if_true, List.map_map]
    rfl
/-! hold_together -/
def holdB (F : Fence) (ss : List Si) : Bool := decide ((clashL F ss).length = 0)
-- 0 fence, 1 sights
theorem sc_hold_together : FnScope ["fence", "sights"] ["fence", "sights"] (defScope s_hold_together) := C8.fnScope_by (by decide +kernel)
theorem c_hold_together (T : Txt K mg) : C8.Cal P w K mg base 8 "hold_together" (spD K (fun p : Fence × List Si => [fD p.1, ssD p.2]) (fun p => p.1.length ≤ 100 ∧ p.2.length ≤ 50) fun p => .bool (holdB p.1 p.2)) [] := by
  refine cal_of T.d_hold_together (fun _ _ _ _ _ _ us hu => by match us, hu with | [_, _], _ => rfl) sc_hold_together (spD_len fun _ => rfl) fun f cdv A outer s H vs Q E hr h => ?_
  obtain ⟨⟨F, ss⟩, hF, hd, gv⟩ := h
  dsimp only at hF hd gv
  obtain ⟨v, u, rfl, hv, hu⟩ := dts2 hd
  refine ⟨_, (pss_one (ps_ret (pe_cmpR op_eq (pe_callB (k_len K rfl) (by rfl) T.z_len (by decide +kernel) (pa_cons (C8.pe_c (c_clashes T) hr (by decide) (by rfl) (pa_cons (pv 0) (pa_cons (pv 1) pa_nil))) pa_nil)) pe_int (nomark _)))), ?_⟩
  refine s_retD ((g_eqI (g_lenT (g_call (a_cons (g_var rfl hv) (a_cons (g_var rfl hu) a_nil)) (spD_use (F, ss) hF))) g_int).is ?_) gv
  unfold holdB
  rw [List.length_map]
  show PyData.bool (decide (((clashL F ss).length : Int) = 0)) = _
  exact congrArg PyData.bool (decide_eq_decide.mpr (by omega))
end
end K77
set_option maxHeartbeats 1000000
/-! The mathematics: who lies under whom. -/
namespace K77
open PySem PySem.Spec PyProof.Rows L2 Evl
structure FOk (F : Fence) : Prop where
  nd : (nm F).Nodup
  srt : (nm F).Pairwise fun a b => NotGt (.str a) (.str b)
  few : F.length ≤ 5
  bare : ("-" : Str) ∉ nm F
  txt : ∀ x ∈ nm F, PyData.canLay0 (.str x) = true
structure SOk (F : Fence) (ss : List Si) : Prop where
  few : ss.length ≤ 9
  ovr : ∀ s ∈ ss, s.2 ∈ ov F s.1
def edgeB (F : Fence) (ss : List Si) (m n : Str) : Bool := ss.any fun s => decide (s.2 = n) && (decide (m ∈ ov F s.1) && !decide (m = n))
theorem edgeB_iff {F : Fence} {ss : List Si} {m n : Str} : edgeB F ss m n = true ↔ ∃ c, (c, n) ∈ ss ∧ m ∈ ov F c ∧ m ≠ n := by
  unfold edgeB
  simp only [List.any_eq_true, Bool.and_eq_true, decide_eq_true_eq, Bool.not_eq_true', decide_eq_false_iff_not]
  constructor
  · rintro ⟨⟨c, k⟩, hs, rfl, h1, h2⟩
    exact ⟨c, hs, h1, h2⟩
  · rintro ⟨c, hs, h1, h2⟩
    exact ⟨(c, n), hs, rfl, h1, h2⟩
def lowers (F : Fence) (ss : List Si) (n : Str) : List Str := (nm F).filter fun m => edgeB F ss m n
theorem mem_lowers {F : Fence} {ss : List Si} {m n : Str} : m ∈ lowers F ss n ↔ ∃ c, (c, n) ∈ ss ∧ m ∈ ov F c ∧ m ≠ n := by
  unfold lowers
  rw [List.mem_filter, edgeB_iff]
  exact ⟨fun h => h.2, fun h => ⟨by obtain ⟨c, _, h2, _⟩ := h; exact ov_nm h2, h⟩⟩
theorem filter_nd {F : Fence} (h : FOk F) (p : Str → Bool) : ((nm F).filter p).Nodup := h.nd.filter p
theorem filter_srt {F : Fence} (h : FOk F) (p : Str → Bool) : ((nm F).filter p).Pairwise fun a b => NotGt (.str a) (.str b) := h.srt.filter p
/-- a set of names, sorted, is the fence's names of that kind -/
theorem set_names {F : Fence} (h : FOk F) {l : List Str} {es : List PyData} (r : SetRes (l.map PyData.str) es) (p : Str → Bool) (hp : ∀ x, x ∈ l ↔ x ∈ nm F ∧ p x = true) : es = ((nm F).filter p).map PyData.str :=
  set_uniq (fun _ _ => anti_str) r (filter_nd h p) (fun x => by rw [List.mem_filter]; exact (hp x).symm) (filter_srt h p)

/-! ### a rank -/
/-- on a line: tellings of which no two clash give a rank -/
theorem rank_bills (S : Int → Bill → Prop) (hS : ∀ c b, S c b → b.lo ≤ c ∧ c ≤ b.hi) : ∀ (k : Nat) (G : List Bill), G.length ≤ k → (∀ c b d e, b ∈ G → e ∈ G → S c b → S d e → b ≠ e → b.lo ≤ d → d ≤ b.hi → e.lo ≤ c → c ≤ e.hi → False) →
    ∃ r : Bill → Nat, ∀ m ∈ G, ∀ n ∈ G, (∃ c, S c n ∧ m.lo ≤ c ∧ c ≤ m.hi ∧ m ≠ n) → r m < r n
  | _, [], _, _ => ⟨fun _ => 0, nofun⟩
  | 0, b :: G, h, _ => absurd h (by simp)
  | k + 1, b0 :: G0, hk, nc => by
    -- the bill with the least right end
    obtain ⟨b, hb, hmin⟩ : ∃ b ∈ b0 :: G0, ∀ x ∈ b0 :: G0, b.hi ≤ x.hi := by
      clear nc hk
      induction G0 with
      | nil => exact ⟨b0, List.mem_cons_self, fun x hx => by rw [List.mem_singleton.mp hx]; exact Int.le_refl _⟩
      | cons a G ih =>
        obtain ⟨b, hb, hm⟩ := ih
        by_cases h : b.hi ≤ a.hi
        · refine ⟨b, ?_, fun x hx => ?_⟩
          · rcases List.mem_cons.mp hb with e | e
            · rw [e]; exact List.mem_cons_self
            · exact List.mem_cons_of_mem _ (List.mem_cons_of_mem _ e)
          · rcases List.mem_cons.mp hx with e | e
            · rw [e]; exact hm b0 List.mem_cons_self
            · rcases List.mem_cons.mp e with e | e
              · rw [e]; exact h
              · exact hm x (List.mem_cons_of_mem _ e)
        · refine ⟨a, List.mem_cons_of_mem _ List.mem_cons_self, fun x hx => ?_⟩
          have h' : a.hi ≤ b.hi := by omega
          rcases List.mem_cons.mp hx with e | e
          · rw [e]; exact Int.le_trans h' (hm b0 List.mem_cons_self)
          · rcases List.mem_cons.mp e with e | e
            · rw [e]; exact Int.le_refl _
            · exact Int.le_trans h' (hm x (List.mem_cons_of_mem _ e))
    generalize b0 :: G0 = G at hk nc hb hmin
    -- the others
    have hlt : (G.filter fun x => decide (x ≠ b)).length < G.length := by
      have := List.length_filter_lt_length_iff_exists (p := fun x => decide (x ≠ b)) (l := G)
      rw [this]
      exact ⟨b, hb, by simp⟩
    obtain ⟨r, hr⟩ := rank_bills S hS k (G.filter fun x => decide (x ≠ b)) (by omega) fun c x d y hx hy => nc c x d y (List.mem_filter.mp hx).1 (List.mem_filter.mp hy).1
    have memG' : ∀ {x}, x ∈ G → x ≠ b → x ∈ G.filter fun x => decide (x ≠ b) := fun hx hn => List.mem_filter.mpr ⟨hx, by simpa using hn⟩
    -- each lower of b is under each upper
    have key : ∀ l ∈ G, ∀ u ∈ G, (∃ c, S c b ∧ l.lo ≤ c ∧ c ≤ l.hi ∧ l ≠ b) → (∃ d, S d u ∧ b.lo ≤ d ∧ d ≤ b.hi ∧ b ≠ u) → r l < r u := by
      rintro l hl u hu ⟨c, hc, c1, c2, c3⟩ ⟨d, hd, d1, d2, d3⟩
      obtain ⟨b1, b2⟩ := hS c b hc
      obtain ⟨u1, u2⟩ := hS d u hd
      have hnu : ¬ (u.lo ≤ c ∧ c ≤ u.hi) := fun ⟨x, y⟩ => nc c b d u hb hu hc hd d3 d1 d2 x y
      have m1 := hmin u hu
      have m2 := hmin l hl
      have hcd : c < d := by omega
      refine hr l (memG' hl c3) u (memG' hu (Ne.symm d3)) ⟨d, hd, by omega, by omega, fun e => ?_⟩
      subst e
      exact hnu ⟨c1, c2⟩
    -- the rank
    let L := G.filter fun l => decide (∃ c, S c b ∧ l.lo ≤ c ∧ c ≤ l.hi ∧ l ≠ b) (h := Classical.propDecidable _)
    let top := L.foldr (fun l a => max (2 * r l + 2) a) 0
    have topge : ∀ (M : List Bill), ∀ l ∈ M, 2 * r l + 2 ≤ M.foldr (fun l a => max (2 * r l + 2) a) 0 := by
      intro M
      induction M with
      | nil => exact nofun
      | cons a M ih =>
        intro l hl
        rw [List.foldr_cons]
        rcases List.mem_cons.mp hl with e | e
        · rw [e]; exact Nat.le_max_left _ _
        · exact Nat.le_trans (ih l e) (Nat.le_max_right _ _)
    have tople : ∀ (M : List Bill) (n : Nat), (∀ l ∈ M, 2 * r l + 2 ≤ n) → M.foldr (fun l a => max (2 * r l + 2) a) 0 ≤ n := by
      intro M n
      induction M with
      | nil => intro _; exact Nat.zero_le _
      | cons a M ih =>
        intro h
        rw [List.foldr_cons]
        exact Nat.max_le.mpr ⟨h a List.mem_cons_self, ih fun l hl => h l (List.mem_cons_of_mem _ hl)⟩
    refine ⟨fun x => if x = b then top else 2 * r x + 1, fun m hm n hn ⟨c, hc, c1, c2, c3⟩ => ?_⟩
    by_cases em : m = b
    · subst em
      have en : ¬ n = m := fun e => c3 e.symm
      dsimp only
      rw [if_pos rfl, if_neg en]
      have : top ≤ 2 * r n := tople L _ fun l hl => by
        have h1 := (List.mem_filter.mp hl)
        have h2 := of_decide_eq_true (inst := Classical.propDecidable _) h1.2
        have := key l h1.1 n hn h2 ⟨c, hc, c1, c2, c3⟩
        omega
      omega
    · dsimp only
      rw [if_neg em]
      by_cases en : n = b
      · subst en
        rw [if_pos rfl]
        have : 2 * r m + 2 ≤ top := topge L m (List.mem_filter.mpr ⟨hm, @decide_eq_true _ (Classical.propDecidable _) ⟨c, hc, c1, c2, c3⟩⟩)
        omega
      · rw [if_neg en]
        have := hr m (memG' hm em) n (memG' hn en) ⟨c, hc, c1, c2, c3⟩
        omega
def Acyc (E : Str → Str → Prop) (V : List Str) : Prop := ∃ r : Str → Nat, ∀ m ∈ V, ∀ n ∈ V, E m n → r m < r n
theorem Acyc.mono {E E' : Str → Str → Prop} {V : List Str} (h : Acyc E V) (k : ∀ m ∈ V, ∀ n ∈ V, E' m n → E m n) : Acyc E' V := by
  obtain ⟨r, hr⟩ := h
  exact ⟨r, fun m hm n hn e => hr m hm n hn (k m hm n hn e)⟩
def Edge (F : Fence) (ss : List Si) (m n : Str) : Prop := ∃ c, (c, n) ∈ ss ∧ m ∈ ov F c ∧ m ≠ n
def Hold (F : Fence) (ss : List Si) : Prop := ∀ a ∈ ss, ∀ b ∈ ss, clashB F a b = false
theorem clash_iff {F : Fence} {a b : Si} : clashB F a b = true ↔ a.2 ≠ b.2 ∧ a.2 ∈ ov F b.1 ∧ b.2 ∈ ov F a.1 := by
  unfold clashB
  simp only [Bool.and_eq_true, Bool.not_eq_true', decide_eq_false_iff_not, decide_eq_true_eq]
  try exact Iff.rfl
theorem clash_no {F : Fence} {a b : Si} : clashB F a b = false ↔ ¬ (a.2 ≠ b.2 ∧ a.2 ∈ ov F b.1 ∧ b.2 ∈ ov F a.1) := by
  rw [← clash_iff, Bool.not_eq_true]
theorem clash_symm {F : Fence} {a b : Si} : clashB F a b = clashB F b a := by
  refine Bool.eq_iff_iff.mpr ?_
  rw [clash_iff, clash_iff]
  exact ⟨fun ⟨h1, h2, h3⟩ => ⟨h1.symm, h3, h2⟩, fun ⟨h1, h2, h3⟩ => ⟨h1.symm, h3, h2⟩⟩
theorem clash_self {F : Fence} {a : Si} : clashB F a a = false := clash_no.mpr fun h => h.1 rfl
theorem hold_iff {F : Fence} {ss : List Si} : holdB F ss = true ↔ Hold F ss := by
  unfold holdB clashL Hold
  rw [decide_eq_true_eq, List.length_eq_zero_iff, List.flatMap_eq_nil_iff]
  constructor
  · intro h
    have lt : ∀ (i j : Nat) a b, ss[i]? = some a → ss[j]? = some b → i < j → clashB F a b = false := fun i j a b hi hj hij => by
      have h1 := h (a, i) (List.mem_zipIdx_iff_getElem?.mpr hi)
      rw [List.map_eq_nil_iff, List.filter_eq_nil_iff] at h1
      have := h1 b (List.mem_of_getElem? (i := j - (i + 1)) (by rw [List.getElem?_drop]; rw [show i + 1 + (j - (i + 1)) = j by omega]; exact hj))
      simpa using this
    intro a ha b hb
    obtain ⟨i, hi, ea⟩ := List.getElem_of_mem ha
    obtain ⟨j, hj, eb⟩ := List.getElem_of_mem hb
    have ha' : ss[i]? = some a := by rw [List.getElem?_eq_getElem hi, ea]
    have hb' : ss[j]? = some b := by rw [List.getElem?_eq_getElem hj, eb]
    rcases Nat.lt_trichotomy i j with c | c | c
    · exact lt i j a b ha' hb' c
    · subst c
      rw [ha'] at hb'
      rw [Option.some.inj hb']
      exact clash_self
    · rw [clash_symm]
      exact lt j i b a hb' ha' c
  · rintro h ⟨a, i⟩ hp
    rw [List.map_eq_nil_iff, List.filter_eq_nil_iff]
    intro b hb
    rw [h a (List.mem_of_getElem? (List.mem_zipIdx_iff_getElem?.mp hp)) b (List.mem_of_mem_drop hb)]
    exact Bool.false_ne_true
theorem bill_one {F : Fence} (h : (nm F).Nodup) {a b : Bill} (ha : a ∈ F) (hb : b ∈ F) (e : a.n = b.n) : a = b := by
  unfold nm at h
  obtain ⟨i, hi, ea⟩ := List.getElem_of_mem ha
  obtain ⟨j, hj, eb⟩ := List.getElem_of_mem hb
  have h1 : (F.map Bill.n)[i]? = some a.n := by rw [List.getElem?_map, List.getElem?_eq_getElem hi, ea]; rfl
  have h2 : (F.map Bill.n)[j]? = some b.n := by rw [List.getElem?_map, List.getElem?_eq_getElem hj, eb]; rfl
  have hij : i = j := (List.getElem?_inj (by rw [List.length_map]; exact hi) h).mp (by rw [h1, h2, e])
  subst hij
  exact ea.symm.trans eb
theorem hold_acyc {F : Fence} {ss : List Si} (hF : FOk F) (hS : ∀ s ∈ ss, s.2 ∈ ov F s.1) (h : Hold F ss) : Acyc (Edge F ss) (nm F) := by
  obtain ⟨r, hr⟩ := rank_bills (fun c b => b ∈ F ∧ b.lo ≤ c ∧ c ≤ b.hi ∧ (c, b.n) ∈ ss) (fun c b h => ⟨h.2.1, h.2.2.1⟩) F.length F (Nat.le_refl _) (by
    rintro c b d e hb he ⟨_, b1, b2, b3⟩ ⟨_, e1, e2, e3⟩ hne d1 d2 c1 c2
    refine absurd (h _ b3 _ e3) ?_
    rw [clash_iff.mpr ⟨fun z => hne (bill_one hF.nd hb he z), mem_ov.mpr ⟨b, hb, rfl, d1, d2⟩, mem_ov.mpr ⟨e, he, rfl, c1, c2⟩⟩]
    exact fun z => nomatch z)
  have at_ : ∀ x ∈ nm F, ∃ b, b ∈ F ∧ b.n = x := fun x hx => List.mem_map.mp hx
  refine ⟨fun x => ((F.find? fun b => decide (b.n = x)).map r).getD 0, fun m hm n hn ⟨c, hc, h1, h2⟩ => ?_⟩
  have rv : ∀ b ∈ F, ((F.find? fun x => decide (x.n = b.n)).map r).getD 0 = r b := fun b hb => by
    cases hf : F.find? fun x => decide (x.n = b.n) with
    | none => exact absurd (List.find?_eq_none.mp hf b hb) (by simp)
    | some y =>
      have ey : y.n = b.n := by
        have := List.find?_some hf
        simpa using this
      have := bill_one hF.nd (List.mem_of_find?_eq_some hf) hb ey
      rw [this]
      rfl
  obtain ⟨bm, hbm, rfl, m1, m2⟩ := mem_ov.mp h1
  obtain ⟨bn, hbn, e, n1, n2⟩ := mem_ov.mp (hS _ hc)
  dsimp only at e n1 n2
  subst e
  dsimp only
  rw [rv bm hbm, rv bn hbn]
  exact hr bm hbm bn hbn ⟨c, ⟨hbn, n1, n2, hc⟩, m1, m2, fun z => h2 (by rw [z])⟩
theorem acyc_hold {F : Fence} {ss : List Si} (hS : ∀ s ∈ ss, s.2 ∈ ov F s.1) (h : Acyc (Edge F ss) (nm F)) : Hold F ss := by
  obtain ⟨r, hr⟩ := h
  rintro ⟨c, n⟩ ha ⟨d, m⟩ hb
  refine clash_no.mpr fun ⟨h1, h2, h3⟩ => ?_
  dsimp only at h1 h2 h3
  have e1 := hr m (ov_nm h3) n (ov_nm h2) ⟨c, ha, h3, Ne.symm h1⟩
  have e2 := hr n (ov_nm h2) m (ov_nm h3) ⟨d, hb, h2, h1⟩
  omega
/-! ### ways -/
inductive Reach (E : Str → Str → Prop) : Str → Str → Prop
  | one {m n : Str} : E m n → Reach E m n
  | step {m k n : Str} : Reach E m k → E k n → Reach E m n
theorem Reach.rank {E : Str → Str → Prop} {V : List Str} (hE : ∀ m n, E m n → m ∈ V ∧ n ∈ V) {r : Str → Nat} (hr : ∀ m ∈ V, ∀ n ∈ V, E m n → r m < r n) {m n : Str} (h : Reach E m n) : r m < r n := by
  induction h with
  | one e => exact hr _ (hE _ _ e).1 _ (hE _ _ e).2 e
  | step _ e ih => exact Nat.lt_trans ih (hr _ (hE _ _ e).1 _ (hE _ _ e).2 e)
theorem acyc_add {E : Str → Str → Prop} {V : List Str} (hE : ∀ m n, E m n → m ∈ V ∧ n ∈ V) (h : Acyc E V) {o p : Str} (ho : o ∈ V) (hp : p ∈ V) (hop : o ≠ p) : Acyc (fun m n => E m n ∨ (m = o ∧ n = p)) V ↔ ¬ Reach E p o := by
  constructor
  · rintro ⟨r, hr⟩ w
    have h1 := w.rank hE (r := r) fun m hm n hn e => hr m hm n hn (.inl e)
    have h2 := hr o ho p hp (.inr ⟨rfl, rfl⟩)
    omega
  · intro w
    obtain ⟨r, hr⟩ := h
    have dec : ∀ x, Decidable (x = p ∨ Reach E p x) := fun x => Classical.propDecidable _
    refine ⟨fun x => @ite _ (x = p ∨ Reach E p x) (dec x) (r x + (r o + 1)) (r x), fun m hm n hn e => ?_⟩
    rcases e with e | ⟨rfl, rfl⟩
    · have hlt := hr m hm n hn e
      by_cases c : m = p ∨ Reach E p m
      · have c' : n = p ∨ Reach E p n := by
          rcases c with c | c
          · subst c; exact .inr (.one e)
          · exact .inr (.step c e)
        dsimp only
        rw [if_pos c, if_pos c']
        omega
      · dsimp only
        rw [if_neg c]
        split <;> omega
    · have c : ¬ (m = n ∨ Reach E n m) := fun z => z.elim hop w
      dsimp only
      rw [if_neg c, if_pos (.inl rfl)]
      omega
theorem edge_in {F : Fence} {ss : List Si} (hS : ∀ s ∈ ss, s.2 ∈ ov F s.1) (m n : Str) (h : Edge F ss m n) : m ∈ nm F ∧ n ∈ nm F := by
  obtain ⟨c, hc, h1, _⟩ := h
  exact ⟨ov_nm h1, ov_nm (hS _ hc)⟩
/-! ### what a further telling may say -/
def seenB (F : Fence) (ss : List Si) (c : Int) (n : Str) : Bool := !ss.any fun s => clashB F (c, n) s
def seenL (F : Fence) (ss : List Si) (c : Int) : List Str := (ov F c).filter (seenB F ss c)
theorem seenB_iff {F : Fence} {ss : List Si} {c : Int} {n : Str} (h : Hold F ss) : seenB F ss c n = true ↔ Hold F ((c, n) :: ss) := by
  unfold seenB
  rw [Bool.not_eq_true', List.any_eq_false]
  constructor
  · intro k a ha b hb
    rcases List.mem_cons.mp ha with e | ha
    · rcases List.mem_cons.mp hb with e' | hb
      · rw [e, e']; exact clash_self
      · rw [e]; simpa using k b hb
    · rcases List.mem_cons.mp hb with e' | hb
      · rw [e', clash_symm]; simpa using k a ha
      · exact h a ha b hb
  · intro k s hs
    rw [k _ List.mem_cons_self _ (List.mem_cons_of_mem _ hs)]
    exact Bool.false_ne_true
/-- the top may always be told -/
theorem seen_some {F : Fence} {ss : List Si} (hF : FOk F) (hS : ∀ s ∈ ss, s.2 ∈ ov F s.1) (h : Hold F ss) {c : Int} (hc : ov F c ≠ []) : seenL F ss c ≠ [] := by
  obtain ⟨r, hr⟩ := hold_acyc hF hS h
  obtain ⟨n, hn, hm⟩ : ∃ n ∈ ov F c, ∀ x ∈ ov F c, r x ≤ r n := by
    generalize ov F c = l at hc
    induction l with
    | nil => exact absurd rfl hc
    | cons a l ih =>
      by_cases hl : l = []
      · subst hl
        exact ⟨a, List.mem_cons_self, fun x hx => by rw [List.mem_singleton.mp hx]; exact Nat.le_refl _⟩
      · obtain ⟨n, hn, hm⟩ := ih hl
        by_cases k : r n ≤ r a
        · refine ⟨a, List.mem_cons_self, fun x hx => ?_⟩
          rcases List.mem_cons.mp hx with e | e
          · rw [e]; exact Nat.le_refl _
          · exact Nat.le_trans (hm x e) k
        · refine ⟨n, List.mem_cons_of_mem _ hn, fun x hx => ?_⟩
          rcases List.mem_cons.mp hx with e | e
          · rw [e]; omega
          · exact hm x e
  refine List.ne_nil_of_mem (a := n) (List.mem_filter.mpr ⟨hn, ?_⟩)
  unfold seenB
  rw [Bool.not_eq_true', List.any_eq_false]
  rintro ⟨d, m⟩ hs
  rw [Bool.not_eq_true]
  refine clash_no.mpr fun ⟨h1, h2, h3⟩ => ?_
  dsimp only at h1 h2 h3
  have e1 := hr n (ov_nm h2) m (ov_nm h3) ⟨d, hs, h2, h1⟩
  have e2 := hm m h3
  omega
end K77
set_option maxHeartbeats 1000000
/-! Dicts from names to data. -/
namespace K77
open PySem PySem.Spec PyProof.Rows L2 Evl
section
variable {K : PySem.W.Frag} {σ : L2.St} {H H' : Hp} {ta tb te td ty tv : TE} {v : V} {d : PyData} {D : Ends} {tz : TS} {W W' : Hp → V → Str → Prop} {kvs : List (Key × V)} {ks : List Str} {n : Str} {p : Addr}
theorem dk_len (h : DK W H kvs ks) : kvs.length = ks.length := by
  have := congrArg List.length h.1
  rwa [List.length_map, List.length_map] at this
theorem val_in : ∀ {kvs : List (Key × V)} {k : Key}, k ∈ kvs.map (·.1) → ∃ v, valV kvs k = some v ∧ (k, v) ∈ kvs
  | [], _, h => by simp at h
  | (j, x) :: kvs, k, h => by
    by_cases e : j = k
    · subst e
      exact ⟨x, valV_pos rfl, List.mem_cons_self⟩
    · rw [List.map_cons, List.mem_cons] at h
      obtain ⟨v, h1, h2⟩ := val_in (h.resolve_left fun z => e z.symm)
      exact ⟨v, by rw [valV_neg e]; exact h1, List.mem_cons_of_mem _ h2⟩
theorem dk_get (h : DK W H kvs ks) (hn : n ∈ ks) : ∃ v, valV kvs (.inr n) = some v ∧ W H v n := by
  obtain ⟨v, h1, h2⟩ := val_in (kvs := kvs) (k := .inr n) (by rw [h.1]; exact List.mem_map_of_mem hn)
  exact ⟨v, h1, h.2 _ h2 n rfl⟩
theorem dk_put (h : DK W H kvs ks) (hn : n ∈ ks) (h1 : W' H' v n) (h2 : ∀ k ∈ ks, k ≠ n → ∀ x, W H x k → W' H' x k) : DK W' H' (putK kvs (.inr n) v) ks := by
  have hin : (Sum.inr n : Key) ∈ kvs.map (·.1) := by rw [h.1]; exact List.mem_map_of_mem hn
  have any : (kvs.any fun kv => decide (kv.1 = Sum.inr n)) = true := by
    obtain ⟨q, hq, e⟩ := List.mem_map.mp hin
    exact List.any_eq_true.mpr ⟨q, hq, decide_eq_true e⟩
  unfold putK
  rw [if_pos any]
  refine ⟨?_, fun q hq k hk => ?_⟩
  · rw [← h.1, List.map_map]
    refine List.map_congr_left fun q _ => ?_
    show (if q.1 = Sum.inr n then (q.1, v) else q).1 = q.1
    split <;> rfl
  · obtain ⟨q0, hq0, e⟩ := List.mem_map.mp hq
    by_cases c : q0.1 = Sum.inr n
    · rw [if_pos c] at e
      subst e
      have : Sum.inr n = (Sum.inr k : Key) := c.symm.trans hk
      injection this with this
      subst this
      exact h1
    · rw [if_neg c] at e
      subst e
      have hkm : k ∈ ks := by
        have : (Sum.inr k : Key) ∈ kvs.map (·.1) := hk ▸ List.mem_map_of_mem hq0
        rw [h.1] at this
        obtain ⟨z, hz, ez⟩ := List.mem_map.mp this
        injection ez with ez
        rw [← ez]; exact hz
      exact h2 k hkm (fun z => c (by rw [hk, z])) _ (h.2 _ hq0 k hk)
/-- one more key -/
theorem dk_new (h : DK W H kvs ks) (hn : n ∉ ks) (h1 : W' H' v n) (h2 : ∀ k ∈ ks, ∀ x, W H x k → W' H' x k) : DK W' H' (putK kvs (.inr n) v) (ks ++ [n]) := by
  have hin : (Sum.inr n : Key) ∉ kvs.map (·.1) := by
    rw [h.1]
    intro c
    obtain ⟨z, hz, e⟩ := List.mem_map.mp c
    injection e with e
    exact hn (e ▸ hz)
  rw [putK_new hin]
  refine ⟨by rw [List.map_append, h.1, List.map_append]; rfl, fun q hq k hk => ?_⟩
  rcases List.mem_append.mp hq with hq | hq
  · have hkm : k ∈ ks := by
      have : (Sum.inr k : Key) ∈ kvs.map (·.1) := hk ▸ List.mem_map_of_mem hq
      rw [h.1] at this
      obtain ⟨z, hz, ez⟩ := List.mem_map.mp this
      injection ez with ez
      rw [← ez]; exact hz
    exact h2 k hkm _ (h.2 _ hq k hk)
  · rw [List.mem_singleton] at hq
    subst hq
    injection hk with hk
    subst hk
    exact h1
abbrev DD (K : PySem.W.Frag) (val : Str → PyData) : Hp → List (Key × V) → List Str → Prop := DK fun H v n => Dt K H v (val n)
theorem DK.imp {W W' : Hp → V → Str → Prop} (h : DK W H kvs ks) (k : ∀ v n, W H v n → W' H' v n) : DK W' H' kvs ks := ⟨h.1, fun p hp n hn => k _ _ (h.2 p hp n hn)⟩
theorem DK.tle {val : Str → PyData} (h : DD K val H kvs ks) (t : TLe K H H') : DD K val H' kvs ks := h.imp fun _ _ x => x.mono t
theorem g_dget {val : Str → PyData} (hp : H p = some (.dK kvs)) (hD : DD K val H kvs ks) (ha : Ev td σ H (.ref p)) (hk : ED K ty σ H (.str n)) (hn : n ∈ ks) : ED K (tDGet td ty) σ H (val n) := fun H1 e1 Q q => ha H1 e1 _ fun H2 e2 => hk H2 (e1.trans e2) _ fun y H3 e3 hy => by
  rw [hy.strV]
  obtain ⟨v, h1, h2⟩ := dk_get hD hn
  have x3 := (e1.trans e2).trans e3
  refine ⟨p, v, rfl, ?_, q v H3 (e2.trans e3) (h2.ex x3)⟩
  rw [← h1]
  exact DGet.k (k := .inr n) (x3 _ _ hp)
theorem s_dput {R : PyData → Prop} (hp : H p = some (.dK kvs)) (hl : kvs.length < 5000) (hv : ER K tv σ H R) (ha : Ev td σ H (.ref p)) (hk : ED K ty σ H (.str n)) (k : ∀ v H1 d, Ex H H1 → Dt K H1 v d → R d → D.nx σ (upd H1 p (.dK (putK kvs (.inr n) v)))) : sDPut td ty tv D σ H :=
  hv H (Ex.refl H) _ fun v H1 d e1 hd hr => ha H1 e1 _ fun H2 e2 => hk H2 (e1.trans e2) _ fun y H3 e3 hy => by
    rw [hy.strV]
    exact ⟨p, _, rfl, DPut.k (k := .inr n) (((e1.trans e2).trans e3) _ _ hp) (sz_lt (by omega)), k v H3 d ((e1.trans e2).trans e3) (hd.ex (e2.trans e3)) hr⟩
/-- tuples stay where only dicts change -/
theorem tle_nd (h : ∀ a o, (∀ xs, o ≠ HO.dK xs) → H a = some o → H' a = some o) : TLe K H H' := fun a xs q => by
  rcases q with (q | ⟨ob, q⟩) | q
  · exact .inl (.inl (h _ _ (fun _ z => nomatch z) q))
  · exact .inl (.inr ⟨ob, h _ _ (fun _ z => nomatch z) q⟩)
  · exact .inr q
/-- .. of a dict comprehension over names -/
theorem d_dcD {wi : TI} {g : TG} {tk tv : TE} {vs : List Nat} {R : Hp → V → Str → Prop} {S : Hp → Hp → Prop} (val : Str → PyData) (h : IV wi σ H ks R S) (hS : ∀ {H H'}, Ex H H' → S H H') (hl : ks.length < 5000) (hn : ks.Nodup)
    (ht : ∀ k, k ∈ ks → ∀ v H1, Ex H H1 → R H1 v k → ∃ σ2, (∀ Q : L2.St → Hp → Prop, Q σ2 H1 → g v (wipe σ vs) H1 Q) ∧ wipe σ2 vs = wipe σ vs ∧ Ev tk σ2 H1 (.str k) ∧ ED K tv σ2 H1 (val k)) : ∀ H0, Ex H H0 → ∀ Q : VK, (∀ p kvs H2, H0 p = none → Ex H0 H2 → H2 p = some (.dK kvs) → DD K val H2 kvs ks → Q (.ref p) H2) → tDc wi g tYes tk tv vs σ H0 Q :=
  d_dcI (K := K) (fun H v n => Dt K H v (val n)) (fun k h => h.mono (tle_nd k)) h hS hl hn fun k hk v H1 e1 hr => by
    obtain ⟨σ2, a1, a2, a3, a4⟩ := ht k hk v H1 e1 hr
    exact ⟨σ2, a1, a2, yes_t, a3, a4⟩
theorem q_asgDc {wi : TI} {g : TG} {tk tv : TE} {vs : List Nat} {R : Hp → V → Str → Prop} {S : Hp → Hp → Prop} {i : Nat} (val : Str → PyData) (h : IV wi σ H ks R S) (hS : ∀ {H H'}, Ex H H' → S H H') (hl : ks.length < 5000) (hn : ks.Nodup)
    (ht : ∀ k, k ∈ ks → ∀ v H1, Ex H H1 → R H1 v k → ∃ σ2, (∀ Q : L2.St → Hp → Prop, Q σ2 H1 → g v (wipe σ vs) H1 Q) ∧ wipe σ2 vs = wipe σ vs ∧ Ev tk σ2 H1 (.str k) ∧ ED K tv σ2 H1 (val k))
    (k : ∀ p kvs H1, H p = none → Ex H H1 → H1 p = some (.dK kvs) → DD K val H1 kvs ks → tz D (σ.set i (some (.ref p))) H1) : tSeq (tAsg (tDc wi g tYes tk tv vs) (gName i)) tz D σ H :=
  d_dcD (K := K) val h hS hl hn ht H (Ex.refl H) (fun x H1 => gName i x σ H1 (tz D)) k
/-- to a new list with R -/
def ELR (K : PySem.W.Frag) (te : TE) (σ : L2.St) (H : Hp) (R : List PyData → Prop) : Prop := ∀ H1, Ex H H1 → ∀ Q : VK, (∀ p xs H2 es, H1 p = none → Ex H1 H2 → H2 p = some (.lst xs) → Dts K H2 xs es → R es → Q (.ref p) H2) → te σ H1 Q
theorem EL.toR {ds : List PyData} {R : List PyData → Prop} (h : EL K te σ H ds) (hr : R ds) : ELR K te σ H R := fun H1 e1 Q q => h H1 e1 Q fun p xs H2 hp e2 hx hd => q p xs H2 ds hp e2 hx hd hr
theorem r_tupleOf {R : List PyData → Prop} (h : ELR K te σ H R) : ER K (tCB (fun xs H Q => ∃ p ys, xs = [.ref p] ∧ ((SqL K H p ys ∧ ∀ l, H l = none → Q (.ref l) (upd H l (.tup ys))) ∨ (SqT K H p ys ∧ Q (.ref p) H))) (tCons te tNil)) σ H fun d => ∃ es, d = .tuple es ∧ R es := fun H1 e1 Q q =>
  h H1 e1 _ fun p xs H2 es hp e2 hx hd hr => ⟨p, xs, rfl, .inl ⟨sq_of hx, fun l hl => q (.ref l) _ _ (e2.trans (Ex.new hl)) (.tup (st_of upd_same) (hd.ex (Ex.new hl))) ⟨es, rfl, hr⟩⟩⟩
theorem lc2_R {R R' : List PyData → Prop} {tl : TE} {g g1 : TG} {t t1 : TT} {wi1 : TI} {vs vs1 : List Nat} (h : ELR K tl σ H R) (k : ∀ v H1 es, Ex H H1 → R es → ES K (tC v) σ H1 es → ELR K (tLc2 (iList K (tC v)) g t wi1 g1 t1 te vs vs1) σ H1 R') : ELR K (tLc2 (iList K tl) g t wi1 g1 t1 te vs vs1) σ H R' := fun H1 e1 Q q =>
  h H1 e1 (fun v H2 => tLc2 (iList K (tC v)) g t wi1 g1 t1 te vs vs1 σ H2 Q) fun p xs H2 es hp e2 hx hd hr => k (.ref p) H2 es (e1.trans e2) hr (es_old ev_c (sq_of hx) hd) H2 (Ex.refl H2) Q fun p2 xs2 H3 es2 hp2 e3 hx2 hd2 hr2 => q p2 xs2 H3 es2 (fresh_back e2 hp2) (e2.trans e3) hx2 hd2 hr2
theorem lc_R {R R' : List PyData → Prop} {tl : TE} {g : TG} {t : TT} {vs : List Nat} (h : ELR K tl σ H R) (k : ∀ v H1 es, Ex H H1 → R es → ES K (tC v) σ H1 es → ELR K (tLc (iList K (tC v)) g t te vs) σ H1 R') : ELR K (tLc (iList K tl) g t te vs) σ H R' := fun H1 e1 Q q =>
  h H1 e1 (fun v H2 => tLc (iList K (tC v)) g t te vs σ H2 Q) fun p xs H2 es hp e2 hx hd hr => k (.ref p) H2 es (e1.trans e2) hr (es_old ev_c (sq_of hx) hd) H2 (Ex.refl H2) Q fun p2 xs2 H3 es2 hp2 e3 hx2 hd2 hr2 => q p2 xs2 H3 es2 (fresh_back e2 hp2) (e2.trans e3) hx2 hd2 hr2
theorem q_asgLR {R : List PyData → Prop} {i : Nat} (h : ELR K te σ H R) (k : ∀ p xs H1 es, H p = none → Ex H H1 → H1 p = some (.lst xs) → Dts K H1 xs es → R es → tz D (σ.set i (some (.ref p))) H1) : tSeq (tAsg te (gName i)) tz D σ H := h H (Ex.refl H) _ k
/-- to something of which G says the rest -/
def GE (te : TE) (σ : L2.St) (H : Hp) (G : Hp → V → Prop) : Prop := ∀ H1, Ex H H1 → ∀ Q : VK, (∀ v H2, Ex H1 H2 → G H2 v → Q v H2) → te σ H1 Q
theorem ge_D (h : ED K te σ H d) : GE te σ H fun H v => Dt K H v d := h
def GList (K : PySem.W.Frag) (H : Hp) (ds : List PyData) (H2 : Hp) (v : V) : Prop := ∃ p xs, v = .ref p ∧ H p = none ∧ H2 p = some (.lst xs) ∧ Dts K H2 xs ds
theorem glist_ex {ds : List PyData} {H0 H H' : Hp} {v : V} (e : Ex H H') (h : GList K H0 ds H v) : GList K H0 ds H' v := by
  obtain ⟨p, xs, rfl, hp, hx, hd⟩ := h
  exact ⟨p, xs, rfl, hp, e _ _ hx, hd.ex e⟩
theorem gd_ex {d : PyData} {H H' : Hp} {v : V} (e : Ex H H') (h : Dt K H v d) : Dt K H' v d := h.ex e
theorem ge_L {ds : List PyData} (h : EL K te σ H ds) : GE te σ H (GList K H ds) := fun H1 e1 Q q => h H1 e1 Q fun p xs H2 hp e2 hx hd => q _ H2 e2 ⟨p, xs, rfl, fresh_back e1 hp, hx, hd⟩
def GDict (K : PySem.W.Frag) (H : Hp) (val : Str → PyData) (ks : List Str) (H2 : Hp) (v : V) : Prop := ∃ p kvs, v = .ref p ∧ H p = none ∧ H2 p = some (.dK kvs) ∧ DD K val H2 kvs ks
/-- a, b, c = x, y, z through a pair that is laid -/
theorem q_asg3 {t1 t2 t3 : TE} {i j k : Nat} {G1 G2 G3 : Hp → V → Prop} (h1 : GE t1 σ H G1) (h2 : GE t2 σ H G2) (h3 : GE t3 σ H G3) (s1 : ∀ {H H' v}, Ex H H' → G1 H v → G1 H' v) (s2 : ∀ {H H' v}, Ex H H' → G2 H v → G2 H' v) (s3 : ∀ {H H' v}, Ex H H' → G3 H v → G3 H' v)
    (kk : ∀ x y z H1, Ex H H1 → G1 H1 x → G2 H1 y → G3 H1 z → tz D (((σ.set i (some x)).set j (some y)).set k (some z)) H1) : tSeq (tAsg (tTup (tCons t1 (tCons t2 (tCons t3 tNil)))) (gTup K 3 (gCons (gName i) (gCons (gName j) (gCons (gName k) gNil))))) tz D σ H :=
  h1 H (Ex.refl H) _ fun x H1 e1 g1 => h2 H1 e1 _ fun y H2 e2 g2 => h3 H2 (e1.trans e2) _ fun z H3 e3 g3 => ⟨sz_of (by simp), fun p hp => by
    have e4 : Ex H3 (upd H3 p (.tup [x, y, z])) := Ex.new hp
    exact ⟨p, [x, y, z], rfl, st_of upd_same, rfl, x, [y, z], rfl, y, [z], rfl, z, [], rfl, rfl, kk x y z _ (((e1.trans e2).trans e3).trans e4) (s1 ((e2.trans e3).trans e4) g1) (s2 (e3.trans e4) g2) (s3 e4 g3)⟩⟩
theorem gdict_ex {val : Str → PyData} {ks : List Str} {H0 H H' : Hp} {v : V} (e : Ex H H') (h : GDict K H0 val ks H v) : GDict K H0 val ks H' v := by
  obtain ⟨p, kvs, rfl, hp, hx, hD⟩ := h
  exact ⟨p, kvs, rfl, hp, e _ _ hx, hD.tle (TLe.ex e)⟩
/-- .. a promise of it -/
def spLR {α : Type} (K : PySem.W.Frag) (args : α → List PyData) (P : α → Prop) (R : α → List PyData → Prop) : Sp := fun vs H Q _ => ∃ a, P a ∧ Dts K H vs (args a) ∧ ∀ p xs H2 es, H p = none → Ex H H2 → H2 p = some (.lst xs) → Dts K H2 xs es → R a es → Q (.ref p) H2
theorem spLR_len {α : Type} {args : α → List PyData} {P : α → Prop} {R : α → List PyData → Prop} {n : Nat} (hn : ∀ a, (args a).length = n) : ∀ vs H Q E, spLR K args P R vs H Q E → vs.length = n := by
  rintro vs H Q E ⟨a, _, hd, _⟩
  rw [hd.length, hn]
theorem lr_call {α : Type} {args : α → List PyData} {P : α → Prop} {R : α → List PyData → Prop} {E : XK} {ta : TA} (a : α) (h : EA K ta σ H (args a)) (hP : P a) : ELR K (tCall (spLR K args P R) [] E ta) σ H (R a) := fun H1 e1 Q q => h H1 e1 _ fun vs H2 e2 hd => by
  show spLR K args P R (vs ++ []) H2 Q E
  rw [List.append_nil]
  exact ⟨a, hP, hd, fun p xs H3 es hp e3 => q p xs H3 es (fresh_back e2 hp) (e2.trans e3)⟩
/-- a promise of a new dict -/
def spDict {α : Type} (K : PySem.W.Frag) (args : α → List PyData) (P : α → Prop) (ks : α → List Str) (val : α → Str → PyData) : Sp := fun vs H Q _ => ∃ a, P a ∧ Dts K H vs (args a) ∧ ∀ p kvs H2, H p = none → Ex H H2 → H2 p = some (.dK kvs) → DD K (val a) H2 kvs (ks a) → Q (.ref p) H2
theorem spDict_len {α : Type} {args : α → List PyData} {P : α → Prop} {ks : α → List Str} {val : α → Str → PyData} {n : Nat} (hn : ∀ a, (args a).length = n) : ∀ vs H Q E, spDict K args P ks val vs H Q E → vs.length = n := by
  rintro vs H Q E ⟨a, _, hd, _⟩
  rw [hd.length, hn]
/-- .. of some datum -/
def spR {α : Type} (K : PySem.W.Frag) (args : α → List PyData) (P : α → Prop) (R : α → PyData → Prop) : Sp := fun vs H Q _ => ∃ a, P a ∧ Dts K H vs (args a) ∧ ∀ v H2 d, Ex H H2 → Dt K H2 v d → R a d → Q v H2
theorem spR_len {α : Type} {args : α → List PyData} {P : α → Prop} {R : α → PyData → Prop} {n : Nat} (hn : ∀ a, (args a).length = n) : ∀ vs H Q E, spR K args P R vs H Q E → vs.length = n := by
  rintro vs H Q E ⟨a, _, hd, _⟩
  rw [hd.length, hn]
theorem r_call {α : Type} {args : α → List PyData} {P : α → Prop} {R : α → PyData → Prop} {E : XK} {ta : TA} (a : α) (h : EA K ta σ H (args a)) (hP : P a) : ER K (tCall (spR K args P R) [] E ta) σ H (R a) := fun H1 e1 Q q => h H1 e1 _ fun vs H2 e2 hd => by
  show spR K args P R (vs ++ []) H2 Q E
  rw [List.append_nil]
  exact ⟨a, hP, hd, fun v H3 d e3 => q v H3 d (e2.trans e3)⟩
theorem ge_callDict {α : Type} {args : α → List PyData} {P : α → Prop} {ks : α → List Str} {val : α → Str → PyData} {E : XK} {ta : TA} (a : α) (h : EA K ta σ H (args a)) (hP : P a) : GE (tCall (spDict K args P ks val) [] E ta) σ H (GDict K H (val a) (ks a)) := fun H1 e1 Q q => h H1 e1 _ fun vs H2 e2 hd => by
  refine ⟨a, hP, (by rw [List.append_nil]; exact hd), fun p kvs H3 hp e3 hx hD => q _ H3 (e2.trans e3) ⟨p, kvs, rfl, fresh_back (e1.trans e2) hp, hx, hD⟩⟩
theorem q_asgDict {α : Type} {args : α → List PyData} {P : α → Prop} {ks : α → List Str} {val : α → Str → PyData} {E : XK} {ta : TA} {i : Nat} (a : α) (h : EA K ta σ H (args a)) (hP : P a) (k : ∀ p kvs H1, H p = none → Ex H H1 → H1 p = some (.dK kvs) → DD K (val a) H1 kvs (ks a) → tz D (σ.set i (some (.ref p))) H1) :
    tSeq (tAsg (tCall (spDict K args P ks val) [] E ta) (gName i)) tz D σ H := h H (Ex.refl H) _ fun vs H1 e1 hd => by
  show spDict K args P ks val (vs ++ []) H1 _ E
  rw [List.append_nil]
  exact ⟨a, hP, hd, fun p kvs H2 hp e2 => k p kvs H2 (fresh_back e1 hp) (e1.trans e2)⟩
/-! ### a dict is walked -/
theorem tle_frz {od : Obj} {x : HO} (h : H p = some (.dK kvs)) (hx : ∀ xs, x ≠ .tup xs) : TLe K H (upd H p x) := TLe.put h (fun _ z => nomatch z) fun _ _ z => nomatch z
theorem l_lock {t : TE} {ds : List PyData} (hd : H p = some (.dK kvs)) (h : ∀ od, EL K t σ (upd H p (.frz od (.dK kvs))) ds) : EL K (tLockE t) σ H ds := fun H1 e1 Q q => by
  refine ⟨p, .dK kvs, e1 _ _ hd, trivial, fun od => ?_⟩
  have ex : Ex (upd H p (.frz od (.dK kvs))) (upd H1 p (.frz od (.dK kvs))) := fun a o e => by
    by_cases c : a = p
    · subst c; rw [upd_same] at e ⊢; exact e
    · rw [upd_ne c] at e ⊢; exact e1 _ _ e
  refine h od _ ex _ fun r xs H2 hr e2 hx hD => ?_
  have hp2 := e2 _ _ (upd_same (H := H1) (a := p) (o := .frz od (.dK kvs)))
  have hrp : r ≠ p := fun c => by rw [c, upd_same] at hr; cases hr
  refine ⟨hp2, q r xs _ ?_ (fun a o e => ?_) ?_ ?_⟩
  · rwa [upd_ne hrp] at hr
  · by_cases c : a = p
    · subst c
      rw [e1 _ _ hd] at e
      rw [upd_same]; exact e
    · rw [upd_ne c]
      exact e2 _ _ (by rw [upd_ne c]; exact e)
  · rw [upd_ne hrp]; exact hx
  · exact hD.mono (TLe.put hp2 (fun _ z => nomatch z) fun _ _ z => nomatch z)
theorem iv_keys {od : Obj} {td : TE} (ha : Ev td σ H (.ref p)) (hp : H p = some (.frz od (.dK kvs))) (hk : kvs.map (·.1) = ks.map Sum.inr) : IV (iKeys td) σ H ks (fun _ v n => v = .str n) Ex := fun H1 e1 Q q => ha H1 e1 _ fun H2 e2 => by
  have hl : kvs.length = ks.length := by
    have := congrArg List.length hk
    rwa [List.length_map, List.length_map] at this
  refine ⟨p, od, rfl, .inl ⟨kvs, (e1.trans e2) _ _ hp, q _ H2 (fun H => H p = some (.frz od (.dK kvs))) e2 (fun H3 e3 => e3 _ _ ((e1.trans e2) _ _ hp)) ⟨fun i H h hi => ⟨h, by omega⟩, fun H h => ⟨h, by omega⟩, fun i H v H' h hi ⟨e, k, x, hx, ev⟩ => ?_⟩⟩⟩
  subst e
  have h1 : (kvs.map (·.1))[i]? = some k := by rw [List.getElem?_map, hx]; rfl
  rw [hk, List.getElem?_map] at h1
  obtain ⟨n, hn, e⟩ := Option.map_eq_some_iff.mp h1
  subst e
  exact ⟨n, hn, Ex.refl _, ev⟩
theorem g_dgetF {od : Obj} {val : Str → PyData} (hp : H p = some (.frz od (.dK kvs))) (hD : DD K val H kvs ks) (ha : Ev td σ H (.ref p)) (hk : ED K ty σ H (.str n)) (hn : n ∈ ks) : ED K (tDGet td ty) σ H (val n) := fun H1 e1 Q q => ha H1 e1 _ fun H2 e2 => hk H2 (e1.trans e2) _ fun y H3 e3 hy => by
  rw [hy.strV]
  obtain ⟨v, h1, h2⟩ := dk_get hD hn
  have x3 := (e1.trans e2).trans e3
  exact ⟨p, v, rfl, .inl ⟨kvs, .inr n, .inr ⟨od, x3 _ _ hp⟩, rfl, h1.symm⟩, q v H3 (e2.trans e3) (h2.ex x3)⟩
/-! ### equal data -/
theorem can_all {α : Type} {enc : α → PyData} : ∀ {xs : List α}, (∀ x ∈ xs, (enc x).canLay0 = true) → PyData.canLayAll0 (xs.map enc) = true
  | [], _ => rfl
  | x :: xs, h => by
    rw [List.map_cons, PyData.canLayAll0, h x List.mem_cons_self, can_all fun y hy => h y (List.mem_cons_of_mem _ hy)]
    rfl
theorem depth_all {α : Type} {enc : α → PyData} {n : Nat} : ∀ {xs : List α}, (∀ x ∈ xs, (enc x).depth ≤ n) → PyData.depthAll (xs.map enc) ≤ n
  | [], _ => Nat.zero_le _
  | x :: xs, h => by
    rw [List.map_cons, PyData.depthAll]
    exact Nat.max_le.mpr ⟨h x List.mem_cons_self, depth_all fun y hy => h y (List.mem_cons_of_mem _ hy)⟩
theorem sh_tup {α : Type} {enc : α → PyData} {xs : List α} (h1 : ∀ x ∈ xs, (enc x).canLay0 = true) (h2 : ∀ x ∈ xs, (enc x).depth ≤ 60) : SeqAt.shaped (.tuple (xs.map enc)) = true := by
  unfold SeqAt.shaped
  rw [PyData.canLay0, can_all h1, PyData.depth, Bool.true_and]
  exact decide_eq_true (by have := depth_all h2; omega)
theorem sh_list {α : Type} {enc : α → PyData} {xs : List α} (h1 : ∀ x ∈ xs, (enc x).canLay0 = true) (h2 : ∀ x ∈ xs, (enc x).depth ≤ 60) : SeqAt.shaped (.list (xs.map enc)) = true := by
  unfold SeqAt.shaped
  rw [PyData.canLay0, can_all h1, PyData.depth, Bool.true_and]
  exact decide_eq_true (by have := depth_all h2; omega)
theorem g_eqTT {d e : PyData} (ha : ED K ta σ H d) (hb : ED K tb σ H e) (sd : SeqAt.shaped d = true) (se : SeqAt.shaped e = true) : ED K (tOp (rEqD K) ta tb) σ H (.bool (PyData.eqv d e)) :=
  g_op ha hb fun H1 x y _ hx hy Q q => ⟨d, e, hx.dp, hy.dp, sd, se, q _ H1 (Ex.refl _) (.bl _)⟩
theorem g_neTT {d e : PyData} (ha : ED K ta σ H d) (hb : ED K tb σ H e) (sd : SeqAt.shaped d = true) (se : SeqAt.shaped e = true) : ED K (tOp (rNeD K) ta tb) σ H (.bool (!PyData.eqv d e)) :=
  g_op ha hb fun H1 x y _ hx hy Q q => ⟨d, e, hx.dp, hy.dp, sd, se, q _ H1 (Ex.refl _) (.bl _)⟩
theorem g_neLL {ds es : List PyData} (ha : ES K ta σ H ds) (hb : ES K tb σ H es) (sd : SeqAt.shaped (.list ds) = true) (se : SeqAt.shaped (.list es) = true) : ED K (tOp (rNeD K) ta tb) σ H (.bool (!PyData.eqv (.list ds) (.list es))) := fun H1 e1 Q q =>
  ha H1 e1 _ fun p xs H2 e2 hp hx => hb H2 (e1.trans e2) _ fun r ys H3 e3 hr hy => ⟨.list ds, .list es, .lst (ex_l e3 hp) (hx.ex e3).dp, .lst hr hy.dp, sd, se, q _ H3 (e2.trans e3) (.bl _)⟩
theorem g_eqLR {R : List PyData → Prop} {es : List PyData} {b : Bool} (ha : ELR K ta σ H R) (hb : ES K tb σ H es) (k : ∀ ds, R ds → SeqAt.shaped (.list ds) = true ∧ SeqAt.shaped (.list es) = true ∧ PyData.eqv (.list ds) (.list es) = b) : ED K (tOp (rEqD K) ta tb) σ H (.bool b) := fun H1 e1 Q q =>
  ha H1 e1 _ fun p xs H2 ds _ e2 hp hx hr => hb H2 (e1.trans e2) _ fun r ys H3 e3 hr' hy => by
    obtain ⟨h1, h2, h3⟩ := k ds hr
    refine ⟨.list ds, .list es, .lst (ex_l e3 (sq_of hp)) (hx.ex e3).dp, .lst hr' hy.dp, h1, h2, ?_⟩
    rw [h3]
    exact q _ H3 (e2.trans e3) (.bl _)
/-- sorted(xs) -/
theorem r_srtT {ds : List PyData} (h : ED K te σ H (.tuple ds)) (hl : ds.length < 64) (hin : SetIn ds) : ELR K (tCB (rSrt K) (tCons te tNil)) σ H fun es => es.Perm ds ∧ es.Pairwise NotGt := fun H1 e1 Q q => h H1 e1 _ fun v H2 e2 hv => by
  obtain ⟨a, xs, rfl, hs, hx⟩ := hv.tupV
  exact ⟨a, xs, ds, rfl, .inr hs, hx, hl, hin, fun p ys es hp pm pw hy => q p ys _ es (fresh_back e2 hp) (e2.trans (Ex.new hp)) upd_same (hy.ex (Ex.new hp)) ⟨pm, pw⟩⟩
theorem r_srtL {ds : List PyData} (h : ES K te σ H ds) (hl : ds.length < 64) (hin : SetIn ds) : ELR K (tCB (rSrt K) (tCons te tNil)) σ H fun es => es.Perm ds ∧ es.Pairwise NotGt := fun H1 e1 Q q => h H1 e1 _ fun a xs H2 e2 hs hx =>
  ⟨a, xs, ds, rfl, .inl hs, hx, hl, hin, fun p ys es hp pm pw hy => q p ys _ es (fresh_back e2 hp) (e2.trans (Ex.new hp)) upd_same (hy.ex (Ex.new hp)) ⟨pm, pw⟩⟩
/-! ### loops over a new list while dicts and the lists at B change -/
def LTx (K : PySem.W.Frag) (B : Addr → Prop) (H H' : Hp) : Prop := (∀ a xs, ¬ B a → SqL K H a xs → SqL K H' a xs) ∧ TLe K H H'
theorem LTx.refl {B : Addr → Prop} : LTx K B H H := ⟨fun _ _ _ h => h, TLe.refl⟩
theorem LTx.trans {B : Addr → Prop} {H2 : Hp} (a : LTx K B H H') (b : LTx K B H' H2) : LTx K B H H2 := ⟨fun x xs hx h => b.1 x xs hx (a.1 x xs hx h), a.2.trans b.2⟩
theorem LTx.ex {B : Addr → Prop} (e : Ex H H') : LTx K B H H' := ⟨fun _ _ _ h => ex_l e h, TLe.ex e⟩
theorem sql_put {a : Addr} {o o' : HO} {b : Addr} {xs : List V} (h : H a = some o) (n : ∀ xs, o ≠ .lst xs) (n2 : ∀ ob xs, o ≠ .frz ob (.lst xs)) (q : SqL K H b xs) : SqL K (upd H a o') b xs := by
  rcases q with (q | ⟨ob, q⟩) | q
  · refine .inl (.inl ?_)
    rw [upd_ne fun z => by rw [z, h] at q; exact n xs (Option.some.inj q)]
    exact q
  · refine .inl (.inr ⟨ob, ?_⟩)
    rw [upd_ne fun z => by rw [z, h] at q; exact n2 ob xs (Option.some.inj q)]
    exact q
  · exact .inr q
theorem LTx.dk {B : Addr → Prop} {o' : HO} (h : H p = some (.dK kvs)) : LTx K B H (upd H p o') := ⟨fun _ _ _ q => sql_put h (fun _ z => nomatch z) (fun _ _ z => nomatch z) q, TLe.dk h⟩
theorem sql_ne {a : Addr} {o' : HO} {b : Addr} {xs : List V} (hne : b ≠ a) (q : SqL K H b xs) : SqL K (upd H a o') b xs := by
  rcases q with (q | ⟨ob, q⟩) | q
  · exact .inl (.inl (by rw [upd_ne hne]; exact q))
  · exact .inl (.inr ⟨ob, by rw [upd_ne hne]; exact q⟩)
  · exact .inr q
theorem LTx.lst {B : Addr → Prop} {a : Addr} {xs : List V} {o' : HO} (hB : B a) (h : H a = some (.lst xs)) : LTx K B H (upd H a o') := ⟨fun b ys hb q => sql_ne (fun z => hb (z ▸ hB)) q, TLe.lst h⟩
theorem iv_listX {α : Type} {xs : List α} {enc : α → PyData} {tl : TE} (B : Addr → Prop) (hB : ∀ a, B a → ∃ o, H a = some o) (h : EL K tl σ H (xs.map enc)) : IV (iList K tl) σ H xs (RD K enc) (LTx K B) := fun H1 e1 Q q => h H1 e1 _ fun a vs H2 hn e2 hs hx => by
  have nb : ¬ B a := fun hb => by
    obtain ⟨o, ho⟩ := hB a hb
    rw [e1 _ _ ho] at hn
    cases hn
  exact ⟨a, rfl, ⟨vs, sq_of hs⟩, q _ H2 _ e2 (fun H3 k => ⟨k.1 _ _ nb (sq_of hs), hx.mono k.2⟩) runs_list⟩
/-- .. a list of which R says the rest -/
theorem q_forLR {α : Type} {enc : α → PyData} {tl : TE} {g : TG} {tbd : TS} {R : List PyData → Prop} (B : Addr → Prop) (hB : ∀ a, B a → ∃ o, H a = some o) (h : ELR K tl σ H R) (k : ∀ es H2, Ex H H2 → R es → ∃ (xs : List α) (Pv : Nat → L2.St → Hp → Prop), es = xs.map enc ∧ Pv 0 σ H2 ∧ (∀ i σ' H', Pv i σ' H' → LTx K B H2 H') ∧
    (∀ i x v σ' H', xs[i]? = some x → Pv i σ' H' → Dt K H' v (enc x) → g v σ' H' fun σ2 H4 => tbd { D with nx := Pv (i + 1), ct := Pv (i + 1), bk := tz D } σ2 H4) ∧ (∀ σ' H', Pv xs.length σ' H' → tz D σ' H')) : tSeq (tFor (iList K tl) g tbd) tz D σ H := h H (Ex.refl H) _ fun a vs H2 es hn e2 hs hx hr => by
  obtain ⟨xs, Pv, rfl, h0, hS, hst, hd⟩ := k es H2 e2 hr
  have nb : ¬ B a := fun hb => by
    obtain ⟨o, ho⟩ := hB a hb
    rw [ho] at hn
    cases hn
  have kp : ∀ i σ' H', Pv i σ' H' → SqL K H' a vs ∧ Dts K H' vs (xs.map enc) := fun i σ' H' p => ⟨(hS i σ' H' p).1 _ _ nb (sq_of hs), hx.mono (hS i σ' H' p).2⟩
  refine ⟨a, rfl, ⟨vs, sq_of hs⟩, fun i m σ' H' => m = xs.length - i ∧ i ≤ xs.length ∧ Pv i σ' H', ⟨xs.length, by omega, Nat.zero_le _, h0⟩, ?_⟩
  rintro i m σ' H' ⟨rfl, hi, p⟩
  have r := runs_list (K := K) (a := a) (vs := vs) (xs := xs) (enc := enc)
  by_cases hlt : i < xs.length
  · refine .inr ⟨r.go i H' (kp i σ' H' p) hlt, Pv (i + 1), fun σ2 H2 p2 => ⟨xs.length - (i + 1), by omega, rfl, hlt, p2⟩, fun v H3 y => ?_⟩
    have e : H3 = H' := y.1
    subst e
    obtain ⟨x, hx', _, hr'⟩ := r.yld i H3 v H3 (kp i σ' H3 p) hlt y
    exact hst i x v σ' H3 hx' p hr'
  · obtain rfl : i = xs.length := by omega
    exact .inl ⟨r.stop H' (kp _ σ' H' p), hd σ' H' p⟩
/-- the third is newer than the others -/
theorem q_asg3b {t1 t2 t3 : TE} {i j k : Nat} {G1 G2 : Hp → V → Prop} {G3 : Hp → Hp → V → Prop} (h1 : GE t1 σ H G1) (h2 : GE t2 σ H G2) (h3 : ∀ H2, Ex H H2 → GE t3 σ H2 (G3 H2)) (s1 : ∀ {H H' v}, Ex H H' → G1 H v → G1 H' v) (s3 : ∀ {H0 H H' v}, Ex H H' → G3 H0 H v → G3 H0 H' v)
    (kk : ∀ x y z H2 H3, Ex H H2 → Ex H2 H3 → G1 H2 x → G2 H2 y → G3 H2 H3 z → tz D (((σ.set i (some x)).set j (some y)).set k (some z)) H3) : tSeq (tAsg (tTup (tCons t1 (tCons t2 (tCons t3 tNil)))) (gTup K 3 (gCons (gName i) (gCons (gName j) (gCons (gName k) gNil))))) tz D σ H :=
  h1 H (Ex.refl H) _ fun x H1 e1 g1 => h2 H1 e1 _ fun y H2 e2 g2 => h3 H2 (e1.trans e2) H2 (Ex.refl H2) _ fun z H3 e3 g3 => ⟨sz_of (by simp), fun p hp => by
    have e4 : Ex H3 (upd H3 p (.tup [x, y, z])) := Ex.new hp
    exact ⟨p, [x, y, z], rfl, st_of upd_same, rfl, x, [y, z], rfl, y, [z], rfl, z, [], rfl, rfl, kk x y z H2 _ (e1.trans e2) (e3.trans e4) (s1 e2 g1) g2 (s3 e4 g3)⟩⟩
theorem s_dropD (h : ED K te σ H d) (k : ∀ H1, Ex H H1 → D.nx σ H1) : tDrop te D σ H := h H (Ex.refl H) _ fun _ H1 e _ => k H1 e
theorem q_dropD (h : ED K te σ H d) (k : ∀ H1, Ex H H1 → tz D σ H1) : tSeq (tDrop te) tz D σ H := s_dropD (D := { D with nx := tz D }) h k
theorem r_tSS {tl : TE} {ds : List PyData} (h : ES K tl σ H ds) (hl : ds.length < 64) (hin : SetIn ds) : ELR K (tSS K tl) σ H (SetRes ds) := fun H1 e1 Q q => h H1 e1 _ fun p xs H2 e2 hp hx =>
  ⟨p, xs, ds, rfl, hp, hx, hl, hin, fun p2 ys es hn nd mem srt len hy => q p2 ys _ es (fresh_back e2 hn) (e2.trans (Ex.new hn)) upd_same (hy.ex (Ex.new hn)) ⟨nd, mem, srt, len⟩⟩
/-- arguments some of which are known by R alone -/
def EAR (K : PySem.W.Frag) (ta : TA) (σ : L2.St) (H : Hp) (R : List PyData → Prop) : Prop := ∀ H1, Ex H H1 → ∀ Q : List V → Hp → Prop, (∀ vs H2 ds, Ex H1 H2 → Dts K H2 vs ds → R ds → Q vs H2) → ta σ H1 Q
theorem ear_of {ta : TA} {ds : List PyData} (h : EA K ta σ H ds) : EAR K ta σ H (· = ds) := fun H1 e1 Q q => h H1 e1 Q fun vs H2 e2 hd => q vs H2 ds e2 hd rfl
theorem ear_D {t1 : TE} {ta : TA} {R : List PyData → Prop} (h : ED K t1 σ H d) (hr : EAR K ta σ H R) : EAR K (tCons t1 ta) σ H fun es => ∃ r, es = d :: r ∧ R r := fun H1 e1 Q q =>
  h H1 e1 _ fun v H2 e2 hd => hr H2 (e1.trans e2) _ fun vs H3 ds e3 hds hR => q (v :: vs) H3 (d :: ds) (e2.trans e3) (.cons (hd.ex e3) hds) ⟨ds, rfl, hR⟩
theorem ear_R {t1 : TE} {ta : TA} {R1 : PyData → Prop} {R : List PyData → Prop} (h : ER K t1 σ H R1) (hr : EAR K ta σ H R) : EAR K (tCons t1 ta) σ H fun es => ∃ d r, es = d :: r ∧ R1 d ∧ R r := fun H1 e1 Q q =>
  h H1 e1 _ fun v H2 d e2 hd h1 => hr H2 (e1.trans e2) _ fun vs H3 ds e3 hds hR => q (v :: vs) H3 (d :: ds) (e2.trans e3) (.cons (hd.ex e3) hds) ⟨d, ds, rfl, h1, hR⟩
theorem r_tup {ta : TA} {R : List PyData → Prop} (h : EAR K ta σ H R) (hl : ∀ ds, R ds → ds.length ≤ 100000) : ER K (tTup ta) σ H fun d => ∃ ds, d = .tuple ds ∧ R ds := fun H1 e1 Q q =>
  h H1 e1 _ fun vs H2 ds e2 hd hr => ⟨by rw [hd.length]; exact sz_of (hl ds hr), fun p hp => q (.ref p) _ _ (e2.trans (Ex.new hp)) (.tup (st_of upd_same) (hd.ex (Ex.new hp))) ⟨ds, rfl, hr⟩⟩
/-- a call whose arguments are known by R alone -/
theorem g_callR {sp : Sp} {E : XK} {ta : TA} {R : List PyData → Prop} (h : EAR K ta σ H R) (hs : ∀ ds, R ds → SpD K sp ds d) : ED K (tCall sp [] E ta) σ H d := fun H1 e Q q =>
  h H1 e _ fun vs H2 ds e2 hd hr => by
    show sp (vs ++ []) H2 Q E
    rw [List.append_nil]
    exact hs ds hr H2 vs hd Q (fun v H3 e3 => q v H3 (e2.trans e3)) E
/-- a branch that changes nothing -/
theorem q_whenE {t : TT} {tu : TS} {b : Bool} (h : EvT t σ H b) (h1 : b = true → ∀ H1, Ex H H1 → ∀ nx : L2.St → Hp → Prop, (∀ H2, Ex H1 H2 → nx σ H2) → tu { D with nx := nx } σ H1) (k : ∀ H2, Ex H H2 → tz D σ H2) : tSeq (tIfS t tu tNext) tz D σ H :=
  q_when h (fun hb H1 e1 => h1 hb H1 e1 (tz D) fun H2 e2 => k H2 (e1.trans e2)) fun _ H1 e1 => k H1 e1
theorem q_asgN4 {i j k l : Nat} {a b c d : PyData} (h : ED K te σ H (.tuple [a, b, c, d])) (kk : ∀ x y z u H1, Ex H H1 → Dt K H1 x a → Dt K H1 y b → Dt K H1 z c → Dt K H1 u d → tz D ((((σ.set i (some x)).set j (some y)).set k (some z)).set l (some u)) H1) : tSeq (tAsg te (gTup K 4 (gCons (gName i) (gCons (gName j) (gCons (gName k) (gCons (gName l) gNil)))))) tz D σ H :=
  h H (Ex.refl H) _ fun v H1 e1 h1 => g_t4 h1 fun x y z u hx hy hz hu => kk x y z u H1 e1 hx hy hz hu
theorem q_asgN3 {i j k : Nat} {a b c : PyData} (h : ED K te σ H (.tuple [a, b, c])) (kk : ∀ x y z H1, Ex H H1 → Dt K H1 x a → Dt K H1 y b → Dt K H1 z c → tz D (((σ.set i (some x)).set j (some y)).set k (some z)) H1) : tSeq (tAsg te (gTup K 3 (gCons (gName i) (gCons (gName j) (gCons (gName k) gNil))))) tz D σ H :=
  h H (Ex.refl H) _ fun v H1 e1 h1 => g_t3 h1 fun x y z hx hy hz => kk x y z H1 e1 hx hy hz
end
end K77
set_option maxHeartbeats 1000000
/-! Orders in which the lower come first. -/
namespace K77
open PySem PySem.Spec PyProof.Rows L2 Evl
def Topo (E : Str → Str → Prop) (l : List Str) : Prop := ∀ l1 x l2, l = l1 ++ x :: l2 → ∀ m, E m x → m ∈ l1
theorem topo_nil (E : Str → Str → Prop) : Topo E [] := fun l1 x l2 e => absurd e (by simp)
theorem topo_add {E : Str → Str → Prop} {l ys : List Str} (h : Topo E l) (k : ∀ x ∈ ys, ∀ m, E m x → m ∈ l) : Topo E (l ++ ys) := fun l1 x l2 e m hm => by
  rcases List.append_eq_append_iff.mp e with ⟨as, h1, h2⟩ | ⟨bs, h1, h2⟩
  · rw [h1]
    exact List.mem_append_left _ (k x (by rw [h2]; simp) m hm)
  · cases bs with
    | nil =>
      rw [List.nil_append] at h2
      rw [List.append_nil] at h1
      rw [← h1]
      exact k x (by rw [← h2]; exact List.mem_cons_self) m hm
    | cons b bs =>
      rw [List.cons_append, List.cons.injEq] at h2
      obtain ⟨rfl, h2⟩ := h2
      exact h l1 x bs h1 m hm
theorem free_some {E : Str → Str → Prop} {V left : List Str} (h : Acyc E V) (hl : ∀ x ∈ left, x ∈ V) (hne : left ≠ []) : ∃ n ∈ left, ∀ m ∈ left, ¬ E m n := by
  obtain ⟨r, hr⟩ := h
  obtain ⟨n, hn, hm⟩ : ∃ n ∈ left, ∀ x ∈ left, r n ≤ r x := by
    clear hl
    induction left with
    | nil => exact absurd rfl hne
    | cons a l ih =>
      by_cases e : l = []
      · subst e
        exact ⟨a, List.mem_cons_self, fun x hx => by rw [List.mem_singleton.mp hx]; exact Nat.le_refl _⟩
      · obtain ⟨n, hn, hm⟩ := ih e
        by_cases k : r a ≤ r n
        · refine ⟨a, List.mem_cons_self, fun x hx => ?_⟩
          rcases List.mem_cons.mp hx with e | e
          · rw [e]; exact Nat.le_refl _
          · exact Nat.le_trans k (hm x e)
        · refine ⟨n, List.mem_cons_of_mem _ hn, fun x hx => ?_⟩
          rcases List.mem_cons.mp hx with e | e
          · rw [e]; omega
          · exact hm x e
  refine ⟨n, hn, fun m hm' e => ?_⟩
  have h1 := hr m (hl m hm') n (hl n hn) e
  have h2 := hm m hm'
  omega
/-- an order of all that have gone and those that are left -/
structure Part (E : Str → Str → Prop) (V l left : List Str) : Prop where
  perm : (l ++ left).Perm V
  topo : Topo E l
theorem Part.sub {E : Str → Str → Prop} {V l left : List Str} (h : Part E V l left) {x : Str} (hx : x ∈ left) : x ∈ V := h.perm.mem_iff.mp (List.mem_append_right _ hx)
/-- all free ones go at once -/
theorem Part.layer {E : Str → Str → Prop} {V l left : List Str} (h : Part E V l left) (hE : ∀ m n, E m n → m ∈ V) (f : Str → Bool) (hf : ∀ n ∈ left, f n = true → ∀ m ∈ left, ¬ E m n) : Part E V (l ++ left.filter f) (left.filter fun n => !f n) where
  perm := by
    rw [List.append_assoc]
    refine List.Perm.trans (List.Perm.append_left l ?_) h.perm
    exact List.filter_append_perm f left
  topo := topo_add h.topo fun x hx m hm => by
    obtain ⟨h1, h2⟩ := List.mem_filter.mp hx
    rcases List.mem_append.mp (h.perm.mem_iff.mpr (hE m x hm)) with c | c
    · exact c
    · exact absurd hm (hf x h1 h2 m c)
/-- one free one goes -/
theorem Part.one {E : Str → Str → Prop} {V l left : List Str} (h : Part E V l left) (hE : ∀ m n, E m n → m ∈ V) {x : Str} (hx : x ∈ left) (hf : ∀ m ∈ left, ¬ E m x) : Part E V (l ++ [x]) (left.erase x) where
  perm := by
    rw [List.append_assoc]
    exact List.Perm.trans (List.Perm.append_left l (List.perm_cons_erase hx).symm) h.perm
  topo := topo_add h.topo fun y hy m hm => by
    obtain rfl := List.mem_singleton.mp hy
    rcases List.mem_append.mp (h.perm.mem_iff.mpr (hE m y hm)) with c | c
    · exact c
    · exact absurd hm (hf m c)
theorem Part.start (E : Str → Str → Prop) (V : List Str) : Part E V [] V := ⟨List.Perm.refl _, topo_nil E⟩
/-- an order of all gives a rank -/
theorem topo_acyc {E : Str → Str → Prop} {V l : List Str} (hn : V.Nodup) (hp : l.Perm V) (h : Topo E l) : Acyc E V := by
  have ln : l.Nodup := hp.nodup_iff.mpr hn
  refine ⟨fun x => l.idxOf x, fun m hm n hn' e => ?_⟩
  obtain ⟨l1, l2, el⟩ := List.append_of_mem (hp.mem_iff.mpr hn')
  have hm1 := h l1 n l2 el m e
  have nn : n ∉ l1 := by
    rw [el] at ln
    have := (List.nodup_append.mp ln).2.2
    exact fun c => this n c n List.mem_cons_self rfl
  dsimp only
  rw [el, List.idxOf_append, if_pos hm1, List.idxOf_append, if_neg nn]
  have := List.idxOf_lt_length_of_mem hm1
  omega
/-- none free is left: no rank -/
theorem stuck {E : Str → Str → Prop} {V left : List Str} (hl : ∀ x ∈ left, x ∈ V) (hne : left ≠ []) (h : ∀ n ∈ left, ∃ m ∈ left, E m n) : ¬ Acyc E V := fun a => by
  obtain ⟨n, hn, hm⟩ := free_some a hl hne
  obtain ⟨m, hm', e⟩ := h n hn
  exact hm m hm' e
/-- the one above all the others stands last -/
theorem topo_last {E : Str → Str → Prop} {l : List Str} (h : Topo E l) (hn : l.Nodup) (p : Str → Bool) {x : Str} (hx : x ∈ l) (hp : p x = true) (hE : ∀ m ∈ l, p m = true → m ≠ x → E m x) : ∃ init, l.filter p = init ++ [x] := by
  obtain ⟨l1, l2, el⟩ := List.append_of_mem hx
  have e2 : l2.filter p = [] := by
    rw [List.filter_eq_nil_iff]
    intro m hm hpm
    have hml : m ∈ l := by rw [el]; exact List.mem_append_right _ (List.mem_cons_of_mem _ hm)
    rw [el] at hn
    have h2 := List.nodup_append.mp hn
    have hmx : m ≠ x := fun e => (List.nodup_cons.mp h2.2.1).1 (e ▸ hm)
    have hm1 := h l1 x l2 el m (hE m hml hpm hmx)
    exact h2.2.2 m hm1 m (List.mem_cons_of_mem _ hm) rfl
  refine ⟨l1.filter p, ?_⟩
  rw [el, List.filter_append, List.filter_cons, if_pos hp, e2]
end K77
set_option maxHeartbeats 1000000
/-! told_below, sure_layers, order_for. -/
namespace K77
open PySem PySem.Spec PyProof.Rows L2 Evl
section
variable {P : Program} {w : World} {K : PySem.W.Frag} {mg : Str → Option Value} {base : Heap}
/-! told_below -/
theorem lowers_step {F : Fence} {ss : List Si} {i : Nat} {c : Int} {n : Str} (h : ss[i]? = some (c, n)) (m k : Str) : edgeB F (ss.take (i + 1)) m k = (edgeB F (ss.take i) m k || (decide (n = k) && (decide (m ∈ ov F c) && !decide (m = k)))) := by
  unfold edgeB
  rw [List.take_add_one, h, Option.toList_some, List.any_append]
  simp
def PBel (p : Fence × List Si) : Prop := FOk p.1 ∧ SOk p.1 p.2
-- 0 fence, 1 sights, 2 found, 3 cell, 4 name, 5 own
theorem sc_told_below : FnScope ["fence", "sights", "found", "cell", "name", "own"] ["fence", "sights"] (defScope s_told_below) := C8.fnScope_by (by decide +kernel)
theorem c_told_below (T : Txt K mg) : C8.Cal P w K mg base 2 "told_below" (spDict K (fun p : Fence × List Si => [fD p.1, ssD p.2]) PBel (fun p => nm p.1) fun p n => strsD (lowers p.1 p.2 n)) [] := by
  refine cal_of T.d_told_below (fun _ _ _ _ _ _ us hu => by match us, hu with | [_, _], _ => rfl) sc_told_below (spDict_len fun _ => rfl) fun f cdv A outer s H vs Q E hr h => ?_
  obtain ⟨⟨F, ss⟩, ⟨hF, hS⟩, hd, gv⟩ := h
  dsimp only at hF hS hd gv
  obtain ⟨v, u, rfl, hv, hu⟩ := dts2 hd
  have hf := hF.few
  have hs := hS.few
  have h100 : F.length ≤ 100 := by omega
  refine ⟨_, (pss_cons (ps_setDc (i := 2) (own := [("name", 4)]) rfl sc_told_below.nd rfl rfl (sw_trueD rfl rfl rfl (by decide +kernel)) (k_piT K rfl (C8.pe_c (c_names T) hr (by decide) (by rfl) (pa_cons (pv 0) pa_nil))) (blkOk_by (by kernel_rfl)) (fun _ _ _ _ _ => (pg_name (i := 4) sc_told_below.nd rfl (by first | exact Or.inl rfl | exact Or.inr rfl))) (fun _ _ _ _ _ => pts_nil) (fun _ _ _ _ _ => (pv 4)) (fun _ _ _ _ _ => (pe_tup pa_nil)))
  (pss_cons (ps_for PassesOwn.never rfl (k_piT K rfl (pv 1)) (k_gT K 2 rfl rfl (pgs_cons (pg_name (i := 3) sc_told_below.nd rfl (by first | exact Or.inl rfl | exact Or.inr rfl)) (pgs_cons (pg_name (i := 4) sc_told_below.nd rfl (by first | exact Or.inl rfl | exact Or.inr rfl)) pgs_nil))) (pss_one (ps_dput (hu_of hr) (pv 2) (pv 4) (C8.pe_c (c_set_of T) hr (by decide) (by rfl) (pa_cons (pe_lst (k_star K rfl (pe_dget (hu_of hr) (pv 2) (pv 4) (fun _ _ => rfl)) (k_star K rfl (pe_lc (own := [("own", 5)]) rfl sc_told_below.nd (k_piT K rfl (C8.pe_c (c_over T) hr (by decide) (by rfl) (pa_cons (pv 0) (pa_cons (pv 3) pa_nil)))) (blkOk_by (by kernel_rfl)) (fun _ _ _ _ _ => (pg_name (i := 5) sc_told_below.nd rfl (by first | exact Or.inl rfl | exact Or.inr rfl))) (fun _ _ _ _ _ => (pts_one (pt_cmpR op_ne (pv 5) (pv 4) (nomark _)))) (fun _ _ _ _ _ => (pv 5))) pa_nil))) pa_nil)) rfl)))
  (pss_one (ps_ret (pv 2))))), ?_⟩
  refine q_asgDc (K := K) (ks := nm F) (fun _ => strsD []) (iv_tup (xs := nm F) (enc := PyData.str) (g_call (a_cons (g_var rfl hv) a_nil) (spD_use F h100))) TLe.ex (by rw [nm_len]; omega) hF.nd (fun k hk v1 H1 e1 h1 => ?_) fun p kvs H1 hp e1 hpd hD => ?_
  · refine ⟨_, fun Q q => q, rfl, ?_, g_tup a_nil (by simp)⟩
    rw [h1.strV]
    exact ev_var rfl
  refine q_forI (iv_tup (xs := ss) (enc := sD) (g_var rfl (hu.ex e1))) (fun H2 i σ' H' => TLe K H2 H' ∧ Ex H H' ∧ (∃ a b, σ' = [some v, some u, some (.ref p), a, b, none]) ∧ ∃ kvs, H' p = some (.dK kvs) ∧ DD K (fun n => strsD (lowers F (ss.take i) n)) H' kvs (nm F))
    (fun H2 e2 => ⟨TLe.refl, e1.trans e2, ⟨none, none, rfl⟩, kvs, e2 _ _ hpd, hD.imp fun v n x => (show Dt K H2 v (strsD (lowers F [] n)) from by
      have : lowers F [] n = [] := by unfold lowers edgeB; simp
      rw [this]; exact x.ex e2)⟩) (fun H2 i σ' H' _ h => h.1) (fun H2 i x v1 σ' H' H3 e2 hx ⟨t, ex, ⟨a, b, hσ⟩, kvs', hz, hzd⟩ e3 hr => ?_) fun H2 σ' H' e2 ⟨t, ex, ⟨a, b, hσ⟩, kvs', hz, hzd⟩ => ?_
  · subst hσ
    obtain ⟨c, n⟩ := x
    refine g_t2 hr fun x y hx' hy' => ?_
    have hn : n ∈ nm F := ov_nm (hS.ovr _ (List.mem_of_getElem? hx))
    have x3 : Ex H H3 := ex.trans e3
    have hv3 := hv.ex x3
    have zd3 : DD K (fun n => strsD (lowers F (ss.take i) n)) H3 kvs' (nm F) := hzd.tle (TLe.ex e3)
    have hlen : (lowers F (ss.take i) n).length + ((ov F c).filter fun m => !decide (m = n)).length ≤ 10 := by
      have h1 := List.length_filter_le (fun m => !decide (m = n)) (ov F c)
      have h2 := ov_len F c
      have h3 := List.length_filter_le (fun m => edgeB F (ss.take i) m n) (nm F)
      rw [nm_len] at h3
      unfold lowers
      omega
    refine s_dput (R := fun d => d = strsD (lowers F (ss.take (i + 1)) n)) (n := n) (e3 _ _ hz) (by rw [dk_len hzd, nm_len]; omega) ?_ (ev_var rfl) (g_var rfl hy') fun w' H4 d e4 hw hr' => ?_
    · intro H4 e4 Q q
      refine r_setOf (ds := ((lowers F (ss.take i) n) ++ (ov F c).filter (fun m => !decide (m = n))).map PyData.str) (EL.toS ((l_lst (a_star (g_dget (val := fun n => strsD (lowers F (ss.take i) n)) (e3 _ _ hz) zd3 (ev_var rfl) (g_var rfl hy') hn) (a_starL (EL.toS (l_lcI (xs := ov F c) (fun m => !decide (m = n)) PyData.str (iv_tup (xs := ov F c) (enc := PyData.str) (g_call (a_cons (g_var rfl hv3) (a_cons (g_var rfl hx') a_nil)) (spD_use (F, c) h100))) TLe.ex ?_ fun m hm v2 H5 e5 h5 => ?_)) a_nil)) ?_).is ?_)) ?_ (setIn_strs _) H4 e4 Q fun v2 H5 d e5 hd ⟨es, ed, r⟩ => ?_
      · have := ov_len F c; omega
      · exact trn_name rfl (g_test (g_neS (g_var rfl h5) (g_var rfl (hy'.ex e5)))) fun _ => g_var rfl h5
      · rw [List.append_nil, List.length_append]
        unfold made
        rw [List.length_map, List.length_map]
        exact Nat.le_trans hlen (by omega)
      · rw [List.append_nil, List.map_append]
        rfl
      · rw [List.length_map, List.length_append]
        exact Nat.lt_of_le_of_lt hlen (by omega)
      · refine q v2 H5 d e5 hd ?_
        rw [ed, set_names hF r (fun m => edgeB F (ss.take (i + 1)) m n) fun x => ?_]
        · rfl
        · rw [List.mem_append, lowers_step hx, List.mem_filter]
          unfold lowers
          rw [List.mem_filter]
          simp only [decide_true, Bool.true_and, Bool.or_eq_true, Bool.and_eq_true, decide_eq_true_eq]
          constructor
          · rintro (⟨h1, h2⟩ | ⟨h1, h2⟩)
            · exact ⟨h1, .inl h2⟩
            · exact ⟨ov_nm h1, .inr ⟨h1, h2⟩⟩
          · rintro ⟨h1, h2 | h2⟩
            · exact .inl ⟨h1, h2⟩
            · exact .inr h2
    · have q4 := e4 _ _ (e3 _ _ hz)
      refine ⟨(t.trans (TLe.ex (e3.trans e4))).trans (TLe.dk q4), Ex.mut (x3.trans e4) hp, ⟨_, _, rfl⟩, _, upd_same, ?_⟩
      subst hr'
      refine dk_put (zd3.tle (TLe.ex e4)) hn (hw.mono (TLe.dk q4)) fun k hk hne x hx2 => ?_
      have e : lowers F (ss.take (i + 1)) k = lowers F (ss.take i) k := by
        unfold lowers
        refine List.filter_congr fun m _ => ?_
        rw [lowers_step hx, decide_eq_false (fun z => hne z.symm), Bool.false_and, Bool.or_false]
      dsimp only
      rw [e]
      exact hx2.mono (TLe.dk q4)
  · subst hσ
    refine s_ret (ev_var rfl) fun H3 e3 => gv p kvs' H3 hp (ex.trans e3) (e3 _ _ hz) ?_
    rw [List.take_length] at hzd
    exact hzd.tle (TLe.ex e3)
end
end K77
set_option maxHeartbeats 1000000
/-! sure_layers, order_for, is_order and their like. -/
namespace K77
open PySem PySem.Spec PyProof.Rows L2 Evl
section
variable {P : Program} {w : World} {K : PySem.W.Frag} {mg : Str → Option Value} {base : Heap}
theorem edge_low {F : Fence} {ss : List Si} {m n : Str} : m ∈ lowers F ss n ↔ Edge F ss m n := mem_lowers
/-- free among left -/
def freeL (F : Fence) (ss : List Si) (left : List Str) (n : Str) : Bool := !(lowers F ss n).any fun m => decide (m ∈ left)
theorem freeL_iff {F : Fence} {ss : List Si} {left : List Str} {n : Str} : freeL F ss left n = true ↔ ∀ m ∈ left, ¬ Edge F ss m n := by
  unfold freeL
  rw [Bool.not_eq_true', List.any_eq_false]
  constructor
  · intro h m hm e
    exact h m (edge_low.mpr e) (decide_eq_true hm)
  · intro h m hm e
    exact h m (of_decide_eq_true e) (edge_low.mp hm)
def LayRes (p : Fence × List Si) (es : List PyData) : Prop := ∃ Ls : List (List Str), es = Ls.map strsD ∧ Part (Edge p.1 p.2) (nm p.1) Ls.flatten [] ∧ Ls.length ≤ p.1.length
def PHold (p : Fence × List Si) : Prop := FOk p.1 ∧ SOk p.1 p.2 ∧ Hold p.1 p.2
theorem low_len (F : Fence) (ss : List Si) (n : Str) : (lowers F ss n).length ≤ F.length := by
  unfold lowers
  have := List.length_filter_le (fun m => edgeB F ss m n) (nm F)
  rw [nm_len] at this
  exact this
def LayW (K : PySem.W.Frag) (F : Fence) (ss : List Si) (v u : V) (pb pf : Addr) (H1 : Hp) (m : Nat) (σ' : L2.St) (H' : Hp) : Prop := ∃ (left : List Str) (Ls : List (List Str)) (lv : V) (zs : List V) (kvs' : List (Key × V)), m = left.length ∧ σ' = [some v, some u, some (.ref pb), some lv, some (.ref pf), none, none] ∧ Ex H1 H' ∧ Dt K H' lv (strsD left) ∧ H' pf = some (.lst zs) ∧ Dts K H' zs (Ls.map strsD) ∧ H' pb = some (.dK kvs') ∧ DD K (fun n => strsD (lowers F ss n)) H' kvs' (nm F) ∧
    Part (Edge F ss) (nm F) Ls.flatten left ∧ Ls.length + left.length ≤ F.length
-- 0 fence, 1 sights, 2 below, 3 left, 4 found, 5 name, 6 own
theorem sc_sure_layers : FnScope ["fence", "sights", "below", "left", "found", "name", "own"] ["fence", "sights"] (defScope s_sure_layers) := C8.fnScope_by (by decide +kernel)
theorem c_sure_layers (T : Txt K mg) : C8.Cal P w K mg base 9 "sure_layers" (spLR K (fun p : Fence × List Si => [fD p.1, ssD p.2]) PHold LayRes) [] := by
  refine cal_of T.d_sure_layers (fun _ _ _ _ _ _ us hu => by match us, hu with | [_, _], _ => rfl) sc_sure_layers (spLR_len fun _ => rfl) fun f cdv A outer s H vs Q E hr h => ?_
  obtain ⟨⟨F, ss⟩, ⟨hF, hS, hH⟩, hd, gv⟩ := h
  dsimp only at hF hS hH hd gv
  obtain ⟨v, u, rfl, hv, hu⟩ := dts2 hd
  have hf := hF.few
  have hs := hS.few
  have h100 : F.length ≤ 100 := by omega
  have h2 : F.length ≤ 100 ∧ ss.length ≤ 50 := by omega
  refine ⟨_, (pss_cons (ps_if (pt_not (pt_val (C8.pe_c (c_hold_together T) hr (by decide) (by rfl) (pa_cons (pv 0) (pa_cons (pv 1) pa_nil))))) (pss_one ps_never) pss_nil)
  (pss_cons (ps_asg (pe_tup (pa_cons (C8.pe_c (c_told_below T) hr (by decide) (by rfl) (pa_cons (pv 0) (pa_cons (pv 1) pa_nil))) (pa_cons (C8.pe_c (c_names T) hr (by decide) (by rfl) (pa_cons (pv 0) pa_nil)) (pa_cons (pe_lst pa_nil) pa_nil)))) (k_gT K 3 rfl rfl (pgs_cons (pg_name (i := 2) sc_sure_layers.nd rfl (by first | exact Or.inl rfl | exact Or.inr rfl)) (pgs_cons (pg_name (i := 3) sc_sure_layers.nd rfl (by first | exact Or.inl rfl | exact Or.inr rfl)) (pgs_cons (pg_name (i := 4) sc_sure_layers.nd rfl (by first | exact Or.inl rfl | exact Or.inr rfl)) pgs_nil)))))
  (pss_cons (ps_while PassesOwn.never (pt_cmpR op_gt (pe_callB (k_len K rfl) (by rfl) T.z_len (by decide +kernel) (pa_cons (pv 3) pa_nil)) pe_int (nomark _)) (pss_cons (ps_expr (pe_bm PySem.F.plainAttrs_list PySem.F.slot_list_append PySem.F.type_list_append mt_append (pv 4) (pa_cons (pe_callTy (k_tupOf K rfl) (by rfl) T.z_tuple (by decide +kernel) (pa_cons (pe_lc (own := [("name", 5)]) rfl sc_sure_layers.nd (k_piT K rfl (pv 3)) (blkOk_by (by kernel_rfl)) (fun _ _ _ _ _ => (pg_name (i := 5) sc_sure_layers.nd rfl (by first | exact Or.inl rfl | exact Or.inr rfl))) (fun _ _ _ _ _ => (pts_one (pt_not (pt_val (pe_callB (k_any K rfl rfl) (by rfl) T.z_any (by decide +kernel) (pa_cons (pe_lc (own := [("own", 6)]) rfl sc_sure_layers.nd (k_piT K rfl (pe_dget (hu_of hr) (pv 2) (pv 5) (fun _ _ => rfl))) (blkOk_by (by kernel_rfl)) (fun _ _ _ _ _ => (pg_name (i := 6) sc_sure_layers.nd rfl (by first | exact Or.inl rfl | exact Or.inr rfl))) (fun _ _ _ _ _ => pts_nil) (fun _ _ _ _ _ => (pe_cmpR (k_in K rfl) (pv 6) (pv 3) (by rfl)))) pa_nil)))))) (fun _ _ _ _ _ => (pv 5))) pa_nil)) pa_nil)))
  (pss_one (ps_set (i := 3) sc_sure_layers.nd rfl (by first | exact Or.inl rfl | exact Or.inr rfl) (pe_callTy (k_tupOf K rfl) (by rfl) T.z_tuple (by decide +kernel) (pa_cons (pe_lc (own := [("name", 5)]) rfl sc_sure_layers.nd (k_piT K rfl (pv 3)) (blkOk_by (by kernel_rfl)) (fun _ _ _ _ _ => (pg_name (i := 5) sc_sure_layers.nd rfl (by first | exact Or.inl rfl | exact Or.inr rfl))) (fun _ _ _ _ _ => (pts_one (pt_cmpR (k_notIn K rfl) (pv 5) (pe_ix (k_ixL K rfl) (pv 4) (pe_un un_neg pe_int) (fun _ _ => rfl)) (by rfl)))) (fun _ _ _ _ _ => (pv 5))) pa_nil))))))
  (pss_one (ps_ret (pv 4)))))), ?_⟩
  refine q_when (b := !holdB F ss) (et_not (g_testB (g_call (a_cons (g_var rfl hv) (a_cons (g_var rfl hu) a_nil)) (spD_use (F, ss) h2)))) (fun hb => ?_) fun _ H1 e1 => ?_
  · rw [hold_iff.mpr hH] at hb
    exact nomatch hb
  have hv1 := hv.ex e1
  have hu1 := hu.ex e1
  -- the three
  refine q_asg3 (ge_callDict (F, ss) (a_cons (g_var rfl hv1) (a_cons (g_var rfl hu1) a_nil)) ⟨hF, hS⟩) (ge_D (g_call (a_cons (g_var rfl hv1) a_nil) (spD_use F h100))) (ge_L (K := K) (l_lst a_nil (by simp))) gdict_ex gd_ex (glist_ex (K := K)) fun x y z H2 e2 ⟨pb, kvs, hxb, hpb, hkb, hDb⟩ hy ⟨pf, xs, hzf, hpf, hlf, hxf⟩ => ?_
  subst hxb hzf
  obtain rfl : xs = [] := by cases hxf; rfl
  have ne : pb ≠ pf := fun e => by rw [e, hlf] at hkb; cases hkb
  refine q_while (LayW K F ss v u pb pf H1) (nm F).length ⟨nm F, [], y, [], kvs, rfl, rfl, e2, hy, hlf, .nil, hkb, hDb, Part.start _ _, by rw [nm_len]; exact Nat.le_of_eq (Nat.zero_add _)⟩
    (fun m σ' H' ⟨left, Ls, lv, zs, kvs', hm, hσ, ex, hlv, hz, hzd, hk, hD, part, hlen⟩ => ?_)
  subst hσ
  refine ⟨decide (0 < left.length), et_is (g_test (g_cmpI (g := fun i j => decide (j < i)) (g_lenT (g_var rfl hlv)) g_int)) (by rw [List.length_map]; exact decide_eq_decide.mpr (by omega)), fun hb H3 e3 => ?_, fun hb H3 e3 => ?_⟩
  · have hpos : 0 < left.length := of_decide_eq_true hb
    have hne : left ≠ [] := fun e => by rw [e] at hpos; exact Nat.lt_irrefl _ hpos
    obtain ⟨n0, hn0, hfree0⟩ := free_some (hold_acyc hF hS.ovr hH) (fun x hx => part.sub hx) hne
    have ll : left.length ≤ F.length := by omega
    refine ⟨fun σ2 H2 => ∃ m', m' < m ∧ LayW K F ss v u pb pf H1 m' σ2 H2, fun _ _ h => h, ?_⟩
    have hD3 := hD.tle (TLe.ex e3)
    have hk3 := e3 _ _ hk
    have hl3 := hlv.ex e3
    refine q_appD (d := strsD (left.filter (freeL F ss left))) (e3 _ _ hz) (ev_var rfl) (g_tupleOf (EL.toS ((l_lcI (xs := left) (freeL F ss left) PyData.str (iv_tup (xs := left) (enc := PyData.str) (g_var rfl hl3)) TLe.ex (by omega) fun n hn v4 H4 e4 h4 => ?_).is rfl))) (by rw [hzd.length, List.length_map]; omega) fun lay H4 e4 hlay => ?_
    · refine trn_name rfl (et_is (et_not (g_testB (g_any (bs := (lowers F ss n).map fun m => decide (m ∈ left)) (EL.toS ((l_lcI (xs := lowers F ss n) (fun _ => true) (fun m => .bool (decide (m ∈ left))) (iv_tup (xs := lowers F ss n) (enc := PyData.str) (g_dget (e4 _ _ hk3) (hD3.tle (TLe.ex e4)) (ev_var rfl) (g_var rfl h4) (part.sub hn))) TLe.ex (by have := low_len F ss n; omega) fun m hm v5 H5 e5 h5 => ?_).is ?_))))) ?_) fun _ => g_var rfl h4
      · exact trn_name rfl yes_t fun _ => g_inT (g_var rfl h5) (g_var rfl (hl3.ex (e4.trans e5)))
      · rw [made_all, List.map_map]; rfl
      · unfold freeL
        rw [List.any_map]; rfl
    · have q4 := e4 _ _ (e3 _ _ hz)
      have t4 := TLe.lst (K := K) (o' := .lst (zs ++ [lay])) q4
      have hl4 := (hl3.ex e4).mono t4
      have zd4 : Dts K (upd H4 pf (.lst (zs ++ [lay]))) (zs ++ [lay]) ((Ls ++ [left.filter (freeL F ss left)]).map strsD) := by
        rw [List.map_append]
        exact ((hzd.ex (e3.trans e4)).mono t4).append (.cons (hlay.mono t4) .nil)
      refine s_asgD (d := strsD (left.filter fun n => !freeL F ss left n)) (g_tupleOf (EL.toS ((l_lcI (xs := left) (fun n => !freeL F ss left n) PyData.str (iv_tup (xs := left) (enc := PyData.str) (g_var rfl hl4)) TLe.ex (by omega) fun n hn v5 H5 e5 h5 => ?_).is rfl))) fun nl H5 e5 hnl => ?_
      · refine trn_name rfl (et_is (g_test (g_notInT (xs := left.filter (freeL F ss left)) (g_var rfl h5) (g_ixL (es_old (ev_var rfl) (sq_of (e5 _ _ upd_same)) (zd4.ex e5)) (g_ofInt (ev_un ev_c ru_neg)) (ixN_last (by simp)) ?_))) ?_) fun _ => g_var rfl h5
        · simp [List.getElem?_append_right]
        · rw [show decide (n ∈ left.filter (freeL F ss left)) = freeL F ss left n from ?_]
          refine Bool.eq_iff_iff.mpr ?_
          rw [decide_eq_true_eq, List.mem_filter]
          exact ⟨fun h => h.2, fun h => ⟨hn, h⟩⟩
      · have lt : (left.filter fun n => !freeL F ss left n).length < left.length := by
          rw [List.length_filter_lt_length_iff_exists]
          exact ⟨n0, hn0, by rw [freeL_iff.mpr hfree0]; decide⟩
        refine ⟨(left.filter fun n => !freeL F ss left n).length, by omega, _, Ls ++ [left.filter (freeL F ss left)], nl, _, kvs', rfl, rfl, ?_, hnl, e5 _ _ upd_same, zd4.ex e5, e5 _ _ ?_, ((hD3.tle (TLe.ex e4)).tle t4).tle (TLe.ex e5), ?_, ?_⟩
        · exact (Ex.mut (ex.trans (e3.trans e4)) hpf).trans e5
        · rw [upd_ne ne]
          exact e4 _ _ hk3
        · rw [List.flatten_append]
          simpa using part.layer (fun m n e => (edge_in hS.ovr m n e).1) (freeL F ss left) fun n hn h => freeL_iff.mp h
        · rw [List.length_append, List.length_singleton]
          omega
  · have h0 : left = [] := by
      cases left with
      | nil => rfl
      | cons a l => exact absurd hb (by simp)
    subst h0
    exact s_ret (ev_var rfl) fun H4 e4 => gv pf zs H4 _ (fresh_back e1 hpf) (e1.trans (ex.trans (e3.trans e4))) ((e3.trans e4) _ _ hz) (hzd.ex (e3.trans e4)) ⟨Ls, rfl, part, by have := hlen; simp at this; exact this⟩
end
end K77
set_option maxHeartbeats 1000000
/-! order_for, is_order_for, surely_below, sure_cells. -/
namespace K77
open PySem PySem.Spec PyProof.Rows L2 Evl
section
variable {P : Program} {w : World} {K : PySem.W.Frag} {mg : Str → Option Value} {base : Heap}
/-! order_for -/
theorem lay_len {F : Fence} {ss : List Si} {Ls : List (List Str)} (h : Part (Edge F ss) (nm F) Ls.flatten []) : ∀ l ∈ Ls, l.length ≤ F.length := fun l hl => by
  have h1 := h.perm.length_eq
  rw [List.append_nil, nm_len] at h1
  rw [← h1]
  clear h1 h
  induction Ls with
  | nil => exact absurd hl (by simp)
  | cons a Ls ih =>
    rw [List.flatten_cons, List.length_append]
    rcases List.mem_cons.mp hl with e | e
    · rw [e]; exact Nat.le_add_right _ _
    · exact Nat.le_trans (ih e) (Nat.le_add_left _ _)
-- 0 fence, 1 sights, 2 layer, 3 name
theorem sc_order_for : FnScope ["fence", "sights", "layer", "name"] ["fence", "sights"] (defScope s_order_for) := C8.fnScope_by (by decide +kernel)
theorem c_order_for (T : Txt K mg) : C8.Cal P w K mg base 10 "order_for" (spR K (fun p : Fence × List Si => [fD p.1, ssD p.2]) (fun p => FOk p.1 ∧ SOk p.1 p.2) fun p d => d = .none ↔ ¬ Hold p.1 p.2) [] := by
  refine cal_of T.d_order_for (fun _ _ _ _ _ _ us hu => by match us, hu with | [_, _], _ => rfl) sc_order_for (spR_len fun _ => rfl) fun f cdv A outer s H vs Q E hr h => ?_
  obtain ⟨⟨F, ss⟩, ⟨hF, hS⟩, hd, gv⟩ := h
  dsimp only at hF hS hd gv
  obtain ⟨v, u, rfl, hv, hu⟩ := dts2 hd
  have hf := hF.few
  have hs := hS.few
  have h2 : F.length ≤ 100 ∧ ss.length ≤ 50 := by omega
  refine ⟨_, (pss_cons (ps_if (pt_not (pt_val (C8.pe_c (c_hold_together T) hr (by decide) (by rfl) (pa_cons (pv 0) (pa_cons (pv 1) pa_nil))))) (pss_one (ps_ret pe_non)) pss_nil)
  (pss_one (ps_ret (pe_callTy (k_tupOf K rfl) (by rfl) T.z_tuple (by decide +kernel) (pa_cons (pe_lc2 (own := [("layer", 2), ("name", 3)]) rfl sc_order_for.nd (k_piL K rfl (C8.pe_c (c_sure_layers T) hr (by decide) (by rfl) (pa_cons (pv 0) (pa_cons (pv 1) pa_nil)))) (blkOk_by (by kernel_rfl)) (vs1 := [3]) (by decide) (fun _ _ _ _ _ => (pg_name (i := 2) sc_order_for.nd rfl (by first | exact Or.inl rfl | exact Or.inr rfl))) (fun _ _ _ _ _ => pts_nil) (fun _ _ _ _ _ => (k_piT K rfl (pv 2))) (fun _ _ _ _ _ => (pg_name (i := 3) sc_order_for.nd rfl (by first | exact Or.inl rfl | exact Or.inr rfl))) (fun _ _ _ _ _ => pts_nil) (fun _ _ _ _ _ => (pv 3))) pa_nil))))), ?_⟩
  refine q_when (b := !holdB F ss) (et_not (g_testB (g_call (a_cons (g_var rfl hv) (a_cons (g_var rfl hu) a_nil)) (spD_use (F, ss) h2)))) (fun hb H1 e1 => ?_) fun hb H1 e1 => ?_
  · refine s_retD (K := K) g_non fun v1 H2 e2 h2 => gv v1 H2 _ (e1.trans e2) h2 ⟨fun _ hh => ?_, fun _ => rfl⟩
    rw [hold_iff.mpr hh] at hb
    exact nomatch hb
  · have hH : Hold F ss := hold_iff.mp (by simpa using hb)
    refine s_retR (r_tupleOf (R := fun _ => True) (lc2_R (lr_call (F, ss) (a_cons (g_var rfl (hv.ex e1)) (a_cons (g_var rfl (hu.ex e1)) a_nil)) ⟨hF, hS, hH⟩) fun v1 H2 es e2 ⟨Ls, he, part, hl⟩ h2 => ?_)) fun v1 H2 d e2 h2 ⟨es, hd, _⟩ => gv v1 H2 d (e1.trans e2) h2 ⟨fun h => (by rw [hd] at h; cases h), fun h => absurd hH h⟩
    subst he
    refine EL.toR (l_lc2I (xs := Ls) (fun _ => true) (fun l => l) (fun _ _ => true) (fun _ x => .str x) (iv_list (xs := Ls) (enc := strsD) h2) id (by dsimp only at hl; omega) (fun l hl' _ => by have := lay_len part l hl'; dsimp only at this; omega) fun l hl' v3 H3 e3 h3 => ?_) trivial
    exact ⟨_, fun Q q => q, rfl, yes_t, fun _ => ⟨_, iv_tup (xs := l) (enc := PyData.str) (g_var rfl h3), fun x hx v4 H4 t4 h4 => trn_name rfl yes_t fun _ => g_var rfl h4⟩⟩
/-! is_order -/
-- 0 fence, 1 thing, 2 part
theorem sc_is_order : FnScope ["fence", "thing", "part"] ["fence", "thing"] (defScope s_is_order) := C8.fnScope_by (by decide +kernel)
theorem c_is_order (T : Txt K mg) : C8.Cal P w K mg base 2 "is_order" (spD K (fun p : Fence × List Str => [fD p.1, strsD p.2]) (fun p => FOk p.1 ∧ p.2.Perm (nm p.1)) fun _ => .bool true) [] := by
  refine cal_of T.d_is_order (fun _ _ _ _ _ _ us hu => by match us, hu with | [_, _], _ => rfl) sc_is_order (spD_len fun _ => rfl) fun f cdv A outer s H vs Q E hr h => ?_
  obtain ⟨⟨F, ord⟩, ⟨hF, hP⟩, hd, gv⟩ := h
  dsimp only at hF hP hd gv
  obtain ⟨v, u, rfl, hv, hu⟩ := dts2 hd
  have hf := hF.few
  have h100 : F.length ≤ 100 := by omega
  have ho : ord.length ≤ 5 := by rw [hP.length_eq, nm_len]; omega
  refine ⟨_, (pss_cons (ps_if (PW.pt (pw_or (pt_not (pt_val (pe_callB (k_isi K rfl) (by rfl) T.z_isinstance (by decide +kernel) (pa_cons (pv 1) (pa_cons (pe_bltn (v := .ty "tuple") (by rfl) T.z_tuple (by decide +kernel) rfl) pa_nil))))) (pw_or1 (pt_not (pt_val (pe_callB (k_all K rfl rfl) (by rfl) T.z_all (by decide +kernel) (pa_cons (pe_lc (own := [("part", 2)]) rfl sc_is_order.nd (k_piT K rfl (pv 1)) (blkOk_by (by kernel_rfl)) (fun _ _ _ _ _ => (pg_name (i := 2) sc_is_order.nd rfl (by first | exact Or.inl rfl | exact Or.inr rfl))) (fun _ _ _ _ _ => pts_nil) (fun _ _ _ _ _ => (pe_callB (k_isi K rfl) (by rfl) T.z_isinstance (by decide +kernel) (pa_cons (pv 2) (pa_cons (pe_bltn (v := .ty "str") (by rfl) T.z_str (by decide +kernel) rfl) pa_nil))))) pa_nil))))))) (pss_one (ps_ret pe_bl)) pss_nil)
  (pss_one (ps_ret (pe_cmpR (k_eqD K rfl hr.units) (pe_callB (k_srt K rfl) (by rfl) T.z_sorted (by decide +kernel) (pa_cons (pv 1) pa_nil)) (pe_callTy (k_listOf K rfl) (by rfl) T.z_list (by decide +kernel) (pa_cons (C8.pe_c (c_names T) hr (by decide) (by rfl) (pa_cons (pv 0) pa_nil)) pa_nil)) (nomark _))))), ?_⟩
  refine q_when (b := false) (et_is (et_or (a := false) (b := false) (et_is (et_not (g_testB (g_isi1 (b := true) (g_var rfl hu) rfl))) rfl) fun _ => et_is (et_not (g_testB (g_all (bs := ord.map fun _ => true) (EL.toS ((l_lcI (xs := ord) (fun _ => true) (fun _ => .bool true) (iv_tup (xs := ord) (enc := PyData.str) (g_var rfl hu)) TLe.ex (by omega) fun x hx v1 H1 e1 h1 => ?_).is ?_))))) ?_) rfl) (fun h => nomatch h) fun _ H1 e1 => ?_
  · exact trn_name rfl yes_t fun _ => g_isi1 (g_var rfl h1) rfl
  · rw [made_all, List.map_map]; rfl
  · simp
  · refine s_retD (g_eqLR (b := true) (r_srtT (g_var rfl (hu.ex e1)) (by rw [List.length_map]; omega) (setIn_strs ord)) (EL.toS (l_listOf (g_call (a_cons (g_var rfl (hv.ex e1)) a_nil) (spD_use F h100)))) fun ds ⟨pm, pw⟩ => ?_) fun v1 H2 e2 h2 => gv v1 H2 (e1.trans e2) h2
    have e : ds = (nm F).map PyData.str := by
      refine perm_uniq (r := NotGt) (fun a ha b hb h1 h2 => ?_) (pm.trans (hP.map _)) pw (List.pairwise_map.mpr hF.srt)
      obtain ⟨x, _, rfl⟩ := List.mem_map.mp (pm.mem_iff.mp ha)
      obtain ⟨y, _, rfl⟩ := List.mem_map.mp (pm.mem_iff.mp hb)
      rw [anti_str h1 h2]
    subst e
    have sh : SeqAt.shaped (.list ((nm F).map PyData.str)) = true := sh_list (fun x hx => hF.txt x hx) fun x _ => by simp [PyData.depth]
    exact ⟨sh, sh, SeqAt.eqv_refl _ (SeqAt.canLay_of_shaped sh)⟩
/-! top_in -/
-- 0 fence, 1 order, 2 cell, 3 here, 4 name
theorem sc_top_in : FnScope ["fence", "order", "cell", "here", "name"] ["fence", "order", "cell"] (defScope s_top_in) := C8.fnScope_by (by decide +kernel)
theorem c_top_in (T : Txt K mg) : C8.Cal P w K mg base 2 "top_in" (spD K (fun p : Fence × List Str × Int × Str => [fD p.1, strsD p.2.1, .int p.2.2.1]) (fun p => p.1.length ≤ 100 ∧ p.2.1.length ≤ 100 ∧ ∃ init, (p.2.1.filter fun x => decide (x ∈ ov p.1 p.2.2.1)) = init ++ [p.2.2.2]) fun p => .str p.2.2.2) [] := by
  refine cal_of T.d_top_in (fun _ _ _ _ _ _ us hu => by match us, hu with | [_, _, _], _ => rfl) sc_top_in (spD_len fun _ => rfl) fun f cdv A outer s H vs Q E hr h => ?_
  obtain ⟨⟨F, ord, c, x⟩, ⟨hF, hO, init, hi⟩, hd, gv⟩ := h
  dsimp only at hF hO hi hd gv
  obtain ⟨v, u, y, rfl, hv, hu, hy⟩ := dts3 hd
  refine ⟨_, (pss_cons (ps_set (i := 3) sc_top_in.nd rfl (by first | exact Or.inl rfl | exact Or.inr rfl) (C8.pe_c (c_over T) hr (by decide) (by rfl) (pa_cons (pv 0) (pa_cons (pv 2) pa_nil))))
  (pss_one (ps_ret (pe_ix (k_ixL K rfl) (pe_lc (own := [("name", 4)]) rfl sc_top_in.nd (k_piT K rfl (pv 1)) (blkOk_by (by kernel_rfl)) (fun _ _ _ _ _ => (pg_name (i := 4) sc_top_in.nd rfl (by first | exact Or.inl rfl | exact Or.inr rfl))) (fun _ _ _ _ _ => (pts_one (pt_cmpR (k_in K rfl) (pv 4) (pv 3) (by rfl)))) (fun _ _ _ _ _ => (pv 4))) (pe_un un_neg pe_int) (fun _ _ => rfl))))), ?_⟩
  refine q_asgD (g_call (a_cons (g_var rfl hv) (a_cons (g_var rfl hy) a_nil)) (spD_use (F, c) hF)) fun v1 H1 e1 h1 => ?_
  refine s_retD (g_ixL (ds := (init ++ [x]).map PyData.str) (EL.toS ((l_lcI (xs := ord) (fun x => decide (x ∈ ov F c)) PyData.str (iv_tup (xs := ord) (enc := PyData.str) (g_var rfl (hu.ex e1))) TLe.ex (by omega) fun z hz v2 H2 e2 h2 => ?_).is ?_)) (g_ofInt (ev_un ev_c ru_neg)) (ixN_last (by simp)) ?_) fun v2 H2 e2 h2 => gv v2 H2 (e1.trans e2) h2
  · exact trn_name rfl (g_test (g_inT (g_var rfl h2) (g_var rfl (h1.ex e2)))) fun _ => g_var rfl h2
  · unfold made
    rw [hi]
  · rw [List.map_append, List.length_append]
    simp [List.getElem?_append_right]
/-! is_order_for -/
theorem top_of {F : Fence} {ss : List Si} (hF : FOk F) {ord : List Str} (hp : ord.Perm (nm F)) (ht : Topo (Edge F ss) ord) {c : Int} {n : Str} (hs : (c, n) ∈ ss) (hn : n ∈ ov F c) : ∃ init, (ord.filter fun x => decide (x ∈ ov F c)) = init ++ [n] :=
  topo_last ht (hp.nodup_iff.mpr hF.nd) _ (hp.mem_iff.mpr (ov_nm hn)) (decide_eq_true hn) fun m hm h1 h2 => ⟨c, hs, of_decide_eq_true h1, h2⟩
-- 0 fence, 1 sights, 2 thing, 3 cell, 4 name
theorem sc_is_order_for : FnScope ["fence", "sights", "thing", "cell", "name"] ["fence", "sights", "thing"] (defScope s_is_order_for) := C8.fnScope_by (by decide +kernel)
theorem c_is_order_for (T : Txt K mg) : C8.Cal P w K mg base 3 "is_order_for" (spD K (fun p : Fence × List Si × List Str => [fD p.1, ssD p.2.1, strsD p.2.2]) (fun p => FOk p.1 ∧ SOk p.1 p.2.1 ∧ p.2.2.Perm (nm p.1) ∧ Topo (Edge p.1 p.2.1) p.2.2) fun _ => .bool true) [] := by
  refine cal_of T.d_is_order_for (fun _ _ _ _ _ _ us hu => by match us, hu with | [_, _, _], _ => rfl) sc_is_order_for (spD_len fun _ => rfl) fun f cdv A outer s H vs Q E hr h => ?_
  obtain ⟨⟨F, ss, ord⟩, ⟨hF, hS, hP, ht⟩, hd, gv⟩ := h
  dsimp only at hF hS hP ht hd gv
  obtain ⟨v, u, y, rfl, hv, hu, hy⟩ := dts3 hd
  have hf := hF.few
  have hs := hS.few
  have ho : ord.length ≤ 5 := by rw [hP.length_eq, nm_len]; omega
  refine ⟨_, (pss_one (ps_ret (pe_and (C8.pe_c (c_is_order T) hr (by decide) (by rfl) (pa_cons (pv 0) (pa_cons (pv 2) pa_nil))) (pe_one (pe_callB (k_all K rfl rfl) (by rfl) T.z_all (by decide +kernel) (pa_cons (pe_lc (own := [("cell", 3), ("name", 4)]) rfl sc_is_order_for.nd (k_piT K rfl (pv 1)) (blkOk_by (by kernel_rfl)) (fun _ _ _ _ _ => (k_gT K 2 rfl rfl (pgs_cons (pg_name (i := 3) sc_is_order_for.nd rfl (by first | exact Or.inl rfl | exact Or.inr rfl)) (pgs_cons (pg_name (i := 4) sc_is_order_for.nd rfl (by first | exact Or.inl rfl | exact Or.inr rfl)) pgs_nil)))) (fun _ _ _ _ _ => pts_nil) (fun _ _ _ _ _ => (pe_cmpR op_eq (C8.pe_c (c_top_in T) hr (by decide) (by rfl) (pa_cons (pv 0) (pa_cons (pv 2) (pa_cons (pv 3) pa_nil)))) (pv 4) (nomark _)))) pa_nil)))))), ?_⟩
  refine s_retD ((g_andV (a := true) (b := true) (g_call (a_cons (g_var rfl hv) (a_cons (g_var rfl hy) a_nil)) (spD_use (F, ord) ⟨hF, hP⟩)) fun _ => (g_all (bs := ss.map fun _ => true) (EL.toS ((l_lcI (xs := ss) (fun _ => true) (fun _ => .bool true) (iv_tup (xs := ss) (enc := sD) (g_var rfl hu)) TLe.ex (by omega) fun x hx v1 H1 e1 h1 => ?_).is ?_))).is ?_).is rfl) gv
  · obtain ⟨c, n⟩ := x
    refine trn_t2 h1 fun a b ha hb => ⟨rfl, yes_t, fun _ => (g_eqS (g_call (a_cons (g_var rfl (hv.ex e1)) (a_cons (g_var rfl (hy.ex e1)) (a_cons (g_var rfl ha) a_nil))) (spD_use (F, ord, c, n) ⟨by show F.length ≤ 100; omega, by show ord.length ≤ 100; omega, top_of hF hP ht hx (hS.ovr _ hx)⟩)) (g_var rfl hb)).is (by simp)⟩
  · rw [made_all, List.map_map]; rfl
  · simp
/-! seen_there, sure_cells -/
-- 0 fence, 1 sights, 2 cell, 3 here, 4 name, 5 own
theorem sc_seen_there : FnScope ["fence", "sights", "cell", "here", "name", "own"] ["fence", "sights", "cell"] (defScope s_seen_there) := C8.fnScope_by (by decide +kernel)
theorem c_seen_there (T : Txt K mg) : C8.Cal P w K mg base 9 "seen_there" (spD K (fun p : Fence × List Si × Int => [fD p.1, ssD p.2.1, .int p.2.2]) (fun p => FOk p.1 ∧ SOk p.1 p.2.1 ∧ Hold p.1 p.2.1) fun p => strsD (seenL p.1 p.2.1 p.2.2)) [] := by
  refine cal_of T.d_seen_there (fun _ _ _ _ _ _ us hu => by match us, hu with | [_, _, _], _ => rfl) sc_seen_there (spD_len fun _ => rfl) fun f cdv A outer s H vs Q E hr h => ?_
  obtain ⟨⟨F, ss, c⟩, ⟨hF, hS, hH⟩, hd, gv⟩ := h
  dsimp only at hF hS hH hd gv
  obtain ⟨v, u, y, rfl, hv, hu, hy⟩ := dts3 hd
  have hf := hF.few
  have hs := hS.few
  have h100 : F.length ≤ 100 := by omega
  have h2 : F.length ≤ 100 ∧ ss.length ≤ 50 := by omega
  refine ⟨_, (pss_cons (ps_if (pt_not (pt_val (C8.pe_c (c_hold_together T) hr (by decide) (by rfl) (pa_cons (pv 0) (pa_cons (pv 1) pa_nil))))) (pss_one (ps_ret (pe_tup pa_nil))) pss_nil)
  (pss_cons (ps_set (i := 3) sc_seen_there.nd rfl (by first | exact Or.inl rfl | exact Or.inr rfl) (C8.pe_c (c_over T) hr (by decide) (by rfl) (pa_cons (pv 0) (pa_cons (pv 2) pa_nil))))
  (pss_one (ps_ret (pe_callTy (k_tupOf K rfl) (by rfl) T.z_tuple (by decide +kernel) (pa_cons (pe_lc (own := [("name", 4)]) rfl sc_seen_there.nd (k_piT K rfl (pv 3)) (blkOk_by (by kernel_rfl)) (fun _ _ _ _ _ => (pg_name (i := 4) sc_seen_there.nd rfl (by first | exact Or.inl rfl | exact Or.inr rfl))) (fun _ _ _ _ _ => (pts_one (pt_not (pt_val (pe_callB (k_any K rfl rfl) (by rfl) T.z_any (by decide +kernel) (pa_cons (pe_lc (own := [("own", 5)]) rfl sc_seen_there.nd (k_piT K rfl (pv 1)) (blkOk_by (by kernel_rfl)) (fun _ _ _ _ _ => (pg_name (i := 5) sc_seen_there.nd rfl (by first | exact Or.inl rfl | exact Or.inr rfl))) (fun _ _ _ _ _ => pts_nil) (fun _ _ _ _ _ => (C8.pe_c (c_clash T) hr (by decide) (by rfl) (pa_cons (pv 0) (pa_cons (pe_tup (pa_cons (pv 2) (pa_cons (pv 4) pa_nil))) (pa_cons (pv 5) pa_nil)))))) pa_nil)))))) (fun _ _ _ _ _ => (pv 4))) pa_nil)))))), ?_⟩
  refine q_when (b := !holdB F ss) (et_not (g_testB (g_call (a_cons (g_var rfl hv) (a_cons (g_var rfl hu) a_nil)) (spD_use (F, ss) h2)))) (fun hb H1 e1 => ?_) fun hb H1 e1 => ?_
  · rw [hold_iff.mpr hH] at hb
    exact nomatch hb
  · refine q_asgD (g_call (a_cons (g_var rfl (hv.ex e1)) (a_cons (g_var rfl (hy.ex e1)) a_nil)) (spD_use (F, c) h100)) fun v2 H2 e2 h2 => ?_
    have e12 := e1.trans e2
    refine s_retD (g_tupleOf (EL.toS ((l_lcI (xs := ov F c) (seenB F ss c) PyData.str (iv_tup (xs := ov F c) (enc := PyData.str) (g_var rfl h2)) TLe.ex (by have := ov_len F c; omega) fun x hx v3 H3 e3 h3 => ?_).is rfl))) fun v3 H3 e3 h3 => gv v3 H3 (e12.trans e3) h3
    have e13 := e12.trans e3
    refine trn_name rfl (et_is (et_not (g_testB (g_any (bs := ss.map fun s => clashB F (c, x) s) (EL.toS ((l_lcI (xs := ss) (fun _ => true) (fun s => .bool (clashB F (c, x) s)) (iv_tup (xs := ss) (enc := sD) (g_var rfl (hu.ex e13))) TLe.ex (by omega) fun s hs v4 H4 e4 h4 => ?_).is ?_))))) ?_) fun _ => g_var rfl h3
    · exact trn_name rfl yes_t fun _ => g_call (a_cons (g_var rfl (hv.ex (e13.trans e4))) (a_cons (g_tup (a_cons (g_var rfl (hy.ex (e13.trans e4))) (a_cons (g_var rfl (h3.ex e4)) a_nil)) (by simp)) (a_cons (g_var rfl h4) a_nil))) (spD_use (F, (c, x), s) h100)
    · rw [made_all, List.map_map]; rfl
    · unfold seenB
      rw [List.any_map]; rfl
def sureL (F : Fence) (ss : List Si) : List ((Int × Int) × Str) := ((partL F).filter fun p => decide ((seenL F ss p.1).length = 1)).map fun p => (p, (seenL F ss p.1).headD "")
def suD (p : (Int × Int) × Str) : PyData := .tuple [piD p.1, .str p.2]
theorem seen_len (F : Fence) (ss : List Si) (c : Int) : (seenL F ss c).length ≤ F.length := Nat.le_trans (List.length_filter_le _ _) (ov_len F c)
theorem part_len (F : Fence) : (partL F).length ≤ 2 * F.length := Nat.le_trans (List.length_filter_le _ _) (gaps_len F)
def psD (F : Fence) (ss : List Si) (p : Int × Int) : PyData := .tuple [piD p, strsD (seenL F ss p.1)]
-- 0 fence, 1 sights, 2 found, 3 piece, 4 some
theorem sc_sure_cells : FnScope ["fence", "sights", "found", "piece", "some"] ["fence", "sights"] (defScope s_sure_cells) := C8.fnScope_by (by decide +kernel)
theorem c_sure_cells (T : Txt K mg) : C8.Cal P w K mg base 10 "sure_cells" (spD K (fun p : Fence × List Si => [fD p.1, ssD p.2]) PHold fun p => .tuple ((sureL p.1 p.2).map suD)) [] := by
  refine cal_of T.d_sure_cells (fun _ _ _ _ _ _ us hu => by match us, hu with | [_, _], _ => rfl) sc_sure_cells (spD_len fun _ => rfl) fun f cdv A outer s H vs Q E hr h => ?_
  obtain ⟨⟨F, ss⟩, ⟨hF, hS, hH⟩, hd, gv⟩ := h
  dsimp only at hF hS hH hd gv
  obtain ⟨v, u, rfl, hv, hu⟩ := dts2 hd
  have hf := hF.few
  have h20 : F.length ≤ 20 := by omega
  have pl := part_len F
  refine ⟨_, (pss_cons (ps_setLc (i := 2) (own := [("piece", 3)]) rfl sc_sure_cells.nd rfl rfl (sw_true rfl rfl rfl (by decide +kernel)) (k_piT K rfl (C8.pe_c (c_pieces T) hr (by decide) (by rfl) (pa_cons (pv 0) pa_nil))) (blkOk_by (by kernel_rfl)) (fun _ _ _ _ _ => (pg_name (i := 3) sc_sure_cells.nd rfl (by first | exact Or.inl rfl | exact Or.inr rfl))) (fun _ _ _ _ _ => pts_nil) (fun _ _ _ _ _ => (pe_tup (pa_cons (pv 3) (pa_cons (C8.pe_c (c_seen_there T) hr (by decide) (by rfl) (pa_cons (pv 0) (pa_cons (pv 1) (pa_cons (pe_ix (k_ixT K rfl) (pv 3) pe_int (fun _ _ => rfl)) pa_nil)))) pa_nil)))))
  (pss_one (ps_ret (pe_callTy (k_tupOf K rfl) (by rfl) T.z_tuple (by decide +kernel) (pa_cons (pe_lc (own := [("piece", 3), ("some", 4)]) rfl sc_sure_cells.nd (k_piL K rfl (pv 2)) (blkOk_by (by kernel_rfl)) (fun _ _ _ _ _ => (k_gT K 2 rfl rfl (pgs_cons (pg_name (i := 3) sc_sure_cells.nd rfl (by first | exact Or.inl rfl | exact Or.inr rfl)) (pgs_cons (pg_name (i := 4) sc_sure_cells.nd rfl (by first | exact Or.inl rfl | exact Or.inr rfl)) pgs_nil)))) (fun _ _ _ _ _ => (pts_one (pt_cmpR op_eq (pe_callB (k_len K rfl) (by rfl) T.z_len (by decide +kernel) (pa_cons (pv 4) pa_nil)) pe_int (nomark _)))) (fun _ _ _ _ _ => (pe_tup (pa_cons (pv 3) (pa_cons (pe_ix (k_ixT K rfl) (pv 4) pe_int (fun _ _ => rfl)) pa_nil))))) pa_nil))))), ?_⟩
  refine q_asgN (K := K) (ds := (partL F).map (psD F ss)) ((l_lcI (xs := partL F) (fun _ => true) (psD F ss) (iv_tup (xs := partL F) (enc := piD) (g_call (a_cons (g_var rfl hv) a_nil) (spD_use F h20))) TLe.ex (by omega) fun p hp v1 H1 e1 h1 => ?_).is (by rw [made_all])) fun p xs H1 hp e1 hl hx => ?_
  · exact trn_name rfl yes_t fun _ => g_tup (a_cons (g_var rfl h1) (a_cons (g_call (a_cons (g_var rfl (hv.ex e1)) (a_cons (g_var rfl (hu.ex e1)) (a_cons (g_ixk (k := 0) (g_var rfl h1) rfl) a_nil))) (spD_use (F, ss, p.1) ⟨hF, hS, hH⟩)) a_nil)) (by simp)
  · refine s_retD (g_tupleOf (EL.toS ((l_lcI (xs := partL F) (fun p => decide ((seenL F ss p.1).length = 1)) (fun p => suD (p, (seenL F ss p.1).headD "")) (iv_list (xs := partL F) (enc := psD F ss) (es_old (ev_var rfl) (sq_of hl) hx)) id (by omega) fun q hq v2 H2 e2 h2 => ?_).is ?_))) fun v2 H2 e2 h2 => gv v2 H2 (e1.trans e2) h2
    · refine trn_t2 h2 fun a b ha hb => ⟨rfl, et_is (g_test (g_eqI (g_lenT (g_var rfl hb)) g_int)) ?_, fun hh => ?_⟩
      · rw [List.length_map]
        exact decide_eq_decide.mpr (by omega)
      · have h1 : (seenL F ss q.1).length = 1 := of_decide_eq_true hh
        obtain ⟨x, hx⟩ := List.length_eq_one_iff.mp h1
        refine g_tup (a_cons (g_var rfl ha) (a_cons (g_ixk (k := 0) (g_var rfl hb) ?_) a_nil)) (by simp)
        rw [hx]; rfl
    · unfold made sureL
      rw [List.map_map]
      rfl
end
end K77
set_option maxHeartbeats 1000000
/-! surely_below. -/
namespace K77
open PySem PySem.Spec PyProof.Rows L2 Evl
noncomputable def reachB (F : Fence) (ss : List Si) (m n : Str) : Bool := @decide (Reach (Edge F ss) m n) (Classical.propDecidable _)
theorem reachB_iff {F : Fence} {ss : List Si} {m n : Str} : reachB F ss m n = true ↔ Reach (Edge F ss) m n := @decide_eq_true_iff _ (Classical.propDecidable _)
noncomputable def reachL (F : Fence) (ss : List Si) (n : Str) : List Str := (nm F).filter fun m => reachB F ss m n
theorem reach_len (F : Fence) (ss : List Si) (n : Str) : (reachL F ss n).length ≤ F.length := by
  have := List.length_filter_le (fun m => reachB F ss m n) (nm F)
  rw [nm_len] at this
  exact this
theorem reach_in {F : Fence} {ss : List Si} (hS : ∀ s ∈ ss, s.2 ∈ ov F s.1) {m n : Str} (h : Reach (Edge F ss) m n) : m ∈ nm F ∧ n ∈ nm F := by
  induction h with
  | one e => exact edge_in hS _ _ e
  | step _ e ih => exact ⟨ih.1, (edge_in hS _ _ e).2⟩
theorem mem_reach {F : Fence} {ss : List Si} (hS : ∀ s ∈ ss, s.2 ∈ ov F s.1) {m n : Str} : m ∈ reachL F ss n ↔ Reach (Edge F ss) m n := by
  unfold reachL
  rw [List.mem_filter, reachB_iff]
  exact ⟨fun h => h.2, fun h => ⟨(reach_in hS h).1, h⟩⟩
theorem reach_unfold {F : Fence} {ss : List Si} (hS : ∀ s ∈ ss, s.2 ∈ ov F s.1) (n m : Str) : m ∈ lowers F ss n ++ (lowers F ss n).flatMap (fun k => reachL F ss k) ↔ m ∈ nm F ∧ reachB F ss m n = true := by
  rw [reachB_iff, List.mem_append, List.mem_flatMap]
  constructor
  · rintro (h | ⟨k, hk, h⟩)
    · exact ⟨(edge_in hS _ _ (edge_low.mp h)).1, .one (edge_low.mp h)⟩
    · have r := (mem_reach hS).mp h
      exact ⟨(reach_in hS r).1, .step r (edge_low.mp hk)⟩
  · rintro ⟨_, h⟩
    cases h with
    | one e => exact .inl (edge_low.mpr e)
    | step r e => exact .inr ⟨_, edge_low.mpr e, (mem_reach hS).mpr r⟩
theorem flat_len {α β : Type} {f : α → List β} {n : Nat} : ∀ l : List α, (∀ x ∈ l, (f x).length ≤ n) → (l.flatMap f).length ≤ l.length * n
  | [], _ => Nat.zero_le _
  | x :: l, h => by
    have h1 := h x List.mem_cons_self
    have ih := flat_len l fun y hy => h y (List.mem_cons_of_mem _ hy)
    rw [List.flatMap_cons, List.length_append, List.length_cons, Nat.succ_mul]
    omega
/-- all pairs: the first is under the second; by the first's place, then by the second's -/
noncomputable def pairsL (F : Fence) (ss : List Si) : List (Str × Str) := (nm F).flatMap fun a => ((nm F).filter fun b => decide (b ≠ a) && reachB F ss a b).map fun b => (a, b)
theorem notGt_pr {a b c d : Str} (h1 : a = c → NotGt (.str b) (.str d)) (h2 : a ≠ c → NotGt (.str a) (.str c)) : NotGt (prD (a, b)) (prD (c, d)) := by
  unfold NotGt prD
  rw [PySem.W.dataLt_pair (by simp [PySem.W.alike]) (by simp [PySem.W.alike])]
  show (if PyData.eqv (.str c) (.str a) = true then (if PyData.eqv (.str d) (.str b) = true then false else PySem.W.dataLt (.str d) (.str b)) else PySem.W.dataLt (.str c) (.str a)) = false
  have ev : ∀ x y : Str, PyData.eqv (.str x) (.str y) = true ↔ x = y := fun x y => by simp [PyData.eqv]
  by_cases e : a = c
  · rw [if_pos ((ev c a).mpr e.symm)]
    by_cases e2 : d = b
    · rw [if_pos ((ev d b).mpr e2)]
    · rw [if_neg fun z => e2 ((ev d b).mp z)]
      exact h1 e
  · rw [if_neg fun z => e ((ev c a).mp z).symm]
    exact h2 e
theorem pairs_srt {F : Fence} (hF : FOk F) (ss : List Si) : (pairsL F ss).Pairwise fun p q => NotGt (prD p) (prD q) := by
  unfold pairsL
  rw [List.pairwise_flatMap]
  refine ⟨fun a _ => ?_, ?_⟩
  · rw [List.pairwise_map]
    exact (hF.srt.filter _).imp fun h => notGt_pr (fun _ => h) fun z => absurd rfl z
  · refine (hF.srt.and hF.nd).imp fun {a c} ⟨h, hn⟩ x hx y hy => ?_
    obtain ⟨b, _, rfl⟩ := List.mem_map.mp hx
    obtain ⟨d, _, rfl⟩ := List.mem_map.mp hy
    exact notGt_pr (fun z => absurd z hn) fun _ => h
theorem pairs_nd {F : Fence} (hF : FOk F) (ss : List Si) : (pairsL F ss).Nodup := by
  unfold pairsL List.Nodup
  rw [List.pairwise_flatMap]
  refine ⟨fun a _ => ?_, ?_⟩
  · rw [List.pairwise_map]
    exact (hF.nd.filter _).imp fun h e => h (Prod.mk.inj e).2
  · refine hF.nd.imp fun {a c} hn x hx y hy e => ?_
    obtain ⟨b, _, rfl⟩ := List.mem_map.mp hx
    obtain ⟨d, _, rfl⟩ := List.mem_map.mp hy
    exact hn (Prod.mk.inj e).1
theorem mem_pairs {F : Fence} {ss : List Si} (hS : ∀ s ∈ ss, s.2 ∈ ov F s.1) (ha : Acyc (Edge F ss) (nm F)) {p : Str × Str} : p ∈ pairsL F ss ↔ Reach (Edge F ss) p.1 p.2 := by
  obtain ⟨a, b⟩ := p
  unfold pairsL
  rw [List.mem_flatMap]
  constructor
  · rintro ⟨x, _, h⟩
    obtain ⟨y, hy, e⟩ := List.mem_map.mp h
    obtain ⟨rfl, rfl⟩ := Prod.mk.inj e
    have := (List.mem_filter.mp hy).2
    rw [Bool.and_eq_true, reachB_iff] at this
    exact this.2
  · intro h
    obtain ⟨h1, h2⟩ := reach_in hS h
    refine ⟨a, h1, List.mem_map.mpr ⟨b, List.mem_filter.mpr ⟨h2, ?_⟩, rfl⟩⟩
    rw [Bool.and_eq_true, reachB_iff, decide_eq_true_eq]
    refine ⟨fun e => ?_, h⟩
    subst e
    obtain ⟨r, hr⟩ := ha
    exact absurd (h.rank (fun m n e => edge_in hS m n e) hr) (Nat.lt_irrefl _)
section
variable {P : Program} {w : World} {K : PySem.W.Frag} {mg : Str → Option Value} {base : Heap}
theorem ge_callL {α : Type} {args : α → List PyData} {Pr : α → Prop} {R : α → List PyData → Prop} {E : XK} {ta : TA} {σ : L2.St} {H : Hp} (a : α) (h : EA K ta σ H (args a)) (hP : Pr a) : GE (tCall (spLR K args Pr R) [] E ta) σ H fun H2 v => ∃ p xs es, v = .ref p ∧ H p = none ∧ H2 p = some (.lst xs) ∧ Dts K H2 xs es ∧ R a es := fun H1 e1 Q q =>
  lr_call a h hP H1 e1 Q fun p xs H2 es hp e2 hx hd hr => q _ H2 e2 ⟨p, xs, es, rfl, fresh_back e1 hp, hx, hd, hr⟩
theorem gl_ex {R : List PyData → Prop} {H0 H H' : Hp} {v : V} (e : Ex H H') (h : ∃ p xs es, v = .ref p ∧ H0 p = none ∧ H p = some (.lst xs) ∧ Dts K H xs es ∧ R es) : ∃ p xs es, v = .ref p ∧ H0 p = none ∧ H' p = some (.lst xs) ∧ Dts K H' xs es ∧ R es := by
  obtain ⟨p, xs, es, h1, h2, h3, h4, h5⟩ := h
  exact ⟨p, xs, es, h1, h2, e _ _ h3, h4.ex e, h5⟩
def GNew (H H2 : Hp) (v : V) : Prop := ∃ p, v = .ref p ∧ H p = none ∧ H2 p = some (.dK [])
theorem gnew_ex {H0 H H' : Hp} {v : V} (e : Ex H H') (h : GNew H0 H v) : GNew H0 H' v := by
  obtain ⟨p, h1, h2, h3⟩ := h
  exact ⟨p, h1, h2, e _ _ h3⟩
theorem ge_new {σ : L2.St} {H : Hp} : GE tDNewK σ H (GNew H) := fun H1 e1 Q q p hp => q _ _ (Ex.new hp) ⟨p, rfl, fresh_back e1 hp, upd_same⟩
-- 0 fence, 1 sights, 2 name, 3 layers, 4 below, 5 found, 6 layer, 7 own, 8 far
theorem sc_surely_below : FnScope ["fence", "sights", "name", "layers", "below", "found", "layer", "own", "far"] ["fence", "sights"] (defScope s_surely_below) := C8.fnScope_by (by decide +kernel)
theorem c_surely_below (T : Txt K mg) : C8.Cal P w K mg base 10 "surely_below" (spD K (fun p : Fence × List Si => [fD p.1, ssD p.2]) PHold fun p => .tuple ((pairsL p.1 p.2).map prD)) [] := by
  refine cal_of T.d_surely_below (fun _ _ _ _ _ _ us hu => by match us, hu with | [_, _], _ => rfl) sc_surely_below (spD_len fun _ => rfl) fun f cdv A outer s H vs Q E hr h => ?_
  obtain ⟨⟨F, ss⟩, ⟨hF, hS, hH⟩, hd, gv⟩ := h
  dsimp only at hF hS hH hd gv
  obtain ⟨v, u, rfl, hv, hu⟩ := dts2 hd
  have hf := hF.few
  have hac := hold_acyc hF hS.ovr hH
  refine ⟨_, (pss_cons (ps_asg (pe_tup (pa_cons (C8.pe_c (c_sure_layers T) hr (by decide) (by rfl) (pa_cons (pv 0) (pa_cons (pv 1) pa_nil))) (pa_cons (C8.pe_c (c_told_below T) hr (by decide) (by rfl) (pa_cons (pv 0) (pa_cons (pv 1) pa_nil))) (pa_cons pe_dnewK pa_nil)))) (k_gT K 3 rfl rfl (pgs_cons (pg_name (i := 3) sc_surely_below.nd rfl (by first | exact Or.inl rfl | exact Or.inr rfl)) (pgs_cons (pg_name (i := 4) sc_surely_below.nd rfl (by first | exact Or.inl rfl | exact Or.inr rfl)) (pgs_cons (pg_name (i := 5) sc_surely_below.nd rfl (by first | exact Or.inl rfl | exact Or.inr rfl)) pgs_nil)))))
  (pss_cons (ps_for PassesOwn.never rfl (k_piL K rfl (pe_lc2 (own := [("layer", 6), ("own", 7)]) rfl sc_surely_below.nd (k_piL K rfl (pv 3)) (blkOk_by (by kernel_rfl)) (vs1 := [7]) (by decide) (fun _ _ _ _ _ => (pg_name (i := 6) sc_surely_below.nd rfl (by first | exact Or.inl rfl | exact Or.inr rfl))) (fun _ _ _ _ _ => pts_nil) (fun _ _ _ _ _ => (k_piT K rfl (pv 6))) (fun _ _ _ _ _ => (pg_name (i := 7) sc_surely_below.nd rfl (by first | exact Or.inl rfl | exact Or.inr rfl))) (fun _ _ _ _ _ => pts_nil) (fun _ _ _ _ _ => (pv 7)))) (pg_name (i := 2) sc_surely_below.nd rfl (by first | exact Or.inl rfl | exact Or.inr rfl)) (pss_one (ps_dput (hu_of hr) (pv 5) (pv 2) (C8.pe_c (c_set_of T) hr (by decide) (by rfl) (pa_cons (pe_lst (k_star K rfl (pe_dget (hu_of hr) (pv 4) (pv 2) (fun _ _ => rfl)) (k_star K rfl (pe_lc2 (own := [("own", 7), ("far", 8)]) rfl sc_surely_below.nd (k_piT K rfl (pe_dget (hu_of hr) (pv 4) (pv 2) (fun _ _ => rfl))) (blkOk_by (by kernel_rfl)) (vs1 := [8]) (by decide) (fun _ _ _ _ _ => (pg_name (i := 7) sc_surely_below.nd rfl (by first | exact Or.inl rfl | exact Or.inr rfl))) (fun _ _ _ _ _ => pts_nil) (fun _ _ _ _ _ => (k_piT K rfl (pe_dget (hu_of hr) (pv 5) (pv 7) (fun _ _ => rfl)))) (fun _ _ _ _ _ => (pg_name (i := 8) sc_surely_below.nd rfl (by first | exact Or.inl rfl | exact Or.inr rfl))) (fun _ _ _ _ _ => pts_nil) (fun _ _ _ _ _ => (pv 8))) pa_nil))) pa_nil)) rfl)))
  (pss_one (ps_ret (pe_callTy (k_tupOf K rfl) (by rfl) T.z_tuple (by decide +kernel) (pa_cons (pe_callB (k_srt K rfl) (by rfl) T.z_sorted (by decide +kernel) (pa_cons (pe_lock (pe_lc2 (own := [("name", 2), ("own", 7)]) rfl sc_surely_below.nd (pi_keys (pv 5)) (blkOk_by (by kernel_rfl)) (vs1 := [7]) (by decide) (fun _ _ _ _ _ => (pg_name (i := 2) sc_surely_below.nd rfl (by first | exact Or.inl rfl | exact Or.inr rfl))) (fun _ _ _ _ _ => pts_nil) (fun _ _ _ _ _ => (k_piT K rfl (pe_dget (hu_of hr) (pv 5) (pv 2) (fun _ _ => rfl)))) (fun _ _ _ _ _ => (pg_name (i := 7) sc_surely_below.nd rfl (by first | exact Or.inl rfl | exact Or.inr rfl))) (fun _ _ _ _ _ => pts_nil) (fun _ _ _ _ _ => (pe_tup (pa_cons (pv 7) (pa_cons (pv 2) pa_nil)))))) pa_nil)) pa_nil)))))), ?_⟩
  refine q_asg3b (ge_callL (F, ss) (a_cons (g_var rfl hv) (a_cons (g_var rfl hu) a_nil)) ⟨hF, hS, hH⟩) (ge_callDict (F, ss) (a_cons (g_var rfl hv) (a_cons (g_var rfl hu) a_nil)) ⟨hF, hS⟩) (fun _ _ => ge_new) gl_ex gnew_ex fun x y z H1 H2 e1 e2 ⟨pl, ls, es0, hxl, hpl, hll, hdl, Ls, hes, part, hln⟩ ⟨pb, kvs, hyb, hpb, hkb, hDb⟩ ⟨pf, hzf, hpf, hkf⟩ => ?_
  subst hxl hyb hzf hes
  dsimp only at hln part hDb
  have ne : pb ≠ pf := fun e => by rw [e, hpf] at hkb; cases hkb
  have hperm : Ls.flatten.Perm (nm F) := by have := part.perm; rwa [List.append_nil] at this
  have hfl : Ls.flatten.length ≤ 5 := by rw [hperm.length_eq, nm_len]; exact hf
  have hfn : Ls.flatten.Nodup := hperm.nodup_iff.mpr hF.nd
  have hLl : ∀ l ∈ Ls, l.length ≤ 5 := fun l hl => Nat.le_trans (lay_len part l hl) hf
  generalize hfe : Ls.flatten = l at *
  refine q_forI (iv_listX (xs := l) (enc := PyData.str) (fun _ => False) (fun _ h => h.elim) ((l_lc2I (xs := Ls) (fun _ => true) (fun l => l) (fun _ _ => true) (fun _ x => .str x) (iv_list (xs := Ls) (enc := strsD) (es_old (ev_var rfl) (sq_of (e2 _ _ hll)) (hdl.ex e2))) id (by omega) (fun l hl _ => by have := hLl l hl; omega) fun l hl v3 H3 e3 h3 => ?_).is ?_))
    (fun H3 i σ' H' => LTx K (fun _ => False) H3 H' ∧ Ex H H' ∧ (∃ a, σ' = [some v, some u, a, some (.ref pl), some (.ref pb), some (.ref pf), none, none, none]) ∧ H' pb = some (.dK kvs) ∧ DD K (fun n => strsD (lowers F ss n)) H' kvs (nm F) ∧ ∃ kvf, H' pf = some (.dK kvf) ∧ DD K (fun n => strsD (reachL F ss n)) H' kvf (l.take i))
    (fun H3 e3 => ⟨LTx.refl, e1.trans (e2.trans e3), ⟨none, rfl⟩, e3 _ _ (e2 _ _ hkb), hDb.tle (TLe.ex (e2.trans e3)), [], e3 _ _ hkf, rfl, nofun⟩) (fun H3 i σ' H' _ h => h.1) (fun H3 i x v1 σ' H' H4 e3 hx ⟨t, ex, ⟨a, hσ⟩, hb, hbD, kvf, hz, hzd⟩ e4 hr => ?_) fun H3 σ' H' e3 ⟨t, ex, ⟨a, hσ⟩, hb, hbD, kvf, hz, hzd⟩ => ?_
  · exact ⟨_, fun Q q => q, rfl, yes_t, fun _ => ⟨_, iv_tup (xs := l) (enc := PyData.str) (g_var rfl h3), fun x hx v4 H4 t4 h4 => trn_name rfl yes_t fun _ => g_var rfl h4⟩⟩
  · rw [← hfe]
    unfold made2
    simp only [if_true, made_all]
    rw [List.map_flatten, List.flatMap_def]
  · subst hσ
    have hxl : x ∈ l := List.mem_of_getElem? hx
    have hn : x ∈ nm F := hperm.mem_iff.mp hxl
    obtain ⟨hil, hix⟩ := List.getElem?_eq_some_iff.mp hx
    have hl' : l = l.take i ++ x :: l.drop (i + 1) := by
      rw [← hix, List.getElem_cons_drop, List.take_append_drop]
    have hnew : x ∉ l.take i := by
      rw [hl'] at hfn
      have := (List.nodup_append.mp hfn).2.2
      exact fun c => this x c x List.mem_cons_self rfl
    have hlow : ∀ m ∈ lowers F ss x, m ∈ l.take i := fun m hm => part.topo _ x _ hl' m (edge_low.mp hm)
    have x4 : Ex H H4 := ex.trans e4
    have hbD4 := hbD.tle (TLe.ex e4)
    have hzd4 := hzd.tle (TLe.ex e4)
    have ll := low_len F ss x
    have lr := fun k => reach_len F ss k
    have lm : ((lowers F ss x).flatMap fun k => reachL F ss k).length ≤ 25 := by
      have := flat_len (f := fun k => reachL F ss k) (n := 5) (lowers F ss x) fun k _ => by have := lr k; omega
      omega
    refine s_dput (R := fun d => d = strsD (reachL F ss x)) (n := x) (e4 _ _ hz) ?_ ?_ (ev_var rfl) (g_var rfl hr) fun w' H5 d e5 hw hr' => ?_
    · rw [dk_len hzd, List.length_take]; omega
    · intro H5 e5 Q q
      refine r_setOf (ds := (lowers F ss x ++ (lowers F ss x).flatMap fun k => reachL F ss k).map PyData.str) (EL.toS ((l_lst (a_star (g_dget (val := fun n => strsD (lowers F ss n)) (e4 _ _ hb) hbD4 (ev_var rfl) (g_var rfl hr) hn) (a_starL (EL.toS (l_lc2I (xs := lowers F ss x) (fun _ => true) (fun k => reachL F ss k) (fun _ _ => true) (fun _ z => .str z) (iv_tup (xs := lowers F ss x) (enc := PyData.str) (g_dget (val := fun n => strsD (lowers F ss n)) (e4 _ _ hb) hbD4 (ev_var rfl) (g_var rfl hr) hn)) TLe.ex (by omega) (fun k _ _ => by have := lr k; omega) fun k hk v6 H6 e6 h6 => ?_)) a_nil)) ?_).is ?_)) ?_ (setIn_strs _) H5 e5 Q fun v2 H6 d e6 hd ⟨es, ed, r⟩ => ?_
      · refine ⟨_, fun Q q => q, rfl, yes_t, fun _ => ⟨_, iv_tup (xs := reachL F ss k) (enc := PyData.str) (g_dget (val := fun n => strsD (reachL F ss n)) (e6 _ _ (e4 _ _ hz)) (hzd4.tle (TLe.ex e6)) (ev_var rfl) (g_var rfl h6) (hlow k hk)), fun m hm v7 H7 t7 h7 => trn_name rfl yes_t fun _ => g_var rfl h7⟩⟩
      · rw [List.append_nil, List.length_append, List.length_map]
        have e : (made2 (fun _ => true) (fun k => reachL F ss k) (fun _ _ => true) (fun _ z => PyData.str z) (lowers F ss x)).length = ((lowers F ss x).flatMap fun k => reachL F ss k).length := by
          unfold made2
          simp only [if_true, made_all]
          rw [← List.map_flatMap, List.length_map]
        omega
      · rw [List.append_nil, List.map_append, List.map_flatMap]
        unfold made2
        simp only [if_true, made_all]
      · rw [List.length_map, List.length_append]
        omega
      · refine q v2 H6 d e6 hd ?_
        rw [ed, set_names hF r (fun m => reachB F ss m x) fun m => reach_unfold hS.ovr x m]
        rfl
    · have q5 := e5 _ _ (e4 _ _ hz)
      subst hr'
      refine ⟨(t.trans (LTx.ex (e4.trans e5))).trans (LTx.dk q5), Ex.mut (x4.trans e5) (fresh_back e1 hpf), ⟨_, rfl⟩, ?_, (hbD4.tle (TLe.ex e5)).tle (TLe.dk q5), _, upd_same, ?_⟩
      · rw [upd_ne ne]
        exact e5 _ _ (e4 _ _ hb)
      · rw [List.take_add_one, hx, Option.toList_some]
        exact dk_new (hzd4.tle (TLe.ex e5)) hnew (hw.mono (TLe.dk q5)) fun k hk x hx2 => hx2.mono (TLe.dk q5)
  · subst hσ
    rw [List.take_length] at hzd
    have lr := fun k => reach_len F ss k
    have dl : (l.flatMap fun n => reachL F ss n).length ≤ 25 := by
      have := flat_len (f := fun k => reachL F ss k) (n := 5) l fun k _ => by have := lr k; omega
      omega
    let ps := l.flatMap fun n => (reachL F ss n).map fun m => (m, n)
    have pl' : ps.length ≤ 25 := by
      have := flat_len (f := fun n => (reachL F ss n).map fun m => (m, n)) (n := 5) l fun k _ => by rw [List.length_map]; have := lr k; omega
      show (l.flatMap fun n => (reachL F ss n).map fun m => (m, n)).length ≤ 25
      omega
    have pmem : ∀ p, p ∈ ps ↔ Reach (Edge F ss) p.1 p.2 := fun p => by
      show p ∈ (l.flatMap fun n => (reachL F ss n).map fun m => (m, n)) ↔ _
      rw [List.mem_flatMap]
      constructor
      · rintro ⟨n, _, hm⟩
        obtain ⟨m, hm2, rfl⟩ := List.mem_map.mp hm
        exact (mem_reach hS.ovr).mp hm2
      · intro h
        exact ⟨p.2, hperm.mem_iff.mpr (reach_in hS.ovr h).2, List.mem_map.mpr ⟨p.1, (mem_reach hS.ovr).mpr h, rfl⟩⟩
    have pnd : ps.Nodup := by
      show (l.flatMap fun n => (reachL F ss n).map fun m => (m, n)).Nodup
      unfold List.Nodup
      rw [List.pairwise_flatMap]
      refine ⟨fun a _ => ?_, hfn.imp fun {a c} hn x hx y hy e => ?_⟩
      · rw [List.pairwise_map]
        exact (hF.nd.filter _).imp fun h e => h (Prod.mk.inj e).1
      · obtain ⟨b, _, rfl⟩ := List.mem_map.mp hx
        obtain ⟨d, _, rfl⟩ := List.mem_map.mp hy
        exact hn (Prod.mk.inj e).2
    have pperm : ps.Perm (pairsL F ss) := (List.perm_ext_iff_of_nodup pnd (pairs_nd hF ss)).mpr fun p => (pmem p).trans (mem_pairs hS.ovr hac).symm
    refine s_retR (r_tupleOf (r_srtL (ds := ps.map prD) (EL.toS (l_lock hz fun od => ?_)) (by rw [List.length_map]; omega) ?_)) fun v2 H4 d e4 h4 ⟨es, hd, pm, pw⟩ => gv v2 H4 (ex.trans e4) ?_
    · have t0 : TLe K H' (upd H' pf (.frz od (.dK kvf))) := TLe.dk hz
      refine (l_lc2I (xs := l) (fun _ => true) (fun n => reachL F ss n) (fun _ _ => true) (fun n m => prD (m, n)) (iv_keys (ev_var rfl) upd_same hzd.1) id (by omega) (fun k _ _ => by have := lr k; omega) fun n hn v5 H5 e5 h5 => ?_).is ?_
      · subst h5
        refine ⟨_, fun Q q => q, rfl, yes_t, fun _ => ⟨_, iv_tup (xs := reachL F ss n) (enc := PyData.str) (g_dgetF (val := fun n => strsD (reachL F ss n)) (e5 _ _ upd_same) ((hzd.tle t0).tle (TLe.ex e5)) (ev_var rfl) (g_var rfl (.str n)) hn), fun m hm v6 H6 t6 h6 => trn_name rfl yes_t fun _ => g_tup (a_cons (g_var rfl h6) (a_cons (g_var rfl (.str n)) a_nil)) (by simp)⟩⟩
      · unfold made2
        simp only [if_true, made_all]
        show _ = (l.flatMap fun n => (reachL F ss n).map fun m => (m, n)).map prD
        rw [List.map_flatMap]
        simp only [List.map_map]
        rfl
    · refine .inr ⟨ps.map fun p => [Sum.inr p.1, Sum.inr p.2], by rw [List.map_map]; rfl, fun j hj k hk => ?_⟩
      obtain ⟨p, _, rfl⟩ := List.mem_map.mp hj
      obtain ⟨q, _, rfl⟩ := List.mem_map.mp hk
      exact ⟨by simp, by simp, rfl, fun _ => ⟨rfl, fun _ => trivial⟩⟩
    · rw [hd] at h4
      have e : es = (pairsL F ss).map prD := by
        refine perm_uniq (r := NotGt) (fun a ha b hb h1 h2 => ?_) (pm.trans (pperm.map _)) pw (List.pairwise_map.mpr (pairs_srt hF ss))
        obtain ⟨x, _, rfl⟩ := List.mem_map.mp (pm.mem_iff.mp ha)
        obtain ⟨y, _, rfl⟩ := List.mem_map.mp (pm.mem_iff.mp hb)
        rw [anti_pr h1 h2]
      rw [e] at h4
      exact h4
end
end K77
set_option maxHeartbeats 1000000
/-! Cases of one photo. -/
namespace K77
open PySem PySem.Spec PyProof.Rows L2 Evl
inductive Fa
  | there (n : Str)
  | before (a b : Str)
def teD (t : Si) : PyData := .tuple [.int 0, .int t.1, .str t.2]
def faD : Fa → PyData
  | .there n => .tuple [.str "there", .int 0, .str n]
  | .before a b => .tuple [.str "before", .str a, .str b]
structure Cs where
  F : Fence
  told : List Si
  facts : List Fa
abbrev csD (c : Cs) : PyData := .tuple [fD c.F, .int 1, .tuple (c.told.map teD), .tuple (c.facts.map faD)]
theorem teD_inj {a b : Si} (h : teD a = teD b) : a = b := by
  obtain ⟨a1, a2⟩ := a
  obtain ⟨b1, b2⟩ := b
  simp only [teD, PyData.tuple.injEq, List.cons.injEq, PyData.str.injEq, PyData.int.injEq] at h
  rw [h.2.1, h.2.2.1]
theorem faD_inj : ∀ {a b : Fa}, faD a = faD b → a = b
  | .there n, .there m, h => by
    simp only [faD, PyData.tuple.injEq, List.cons.injEq, PyData.str.injEq] at h
    rw [h.2.2.1]
  | .before a b, .before c d, h => by
    simp only [faD, PyData.tuple.injEq, List.cons.injEq, PyData.str.injEq] at h
    rw [h.2.1, h.2.2.1]
  | .there n, .before a b, h => by simp [faD] at h
  | .before a b, .there n, h => by simp [faD] at h
structure COk (c : Cs) : Prop where
  fen : FOk c.F
  few : c.told.length ≤ 10
  ovr : ∀ t ∈ c.told, t.2 = "-" ∨ t.2 ∈ ov c.F t.1
  fewF : c.facts.length ≤ 7
  all : ∀ n ∈ nm c.F, Fa.there n ∈ c.facts
  thr : ∀ n, Fa.there n ∈ c.facts → n ∈ nm c.F
  bef : ∀ a b, Fa.before a b ∈ c.facts → a ∈ nm c.F ∧ b ∈ nm c.F
/-- who lies under n, and by what telling -/
def belT (F : Fence) (n : Str) (t : Si) : List (Str × PyData) := if t.2 = n then ((ov F t.1).filter fun o => !decide (o = n)).map fun o => (o, teD t) else []
def belF (n : Str) : Fa → List (Str × PyData)
  | .there _ => []
  | .before a b => if b = n then [(a, faD (.before a b))] else []
def belL (c : Cs) (n : Str) : List (Str × PyData) := (c.told.flatMap (belT c.F n)) ++ c.facts.flatMap (belF n)
def EdgeC (c : Cs) (m n : Str) : Prop := ∃ d, (m, d) ∈ belL c n
theorem edgeC_iff {c : Cs} {m n : Str} : EdgeC c m n ↔ Edge c.F c.told m n ∨ Fa.before m n ∈ c.facts := by
  unfold EdgeC belL Edge
  constructor
  · rintro ⟨d, h⟩
    rcases List.mem_append.mp h with h | h
    · obtain ⟨t, ht, h⟩ := List.mem_flatMap.mp h
      unfold belT at h
      split at h
      · rename_i e
        obtain ⟨o, ho, e2⟩ := List.mem_map.mp h
        obtain ⟨rfl, _⟩ := Prod.mk.inj e2
        obtain ⟨h1, h2⟩ := List.mem_filter.mp ho
        exact .inl ⟨t.1, by rw [← e]; exact ht, h1, by simpa using h2⟩
      · exact absurd h (by simp)
    · obtain ⟨f, hf, h⟩ := List.mem_flatMap.mp h
      cases f with
      | there x => exact absurd h (by simp [belF])
      | before a b =>
        have h' : (m, d) ∈ (if b = n then [(a, faD (.before a b))] else []) := h
        by_cases e : b = n
        · rw [if_pos e, List.mem_singleton] at h'
          obtain ⟨rfl, _⟩ := Prod.mk.inj h'
          subst e
          exact .inr hf
        · rw [if_neg e] at h'
          exact absurd h' (by simp)
  · rintro (⟨cell, h1, h2, h3⟩ | h)
    · refine ⟨teD (cell, n), List.mem_append_left _ (List.mem_flatMap.mpr ⟨_, h1, ?_⟩)⟩
      unfold belT
      rw [if_pos rfl]
      exact List.mem_map.mpr ⟨m, List.mem_filter.mpr ⟨h2, by simpa using h3⟩, rfl⟩
    · refine ⟨faD (.before m n), List.mem_append_right _ (List.mem_flatMap.mpr ⟨_, h, ?_⟩)⟩
      show _ ∈ (if n = n then [(m, faD (.before m n))] else [])
      rw [if_pos rfl]
      exact List.mem_singleton.mpr rfl
theorem edgeC_in {c : Cs} (h : COk c) {m n : Str} (e : EdgeC c m n) : m ∈ nm c.F := by
  rcases edgeC_iff.mp e with ⟨cell, _, h2, _⟩ | h2
  · exact ov_nm h2
  · exact (h.bef _ _ h2).1
def FitC (c : Cs) : Prop := (∀ t ∈ c.told, t.2 = "-" → ov c.F t.1 = []) ∧ Acyc (EdgeC c) (nm c.F)
def tale (F : Fence) (ss : List Si) : Cs := ⟨F, ss, (nm F).map Fa.there⟩
theorem not_bare {F : Fence} (hF : FOk F) {c : Int} {n : Str} (h : n ∈ ov F c) : n ≠ "-" := fun e => hF.bare (e ▸ ov_nm h)
theorem tale_ok {F : Fence} {ss : List Si} (hF : FOk F) (hS : SOk F ss) : COk (tale F ss) where
  fen := hF
  few := Nat.le_succ_of_le hS.few
  ovr := fun t ht => .inr (hS.ovr t ht)
  fewF := by
    show ((nm F).map Fa.there).length ≤ 7
    rw [List.length_map, nm_len]
    have := hF.few
    omega
  all := fun n hn => List.mem_map_of_mem hn
  thr := fun n h => by
    obtain ⟨x, hx, e⟩ := List.mem_map.mp h
    injection e with e
    exact e ▸ hx
  bef := fun a b h => by
    obtain ⟨x, hx, e⟩ := List.mem_map.mp h
    cases e
theorem fit_edges {c : Cs} {E : Str → Str → Prop} (h : ∀ m n, EdgeC c m n ↔ E m n) (hb : ∀ t ∈ c.told, t.2 ≠ "-") : FitC c ↔ Acyc E (nm c.F) := by
  have : EdgeC c = E := by funext m n; exact propext (h m n)
  unfold FitC
  rw [this]
  exact ⟨fun h => h.2, fun h => ⟨fun t ht e => absurd e (hb t ht), h⟩⟩
theorem acyc_iff {F : Fence} {ss : List Si} (hF : FOk F) (hS : ∀ s ∈ ss, s.2 ∈ ov F s.1) : Acyc (Edge F ss) (nm F) ↔ Hold F ss := ⟨acyc_hold hS, hold_acyc hF hS⟩
theorem fit_tale {F : Fence} {ss : List Si} (hF : FOk F) (hS : SOk F ss) : FitC (tale F ss) ↔ Hold F ss := by
  rw [← acyc_iff hF hS.ovr]
  refine fit_edges (fun m n => ?_) fun t ht => not_bare hF (hS.ovr t ht)
  rw [edgeC_iff]
  exact ⟨fun h => h.elim id fun h => (by
    obtain ⟨x, hx, e⟩ := List.mem_map.mp h
    cases e), .inl⟩
/-- with a telling more -/
theorem fit_tell {F : Fence} {ss T : List Si} {cell : Int} {x : Str} (hF : FOk F) (hS : SOk F ss) (hH : Hold F ss) (hT : ∀ t, t ∈ T ↔ t ∈ ss ∨ t = (cell, x)) (hc : ov F cell ≠ []) (hx : x = "-" ∨ x ∈ ov F cell) : FitC ⟨F, T, (nm F).map Fa.there⟩ ↔ x ≠ "-" ∧ seenB F ss cell x = true := by
  by_cases e : x = "-"
  · subst e
    exact ⟨fun h => absurd (h.1 (cell, "-") ((hT _).mpr (.inr rfl)) rfl) hc, fun h => absurd rfl h.1⟩
  · have hxo : x ∈ ov F cell := hx.resolve_left e
    rw [seenB_iff hH, ← acyc_iff hF (ss := (cell, x) :: ss) (fun s hs => by
      rcases List.mem_cons.mp hs with z | z
      · rw [z]; exact hxo
      · exact hS.ovr s z)]
    rw [fit_edges (c := ⟨F, T, (nm F).map Fa.there⟩) (E := Edge F ((cell, x) :: ss)) (fun m n => ?_) fun t ht => ?_]
    · exact ⟨fun h => ⟨e, h⟩, fun h => h.2⟩
    · rw [edgeC_iff]
      have key : Edge F T m n ↔ Edge F ((cell, x) :: ss) m n := by
        unfold Edge
        constructor
        · rintro ⟨d, h1, h2⟩
          refine ⟨d, ?_, h2⟩
          rcases (hT _).mp h1 with z | z
          · exact List.mem_cons_of_mem _ z
          · rw [z]; exact List.mem_cons_self
        · rintro ⟨d, h1, h2⟩
          refine ⟨d, (hT _).mpr ?_, h2⟩
          rcases List.mem_cons.mp h1 with z | z
          · exact .inr z
          · exact .inl z
      exact ⟨fun h => h.elim key.mp fun h => (by
        obtain ⟨x, hx, e⟩ := List.mem_map.mp h
        cases e), fun h => .inl (key.mpr h)⟩
    · rcases (hT t).mp ht with z | z
      · exact not_bare hF (hS.ovr t z)
      · rw [z]; exact e
/-- with a fact more -/
theorem fit_fact {F : Fence} {ss : List Si} {G : List Fa} {o p : Str} (hF : FOk F) (hS : SOk F ss) (hH : Hold F ss) (hG : ∀ f, f ∈ G ↔ f ∈ (nm F).map Fa.there ∨ f = .before o p) (ho : o ∈ nm F) (hp : p ∈ nm F) (hop : o ≠ p) : FitC ⟨F, ss, G⟩ ↔ ¬ Reach (Edge F ss) p o := by
  rw [← acyc_add (edge_in hS.ovr) (hold_acyc hF hS.ovr hH) ho hp hop]
  refine fit_edges (c := ⟨F, ss, G⟩) (fun m n => ?_) fun t ht => not_bare hF (hS.ovr t ht)
  rw [edgeC_iff]
  refine or_congr Iff.rfl ?_
  show Fa.before m n ∈ G ↔ _
  rw [hG]
  constructor
  · rintro (h | h)
    · obtain ⟨x, hx, e⟩ := List.mem_map.mp h
      cases e
    · injection h with h1 h2
      exact ⟨h1, h2⟩
  · rintro ⟨rfl, rfl⟩
    exact .inr rfl
end K77
set_option maxHeartbeats 1000000
/-! with_telling, with_fact. -/
namespace K77
open PySem PySem.Spec PyProof.Rows L2 Evl
theorem ok_te (n : Nat) (t : Si) : okD (n + 1) (teD t) := ok_tup (by simp) fun d hd => by
  rcases List.mem_cons.mp hd with e | hd
  · rw [e]; exact ok_int _ _
  · rcases List.mem_cons.mp hd with e | hd
    · rw [e]; exact ok_int _ _
    · rw [List.mem_singleton.mp hd]; exact ok_str _ _
theorem ok_fa (n : Nat) : ∀ f : Fa, okD (n + 1) (faD f)
  | .there x => ok_tup (by simp) fun d hd => by
    rcases List.mem_cons.mp hd with e | hd
    · rw [e]; exact ok_str _ _
    · rcases List.mem_cons.mp hd with e | hd
      · rw [e]; exact ok_int _ _
      · rw [List.mem_singleton.mp hd]; exact ok_str _ _
  | .before a b => ok_tup (by simp) fun d hd => by
    rcases List.mem_cons.mp hd with e | hd
    · rw [e]; exact ok_str _ _
    · rcases List.mem_cons.mp hd with e | hd
      · rw [e]; exact ok_str _ _
      · rw [List.mem_singleton.mp hd]; exact ok_str _ _
theorem ok_cs {c : Cs} (h : COk c) : okD 4 (csD c) := okD_succ (ok_tup (by simp) fun d hd => by
  have hf := h.fen.few
  have h1 := h.few
  have h2 := h.fewF
  simp only [List.mem_cons, List.not_mem_nil, or_false] at hd
  rcases hd with rfl | rfl | rfl | rfl
  · exact ok_map (by omega) fun b _ => ok_b 0 b
  · exact ok_int _ _
  · exact ok_map (by omega) fun t _ => ok_te 0 t
  · exact ok_map (by omega) fun t _ => ok_fa 0 t)
section
variable {P : Program} {w : World} {K : PySem.W.Frag} {mg : Str → Option Value} {base : Heap}
/-! check_photo, check_names -/
-- 0 photos, 1 photo
theorem sc_check_photo : FnScope ["photos", "photo"] ["photos", "photo"] (defScope s_check_photo) := C8.fnScope_by (by decide +kernel)
theorem c_check_photo (T : Txt K mg) : C8.Cal P w K mg base 1 "check_photo" (spD K (fun _ : Unit => [.int 1, .int 0]) (fun _ => True) fun _ => .none) [] := by
  refine cal_of T.d_check_photo (fun _ _ _ _ _ _ us hu => by match us, hu with | [_, _], _ => rfl) sc_check_photo (spD_len fun _ => rfl) fun f cdv A outer s H vs Q E hr h => ?_
  obtain ⟨_, _, hd, gv⟩ := h
  obtain ⟨v, u, rfl, hv, hu⟩ := dts2 hd
  refine ⟨_, (pss_one (ps_if (pt_not (pt_chain op_le op_lt pe_int (pv 1) (pv 0))) (pss_one ps_never) pss_nil)), ?_⟩
  exact s_when (b := false) (et_is (et_not (g_test (g_chainI (K := K) (g := fun i j => decide (i ≤ j)) (g' := fun i j => decide (i < j)) g_int (g_var rfl hu) (g_var rfl hv)))) rfl) (fun h => nomatch h) fun _ H1 e1 => gv .non H1 e1 .non
-- 0 fence, 1 some, 2 here, 3 name
theorem sc_check_names : FnScope ["fence", "some", "here", "name"] ["fence", "some"] (defScope s_check_names) := C8.fnScope_by (by decide +kernel)
theorem c_check_names (T : Txt K mg) : C8.Cal P w K mg base 2 "check_names" (spD K (fun p : Fence × List Str => [fD p.1, strsD p.2]) (fun p => p.1.length ≤ 100 ∧ ∀ x ∈ p.2, x ∈ nm p.1) fun _ => .none) [] := by
  refine cal_of T.d_check_names (fun _ _ _ _ _ _ us hu => by match us, hu with | [_, _], _ => rfl) sc_check_names (spD_len fun _ => rfl) fun f cdv A outer s H vs Q E hr h => ?_
  obtain ⟨⟨F, xs⟩, ⟨hF, hx⟩, hd, gv⟩ := h
  dsimp only at hF hx hd gv
  obtain ⟨v, u, rfl, hv, hu⟩ := dts2 hd
  refine ⟨_, (pss_cons (ps_set (i := 2) sc_check_names.nd rfl (by first | exact Or.inl rfl | exact Or.inr rfl) (C8.pe_c (c_names T) hr (by decide) (by rfl) (pa_cons (pv 0) pa_nil)))
  (pss_one (ps_for PassesOwn.never rfl (k_piT K rfl (pv 1)) (pg_name (i := 3) sc_check_names.nd rfl (by first | exact Or.inl rfl | exact Or.inr rfl)) (pss_one (ps_if (pt_cmpR (k_notIn K rfl) (pv 3) (pv 2) (by rfl)) (pss_one ps_never) pss_nil))))), ?_⟩
  refine q_asgD (g_call (a_cons (g_var rfl hv) a_nil) (spD_use F hF)) fun v1 H1 e1 h1 => ?_
  refine s_forI (iv_tup (xs := xs) (enc := PyData.str) (g_var rfl (hu.ex e1))) (fun H2 i σ' H' => Ex H2 H' ∧ ∃ a, σ' = [some v, some u, some v1, a]) (fun H2 e2 => ⟨Ex.refl _, none, rfl⟩) (fun H2 i σ' H' _ h => TLe.ex h.1) (fun H2 i x v2 σ' H' H3 e2 hi ⟨ex, a, hσ⟩ e3 h2 => ?_) fun H2 σ' H' e2 ⟨ex, _⟩ => gv .non H' ((e1.trans e2).trans ex) .non
  subst hσ
  refine s_when (b := false) (et_is (g_test (g_notInT (xs := nm F) (g_var rfl h2) (g_var rfl (h1.ex ((e2.trans ex).trans e3))))) ?_) (fun h => nomatch h) fun _ H4 e4 => ⟨(ex.trans e3).trans e4, _, rfl⟩
  rw [decide_eq_true (hx x (List.mem_of_getElem? hi))]
  rfl
/-! with_telling -/
def TellRes (p : Cs × Int × Str) (d : PyData) : Prop := ∃ T : List Si, d = csD ⟨p.1.F, T, p.1.facts⟩ ∧ (∀ t, t ∈ T ↔ t ∈ p.1.told ∨ t = (p.2.1, p.2.2)) ∧ T.length ≤ p.1.told.length + 1
def keyT (t : Si) : TKy := [.inl 0, .inl t.1, .inr t.2]
-- 0 case, 1 photo, 2 cell, 3 seen, 4 fence, 5 photos, 6 told, 7 facts
theorem sc_with_telling : FnScope ["case", "photo", "cell", "seen", "fence", "photos", "told", "facts"] ["case", "photo", "cell", "seen"] (defScope s_with_telling) := C8.fnScope_by (by decide +kernel)
theorem c_with_telling (T : Txt K mg) : C8.Cal P w K mg base 7 "with_telling" (spR K (fun p : Cs × Int × Str => [csD p.1, .int 0, .int p.2.1, .str p.2.2]) (fun p => COk p.1 ∧ (p.2.2 = "-" ∨ p.2.2 ∈ ov p.1.F p.2.1)) TellRes) [] := by
  refine cal_of T.d_with_telling (fun _ _ _ _ _ _ us hu => by match us, hu with | [_, _, _, _], _ => rfl) sc_with_telling (spR_len fun _ => rfl) fun f cdv A outer s H vs Q E hr h => ?_
  obtain ⟨⟨c, cell, x⟩, ⟨hC, hx⟩, hd, gv⟩ := h
  dsimp only at hC hx hd gv
  obtain ⟨v, u, y, z, rfl, hv, hu, hy, hz⟩ := dts4 hd
  have hf := hC.fen.few
  have h100 : c.F.length ≤ 100 := by omega
  have hl1 := hC.few
  refine ⟨_, (pss_cons (ps_asg (C8.pe_c (c_tupled T) hr (by decide) (by rfl) (pa_cons (pv 0) pa_nil)) (k_gT K 4 rfl rfl (pgs_cons (pg_name (i := 4) sc_with_telling.nd rfl (by first | exact Or.inl rfl | exact Or.inr rfl)) (pgs_cons (pg_name (i := 5) sc_with_telling.nd rfl (by first | exact Or.inl rfl | exact Or.inr rfl)) (pgs_cons (pg_name (i := 6) sc_with_telling.nd rfl (by first | exact Or.inl rfl | exact Or.inr rfl)) (pgs_cons (pg_name (i := 7) sc_with_telling.nd rfl (by first | exact Or.inl rfl | exact Or.inr rfl)) pgs_nil))))))
  (pss_cons (ps_expr (C8.pe_c (c_check_photo T) hr (by decide) (by rfl) (pa_cons (pv 5) (pa_cons (pv 1) pa_nil))))
  (pss_cons (ps_if (pt_cmpR op_ne (pv 3) (pe_gs T.g_BARE (by rfl)) (nomark _)) (pss_cons (ps_expr (C8.pe_c (c_check_names T) hr (by decide) (by rfl) (pa_cons (pv 4) (pa_cons (pe_tup (pa_cons (pv 3) pa_nil)) pa_nil))))
  (pss_one (ps_if (pt_cmpR (k_notIn K rfl) (pv 3) (C8.pe_c (c_over T) hr (by decide) (by rfl) (pa_cons (pv 4) (pa_cons (pv 2) pa_nil))) (by rfl)) (pss_one ps_never) pss_nil))) pss_nil)
  (pss_one (ps_ret (pe_tup (pa_cons (pv 4) (pa_cons (pv 5) (pa_cons (pe_callTy (k_tupOf K rfl) (by rfl) T.z_tuple (by decide +kernel) (pa_cons (k_ss K rfl (by rfl) hr.units (by rfl) T.z_sorted (by rfl) T.z_set (pe_lst (k_star K rfl (pv 6) (pa_cons (pe_tup (pa_cons (pv 1) (pa_cons (pv 2) (pa_cons (pv 3) pa_nil)))) pa_nil)))) pa_nil)) (pa_cons (pv 7) pa_nil)))))))))), ?_⟩
  refine (g_call (a_cons (g_var rfl hv) a_nil) (spD_use (csD c) (ok_cs hC)) : ED K _ _ H (csD c)) H (Ex.refl H) _ fun v1 H1 e1 h1 => ?_
  refine g_t4 h1 fun a1 a2 a3 a4 g1 g2 g3 g4 => ?_
  refine q_dropD (g_call (a_cons (g_var rfl g2) (a_cons (g_var rfl (hu.ex e1)) a_nil)) (spD_use () trivial)) fun H2 e2 => ?_
  have ee := e1.trans e2
  refine q_whenE (b := !decide (x = "-")) (g_test (g_neS (K := K) (g_var rfl (hz.ex ee)) g_str)) (fun hb H3 e3 nx hnx => ?_) fun H3 e3 => ?_
  · have hxo : x ∈ ov c.F cell := hx.resolve_left (by simpa using hb)
    have e23 := e2.trans e3
    refine q_dropD (D := { nx := nx, rt := Q }) (g_call (a_cons (g_var rfl (g1.ex e23)) (a_cons (g_tup (a_cons (g_var rfl (hz.ex (ee.trans e3))) a_nil) (by simp)) a_nil)) (spD_use (c.F, [x]) ⟨h100, fun y hy => by rw [List.mem_singleton.mp hy]; exact ov_nm hxo⟩)) fun H4 e4 => ?_
    refine s_when (b := false) (et_is (g_test (g_notInT (xs := ov c.F cell) (g_var rfl (hz.ex ((ee.trans e3).trans e4))) (g_call (a_cons (g_var rfl (g1.ex (e23.trans e4))) (a_cons (g_var rfl (hy.ex ((ee.trans e3).trans e4))) a_nil)) (spD_use (c.F, cell) h100)))) ?_) (fun h => nomatch h) fun _ H5 e5 => hnx H5 (e4.trans e5)
    rw [decide_eq_true hxo]
    rfl
  · have e23 := e2.trans e3
    have ee3 := ee.trans e3
    refine s_retR (r_tup (ear_D (g_var rfl (g1.ex e23)) (ear_D (g_var rfl (g2.ex e23)) (ear_R (r_tupleOf (r_tSS (ds := (c.told ++ [(cell, x)]).map teD) (EL.toS ((l_lst (a_star (g_var rfl (g3.ex e23)) (a_cons (g_tup (a_cons (g_var rfl (hu.ex ee3)) (a_cons (g_var rfl (hy.ex ee3)) (a_cons (g_var rfl (hz.ex ee3)) a_nil))) (by simp)) a_nil)) ?_).is ?_)) ?_ ?_)) (ear_of (a_cons (g_var rfl (g4.ex e23)) a_nil))))) ?_) fun v2 H4 d e4 h4 ⟨ds, hds, r1, e1', r2, e2', d3, r3, e3', ⟨es, hes, R⟩, e4'⟩ => ?_
    · rw [List.length_append, List.length_map]; simp; omega
    · rw [List.map_append]; rfl
    · rw [List.length_map, List.length_append]; simp; omega
    · refine .inr ⟨(c.told ++ [(cell, x)]).map keyT, by rw [List.map_map]; rfl, fun j hj k hk => ?_⟩
      obtain ⟨p, _, rfl⟩ := List.mem_map.mp hj
      obtain ⟨q, _, rfl⟩ := List.mem_map.mp hk
      exact ⟨by simp [keyT], by simp [keyT], rfl, fun _ => ⟨rfl, fun _ => ⟨rfl, fun _ => trivial⟩⟩⟩
    · rintro ds ⟨r1, rfl, r2, rfl, d3, r3, rfl, _, rfl⟩
      simp
    · subst e4' e3' e2' e1' hds hes
      obtain ⟨T, rfl⟩ := all_of (enc := teD) fun d hd => by
        obtain ⟨t, _, rfl⟩ := List.mem_map.mp ((R.mem d).mp hd)
        exact ⟨t, rfl⟩
      refine gv v2 H4 _ (ee3.trans e4) h4 ⟨T, rfl, fun t => ?_, ?_⟩
      · have := R.mem (teD t)
        rw [List.mem_map, List.mem_map] at this
        constructor
        · intro ht
          obtain ⟨y, hy, e⟩ := this.mp ⟨t, ht, rfl⟩
          rw [teD_inj e] at hy
          rcases List.mem_append.mp hy with h | h
          · exact .inl h
          · exact .inr (List.mem_singleton.mp h)
        · intro ht
          obtain ⟨y, hy, e⟩ := this.mpr ⟨t, List.mem_append.mpr (ht.imp id List.mem_singleton.mpr), rfl⟩
          rwa [teD_inj e] at hy
      · have := R.len
        rw [List.length_map, List.length_map, List.length_append] at this
        exact this
/-! with_fact -/
def FactRes (p : Cs × Str × Str) (d : PyData) : Prop := ∃ G : List Fa, d = csD ⟨p.1.F, p.1.told, G⟩ ∧ (∀ f, f ∈ G ↔ f ∈ p.1.facts ∨ f = .before p.2.1 p.2.2) ∧ G.length ≤ p.1.facts.length + 1
def keyF : Fa → TKy
  | .there n => [.inr "there", .inl 0, .inr n]
  | .before a b => [.inr "before", .inr a, .inr b]
theorem keyF_enc (f : Fa) : encT (keyF f) = faD f := by cases f <;> rfl
theorem keyF_cmp : ∀ f g : Fa, cmpT (keyF f) (keyF g)
  | .there n, .there m => ⟨by simp [keyF], by simp [keyF], rfl, fun _ => ⟨rfl, fun _ => ⟨rfl, fun _ => trivial⟩⟩⟩
  | .before a b, .before c d => ⟨by simp [keyF], by simp [keyF], rfl, fun _ => ⟨rfl, fun _ => ⟨rfl, fun _ => trivial⟩⟩⟩
  | .there n, .before c d => ⟨by simp [keyF], by simp [keyF], rfl, fun e => absurd e (by decide)⟩
  | .before a b, .there n => ⟨by simp [keyF], by simp [keyF], rfl, fun e => absurd e (by decide)⟩
-- 0 case, 1 fact, 2 own, 3 fence, 4 photos, 5 told, 6 facts
theorem sc_with_fact : FnScope ["case", "fact", "own", "fence", "photos", "told", "facts"] ["case", "fact"] (defScope s_with_fact) := C8.fnScope_by (by decide +kernel)
theorem c_with_fact (T : Txt K mg) : C8.Cal P w K mg base 7 "with_fact" (spR K (fun p : Cs × Str × Str => [csD p.1, faD (.before p.2.1 p.2.2)]) (fun p => COk p.1 ∧ p.2.1 ∈ nm p.1.F ∧ p.2.2 ∈ nm p.1.F) FactRes) [] := by
  refine cal_of T.d_with_fact (fun _ _ _ _ _ _ us hu => by match us, hu with | [_, _], _ => rfl) sc_with_fact (spR_len fun _ => rfl) fun f cdv A outer s H vs Q E hr h => ?_
  obtain ⟨⟨c, o, p⟩, ⟨hC, ho, hp⟩, hd, gv⟩ := h
  dsimp only at hC ho hp hd gv
  obtain ⟨v, u, rfl, hv, hu⟩ := dts2 hd
  have hf := hC.fen.few
  have h100 : c.F.length ≤ 100 := by omega
  have hl1 := hC.fewF
  refine ⟨_, (pss_cons (ps_asg (C8.pe_c (c_tupled T) hr (by decide) (by rfl) (pa_cons (pv 0) pa_nil)) (k_gT K 4 rfl rfl (pgs_cons (pg_name (i := 3) sc_with_fact.nd rfl (by first | exact Or.inl rfl | exact Or.inr rfl)) (pgs_cons (pg_name (i := 4) sc_with_fact.nd rfl (by first | exact Or.inl rfl | exact Or.inr rfl)) (pgs_cons (pg_name (i := 5) sc_with_fact.nd rfl (by first | exact Or.inl rfl | exact Or.inr rfl)) (pgs_cons (pg_name (i := 6) sc_with_fact.nd rfl (by first | exact Or.inl rfl | exact Or.inr rfl)) pgs_nil))))))
  (pss_cons (ps_set (i := 2) sc_with_fact.nd rfl (by first | exact Or.inl rfl | exact Or.inr rfl) (C8.pe_c (c_tupled T) hr (by decide) (by rfl) (pa_cons (pv 1) pa_nil)))
  (pss_cons (ps_if (pt_cmpR op_ne (pe_ix (k_ixT K rfl) (pv 2) pe_int (fun _ _ => rfl)) (pe_gs T.g_BEFORE (by rfl)) (nomark _)) (pss_one (ps_expr (C8.pe_c (c_check_photo T) hr (by decide) (by rfl) (pa_cons (pv 4) (pa_cons (pe_ix (k_ixT K rfl) (pv 2) pe_int (fun _ _ => rfl)) pa_nil))))) pss_nil)
  (pss_cons (ps_expr (C8.pe_c (c_check_names T) hr (by decide) (by rfl) (pa_cons (pv 3) (pa_cons (pe_ifExp (pt_cmpR op_eq (pe_ix (k_ixT K rfl) (pv 2) pe_int (fun _ _ => rfl)) (pe_gs T.g_BEFORE (by rfl)) (nomark _)) (pe_slice (k_slT K rfl) (pv 2) (po_some pe_int) po_none) (pe_slice (k_slT K rfl) (pv 2) (po_some pe_int) po_none)) pa_nil))))
  (pss_one (ps_ret (pe_tup (pa_cons (pv 3) (pa_cons (pv 4) (pa_cons (pv 5) (pa_cons (pe_callTy (k_tupOf K rfl) (by rfl) T.z_tuple (by decide +kernel) (pa_cons (k_ss K rfl (by rfl) hr.units (by rfl) T.z_sorted (by rfl) T.z_set (pe_lst (k_star K rfl (pv 6) (pa_cons (pv 2) pa_nil)))) pa_nil)) pa_nil))))))))))), ?_⟩
  refine (g_call (a_cons (g_var rfl hv) a_nil) (spD_use (csD c) (ok_cs hC)) : ED K _ _ H (csD c)) H (Ex.refl H) _ fun v1 H1 e1 h1 => ?_
  refine g_t4 h1 fun a1 a2 a3 a4 g1 g2 g3 g4 => ?_
  refine q_asgD (g_call (a_cons (g_var rfl (hu.ex e1)) a_nil) (spD_use (faD (.before o p)) (okD_succ (okD_succ (okD_succ (ok_fa 0 _)))))) fun v2 H2 e2 h2 => ?_
  refine q_when (b := false) (et_is (g_test (g_neS (g_ixk (k := 0) (g_var rfl h2) rfl) g_str)) (by decide)) (fun h => nomatch h) fun _ H3 e3 => ?_
  refine q_dropD (g_call (a_cons (g_var rfl (g1.ex (e2.trans e3))) (a_cons ((g_if (b := true) (et_is (g_test (g_eqS (g_ixk (k := 0) (g_var rfl (h2.ex e3)) rfl) g_str)) (by decide)) (fun _ => g_slT (g_var rfl (h2.ex e3)) (eo_some ev_c) eo_none) (fun h => nomatch h)).is ?_) a_nil)) (spD_use (c.F, [o, p]) ⟨h100, fun y hy => ?_⟩)) fun H4 e4 => ?_
  · show PyData.tuple (cutD [.str "before", .str o, .str p] (some ((1 : Nat) : Int)) none) = _
    rw [cutD_from]
    rfl
  · rcases List.mem_cons.mp hy with e | hy
    · rw [e]; exact ho
    · rw [List.mem_singleton.mp hy]; exact hp
  · have e24 := e2.trans (e3.trans e4)
    refine s_retR (r_tup (ear_D (g_var rfl (g1.ex e24)) (ear_D (g_var rfl (g2.ex e24)) (ear_D (g_var rfl (g3.ex e24)) (ear_R (r_tupleOf (r_tSS (ds := (c.facts ++ [Fa.before o p]).map faD) (EL.toS ((l_lst (a_star (g_var rfl (g4.ex e24)) (a_cons (g_var rfl (h2.ex (e3.trans e4))) a_nil)) ?_).is ?_)) ?_ ?_)) (ear_of a_nil))))) ?_) fun v2 H5 d e5 h5 ⟨ds, hds, r1, e1', r2, e2', r3, e3', d4, r4, e4', ⟨es, hes, R⟩, e5'⟩ => ?_
    · rw [List.length_append, List.length_map]; simp; omega
    · rw [List.map_append]; rfl
    · rw [List.length_map, List.length_append]; simp; omega
    · refine .inr ⟨(c.facts ++ [Fa.before o p]).map keyF, ?_, fun j hj k hk => ?_⟩
      · rw [List.map_map]
        exact List.map_congr_left fun f _ => (keyF_enc f).symm
      · obtain ⟨p, _, rfl⟩ := List.mem_map.mp hj
        obtain ⟨q, _, rfl⟩ := List.mem_map.mp hk
        exact keyF_cmp p q
    · rintro ds ⟨r1, rfl, r2, rfl, r3, rfl, d4, r4, rfl, _, rfl⟩
      simp
    · subst e5' e4' e3' e2' e1' hds hes
      obtain ⟨G, rfl⟩ := all_of (enc := faD) fun d hd => by
        obtain ⟨t, _, rfl⟩ := List.mem_map.mp ((R.mem d).mp hd)
        exact ⟨t, rfl⟩
      refine gv v2 H5 _ (e1.trans (e24.trans e5)) h5 ⟨G, rfl, fun t => ?_, ?_⟩
      · have := R.mem (faD t)
        rw [List.mem_map, List.mem_map] at this
        constructor
        · intro ht
          obtain ⟨y, hy, e⟩ := this.mp ⟨t, ht, rfl⟩
          rw [faD_inj e] at hy
          rcases List.mem_append.mp hy with h | h
          · exact .inl h
          · exact .inr (List.mem_singleton.mp h)
        · intro ht
          obtain ⟨y, hy, e⟩ := this.mpr ⟨t, List.mem_append.mpr (ht.imp id List.mem_singleton.mpr), rfl⟩
          rwa [faD_inj e] at hy
      · have := R.len
        rw [List.length_map, List.length_map, List.length_append] at this
        exact this
end
end K77
set_option maxHeartbeats 1000000
/-! forced, settled. -/
namespace K77
open PySem PySem.Spec PyProof.Rows L2 Evl
abbrev Tr := Str × Int × PyData
def trD (t : Tr) : PyData := .tuple [.str t.1, .int t.2.1, t.2.2]
def frT (F : Fence) (sl : Str → Int) (t : Si) : List Tr := if t.2 = "-" then [] else (t.2, 0, teD t) :: ((ov F t.1).filter fun o => !decide (o = t.2) && decide (sl o ≤ 0)).map fun o => (o, sl t.2, teD t)
def frF (sl : Str → Int) : Fa → List Tr
  | .there n => [(n, 0, faD (.there n))]
  | .before a b => [(a, sl b, faD (.before a b))]
def frL (c : Cs) (sl : Str → Int) : List Tr := c.told.flatMap (frT c.F sl) ++ c.facts.flatMap (frF sl)
theorem flat_succ {α β : Type} {f : α → List β} {xs : List α} {i : Nat} {x : α} (h : xs[i]? = some x) : (xs.take (i + 1)).flatMap f = (xs.take i).flatMap f ++ f x := by
  rw [List.take_add_one, h, Option.toList_some, List.flatMap_append, List.flatMap_singleton]
theorem frT_len (F : Fence) (sl : Str → Int) (t : Si) : (frT F sl t).length ≤ F.length + 1 := by
  unfold frT
  split
  · exact Nat.zero_le _
  · rw [List.length_cons, List.length_map]
    have h1 := List.length_filter_le (fun o => !decide (o = t.2) && decide (sl o ≤ 0)) (ov F t.1)
    have h2 := ov_len F t.1
    omega
theorem frF_len (sl : Str → Int) (f : Fa) : (frF sl f).length ≤ 1 := by cases f <;> exact Nat.le_refl _
theorem frL_len {c : Cs} (h : COk c) (sl : Str → Int) : (frL c sl).length ≤ 70 := by
  unfold frL
  have h1 := flat_len (f := frT c.F sl) (n := 6) c.told fun t _ => by have := frT_len c.F sl t; have := h.fen.few; omega
  have h2 := flat_len (f := frF sl) (n := 1) c.facts fun f _ => frF_len sl f
  have h3 := h.few
  have h4 := h.fewF
  rw [List.length_append]
  omega
section
variable {P : Program} {w : World} {K : PySem.W.Frag} {mg : Str → Option Value} {base : Heap}
def spForced (K : PySem.W.Frag) : Sp := fun vs H Q _ => ∃ (c : Cs) (sl : Str → Int) (ps : Addr) (kvs : List (Key × V)) (v : V), COk c ∧ vs = [v, .ref ps] ∧ Dt K H v (csD c) ∧ H ps = some (.dK kvs) ∧ DD K (fun n => .int (sl n)) H kvs (nm c.F) ∧
  ∀ p xs H2, H p = none → Ex H H2 → H2 p = some (.lst xs) → Dts K H2 xs ((frL c sl).map trD) → Q (.ref p) H2
-- 0 case, 1 slots, 2 found, 3 part, 4 fence, 5 photos, 6 told, 7 facts, 8 photo, 9 cell, 10 seen, 11 own
theorem sc_forced : FnScope ["case", "slots", "found", "part", "fence", "photos", "told", "facts", "photo", "cell", "seen", "own"] ["case", "slots"] (defScope s_forced) := C8.fnScope_by (by decide +kernel)
theorem c_forced (T : Txt K mg) : C8.Cal P w K mg base 2 "forced" (spForced K) [] := by
  refine cal_of T.d_forced (fun _ _ _ _ _ _ us hu => by match us, hu with | [_, _], _ => rfl) sc_forced (fun vs H Q E h => by obtain ⟨_, _, _, _, _, _, rfl, _⟩ := h; rfl) fun f cdv A outer s H vs Q E hr h => ?_
  obtain ⟨c, sl, ps, kvs, v, hC, rfl, hv, hps, hD, gv⟩ := h
  have hf := hC.fen.few
  have h100 : c.F.length ≤ 100 := by omega
  have hl1 := hC.few
  have hl2 := hC.fewF
  refine ⟨_, (pss_cons (ps_asg (pv 0) (k_gT K 4 rfl rfl (pgs_cons (pg_name (i := 4) sc_forced.nd rfl (by first | exact Or.inl rfl | exact Or.inr rfl)) (pgs_cons (pg_name (i := 5) sc_forced.nd rfl (by first | exact Or.inl rfl | exact Or.inr rfl)) (pgs_cons (pg_name (i := 6) sc_forced.nd rfl (by first | exact Or.inl rfl | exact Or.inr rfl)) (pgs_cons (pg_name (i := 7) sc_forced.nd rfl (by first | exact Or.inl rfl | exact Or.inr rfl)) pgs_nil))))))
  (pss_cons (ps_set (i := 2) sc_forced.nd rfl (by first | exact Or.inl rfl | exact Or.inr rfl) (pe_lst pa_nil))
  (pss_cons (ps_for PassesOwn.never rfl (k_piT K rfl (pv 6)) (pg_name (i := 3) sc_forced.nd rfl (by first | exact Or.inl rfl | exact Or.inr rfl)) (pss_cons (ps_asg (pv 3) (k_gT K 3 rfl rfl (pgs_cons (pg_name (i := 8) sc_forced.nd rfl (by first | exact Or.inl rfl | exact Or.inr rfl)) (pgs_cons (pg_name (i := 9) sc_forced.nd rfl (by first | exact Or.inl rfl | exact Or.inr rfl)) (pgs_cons (pg_name (i := 10) sc_forced.nd rfl (by first | exact Or.inl rfl | exact Or.inr rfl)) pgs_nil)))))
  (pss_cons (ps_if (pt_cmpR op_eq (pv 10) (pe_gs T.g_BARE (by rfl)) (nomark _)) (pss_one ps_continue) pss_nil)
  (pss_cons (ps_expr (pe_bm PySem.F.plainAttrs_list PySem.F.slot_list_append PySem.F.type_list_append mt_append (pv 2) (pa_cons (pe_tup (pa_cons (pv 10) (pa_cons (pv 8) (pa_cons (pv 3) pa_nil)))) pa_nil)))
  (pss_one (ps_expr (pe_bm PySem.F.plainAttrs_list PySem.F.slot_list_extend PySem.F.type_list_extend mt_extend (pv 2) (pa_cons (pe_lc (own := [("own", 11)]) rfl sc_forced.nd (k_piT K rfl (C8.pe_c (c_over T) hr (by decide) (by rfl) (pa_cons (pv 4) (pa_cons (pv 9) pa_nil)))) (blkOk_by (by kernel_rfl)) (fun _ _ _ _ _ => (pg_name (i := 11) sc_forced.nd rfl (by first | exact Or.inl rfl | exact Or.inr rfl))) (fun _ _ _ _ _ => (pts_one (PW.pt (pw_and (pt_cmpR op_ne (pv 11) (pv 10) (nomark _)) (pw_and1 (pt_cmpR op_le (pe_dget (hu_of hr) (pv 1) (pv 11) (fun _ _ => rfl)) (pv 8) (nomark _))))))) (fun _ _ _ _ _ => (pe_tup (pa_cons (pv 11) (pa_cons (pe_dget (hu_of hr) (pv 1) (pv 10) (fun _ _ => rfl)) (pa_cons (pv 3) pa_nil)))))) pa_nil))))))))
  (pss_cons (ps_for PassesOwn.never rfl (k_piT K rfl (pv 7)) (pg_name (i := 3) sc_forced.nd rfl (by first | exact Or.inl rfl | exact Or.inr rfl)) (pss_one (ps_if (pt_cmpR op_eq (pe_ix (k_ixT K rfl) (pv 3) pe_int (fun _ _ => rfl)) (pe_gs T.g_THERE (by rfl)) (nomark _)) (pss_one (ps_expr (pe_bm PySem.F.plainAttrs_list PySem.F.slot_list_append PySem.F.type_list_append mt_append (pv 2) (pa_cons (pe_tup (pa_cons (pe_ix (k_ixT K rfl) (pv 3) pe_int (fun _ _ => rfl)) (pa_cons (pe_ix (k_ixT K rfl) (pv 3) pe_int (fun _ _ => rfl)) (pa_cons (pv 3) pa_nil)))) pa_nil)))) (pss_one (ps_if (pt_cmpR op_eq (pe_ix (k_ixT K rfl) (pv 3) pe_int (fun _ _ => rfl)) (pe_gs T.g_BEFORE (by rfl)) (nomark _)) (pss_one (ps_expr (pe_bm PySem.F.plainAttrs_list PySem.F.slot_list_append PySem.F.type_list_append mt_append (pv 2) (pa_cons (pe_tup (pa_cons (pe_ix (k_ixT K rfl) (pv 3) pe_int (fun _ _ => rfl)) (pa_cons (pe_dget (hu_of hr) (pv 1) (pe_ix (k_ixT K rfl) (pv 3) pe_int (fun _ _ => rfl)) (fun _ _ => rfl)) (pa_cons (pv 3) pa_nil)))) pa_nil)))) pss_nil)))))
  (pss_one (ps_ret (pv 2))))))), ?_⟩
  refine q_asgN4 (g_var rfl hv) fun a1 a2 a3 a4 H1 e1 g1 g2 g3 g4 => ?_
  refine q_asgN (K := K) (l_lst a_nil (by simp)) fun pf xs H2 hpf e2 hlf hxf => ?_
  obtain rfl : xs = [] := by cases hxf; rfl
  have ne : ps ≠ pf := fun e => by rw [← e, e1 _ _ hps] at hpf; cases hpf
  have hpf0 : H pf = none := fresh_back e1 hpf
  refine q_forI (iv_tup (xs := c.told) (enc := teD) (g_var rfl (g3.ex e2))) (fun H3 i σ' H' => TLe K H3 H' ∧ Ex H1 H' ∧ (∃ x y z u, σ' = [some v, some (.ref ps), some (.ref pf), x, some a1, some a2, some a3, some a4, y, z, u, none]) ∧ ∃ zs, H' pf = some (.lst zs) ∧ Dts K H' zs (((c.told.take i).flatMap (frT c.F sl)).map trD))
    (fun H3 e3 => ⟨TLe.refl, e2.trans e3, ⟨none, none, none, none, rfl⟩, [], e3 _ _ hlf, .nil⟩) (fun H3 i σ' H' _ h => h.1) (fun H3 i x v1 σ' H' H4 e3 hx ⟨t, ex, ⟨b1, b2, b3, b4, hσ⟩, zs, hz, hzd⟩ e4 hr => ?_) fun H3 σ' H' e3 ⟨t, ex, ⟨b1, b2, b3, b4, hσ⟩, zs, hz, hzd⟩ => ?_
  · subst hσ
    obtain ⟨cell, n⟩ := x
    have x4 : Ex H1 H4 := ex.trans e4
    have t4 : TLe K H3 H4 := t.trans (TLe.ex e4)
    refine q_asgN3 (a := .int 0) (b := .int cell) (c := .str n) (g_var rfl hr) fun c1 c2 c3 H5 e5 k1 k2 k3 => ?_
    refine q_when (b := decide (n = "-")) (g_test (g_eqS (K := K) (g_var rfl k3) g_str)) (fun hb H6 e6 => ?_) fun hb H6 e6 => ?_
    · have e46 := e4.trans (e5.trans e6)
      refine ⟨t.trans (TLe.ex e46), ex.trans e46, ⟨_, _, _, _, rfl⟩, zs, e46 _ _ hz, ?_⟩
      rw [flat_succ hx]
      unfold frT
      rw [if_pos (of_decide_eq_true hb), List.append_nil]
      exact hzd.ex e46
    · have hn : n ≠ "-" := of_decide_eq_false hb
      have hno : n ∈ ov c.F cell := (hC.ovr _ (List.mem_of_getElem? hx)).resolve_left hn
      have e46 := e4.trans (e5.trans e6)
      have x6 : Ex H1 H6 := ex.trans e46
      have hr6 := hr.ex (e5.trans e6)
      refine q_appD (d := trD (n, 0, teD (cell, n))) (e46 _ _ hz) (ev_var rfl) (g_tup (a_cons (g_var rfl (k3.ex e6)) (a_cons (g_var rfl (k1.ex e6)) (a_cons (g_var rfl hr6) a_nil))) (by simp)) ?_ fun w1 H7 e7 hw1 => ?_
      · rw [hzd.length, List.length_map]
        have := flat_len (f := frT c.F sl) (n := 6) (c.told.take i) fun t _ => by have := frT_len c.F sl t; omega
        rw [List.length_take] at this
        omega
      · have q7 := e7 _ _ (e46 _ _ hz)
        have t7 : TLe K H7 (upd H7 pf (.lst (zs ++ [w1]))) := TLe.lst q7
        have x7 : Ex H1 (upd H7 pf (.lst (zs ++ [w1]))) := Ex.mut (x6.trans e7) hpf
        have hps7 := x7 _ _ (e1 _ _ hps)
        have hD7 := hD.tle (TLe.ex (e1.trans x7))
        have g17 := g1.ex x7
        have k17 := (k1.ex (e6.trans e7)).mono t7
        have k27 := (k2.ex (e6.trans e7)).mono t7
        have k37 := (k3.ex (e6.trans e7)).mono t7
        have hr7 := (hr6.ex e7).mono t7
        have l7 : (zs ++ [w1]).length ≤ 61 := by
          rw [List.length_append, hzd.length, List.length_map]
          have := flat_len (f := frT c.F sl) (n := 6) (c.told.take i) fun t _ => by have := frT_len c.F sl t; omega
          rw [List.length_take] at this
          rw [List.length_singleton]
          omega
        refine s_extD (ds := made (fun o => !decide (o = n) && decide (sl o ≤ 0)) (fun o => trD (o, sl n, teD (cell, n))) (ov c.F cell)) upd_same (ev_var rfl) (l_lcI (xs := ov c.F cell) (fun o => !decide (o = n) && decide (sl o ≤ 0)) (fun o => trD (o, sl n, teD (cell, n))) (iv_tup (xs := ov c.F cell) (enc := PyData.str) (g_call (a_cons (g_var rfl g17) (a_cons (g_var rfl k27) a_nil)) (spD_use (c.F, cell) h100))) TLe.ex (by have := ov_len c.F cell; omega) fun o ho v3 H8 e8 h8 => ?_) ?_ fun ws H8 e8 hws => ?_
        · have dg : ∀ {m : Str} {i : Nat} {vv : V}, m ∈ nm c.F → Dt K H8 vv (.str m) → ∀ {σ : L2.St}, σ[1]? = some (some (.ref ps)) → σ[i]? = some (some vv) → ED K (tDGet (tVar 1) (tVar i)) σ H8 (.int (sl m)) := fun {m i vv} hm hvv {σ} h1 h2 => g_dget (val := fun n => .int (sl n)) (e8 _ _ hps7) (hD7.tle (TLe.ex e8)) (ev_var h1) (g_var h2 hvv) hm
          refine trn_name rfl (et_and (g_test (g_neS (g_var rfl h8) (g_var rfl (k37.ex e8)))) fun _ => g_test (g_cmpI (g := fun i j => decide (i ≤ j)) (dg (ov_nm ho) h8 rfl rfl) (g_var rfl (k17.ex e8)))) fun _ => g_tup (a_cons (g_var rfl h8) (a_cons (dg (ov_nm hno) (k37.ex e8) rfl rfl) (a_cons (g_var rfl (hr7.ex e8)) a_nil))) (by simp)
        · have := made_len (f := fun o => !decide (o = n) && decide (sl o ≤ 0)) (e := fun o => trD (o, sl n, teD (cell, n))) (xs := ov c.F cell) (ov c.F cell).length
          rw [List.take_length] at this
          have := ov_len c.F cell
          omega
        · have q8 := e8 _ _ (upd_same (H := H7) (a := pf) (o := .lst (zs ++ [w1])))
          have t8 : TLe K H8 (upd H8 pf (.lst (zs ++ [w1] ++ ws))) := TLe.lst q8
          refine ⟨(((t4.trans (TLe.ex (e5.trans (e6.trans e7)))).trans t7).trans (TLe.ex e8)).trans t8, Ex.mut (x7.trans e8) hpf, ⟨_, _, _, _, rfl⟩, _, upd_same, ?_⟩
          rw [flat_succ hx]
          have z8 : Dts K (upd H8 pf (.lst (zs ++ [w1] ++ ws))) (zs ++ [w1]) (((c.told.take i).flatMap (frT c.F sl)).map trD ++ [trD (n, 0, teD (cell, n))]) := ((((hzd.ex (e46.trans e7)).append (.cons hw1 .nil)).mono t7).ex e8).mono t8
          have z9 := z8.append (hws.mono t8)
          refine (congrArg (Dts K _ _) ?_).mp z9
          unfold frT
          rw [if_neg hn, List.map_append, List.map_cons, List.map_map, List.append_assoc]
          rfl
  · subst hσ
    rw [List.take_length] at hzd
    have l0 : (c.told.flatMap (frT c.F sl)).length ≤ 60 := by
      have := flat_len (f := frT c.F sl) (n := 6) c.told fun t _ => by have := frT_len c.F sl t; omega
      omega
    refine q_forI (iv_tup (xs := c.facts) (enc := faD) (g_var rfl (g4.ex ex))) (fun H4 i σ' H5 => TLe K H4 H5 ∧ Ex H1 H5 ∧ (∃ x y z u, σ' = [some v, some (.ref ps), some (.ref pf), x, some a1, some a2, some a3, some a4, y, z, u, none]) ∧ ∃ zs, H5 pf = some (.lst zs) ∧ Dts K H5 zs ((c.told.flatMap (frT c.F sl) ++ (c.facts.take i).flatMap (frF sl)).map trD))
      (fun H4 e4 => ⟨TLe.refl, ex.trans e4, ⟨_, _, _, _, rfl⟩, zs, e4 _ _ hz, by simpa using hzd.ex e4⟩) (fun H4 i σ' H' _ h => h.1) (fun H4 i x v1 σ' H5 H6 e4 hx ⟨t, ex5, ⟨b1, b2, b3, b4, hσ⟩, zs5, hz5, hzd5⟩ e6 hr => ?_) fun H4 σ' H5 e4 ⟨t, ex5, ⟨b1, b2, b3, b4, hσ⟩, zs5, hz5, hzd5⟩ => ?_
    · subst hσ
      have x6 : Ex H1 H6 := ex5.trans e6
      have l5 : zs5.length ≤ 70 := by
        rw [hzd5.length, List.length_map, List.length_append]
        have := flat_len (f := frF sl) (n := 1) (c.facts.take i) fun f _ => frF_len sl f
        rw [List.length_take] at this
        omega
      have fin : ∀ (d : PyData) (H7 : Hp) (w1 : V), Ex H6 H7 → Dt K H7 w1 d → (frF sl x).map trD = [d] → TLe K H4 (upd H7 pf (.lst (zs5 ++ [w1]))) ∧ Ex H1 (upd H7 pf (.lst (zs5 ++ [w1]))) ∧ ∃ zs, (upd H7 pf (.lst (zs5 ++ [w1]))) pf = some (.lst zs) ∧ Dts K (upd H7 pf (.lst (zs5 ++ [w1]))) zs ((c.told.flatMap (frT c.F sl) ++ (c.facts.take (i + 1)).flatMap (frF sl)).map trD) := fun d H7 w1 e7 hw hd => by
        have q7 := e7 _ _ (e6 _ _ hz5)
        have t7 : TLe K H7 (upd H7 pf (.lst (zs5 ++ [w1]))) := TLe.lst q7
        refine ⟨(t.trans (TLe.ex (e6.trans e7))).trans t7, Ex.mut (x6.trans e7) hpf, _, upd_same, ?_⟩
        rw [flat_succ hx, ← List.append_assoc, List.map_append, hd]
        exact ((hzd5.ex (e6.trans e7)).append (.cons hw .nil)).mono t7
      cases x with
      | there n =>
        refine s_if (b := true) (et_is (g_test (g_eqS (g_ixk (k := 0) (g_var rfl hr) rfl) (g_str (x := "there")))) (by decide)) (fun _ H7 e7 => ?_) (fun h => nomatch h)
        have hr7 := hr.ex e7
        refine s_appD (d := trD (n, 0, faD (.there n))) (e7 _ _ (e6 _ _ hz5)) (ev_var rfl) (g_tup (a_cons (g_ixk (k := 2) (g_var rfl hr7) rfl) (a_cons (g_ixk (k := 1) (g_var rfl hr7) rfl) (a_cons (g_var rfl hr7) a_nil))) (by simp)) (by omega) fun w1 H8 e8 hw1 => ?_
        obtain ⟨f1, f2, f3⟩ := fin _ H8 w1 (e7.trans e8) hw1 rfl
        exact ⟨f1, f2, ⟨_, _, _, _, rfl⟩, f3⟩
      | before a b =>
        refine s_if (b := false) (et_is (g_test (g_eqS (g_ixk (k := 0) (g_var rfl hr) rfl) (g_str (x := "there")))) (by decide)) (fun h => nomatch h) (fun _ H7 e7 => ?_)
        have hr7 := hr.ex e7
        refine s_when (b := true) (et_is (g_test (g_eqS (g_ixk (k := 0) (g_var rfl hr7) rfl) (g_str (x := "before")))) (by decide)) (fun _ H8 e8 => ?_) (fun h => nomatch h)
        have hr8 := hr7.ex e8
        have x8 := (x6.trans e7).trans e8
        have hb := (hC.bef a b (List.mem_of_getElem? hx)).2
        refine s_appD (d := trD (a, sl b, faD (.before a b))) (e8 _ _ (e7 _ _ (e6 _ _ hz5))) (ev_var rfl) (g_tup (a_cons (g_ixk (k := 1) (g_var rfl hr8) rfl) (a_cons (g_dget (val := fun n => .int (sl n)) (x8 _ _ (e1 _ _ hps)) (hD.tle (TLe.ex (e1.trans x8))) (ev_var rfl) (g_ixk (k := 2) (g_var rfl hr8) rfl) hb) (a_cons (g_var rfl hr8) a_nil))) (by simp)) (by omega) fun w1 H9 e9 hw1 => ?_
        obtain ⟨f1, f2, f3⟩ := fin _ H9 w1 ((e7.trans e8).trans e9) hw1 rfl
        exact ⟨f1, f2, ⟨_, _, _, _, rfl⟩, f3⟩
    · subst hσ
      rw [List.take_length] at hzd5
      exact s_ret (ev_var rfl) fun H6 e6 => gv pf zs5 H6 hpf0 (e1.trans (ex5.trans e6)) (e6 _ _ hz5) (hzd5.ex e6)
end
end K77
set_option maxHeartbeats 1000000
/-! settled. -/
namespace K77
open PySem PySem.Spec PyProof.Rows L2 Evl
section
variable {K : PySem.W.Frag} {σ : L2.St} {H : Hp} {D : Ends} {tz : TS}
theorem q_par3D {i j l : Nat} {t1 t2 : TE} {b : Bool} {ds : List PyData} {G : Hp → V → Prop} (h1 : GE t1 σ H G) (s1 : ∀ {H H' v}, Ex H H' → G H v → G H' v) (h2 : EL K t2 σ H ds) (k : ∀ x p xs H1, Ex H H1 → G H1 x → H p = none → H1 p = some (.lst xs) → Dts K H1 xs ds → tz D (((σ.set i (some x)).set j (some (.ref p))).set l (some (.bl b))) H1) :
    tSeq (tPar3 i j l (tCons t1 (tCons t2 (tCons (tC (.bl b)) tNil)))) tz D σ H :=
  h1 H (Ex.refl H) _ fun x H1 e1 g1 => h2 H1 e1 _ fun p xs H2 hp e2 hx hd => ⟨x, .ref p, .bl b, rfl, k x p xs H2 (e1.trans e2) (s1 e2 g1) (fresh_back e1 hp) hx hd⟩
theorem GE.is {te : TE} {G G' : Hp → V → Prop} (h : GE te σ H G) (e : ∀ H v, G H v → G' H v) : GE te σ H G' := fun H1 e1 Q q => h H1 e1 Q fun v H2 e2 g => q v H2 e2 (e _ _ g)
theorem ge_dc {wi : TI} {g : TG} {tk tv : TE} {vs : List Nat} {R : Hp → V → Str → Prop} {S : Hp → Hp → Prop} {ks : List Str} (val : Str → PyData) (h : IV wi σ H ks R S) (hS : ∀ {H H'}, Ex H H' → S H H') (hl : ks.length < 5000) (hn : ks.Nodup)
    (ht : ∀ k, k ∈ ks → ∀ v H1, Ex H H1 → R H1 v k → ∃ σ2, (∀ Q : L2.St → Hp → Prop, Q σ2 H1 → g v (wipe σ vs) H1 Q) ∧ wipe σ2 vs = wipe σ vs ∧ Ev tk σ2 H1 (.str k) ∧ ED K tv σ2 H1 (val k)) : GE (tDc wi g tYes tk tv vs) σ H (GDict K H val ks) := fun H1 e1 Q q =>
  d_dcD (K := K) val h hS hl hn ht H1 e1 Q fun p kvs H2 hp e2 hx hD => q _ H2 e2 ⟨p, kvs, rfl, fresh_back e1 hp, hx, hD⟩
end
/-- where a slot stands behind some turns -/
def slA (L : List Tr) (sl : Int) (n : Str) : Int := if L.any fun e => decide (e.1 = n) && decide (e.2.1 = 0) then 0 else sl
theorem slA_snoc {L : List Tr} {e : Tr} {sl : Int} {n : Str} : slA (L ++ [e]) sl n = if e.1 = n ∧ e.2.1 = 0 then 0 else slA L sl n := by
  unfold slA
  rw [List.any_append]
  by_cases h : e.1 = n ∧ e.2.1 = 0
  · rw [if_pos h]
    simp [h.1, h.2]
  · rw [if_neg h]
    have : ([e].any fun e => decide (e.1 = n) && decide (e.2.1 = 0)) = false := by
      rw [List.any_cons, List.any_nil, Bool.or_false]
      by_cases a : e.1 = n
      · rw [decide_eq_true a, decide_eq_false fun b => h ⟨a, b⟩]; rfl
      · rw [decide_eq_false a]; rfl
    rw [this, Bool.or_false]
theorem slA_or {L : List Tr} {sl : Int} {n : Str} : slA L sl n = 0 ∨ slA L sl n = sl := by
  unfold slA
  split
  · exact .inl rfl
  · exact .inr rfl
theorem take_succ {α : Type} {xs : List α} {i : Nat} {x : α} (h : xs[i]? = some x) : xs.take (i + 1) = xs.take i ++ [x] := by rw [List.take_add_one, h]; rfl
theorem frL_slot {c : Cs} {sl : Int} {e : Tr} (h : e ∈ frL c fun _ => sl) : e.2.1 = 0 ∨ e.2.1 = sl := by
  unfold frL at h
  rcases List.mem_append.mp h with h | h
  · obtain ⟨t, _, h⟩ := List.mem_flatMap.mp h
    unfold frT at h
    split at h
    · simp at h
    · rcases List.mem_cons.mp h with h | h
      · rw [h]; exact .inl rfl
      · obtain ⟨o, _, rfl⟩ := List.mem_map.mp h
        exact .inr rfl
  · obtain ⟨f, _, h⟩ := List.mem_flatMap.mp h
    cases f <;> (rw [frF, List.mem_singleton] at h; rw [h])
    · exact .inl rfl
    · exact .inr rfl
theorem frL_name {c : Cs} (hC : COk c) {sl : Int} {e : Tr} (h : e ∈ frL c fun _ => sl) : e.1 ∈ nm c.F := by
  unfold frL at h
  rcases List.mem_append.mp h with h | h
  · obtain ⟨t, ht, h⟩ := List.mem_flatMap.mp h
    unfold frT at h
    split at h
    · simp at h
    · rename_i hb
      rcases List.mem_cons.mp h with h | h
      · rw [h]; exact ov_nm ((hC.ovr t ht).resolve_left hb)
      · obtain ⟨o, ho, rfl⟩ := List.mem_map.mp h
        exact ov_nm (List.mem_filter.mp ho).1
  · obtain ⟨f, hf, h⟩ := List.mem_flatMap.mp h
    cases f with
    | there n =>
      rw [frF, List.mem_singleton] at h
      rw [h]; exact hC.thr n hf
    | before a b =>
      rw [frF, List.mem_singleton] at h
      rw [h]; exact (hC.bef a b hf).1
theorem slA_all {c : Cs} (hC : COk c) {sl : Int} {n : Str} (hn : n ∈ nm c.F) : slA (frL c fun _ => sl) sl n = 0 := by
  unfold slA
  rw [if_pos]
  refine List.any_eq_true.mpr ⟨(n, 0, faD (.there n)), ?_, by simp⟩
  exact List.mem_append_right _ (List.mem_flatMap.mpr ⟨_, hC.all n hn, List.mem_singleton.mpr rfl⟩)
section
variable {P : Program} {w : World} {K : PySem.W.Frag} {mg : Str → Option Value} {base : Heap}
theorem l_forced {σ : L2.St} {H : Hp} {E : XK} {c : Cs} {sl : Int} {ps : Addr} {kvs : List (Key × V)} {v : V} {i j : Nat} (hC : COk c) (h1 : σ[i]? = some (some v)) (h2 : σ[j]? = some (some (.ref ps))) (hv : Dt K H v (csD c)) (hps : H ps = some (.dK kvs)) (hD : DD K (fun n => .int sl) H kvs (nm c.F)) :
    EL K (tCall (spForced K) [] E (tCons (tVar i) (tCons (tVar j) tNil))) σ H ((frL c fun _ => sl).map trD) := fun H1 e1 Q q =>
  ⟨v, h1, .ref ps, h2, c, fun _ => sl, ps, kvs, v, hC, rfl, hv.ex e1, e1 _ _ hps, hD.tle (TLe.ex e1), fun p xs H2 hp e hx hd => q p xs H2 hp e hx hd⟩
def spSettled (K : PySem.W.Frag) : Sp := fun vs H Q _ => ∃ c : Cs, COk c ∧ Dts K H vs [csD c] ∧
  ∀ a ps pt kvs zs ds H2, Ex H H2 → SqT K H2 a [.ref ps, .ref pt] → H ps = none → H pt = none → H2 ps = some (.dK kvs) → DD K (fun _ => .int 0) H2 kvs (nm c.F) → H2 pt = some (.lst zs) → Dts K H2 zs ds → ds.length ≤ 1000 → Q (.ref a) H2
def SetW (K : PySem.W.Frag) (c : Cs) (v v1 : V) (ps pt : Addr) (H1 : Hp) (m : Nat) (σ' : L2.St) (H' : Hp) : Prop := ∃ (sl : Int) (mv : Bool) (kvs : List (Key × V)) (zs : List V) (ds : List PyData) (z5 z6 z7 : Option V), (sl = 0 ∨ sl = 1) ∧ (sl = 1 → mv = true) ∧ m = (if sl = 1 then 1 else 0) + (if mv then 1 else 0) ∧
  σ' = [some v, some v1, some (.ref ps), some (.ref pt), some (.bl mv), z5, z6, z7] ∧ Ex H1 H' ∧ H' ps = some (.dK kvs) ∧ DD K (fun _ => .int sl) H' kvs (nm c.F) ∧ H' pt = some (.lst zs) ∧ Dts K H' zs ds ∧ ds.length + 70 * m ≤ 140
def SetF (K : PySem.W.Frag) (c : Cs) (v v1 : V) (ps pt : Addr) (H1 : Hp) (sl : Int) (n0 : Nat) (H2 : Hp) (i : Nat) (σ' : L2.St) (H' : Hp) : Prop := LTx K (fun a => a = pt) H2 H' ∧ Ex H1 H' ∧ ∃ (mv : Bool) (kvs : List (Key × V)) (zs : List V) (ds : List PyData) (z5 z6 z7 : Option V), (mv = true → sl = 1) ∧
  σ' = [some v, some v1, some (.ref ps), some (.ref pt), some (.bl mv), z5, z6, z7] ∧ H' ps = some (.dK kvs) ∧ DD K (fun n => .int (slA ((frL c fun _ => sl).take i) sl n)) H' kvs (nm c.F) ∧ H' pt = some (.lst zs) ∧ Dts K H' zs ds ∧ ds.length ≤ n0 + i
-- 0 case, 1 own, 2 slots, 3 steps, 4 moved, 5 name, 6 slot, 7 reason
theorem sc_settled : FnScope ["case", "own", "slots", "steps", "moved", "name", "slot", "reason"] ["case"] (defScope s_settled) := C8.fnScope_by (by decide +kernel)
theorem c_settled (T : Txt K mg) : C8.Cal P w K mg base 7 "settled" (spSettled K) [] := by
  refine cal_of T.d_settled (fun _ _ _ _ _ _ us hu => by match us, hu with | [_], _ => rfl) sc_settled (fun vs H Q E h => by obtain ⟨_, _, h, _⟩ := h; exact h.length) fun f cdv A outer s H vs Q E hr h => ?_
  obtain ⟨c, hC, hd, gv⟩ := h
  obtain ⟨v, rfl, hv⟩ := dts1 hd
  have hf := hC.fen.few
  have h100 : c.F.length ≤ 100 := by omega
  have hnl : (nm c.F).length ≤ 5 := by rw [nm_len]; exact hf
  refine ⟨_, (pss_cons (ps_set (i := 1) sc_settled.nd rfl (by first | exact Or.inl rfl | exact Or.inr rfl) (C8.pe_c (c_tupled T) hr (by decide) (by rfl) (pa_cons (pv 0) pa_nil)))
  (pss_cons (ps_par3 (i := 2) (j := 3) (l := 4) rfl sc_settled.nd rfl rfl rfl (by decide) (by decide) (by decide) rfl rfl rfl (pa_cons (pe_dc (own := [("name", 5)]) rfl sc_settled.nd (k_piT K rfl (C8.pe_c (c_names T) hr (by decide) (by rfl) (pa_cons (pe_ix (k_ixT K rfl) (pv 1) pe_int (fun _ _ => rfl)) pa_nil))) (blkOk_by (by kernel_rfl)) (fun _ _ _ _ _ => (pg_name (i := 5) sc_settled.nd rfl (by first | exact Or.inl rfl | exact Or.inr rfl))) (fun _ _ _ _ _ => pts_nil) (fun _ _ _ _ _ => (pv 5)) (fun _ _ _ _ _ => (pe_ix (k_ixT K rfl) (pv 1) pe_int (fun _ _ => rfl)))) (pa_cons (pe_lst pa_nil) (pa_cons pe_bl pa_nil))) rfl)
  (pss_cons (ps_while PassesOwn.never (pt_val (pv 4)) (pss_cons (ps_set (i := 4) sc_settled.nd rfl (by first | exact Or.inl rfl | exact Or.inr rfl) pe_bl)
  (pss_one (ps_for PassesOwn.never rfl (k_piL K rfl (C8.pe_c (c_forced T) hr (by decide) (by rfl) (pa_cons (pv 1) (pa_cons (pv 2) pa_nil)))) (k_gT K 3 rfl rfl (pgs_cons (pg_name (i := 5) sc_settled.nd rfl (by first | exact Or.inl rfl | exact Or.inr rfl)) (pgs_cons (pg_name (i := 6) sc_settled.nd rfl (by first | exact Or.inl rfl | exact Or.inr rfl)) (pgs_cons (pg_name (i := 7) sc_settled.nd rfl (by first | exact Or.inl rfl | exact Or.inr rfl)) pgs_nil)))) (pss_one (ps_if (pt_cmpR op_lt (pv 6) (pe_dget (hu_of hr) (pv 2) (pv 5) (fun _ _ => rfl)) (nomark _)) (pss_cons (ps_asg (pe_tup (pa_cons (pv 6) (pa_cons pe_bl pa_nil))) (k_gT K 2 rfl rfl (pgs_cons (pg_sub (pv 2) (pv 5) (set_dictK (hu_of hr))) (pgs_cons (pg_name (i := 4) sc_settled.nd rfl (by first | exact Or.inl rfl | exact Or.inr rfl)) pgs_nil))))
  (pss_one (ps_expr (pe_bm PySem.F.plainAttrs_list PySem.F.slot_list_append PySem.F.type_list_append mt_append (pv 3) (pa_cons (pe_tup (pa_cons (pv 5) (pa_cons (pv 6) (pa_cons (pv 7) pa_nil)))) pa_nil))))) pss_nil))))))
  (pss_one (ps_ret (pe_tup (pa_cons (pv 2) (pa_cons (pv 3) pa_nil)))))))), ?_⟩
  refine q_asgD (g_call (a_cons (g_var rfl hv) a_nil) (spD_use (csD c) (ok_cs hC))) fun v1 H1 e1 h1 => ?_
  refine q_par3D (K := K) (G := GDict K H1 (fun _ => .int 1) (nm c.F)) (ge_dc (fun _ => .int 1) (iv_tup (xs := nm c.F) (enc := PyData.str) (g_call (a_cons (g_ixk (k := 0) (g_var rfl h1) rfl) a_nil) (spD_use c.F h100))) TLe.ex (by omega) hC.fen.nd fun n hn v2 H2 e2 h2 => ?_) gdict_ex (l_lst a_nil (by simp)) fun x pt xs H2 e2 ⟨ps, kvs, hx, hps, hks, hDs⟩ hpt hlt hxs => ?_
  · refine ⟨_, fun Q q => q, rfl, ?_, g_ixk (k := 1) (g_var rfl (h1.ex e2)) rfl⟩
    rw [Dt.strV h2]
    exact ev_var rfl
  subst hx
  obtain rfl : xs = [] := by cases hxs; rfl
  have ne : ps ≠ pt := fun e => by rw [e, hlt] at hks; cases hks
  refine q_while (SetW K c v v1 ps pt H1) 2 ⟨1, true, kvs, [], [], none, none, none, .inr rfl, fun _ => rfl, rfl, rfl, e2, hks, hDs, hlt, .nil, by decide⟩
    (fun m σ' H' ⟨sl, mv, kvs', zs, ds, z5, z6, z7, hsl, hmv, hm, hσ, ex, hk, hD, hl, hzd, hlen⟩ => ?_)
  subst hσ
  refine ⟨mv, et_B (ev_var rfl), fun hb H3 e3 => ?_, fun hb H3 e3 => ?_⟩
  · subst hb
    rw [if_pos rfl] at hm
    refine ⟨fun σ2 H2 => ∃ m', m' < m ∧ SetW K c v v1 ps pt H1 m' σ2 H2, fun _ _ h => h, ?_⟩
    refine q_asgD (K := K) g_bl fun vb H4 e4 hvb => ?_
    rw [hvb.boolV]
    have e34 := e3.trans e4
    have x4 := ex.trans e34
    have hk4 := e34 _ _ hk
    have hl4 := e34 _ _ hl
    have hD4 := hD.tle (TLe.ex e34)
    refine s_forI (iv_listX (xs := frL c fun _ => sl) (enc := trD) (fun a => a = pt) (fun a ha => by subst ha; exact ⟨_, hl4⟩) (l_forced hC rfl rfl (h1.ex x4) hk4 hD4)) (SetF K c v v1 ps pt H1 sl ds.length)
      (fun H5 e5 => ⟨LTx.refl, x4.trans e5, false, kvs', zs, ds, z5, z6, z7, nofun, rfl, e5 _ _ hk4, (hD4.tle (TLe.ex e5)).imp fun _ _ h => h, e5 _ _ hl4, (hzd.ex e34).ex e5, Nat.le_refl _⟩) (fun H5 i σ' H' _ h => h.1) (fun H5 i e v2 σ' H6 H7 e5 hi ⟨t, ex6, mv6, kvs6, zs6, ds6, y5, y6, y7, hmv6, hσ, hk6, hD6, hl6, hzd6, hn6⟩ e7 hr => ?_) fun H5 σ' H6 e5 ⟨t, ex6, mv6, kvs6, zs6, ds6, y5, y6, y7, hmv6, hσ, hk6, hD6, hl6, hzd6, hn6⟩ => ?_
    · subst hσ
      have hmem := List.mem_of_getElem? hi
      have hslot := frL_slot hmem
      have hname := frL_name hC hmem
      have hA := slA_or (L := (frL c fun _ => sl).take i) (sl := sl) (n := e.1)
      have hil : i < 70 := by
        have h1 := (List.getElem?_eq_some_iff.mp hi).1
        have h2 := frL_len hC fun _ => sl
        omega
      obtain ⟨n, s, d⟩ := e
      dsimp only at hslot hname hA
      have x7 := ex6.trans e7
      have hk7 := e7 _ _ hk6
      have hl7 := e7 _ _ hl6
      have hD7 := hD6.tle (TLe.ex e7)
      have hzd7 := hzd6.ex e7
      have t7 := t.trans (LTx.ex e7)
      refine g_t3 hr fun a b d' ha hb' hd' => ?_
      obtain rfl := ha.strV
      obtain rfl := hb'.intV
      refine s_when (b := decide (s < slA ((frL c fun _ => sl).take i) sl n)) (g_test (g_cmpI (K := K) (g := fun i j => decide (i < j)) (g_var rfl (.int s)) (g_dget (val := fun n => .int (slA ((frL c fun _ => sl).take i) sl n)) hk7 hD7 (ev_var rfl) (g_var rfl (.str n)) hname))) (fun hb H8 e8 => ?_) fun hb H8 e8 => ?_
      · have hlt := of_decide_eq_true hb
        have s0 : s = 0 ∧ sl = 1 := by omega
        obtain ⟨rfl, rfl⟩ := s0
        -- slots[name], moved = slot, True
        refine ⟨.int 0, rfl, sz_of (by decide), fun p hp => ?_⟩
        have e9 : Ex H8 (upd H8 p (.tup [.int 0, .bl true])) := Ex.new hp
        have e79 := e8.trans e9
        have hk9 := e79 _ _ hk7
        have hpp : p ≠ ps := fun z => by rw [z, e8 _ _ hk7] at hp; cases hp
        refine ⟨p, _, rfl, st_of upd_same, rfl, .int 0, [.bl true], rfl, .ref ps, rfl, .str n, rfl, ps, _, rfl, DPut.k (k := .inr n) hk9 (sz_lt (by have := dk_len hD7; omega)), .bl true, [], rfl, rfl, ?_⟩
        have t9 : LTx K (fun a => a = pt) _ (upd (upd H8 p (.tup [.int 0, .bl true])) ps (.dK (putK kvs6 (.inr n) (.int 0)))) := LTx.dk hk9
        have x9 : Ex H1 (upd (upd H8 p (.tup [.int 0, .bl true])) ps (.dK (putK kvs6 (.inr n) (.int 0)))) := Ex.mut (x7.trans e79) hps
        have tt := (LTx.ex e79).trans t9
        refine s_appD (d := trD (n, 0, d)) (zs := zs6) ?_ (ev_var rfl) (g_tup (a_cons (g_var rfl (.str n)) (a_cons (g_var rfl (.int 0)) (a_cons (g_var rfl (hd'.mono tt.2)) a_nil))) (by simp)) ?_ fun w1 H10 e10 hw1 => ?_
        · rw [upd_ne ne.symm]
          exact e79 _ _ hl7
        · rw [hzd6.length]; omega
        · have q10 : H10 pt = some (.lst zs6) := e10 _ _ (by rw [upd_ne ne.symm]; exact e79 _ _ hl7)
          have t10 : LTx K (fun a => a = pt) H10 (upd H10 pt (.lst (zs6 ++ [w1]))) := LTx.lst rfl q10
          have tA := tt.trans ((LTx.ex e10).trans t10)
          refine ⟨t7.trans tA, Ex.mut (x9.trans e10) hpt, true, putK kvs6 (.inr n) (.int 0), zs6 ++ [w1], ds6 ++ [trD (n, 0, d)], _, _, _, fun _ => rfl, rfl, ?_, ?_, upd_same, (hzd7.mono tA.2).append (.cons (hw1.mono t10.2) .nil), ?_⟩
          · rw [upd_ne ne]
            exact e10 _ _ upd_same
          · rw [take_succ hi]
            refine dk_put hD7 hname ?_ fun k hk hkn x hx => ?_
            · show Dt K _ (.int 0) (.int (slA (_ ++ [_]) 1 n))
              rw [slA_snoc, if_pos ⟨rfl, rfl⟩]; exact .int 0
            · show Dt K _ x (.int (slA (_ ++ [_]) 1 k))
              rw [slA_snoc, if_neg fun z => hkn z.1.symm]
              exact hx.mono tA.2
          · rw [List.length_append, List.length_singleton]; omega
      · have hge : ¬ s < slA ((frL c fun _ => sl).take i) sl n := of_decide_eq_false hb
        refine ⟨t7.trans (LTx.ex e8), x7.trans e8, mv6, kvs6, zs6, ds6, _, _, _, hmv6, rfl, e8 _ _ hk7, ?_, e8 _ _ hl7, hzd7.ex e8, by omega⟩
        rw [take_succ hi]
        refine (hD7.tle (TLe.ex e8)).imp fun x k hx => ?_
        show Dt K H8 x (.int (slA (_ ++ [_]) sl k))
        rw [slA_snoc]
        split
        · rename_i hc
          obtain ⟨rfl, h0⟩ := hc
          dsimp only at h0
          have : slA ((frL c fun _ => sl).take i) sl n = 0 := by omega
          have hx' : Dt K H8 x (.int (slA ((frL c fun _ => sl).take i) sl n)) := hx
          rw [this] at hx'
          exact hx'
        · exact hx
    · subst hσ
      rw [List.take_length] at hD6
      have hD0 : DD K (fun _ => .int 0) H6 kvs6 (nm c.F) := ⟨hD6.1, fun q hq k hk => by
        have hkm : k ∈ nm c.F := by
          have : (Sum.inr k : Key) ∈ kvs6.map (·.1) := hk ▸ List.mem_map_of_mem hq
          rw [hD6.1] at this
          obtain ⟨z, hz, ez⟩ := List.mem_map.mp this
          injection ez with ez
          rw [← ez]; exact hz
        have : Dt K H6 q.2 (.int (slA (frL c fun _ => sl) sl k)) := hD6.2 q hq k hk
        rwa [slA_all hC hkm] at this⟩
      have hl70 := frL_len hC fun _ => sl
      refine ⟨if mv6 then 1 else 0, ?_, 0, mv6, kvs6, zs6, ds6, y5, y6, y7, .inl rfl, nofun, ?_, rfl, ex6, hk6, hD0, hl6, hzd6, ?_⟩
      · cases mv6 with
        | true => rw [hm, if_pos (hmv6 rfl)]; decide
        | false => rw [hm]; exact Nat.succ_pos _
      · cases mv6 <;> rfl
      · cases mv6 with
        | true =>
          rw [if_pos (hmv6 rfl)] at hm
          rw [if_pos rfl]
          omega
        | false =>
          rw [if_neg (by decide)]
          omega
  · subst hb
    have s0 : sl = 0 := hsl.resolve_right fun z => absurd (hmv z) (by decide)
    subst s0
    refine ⟨.ref ps, rfl, .ref pt, rfl, sz_of (by simp), fun p hp => ?_⟩
    have e4 : Ex H3 (upd H3 p (.tup [.ref ps, .ref pt])) := Ex.new hp
    have e34 := e3.trans e4
    exact gv p ps pt kvs' zs ds _ (e1.trans (ex.trans e34)) (st_of upd_same) (fresh_back e1 hps) (fresh_back e1 hpt) (e34 _ _ hk) (hD.tle (TLe.ex e34)) (e34 _ _ hl) (hzd.ex e34) (by omega)
end
end K77
set_option maxHeartbeats 1000000
/-! A dict of lists; belows. -/
namespace K77
open PySem PySem.Spec PyProof.Rows L2 Evl
theorem valV_app {k : Key} {v : V} {l : List (Key × V)} : ∀ {kvs : List (Key × V)}, valV kvs k = some v → valV (kvs ++ l) k = some v
  | [], h => by cases h
  | (j, x) :: kvs, h => by
    by_cases e : j = k
    · rw [valV_pos e] at h
      rw [List.cons_append, valV_pos e]; exact h
    · rw [valV_neg e] at h
      rw [List.cons_append, valV_neg e]; exact valV_app h
theorem valV_snoc {k : Key} {v : V} : ∀ {kvs : List (Key × V)}, k ∉ kvs.map (·.1) → valV (kvs ++ [(k, v)]) k = some v
  | [], _ => valV_pos rfl
  | (j, x) :: kvs, h => by
    rw [List.map_cons, List.mem_cons, not_or] at h
    rw [List.cons_append, valV_neg fun z => h.1 z.symm]; exact valV_snoc h.2
abbrev enP (p : Str × PyData) : PyData := .tuple [.str p.1, p.2]
/-- a dict of lists, each name its own list -/
structure DL (K : PySem.W.Frag) (q : Str → Addr) (g : Str → List (Str × PyData)) (kvs : List (Key × V)) (ks : List Str) (H : Hp) : Prop where
  val : ∀ n ∈ ks, valV kvs (.inr n) = some (.ref (q n))
  inj : ∀ m ∈ ks, ∀ n ∈ ks, q m = q n → m = n
  lst : ∀ n ∈ ks, ∃ ws, H (q n) = some (.lst ws) ∧ Dts K H ws ((g n).map enP)
section
variable {K : PySem.W.Frag} {σ : L2.St} {H H' : Hp} {td ty : TE} {p : Addr} {kvs : List (Key × V)} {ks : List Str} {q : Str → Addr} {g g' : Str → List (Str × PyData)} {n m : Str}
theorem DL.ex (e : Ex H H') (h : DL K q g kvs ks H) : DL K q g kvs ks H' := ⟨h.val, h.inj, fun n hn => by
  obtain ⟨ws, h1, h2⟩ := h.lst n hn
  exact ⟨ws, e _ _ h1, h2.ex e⟩⟩
theorem DL.is (h : DL K q g kvs ks H) (e : ∀ n ∈ ks, g n = g' n) : DL K q g' kvs ks H := ⟨h.val, h.inj, fun n hn => by
  rw [← e n hn]; exact h.lst n hn⟩
theorem DL.put {ws ys : List V} {es : List (Str × PyData)} (h : DL K q g kvs ks H) (hm : m ∈ ks) (hq : H (q m) = some (.lst ws)) (hw : Dts K H ws ((g m).map enP)) (hy : Dts K H ys (es.map enP)) (hg : ∀ n ∈ ks, g' n = g n ++ if n = m then es else []) : DL K q g' kvs ks (upd H (q m) (.lst (ws ++ ys))) := ⟨h.val, h.inj, fun n hn => by
  have t : TLe K H (upd H (q m) (.lst (ws ++ ys))) := TLe.lst hq
  rw [hg n hn]
  by_cases e : n = m
  · subst e
    refine ⟨ws ++ ys, upd_same, ?_⟩
    rw [if_pos rfl, List.map_append]
    exact (hw.append hy).mono t
  · obtain ⟨us, h1, h2⟩ := h.lst n hn
    refine ⟨us, ?_, ?_⟩
    · rw [upd_ne fun z => e (h.inj n hn m hm z)]
      exact h1
    · rw [if_neg e, List.append_nil]
      exact h2.mono t⟩
theorem ev_dgetL (hp : H p = some (.dK kvs)) (h : DL K q g kvs ks H) (ha : Ev td σ H (.ref p)) (hk : ED K ty σ H (.str n)) (hn : n ∈ ks) : Ev (tDGet td ty) σ H (.ref (q n)) := fun H1 e1 Q k => ha H1 e1 _ fun H2 e2 => hk H2 (e1.trans e2) _ fun y H3 e3 hy => by
  rw [hy.strV]
  refine ⟨p, .ref (q n), rfl, ?_, k H3 (e2.trans e3)⟩
  rw [← h.val n hn]
  exact DGet.k (k := .inr n) (((e1.trans e2).trans e3) _ _ hp)
theorem es_dgetL (hp : H p = some (.dK kvs)) (h : DL K q g kvs ks H) (ha : Ev td σ H (.ref p)) (hk : ED K ty σ H (.str n)) (hn : n ∈ ks) : ES K (tDGet td ty) σ H ((g n).map enP) := by
  obtain ⟨ws, h1, h2⟩ := h.lst n hn
  exact es_old (ev_dgetL hp h ha hk hn) (sq_of h1) h2
/-- {name: [] for ..} -/
theorem d_dcF {wi : TI} {gg : TG} {tk : TE} {vs : List Nat} {R : Hp → V → Str → Prop} {S : Hp → Hp → Prop} (h : IV wi σ H ks R S) (hS : ∀ {H H'}, Ex H H' → S H H') (hl : ks.length < 5000) (hn : ks.Nodup)
    (ht : ∀ k, k ∈ ks → ∀ v H1, Ex H H1 → R H1 v k → ∃ σ2, (∀ Q : L2.St → Hp → Prop, Q σ2 H1 → gg v (wipe σ vs) H1 Q) ∧ wipe σ2 vs = wipe σ vs ∧ Ev tk σ2 H1 (.str k)) : ∀ H0, Ex H H0 → ∀ Q : VK, (∀ p kvs q H2, H0 p = none → (∀ n ∈ ks, H0 (q n) = none) → Ex H0 H2 → H2 p = some (.dK kvs) → DL K q (fun _ => []) kvs ks H2 → Q (.ref p) H2) → tDc wi gg tYes tk (tLst tNil) vs σ H0 Q := fun H0 e0 Q Qq => h H0 e0 _ fun J H1 Kp e1 hk r Dl hD => by
  refine ⟨fun i m H' => m = ks.length - i ∧ i ≤ ks.length ∧ Ex H1 H' ∧ ∃ kvs q, H' Dl = some (.dK kvs) ∧ kvs.map (·.1) = (ks.take i).map Sum.inr ∧ (∀ n ∈ ks.take i, H1 (q n) = none) ∧ DL K q (fun _ => []) kvs (ks.take i) H', ⟨ks.length, by omega, Nat.zero_le _, Ex.new hD, [], fun _ => Dl, upd_same, rfl, nofun, nofun, nofun, nofun⟩, ?_⟩
  rintro i m H' ⟨rfl, hi, p1, kvs, q, p2, p3, p4, p5⟩
  have kp := hk H' (hS p1)
  by_cases hlt : i < ks.length
  · refine .inr ⟨r.go i H' kp hlt, fun H' => Ex H1 H' ∧ ∃ kvs q, H' Dl = some (.dK kvs) ∧ kvs.map (·.1) = (ks.take (i + 1)).map Sum.inr ∧ (∀ n ∈ ks.take (i + 1), H1 (q n) = none) ∧ DL K q (fun _ => []) kvs (ks.take (i + 1)) H', fun H2 p2 => ⟨ks.length - (i + 1), by omega, rfl, hlt, p2⟩, fun v H2 y => ?_⟩
    obtain ⟨x, hx, ex, hr⟩ := r.yld i H' v H2 kp hlt y
    obtain ⟨σ2, a1, a2, a4⟩ := ht x (List.mem_of_getElem? hx) v H2 ((e0.trans e1).trans (p1.trans ex)) hr
    refine a1 _ ⟨a2, ?_⟩
    show tk σ2 H2 _
    refine a4 H2 (Ex.refl _) _ fun H4 e4 => ?_
    refine ⟨sz_of (by simp), fun l hl' => ?_⟩
    have e5 : Ex H4 (upd H4 l (.lst [])) := Ex.new hl'
    have x5 : Ex H' (upd H4 l (.lst [])) := (ex.trans e4).trans e5
    have q5 := x5 _ _ p2
    have hxt : x ∉ ks.take i := fun hy => by
      obtain ⟨j, hj, ej⟩ := List.getElem_of_mem hy
      rw [List.length_take] at hj
      have e2 : ks[j]? = some x := by
        rw [List.getElem_take] at ej
        rw [← ej]
        exact List.getElem?_eq_getElem _
      have := (List.getElem?_inj (by omega) hn).mp (e2.trans hx.symm)
      omega
    have hnk : (Sum.inr x : Key) ∉ kvs.map (·.1) := by
      rw [p3]
      intro c
      obtain ⟨y, hy, e⟩ := List.mem_map.mp c
      injection e with e
      exact hxt (e ▸ hy)
    have len : kvs.length = i := by
      have := congrArg List.length p3
      rw [List.length_map, List.length_map, List.length_take] at this
      omega
    have hlD : l ≠ Dl := fun z => by
      rw [z, (ex.trans e4) _ _ p2] at hl'
      cases hl'
    have tk' : ks.take (i + 1) = ks.take i ++ [x] := take_succ hx
    obtain ⟨q', q1, q2⟩ : ∃ q' : Str → Addr, (∀ n ∈ ks.take i, q' n = q n) ∧ q' x = l := ⟨fun n => if n = x then l else q n, fun n hn => if_neg fun (z : n = x) => hxt (z ▸ hn), if_pos rfl⟩
    refine ⟨kvs, .inr x, rfl, q5, sz_lt (by omega), Ex.mut (p1.trans x5) hD, _, q', upd_same, ?_, ?_, ?_, ?_, ?_⟩
    · rw [putK_new hnk, List.map_append, p3, tk', List.map_append]
      rfl
    · intro n hn'
      rw [tk'] at hn'
      rcases List.mem_append.mp hn' with hn' | hn'
      · rw [q1 n hn']; exact p4 n hn'
      · rw [List.mem_singleton.mp hn', q2]
        exact fresh_back ((p1.trans ex).trans e4) hl'
    · intro n hn'
      rw [putK_new hnk]
      rw [tk'] at hn'
      rcases List.mem_append.mp hn' with hn' | hn'
      · rw [q1 n hn']; exact valV_app (p5.val n hn')
      · rw [List.mem_singleton.mp hn', q2]
        exact valV_snoc hnk
    · have ne : ∀ n ∈ ks.take i, q n ≠ l := fun n hn z => by
        obtain ⟨ws, hw, _⟩ := p5.lst n hn
        have := (ex.trans e4) _ _ hw
        rw [z, hl'] at this
        cases this
      intro m hm n hn' e
      rw [tk'] at hm hn'
      rcases List.mem_append.mp hm with hm | hm <;> rcases List.mem_append.mp hn' with hn' | hn'
      · rw [q1 m hm, q1 n hn'] at e
        exact p5.inj m hm n hn' e
      · rw [q1 m hm, List.mem_singleton.mp hn', q2] at e
        exact absurd e (ne m hm)
      · rw [q1 n hn', List.mem_singleton.mp hm, q2] at e
        exact absurd e.symm (ne n hn')
      · rw [List.mem_singleton.mp hm, List.mem_singleton.mp hn']
    · intro n hn'
      rw [tk'] at hn'
      rcases List.mem_append.mp hn' with hn' | hn'
      · rw [q1 n hn']
        obtain ⟨ws, hw, hd⟩ := p5.lst n hn'
        have hw5 := x5 _ _ hw
        refine ⟨ws, ?_, (hd.ex x5).mono (TLe.dk q5)⟩
        rw [upd_ne fun z => by rw [z, q5] at hw5; cases hw5]
        exact hw5
      · rw [List.mem_singleton.mp hn', q2]
        exact ⟨[], by rw [upd_ne hlD]; exact upd_same, .nil⟩
  · obtain rfl : i = ks.length := by omega
    rw [List.take_length] at p3 p4 p5
    exact .inl ⟨r.stop H' kp, Qq Dl kvs q H' (fresh_back e1 hD) (fun n hn => fresh_back e1 (p4 n hn)) (e1.trans p1) p2 p5⟩
theorem q_asgDcF {wi : TI} {gg : TG} {tk : TE} {vs : List Nat} {R : Hp → V → Str → Prop} {S : Hp → Hp → Prop} {D : Ends} {tz : TS} {i : Nat} (h : IV wi σ H ks R S) (hS : ∀ {H H'}, Ex H H' → S H H') (hl : ks.length < 5000) (hn : ks.Nodup)
    (ht : ∀ k, k ∈ ks → ∀ v H1, Ex H H1 → R H1 v k → ∃ σ2, (∀ Q : L2.St → Hp → Prop, Q σ2 H1 → gg v (wipe σ vs) H1 Q) ∧ wipe σ2 vs = wipe σ vs ∧ Ev tk σ2 H1 (.str k))
    (k : ∀ p kvs q H2, H p = none → (∀ n ∈ ks, H (q n) = none) → Ex H H2 → H2 p = some (.dK kvs) → DL K q (fun _ => []) kvs ks H2 → tz D (σ.set i (some (.ref p))) H2) : tSeq (tAsg (tDc wi gg tYes tk (tLst tNil) vs) (gName i)) tz D σ H :=
  d_dcF (K := K) h hS hl hn ht H (Ex.refl H) (fun x H1 => gName i x σ H1 (tz D)) k
end
theorem belT_len (F : Fence) (n : Str) (t : Si) : (belT F n t).length ≤ F.length := by
  unfold belT
  split
  · rw [List.length_map]
    have h1 := List.length_filter_le (fun o => !decide (o = n)) (ov F t.1)
    have h2 := ov_len F t.1
    omega
  · exact Nat.zero_le _
theorem belF_len (n : Str) (f : Fa) : (belF n f).length ≤ 1 := by
  cases f with
  | there n => exact Nat.zero_le _
  | before a b =>
    show (if b = n then [(a, faD (.before a b))] else []).length ≤ 1
    split
    · exact Nat.le_refl _
    · exact Nat.zero_le _
theorem belT_lenA {c : Cs} (hC : COk c) (n : Str) (l : List Si) (hl : l.length ≤ 10) : (l.flatMap (belT c.F n)).length ≤ 50 := by
  have := flat_len (f := belT c.F n) (n := 5) l fun t _ => by have := belT_len c.F n t; have := hC.fen.few; omega
  omega
theorem belL_len {c : Cs} (hC : COk c) (n : Str) : (belL c n).length ≤ 57 := by
  unfold belL
  have h1 := belT_lenA hC n c.told hC.few
  have h2 := flat_len (f := belF n) (n := 1) c.facts fun f _ => belF_len n f
  have h4 := hC.fewF
  rw [List.length_append]
  omega
section
variable {P : Program} {w : World} {K : PySem.W.Frag} {mg : Str → Option Value} {base : Heap}
/-- a case and its slots, all nought -/
structure CSl (K : PySem.W.Frag) (c : Cs) (v : V) (ps : Addr) (kvs : List (Key × V)) (H : Hp) : Prop where
  ok : COk c
  case : Dt K H v (csD c)
  at_ : H ps = some (.dK kvs)
  slots : DD K (fun _ => .int 0) H kvs (nm c.F)
theorem CSl.ex {c : Cs} {v : V} {ps : Addr} {kvs : List (Key × V)} {H H' : Hp} (e : Ex H H') (h : CSl K c v ps kvs H) : CSl K c v ps kvs H' := ⟨h.ok, h.case.ex e, e _ _ h.at_, h.slots.tle (TLe.ex e)⟩
def spBelows (K : PySem.W.Frag) : Sp := fun vs H Q _ => ∃ (c : Cs) (v : V) (ps : Addr) (kvs : List (Key × V)), CSl K c v ps kvs H ∧ vs = [v, .ref ps] ∧
  ∀ p kvs' q H2, H p = none → (∀ n ∈ nm c.F, H (q n) = none) → Ex H H2 → H2 p = some (.dK kvs') → DL K q (belL c) kvs' (nm c.F) H2 → Q (.ref p) H2
def BelW (K : PySem.W.Frag) (c : Cs) (v : V) (ps pf : Addr) (kf : List (Key × V)) (q : Str → Addr) (a4 a5 a6 a7 : V) (H1 : Hp) (g : Str → List (Str × PyData)) (H3 : Hp) (σ' : L2.St) (H' : Hp) : Prop :=
  TLe K H3 H' ∧ Ex H1 H' ∧ (∃ y3 y8 y9 y10 y11 y12, σ' = [some v, some (.ref ps), some (.ref pf), y3, some a4, some a5, some a6, some a7, y8, y9, y10, y11, y12]) ∧ H' pf = some (.dK kf) ∧ DL K q g kf (nm c.F) H'
-- 0 case, 1 slots, 2 found, 3 part, 4 fence, 5 photos, 6 told, 7 facts, 8 name, 9 photo, 10 cell, 11 seen, 12 own
theorem sc_belows : FnScope ["case", "slots", "found", "part", "fence", "photos", "told", "facts", "name", "photo", "cell", "seen", "own"] ["case", "slots"] (defScope s_belows) := C8.fnScope_by (by decide +kernel)
theorem c_belows (T : Txt K mg) : C8.Cal P w K mg base 7 "belows" (spBelows K) [] := by
  refine cal_of T.d_belows (fun _ _ _ _ _ _ us hu => by match us, hu with | [_, _], _ => rfl) sc_belows (fun vs H Q E h => by obtain ⟨_, _, _, _, _, rfl, _⟩ := h; rfl) fun f cdv A outer s H vs Q E hr h => ?_
  obtain ⟨c, v, ps, kvs, hS, rfl, gv⟩ := h
  have hC := hS.ok
  have hf := hC.fen.few
  have h100 : c.F.length ≤ 100 := by omega
  have hl1 := hC.few
  have hl2 := hC.fewF
  have hnl : (nm c.F).length ≤ 5 := by rw [nm_len]; exact hf
  refine ⟨_, (pss_cons (ps_asg (C8.pe_c (c_tupled T) hr (by decide) (by rfl) (pa_cons (pv 0) pa_nil)) (k_gT K 4 rfl rfl (pgs_cons (pg_name (i := 4) sc_belows.nd rfl (by first | exact Or.inl rfl | exact Or.inr rfl)) (pgs_cons (pg_name (i := 5) sc_belows.nd rfl (by first | exact Or.inl rfl | exact Or.inr rfl)) (pgs_cons (pg_name (i := 6) sc_belows.nd rfl (by first | exact Or.inl rfl | exact Or.inr rfl)) (pgs_cons (pg_name (i := 7) sc_belows.nd rfl (by first | exact Or.inl rfl | exact Or.inr rfl)) pgs_nil))))))
  (pss_cons (ps_setDc (i := 2) (own := [("name", 8)]) rfl sc_belows.nd rfl rfl (sw_trueD rfl rfl rfl (by decide +kernel)) (k_piT K rfl (C8.pe_c (c_names T) hr (by decide) (by rfl) (pa_cons (pv 4) pa_nil))) (blkOk_by (by kernel_rfl)) (fun _ _ _ _ _ => (pg_name (i := 8) sc_belows.nd rfl (by first | exact Or.inl rfl | exact Or.inr rfl))) (fun _ _ _ _ _ => pts_nil) (fun _ _ _ _ _ => (pv 8)) (fun _ _ _ _ _ => (pe_lst pa_nil)))
  (pss_cons (ps_for PassesOwn.never rfl (k_piT K rfl (pv 6)) (pg_name (i := 3) sc_belows.nd rfl (by first | exact Or.inl rfl | exact Or.inr rfl)) (pss_cons (ps_asg (pv 3) (k_gT K 3 rfl rfl (pgs_cons (pg_name (i := 9) sc_belows.nd rfl (by first | exact Or.inl rfl | exact Or.inr rfl)) (pgs_cons (pg_name (i := 10) sc_belows.nd rfl (by first | exact Or.inl rfl | exact Or.inr rfl)) (pgs_cons (pg_name (i := 11) sc_belows.nd rfl (by first | exact Or.inl rfl | exact Or.inr rfl)) pgs_nil)))))
  (pss_one (ps_if (pt_cmpR op_ne (pv 11) (pe_gs T.g_BARE (by rfl)) (nomark _)) (pss_one (ps_expr (pe_bm PySem.F.plainAttrs_list PySem.F.slot_list_extend PySem.F.type_list_extend mt_extend (pe_dget (hu_of hr) (pv 2) (pv 11) (fun _ _ => rfl)) (pa_cons (pe_lc (own := [("own", 12)]) rfl sc_belows.nd (k_piT K rfl (C8.pe_c (c_over T) hr (by decide) (by rfl) (pa_cons (pv 4) (pa_cons (pv 10) pa_nil)))) (blkOk_by (by kernel_rfl)) (fun _ _ _ _ _ => (pg_name (i := 12) sc_belows.nd rfl (by first | exact Or.inl rfl | exact Or.inr rfl))) (fun _ _ _ _ _ => (pts_one (PW.pt (pw_and (pt_cmpR op_ne (pv 12) (pv 11) (nomark _)) (pw_and1 (pt_cmpR op_le (pe_dget (hu_of hr) (pv 1) (pv 12) (fun _ _ => rfl)) (pv 9) (nomark _))))))) (fun _ _ _ _ _ => (pe_tup (pa_cons (pv 12) (pa_cons (pv 3) pa_nil))))) pa_nil)))) pss_nil))))
  (pss_cons (ps_for PassesOwn.never rfl (k_piT K rfl (pv 7)) (pg_name (i := 3) sc_belows.nd rfl (by first | exact Or.inl rfl | exact Or.inr rfl)) (pss_one (ps_if (pt_cmpR op_eq (pe_ix (k_ixT K rfl) (pv 3) pe_int (fun _ _ => rfl)) (pe_gs T.g_BEFORE (by rfl)) (nomark _)) (pss_one (ps_expr (pe_bm PySem.F.plainAttrs_list PySem.F.slot_list_append PySem.F.type_list_append mt_append (pe_dget (hu_of hr) (pv 2) (pe_ix (k_ixT K rfl) (pv 3) pe_int (fun _ _ => rfl)) (fun _ _ => rfl)) (pa_cons (pe_tup (pa_cons (pe_ix (k_ixT K rfl) (pv 3) pe_int (fun _ _ => rfl)) (pa_cons (pv 3) pa_nil))) pa_nil)))) pss_nil)))
  (pss_one (ps_ret (pv 2))))))), ?_⟩
  refine q_asgN4 (g_call (a_cons (g_var rfl hS.case) a_nil) (spD_use (csD c) (ok_cs hC))) fun a4 a5 a6 a7 H1 e1 g4 g5 g6 g7 => ?_
  refine q_asgDcF (K := K) (iv_tup (xs := nm c.F) (enc := PyData.str) (g_call (a_cons (g_var rfl g4) a_nil) (spD_use c.F h100))) TLe.ex (by omega) hC.fen.nd (fun n hn v2 H2 e2 h2 => ⟨_, fun Q q => q, rfl, by rw [Dt.strV h2]; exact ev_var rfl⟩) fun pf kf q H2 hpf hqf e2 hkf hDf => ?_
  have hSx := hS.ex e1
  refine q_forI (iv_tup (xs := c.told) (enc := teD) (g_var rfl (g6.ex e2))) (fun H3 i => BelW K c v ps pf kf q a4 a5 a6 a7 H1 (fun n => (c.told.take i).flatMap (belT c.F n)) H3)
    (fun H3 e3 => ⟨TLe.refl, e2.trans e3, ⟨_, _, _, _, _, _, rfl⟩, e3 _ _ hkf, (hDf.ex e3)⟩) (fun H3 i σ' H' _ h => h.1) (fun H3 i x v1 σ' H' H4 e3 hx ⟨t, ex, ⟨b1, b2, b3, b4, b5, b6, hσ⟩, hk, hD⟩ e4 hr => ?_) fun H3 σ' H' e3 ⟨t, ex, ⟨b1, b2, b3, b4, b5, b6, hσ⟩, hk, hD⟩ => ?_
  · subst hσ
    obtain ⟨cell, n⟩ := x
    have x4 : Ex H1 H4 := ex.trans e4
    refine q_asgN3 (a := .int 0) (b := .int cell) (c := .str n) (g_var rfl hr) fun c1 c2 c3 H5 e5 k1 k2 k3 => ?_
    have hmem := List.mem_of_getElem? hx
    refine s_when (b := !decide (n = "-")) (g_test (g_neS (K := K) (g_var rfl k3) g_str)) (fun hb H6 e6 => ?_) fun hb H6 e6 => ?_
    · have hno : n ∈ ov c.F cell := (hC.ovr _ hmem).resolve_left (by simpa using hb)
      have hnn := ov_nm hno
      have e46 := e4.trans (e5.trans e6)
      have hk6 := e46 _ _ hk
      have hD6 := hD.ex e46
      have hS6 := hSx.ex (x4.trans (e5.trans e6))
      obtain ⟨ws, hw, hwd⟩ := hD6.lst n hnn
      have x6 := x4.trans (e5.trans e6)
      refine s_extD (ds := made (fun o => !decide (o = n) && decide ((0 : Int) ≤ 0)) (fun o => enP (o, teD (cell, n))) (ov c.F cell)) hw (ev_dgetL hk6 hD6 (ev_var rfl) (g_var rfl (k3.ex e6)) hnn) (l_lcI (xs := ov c.F cell) (fun o => !decide (o = n) && decide ((0 : Int) ≤ 0)) (fun o => enP (o, teD (cell, n))) (iv_tup (xs := ov c.F cell) (enc := PyData.str) (g_call (a_cons (g_var rfl (g4.ex x6)) (a_cons (g_var rfl (k2.ex e6)) a_nil)) (spD_use (c.F, cell) h100))) TLe.ex (by have := ov_len c.F cell; omega) fun o ho v3 H8 e8 h8 => ?_) ?_ fun ys H8 e8 hys => ?_
      · refine trn_name rfl (et_and (g_test (g_neS (g_var rfl h8) (g_var rfl ((k3.ex e6).ex e8)))) fun _ => g_test (g_cmpI (g := fun i j => decide (i ≤ j)) (g_dget (val := fun _ => .int 0) (e8 _ _ hS6.at_) (hS6.slots.tle (TLe.ex e8)) (ev_var rfl) (g_var rfl h8) (ov_nm ho)) (g_var rfl ((k1.ex e6).ex e8)))) fun _ => g_tup (a_cons (g_var rfl h8) (a_cons (g_var rfl (((hr.ex e5).ex e6).ex e8)) a_nil)) (by simp)
      · have h1 := made_len (f := fun o => !decide (o = n) && decide ((0 : Int) ≤ 0)) (e := fun o => enP (o, teD (cell, n))) (xs := ov c.F cell) (ov c.F cell).length
        rw [List.take_length] at h1
        have h2 := ov_len c.F cell
        rw [hwd.length, List.length_map]
        have h3 := belT_lenA hC n (c.told.take i) (by rw [List.length_take]; omega)
        omega
      · have hw8 := e8 _ _ hw
        have tt : TLe K H8 (upd H8 (q n) (.lst (ws ++ ys))) := TLe.lst hw8
        refine ⟨(t.trans (TLe.ex (e46.trans e8))).trans tt, Ex.mut (x6.trans e8) (hqf n hnn), ⟨_, _, _, _, _, _, rfl⟩, ?_, (hD6.ex e8).put (es := ((ov c.F cell).filter fun o => !decide (o = n)).map fun o => (o, teD (cell, n))) hnn hw8 (hwd.ex e8) ?_ fun m hm => ?_⟩
        · rw [upd_ne fun z => by rw [← z, e8 _ _ hk6] at hw8; cases hw8]
          exact e8 _ _ hk6
        · refine (congrArg (Dts K H8 ys) ?_).mp hys
          unfold made
          rw [List.map_map]
          have : (fun o : Str => !decide (o = n) && decide ((0 : Int) ≤ 0)) = fun o => !decide (o = n) := by funext o; rw [decide_eq_true (Int.le_refl 0), Bool.and_true]
          rw [this]
          rfl
        · rw [flat_succ hx]
          congr 1
          unfold belT
          dsimp only
          by_cases e : n = m
          · subst e
            rw [if_pos rfl]
          · rw [if_neg e, if_neg fun z => e z.symm]
    · have hn : n = "-" := by simpa using hb
      have e46 := e4.trans (e5.trans e6)
      refine ⟨t.trans (TLe.ex e46), ex.trans e46, ⟨_, _, _, _, _, _, rfl⟩, e46 _ _ hk, (hD.ex e46).is fun m hm => ?_⟩
      rw [flat_succ hx]
      unfold belT
      rw [if_neg fun z => hC.fen.bare (by rw [← hn, show n = m from z]; exact hm), List.append_nil]
  · subst hσ
    rw [List.take_length] at hD
    refine q_forI (iv_tup (xs := c.facts) (enc := faD) (g_var rfl (g7.ex ex))) (fun H3 i => BelW K c v ps pf kf q a4 a5 a6 a7 H1 (fun n => c.told.flatMap (belT c.F n) ++ (c.facts.take i).flatMap (belF n)) H3)
      (fun H3 e3 => ⟨TLe.refl, ex.trans e3, ⟨_, _, _, _, _, _, rfl⟩, e3 _ _ hk, (hD.ex e3).is fun n hn => by simp⟩) (fun H3 i σ' H' _ h => h.1) (fun H3 i x v1 σ' H' H4 e3 hx ⟨t, ex, ⟨b1, b2, b3, b4, b5, b6, hσ⟩, hk, hD⟩ e4 hr => ?_) fun H3 σ' H' e3 ⟨t, ex, ⟨b1, b2, b3, b4, b5, b6, hσ⟩, hk, hD⟩ => ?_
    · subst hσ
      cases x with
      | there n =>
        refine s_when (b := false) (et_is (g_test (g_eqS (g_ixk (k := 0) (g_var rfl hr) rfl) (g_str (x := "before")))) (by decide)) (fun h => nomatch h) (fun _ H5 e5 => ?_)
        refine ⟨t.trans (TLe.ex (e4.trans e5)), ex.trans (e4.trans e5), ⟨_, _, _, _, _, _, rfl⟩, (e4.trans e5) _ _ hk, (hD.ex (e4.trans e5)).is fun m hm => ?_⟩
        rw [flat_succ hx]
        show _ = _ ++ (_ ++ [])
        rw [List.append_nil]
      | before a b =>
        refine s_when (b := true) (et_is (g_test (g_eqS (g_ixk (k := 0) (g_var rfl hr) rfl) (g_str (x := "before")))) (by decide)) (fun _ H5 e5 => ?_) (fun h => nomatch h)
        have hr5 := hr.ex e5
        have e45 := e4.trans e5
        have x5 := ex.trans e45
        have hb := (hC.bef a b (List.mem_of_getElem? hx)).2
        have hk5 := e45 _ _ hk
        have hD5 := hD.ex e45
        obtain ⟨ws, hw, hwd⟩ := hD5.lst b hb
        refine s_appD (d := enP (a, faD (.before a b))) hw (ev_dgetL hk5 hD5 (ev_var rfl) (g_ixk (k := 2) (g_var rfl hr5) rfl) hb) (g_tup (a_cons (g_ixk (k := 1) (g_var rfl hr5) rfl) (a_cons (g_var rfl hr5) a_nil)) (by simp)) ?_ fun w1 H8 e8 hw1 => ?_
        · rw [hwd.length, List.length_map, List.length_append]
          have h1 := belT_lenA hC b c.told hC.few
          have h2 := flat_len (f := belF b) (n := 1) (c.facts.take i) fun f _ => belF_len b f
          rw [List.length_take] at h2
          omega
        · have hw8 := e8 _ _ hw
          have tt : TLe K H8 (upd H8 (q b) (.lst (ws ++ [w1]))) := TLe.lst hw8
          refine ⟨(t.trans (TLe.ex (e45.trans e8))).trans tt, Ex.mut (x5.trans e8) (hqf b hb), ⟨_, _, _, _, _, _, rfl⟩, ?_, (hD5.ex e8).put (es := [(a, faD (.before a b))]) hb hw8 (hwd.ex e8) (.cons hw1 .nil) fun m hm => ?_⟩
          · rw [upd_ne fun z => by rw [← z, e8 _ _ hk5] at hw8; cases hw8]
            exact e8 _ _ hk5
          · rw [flat_succ hx, ← List.append_assoc]
            congr 1
            show (if b = m then _ else _) = _
            by_cases e : b = m
            · subst e
              rw [if_pos rfl]
            · rw [if_neg e, if_neg fun z => e z.symm]
    · subst hσ
      rw [List.take_length] at hD
      exact s_ret (ev_var rfl) fun H6 e6 => gv pf kf q H6 (fresh_back e1 hpf) (fun n hn => fresh_back e1 (hqf n hn)) (e1.trans (ex.trans e6)) (e6 _ _ hk) (hD.ex e6)
end
end K77
set_option maxHeartbeats 1000000
/-! pasting_order. -/
namespace K77
open PySem PySem.Spec PyProof.Rows L2 Evl
section
variable {K : PySem.W.Frag} {σ : L2.St} {H : Hp} {D : Ends} {tz : TS}
theorem q_asg3c {t1 t2 t3 : TE} {i j k : Nat} {G1 : Hp → V → Prop} {G2 G3 : Hp → Hp → V → Prop} (h1 : GE t1 σ H G1) (h2 : ∀ H1, Ex H H1 → GE t2 σ H1 (G2 H1)) (h3 : ∀ H2, Ex H H2 → GE t3 σ H2 (G3 H2))
    (kk : ∀ x y z H1 H2 H3 H4, Ex H H1 → Ex H1 H2 → Ex H2 H3 → Ex H3 H4 → G1 H1 x → G2 H1 H2 y → G3 H2 H3 z → tz D (((σ.set i (some x)).set j (some y)).set k (some z)) H4) : tSeq (tAsg (tTup (tCons t1 (tCons t2 (tCons t3 tNil)))) (gTup K 3 (gCons (gName i) (gCons (gName j) (gCons (gName k) gNil))))) tz D σ H :=
  h1 H (Ex.refl H) _ fun x H1 e1 g1 => h2 H1 e1 H1 (Ex.refl H1) _ fun y H2 e2 g2 => h3 H2 (e1.trans e2) H2 (Ex.refl H2) _ fun z H3 e3 g3 => ⟨sz_of (by simp), fun p hp => by
    have e4 : Ex H3 (upd H3 p (.tup [x, y, z])) := Ex.new hp
    exact ⟨p, [x, y, z], rfl, st_of upd_same, rfl, x, [y, z], rfl, y, [z], rfl, z, [], rfl, rfl, kk x y z H1 H2 H3 _ e1 e2 e3 e4 g1 g2 g3⟩⟩
theorem q_par3c {t1 t2 t3 : TE} {i j k : Nat} {G1 : Hp → V → Prop} {G2 G3 : Hp → Hp → V → Prop} (h1 : GE t1 σ H G1) (h2 : ∀ H1, Ex H H1 → GE t2 σ H1 (G2 H1)) (h3 : ∀ H2, Ex H H2 → GE t3 σ H2 (G3 H2))
    (kk : ∀ x y z H1 H2 H3, Ex H H1 → Ex H1 H2 → Ex H2 H3 → G1 H1 x → G2 H1 H2 y → G3 H2 H3 z → tz D (((σ.set i (some x)).set j (some y)).set k (some z)) H3) : tSeq (tPar3 i j k (tCons t1 (tCons t2 (tCons t3 tNil)))) tz D σ H :=
  h1 H (Ex.refl H) _ fun x H1 e1 g1 => h2 H1 e1 H1 (Ex.refl H1) _ fun y H2 e2 g2 => h3 H2 (e1.trans e2) H2 (Ex.refl H2) _ fun z H3 e3 g3 => ⟨x, y, z, rfl, kk x y z H1 H2 H3 e1 e2 e3 g1 g2 g3⟩
def GBel (K : PySem.W.Frag) (c : Cs) (H0 H : Hp) (v : V) : Prop := ∃ p kvs q, v = .ref p ∧ H0 p = none ∧ (∀ n ∈ nm c.F, H0 (q n) = none) ∧ H p = some (.dK kvs) ∧ DL K q (belL c) kvs (nm c.F) H
theorem ge_belows {E : XK} {c : Cs} {v : V} {ps : Addr} {kvs : List (Key × V)} {i j : Nat} (h1 : σ[i]? = some (some v)) (h2 : σ[j]? = some (some (.ref ps))) (hS : CSl K c v ps kvs H) : GE (tCall (spBelows K) [] E (tCons (tVar i) (tCons (tVar j) tNil))) σ H (GBel K c H) := fun H1 e1 Q q =>
  ⟨v, h1, .ref ps, h2, c, v, ps, kvs, hS.ex e1, rfl, fun p kvs' qq H2 hp hq e hx hD => q _ H2 e ⟨p, kvs', qq, rfl, fresh_back e1 hp, fun n hn => fresh_back e1 (hq n hn), hx, hD⟩⟩
def GNames (ns : List Str) (H0 H : Hp) (v : V) : Prop := ∃ p, v = .ref p ∧ H0 p = none ∧ H p = some (.lst (ns.map V.str))
theorem ge_listD {i : Nat} {ps : Addr} {kvs : List (Key × V)} {ns : List Str} (h1 : σ[i]? = some (some (.ref ps))) (hp : H ps = some (.dK kvs)) (hk : kvs.map (·.1) = ns.map Sum.inr) : GE (tCB rListD (tCons (tVar i) tNil)) σ H (GNames ns H) := fun H1 e1 Q q =>
  ⟨.ref ps, h1, ps, kvs, rfl, e1 _ _ hp, fun p hp => q _ _ (Ex.new hp) ⟨p, rfl, fresh_back e1 hp, by
    rw [upd_same]
    have : kvs.map (fun kv => kV kv.1) = ns.map V.str := by
      have := congrArg (List.map kV) hk
      rw [List.map_map, List.map_map] at this
      exact this
    rw [this]⟩⟩
theorem ge_nil {ns : List Str} (hn : ns = []) : GE (tLst tNil) σ H (GNames ns H) := fun H1 e1 Q q => ⟨sz_of (by simp), fun p hp => q _ _ (Ex.new hp) ⟨p, rfl, fresh_back e1 hp, by rw [upd_same, hn]; rfl⟩⟩
theorem es_names {te : TE} {p : Addr} {ns : List Str} (h : Ev te σ H (.ref p)) (hp : H p = some (.lst (ns.map V.str))) : ES K te σ H (ns.map PyData.str) := es_old h (sq_of hp) (dts_strs ns)
/-- min([(0, n) for n in ..])[1] -/
theorem er_min {te : TE} {ns : List Str} (h : EL K te σ H (ns.map fun n => .tuple [.int 0, .str n])) (hne : ns ≠ []) : ER K (tOp (rIxT K) (tCB (rMinL K) (tCons te tNil)) (tC (.int 1))) σ H fun d => ∃ n ∈ ns, d = .str n := fun H1 e1 Q q =>
  h H1 e1 _ fun p xs H2 hp e2 hx hd => ⟨p, xs, _, rfl, sq_of hx, hd, by simpa using hne, ⟨fun x hx y hy => by
      obtain ⟨a, _, rfl⟩ := List.mem_map.mp hx
      obtain ⟨b, _, rfl⟩ := List.mem_map.mp hy
      rfl, fun x hx e => by
      obtain ⟨a, _, rfl⟩ := List.mem_map.mp hx
      cases e⟩, depth_all fun n _ => by simp [PyData.depth, PyData.depthAll], fun i v hv => by
    obtain ⟨d, h1, h2⟩ := hd.get hv
    rw [List.getElem?_map] at h1
    obtain ⟨n, hn, rfl⟩ := Option.map_eq_some_iff.mp h1
    obtain ⟨a, us, rfl, hs, hu⟩ := h2.tupV
    obtain ⟨u1, u2, rfl, hu1, hu2⟩ := dts2 hu
    exact ⟨a, _, 1, u2, rfl, rfl, hs, rfl, q u2 H2 _ e2 hu2 ⟨n, List.mem_of_getElem? hn, rfl⟩⟩⟩
end
/-- n lies on none of those left -/
def freeC (c : Cs) (left : List Str) (n : Str) : Bool := !((belL c n).map fun p => decide (p.1 ∈ left)).any id
theorem freeC_iff {c : Cs} {left : List Str} {n : Str} : freeC c left n = true ↔ ∀ m ∈ left, ¬ EdgeC c m n := by
  unfold freeC EdgeC
  rw [Bool.not_eq_true', List.any_map, List.any_eq_false]
  constructor
  · rintro h m hm ⟨d, hd⟩
    exact h _ hd (decide_eq_true hm)
  · intro h p hp hc
    exact h p.1 (of_decide_eq_true hc) ⟨p.2, hp⟩
section
variable {P : Program} {w : World} {K : PySem.W.Frag} {mg : Str → Option Value} {base : Heap}
def spPaste (K : PySem.W.Frag) : Sp := fun vs H Q _ => ∃ (c : Cs) (v : V) (ps : Addr) (kvs : List (Key × V)), CSl K c v ps kvs H ∧ vs = [v, .ref ps] ∧
  ∀ a po pr ord rest H2, Ex H H2 → SqT K H2 a [.ref po, .ref pr] → H po = none → H pr = none → H2 po = some (.lst (ord.map V.str)) → H2 pr = some (.lst (rest.map V.str)) → Part (EdgeC c) (nm c.F) ord rest → (∀ n ∈ rest, ∃ m ∈ rest, EdgeC c m n) → Q (.ref a) H2
def PasW (c : Cs) (v : V) (ps pb pr po : Addr) (H1 : Hp) (m : Nat) (σ' : L2.St) (H' : Hp) : Prop := ∃ (mv : Bool) (rest ord : List Str) (y6 y7 : Option V), m = rest.length + (if mv then 1 else 0) ∧ σ' = [some v, some (.ref ps), some (.bl mv), some (.ref pb), some (.ref pr), some (.ref po), y6, y7, none, none, none] ∧ Ex H1 H' ∧
  H' pr = some (.lst (rest.map V.str)) ∧ H' po = some (.lst (ord.map V.str)) ∧ Part (EdgeC c) (nm c.F) ord rest ∧ (mv = false → ∀ n ∈ rest, ∃ m ∈ rest, EdgeC c m n) ∧ ord.length + rest.length ≤ 5
-- 0 case, 1 slots, 2 moved, 3 below, 4 rest, 5 order, 6 free, 7 least, 8 name, 9 own, 10 reason
theorem sc_pasting_order : FnScope ["case", "slots", "moved", "below", "rest", "order", "free", "least", "name", "own", "reason"] ["case", "slots"] (defScope s_pasting_order) := C8.fnScope_by (by decide +kernel)
theorem c_pasting_order (T : Txt K mg) : C8.Cal P w K mg base 8 "pasting_order" (spPaste K) [] := by
  refine cal_of T.d_pasting_order (fun _ _ _ _ _ _ us hu => by match us, hu with | [_, _], _ => rfl) sc_pasting_order (fun vs H Q E h => by obtain ⟨_, _, _, _, _, rfl, _⟩ := h; rfl) fun f cdv A outer s H vs Q E hr h => ?_
  obtain ⟨c, v, ps, kvs, hS, rfl, gv⟩ := h
  have hC := hS.ok
  have hf := hC.fen.few
  have hnl : (nm c.F).length ≤ 5 := by rw [nm_len]; exact hf
  refine ⟨_, (pss_cons (ps_asg (pe_tup (pa_cons (C8.pe_c (c_belows T) hr (by decide) (by rfl) (pa_cons (pv 0) (pa_cons (pv 1) pa_nil))) (pa_cons (pe_callTy (call_list_dK rfl) (by rfl) T.z_list (by decide +kernel) (pa_cons (pv 1) pa_nil)) (pa_cons (pe_lst pa_nil) pa_nil)))) (k_gT K 3 rfl rfl (pgs_cons (pg_name (i := 3) sc_pasting_order.nd rfl (by first | exact Or.inl rfl | exact Or.inr rfl)) (pgs_cons (pg_name (i := 4) sc_pasting_order.nd rfl (by first | exact Or.inl rfl | exact Or.inr rfl)) (pgs_cons (pg_name (i := 5) sc_pasting_order.nd rfl (by first | exact Or.inl rfl | exact Or.inr rfl)) pgs_nil)))))
  (pss_cons (ps_set (i := 2) sc_pasting_order.nd rfl (by first | exact Or.inl rfl | exact Or.inr rfl) pe_bl)
  (pss_cons (ps_while PassesOwn.never (pt_val (pv 2)) (pss_cons (ps_setLc (i := 6) (own := [("name", 8)]) rfl sc_pasting_order.nd rfl rfl (sw_true rfl rfl rfl (by decide +kernel)) (k_piL K rfl (pv 4)) (blkOk_by (by kernel_rfl)) (fun _ _ _ _ _ => (pg_name (i := 8) sc_pasting_order.nd rfl (by first | exact Or.inl rfl | exact Or.inr rfl))) (fun _ _ _ _ _ => (pts_one (pt_not (pt_val (pe_callB (k_any K rfl rfl) (by rfl) T.z_any (by decide +kernel) (pa_cons (pe_lc (own := [("own", 9), ("reason", 10)]) rfl sc_pasting_order.nd (k_piL K rfl (pe_dget (hu_of hr) (pv 3) (pv 8) (fun _ _ => rfl))) (blkOk_by (by kernel_rfl)) (fun _ _ _ _ _ => (k_gT K 2 rfl rfl (pgs_cons (pg_name (i := 9) sc_pasting_order.nd rfl (by first | exact Or.inl rfl | exact Or.inr rfl)) (pgs_cons (pg_name (i := 10) sc_pasting_order.nd rfl (by first | exact Or.inl rfl | exact Or.inr rfl)) pgs_nil)))) (fun _ _ _ _ _ => pts_nil) (fun _ _ _ _ _ => (pe_cmpR (k_in K rfl) (pv 9) (pv 4) (by rfl)))) pa_nil)))))) (fun _ _ _ _ _ => (pv 8)))
  (pss_cons (ps_set (i := 2) sc_pasting_order.nd rfl (by first | exact Or.inl rfl | exact Or.inr rfl) (pe_cmpR op_gt (pe_callB (k_len K rfl) (by rfl) T.z_len (by decide +kernel) (pa_cons (pv 6) pa_nil)) pe_int (nomark _)))
  (pss_one (ps_if (pt_val (pv 2)) (pss_cons (ps_set (i := 7) sc_pasting_order.nd rfl (by first | exact Or.inl rfl | exact Or.inr rfl) (pe_ix (k_ixT K rfl) (pe_callB (k_minL K rfl rfl hr.units) (by rfl) T.z_min (by decide +kernel) (pa_cons (pe_lc (own := [("name", 8)]) rfl sc_pasting_order.nd (k_piL K rfl (pv 6)) (blkOk_by (by kernel_rfl)) (fun _ _ _ _ _ => (pg_name (i := 8) sc_pasting_order.nd rfl (by first | exact Or.inl rfl | exact Or.inr rfl))) (fun _ _ _ _ _ => pts_nil) (fun _ _ _ _ _ => (pe_tup (pa_cons (pe_dget (hu_of hr) (pv 1) (pv 8) (fun _ _ => rfl)) (pa_cons (pv 8) pa_nil))))) pa_nil)) pe_int (fun _ _ => rfl)))
  (pss_cons (ps_expr (pe_bm PySem.F.plainAttrs_list PySem.F.slot_list_append PySem.F.type_list_append mt_append (pv 5) (pa_cons (pv 7) pa_nil)))
  (pss_one (ps_expr (pe_bm PySem.F.plainAttrs_list PySem.F.slot_list_remove PySem.F.type_list_remove mt_removeS (pv 4) (pa_cons (pv 7) pa_nil)))))) pss_nil)))))
  (pss_one (ps_ret (pe_tup (pa_cons (pv 5) (pa_cons (pv 4) pa_nil)))))))), ?_⟩
  refine q_asg3c (ge_belows (K := K) rfl rfl hS) (fun H1 e1 => ge_listD (ns := nm c.F) rfl (e1 _ _ hS.at_) hS.slots.1) (fun H2 e2 => ge_nil (ns := []) rfl) fun x y z H1 H2 H3 H4 e1 e2 e3 e4 ⟨pb, kb, q, hx, hpb, hq, hkb, hDb⟩ ⟨pr, hy, hpr, hlr⟩ ⟨po, hz, hpo, hlo⟩ => ?_
  subst hx hy hz
  have hpo1 : H1 po = none := fresh_back e2 hpo
  have ne : pr ≠ po := fun z => by rw [z, hpo] at hlr; cases hlr
  have hS1 := hS.ex e1
  refine q_asgD (K := K) g_bl fun vb H5 e5 hvb => ?_
  rw [hvb.boolV]
  have e45 := e4.trans e5
  refine q_while (PasW c v ps pb pr po H1) ((nm c.F).length + 1) ⟨true, nm c.F, [], none, none, rfl, rfl, (e2.trans e3).trans e45, (e3.trans e45) _ _ hlr, e45 _ _ hlo, Part.start _ _, nofun, by simpa using hnl⟩
    (fun m σ' H' ⟨mv, rest, ord, y6, y7, hm, hσ, ex, hr', ho, part, hmv, hlen⟩ => ?_)
  subst hσ
  refine ⟨mv, et_B (ev_var rfl), fun hb H6 e6 => ?_, fun hb H6 e6 => ?_⟩
  · subst hb
    rw [if_pos rfl] at hm
    refine ⟨fun σ2 H2 => ∃ m', m' < m ∧ PasW c v ps pb pr po H1 m' σ2 H2, fun _ _ h => h, ?_⟩
    have x6 := ex.trans e6
    have hr6 := e6 _ _ hr'
    have ho6 := e6 _ _ ho
    have hk6 := x6 _ _ hkb
    have hD6 := hDb.ex x6
    have hS6 := hS1.ex x6
    refine q_asgN (K := K) ((l_lcI (xs := rest) (freeC c rest) PyData.str (iv_list (xs := rest) (enc := PyData.str) (es_names (ev_var rfl) hr6)) (fun e => e) (by omega) fun n hn v7 H7 e7 h7 => ?_).is rfl) fun pf fs H7 hpf e7 hlf hfd => ?_
    · have hnm := part.sub hn
      refine trn_name rfl (et_is (et_not (g_testB (g_any (bs := (belL c n).map fun p => decide (p.1 ∈ rest)) (EL.toS ((l_lcI (xs := belL c n) (fun _ => true) (fun p => .bool (decide (p.1 ∈ rest))) (iv_list (xs := belL c n) (enc := enP) (es_dgetL (e7 _ _ hk6) (hD6.ex e7) (ev_var rfl) (g_var rfl h7) hnm)) (fun e => e) (by have := belL_len hC n; omega) fun p hp v8 H8 e8 h8 => ?_).is ?_))))) rfl) fun _ => g_var rfl h7
      · exact trn_t2 h8 fun x y hx hy => ⟨rfl, yes_t, fun _ => g_inL (xs := rest) (g_var rfl hx) (es_names (ev_var rfl) ((e7.trans e8) _ _ hr6))⟩
      · rw [made_all, List.map_map]; rfl
    · have x7 := x6.trans e7
      have hr7 := e7 _ _ hr6
      have ho7 := e7 _ _ ho6
      have hS7 := hS6.ex e7
      have hfs : fs = (rest.filter (freeC c rest)).map V.str := hfd.strs
      subst hfs
      refine q_asgD (d := .bool (decide (0 < (rest.filter (freeC c rest)).length))) ((g_cmpI (K := K) (g := fun i j => decide (j < i)) (g_lenL (es_names (ns := rest.filter (freeC c rest)) (ev_var rfl) hlf)) g_int).is ?_) fun vb H8 e8 hvb => ?_
      · rw [List.length_map]
        congr 1
        exact decide_eq_decide.mpr (by omega)
      · rw [hvb.boolV]
        have hr8 := e8 _ _ hr7
        have ho8 := e8 _ _ ho7
        have x8 := x7.trans e8
        have hS8 := hS7.ex e8
        refine s_when (b := decide (0 < (rest.filter (freeC c rest)).length)) (et_B (ev_var rfl)) (fun hb H9 e9 => ?_) fun hb H9 e9 => ?_
        · have hpos := of_decide_eq_true hb
          have hne : rest.filter (freeC c rest) ≠ [] := fun e => by rw [e] at hpos; exact Nat.lt_irrefl _ hpos
          have hS9 := hS8.ex e9
          refine q_asgR (er_min (ns := rest.filter (freeC c rest)) ((l_lcI (xs := rest.filter (freeC c rest)) (fun _ => true) (fun n => .tuple [.int 0, .str n]) (iv_list (xs := rest.filter (freeC c rest)) (enc := PyData.str) (es_names (ev_var rfl) ((e8.trans e9) _ _ hlf))) (fun e => e) ?_ fun n hn v10 H10 e10 h10 => ?_).is made_all) hne) fun vl H10 d e10 hvl ⟨n, hn, hd⟩ => ?_
          · have := List.length_filter_le (freeC c rest) rest
            omega
          · exact trn_name rfl yes_t fun _ => g_tup (a_cons (g_dget (val := fun _ => .int 0) (e10 _ _ hS9.at_) (hS9.slots.tle (TLe.ex e10)) (ev_var rfl) (g_var rfl h10) (part.sub (List.mem_filter.mp hn).1)) (a_cons (g_var rfl h10) a_nil)) (by simp)
          · subst hd
            obtain rfl := hvl.strV
            obtain ⟨hnr, hnf⟩ := List.mem_filter.mp hn
            have e910 := e9.trans e10
            have hr10 := e910 _ _ hr8
            have ho10 := e910 _ _ ho8
            refine q_appD (d := .str n) ho10 (ev_var rfl) (g_var (K := K) rfl (.str n)) (by rw [List.length_map]; omega) fun w1 H11 e11 hw1 => ?_
            obtain rfl := hw1.strV
            have x11 : Ex H1 (upd H11 po (.lst (ord.map V.str ++ [.str n]))) := Ex.mut ((x8.trans e910).trans e11) hpo1
            have hr11 : (upd H11 po (.lst (ord.map V.str ++ [.str n]))) pr = some (.lst (rest.map V.str)) := by rw [upd_ne ne]; exact e11 _ _ hr10
            have hpart := part.one (fun m n e => edgeC_in hC e) hnr (freeC_iff.mp hnf)
            have hel : (rest.erase n).length = rest.length - 1 := List.length_erase_of_mem hnr
            have hpo' : 0 < rest.length := List.length_pos_of_mem hnr
            refine ⟨.ref pr, rfl, .inl ⟨rfl, _, sq_of hr11⟩, .str n, rfl, pr, rest, n, rfl, rfl, hr11, hnr, ?_⟩
            refine ⟨(rest.erase n).length + 1, by omega, true, rest.erase n, ord ++ [n], some (.ref pf), some (.str n), rfl, ?_, Ex.mut x11 hpr, upd_same, ?_, hpart, nofun, ?_⟩
            · rw [decide_eq_true hpos]; rfl
            · rw [upd_ne fun z => ne z.symm, upd_same, List.map_append]; rfl
            · rw [List.length_append, List.length_singleton]; omega
        · have h0 : ¬ 0 < (rest.filter (freeC c rest)).length := of_decide_eq_false hb
          have hnil : rest.filter (freeC c rest) = [] := List.eq_nil_of_length_eq_zero (by omega)
          refine ⟨rest.length, by omega, false, rest, ord, some (.ref pf), y7, rfl, ?_, x8.trans e9, e9 _ _ hr8, e9 _ _ ho8, part, fun _ n hn => ?_, hlen⟩
          · rw [hb]; rfl
          · rw [List.filter_eq_nil_iff] at hnil
            have := hnil n hn
            rw [freeC_iff] at this
            by_cases h : ∃ m ∈ rest, EdgeC c m n
            · exact h
            · exact absurd (fun m hm e => h ⟨m, hm, e⟩) this
  · refine ⟨.ref po, rfl, .ref pr, rfl, sz_of (by simp), fun p hp => ?_⟩
    have e7 : Ex H6 (upd H6 p (.tup [.ref po, .ref pr])) := Ex.new hp
    have e67 := e6.trans e7
    exact gv p po pr ord rest _ (e1.trans (ex.trans e67)) (st_of upd_same) (fresh_back e1 hpo1) (fresh_back e1 hpr) (e67 _ _ ho) (e67 _ _ hr') part (hmv hb)
end
end K77
set_option maxHeartbeats 1000000
/-! ring_in, a_clash, can_fit, check_fit. -/
namespace K77
open PySem PySem.Spec PyProof.Rows L2 Evl
section
variable {K : PySem.W.Frag} {σ : L2.St} {H : Hp} {D : Ends} {tz : TS} {te ta tb : TE}
theorem ge_names {ns : List Str} (h : EL K te σ H (ns.map PyData.str)) : GE te σ H (GNames ns H) := fun H1 e1 Q q => h H1 e1 Q fun p xs H2 hp e2 hx hd => q _ H2 e2 ⟨p, rfl, fresh_back e1 hp, by rw [hx, hd.strs]⟩
theorem eqS_V (x y : Str) : eqV (V.str x) (V.str y) = decide (x = y) := rfl
theorem g_index {p : Addr} {ns : List Str} {x : Str} (ha : Ev ta σ H (.ref p)) (hp : H p = some (.lst (ns.map V.str))) (h : ED K te σ H (.str x)) (hx : x ∈ ns) : ∃ j : Nat, j ≤ ns.length ∧ ED K (tBM K "list" (rIndex K) ta (tCons te tNil)) σ H (.int (j : Int)) := by
  have hj : ns.idxOf x < ns.length := List.idxOf_lt_length_of_mem hx
  refine ⟨ns.idxOf x, Nat.le_of_lt hj, fun H1 e1 Q q => ha H1 e1 _ fun H2 e2 => ⟨.inl ⟨rfl, _, sq_of ((e1.trans e2) _ _ hp)⟩, h H2 (e1.trans e2) _ fun v H3 e3 hv => ?_⟩⟩
  obtain rfl := hv.strV
  refine ⟨p, _, .str x, ns.idxOf x, .str x, rfl, rfl, sq_of (((e1.trans e2).trans e3) _ _ hp), rfl, flat_ofS ns, ?_, ?_, fun m z' hm hz => ?_, q _ H3 (e2.trans e3) (.int _)⟩
  · rw [List.getElem?_map, List.getElem?_eq_getElem hj, List.getElem_idxOf hj]; rfl
  · rw [eqS_V]; exact decide_eq_true rfl
  · rw [List.getElem?_map] at hz
    obtain ⟨y, hy, rfl⟩ := Option.map_eq_some_iff.mp hz
    rw [eqS_V]
    refine decide_eq_false fun e => ?_
    subst e
    have := idx_le ns m y hy
    omega
theorem r_if {t : TT} {R : PyData → Prop} (h : EvT t σ H true) (h1 : ER K ta σ H R) : ER K (tIf t ta tb) σ H R := fun H1 e Q q => h H1 e _ fun H2 e2 => by
  show ta σ H2 Q
  exact h1 H2 (e.trans e2) Q fun v H3 d e3 => q v H3 d (e2.trans e3)
end
section
variable {P : Program} {w : World} {K : PySem.W.Frag} {mg : Str → Option Value} {base : Heap}
/-! ring_in -/
def spRing (K : PySem.W.Frag) : Sp := fun vs H Q _ => ∃ (c : Cs) (v : V) (ps pr : Addr) (kvs : List (Key × V)) (rest : List Str), CSl K c v ps kvs H ∧ vs = [v, .ref ps, .ref pr] ∧ H pr = some (.lst (rest.map V.str)) ∧ rest ≠ [] ∧ rest.length ≤ 5 ∧ (∀ n ∈ rest, n ∈ nm c.F) ∧ (∀ n ∈ rest, ∃ m ∈ rest, EdgeC c m n) ∧
  ∀ v ds H2, Ex H H2 → Dt K H2 v (.tuple ds) → Q v H2
def RinW (K : PySem.W.Frag) (v : V) (ps pr pb pw pz : Addr) (rest : List Str) (H1 : Hp) (m : Nat) (σ' : L2.St) (H' : Hp) : Prop := ∃ (init : List Str) (l : Str) (zs : List V) (ds : List PyData) (y7 y8 : Option V), m = 6 - init.length ∧ σ' = [some v, some (.ref ps), some (.ref pr), none, some (.ref pb), some (.ref pw), some (.ref pz), y7, y8, none, none] ∧ Ex H1 H' ∧
  H' pw = some (.lst ((init ++ [l]).map V.str)) ∧ H' pz = some (.lst zs) ∧ Dts K H' zs ds ∧ init.Nodup ∧ (∀ n ∈ init, n ∈ rest) ∧ l ∈ rest ∧ ds.length ≤ 10 + init.length
theorem g_last {σ : L2.St} {H : Hp} {i : Nat} {pw : Addr} {init : List Str} {l : Str} (h : σ[i]? = some (some (.ref pw))) (hw : H pw = some (.lst ((init ++ [l]).map V.str))) : ED K (tOp (rIxL K) (tVar i) (tUn (rU fun i => .int (-i)) (tC (.int 1)))) σ H (.str l) :=
  g_ixL (es_names (ev_var h) hw) (g_ofInt (ev_un ev_c ru_neg)) (ixN_last (by simp)) (by simp [List.getElem?_append_right])
-- 0 case, 1 slots, 2 rest, 3 first, 4 below, 5 row, 6 reasons, 7 lower, 8 reason, 9 pair, 10 name
theorem sc_ring_in : FnScope ["case", "slots", "rest", "first", "below", "row", "reasons", "lower", "reason", "pair", "name"] ["case", "slots", "rest"] (defScope s_ring_in) := C8.fnScope_by (by decide +kernel)
theorem c_ring_in (T : Txt K mg) : C8.Cal P w K mg base 8 "ring_in" (spRing K) [] := by
  refine cal_of T.d_ring_in (fun _ _ _ _ _ _ us hu => by match us, hu with | [_, _, _], _ => rfl) sc_ring_in (fun vs H Q E h => by obtain ⟨_, _, _, _, _, _, _, rfl, _⟩ := h; rfl) fun f cdv A outer s H vs Q E hr h => ?_
  obtain ⟨c, v, ps, pr, kvs, rest, hS, rfl, hpr, hne, hl5, hsub, hlow, gv⟩ := h
  have hC := hS.ok
  obtain ⟨r0, rt, rfl⟩ : ∃ r0 rt, rest = r0 :: rt := by
    cases rest with
    | nil => exact absurd rfl hne
    | cons a b => exact ⟨a, b, rfl⟩
  refine ⟨_, (pss_cons (ps_par3 (i := 4) (j := 5) (l := 6) rfl sc_ring_in.nd rfl rfl rfl (by decide) (by decide) (by decide) rfl rfl rfl (pa_cons (C8.pe_c (c_belows T) hr (by decide) (by rfl) (pa_cons (pv 0) (pa_cons (pv 1) pa_nil))) (pa_cons (pe_lst (pa_cons (pe_ix (k_ixL K rfl) (pv 2) pe_int (fun _ _ => rfl)) pa_nil)) (pa_cons (pe_lst pa_nil) pa_nil))) rfl)
  (pss_cons (ps_while PassesOwn.never (pt_cmpR (k_notIn K rfl) (pe_ix (k_ixL K rfl) (pv 5) (pe_un un_neg pe_int) (fun _ _ => rfl)) (pe_slice (k_slL K rfl) (pv 5) po_none (po_some (pe_un un_neg pe_int))) (by rfl)) (pss_cons (ps_asg (pe_ix (k_ixL K rfl) (pe_lc (own := [("pair", 9)]) rfl sc_ring_in.nd (k_piL K rfl (pe_dget (hu_of hr) (pv 4) (pe_ix (k_ixL K rfl) (pv 5) (pe_un un_neg pe_int) (fun _ _ => rfl)) (fun _ _ => rfl))) (blkOk_by (by kernel_rfl)) (fun _ _ _ _ _ => (pg_name (i := 9) sc_ring_in.nd rfl (by first | exact Or.inl rfl | exact Or.inr rfl))) (fun _ _ _ _ _ => (pts_one (pt_cmpR (k_in K rfl) (pe_ix (k_ixT K rfl) (pv 9) pe_int (fun _ _ => rfl)) (pv 2) (by rfl)))) (fun _ _ _ _ _ => (pv 9))) pe_int (fun _ _ => rfl)) (k_gT K 2 rfl rfl (pgs_cons (pg_name (i := 7) sc_ring_in.nd rfl (by first | exact Or.inl rfl | exact Or.inr rfl)) (pgs_cons (pg_name (i := 8) sc_ring_in.nd rfl (by first | exact Or.inl rfl | exact Or.inr rfl)) pgs_nil))))
  (pss_cons (ps_expr (pe_bm PySem.F.plainAttrs_list PySem.F.slot_list_append PySem.F.type_list_append mt_append (pv 5) (pa_cons (pv 7) pa_nil)))
  (pss_one (ps_expr (pe_bm PySem.F.plainAttrs_list PySem.F.slot_list_append PySem.F.type_list_append mt_append (pv 6) (pa_cons (pv 8) pa_nil)))))))
  (pss_cons (ps_set (i := 3) sc_ring_in.nd rfl (by first | exact Or.inl rfl | exact Or.inr rfl) (pe_bm PySem.F.plainAttrs_list PySem.F.slot_list_index PySem.F.type_list_index mt_index (pv 5) (pa_cons (pe_ix (k_ixL K rfl) (pv 5) (pe_un un_neg pe_int) (fun _ _ => rfl)) pa_nil)))
  (pss_one (ps_ret (pe_callTy (k_tupOf K rfl) (by rfl) T.z_tuple (by decide +kernel) (pa_cons (pe_lc (own := [("name", 10), ("reason", 8)]) rfl sc_ring_in.nd (k_zip K rfl (by rfl) T.z_zip (pa_cons (pe_slice (k_slL K rfl) (pv 5) (po_some (pv 3)) po_none) (pa_cons (pe_slice (k_slL K rfl) (pv 6) (po_some (pv 3)) po_none) pa_nil))) (blkOk_by (by kernel_rfl)) (fun _ _ _ _ _ => (k_gT K 2 rfl rfl (pgs_cons (pg_name (i := 10) sc_ring_in.nd rfl (by first | exact Or.inl rfl | exact Or.inr rfl)) (pgs_cons (pg_name (i := 8) sc_ring_in.nd rfl (by first | exact Or.inl rfl | exact Or.inr rfl)) pgs_nil)))) (fun _ _ _ _ _ => pts_nil) (fun _ _ _ _ _ => (pe_tup (pa_cons (pv 10) (pa_cons (pv 8) pa_nil))))) pa_nil))))))), ?_⟩
  refine q_par3c (ge_belows (K := K) rfl rfl hS) (fun H1 e1 => ge_names (ns := [r0]) (l_lst (a_cons (g_ixL (i := 0) (j := 0) (es_names (ns := r0 :: rt) (ev_var rfl) (e1 _ _ hpr)) g_int (ixN_at (j := 0) (by simp)) rfl) a_nil) (by simp))) (fun H2 e2 => ge_nil (ns := []) rfl) fun x y z H1 H2 H3 e1 e2 e3 ⟨pb, kb, q, hx, hpb, hq, hkb, hDb⟩ ⟨pw, hy, hpw, hlw⟩ ⟨pz, hz, hpz, hlz⟩ => ?_
  subst hx hy hz
  have hpz1 : H1 pz = none := fresh_back e2 hpz
  have ne : pw ≠ pz := fun z => by rw [z, hpz] at hlw; cases hlw
  have hpr1 := e1 _ _ hpr
  refine q_while (RinW K v ps pr pb pw pz (r0 :: rt) H1) 6 ⟨[], r0, [], [], none, none, rfl, rfl, e2.trans e3, e3 _ _ hlw, hlz, .nil, List.nodup_nil, nofun, List.mem_cons_self, by simp⟩
    (fun m σ' H' ⟨init, l, zs, ds, y7, y8, hm, hσ, ex, hw, hz, hzd, hnd, hin, hl, hdl⟩ => ?_)
  subst hσ
  have hil : init.length ≤ 5 := by
    have := List.Nodup.length_le_of_subset hnd (fun x hx => hin x hx : init ⊆ r0 :: rt)
    omega
  refine ⟨!decide (l ∈ init), g_test (g_notInL (xs := init) (g_last rfl hw) (EL.toS ((l_slL (es_names (ns := init ++ [l]) (ev_var rfl) hw) eo_none (eo_some (ev_un ev_c ru_neg))).is ?_))), fun hb H6 e6 => ?_, fun hb H6 e6 => ?_⟩
  · rw [cutD_last, List.map_append]
    exact List.dropLast_concat
  · have hnl : l ∉ init := by simpa using hb
    refine ⟨fun σ2 H2 => ∃ m', m' < m ∧ RinW K v ps pr pb pw pz (r0 :: rt) H1 m' σ2 H2, fun _ _ h => h, ?_⟩
    have x6 := ex.trans e6
    have hr6 := x6 _ _ hpr1
    have hw6 := e6 _ _ hw
    have hz6 := e6 _ _ hz
    have hk6 := x6 _ _ hkb
    have hD6 := hDb.ex x6
    have hln := hsub l hl
    obtain ⟨m1, hm1, dd, hmd⟩ := hlow l hl
    obtain ⟨p0, ptl, hfil⟩ : ∃ p0 ptl, (belL c l).filter (fun p => decide (p.1 ∈ r0 :: rt)) = p0 :: ptl := by
      cases hfil : (belL c l).filter (fun p => decide (p.1 ∈ r0 :: rt)) with
      | nil =>
        rw [List.filter_eq_nil_iff] at hfil
        exact absurd (decide_eq_true hm1) (hfil _ hmd)
      | cons a b => exact ⟨a, b, rfl⟩
    have hp0 : p0 ∈ belL c l ∧ p0.1 ∈ r0 :: rt := by
      have : p0 ∈ (belL c l).filter (fun p => decide (p.1 ∈ r0 :: rt)) := by rw [hfil]; exact List.mem_cons_self
      obtain ⟨h1, h2⟩ := List.mem_filter.mp this
      exact ⟨h1, of_decide_eq_true h2⟩
    obtain ⟨m2, d2⟩ := p0
    refine q_asgT (K := K) (ds := [.str m2, d2]) (g_ixL (i := 0) (j := 0) (EL.toS (l_lcI (xs := belL c l) (fun p => decide (p.1 ∈ r0 :: rt)) enP (iv_list (xs := belL c l) (enc := enP) (es_dgetL hk6 hD6 (ev_var rfl) (g_last rfl hw6) hln)) (fun e => e) (by have := belL_len hC l; omega) fun p hp v8 H8 e8 h8 => trn_name rfl (g_test (g_inL (xs := r0 :: rt) (g_ixk (k := 0) (g_var rfl h8) rfl) (es_names (ev_var rfl) (e8 _ _ hr6)))) fun _ => g_var rfl h8)) g_int (ixN_at (j := 0) ?_) ?_) rfl fun ws H7 e7 hws => ?_
    · unfold made; rw [hfil]; simp
    · unfold made; rw [hfil]; rfl
    obtain ⟨w1, w2, rfl, hw1, hw2⟩ := dts2 hws
    obtain rfl := hw1.strV
    refine ⟨_, [w2], rfl, _, [], rfl, rfl, ?_⟩
    have x7 := x6.trans e7
    refine q_appD (d := .str m2) (e7 _ _ hw6) (ev_var rfl) (g_var (K := K) rfl (.str m2)) (by rw [List.length_map, List.length_append, List.length_singleton]; omega) fun u1 H8 e8 hu1 => ?_
    obtain rfl := hu1.strV
    have hw8 := e8 _ _ (e7 _ _ hw6)
    have t8 : TLe K H8 (upd H8 pw (.lst ((init ++ [l]).map V.str ++ [.str m2]))) := TLe.lst hw8
    have x8 : Ex H1 (upd H8 pw (.lst ((init ++ [l]).map V.str ++ [.str m2]))) := Ex.mut (x7.trans e8) (fresh_back (Ex.refl _) hpw)
    have hz8 : (upd H8 pw (.lst ((init ++ [l]).map V.str ++ [.str m2]))) pz = some (.lst zs) := by
      rw [upd_ne fun z => ne z.symm]
      exact e8 _ _ (e7 _ _ hz6)
    refine s_appD (d := d2) hz8 (ev_var rfl) (g_var (K := K) rfl ((hw2.ex e8).mono t8)) (by rw [hzd.length]; omega) fun u2 H9 e9 hu2 => ?_
    have hz9 := e9 _ _ hz8
    have t9 : TLe K H9 (upd H9 pz (.lst (zs ++ [u2]))) := TLe.lst hz9
    refine ⟨6 - (init ++ [l]).length, by rw [List.length_append, List.length_singleton]; omega, init ++ [l], m2, zs ++ [u2], ds ++ [d2], _, _, rfl, rfl, Ex.mut (x8.trans e9) hpz1, ?_, upd_same, ?_, ?_, ?_, hp0.2, ?_⟩
    · rw [upd_ne ne, e9 _ _ upd_same, List.map_append (l₁ := init ++ [l])]; rfl
    · exact ((((hzd.ex (e6.trans (e7.trans e8))).mono t8).ex e9).mono t9).append (.cons (hu2.mono t9) .nil)
    · rw [List.nodup_append]
      exact ⟨hnd, by simp, fun a ha b hb e => by rw [List.mem_singleton.mp hb] at e; exact hnl (e ▸ ha)⟩
    · intro n hn
      rcases List.mem_append.mp hn with hn | hn
      · exact hin n hn
      · rw [List.mem_singleton.mp hn]; exact hl
    · rw [List.length_append, List.length_append, List.length_singleton, List.length_singleton]; omega
  · have hli : l ∈ init := by simpa using hb
    have hw6 := e6 _ _ hw
    obtain ⟨j, hj, gj⟩ := g_index (K := K) (σ := [some v, some (.ref ps), some (.ref pr), none, some (.ref pb), some (.ref pw), some (.ref pz), y7, y8, none, none]) (ta := tVar 5) (ev_var rfl) hw6 (g_last (i := 5) rfl hw6) (List.mem_append_left [l] hli)
    refine q_asgD gj fun vj H7 e7 hvj => ?_
    have hw7 := e7 _ _ hw6
    have hz7 := (e6.trans e7) _ _ hz
    have hzd7 := hzd.ex (e6.trans e7)
    refine s_retD (g_tupleOf (EL.toS (l_lcI (K := K) (xs := (cutD ((init ++ [l]).map PyData.str) (some (j : Int)) none).zip (cutD ds (some (j : Int)) none)) (fun _ => true) (fun p => .tuple [p.1, p.2]) (iv_zipL (enc := id) (enc2 := id) (eal2 (EL.toS ((l_slL (es_names (ns := init ++ [l]) (ev_var rfl) hw7) (eo_some (g_var rfl hvj).int) eo_none).is (List.map_id _).symm)) (EL.toS ((l_slL (es_old (ev_var rfl) (sq_of hz7) hzd7) (eo_some (g_var rfl hvj).int) eo_none).is (List.map_id _).symm)))) (fun e => e) ?_ fun p hp v8 H8 e8 h8 => trn_t2 h8 fun x y hx hy => ⟨rfl, yes_t, fun _ => g_tup (a_cons (g_var rfl hx) (a_cons (g_var rfl hy) a_nil)) (by simp)⟩))) fun v9 H9 e9 h9 => gv v9 _ H9 (e1.trans (ex.trans (e6.trans (e7.trans e9)))) h9
    rw [List.length_zip, cutD_from, List.length_drop, List.length_map, List.length_append, List.length_singleton]
    omega
end
end K77
set_option maxHeartbeats 1000000
/-! a_clash, can_fit, check_fit. -/
namespace K77
open PySem PySem.Spec PyProof.Rows L2 Evl
section
variable {P : Program} {w : World} {K : PySem.W.Frag} {mg : Str → Option Value} {base : Heap}
section
variable {σ : L2.St} {H : Hp} {D : Ends} {tz : TS}
theorem q_settled {i j k : Nat} {E : XK} {c : Cs} {v : V} (h1 : σ[i]? = some (some v)) (hC : COk c) (hv : Dt K H v (csD c)) (kk : ∀ ps pt kvs zs ds H2, Ex H H2 → CSl K c v ps kvs H2 → H2 pt = some (.lst zs) → Dts K H2 zs ds → ds.length ≤ 1000 → tz D ((σ.set j (some (.ref ps))).set k (some (.ref pt))) H2) :
    tSeq (tAsg (tCall (spSettled K) [] E (tCons (tVar i) tNil)) (gTup K 2 (gCons (gName j) (gCons (gName k) gNil)))) tz D σ H :=
  ⟨v, h1, c, hC, .cons hv .nil, fun a ps pt kvs zs ds H2 e hs _ _ hk hD hl hd hn => ⟨a, _, rfl, hs, rfl, _, [_], rfl, _, [], rfl, rfl, kk ps pt kvs zs ds H2 e ⟨hC, hv.ex e, hk, hD⟩ hl hd hn⟩⟩
theorem q_settled0 {i j : Nat} {E : XK} {c : Cs} {v : V} (h1 : σ[i]? = some (some v)) (hC : COk c) (hv : Dt K H v (csD c)) (kk : ∀ ps kvs H2, Ex H H2 → CSl K c v ps kvs H2 → tz D (σ.set j (some (.ref ps))) H2) :
    tSeq (tAsg (tOp (rIxT K) (tCall (spSettled K) [] E (tCons (tVar i) tNil)) (tC (.int 0))) (gName j)) tz D σ H :=
  ⟨v, h1, c, hC, .cons hv .nil, fun a ps pt kvs zs ds H2 e hs _ _ hk hD hl hd hn => ⟨a, _, 0, _, rfl, rfl, hs, rfl, kk ps kvs H2 e ⟨hC, hv.ex e, hk, hD⟩⟩⟩
theorem q_paste {i j k l : Nat} {E : XK} {c : Cs} {v : V} {ps : Addr} {kvs : List (Key × V)} (h1 : σ[i]? = some (some v)) (h2 : σ[j]? = some (some (.ref ps))) (hS : CSl K c v ps kvs H) (kk : ∀ po pr ord rest H2, Ex H H2 → H2 po = some (.lst (ord.map V.str)) → H2 pr = some (.lst (rest.map V.str)) → Part (EdgeC c) (nm c.F) ord rest → (∀ n ∈ rest, ∃ m ∈ rest, EdgeC c m n) → tz D ((σ.set k (some (.ref po))).set l (some (.ref pr))) H2) :
    tSeq (tAsg (tCall (spPaste K) [] E (tCons (tVar i) (tCons (tVar j) tNil))) (gTup K 2 (gCons (gName k) (gCons (gName l) gNil)))) tz D σ H :=
  ⟨v, h1, .ref ps, h2, c, v, ps, kvs, hS, rfl, fun a po pr ord rest H2 e hs _ _ ho hr pt st => ⟨a, _, rfl, hs, rfl, _, [_], rfl, _, [], rfl, rfl, kk po pr ord rest H2 e ho hr pt st⟩⟩
theorem r_ring {i j k : Nat} {E : XK} {c : Cs} {v : V} {ps pr : Addr} {kvs : List (Key × V)} {rest : List Str} (h1 : σ[i]? = some (some v)) (h2 : σ[j]? = some (some (.ref ps))) (h3 : σ[k]? = some (some (.ref pr))) (hS : CSl K c v ps kvs H) (hpr : H pr = some (.lst (rest.map V.str))) (hne : rest ≠ []) (hl : rest.length ≤ 5) (hsub : ∀ n ∈ rest, n ∈ nm c.F) (hlow : ∀ n ∈ rest, ∃ m ∈ rest, EdgeC c m n) :
    ER K (tCall (spRing K) [] E (tCons (tVar i) (tCons (tVar j) (tCons (tVar k) tNil)))) σ H fun d => ∃ ds, d = .tuple ds := fun H1 e1 Q q =>
  ⟨v, h1, .ref ps, h2, .ref pr, h3, c, v, ps, pr, kvs, rest, hS.ex e1, rfl, e1 _ _ hpr, hne, hl, hsub, hlow, fun v ds H2 e2 hd => q v H2 _ e2 hd ⟨ds, rfl⟩⟩
end
def ClashRes (c : Cs) (d : PyData) : Prop := (d = .none ↔ FitC c) ∧ (d = .none ∨ ∃ ds, d = .tuple ds)
theorem clash_bad {c : Cs} {ds : List PyData} (h : ¬ FitC c) : ClashRes c (.tuple ds) := ⟨⟨nofun, fun z => absurd z h⟩, .inr ⟨ds, rfl⟩⟩
def AclW (v a4 a5 a6 a7 : V) (ps pt : Addr) (H1 H3 : Hp) (Pp : Prop) (σ' : L2.St) (H' : Hp) : Prop := Ex H3 H' ∧ Ex H1 H' ∧ (∃ y1, σ' = [some v, y1, some (.ref ps), some (.ref pt), some a4, some a5, some a6, some a7, none, none, none]) ∧ Pp
-- 0 case, 1 part, 2 slots, 3 steps, 4 fence, 5 photos, 6 told, 7 facts, 8 order, 9 rest, 10 own
theorem sc_a_clash : FnScope ["case", "part", "slots", "steps", "fence", "photos", "told", "facts", "order", "rest", "own"] ["case"] (defScope s_a_clash) := C8.fnScope_by (by decide +kernel)
theorem c_a_clash (T : Txt K mg) : C8.Cal P w K mg base 9 "a_clash" (spR K (fun c : Cs => [csD c]) COk ClashRes) [] := by
  refine cal_of T.d_a_clash (fun _ _ _ _ _ _ us hu => by match us, hu with | [_], _ => rfl) sc_a_clash (spR_len fun _ => rfl) fun f cdv A outer s H vs Q E hr h => ?_
  obtain ⟨c, hC, hd, gv⟩ := h
  dsimp only at hC hd gv
  obtain ⟨v, rfl, hv⟩ := dts1 hd
  have hf := hC.fen.few
  have h100 : c.F.length ≤ 100 := by omega
  have hnl : (nm c.F).length ≤ 5 := by rw [nm_len]; exact hf
  refine ⟨_, (pss_cons (ps_asg (C8.pe_c (c_settled T) hr (by decide) (by rfl) (pa_cons (pv 0) pa_nil)) (k_gT K 2 rfl rfl (pgs_cons (pg_name (i := 2) sc_a_clash.nd rfl (by first | exact Or.inl rfl | exact Or.inr rfl)) (pgs_cons (pg_name (i := 3) sc_a_clash.nd rfl (by first | exact Or.inl rfl | exact Or.inr rfl)) pgs_nil))))
  (pss_cons (ps_asg (C8.pe_c (c_tupled T) hr (by decide) (by rfl) (pa_cons (pv 0) pa_nil)) (k_gT K 4 rfl rfl (pgs_cons (pg_name (i := 4) sc_a_clash.nd rfl (by first | exact Or.inl rfl | exact Or.inr rfl)) (pgs_cons (pg_name (i := 5) sc_a_clash.nd rfl (by first | exact Or.inl rfl | exact Or.inr rfl)) (pgs_cons (pg_name (i := 6) sc_a_clash.nd rfl (by first | exact Or.inl rfl | exact Or.inr rfl)) (pgs_cons (pg_name (i := 7) sc_a_clash.nd rfl (by first | exact Or.inl rfl | exact Or.inr rfl)) pgs_nil))))))
  (pss_cons (ps_for PassesOwn.never rfl (k_piT K rfl (pv 6)) (pg_name (i := 1) sc_a_clash.nd rfl (by first | exact Or.inl rfl | exact Or.inr rfl)) (pss_one (ps_if (PW.pt (pw_and (pt_cmpR op_eq (pe_ix (k_ixT K rfl) (pv 1) pe_int (fun _ _ => rfl)) (pe_gs T.g_BARE (by rfl)) (nomark _)) (pw_and1 (pt_val (pe_callB (k_any K rfl rfl) (by rfl) T.z_any (by decide +kernel) (pa_cons (pe_lc (own := [("own", 10)]) rfl sc_a_clash.nd (k_piT K rfl (C8.pe_c (c_over T) hr (by decide) (by rfl) (pa_cons (pv 4) (pa_cons (pe_ix (k_ixT K rfl) (pv 1) pe_int (fun _ _ => rfl)) pa_nil)))) (blkOk_by (by kernel_rfl)) (fun _ _ _ _ _ => (pg_name (i := 10) sc_a_clash.nd rfl (by first | exact Or.inl rfl | exact Or.inr rfl))) (fun _ _ _ _ _ => pts_nil) (fun _ _ _ _ _ => (pe_cmpR op_le (pe_dget (hu_of hr) (pv 2) (pv 10) (fun _ _ => rfl)) (pe_ix (k_ixT K rfl) (pv 1) pe_int (fun _ _ => rfl)) (nomark _)))) pa_nil)))))) (pss_one (ps_ret (pe_tup (pa_cons (pe_callTy (k_tupOf K rfl) (by rfl) T.z_tuple (by decide +kernel) (pa_cons (pv 3) pa_nil)) (pa_cons (pv 1) pa_nil))))) pss_nil)))
  (pss_cons (ps_for PassesOwn.never rfl (k_piT K rfl (pv 7)) (pg_name (i := 1) sc_a_clash.nd rfl (by first | exact Or.inl rfl | exact Or.inr rfl)) (pss_one (ps_if (PW.pt (pw_and (pt_cmpR op_eq (pe_ix (k_ixT K rfl) (pv 1) pe_int (fun _ _ => rfl)) (pe_gs T.g_NOT (by rfl)) (nomark _)) (pw_and1 (pt_cmpR op_le (pe_dget (hu_of hr) (pv 2) (pe_ix (k_ixT K rfl) (pv 1) pe_int (fun _ _ => rfl)) (fun _ _ => rfl)) (pe_ix (k_ixT K rfl) (pv 1) pe_int (fun _ _ => rfl)) (nomark _))))) (pss_one (ps_ret (pe_tup (pa_cons (pe_callTy (k_tupOf K rfl) (by rfl) T.z_tuple (by decide +kernel) (pa_cons (pv 3) pa_nil)) (pa_cons (pv 1) pa_nil))))) pss_nil)))
  (pss_cons (ps_asg (C8.pe_c (c_pasting_order T) hr (by decide) (by rfl) (pa_cons (pv 0) (pa_cons (pv 2) pa_nil))) (k_gT K 2 rfl rfl (pgs_cons (pg_name (i := 8) sc_a_clash.nd rfl (by first | exact Or.inl rfl | exact Or.inr rfl)) (pgs_cons (pg_name (i := 9) sc_a_clash.nd rfl (by first | exact Or.inl rfl | exact Or.inr rfl)) pgs_nil))))
  (pss_one (ps_ret (pe_ifExp (pt_cmpR op_gt (pe_callB (k_len K rfl) (by rfl) T.z_len (by decide +kernel) (pa_cons (pv 9) pa_nil)) pe_int (nomark _)) (pe_tup (pa_cons (pe_callTy (k_tupOf K rfl) (by rfl) T.z_tuple (by decide +kernel) (pa_cons (pv 3) pa_nil)) (pa_cons (C8.pe_c (c_ring_in T) hr (by decide) (by rfl) (pa_cons (pv 0) (pa_cons (pv 2) (pa_cons (pv 9) pa_nil)))) pa_nil))) pe_non)))))))), ?_⟩
  refine q_settled (K := K) rfl hC hv fun ps pt kvs zs ds H1 e1 hS hpt hzd hn => ?_
  refine q_asgN4 (g_call (a_cons (g_var rfl hS.case) a_nil) (spD_use (csD c) (ok_cs hC))) fun a4 a5 a6 a7 H2 e2 g4 g5 g6 g7 => ?_
  have steps : ∀ {σ' H'}, Ex H2 H' → σ'[3]? = some (some (.ref pt)) → ED K (tCB (fun xs H Q => ∃ p ys, xs = [.ref p] ∧ ((SqL K H p ys ∧ ∀ l, H l = none → Q (.ref l) (upd H l (.tup ys))) ∨ (SqT K H p ys ∧ Q (.ref p) H))) (tCons (tVar 3) tNil)) σ' H' (.tuple ds) := fun e h => g_tupleOf (es_old (ev_var h) (sq_of ((e2.trans e) _ _ hpt)) (hzd.ex (e2.trans e)))
  refine q_forI (iv_tup (xs := c.told) (enc := teD) (g_var rfl g6)).ex (fun H3 i => AclW v a4 a5 a6 a7 ps pt H2 H3 (∀ t ∈ c.told.take i, t.2 = "-" → ov c.F t.1 = []))
    (fun H3 e3 => ⟨Ex.refl _, e3, ⟨_, rfl⟩, nofun⟩) (fun H3 i σ' H' _ h => h.1) (fun H3 i x v1 σ' H' H4 e3 hx ⟨t, ex, ⟨y1, hσ⟩, hp⟩ e4 hr => ?_) fun H3 σ' H' e3 ⟨t, ex, ⟨y1, hσ⟩, hp⟩ => ?_
  · subst hσ
    obtain ⟨cell, n⟩ := x
    have hmem := List.mem_of_getElem? hx
    have x4 := ex.trans e4
    have hS4 := hS.ex (e2.trans x4)
    refine s_when (b := decide (n = "-") && ((ov c.F cell).map fun _ => decide ((0 : Int) ≤ 0)).any id) (et_and (g_test (g_eqS (K := K) (g_ixk (k := 2) (g_var rfl hr) rfl) g_str)) fun _ => g_testB (g_any (bs := (ov c.F cell).map fun _ => decide ((0 : Int) ≤ 0)) (EL.toS ((l_lcI (xs := ov c.F cell) (fun _ => true) (fun _ => .bool (decide ((0 : Int) ≤ 0))) (iv_tup (xs := ov c.F cell) (enc := PyData.str) (g_call (a_cons (g_var rfl (g4.ex x4)) (a_cons (g_ixk (k := 1) (g_var rfl hr) rfl) a_nil)) (spD_use (c.F, cell) h100))) TLe.ex (by have := ov_len c.F cell; omega) fun o ho v8 H8 e8 h8 => ?_).is ?_)))) (fun hb H5 e5 => ?_) fun hb H5 e5 => ?_
    · exact trn_name rfl yes_t fun _ => g_cmpI (g := fun i j => decide (i ≤ j)) (g_dget (val := fun _ => .int 0) (e8 _ _ hS4.at_) (hS4.slots.tle (TLe.ex e8)) (ev_var rfl) (g_var rfl h8) (ov_nm ho)) (g_ixk (k := 0) (g_var rfl (hr.ex e8)) rfl)
    · rw [made_all, List.map_map]; rfl
    · rw [Bool.and_eq_true, decide_eq_true_eq] at hb
      refine s_retD (g_tup (a_cons (steps (x4.trans e5) rfl) (a_cons (g_var rfl (hr.ex e5)) a_nil)) (by simp)) fun v9 H9 e9 h9 => gv v9 H9 _ (e1.trans (e2.trans (x4.trans (e5.trans e9)))) h9 (clash_bad fun fit => ?_)
      have := fit.1 _ hmem hb.1
      dsimp only at this
      rw [this] at hb
      exact absurd hb.2 (by simp)
    · refine ⟨t.trans (e4.trans e5), ex.trans (e4.trans e5), ⟨_, rfl⟩, fun u hu hub => ?_⟩
      rw [take_succ hx] at hu
      rcases List.mem_append.mp hu with hu | hu
      · exact hp u hu hub
      · rw [List.mem_singleton.mp hu] at hub ⊢
        dsimp only at hub ⊢
        rw [hub] at hb
        cases hov : ov c.F cell with
        | nil => rfl
        | cons a l => rw [hov] at hb; simp at hb
  · subst hσ
    rw [List.take_length] at hp
    have exA := ex
    refine q_forI (iv_tup (xs := c.facts) (enc := faD) (g_var rfl (g7.ex ex))).ex (fun H3 i => AclW v a4 a5 a6 a7 ps pt H2 H3 True)
      (fun H3 e3 => ⟨Ex.refl _, ex.trans e3, ⟨_, rfl⟩, trivial⟩) (fun H3 i σ' H' _ h => h.1) (fun H3 i x v1 σ' H' H4 e3 hx ⟨t, ex, ⟨y1, hσ⟩, _⟩ e4 hr => ?_) fun H3 σ' H' e3 ⟨t, ex, ⟨y1, hσ⟩, _⟩ => ?_
    · subst hσ
      have no : ∃ x0 : Str, (∃ r, faD x = .tuple (.str x0 :: r)) ∧ decide (x0 = "not") = false := by
        cases x with
        | there n => exact ⟨"there", ⟨_, rfl⟩, by decide⟩
        | before a b => exact ⟨"before", ⟨_, rfl⟩, by decide⟩
      obtain ⟨x0, ⟨r, hx0⟩, hno⟩ := no
      rw [show RD K faD H4 v1 x = Dt K H4 v1 (faD x) from rfl, hx0] at hr
      refine s_when (b := false) (et_is (et_and (b := false) (g_test (g_eqS (K := K) (g_ixk (k := 0) (g_var rfl hr) rfl) (g_str (x := "not")))) fun h => by rw [hno] at h; cases h) (by rw [hno]; rfl)) (fun h => nomatch h) fun _ H5 e5 => ⟨t.trans (e4.trans e5), ex.trans (e4.trans e5), ⟨_, rfl⟩, trivial⟩
    · subst hσ
      have hS4 := hS.ex (e2.trans ex)
      refine q_paste (K := K) rfl rfl hS4 fun po pr ord rest H5 e5 ho hr5 part low => ?_
      have hlen : rest.length ≤ 5 := by
        have := part.perm.length_eq
        rw [List.length_append] at this
        omega
      by_cases hre : rest = []
      · subst hre
        refine s_retD (d := .none) (g_if (b := false) (et_is (g_test (g_cmpI (K := K) (g := fun i j => decide (j < i)) (g_lenL (es_names (ns := []) (ev_var rfl) hr5)) g_int)) (by simp)) (fun h => nomatch h) fun _ => g_non) fun v9 H9 e9 h9 => gv v9 H9 _ (e1.trans (e2.trans (ex.trans (e5.trans e9)))) h9 ⟨⟨fun _ => ⟨hp, ?_⟩, fun _ => rfl⟩, .inl rfl⟩
        refine topo_acyc hC.fen.nd ?_ part.topo
        have := part.perm
        rwa [List.append_nil] at this
      · have hpos : 0 < rest.length := List.length_pos_iff.mpr hre
        refine s_retR (r_if (et_is (g_test (g_cmpI (K := K) (g := fun i j => decide (j < i)) (g_lenL (es_names (ns := rest) (ev_var rfl) hr5)) g_int)) ?_) (r_tup (ear_D (steps (ex.trans e5) rfl) (ear_R (r_ring rfl rfl rfl (hS4.ex e5) hr5 hre hlen (fun n hn => part.sub hn) low) (ear_of a_nil))) ?_)) fun v9 H9 d e9 h9 ⟨es, hes, _⟩ => ?_
        · rw [List.length_map]
          exact decide_eq_true (by omega)
        · rintro es ⟨r, rfl, d, r2, rfl, _, rfl⟩
          simp
        · subst hes
          exact gv v9 H9 _ (e1.trans (e2.trans (ex.trans (e5.trans e9)))) h9 (clash_bad fun fit => stuck (fun x hx => part.sub hx) hre low fit.2)
noncomputable def fitB (c : Cs) : Bool := @decide (FitC c) (Classical.propDecidable _)
theorem fitB_iff {c : Cs} : fitB c = true ↔ FitC c := by unfold fitB; exact @decide_eq_true_iff _ (Classical.propDecidable _)
-- 0 case
theorem sc_can_fit : FnScope ["case"] ["case"] (defScope s_can_fit) := C8.fnScope_by (by decide +kernel)
theorem c_can_fit (T : Txt K mg) : C8.Cal P w K mg base 10 "can_fit" (spD K (fun c : Cs => [csD c]) COk fun c => .bool (fitB c)) [] := by
  refine cal_of T.d_can_fit (fun _ _ _ _ _ _ us hu => by match us, hu with | [_], _ => rfl) sc_can_fit (spD_len fun _ => rfl) fun f cdv A outer s H vs Q E hr h => ?_
  obtain ⟨c, hC, hd, gv⟩ := h
  dsimp only at hC hd gv
  obtain ⟨v, rfl, hv⟩ := dts1 hd
  refine ⟨_, (pss_one (ps_ret (pe_cmpR op_isN (C8.pe_c (c_a_clash T) hr (by decide) (by rfl) (pa_cons (pv 0) pa_nil)) pe_non (nomark _)))), ?_⟩
  refine r_call (K := K) c (a_cons (g_var rfl hv) a_nil) hC H (Ex.refl H) _ fun v1 H1 d e1 h1 ⟨hd1, hd2⟩ => ⟨rfl, gv _ H1 e1 ?_⟩
  rcases hd2 with rfl | ⟨ds, rfl⟩
  · obtain rfl := h1.nonV
    rw [fitB_iff.mpr (hd1.mp rfl)]
    exact .bl true
  · obtain ⟨a, xs, rfl, _⟩ := h1.tupV
    have : fitB c = false := by
      cases hb : fitB c with
      | false => rfl
      | true => exact absurd (hd1.mpr (fitB_iff.mp hb)) (by simp)
    rw [this]
    exact .bl false
-- 0 case
theorem sc_check_fit : FnScope ["case"] ["case"] (defScope s_check_fit) := C8.fnScope_by (by decide +kernel)
theorem c_check_fit (T : Txt K mg) : C8.Cal P w K mg base 11 "check_fit" (spD K (fun c : Cs => [csD c]) (fun c => COk c ∧ FitC c) fun _ => .none) [] := by
  refine cal_of T.d_check_fit (fun _ _ _ _ _ _ us hu => by match us, hu with | [_], _ => rfl) sc_check_fit (spD_len fun _ => rfl) fun f cdv A outer s H vs Q E hr h => ?_
  obtain ⟨c, ⟨hC, hF⟩, hd, gv⟩ := h
  dsimp only at hC hd gv
  obtain ⟨v, rfl, hv⟩ := dts1 hd
  refine ⟨_, (pss_one (ps_if (pt_not (pt_val (C8.pe_c (c_can_fit T) hr (by decide) (by rfl) (pa_cons (pv 0) pa_nil)))) (pss_one ps_never) pss_nil)), ?_⟩
  refine s_when (b := !fitB c) (et_not (g_testB (g_call (a_cons (g_var rfl hv) a_nil) (spD_use c hC)))) (fun hb => ?_) fun _ H1 e1 => gv .non H1 e1 .non
  rw [fitB_iff.mpr hF] at hb
  exact nomatch hb
end
end K77
set_option maxHeartbeats 1000000
/-! latest_history, check_asked, check_case, surely_before, answers. -/
namespace K77
open PySem PySem.Spec PyProof.Rows L2 Evl
section
variable {P : Program} {w : World} {K : PySem.W.Frag} {mg : Str → Option Value} {base : Heap}
section
variable {σ : L2.St} {H : Hp} {D : Ends} {tz : TS} {ta tb te : TE}
theorem l_if {t : TT} {b : Bool} {ds : List PyData} (h : EvT t σ H b) (h1 : b = true → EL K ta σ H ds) (h2 : b = false → EL K tb σ H ds) : EL K (tIf t ta tb) σ H ds := fun H1 e Q q => h H1 e _ fun H2 e2 => by
  cases b with
  | true =>
    show ta σ H2 Q
    exact h1 rfl H2 (e.trans e2) Q fun p xs H3 hp e3 => q p xs H3 (fresh_back e2 hp) (e2.trans e3)
  | false =>
    show tb σ H2 Q
    exact h2 rfl H2 (e.trans e2) Q fun p xs H3 hp e3 => q p xs H3 (fresh_back e2 hp) (e2.trans e3)
/-- order, found = pasting_order(..)[0], [] -/
theorem q_paste0 {i j k l : Nat} {E : XK} {c : Cs} {v : V} {ps : Addr} {kvs : List (Key × V)} (h1 : σ[i]? = some (some v)) (h2 : σ[j]? = some (some (.ref ps))) (hS : CSl K c v ps kvs H) (kk : ∀ po pf ord rest H2, Ex H H2 → H2 po = some (.lst (ord.map V.str)) → Part (EdgeC c) (nm c.F) ord rest → (∀ n ∈ rest, ∃ m ∈ rest, EdgeC c m n) → H pf = none → po ≠ pf → H2 pf = some (.lst []) → tz D ((σ.set k (some (.ref po))).set l (some (.ref pf))) H2) :
    tSeq (tPar k l (tCons (tOp (rIxT K) (tCall (spPaste K) [] E (tCons (tVar i) (tCons (tVar j) tNil))) (tC (.int 0))) (tCons (tLst tNil) tNil))) tz D σ H :=
  ⟨v, h1, .ref ps, h2, c, v, ps, kvs, hS, rfl, fun a po pr ord rest H2 e hs hpo _ ho hr pt st => ⟨a, _, 0, .ref po, rfl, rfl, hs, rfl, sz_of (by simp), fun pf hpf => ⟨.ref po, .ref pf, rfl,
    kk po pf ord rest _ (e.trans (Ex.new hpf)) (Ex.new hpf _ _ ho) pt st (fresh_back e hpf) (fun z => by rw [z, hpf] at ho; cases ho) upd_same⟩⟩⟩
end
def HistRes (c : Cs) (d : PyData) : Prop := ∃ ord : List Str, d = .tuple (ord.map PyData.str ++ [.int 0]) ∧ ord.Perm (nm c.F) ∧ Topo (EdgeC c) ord
-- 0 case, 1 slots, 2 slot, 3 order, 4 found, 5 name
theorem sc_latest_history : FnScope ["case", "slots", "slot", "order", "found", "name"] ["case"] (defScope s_latest_history) := C8.fnScope_by (by decide +kernel)
theorem c_latest_history (T : Txt K mg) : C8.Cal P w K mg base 12 "latest_history" (spR K (fun c : Cs => [csD c]) (fun c => COk c ∧ FitC c) HistRes) [] := by
  refine cal_of T.d_latest_history (fun _ _ _ _ _ _ us hu => by match us, hu with | [_], _ => rfl) sc_latest_history (spR_len fun _ => rfl) fun f cdv A outer s H vs Q E hr h => ?_
  obtain ⟨c, ⟨hC, hF⟩, hd, gv⟩ := h
  dsimp only at hC hF hd gv
  obtain ⟨v, rfl, hv⟩ := dts1 hd
  refine ⟨_, (pss_cons (ps_expr (C8.pe_c (c_check_fit T) hr (by decide) (by rfl) (pa_cons (pv 0) pa_nil)))
  (pss_cons (ps_set (i := 1) sc_latest_history.nd rfl (by first | exact Or.inl rfl | exact Or.inr rfl) (pe_ix (k_ixT K rfl) (C8.pe_c (c_settled T) hr (by decide) (by rfl) (pa_cons (pv 0) pa_nil)) pe_int (fun _ _ => rfl)))
  (pss_cons (ps_par (i := 3) (j := 4) rfl sc_latest_history.nd rfl rfl (by decide) rfl rfl (pa_cons (pe_ix (k_ixT K rfl) (C8.pe_c (c_pasting_order T) hr (by decide) (by rfl) (pa_cons (pv 0) (pa_cons (pv 1) pa_nil))) pe_int (fun _ _ => rfl)) (pa_cons (pe_lst pa_nil) pa_nil)) rfl)
  (pss_cons (ps_for PassesOwn.never rfl (pi_range1 (by rfl) T.z_range (pa_cons (pe_op op_add (pe_ix (k_ixT K rfl) (pv 0) pe_int (fun _ _ => rfl)) pe_int) pa_nil)) (pg_name (i := 2) sc_latest_history.nd rfl (by first | exact Or.inl rfl | exact Or.inr rfl)) (pss_cons (ps_expr (pe_bm PySem.F.plainAttrs_list PySem.F.slot_list_extend PySem.F.type_list_extend mt_extend (pv 4) (pa_cons (pe_lc (own := [("name", 5)]) rfl sc_latest_history.nd (k_piL K rfl (pv 3)) (blkOk_by (by kernel_rfl)) (fun _ _ _ _ _ => (pg_name (i := 5) sc_latest_history.nd rfl (by first | exact Or.inl rfl | exact Or.inr rfl))) (fun _ _ _ _ _ => (pts_one (pt_cmpR op_eq (pe_dget (hu_of hr) (pv 1) (pv 5) (fun _ _ => rfl)) (pv 2) (nomark _)))) (fun _ _ _ _ _ => (pv 5))) pa_nil)))
  (pss_one (ps_expr (pe_bm PySem.F.plainAttrs_list PySem.F.slot_list_extend PySem.F.type_list_extend mt_extend (pv 4) (pa_cons (pe_ifExp (pt_cmpR op_lt (pv 2) (pe_ix (k_ixT K rfl) (pv 0) pe_int (fun _ _ => rfl)) (nomark _)) (pe_lst (pa_cons (pv 2) pa_nil)) (pe_lst pa_nil)) pa_nil))))))
  (pss_one (ps_ret (pe_callTy (k_tupOf K rfl) (by rfl) T.z_tuple (by decide +kernel) (pa_cons (pv 4) pa_nil)))))))), ?_⟩
  refine q_dropD (g_call (a_cons (g_var rfl hv) a_nil) (spD_use c ⟨hC, hF⟩)) fun H1 e1 => ?_
  refine q_settled0 (K := K) rfl hC (hv.ex e1) fun ps kvs H2 e2 hS => ?_
  refine q_paste0 (K := K) rfl rfl hS fun po pf ord rest H3 e3 ho part low hpf hne hlf => ?_
  have hrest : rest = [] := by
    by_cases h : rest = []
    · exact h
    · exact absurd hF.2 (stuck (fun x hx => part.sub hx) h low)
  subst hrest
  have hperm : ord.Perm (nm c.F) := by
    have := part.perm
    rwa [List.append_nil] at this
  have hol : ord.length ≤ 5 := by
    rw [hperm.length_eq, nm_len]
    exact hC.fen.few
  have hS3 := hS.ex e3
  refine q_forI (iv_range (K := K) (n := 2) (a_cons ((g_add (g_ixk (k := 1) (g_var rfl hS3.case) rfl) g_int).is rfl) a_nil) (by decide)) (fun _ i σ' H' => Ex H2 H' ∧ (∃ y2, σ' = [some v, some (.ref ps), y2, some (.ref po), some (.ref pf), none]) ∧ ∃ zs, H' pf = some (.lst zs) ∧ Dts K H' zs (if i = 0 then [] else ord.map PyData.str ++ [.int 0]) ∧ H' po = some (.lst (ord.map V.str)))
    (fun H4 e4 => ⟨e3.trans e4, ⟨_, rfl⟩, [], e4 _ _ hlf, .nil, e4 _ _ ho⟩) (fun _ _ _ _ _ _ => trivial) (fun H4 i x v1 σ' H' H5 e4 hx ⟨ex, ⟨y2, hσ⟩, zs, hz, hzd, ho'⟩ e5 hv1 => ?_) fun H4 σ' H' e4 ⟨ex, ⟨y2, hσ⟩, zs, hz, hzd, ho'⟩ => ?_
  · subst hσ hv1
    have hx2 : x = i ∧ i < 2 := by
      obtain ⟨h1, h2⟩ := List.getElem?_eq_some_iff.mp hx
      rw [List.length_range] at h1
      rw [List.getElem_range] at h2
      exact ⟨h2.symm, h1⟩
    obtain ⟨rfl, hi⟩ := hx2
    have x5 := ex.trans e5
    have ho5 := e5 _ _ ho'
    have hS5 := hS.ex x5
    have hzl : zs.length ≤ 10 := by
      rw [hzd.length]
      split
      · exact Nat.zero_le _
      · rw [List.length_append, List.length_map, List.length_singleton]; omega
    refine q_extD (ds := if x = 0 then ord.map PyData.str else []) (e5 _ _ hz) (ev_var rfl) ((l_lcI (K := K) (xs := ord) (fun _ => decide ((0 : Int) = (x : Int))) PyData.str (iv_list (xs := ord) (enc := PyData.str) (es_names (ev_var rfl) ho5)) (fun e => e) (by omega) fun n hn v6 H6 e6 h6 => trn_name rfl (g_test (g_eqI (g_dget (val := fun _ => .int 0) (e6 _ _ hS5.at_) (hS5.slots.tle (TLe.ex e6)) (ev_var rfl) (g_var rfl h6) (hperm.mem_iff.mp hn)) (g_var rfl (.int _)))) fun _ => g_var rfl h6).is ?_) ?_ fun ws H6 e6 hws => ?_
    · unfold made
      by_cases h0 : x = 0
      · subst h0
        rw [if_pos rfl, show (ord.filter fun _ => decide ((0 : Int) = ((0 : Nat) : Int))) = ord from List.filter_eq_self.mpr fun _ _ => rfl]
      · rw [if_neg h0, List.filter_eq_nil_iff.mpr fun _ _ => by simp; omega]
        rfl
    · have : (if x = 0 then ord.map PyData.str else ([] : List PyData)).length ≤ 5 := by
        split
        · rw [List.length_map]; exact hol
        · exact Nat.zero_le _
      omega
    · have hz6 := e6 _ _ (e5 _ _ hz)
      have t6 : TLe K H6 (upd H6 pf (.lst (zs ++ ws))) := TLe.lst hz6
      have x6 : Ex H2 (upd H6 pf (.lst (zs ++ ws))) := Ex.mut (x5.trans e6) hpf
      have hS6 := hS.ex x6
      have ho6 : (upd H6 pf (.lst (zs ++ ws))) po = some (.lst (ord.map V.str)) := by
        rw [upd_ne hne]; exact e6 _ _ ho5
      have hz6d : Dts K (upd H6 pf (.lst (zs ++ ws))) (zs ++ ws) (if x = 0 then ord.map PyData.str else ord.map PyData.str ++ [.int 0]) := by
        have h1 := ((hzd.ex e5).ex e6).append hws
        refine (congrArg (Dts K _ _) ?_).mp (h1.mono t6)
        by_cases h0 : x = 0
        · rw [if_pos h0, if_pos h0, if_pos h0]; rfl
        · rw [if_neg h0, if_neg h0, if_neg h0, List.append_nil]
      have hwl : ws.length ≤ 5 := by
        rw [hws.length]
        split
        · rw [List.length_map]; exact hol
        · exact Nat.zero_le _
      refine s_extD (ds := if x = 0 then [.int 0] else []) upd_same (ev_var rfl) (l_if (b := decide ((x : Int) < 1)) (g_test (g_cmpI (K := K) (g := fun i j => decide (i < j)) (g_var rfl (.int _)) (g_ixk (k := 1) (g_var rfl hS6.case) rfl))) (fun hb => ?_) fun hb => ?_) ?_ fun us H7 e7 hus => ?_
      · have hx0 : x = 0 := by have := of_decide_eq_true hb; omega
        subst hx0
        exact l_lst (a_cons (g_var rfl (.int _)) a_nil) (by simp)
      · have hx0 : ¬ x = 0 := by have := of_decide_eq_false hb; omega
        rw [if_neg hx0]
        exact l_lst a_nil (by simp)
      · rw [List.length_append]
        have : (if x = 0 then [PyData.int 0] else []).length ≤ 1 := by split <;> simp
        omega
      · have hz7 := e7 _ _ (upd_same (H := H6) (a := pf) (o := .lst (zs ++ ws)))
        have t7 : TLe K H7 (upd H7 pf (.lst (zs ++ ws ++ us))) := TLe.lst hz7
        refine ⟨Ex.mut (x6.trans e7) hpf, ⟨_, rfl⟩, _, upd_same, ?_, ?_⟩
        · rw [if_neg (Nat.succ_ne_zero x)]
          refine (congrArg (Dts K _ _) ?_).mp (((hz6d.ex e7).append hus).mono t7)
          by_cases h0 : x = 0
          · rw [if_pos h0, if_pos h0]
          · rw [if_neg h0, if_neg h0, List.append_nil]
        · rw [upd_ne hne]
          exact e7 _ _ ho6
  · subst hσ
    rw [List.length_range, if_neg (by decide)] at hzd
    exact s_retD (g_tupleOf (es_old (ev_var rfl) (sq_of hz) hzd)) fun v9 H9 e9 h9 => gv v9 H9 _ ((e1.trans e2).trans (ex.trans e9)) h9 ⟨ord, rfl, hperm, part.topo⟩
/-! check_asked, check_case -/
theorem cal_ofD {x : Str} {st : Stmt} {N ps : List Str} {k : Nat} {sp : Sp} {dfl : List V} (n j : Nat) (D : Df K mg x st dfl) (hd : dfl ≠ []) (hn : n + (dfl.length - j) = ps.length)
    (hb : ∀ (T : Addr) (kV doc pm : Value) (an : Option Addr) (cdv ct : Value) (us its : List Value), us.length = n → its.length = dfl.length → ∃ k, bindArgs (PySem.W.fnOf x x (defArgs st) (defBody st) (defScope st) (.ref T) kV doc pm an cdv ct) ⟨us, []⟩ = seqItems? (.ref T) >>= k ∧ k (some its.toArray) = pure (ps.zip (us ++ its.drop j)))
    (S : FnScope N ps (defScope st)) (len : ∀ vs H Q E, sp vs H Q E → vs.length = ps.length)
    (hbody : ∀ (f : Addr) (cdv : Value) (A : Around) (outer : List Env) (s : Shared) (H : Hp) (vs : List V) (Q : VK) (E : XK), Room k (A.deeper (envOfC x (defScope st) s.heap.objs.size f cdv)) → sp vs H Q E →
      ∃ t, PSs (cxOf CX0 P w K mg base N x (defScope st) f cdv A outer s H E).nox (defBody st) t ∧ t { nx := fun _ H' => Q .non H', rt := Q } (start N vs) H) : C8.Cal P w K mg base (k + 1) x sp (dfl.drop j) := by
  obtain ⟨f, fd, F, g⟩ := D.ex
  obtain ⟨ds, h1, h2⟩ := F.binds1 n j hd hn hb
  refine ⟨f, fd, ps, ds, F.ok S len (fun cdv A outer s H vs Q E hr h => ?_), g, F.kp, h2, h1⟩
  obtain ⟨t, h1, h2⟩ := hbody f cdv A outer s H vs Q E hr h
  exact ⟨t, h1.nox, h2⟩
def phD (b : Bool) : PyData := if b then .int 0 else .none
-- 0 case, 1 some, 2 photo
theorem sc_check_asked : FnScope ["case", "some", "photo"] ["case", "some", "photo"] (defScope s_check_asked) := C8.fnScope_by (by decide +kernel)
theorem c_check_asked (T : Txt K mg) : C8.Cal P w K mg base 3 "check_asked" (spD K (fun p : Cs × List Str × Bool => [csD p.1, strsD p.2.1, phD p.2.2]) (fun p => COk p.1 ∧ ∀ x ∈ p.2.1, x ∈ nm p.1.F) fun _ => .none) [] := by
  refine cal_ofD 3 1 T.d_check_asked (by simp) rfl (fun _ _ _ _ _ _ _ us its hu hi => by match us, its, hu, hi with | [_, _, _], [_], _, _ => exact ⟨_, rfl, rfl⟩) sc_check_asked (spD_len fun _ => rfl) fun f cdv A outer s H vs Q E hr h => ?_
  obtain ⟨⟨c, xs, b⟩, ⟨hC, hx⟩, hd, gv⟩ := h
  dsimp only at hC hx hd gv
  obtain ⟨v, u, y, rfl, hv, hu, hy⟩ := dts3 hd
  have h100 : c.F.length ≤ 100 := by have := hC.fen.few; omega
  refine ⟨_, (pss_cons (ps_expr (C8.pe_c (c_check_names T) hr (by decide) (by rfl) (pa_cons (pe_ix (k_ixT K rfl) (pv 0) pe_int (fun _ _ => rfl)) (pa_cons (pv 1) pa_nil))))
  (pss_one (ps_if (pt_cmpR op_notN (pv 2) pe_non (nomark _)) (pss_one (ps_expr (C8.pe_c (c_check_photo T) hr (by decide) (by rfl) (pa_cons (pe_ix (k_ixT K rfl) (pv 0) pe_int (fun _ _ => rfl)) (pa_cons (pv 2) pa_nil))))) pss_nil))), ?_⟩
  refine q_dropD (g_call (a_cons (g_ixk (k := 0) (g_var rfl hv) rfl) (a_cons (g_var rfl hu) a_nil)) (spD_use (c.F, xs) ⟨h100, hx⟩)) fun H1 e1 => ?_
  cases b with
  | true =>
    obtain rfl := hy.intV
    refine s_when (b := true) (fun H2 e2 R r => ⟨_, rfl, rfl, _, rfl, r H2 (Ex.refl _)⟩) (fun _ H2 e2 => ?_) (fun h => nomatch h)
    exact s_dropD (g_call (a_cons (g_ixk (k := 1) (g_var rfl (hv.ex (e1.trans e2))) rfl) (a_cons (g_var rfl (.int 0)) a_nil)) (spD_use () trivial)) fun H3 e3 => gv .non H3 (e1.trans (e2.trans e3)) .non
  | false =>
    obtain rfl := hy.nonV
    exact s_when (b := false) (fun H2 e2 R r => ⟨_, rfl, rfl, _, rfl, r H2 (Ex.refl _)⟩) (fun h => nomatch h) fun _ H2 e2 => gv .non H2 (e1.trans e2) .non
-- 0 case, 1 some, 2 photo
theorem sc_check_case : FnScope ["case", "some", "photo"] ["case", "some", "photo"] (defScope s_check_case) := C8.fnScope_by (by decide +kernel)
theorem check_case_body (T : Txt K mg) (f : Addr) (cdv : Value) (A : Around) (outer : List Env) (s : Shared) (H : Hp) (vs : List V) (Q : VK) (E : XK) (hr : Room 11 (A.deeper (envOfC "check_case" (defScope s_check_case) s.heap.objs.size f cdv))) (h : spD K (fun p : Cs × List Str × Bool => [csD p.1, strsD p.2.1, phD p.2.2]) (fun p => (COk p.1 ∧ FitC p.1) ∧ ∀ x ∈ p.2.1, x ∈ nm p.1.F) (fun _ => .none) vs H Q E) :
    ∃ t, PSs (cxOf CX0 P w K mg base ["case", "some", "photo"] "check_case" (defScope s_check_case) f cdv A outer s H E).nox (defBody s_check_case) t ∧ t { nx := fun _ H' => Q .non H', rt := Q } (start ["case", "some", "photo"] vs) H := by
  obtain ⟨⟨c, xs, b⟩, ⟨⟨hC, hF⟩, hx⟩, hd, gv⟩ := h
  dsimp only at hC hF hx hd gv
  obtain ⟨v, u, y, rfl, hv, hu, hy⟩ := dts3 hd
  refine ⟨_, (pss_cons (ps_expr (C8.pe_c (c_check_asked T) hr (by decide) (by rfl) (pa_cons (pv 0) (pa_cons (pv 1) (pa_cons (pv 2) pa_nil)))))
  (pss_one (ps_expr (C8.pe_c (c_check_fit T) hr (by decide) (by rfl) (pa_cons (pv 0) pa_nil))))), ?_⟩
  refine q_dropD (g_call (a_cons (g_var rfl hv) (a_cons (g_var rfl hu) (a_cons (g_var rfl hy) a_nil))) (spD_use (c, xs, b) ⟨hC, hx⟩)) fun H1 e1 => ?_
  exact s_dropD (g_call (a_cons (g_var rfl (hv.ex e1)) a_nil) (spD_use c ⟨hC, hF⟩)) fun H2 e2 => gv .non H2 (e1.trans e2) .non
theorem c_check_case (T : Txt K mg) : C8.Cal P w K mg base 12 "check_case" (spD K (fun p : Cs × List Str × Bool => [csD p.1, strsD p.2.1, phD p.2.2]) (fun p => (COk p.1 ∧ FitC p.1) ∧ ∀ x ∈ p.2.1, x ∈ nm p.1.F) fun _ => .none) [] :=
  cal_ofD 3 1 T.d_check_case (by simp) rfl (fun _ _ _ _ _ _ _ us its hu hi => by match us, its, hu, hi with | [_, _, _], [_], _, _ => exact ⟨_, rfl, rfl⟩) sc_check_case (spD_len fun _ => rfl) (check_case_body T)
theorem c_check_case2 (T : Txt K mg) : C8.Cal P w K mg base 12 "check_case" (spD K (fun p : Cs × List Str × Bool => [csD p.1, strsD p.2.1, phD p.2.2]) (fun p => (COk p.1 ∧ FitC p.1) ∧ ∀ x ∈ p.2.1, x ∈ nm p.1.F) fun _ => .none) [.non] :=
  cal_ofD 2 0 T.d_check_case (by simp) rfl (fun _ _ _ _ _ _ _ us its hu hi => by match us, its, hu, hi with | [_, _], [_], _, _ => exact ⟨_, rfl, rfl⟩) sc_check_case (spD_len fun _ => rfl) (check_case_body T)
end
end K77
set_option maxHeartbeats 1000000
/-! surely_before, answers. -/
namespace K77
open PySem PySem.Spec PyProof.Rows L2 Evl
section
variable {P : Program} {w : World} {K : PySem.W.Frag} {mg : Str → Option Value} {base : Heap}
theorem g_callN {σ : L2.St} {H : Hp} {sp : Sp} {E : XK} {ta : TA} {ds : List PyData} {d : PyData} (h : EA K ta σ H ds) (hs : SpD K sp (ds ++ [.none]) d) : ED K (tCall sp [.non] E ta) σ H d := fun H1 e Q q =>
  h H1 e _ fun vs H2 e2 hd => hs H2 (vs ++ [.non]) (hd.append (.cons .non .nil)) Q (fun v H3 e3 => q v H3 (e2.trans e3)) E
theorem tale_fit {F : Fence} {ss : List Si} (hF : FOk F) (hS : SOk F ss) (hH : Hold F ss) : FitC (tale F ss) := (fit_tale hF hS).mpr hH
theorem fact_ok {F : Fence} {ss : List Si} {G : List Fa} {o p : Str} (hF : FOk F) (hS : SOk F ss) (ho : o ∈ nm F) (hp : p ∈ nm F) (hG : ∀ f, f ∈ G ↔ f ∈ (nm F).map Fa.there ∨ f = .before o p) (hl : G.length ≤ 6) : COk ⟨F, ss, G⟩ where
  fen := hF
  few := Nat.le_succ_of_le hS.few
  ovr := fun t ht => .inr (hS.ovr t ht)
  fewF := Nat.le_succ_of_le hl
  all := fun n hn => (hG _).mpr (.inl (List.mem_map.mpr ⟨n, hn, rfl⟩))
  thr := fun n hn => by
    rcases (hG _).mp hn with h | h
    · obtain ⟨m, hm, e⟩ := List.mem_map.mp h
      injection e with e
      rw [← e]; exact hm
    · cases h
  bef := fun a b hab => by
    rcases (hG _).mp hab with h | h
    · obtain ⟨m, hm, e⟩ := List.mem_map.mp h
      cases e
    · injection h with h1 h2
      rw [h1, h2]
      exact ⟨ho, hp⟩
theorem tell_ok {F : Fence} {ss T : List Si} {cell : Int} {x : Str} (hF : FOk F) (hS : SOk F ss) (hT : ∀ t, t ∈ T ↔ t ∈ ss ∨ t = (cell, x)) (hx : x = "-" ∨ x ∈ ov F cell) (hl : T.length ≤ ss.length + 1) : COk ⟨F, T, (nm F).map Fa.there⟩ where
  fen := hF
  few := by
    have := hS.few
    show T.length ≤ 10
    omega
  ovr := fun t ht => by
    rcases (hT t).mp ht with h | h
    · exact .inr (hS.ovr t h)
    · rw [h]; exact hx
  fewF := (tale_ok hF hS).fewF
  all := (tale_ok hF hS).all
  thr := (tale_ok hF hS).thr
  bef := (tale_ok hF hS).bef
-- 0 case, 1 one, 2 other
theorem sc_surely_before : FnScope ["case", "one", "other"] ["case", "one", "other"] (defScope s_surely_before) := C8.fnScope_by (by decide +kernel)
theorem c_surely_before (T : Txt K mg) : C8.Cal P w K mg base 13 "surely_before" (spD K (fun p : (Fence × List Si) × Str × Str => [csD (tale p.1.1 p.1.2), .str p.2.1, .str p.2.2]) (fun p => PHold p.1 ∧ p.2.1 ∈ nm p.1.1 ∧ p.2.2 ∈ nm p.1.1 ∧ p.2.1 ≠ p.2.2) fun p => .bool (reachB p.1.1 p.1.2 p.2.1 p.2.2)) [] := by
  refine cal_of T.d_surely_before (fun _ _ _ _ _ _ us hu => by match us, hu with | [_, _, _], _ => rfl) sc_surely_before (spD_len fun _ => rfl) fun f cdv A outer s H vs Q E hr h => ?_
  obtain ⟨⟨⟨F, ss⟩, a, b⟩, ⟨⟨hF, hS, hH⟩, ha, hb, hab⟩, hd, gv⟩ := h
  dsimp only at hF hS hH ha hb hab hd gv
  obtain ⟨v, u, y, rfl, hv, hu, hy⟩ := dts3 hd
  have hC := tale_ok hF hS
  refine ⟨_, (pss_cons (ps_expr (C8.pe_c (c_check_case2 T) hr (by decide) (by rfl) (pa_cons (pv 0) (pa_cons (pe_tup (pa_cons (pv 1) (pa_cons (pv 2) pa_nil))) pa_nil))))
  (pss_one (ps_ret (pe_not (C8.pe_c (c_can_fit T) hr (by decide) (by rfl) (pa_cons (C8.pe_c (c_with_fact T) hr (by decide) (by rfl) (pa_cons (pv 0) (pa_cons (pe_tup (pa_cons (pe_gs T.g_BEFORE (by rfl)) (pa_cons (pv 2) (pa_cons (pv 1) pa_nil)))) pa_nil))) pa_nil)))))), ?_⟩
  refine q_dropD (g_callN (a_cons (g_var rfl hv) (a_cons (g_tup (a_cons (g_var rfl hu) (a_cons (g_var rfl hy) a_nil)) (by simp)) a_nil)) (spD_use (tale F ss, [a, b], false) ⟨⟨hC, tale_fit hF hS hH⟩, fun x hx => ?_⟩)) fun H1 e1 => ?_
  · rcases List.mem_cons.mp hx with h | h
    · rw [h]; exact ha
    · rw [List.mem_singleton.mp h]; exact hb
  refine s_retD (g_notV (g_callR (d := .bool (!reachB F ss a b)) (ear_R (r_call (tale F ss, b, a) (a_cons (g_var rfl (hv.ex e1)) (a_cons (g_tup (a_cons g_str (a_cons (g_var rfl (hy.ex e1)) (a_cons (g_var rfl (hu.ex e1)) a_nil))) (by simp)) a_nil)) ⟨hC, hb, ha⟩) (ear_of a_nil)) ?_)) fun v2 H2 e2 h2 => gv v2 H2 (e1.trans e2) (by rw [Bool.not_not] at h2; exact h2)
  rintro ds ⟨d, r, rfl, ⟨G, rfl, hG, hGl⟩, rfl⟩
  have hGl' : G.length ≤ (nm F).length + 1 := by
    have : (tale F ss).facts.length = (nm F).length := by show ((nm F).map Fa.there).length = _; rw [List.length_map]
    dsimp only at hGl
    omega
  have hGo : ∀ f, f ∈ G ↔ f ∈ (nm F).map Fa.there ∨ f = .before b a := hG
  have hok : COk ⟨F, ss, G⟩ := fact_ok hF hS hb ha hGo (by rw [nm_len] at hGl'; have := hF.few; omega)
  have hfit := fit_fact hF hS hH hGo hb ha fun z => hab z.symm
  have : fitB ⟨F, ss, G⟩ = !reachB F ss a b := by
    rw [Bool.eq_iff_iff, fitB_iff, hfit, Bool.not_eq_true', ← Bool.not_eq_true, reachB_iff]
  rw [← this]
  exact spD_use (⟨F, ss, G⟩ : Cs) hok
-- 0 case, 1 photo, 2 cell, 3 some, 4 seen
theorem sc_answers : FnScope ["case", "photo", "cell", "some", "seen"] ["case", "photo", "cell"] (defScope s_answers) := C8.fnScope_by (by decide +kernel)
theorem c_answers (T : Txt K mg) : C8.Cal P w K mg base 13 "answers" (spD K (fun p : (Fence × List Si) × Int => [csD (tale p.1.1 p.1.2), .int 0, .int p.2]) (fun p => PHold p.1 ∧ ov p.1.1 p.2 ≠ []) fun p => strsD (seenL p.1.1 p.1.2 p.2)) [] := by
  refine cal_of T.d_answers (fun _ _ _ _ _ _ us hu => by match us, hu with | [_, _, _], _ => rfl) sc_answers (spD_len fun _ => rfl) fun f cdv A outer s H vs Q E hr h => ?_
  obtain ⟨⟨⟨F, ss⟩, cell⟩, ⟨⟨hF, hS, hH⟩, hov⟩, hd, gv⟩ := h
  dsimp only at hF hS hH hov hd gv
  obtain ⟨v, u, y, rfl, hv, hu, hy⟩ := dts3 hd
  have hC := tale_ok hF hS
  have hf := hF.few
  have h100 : F.length ≤ 100 := by omega
  have hol := ov_len F cell
  refine ⟨_, (pss_cons (ps_expr (C8.pe_c (c_check_case T) hr (by decide) (by rfl) (pa_cons (pv 0) (pa_cons (pe_tup pa_nil) (pa_cons (pv 1) pa_nil)))))
  (pss_cons (ps_set (i := 3) sc_answers.nd rfl (by first | exact Or.inl rfl | exact Or.inr rfl) (pe_tup (pa_cons (pe_gs T.g_BARE (by rfl)) (k_star K rfl (C8.pe_c (c_over T) hr (by decide) (by rfl) (pa_cons (pe_ix (k_ixT K rfl) (pv 0) pe_int (fun _ _ => rfl)) (pa_cons (pv 2) pa_nil))) pa_nil))))
  (pss_one (ps_ret (pe_callTy (k_tupOf K rfl) (by rfl) T.z_tuple (by decide +kernel) (pa_cons (pe_lc (own := [("seen", 4)]) rfl sc_answers.nd (k_piT K rfl (pv 3)) (blkOk_by (by kernel_rfl)) (fun _ _ _ _ _ => (pg_name (i := 4) sc_answers.nd rfl (by first | exact Or.inl rfl | exact Or.inr rfl))) (fun _ _ _ _ _ => (pts_one (pt_val (C8.pe_c (c_can_fit T) hr (by decide) (by rfl) (pa_cons (C8.pe_c (c_with_telling T) hr (by decide) (by rfl) (pa_cons (pv 0) (pa_cons (pv 1) (pa_cons (pv 2) (pa_cons (pv 4) pa_nil))))) pa_nil))))) (fun _ _ _ _ _ => (pv 4))) pa_nil)))))), ?_⟩
  refine q_dropD (g_call (a_cons (g_var rfl hv) (a_cons (g_tup a_nil (by simp)) (a_cons (g_var rfl hu) a_nil))) (spD_use (tale F ss, ([] : List Str), true) ⟨⟨hC, tale_fit hF hS hH⟩, nofun⟩)) fun H1 e1 => ?_
  refine q_asgD (d := strsD (("-" : Str) :: ov F cell)) (g_tup ((a_cons g_str (a_star (es := (ov F cell).map PyData.str) (g_call (a_cons (g_ixk (k := 0) (g_var rfl (hv.ex e1)) rfl) (a_cons (g_var rfl (hy.ex e1)) a_nil)) (spD_use (F, cell) h100)) a_nil))) ?_ |>.is ?_) fun v2 H2 e2 h2 => ?_
  · rw [List.append_nil, List.length_cons, List.length_map]; omega
  · rw [List.append_nil]; rfl
  have e12 := e1.trans e2
  refine s_retD (g_tupleOf (EL.toS (l_lcI (K := K) (xs := (("-" : Str) :: ov F cell)) (fun x => !decide (x = "-") && seenB F ss cell x) PyData.str (iv_tup (xs := (("-" : Str) :: ov F cell)) (enc := PyData.str) (g_var rfl h2)) TLe.ex (by rw [List.length_cons]; omega) fun x hx v3 H3 e3 h3 => ?_))) fun v4 H4 e4 h4 => gv v4 H4 (e12.trans e4) ?_
  · have hxo : x = "-" ∨ x ∈ ov F cell := List.mem_cons.mp hx
    refine trn_name rfl (g_testB (g_callR (d := .bool (!decide (x = "-") && seenB F ss cell x)) (ear_R (r_call (tale F ss, cell, x) (a_cons (g_var rfl (hv.ex (e12.trans e3))) (a_cons (g_var rfl (hu.ex (e12.trans e3))) (a_cons (g_var rfl (hy.ex (e12.trans e3))) (a_cons (g_var rfl h3) a_nil)))) ⟨hC, hxo⟩) (ear_of a_nil)) ?_)) fun _ => g_var rfl h3
    rintro ds ⟨d, r, rfl, ⟨TT, rfl, hT, hTl⟩, rfl⟩
    have hTo : ∀ t, t ∈ TT ↔ t ∈ ss ∨ t = (cell, x) := hT
    have hok : COk ⟨F, TT, (nm F).map Fa.there⟩ := tell_ok hF hS hTo hxo hTl
    have hfit := fit_tell hF hS hH hTo hov hxo
    have : fitB ⟨F, TT, (nm F).map Fa.there⟩ = (!decide (x = "-") && seenB F ss cell x) := by
      rw [Bool.eq_iff_iff, fitB_iff, hfit, Bool.and_eq_true, Bool.not_eq_true', decide_eq_false_iff_not]
    rw [← this]
    exact spD_use (⟨F, TT, (nm F).map Fa.there⟩ : Cs) hok
  · refine (congrArg (Dt K H4 v4) ?_).mp h4
    unfold made seenL strsD
    congr 2
    rw [List.filter_cons_of_neg (by simp)]
    refine List.filter_congr fun x hx => ?_
    have : x ≠ "-" := fun e => hF.bare (e ▸ ov_nm hx)
    rw [decide_eq_false this]; rfl
end
end K77
set_option maxHeartbeats 1000000
/-! The box: what is drawn. -/
namespace K77
open PySem PySem.Spec PyProof.Rows L2 Evl
def BOk (H : Hp) (pb : Addr) (N : Int) : Prop := ∃ b0 b1 b2 : Int, H pb = some (.lst [.int b0, .int b1, .int b2]) ∧ 0 ≤ b2 ∧ b2 ≤ N
/-- all but the box stays -/
structure XB (pb : Addr) (N : Int) (H H' : Hp) : Prop where
  keep : ∀ a o, a ≠ pb → H a = some o → H' a = some o
  box : BOk H' pb N
  was : ∃ xs, H pb = some (.lst xs)
section
variable {K : PySem.W.Frag} {H H' H2 : Hp} {pb a : Addr} {N M : Int} {σ : L2.St}
theorem BOk.ex (e : Ex H H') (h : BOk H pb N) : BOk H' pb N := by
  obtain ⟨b0, b1, b2, h1, h2⟩ := h
  exact ⟨b0, b1, b2, e _ _ h1, h2⟩
theorem BOk.up (h : BOk H pb N) (hn : N ≤ M) : BOk H pb M := by
  obtain ⟨b0, b1, b2, h1, h2, h3⟩ := h
  exact ⟨b0, b1, b2, h1, h2, by omega⟩
theorem BOk.lst (h : BOk H pb N) : ∃ xs, H pb = some (.lst xs) := by
  obtain ⟨b0, b1, b2, h1, _⟩ := h
  exact ⟨_, h1⟩
theorem XB.up (h : XB pb N H H') (hn : N ≤ M) : XB pb M H H' := ⟨h.keep, h.box.up hn, h.was⟩
theorem XB.tle (h : XB pb N H H') : TLe K H H' := fun b xs q => by
  obtain ⟨ys, hy⟩ := h.was
  rcases q with (q | ⟨ob, q⟩) | q
  · exact .inl (.inl (h.keep _ _ (fun z => by rw [z, hy] at q; cases q) q))
  · exact .inl (.inr ⟨ob, h.keep _ _ (fun z => by rw [z, hy] at q; cases q) q⟩)
  · exact .inr q
theorem XB.fresh (h : XB pb N H H') (ha : H' a = none) : H a = none := by
  by_cases e : a = pb
  · obtain ⟨_, _, _, h1, _⟩ := h.box
    rw [e, h1] at ha
    cases ha
  · cases hb : H a with
    | none => rfl
    | some o => rw [h.keep _ _ e hb] at ha; cases ha
theorem XB.of (e : Ex H H') (h : BOk H pb N) : XB pb N H H' := ⟨fun a o _ q => e a o q, h.ex e, h.lst⟩
theorem XB.trans (h : XB pb N H H') (k : XB pb M H' H2) : XB pb M H H2 := ⟨fun a o n q => k.keep a o n (h.keep a o n q), k.box, h.was⟩
theorem XB.ex (h : XB pb N H H') (e : Ex H' H2) : XB pb N H H2 := ⟨fun a o n q => e _ _ (h.keep a o n q), h.box.ex e, h.was⟩
theorem XB.pre (e : Ex H H') (h : XB pb N H' H2) (w : BOk H pb M) : XB pb N H H2 := ⟨fun a o n q => h.keep a o n (e _ _ q), h.box, w.lst⟩
theorem XB.put {o : HO} (h : XB pb N H H') (ha : H a = none) (hne : a ≠ pb) : XB pb N H (upd H' a o) := ⟨fun b o n q => by
  rw [upd_ne fun z => by rw [z, ha] at q; cases q]
  exact h.keep b o n q, by
  obtain ⟨b0, b1, b2, h1, h2⟩ := h.box
  exact ⟨b0, b1, b2, by rw [upd_ne fun z => hne z.symm]; exact h1, h2⟩, h.was⟩
theorem XB.exN (h : XB pb N H' H2) (e : Ex H H') (hp : H pb = none) : Ex H H2 := fun b o q => h.keep b o (fun z => by rw [z, hp] at q; cases q) (e _ _ q)
theorem XB.dt {v : V} {d : PyData} (h : XB pb N H H') (q : Dt K H v d) : Dt K H' v d := q.mono h.tle
theorem XB.dts {v : List V} {d : List PyData} (h : XB pb N H H') (q : Dts K H v d) : Dts K H' v d := q.mono h.tle
theorem xb_set {b0 b1 b2 c0 c1 c2 : Int} (hb : H pb = some (.lst [.int b0, .int b1, .int b2])) (h0 : 0 ≤ c2) (h1 : c2 ≤ N) (e : Ex H H') : XB pb N H (upd H' pb (.lst [.int c0, .int c1, .int c2])) :=
  ⟨fun a o n q => by rw [upd_ne n]; exact e _ _ q, ⟨c0, c1, c2, upd_same, h0, h1⟩, ⟨_, hb⟩⟩
theorem g_bx {i : Nat} {j : Nat} {b0 b1 b2 c : Int} (hi : σ[i]? = some (some (.ref pb))) (hb : H pb = some (.lst [.int b0, .int b1, .int b2])) (hj : [b0, b1, b2][j]? = some c) : ED K (tOp (rIxL K) (tVar i) (tC (.int (j : Int)))) σ H (.int c) :=
  g_ixL (es_old (ev_var hi) (sq_of hb) (dts_ints [b0, b1, b2])) g_int (ixN_at (by
    have := (List.getElem?_eq_some_iff.mp hj).1
    simpa using this)) (by rw [List.getElem?_map, hj]; rfl)
theorem g_I {C : Int → Int → Prop} {g : Int → Int → Int} {ta tb : TE} {i j : Int} (ha : ED K ta σ H (.int i)) (hb : ED K tb σ H (.int j)) (hc : C i j) : ED K (tOp (rI C fun i j => .int (g i j)) ta tb) σ H (.int (g i j)) :=
  g_op ha hb fun H1 x y _ hx hy Q q => ⟨i, j, hx.intV, hy.intV, hc, q _ H1 (Ex.refl _) (.int _)⟩
theorem g_toInt {ta : TE} {i : Int} (ha : ED K ta σ H (.int i)) : ED K (tCB (fun xs H Q => (∃ i, xs = [.int i] ∧ Q (.int i) H) ∨ ∃ k, xs = [.bl k] ∧ Q (.int (if k then 1 else 0)) H) (tCons ta tNil)) σ H (.int i) := fun H1 e1 Q q => ha H1 e1 _ fun v H2 e2 hv => .inl ⟨i, by rw [hv.intV], q _ H2 e2 (.int _)⟩
theorem g_toIntB {ta : TE} {b : Bool} (ha : ED K ta σ H (.bool b)) : ED K (tCB (fun xs H Q => (∃ i, xs = [.int i] ∧ Q (.int i) H) ∨ ∃ k, xs = [.bl k] ∧ Q (.int (if k then 1 else 0)) H) (tCons ta tNil)) σ H (.int (if b then 1 else 0)) := fun H1 e1 Q q => ha H1 e1 _ fun v H2 e2 hv => .inr ⟨b, by rw [hv.boolV], q _ H2 e2 (.int _)⟩
theorem g_abs {ta : TE} {i : Int} (ha : ED K ta σ H (.int i)) : ED K (tCB (fun xs H Q => ∃ i, xs = [.int i] ∧ Q (.int (if i < 0 then -i else i)) H) (tCons ta tNil)) σ H (.int (if i < 0 then -i else i)) := fun H1 e1 Q q => ha H1 e1 _ fun v H2 e2 hv => ⟨i, by rw [hv.intV], q _ H2 e2 (.int _)⟩
theorem q_bxset {te : TE} {D : Ends} {tz : TS} {i j : Nat} {b0 b1 b2 z : Int} (hi : σ[i]? = some (some (.ref pb))) (hb : H pb = some (.lst [.int b0, .int b1, .int b2])) (hj : j < 3) (h : ED K te σ H (.int z)) (k : ∀ H1, Ex H H1 → tz D σ (upd H1 pb (.lst ([.int b0, .int b1, .int b2].set j (.int z))))) :
    tSeq (tAsg te (gSub (tVar i) (tC (.int (j : Int))) rSetL)) tz D σ H := h H (Ex.refl H) _ fun v H1 e1 hv => by
  rw [hv.intV]
  exact ⟨_, hi, pb, _, _, j, rfl, rfl, e1 _ _ hb, ixN_at (by simpa using hj), k H1 e1⟩
end
section
variable {P : Program} {w : World} {K : PySem.W.Frag} {mg : Str → Option Value} {base : Heap}
/-! _law_take -/
def spTake : Sp := fun vs H Q _ => ∃ (pb : Addr) (top N : Int), vs = [.ref pb, .int top] ∧ 1 ≤ top ∧ top ≤ 1000 ∧ N ≤ 1000000 ∧ BOk H pb N ∧ ∀ r H2, 0 ≤ r → r < top → XB pb (N + 1) H H2 → Q (.int r) H2
-- 0 _law_box_here, 1 _law_top_so, 2 _law_once, 3 _law_far, 4 _law_twice, 5 _law_digit_so
theorem sc_law_take : FnScope ["_law_box_here", "_law_top_so", "_law_once", "_law_far", "_law_twice", "_law_digit_so"] ["_law_box_here", "_law_top_so"] (defScope s_law_take) := C8.fnScope_by (by decide +kernel)
theorem c_law_take (T : Txt K mg) : C8.Cal P w K mg base 1 "_law_take" spTake [] := by
  refine cal_of T.d_law_take (fun _ _ _ _ _ _ us hu => by match us, hu with | [_, _], _ => rfl) sc_law_take (fun vs H Q E h => by obtain ⟨_, _, _, rfl, _⟩ := h; rfl) fun f cdv A outer s H vs Q E hr h => ?_
  obtain ⟨pb, top, N, rfl, ht1, ht2, hN, ⟨b0, b1, b2, hb, hb1, hb2⟩, gv⟩ := h
  have ht : top ≠ 0 := by omega
  have hp : (0 : Int) < top := by omega
  refine ⟨_, (pss_cons (ps_if (pt_cmpR op_gt (pe_ix (k_ixL K rfl) (pv 0) pe_int (fun _ _ => rfl)) pe_int (nomark _)) (pss_cons (ps_set (i := 5) sc_law_take.nd rfl (by first | exact Or.inl rfl | exact Or.inr rfl) (pe_op op_modN (pe_callTy call_int1 (by rfl) T.z_int (by decide +kernel) (pa_cons (pe_ix (k_ixL K rfl) (pv 0) pe_int (fun _ _ => rfl)) pa_nil)) (pv 1)))
  (pss_cons (ps_asg (pe_op op_fdivN (pe_ix (k_ixL K rfl) (pv 0) pe_int (fun _ _ => rfl)) (pv 1)) (pg_sub (pv 0) pe_int set_list))
  (pss_one (ps_ret (pv 5))))) pss_nil)
  (pss_cons (ps_asg (pe_op op_add (pe_ix (k_ixL K rfl) (pv 0) pe_int (fun _ _ => rfl)) pe_int) (pg_sub (pv 0) pe_int set_list))
  (pss_cons (ps_set (i := 2) sc_law_take.nd rfl (by first | exact Or.inl rfl | exact Or.inr rfl) (pe_op op_modN (pe_callTy call_int1 (by rfl) T.z_int (by decide +kernel) (pa_cons (pe_op op_mul (pe_op op_add (pe_ix (k_ixL K rfl) (pv 0) pe_int (fun _ _ => rfl)) (pe_op op_mul pe_int (pe_ix (k_ixL K rfl) (pv 0) pe_int (fun _ _ => rfl)))) (pe_op op_add pe_int (pe_ix (k_ixL K rfl) (pv 0) pe_int (fun _ _ => rfl)))) pa_nil)) pe_int))
  (pss_cons (ps_set (i := 3) sc_law_take.nd rfl (by first | exact Or.inl rfl | exact Or.inr rfl) (pe_op op_add (pe_op op_modN (pe_callTy call_int1 (by rfl) T.z_int (by decide +kernel) (pa_cons (pv 2) pa_nil)) pe_int) pe_int))
  (pss_cons (ps_set (i := 4) sc_law_take.nd rfl (by first | exact Or.inl rfl | exact Or.inr rfl) (pe_op op_modN (pe_callTy call_int1 (by rfl) T.z_int (by decide +kernel) (pa_cons (pe_op op_mul (pe_op op_add (pe_op op_add (pv 2) (pe_ix (k_ixL K rfl) (pv 0) pe_int (fun _ _ => rfl))) (pe_op op_fdivN (pe_ix (k_ixL K rfl) (pv 0) pe_int (fun _ _ => rfl)) pe_int)) (pv 3)) pa_nil)) pe_int))
  (pss_one (ps_ret (pe_op op_modN (pe_callTy call_int1 (by rfl) T.z_int (by decide +kernel) (pa_cons (pe_op op_fdivN (pe_op op_modN (pe_callTy call_int1 (by rfl) T.z_int (by decide +kernel) (pa_cons (pe_op op_add (pe_op op_mul (pv 4) pe_int) (pv 2)) pa_nil)) pe_int) pe_int) pa_nil)) (pv 1))))))))), ?_⟩
  refine q_when (b := decide (b0 > 0)) (g_test (g_cmpI (K := K) (g := fun i j => decide (j < i)) (g_bx (j := 0) rfl hb rfl) g_int)) (fun hc H1 e1 => ?_) fun hc H1 e1 => ?_
  · have hb' := e1 _ _ hb
    refine q_asgD (g_I (K := K) (g := Int.fmod) (g_toInt (g_bx (j := 0) rfl hb' rfl)) (g_var rfl (.int top)) ht) fun v H2 e2 hv => ?_
    rw [hv.intV]
    have e12 := e1.trans e2
    refine q_bxset (K := K) (j := 0) rfl (e12 _ _ hb) (by decide) (g_I (K := K) (g := Int.fdiv) (g_bx (j := 0) rfl (e12 _ _ hb) rfl) (g_var rfl (.int top)) ⟨ht, by omega⟩) fun H3 e3 => ?_
    refine s_ret (ev_var rfl) fun H4 e4 => gv _ _ (Int.fmod_nonneg_of_pos _ hp) (Int.fmod_lt_of_pos _ hp) ?_
    exact (xb_set (c0 := b0.fdiv top) (c1 := b1) (c2 := b2) hb hb1 (by omega) (e12.trans e3)).ex e4
  · have hb' := e1 _ _ hb
    refine q_bxset (K := K) (j := 2) rfl hb' (by decide) (g_add (g_bx (j := 2) rfl hb' rfl) g_int) fun H2 e2 => ?_
    have e12 := e1.trans e2
    generalize hg : upd H2 pb (.lst ([V.int b0, .int b1, .int b2].set 2 (.int (b2 + 1)))) = H3
    have hb3 : H3 pb = some (.lst [.int b0, .int b1, .int (b2 + 1)]) := by rw [← hg]; exact upd_same
    have x3 : XB pb (N + 1) H H3 := by
      rw [← hg]
      exact xb_set (c0 := b0) (c1 := b1) (c2 := b2 + 1) hb (by omega) (by omega) e12
    refine q_asgD (d := .int (((b1 + 48271 * (b2 + 1)) * (39373 + (b2 + 1))).fmod 2147483647)) (g_I (K := K) (g := Int.fmod) (g_toInt (g_I (g := (· * ·)) (g_add (g_bx (j := 1) rfl hb3 rfl) (g_I (g := (· * ·)) g_int (g_bx (j := 2) rfl hb3 rfl) (.inl (by decide)))) (g_add g_int (g_bx (j := 2) rfl hb3 rfl)) (.inr (by omega)))) g_int (by decide)) fun v4 H4 e4 h4 => ?_
    have o1 := Int.fmod_nonneg_of_pos (a := (b1 + 48271 * (b2 + 1)) * (39373 + (b2 + 1))) (b := 2147483647) (by decide)
    have o2 := Int.fmod_lt_of_pos ((b1 + 48271 * (b2 + 1)) * (39373 + (b2 + 1))) (b := 2147483647) (by decide)
    generalize ((b1 + 48271 * (b2 + 1)) * (39373 + (b2 + 1))).fmod 2147483647 = once at h4 o1 o2
    obtain rfl := h4.intV
    refine q_asgD (d := .int (once.fmod 40009 + 7)) (g_add (g_I (K := K) (g := Int.fmod) (g_toInt (g_var rfl (.int once))) g_int (by decide)) g_int) fun v5 H5 e5 h5 => ?_
    have o3 := Int.fmod_nonneg_of_pos (a := once) (b := 40009) (by decide)
    have o4 := Int.fmod_lt_of_pos once (b := 40009) (by decide)
    generalize once.fmod 40009 = f0 at h5 o3 o4
    obtain rfl := h5.intV
    have hb5 := (e4.trans e5) _ _ hb3
    refine q_asgD (d := .int (((once + (b2 + 1) + b1.fdiv 1000003) * (f0 + 7)).fmod 2147483629)) (g_I (K := K) (g := Int.fmod) (g_toInt (g_I (g := (· * ·)) (g_add (g_add (g_var rfl (.int once)) (g_bx (j := 2) rfl hb5 rfl)) (g_I (g := Int.fdiv) (g_bx (j := 1) rfl hb5 rfl) g_int ⟨by decide, by decide⟩)) (g_var rfl (.int _)) (.inr (by omega)))) g_int (by decide)) fun v6 H6 e6 h6 => ?_
    generalize ((once + (b2 + 1) + b1.fdiv 1000003) * (f0 + 7)).fmod 2147483629 = twice at h6
    obtain rfl := h6.intV
    refine s_retD (d := .int ((((twice * 48271 + once).fmod 2147483587).fdiv 64).fmod top)) (g_I (K := K) (g := Int.fmod) (g_toInt (g_I (g := Int.fdiv) (g_I (g := Int.fmod) (g_toInt (g_add (g_I (g := (· * ·)) (g_var rfl (.int _)) g_int (.inr (by decide))) (g_var rfl (.int _)))) g_int (by decide)) g_int ⟨by decide, by decide⟩)) (g_var rfl (.int top)) ht) fun v7 H7 e7 h7 => ?_
    rw [h7.intV]
    exact gv _ _ (Int.fmod_nonneg_of_pos _ hp) (Int.fmod_lt_of_pos _ hp) (x3.ex (e4.trans (e5.trans (e6.trans e7))))
end
end K77
set_option maxHeartbeats 1000000
/-! _law_over, _law_names, _law_last, _law_of, _law_pick. -/
namespace K77
open PySem PySem.Spec PyProof.Rows L2 Evl
theorem perm_at {α : Type} : ∀ {l : List α} {k : Nat} {y : α}, l[k]? = some y → (y :: l.eraseIdx k).Perm l
  | [], _, _, h => by simp at h
  | x :: l, 0, y, h => by simp at h; subst h; exact List.Perm.refl _
  | x :: l, k + 1, y, h => by
    have h' : l[k]? = some y := by simpa using h
    exact (List.Perm.swap x y _).trans ((perm_at h').cons x)
theorem seqIx {r : Int} {n : Nat} (h0 : 0 ≤ r) (h1 : r < n) : seqIndex? r n = some r.toNat := by
  have h2 : ¬ r < 0 := by omega
  simp [seqIndex?, h2, h0, h1]
section
variable {P : Program} {w : World} {K : PySem.W.Frag} {mg : Str → Option Value} {base : Heap}
section
variable {σ : L2.St} {H : Hp} {te tl ta tb : TE} {D : Ends} {tz : TS}
theorem elr_eq {ds : List PyData} (h : ELR K te σ H (· = ds)) : EL K te σ H ds := fun H1 e1 Q q => h H1 e1 Q fun p xs H2 es hp e2 hx hd hr => q p xs H2 hp e2 hx (hr ▸ hd)
theorem g_min2 {i j : Int} (ha : ED K ta σ H (.int i)) (hb : ED K tb σ H (.int j)) : ED K (tCB (fun xs H Q => ∃ i j, xs = [.int i, .int j] ∧ Q (.int (if j < i then j else i)) H) (tCons ta (tCons tb tNil))) σ H (.int (if j < i then j else i)) := fun H1 e1 Q q =>
  ha H1 e1 _ fun v H2 e2 hv => hb H2 (e1.trans e2) _ fun u H3 e3 hu => ⟨i, j, by rw [hv.intV, hu.intV], q _ H3 (e2.trans e3) (.int _)⟩
/-- a list that stays in its place -/
theorem iv_listV {α : Type} {xs : List α} {enc : α → PyData} {vs : List V} {a : Addr} (h : Ev tl σ H (.ref a)) (ha : H a = some (.lst vs)) (hd : Dts K H vs (xs.map enc)) : IV (iList K tl) σ H xs (RD K enc) (fun H2 H3 => H3 a = some (.lst vs) ∧ TLe K H2 H3) := fun H1 e1 Q q => h H1 e1 _ fun H2 e2 => by
  have h2 := (e1.trans e2) _ _ ha
  exact ⟨a, rfl, ⟨vs, sq_of h2⟩, q _ H2 _ e2 (fun H3 k => ⟨sq_of k.1, (hd.ex (e1.trans e2)).mono k.2⟩) runs_list⟩
end
-- 0 _law_plank_here, 1 _law_spot, 2 _law_own
theorem sc_law_over : FnScope ["_law_plank_here", "_law_spot", "_law_own"] ["_law_plank_here", "_law_spot"] (defScope s_law_over) := C8.fnScope_by (by decide +kernel)
theorem c_law_over (T : Txt K mg) : C8.Cal P w K mg base 1 "_law_over" (spLR K (fun p : Fence × Int => [fD p.1, .int p.2]) (fun p => p.1.length ≤ 100) fun p es => es = (ov p.1 p.2).map PyData.str) [] := by
  refine cal_of T.d_law_over (fun _ _ _ _ _ _ us hu => by match us, hu with | [_, _], _ => rfl) sc_law_over (spLR_len fun _ => rfl) fun f cdv A outer s H vs Q E hr h => ?_
  obtain ⟨⟨F, c⟩, hF, hd, gv⟩ := h
  dsimp only at hF hd gv
  obtain ⟨v, u, rfl, hv, hu⟩ := dts2 hd
  refine ⟨_, (pss_one (ps_ret (pe_lc (own := [("_law_own", 2)]) rfl sc_law_over.nd (k_piT K rfl (pv 0)) (blkOk_by (by kernel_rfl)) (fun _ _ _ _ _ => (pg_name (i := 2) sc_law_over.nd rfl (by first | exact Or.inl rfl | exact Or.inr rfl))) (fun _ _ _ _ _ => (pts_one (pt_chain op_le op_le (pe_ix (k_ixT K rfl) (pv 2) pe_int (fun _ _ => rfl)) (pv 1) (pe_ix (k_ixT K rfl) (pv 2) pe_int (fun _ _ => rfl))))) (fun _ _ _ _ _ => (pe_ix (k_ixT K rfl) (pv 2) pe_int (fun _ _ => rfl)))))), ?_⟩
  refine s_retN (l_lcI (K := K) (xs := F) (isOver c) (fun b => .str b.n) (iv_tup (xs := F) (enc := bD) (g_var rfl hv)) TLe.ex (by omega) fun b hb v1 H1 e1 h1 => ?_) fun p xs H1 hp e1 hx hxd => gv p xs H1 _ hp e1 hx hxd ?_
  · exact trn_name rfl (g_test (g_chainI (K := K) (g := fun i j => decide (i ≤ j)) (g' := fun i j => decide (i ≤ j)) (g_ixk (k := 1) (g_var rfl h1) rfl) (g_var rfl (hu.ex e1)) (g_ixk (k := 2) (g_var rfl h1) rfl))) fun _ => g_ixk (k := 0) (g_var rfl h1) rfl
  · unfold made ov
    rw [List.map_map]; rfl
-- 0 _law_plank_here, 1 _law_own
theorem sc_law_names : FnScope ["_law_plank_here", "_law_own"] ["_law_plank_here"] (defScope s_law_names) := C8.fnScope_by (by decide +kernel)
theorem c_law_names (T : Txt K mg) : C8.Cal P w K mg base 1 "_law_names" (spD K (fun F : Fence => [fD F]) (fun F => F.length ≤ 100) fun F => strsD (nm F)) [] := by
  refine cal_of T.d_law_names (fun _ _ _ _ _ _ us hu => by match us, hu with | [_], _ => rfl) sc_law_names (spD_len fun _ => rfl) fun f cdv A outer s H vs Q E hr h => ?_
  obtain ⟨F, hF, hd, gv⟩ := h
  dsimp only at hF hd gv
  obtain ⟨v, rfl, hv⟩ := dts1 hd
  refine ⟨_, (pss_one (ps_ret (pe_callTy (k_tupOf K rfl) (by rfl) T.z_tuple (by decide +kernel) (pa_cons (pe_lc (own := [("_law_own", 1)]) rfl sc_law_names.nd (k_piT K rfl (pv 0)) (blkOk_by (by kernel_rfl)) (fun _ _ _ _ _ => (pg_name (i := 1) sc_law_names.nd rfl (by first | exact Or.inl rfl | exact Or.inr rfl))) (fun _ _ _ _ _ => pts_nil) (fun _ _ _ _ _ => (pe_ix (k_ixT K rfl) (pv 1) pe_int (fun _ _ => rfl)))) pa_nil)))), ?_⟩
  refine s_retD (g_tupleOf (EL.toS ((l_lcI (K := K) (xs := F) (fun _ => true) (fun b => .str b.n) (iv_tup (xs := F) (enc := bD) (g_var rfl hv)) TLe.ex (by omega) fun b hb v1 H1 e1 h1 => trn_name rfl yes_t fun _ => g_ixk (k := 0) (g_var rfl h1) rfl).is ?_))) fun v2 H2 e2 h2 => gv v2 H2 e2 h2
  rw [made_all]
  unfold nm
  rw [List.map_map]; rfl
-- 0 _law_plank_here, 1 _law_queue, 2 _law_spot, 3 _law_tag
theorem sc_law_last : FnScope ["_law_plank_here", "_law_queue", "_law_spot", "_law_tag"] ["_law_plank_here", "_law_queue", "_law_spot"] (defScope s_law_last) := C8.fnScope_by (by decide +kernel)
theorem c_law_last (T : Txt K mg) : C8.Cal P w K mg base 2 "_law_last" (spR K (fun p : Fence × List Str × Int => [fD p.1, strsD p.2.1, .int p.2.2]) (fun p => p.1.length ≤ 100 ∧ p.2.1.length ≤ 100 ∧ ∃ x ∈ p.2.1, x ∈ ov p.1 p.2.2) fun p d => ∃ x ∈ ov p.1 p.2.2, d = .str x) [] := by
  refine cal_of T.d_law_last (fun _ _ _ _ _ _ us hu => by match us, hu with | [_, _, _], _ => rfl) sc_law_last (spR_len fun _ => rfl) fun f cdv A outer s H vs Q E hr h => ?_
  obtain ⟨⟨F, xs, c⟩, ⟨hF, hx, x0, hx0, hxo⟩, hd, gv⟩ := h
  dsimp only at hF hx hx0 hxo hd gv
  obtain ⟨v, u, y, rfl, hv, hu, hy⟩ := dts3 hd
  have hne : xs.filter (fun x => decide (x ∈ ov F c)) ≠ [] := fun e => by
    rw [List.filter_eq_nil_iff] at e
    exact e x0 hx0 (decide_eq_true hxo)
  have hpos : 0 < (xs.filter fun x => decide (x ∈ ov F c)).length := List.length_pos_iff.mpr hne
  refine ⟨_, (pss_one (ps_ret (pe_ix (k_ixL K rfl) (pe_lc (own := [("_law_tag", 3)]) rfl sc_law_last.nd (k_piT K rfl (pv 1)) (blkOk_by (by kernel_rfl)) (fun _ _ _ _ _ => (pg_name (i := 3) sc_law_last.nd rfl (by first | exact Or.inl rfl | exact Or.inr rfl))) (fun _ _ _ _ _ => (pts_one (pt_cmpR (k_in K rfl) (pv 3) (C8.pe_c (c_law_over T) hr (by decide) (by rfl) (pa_cons (pv 0) (pa_cons (pv 2) pa_nil))) (by rfl)))) (fun _ _ _ _ _ => (pv 3))) (pe_un un_neg pe_int) (fun _ _ => rfl)))), ?_⟩
  obtain ⟨x1, hx1, hlast⟩ : ∃ x1, x1 ∈ xs.filter (fun x => decide (x ∈ ov F c)) ∧ ((xs.filter fun x => decide (x ∈ ov F c)).map PyData.str)[((xs.filter fun x => decide (x ∈ ov F c)).map PyData.str).length - 1]? = some (.str x1) := by
    generalize xs.filter (fun x => decide (x ∈ ov F c)) = l at hpos
    have hlt : l.length - 1 < l.length := by omega
    refine ⟨l[l.length - 1], List.getElem_mem _, ?_⟩
    rw [List.length_map, List.getElem?_map, List.getElem?_eq_getElem hlt]
    rfl
  refine s_retD (K := K) (d := .str x1) (g_ixL (ds := (xs.filter fun x => decide (x ∈ ov F c)).map PyData.str) (EL.toS (l_lcI (K := K) (xs := xs) (fun x => decide (x ∈ ov F c)) PyData.str (iv_tup (xs := xs) (enc := PyData.str) (g_var rfl hu)) TLe.ex (by omega) fun x hx' v1 H1 e1 h1 => ?_)) (g_ofInt (ev_un ev_c ru_neg)) (ixN_last (by rw [List.length_map]; exact hpos)) hlast) fun v2 H2 e2 h2 => gv v2 H2 _ e2 h2 ⟨x1, ?_, rfl⟩
  · exact trn_name rfl (g_test (g_inL (xs := ov F c) (g_var rfl h1) (EL.toS (elr_eq (lr_call (F, c) (a_cons (g_var rfl (hv.ex e1)) (a_cons (g_var rfl (hy.ex e1)) a_nil)) hF))))) fun _ => g_var rfl h1
  exact of_decide_eq_true (List.mem_filter.mp hx1).2
/-! _law_of -/
def spOf (K : PySem.W.Frag) : Sp := fun vs H Q _ => ∃ (pb p : Addr) (ns : List Str) (N : Int), vs = [.ref pb, .ref p] ∧ p ≠ pb ∧ ns ≠ [] ∧ ns.length ≤ 100 ∧ N ≤ 1000000 ∧ BOk H pb N ∧ H p = some (.lst (ns.map V.str)) ∧ ∀ x H2, x ∈ ns → XB pb (N + 1) H H2 → Q (.str x) H2
-- 0 _law_box_here, 1 _law_some
theorem sc_law_of : FnScope ["_law_box_here", "_law_some"] ["_law_box_here", "_law_some"] (defScope s_law_of) := C8.fnScope_by (by decide +kernel)
theorem c_law_of (T : Txt K mg) : C8.Cal P w K mg base 2 "_law_of" (spOf K) [] := by
  refine cal_of T.d_law_of (fun _ _ _ _ _ _ us hu => by match us, hu with | [_, _], _ => rfl) sc_law_of (fun vs H Q E h => by obtain ⟨_, _, _, _, rfl, _⟩ := h; rfl) fun f cdv A outer s H vs Q E hr h => ?_
  obtain ⟨pb, p, ns, N, rfl, hpb, hne, hl, hN, hb, hp, gv⟩ := h
  have hpos : 0 < ns.length := List.length_pos_iff.mpr hne
  refine ⟨_, (pss_one (ps_ret (pe_ix (k_ixL K rfl) (pv 1) (C8.pe_c (c_law_take T) hr (by decide) (by rfl) (pa_cons (pv 0) (pa_cons (pe_callB (k_len K rfl) (by rfl) T.z_len (by decide +kernel) (pa_cons (pv 1) pa_nil)) pa_nil))) (fun _ _ => rfl)))), ?_⟩
  refine ⟨.ref p, rfl, .ref pb, rfl, ?_⟩
  refine g_lenL (K := K) (es_names (ns := ns) (ev_var rfl) hp) H (Ex.refl _) _ fun v1 H1 e1 h1 => ?_
  rw [h1.intV, List.length_map]
  refine ⟨pb, ns.length, N, rfl, by omega, by omega, hN, hb.ex e1, fun r H2 hr0 hr1 x2 => ?_⟩
  have hp2 := x2.keep _ _ hpb (e1 _ _ hp)
  obtain ⟨j, rfl⟩ : ∃ j : Nat, r = (j : Int) := ⟨r.toNat, by omega⟩
  have hlt : j < ns.length := by omega
  refine ⟨p, ns.map V.str, j, .str ns[j], rfl, rfl, sq_of hp2, ?_, gv _ H2 (List.getElem_mem _) (XB.pre e1 x2 hb)⟩
  unfold atI
  rw [List.length_map, ixN_at hlt]
  simp [hlt]
/-! _law_pick -/
def spPick (K : PySem.W.Frag) : Sp := fun vs H Q _ => ∃ (pb p : Addr) (ns : List Str) (size : Nat) (N : Int), vs = [.ref pb, .ref p, .int (size : Int)] ∧ ns.length ≤ 20 ∧ N ≤ 900000 ∧ BOk H pb N ∧ (SqL K H p (ns.map V.str) ∨ SqT K H p (ns.map V.str)) ∧
  ∀ (q : Addr) (xs rest : List Str) (H2 : Hp), H q = none → XB pb (N + 20) H H2 → H2 q = some (.lst (xs.map V.str)) → (xs ++ rest).Perm ns → xs.length = min size ns.length → Q (.ref q) H2
-- 0 _law_box_here, 1 _law_pool, 2 _law_size_so, 3 _law_turn, 4 _law_rest, 5 _law_some
theorem sc_law_pick : FnScope ["_law_box_here", "_law_pool", "_law_size_so", "_law_turn", "_law_rest", "_law_some"] ["_law_box_here", "_law_pool", "_law_size_so"] (defScope s_law_pick) := C8.fnScope_by (by decide +kernel)
theorem c_law_pick (T : Txt K mg) : C8.Cal P w K mg base 2 "_law_pick" (spPick K) [] := by
  refine cal_of T.d_law_pick (fun _ _ _ _ _ _ us hu => by match us, hu with | [_, _, _], _ => rfl) sc_law_pick (fun vs H Q E h => by obtain ⟨_, _, _, _, _, rfl, _⟩ := h; rfl) fun f cdv A outer s H vs Q E hr h => ?_
  obtain ⟨pb, p, ns, size, N, rfl, hl, hN, hb, hp, gv⟩ := h
  obtain ⟨xb, hxb⟩ := hb.lst
  refine ⟨_, (pss_cons (ps_par (i := 4) (j := 5) rfl sc_law_pick.nd rfl rfl (by decide) rfl rfl (pa_cons (pe_callTy (k_listOf K rfl) (by rfl) T.z_list (by decide +kernel) (pa_cons (pv 1) pa_nil)) (pa_cons (pe_lst pa_nil) pa_nil)) rfl)
  (pss_cons (ps_for PassesOwn.never rfl (pi_range1 (by rfl) T.z_range (pa_cons (pe_callB (call_min2 rfl) (by rfl) T.z_min (by decide +kernel) (pa_cons (pv 2) (pa_cons (pe_callB (k_len K rfl) (by rfl) T.z_len (by decide +kernel) (pa_cons (pv 4) pa_nil)) pa_nil))) pa_nil)) (pg_name (i := 3) sc_law_pick.nd rfl (by first | exact Or.inl rfl | exact Or.inr rfl)) (pss_one (ps_expr (pe_bm PySem.F.plainAttrs_list PySem.F.slot_list_append PySem.F.type_list_append mt_append (pv 5) (pa_cons (pe_bm PySem.F.plainAttrs_list PySem.F.slot_list_pop PySem.F.type_list_pop mt_popAt (pv 4) (pa_cons (C8.pe_c (c_law_take T) hr (by decide) (by rfl) (pa_cons (pv 0) (pa_cons (pe_callB (k_len K rfl) (by rfl) T.z_len (by decide +kernel) (pa_cons (pv 4) pa_nil)) pa_nil))) pa_nil)) pa_nil)))))
  (pss_one (ps_ret (pv 5))))), ?_⟩
  refine ⟨.ref p, rfl, p, _, rfl, hp, fun pr hpr => ⟨sz_of (by simp), fun pm hpm => ⟨.ref pr, .ref pm, rfl, ?_⟩⟩⟩
  have e1 : Ex H (upd H pr (.lst (ns.map V.str))) := Ex.new hpr
  have e2 : Ex (upd H pr (.lst (ns.map V.str))) (upd (upd H pr (.lst (ns.map V.str))) pm (.lst [])) := Ex.new hpm
  have hr1 : (upd (upd H pr (.lst (ns.map V.str))) pm (.lst [])) pr = some (.lst (ns.map V.str)) := e2 _ _ upd_same
  have hm1 : (upd (upd H pr (.lst (ns.map V.str))) pm (.lst [])) pm = some (.lst []) := upd_same
  have hpm0 : H pm = none := fresh_back e1 hpm
  have ne : pr ≠ pm := fun z => by rw [← z, upd_same] at hpm; cases hpm
  have nb1 : pr ≠ pb := fun z => by rw [z, hxb] at hpr; cases hpr
  have nb2 : pm ≠ pb := fun z => by rw [z, hxb] at hpm0; cases hpm0
  generalize upd (upd H pr (.lst (ns.map V.str))) pm (.lst []) = H1 at e2 hr1 hm1
  have e12 := e1.trans e2
  refine q_forI (iv_range (K := K) (n := min size ns.length) (a_cons ((g_min2 (g_var rfl (.int _)) (g_lenL (es_names (ns := ns) (ev_var rfl) hr1))).is ?_) a_nil) (by omega)) (fun _ i σ' H' => ∃ (rest xs : List Str) (y3 : Option V), σ' = [some (.ref pb), some (.ref p), some (.int (size : Int)), y3, some (.ref pr), some (.ref pm)] ∧ XB pb (N + i) H H' ∧ H' pr = some (.lst (rest.map V.str)) ∧ H' pm = some (.lst (xs.map V.str)) ∧ (xs ++ rest).Perm ns ∧ xs.length = i)
    (fun H2 x2 => ⟨ns, [], none, rfl, (XB.of (e12.trans x2) hb).up (by omega), x2 _ _ hr1, x2 _ _ hm1, List.Perm.refl _, rfl⟩) (fun _ _ _ _ _ _ => trivial) (fun H2 i x v1 σ' H' H3 x2 hi ⟨rest, xs, y3, hσ, x, hr', hm', pm', hxl⟩ e3 hv1 => ?_) fun H2 σ' H' x2 ⟨rest, xs, y3, hσ, x, hr', hm', pm', hxl⟩ => ?_
  · rw [List.length_map]
    congr 1
    split <;> omega
  · subst hσ
    have hil := (List.getElem?_eq_some_iff.mp hi).1
    rw [List.length_range] at hil
    have hlen := pm'.length_eq
    rw [List.length_append] at hlen
    have hpos : 0 < rest.length := by omega
    have hr3 := e3 _ _ hr'
    have hm3 := e3 _ _ hm'
    have x3 := x.ex e3
    refine ⟨.ref pm, rfl, .inl ⟨rfl, _, sq_of hm3⟩, .ref pr, rfl, .inl ⟨rfl, _, sq_of hr3⟩, .ref pb, rfl, ?_⟩
    refine g_lenL (K := K) (es_names (ns := rest) (ev_var rfl) hr3) H3 (Ex.refl _) _ fun v4 H4 e4 h4 => ?_
    rw [h4.intV, List.length_map]
    refine ⟨pb, rest.length, N + i, rfl, by omega, by omega, by omega, x3.box.ex e4, fun r H5 hr0 hr1 x5 => ?_⟩
    have x35 := (x3.ex e4).trans x5
    have hr5 := x5.keep _ _ nb1 (e4 _ _ hr3)
    have hm5 := x5.keep _ _ nb2 (e4 _ _ hm3)
    have hlt : r.toNat < rest.length := by omega
    have hget : rest[r.toNat]? = some rest[r.toNat] := List.getElem?_eq_getElem hlt
    refine ⟨pr, rest.map V.str, r, r.toNat, .str rest[r.toNat], rfl, rfl, hr5, by omega, by omega, by rw [List.length_map]; exact seqIx hr0 hr1, by rw [List.getElem?_map, hget]; rfl, ?_⟩
    rw [erase_at]
    refine ⟨pm, xs.map V.str, .str rest[r.toNat], rfl, rfl, by rw [upd_ne fun z => ne z.symm]; exact hm5, sz_lt (by rw [List.length_map]; omega), rest.eraseIdx r.toNat, xs ++ [rest[r.toNat]], _, rfl, ?_, ?_, ?_, ?_, ?_⟩
    · have := ((x35.put (o := .lst ((rest.eraseIdx r.toNat).map V.str)) hpr nb1).put (o := .lst (xs.map V.str ++ [.str rest[r.toNat]])) hpm0 nb2)
      exact this.up (by omega)
    · rw [upd_ne ne]; exact upd_same
    · rw [upd_same, List.map_append]; rfl
    · rw [List.append_assoc]
      exact (List.Perm.append_left xs (perm_at hget)).trans pm'
    · rw [List.length_append, List.length_singleton, hxl]
  · subst hσ
    rw [List.length_range] at hxl
    refine s_ret (ev_var rfl) fun H3 e3 => gv pm xs rest H3 hpm0 ((x.up ?_).ex e3) (e3 _ _ hm') pm' hxl
    rw [List.length_range]
    omega
end
end K77
set_option maxHeartbeats 1000000
/-! _law_plank. -/
namespace K77
open PySem PySem.Spec PyProof.Rows L2 Evl
def poolN : List Str := ["a", "b", "c", "d", "e", "f", "x", "yy", "abcdefgh"]
theorem pool_nd : poolN.Nodup := by decide
theorem pool_bare : ("-" : Str) ∉ poolN := by decide
theorem pool_txt : ∀ x ∈ poolN, PyData.canLay0 (.str x) = true := by decide +kernel
theorem inStrs (l : List Str) : SetIn (l.map PyData.str) := .inl ⟨l.map Sum.inr, by rw [List.map_map]; rfl, fun j hj k hk => by
  obtain ⟨a, _, rfl⟩ := List.mem_map.mp hj
  obtain ⟨b, _, rfl⟩ := List.mem_map.mp hk
  rfl⟩
section
variable {P : Program} {w : World} {K : PySem.W.Frag} {mg : Str → Option Value} {base : Heap}
def spPlank (K : PySem.W.Frag) : Sp := fun vs H Q _ => ∃ (pb : Addr) (most wide N : Int), vs = [.ref pb, .int most, .int wide] ∧ 1 ≤ most ∧ most ≤ 5 ∧ 1 ≤ wide ∧ wide ≤ 100 ∧ N ≤ 800000 ∧ BOk H pb N ∧
  ∀ v F H2, XB pb (N + 64) H H2 → Dt K H2 v (fD F) → FOk F → Q v H2
-- 0 _law_box_here, 1 _law_most, 2 _law_wide_so, 3 _law_tags, 4 _law_found, 5 _law_tag, 6 _law_low_so
theorem sc_law_plank : FnScope ["_law_box_here", "_law_most", "_law_wide_so", "_law_tags", "_law_found", "_law_tag", "_law_low_so"] ["_law_box_here", "_law_most", "_law_wide_so"] (defScope s_law_plank) := C8.fnScope_by (by decide +kernel)
theorem c_law_plank (T : Txt K mg) : C8.Cal P w K mg base 3 "_law_plank" (spPlank K) [] := by
  refine cal_of T.d_law_plank (fun _ _ _ _ _ _ us hu => by match us, hu with | [_, _, _], _ => rfl) sc_law_plank (fun vs H Q E h => by obtain ⟨_, _, _, _, rfl, _⟩ := h; rfl) fun f cdv A outer s H vs Q E hr h => ?_
  obtain ⟨pb, most, wide, N, rfl, hm1, hm2, hw1, hw2, hN, hb, gv⟩ := h
  obtain ⟨xb, hxb⟩ := hb.lst
  refine ⟨_, (pss_cons (ps_set (i := 3) sc_law_plank.nd rfl (by first | exact Or.inl rfl | exact Or.inr rfl) (pe_callB (k_srt K rfl) (by rfl) T.z_sorted (by decide +kernel) (pa_cons (C8.pe_c (c_law_pick T) hr (by decide) (by rfl) (pa_cons (pv 0) (pa_cons (pe_lst (pa_cons pe_str (pa_cons pe_str (pa_cons pe_str (pa_cons pe_str (pa_cons pe_str (pa_cons pe_str (pa_cons pe_str (pa_cons pe_str (pa_cons pe_str pa_nil)))))))))) (pa_cons (pe_op op_add pe_int (C8.pe_c (c_law_take T) hr (by decide) (by rfl) (pa_cons (pv 0) (pa_cons (pv 1) pa_nil)))) pa_nil)))) pa_nil)))
  (pss_cons (ps_set (i := 4) sc_law_plank.nd rfl (by first | exact Or.inl rfl | exact Or.inr rfl) (pe_lst pa_nil))
  (pss_cons (ps_for PassesOwn.never rfl (k_piL K rfl (pv 3)) (pg_name (i := 5) sc_law_plank.nd rfl (by first | exact Or.inl rfl | exact Or.inr rfl)) (pss_cons (ps_set (i := 6) sc_law_plank.nd rfl (by first | exact Or.inl rfl | exact Or.inr rfl) (C8.pe_c (c_law_take T) hr (by decide) (by rfl) (pa_cons (pv 0) (pa_cons (pv 2) pa_nil))))
  (pss_one (ps_expr (pe_bm PySem.F.plainAttrs_list PySem.F.slot_list_append PySem.F.type_list_append mt_append (pv 4) (pa_cons (pe_tup (pa_cons (pv 5) (pa_cons (pv 6) (pa_cons (pe_op op_add (pv 6) (C8.pe_c (c_law_take T) hr (by decide) (by rfl) (pa_cons (pv 0) (pa_cons (pv 2) pa_nil)))) pa_nil)))) pa_nil))))))
  (pss_one (ps_ret (pe_callTy (k_tupOf K rfl) (by rfl) T.z_tuple (by decide +kernel) (pa_cons (pv 4) pa_nil))))))), ?_⟩
  -- tags
  refine ⟨.ref pb, rfl, ?_⟩
  refine l_lst (K := K) (ds := poolN.map PyData.str) (a_cons g_str (a_cons g_str (a_cons g_str (a_cons g_str (a_cons g_str (a_cons g_str (a_cons g_str (a_cons g_str (a_cons g_str a_nil))))))))) (by simp [poolN]) H (Ex.refl H) _ fun pp xs H1 hpp e1 hlp hxs => ?_
  obtain rfl := hxs.strs
  have hb1 := hb.ex e1
  refine ⟨.ref pb, rfl, .int most, rfl, pb, most, N, rfl, hm1, by omega, by omega, hb1, fun r H2 hr0 hr1 x2 => ?_⟩
  refine ⟨1, r, rfl, rfl, ?_⟩
  obtain ⟨rn, hrn⟩ : ∃ rn : Nat, 1 + r = (rn : Int) := ⟨(1 + r).toNat, by omega⟩
  have npp : pp ≠ pb := fun z => by rw [z, hxb] at hpp; cases hpp
  have hlp2 := x2.keep _ _ npp hlp
  refine ⟨pb, pp, poolN, rn, N + 1, (by show [V.ref pb, V.ref pp, V.int (1 + r)] = _; rw [hrn]), by decide, by omega, x2.box, .inl (sq_of hlp2), fun q xs rest H3 hq x3 hlq hperm hlen => ?_⟩
  have x13 := x2.trans x3
  have hl5 : xs.length ≤ 5 := by
    have : poolN.length = 9 := rfl
    omega
  refine ⟨q, xs.map V.str, xs.map PyData.str, rfl, .inl (sq_of hlq), dts_strs xs, by rw [List.length_map]; omega, inStrs xs, fun pt ys es hpt hes hpw hys => ?_⟩
  obtain ⟨tags, rfl⟩ := all_of (enc := PyData.str) fun d hd => by
    obtain ⟨t, _, rfl⟩ := List.mem_map.mp ((hes.mem_iff).mp hd)
    exact ⟨t, rfl⟩
  obtain rfl := hys.strs
  have htp : tags.Perm xs := by
    have := hes.map (fun d : PyData => match d with | .str x => x | _ => ("" : Str))
    rw [List.map_map, List.map_map] at this
    have e : ∀ l : List Str, l.map ((fun d : PyData => match d with | .str x => x | _ => ("" : Str)) ∘ PyData.str) = l := fun l => List.map_id' l
    rwa [e, e] at this
  have htl : tags.length ≤ 5 := by rw [htp.length_eq]; exact hl5
  have hpt0 : H pt = none := fresh_back e1 (x13.fresh hpt)
  have npt : pt ≠ pb := fun z => by rw [z, hxb] at hpt0; cases hpt0
  have e4 : Ex H3 (upd H3 pt (.lst (tags.map V.str))) := Ex.new hpt
  have hlt : (upd H3 pt (.lst (tags.map V.str))) pt = some (.lst (tags.map V.str)) := upd_same
  have x4 : XB pb (N + 21) H (upd H3 pt (.lst (tags.map V.str))) := ((XB.pre e1 x13 hb).up (by omega)).ex e4
  show tSeq _ _ _ _ (upd H3 pt (.lst (tags.map V.str)))
  generalize upd H3 pt (.lst (tags.map V.str)) = H4 at e4 hlt x4
  -- found
  refine q_asgN (K := K) (l_lst a_nil (by simp)) fun pf zs H5 hpf e5 hlf hzf => ?_
  obtain rfl : zs = [] := by cases hzf; rfl
  have hpf0 : H pf = none := x4.fresh hpf
  have npf : pf ≠ pb := fun z => by rw [z, hxb] at hpf0; cases hpf0
  have nft : pt ≠ pf := fun z => by rw [z, hpf] at hlt; cases hlt
  have hlt5 := e5 _ _ hlt
  refine q_forI (iv_listV (xs := tags) (enc := PyData.str) (ev_var rfl) hlt5 (dts_strs tags)) (fun H6 i σ' H' => (H' pt = some (.lst (tags.map V.str)) ∧ TLe K H6 H') ∧ XB pb (N + 21 + 2 * i) H H' ∧ (∃ y5 y6, σ' = [some (.ref pb), some (.int most), some (.int wide), some (.ref pt), some (.ref pf), y5, y6]) ∧ ∃ (zs : List V) (Fs : Fence), H' pf = some (.lst zs) ∧ Dts K H' zs (Fs.map bD) ∧ nm Fs = tags.take i)
    (fun H6 e6 => ⟨⟨e6 _ _ hlt5, TLe.refl⟩, ((x4.ex e5).ex e6).up (by omega), ⟨_, _, rfl⟩, [], [], e6 _ _ hlf, .nil, rfl⟩) (fun H6 i σ' H' _ h => h.1) (fun H6 i x v1 σ' H' H7 e6 hi ⟨⟨t1, t2⟩, x6, ⟨y5, y6, hσ⟩, zs, Fs, hz, hzd, hnm⟩ e7 hv1 => ?_) fun H6 σ' H' e6 ⟨⟨t1, t2⟩, x6, ⟨y5, y6, hσ⟩, zs, Fs, hz, hzd, hnm⟩ => ?_
  · subst hσ
    have hil := (List.getElem?_eq_some_iff.mp hi).1
    have x7 := x6.ex e7
    refine ⟨.ref pb, rfl, .int wide, rfl, pb, wide, N + 21 + 2 * i, rfl, hw1, by omega, by omega, x7.box, fun lo H8 hlo0 hlo1 x8 => ?_⟩
    have hz8 := x8.keep _ _ npf (e7 _ _ hz)
    have t8 := (TLe.ex (K := K) e7).trans x8.tle
    have hv8 := hv1.mono x8.tle
    refine ⟨.ref pf, rfl, .inl ⟨rfl, _, sq_of hz8⟩, v1, rfl, .int lo, rfl, .int lo, rfl, .ref pb, rfl, .int wide, rfl, pb, wide, N + 21 + 2 * i + 1, rfl, hw1, by omega, by omega, x8.box, fun wd H9 hwd0 hwd1 x9 => ?_⟩
    refine ⟨lo, wd, rfl, rfl, sz_of (by simp), fun p hp => ?_⟩
    have hz9 := x9.keep _ _ npf hz8
    have e10 : Ex H9 (upd H9 p (.tup [v1, .int lo, .int (lo + wd)])) := Ex.new hp
    have hz10 := e10 _ _ hz9
    have hzl : zs.length = i := by
      rw [hzd.length, List.length_map, ← nm_len, hnm, List.length_take]
      omega
    refine ⟨pf, zs, .ref p, rfl, rfl, hz10, sz_lt (by omega), ?_⟩
    have t9 := (t8.trans x9.tle).trans (TLe.ex e10)
    have t10 : TLe K (upd H9 p (.tup [v1, .int lo, .int (lo + wd)])) (upd (upd H9 p (.tup [v1, .int lo, .int (lo + wd)])) pf (.lst (zs ++ [.ref p]))) := TLe.lst hz10
    have x10 : XB pb (N + 21 + 2 * (i + 1)) H (upd (upd H9 p (.tup [v1, .int lo, .int (lo + wd)])) pf (.lst (zs ++ [.ref p]))) := ((((x7.trans x8).trans x9).ex e10).put hpf0 npf).up (by omega)
    refine ⟨⟨?_, (t2.trans t9).trans t10⟩, (by push_cast; exact x10), ⟨_, _, rfl⟩, zs ++ [.ref p], Fs ++ [⟨x, lo, lo + wd⟩], upd_same, ?_, ?_⟩
    · rw [upd_ne nft]
      exact e10 _ _ (x9.keep _ _ npt (x8.keep _ _ npt (e7 _ _ t1)))
    · rw [List.map_append]
      refine (hzd.mono (t9.trans t10)).append (.cons ?_ .nil)
      exact (Dt.tup (st_of upd_same) (.cons ((hv8.mono x9.tle).ex e10) (.cons (.int _) (.cons (.int _) .nil)))).mono t10
    · rw [take_succ hi]
      unfold nm at hnm ⊢
      rw [List.map_append, hnm]; rfl
  · subst hσ
    rw [List.take_length] at hnm
    have hnd : tags.Nodup := by
      have h1 : (xs ++ rest).Nodup := hperm.nodup_iff.mpr pool_nd
      exact htp.nodup_iff.mpr (List.nodup_append.mp h1).1
    have hin : ∀ x ∈ tags, x ∈ poolN := fun x hx => hperm.mem_iff.mp (List.mem_append_left _ (htp.mem_iff.mp hx))
    refine s_retD (g_tupleOf (es_old (ev_var rfl) (sq_of hz) hzd)) fun v9 H9 e9 h9 => gv v9 Fs H9 ((x6.ex e9).up (by omega)) h9 ⟨?_, ?_, ?_, ?_, ?_⟩
    · rw [hnm]; exact hnd
    · rw [hnm]
      exact List.pairwise_map.mp hpw
    · rw [← nm_len, hnm]; exact htl
    · rw [hnm]; exact fun z => pool_bare (hin _ z)
    · rw [hnm]; exact fun x hx => pool_txt x (hin x hx)
end
end K77
set_option maxHeartbeats 1000000
/-! _law_sees. -/
namespace K77
open PySem PySem.Spec PyProof.Rows L2 Evl
theorem eqv_nil {ds : List PyData} : PyData.eqv (.list ds) (.list []) = decide (ds = []) := by
  cases ds <;> simp [PyData.eqv, PyData.eqvAll]
theorem putT_key {kvs : List (TKy × V)} {k : TKy} {v : V} {p : TKy × V} (h : p ∈ putK kvs k v) : p.1 = k ∨ ∃ q ∈ kvs, q.1 = p.1 := by
  unfold putK at h
  split at h
  · obtain ⟨q, hq, e⟩ := List.mem_map.mp h
    refine .inr ⟨q, hq, ?_⟩
    split at e <;> rw [← e]
  · rcases List.mem_append.mp h with h | h
    · exact .inr ⟨p, h, rfl⟩
    · rw [List.mem_singleton.mp h]
      exact .inl rfl
theorem putT_len {kvs : List (TKy × V)} {k : TKy} {v : V} : (putK kvs k v).length ≤ kvs.length + 1 := by
  unfold putK
  split
  · rw [List.length_map]; omega
  · rw [List.length_append, List.length_singleton]; exact Nat.le_refl _
theorem str_sh {F : Fence} (hF : FOk F) {l : List Str} (h : ∀ x ∈ l, x ∈ nm F) : SeqAt.shaped (.list (l.map PyData.str)) = true := sh_list (fun x hx => hF.txt x (h x hx)) fun x hx => by simp [PyData.depth]
section
variable {P : Program} {w : World} {K : PySem.W.Frag} {mg : Str → Option Value} {base : Heap}
section
variable {σ : L2.St} {H : Hp} {te : TE} {D : Ends} {tz tbd : TS} {g : TG} {pb : Addr} {N top : Int} {E : XK}
theorem q_take {i j : Nat} (hi : σ[i]? = some (some (.ref pb))) (ht : ED K te σ H (.int top)) (h1 : 1 ≤ top) (h2 : top ≤ 1000) (hN : N ≤ 1000000) (hb : BOk H pb N) (k : ∀ r H2, 0 ≤ r → r < top → XB pb (N + 1) H H2 → tz D (σ.set j (some (.int r))) H2) :
    tSeq (tAsg (tCall spTake [] E (tCons (tVar i) (tCons te tNil))) (gName j)) tz D σ H := ⟨.ref pb, hi, ht H (Ex.refl H) _ fun v H1 e1 hv => by
  rw [hv.intV]
  exact ⟨pb, top, N, rfl, h1, h2, hN, hb.ex e1, fun r H2 h0 h1 x => k r H2 h0 h1 (XB.pre e1 x hb)⟩⟩
theorem q_forRT {i : Nat} (hi : σ[i]? = some (some (.ref pb))) (ht : ED K te σ H (.int top)) (h1 : 1 ≤ top) (h2 : top ≤ 1000) (hN : N ≤ 1000000) (hb : BOk H pb N) (k : ∀ (n : Nat) H2, (n : Int) < top → XB pb (N + 1) H H2 → tSeq (tFor (iRng1 (fun _ H Q => Q [.int (n : Int)] H)) g tbd) tz D σ H2) :
    tSeq (tFor (iRng1 (tCons (tCall spTake [] E (tCons (tVar i) (tCons te tNil))) tNil)) g tbd) tz D σ H := ⟨.ref pb, hi, ht H (Ex.refl H) _ fun v H1 e1 hv => by
  rw [hv.intV]
  refine ⟨pb, top, N, rfl, h1, h2, hN, hb.ex e1, fun r H2 h0 h1 x => ?_⟩
  obtain ⟨n, rfl⟩ : ∃ n : Nat, r = (n : Int) := ⟨r.toNat, by omega⟩
  exact k n H2 h1 (XB.pre e1 x hb)⟩
/-- bent == 1 and take(box, 4) == 0 -/
theorem q_bent (K : PySem.W.Frag) {i j : Nat} {r : Int} {tu : TS} (hi : σ[i]? = some (some (.int r))) (hj : σ[j]? = some (some (.ref pb))) (hN : N ≤ 1000000) (hb : BOk H pb N) (h1 : ∀ H2, XB pb (N + 1) H H2 → tu { D with nx := tz D } σ H2) (h2 : ∀ H2, XB pb (N + 1) H H2 → tz D σ H2) :
    tSeq (tIfS (tAnd (tTest (tOp rEq (tVar i) (tC (.int 1)))) (tTest (tOp rEq (tCall spTake [] E (tCons (tVar j) (tCons (tC (.int 4)) tNil))) (tC (.int 0))))) tu tNext) tz D σ H := by
  show tAnd _ _ σ H _
  refine g_test (g_eqI (K := K) (g_var hi (.int r)) g_int) H (Ex.refl H) _ fun H1 e1 => ?_
  by_cases hr : r = 1
  · rw [decide_eq_true hr]
    refine ⟨.ref pb, hj, pb, 4, N, rfl, by decide, by decide, hN, hb.ex e1, fun z H2 h0 hz x => ⟨rfl, ?_⟩⟩
    have x' := XB.pre e1 x hb
    by_cases hz0 : z = 0
    · refine ⟨decide (V.int z = V.int 0), rfl, ?_⟩
      rw [hz0, decide_eq_true rfl]
      exact h1 H2 x'
    · refine ⟨decide (V.int z = V.int 0), rfl, ?_⟩
      rw [decide_eq_false fun e => hz0 (V.int.inj e)]
      exact h2 H2 x'
  · rw [decide_eq_false hr]
    exact h2 H1 ((XB.of e1 hb).up (by omega))
end
def spSees (K : PySem.W.Frag) : Sp := fun vs H Q _ => ∃ (pb : Addr) (v : V) (F : Fence) (N : Int), vs = [.ref pb, v, .int 8, .int 12] ∧ Dt K H v (fD F) ∧ FOk F ∧ N ≤ 700000 ∧ BOk H pb N ∧
  ∀ v (ss : List Si) H2, XB pb (N + 64) H H2 → Dt K H2 v (ssD ss) → SOk F ss → Q v H2
def SeeW (K : PySem.W.Frag) (pb pf : Addr) (v vq : V) (r4 : Int) (F : Fence) (N : Int) (H Hb : Hp) (i : Nat) (σ' : L2.St) (H' : Hp) : Prop := XB pb (N + 24 + 3 * i) H H' ∧ TLe K Hb H' ∧ (∃ y5 y8 y9 y10, σ' = [some (.ref pb), some v, some (.int 8), some (.int 12), some (.int r4), y5, some vq, some (.ref pf), y8, y9, y10]) ∧
  ∃ kvs : List (TKy × V), H' pf = some (.dT kvs) ∧ kvs.length ≤ i ∧ ∀ p ∈ kvs, ∃ (c : Int) (x : Str), p.1 = [.inl c, .inr x] ∧ x ∈ ov F c
-- 0 _law_box_here, 1 _law_plank_here, 2 _law_most, 3 _law_wide_so, 4 _law_bent_so, 5 _law_turn, 6 _law_queue, 7 _law_found, 8 _law_spot, 9 _law_here, 10 _law_tag
theorem sc_law_sees : FnScope ["_law_box_here", "_law_plank_here", "_law_most", "_law_wide_so", "_law_bent_so", "_law_turn", "_law_queue", "_law_found", "_law_spot", "_law_here", "_law_tag"] ["_law_box_here", "_law_plank_here", "_law_most", "_law_wide_so"] (defScope s_law_sees) := C8.fnScope_by (by decide +kernel)
theorem c_law_sees (T : Txt K mg) : C8.Cal P w K mg base 3 "_law_sees" (spSees K) [] := by
  refine cal_of T.d_law_sees (fun _ _ _ _ _ _ us hu => by match us, hu with | [_, _, _, _], _ => rfl) sc_law_sees (fun vs H Q E h => by obtain ⟨_, _, _, _, rfl, _⟩ := h; rfl) fun f cdv A outer s H vs Q E hr h => ?_
  obtain ⟨pb, v, F, N, rfl, hv, hF, hN, hb, gv⟩ := h
  obtain ⟨xb, hxb⟩ := hb.lst
  have hf := hF.few
  have h100 : F.length ≤ 100 := by omega
  refine ⟨_, (pss_cons (ps_par (i := 6) (j := 7) rfl sc_law_sees.nd rfl rfl (by decide) rfl rfl (pa_cons (pe_callTy (k_tupOf K rfl) (by rfl) T.z_tuple (by decide +kernel) (pa_cons (C8.pe_c (c_law_pick T) hr (by decide) (by rfl) (pa_cons (pv 0) (pa_cons (C8.pe_c (c_law_names T) hr (by decide) (by rfl) (pa_cons (pv 1) pa_nil)) (pa_cons (pe_callB (k_len K rfl) (by rfl) T.z_len (by decide +kernel) (pa_cons (pv 1) pa_nil)) pa_nil)))) pa_nil)) (pa_cons pe_dnewT pa_nil)) rfl)
  (pss_cons (ps_set (i := 4) sc_law_sees.nd rfl (by first | exact Or.inl rfl | exact Or.inr rfl) (C8.pe_c (c_law_take T) hr (by decide) (by rfl) (pa_cons (pv 0) (pa_cons pe_int pa_nil))))
  (pss_cons (ps_for PassesOwn.never rfl (pi_range1 (by rfl) T.z_range (pa_cons (C8.pe_c (c_law_take T) hr (by decide) (by rfl) (pa_cons (pv 0) (pa_cons (pe_op op_add (pv 2) pe_int) pa_nil))) pa_nil)) (pg_name (i := 5) sc_law_sees.nd rfl (by first | exact Or.inl rfl | exact Or.inr rfl)) (pss_cons (ps_set (i := 8) sc_law_sees.nd rfl (by first | exact Or.inl rfl | exact Or.inr rfl) (C8.pe_c (c_law_take T) hr (by decide) (by rfl) (pa_cons (pv 0) (pa_cons (pv 3) pa_nil))))
  (pss_cons (ps_set (i := 9) sc_law_sees.nd rfl (by first | exact Or.inl rfl | exact Or.inr rfl) (C8.pe_c (c_law_over T) hr (by decide) (by rfl) (pa_cons (pv 1) (pa_cons (pv 8) pa_nil))))
  (pss_one (ps_if (pt_cmpR (k_neD K rfl hr.units) (pv 9) (pe_lst pa_nil) (nomark _)) (pss_cons (ps_set (i := 10) sc_law_sees.nd rfl (by first | exact Or.inl rfl | exact Or.inr rfl) (C8.pe_c (c_law_last T) hr (by decide) (by rfl) (pa_cons (pv 1) (pa_cons (pv 6) (pa_cons (pv 8) pa_nil)))))
  (pss_cons (ps_if (PW.pt (pw_and (pt_cmpR op_eq (pv 4) pe_int (nomark _)) (pw_and1 (pt_cmpR op_eq (C8.pe_c (c_law_take T) hr (by decide) (by rfl) (pa_cons (pv 0) (pa_cons pe_int pa_nil))) pe_int (nomark _))))) (pss_one (ps_set (i := 10) sc_law_sees.nd rfl (by first | exact Or.inl rfl | exact Or.inr rfl) (C8.pe_c (c_law_of T) hr (by decide) (by rfl) (pa_cons (pv 0) (pa_cons (pv 9) pa_nil))))) pss_nil)
  (pss_one (ps_dput (hu_of hr) (pv 7) (pe_tup (pa_cons (pv 8) (pa_cons (pv 10) pa_nil))) pe_bl rfl)))) pss_nil)))))
  (pss_one (ps_ret (pe_callTy (k_tupOf K rfl) (by rfl) T.z_tuple (by decide +kernel) (pa_cons (pe_callB (k_srtD K rfl rfl) (by rfl) T.z_sorted (by decide +kernel) (pa_cons (pv 7) pa_nil)) pa_nil))))))), ?_⟩
  refine ⟨.ref pb, rfl, ?_⟩
  refine g_call (K := K) (a_cons (g_var rfl hv) a_nil) (spD_use F h100) H (Ex.refl H) _ fun v1 H1 e1 h1 => ?_
  obtain ⟨a, ys, rfl, hs, hy⟩ := h1.tupV
  obtain rfl := hy.strs
  refine g_lenT (K := K) (g_var rfl (hv.ex e1)) H1 (Ex.refl H1) _ fun v2 H2 e2 h2 => ?_
  rw [h2.intV, List.length_map]
  have e12 := e1.trans e2
  refine ⟨pb, a, nm F, F.length, N, rfl, by rw [nm_len]; omega, by omega, hb.ex e12, .inr (ex_t e2 hs), fun q xs rest H3 hq x3 hlq hperm hlen => ?_⟩
  have hrest : rest = [] := by
    have := hperm.length_eq
    rw [List.length_append, hlen, nm_len, Nat.min_self] at this
    exact List.eq_nil_of_length_eq_zero (by omega)
  subst hrest
  rw [List.append_nil] at hperm
  have hxl : xs.length ≤ 5 := by rw [hperm.length_eq, nm_len]; exact hf
  have x03 := XB.pre e12 x3 hb
  refine ⟨q, _, rfl, .inl ⟨sq_of hlq, fun l hl => fun pf hpf => ⟨.ref l, .ref pf, rfl, ?_⟩⟩⟩
  have e4 : Ex H3 (upd H3 l (.tup (xs.map V.str))) := Ex.new hl
  have e5 : Ex (upd H3 l (.tup (xs.map V.str))) (upd (upd H3 l (.tup (xs.map V.str))) pf (.dT [])) := Ex.new hpf
  have hpf3 : H3 pf = none := fresh_back e4 hpf
  have hpf0 : H pf = none := x03.fresh hpf3
  have npf : pf ≠ pb := fun z => by rw [z, hxb] at hpf0; cases hpf0
  have hqD : Dt K (upd (upd H3 l (.tup (xs.map V.str))) pf (.dT [])) (.ref l) (strsD xs) := (Dt.tup (st_of upd_same) (dts_strs xs)).ex e5
  have hpfD : (upd (upd H3 l (.tup (xs.map V.str))) pf (.dT [])) pf = some (.dT []) := upd_same
  have x05 : XB pb (N + 20) H (upd (upd H3 l (.tup (xs.map V.str))) pf (.dT [])) := (x03.ex e4).ex e5
  show tSeq _ _ _ _ (upd (upd H3 l (.tup (xs.map V.str))) pf (.dT []))
  generalize upd (upd H3 l (.tup (xs.map V.str))) pf (.dT []) = H5 at e5 hqD hpfD x05
  have hv5 := x05.dt hv
  -- bent
  refine q_take (K := K) rfl g_int (by decide) (by decide) (by omega) x05.box fun r4 H6 hr0 hr1 x6 => ?_
  -- range
  refine q_forRT (K := K) (N := N + 21) rfl (g_add (g_var rfl (.int 8)) g_int) (by decide) (by decide) (by omega) (x6.box.up (by omega)) fun n H7 hn x7 => ?_
  have x67 := x6.trans x7
  refine q_forI (iv_range (K := K) (n := n) (fun H1 e1 Q q => q _ H1 (Ex.refl _) (.cons (.int _) .nil)) (by omega)) (fun _ i => SeeW K pb pf v (.ref l) r4 F N H H5 i)
    (fun H8 e8 => ⟨(((x05.trans x6).trans x7).ex e8).up (by omega), (x67.ex e8).tle, ⟨_, _, _, _, rfl⟩, [], e8 _ _ (x67.keep _ _ npf hpfD), Nat.zero_le _, nofun⟩) (fun _ _ _ _ _ _ => trivial) (fun H8 i x v1 σ' H' H9 e8 hi ⟨x', t, ⟨y5, y8, y9, y10, hσ⟩, kvs, hk, hkl, hkk⟩ e9 hv1 => ?_) fun H8 σ' H' e8 ⟨x', t, ⟨y5, y8, y9, y10, hσ⟩, kvs, hk, hkl, hkk⟩ => ?_
  · subst hσ
    have hil := (List.getElem?_eq_some_iff.mp hi).1
    rw [List.length_range] at hil
    have x9 := x'.ex e9
    have t9 := t.trans (TLe.ex e9)
    have hk9 := e9 _ _ hk
    refine q_take (K := K) rfl (g_var rfl (.int 12)) (by decide) (by decide) (by omega) x9.box fun spot H10 hs0 hs1 x10 => ?_
    have t10 := t9.trans x10.tle
    have hk10 := x10.keep _ _ npf hk9
    have hx10 := x9.trans x10
    refine q_asgN (K := K) (elr_eq (lr_call (F, spot) (a_cons (g_var rfl (hv5.mono t10)) (a_cons (g_var rfl (.int spot)) a_nil)) h100)) fun ph hs H11 hph e11 hlh hhs => ?_
    obtain rfl := hhs.strs
    have hx11 := hx10.ex e11
    have t11 := t10.trans (TLe.ex e11)
    have hk11 := e11 _ _ hk10
    have hph0 : H ph = none := hx10.fresh hph
    have nph : ph ≠ pb := fun z => by rw [z, hxb] at hph0; cases hph0
    refine s_when (b := !decide ((ov F spot).map PyData.str = [])) ((et_is (g_test (g_neLL (K := K) (es_names (ns := ov F spot) (ev_var rfl) hlh) (EL.toS (l_lst a_nil (by simp))) (str_sh hF fun x hx => ov_nm hx) (by decide +kernel))) (by rw [eqv_nil]))) (fun hb H12 e12 => ?_) fun hb H12 e12 => ?_
    · have hov : ov F spot ≠ [] := fun e => by rw [e] at hb; exact absurd hb (by decide)
      obtain ⟨o0, ot, ho0⟩ : ∃ a l, ov F spot = a :: l := by
        cases hh : ov F spot with
        | nil => exact absurd hh hov
        | cons a l => exact ⟨a, l, rfl⟩
      have ho0m : o0 ∈ ov F spot := by rw [ho0]; exact List.mem_cons_self
      have t12 := t11.trans (TLe.ex e12)
      refine q_asgR (r_call (K := K) (F, xs, spot) (a_cons (g_var rfl (hv5.mono t12)) (a_cons (g_var rfl (hqD.mono t12)) (a_cons (g_var rfl (.int spot)) a_nil))) ⟨h100, by show xs.length ≤ 100; omega, o0, hperm.mem_iff.mpr (ov_nm ho0m), ho0m⟩) fun vt H13 dt e13 hvt ⟨x1, hx1, hdt⟩ => ?_
      subst hdt
      obtain rfl := hvt.strV
      have hx13 := (hx11.ex e12).ex e13
      have t13 := t12.trans (TLe.ex e13)
      have hk13 := e13 _ _ (e12 _ _ hk11)
      have fin : ∀ (x2 : Str) (H14 : Hp) (M : Int), x2 ∈ ov F spot → XB pb M H13 H14 → M ≤ N + 24 + 3 * (i + 1) → ∀ σ2 : L2.St, (∃ z5 z8 z9, σ2 = [some (.ref pb), some v, some (.int 8), some (.int 12), some (.int r4), z5, some (.ref l), some (.ref pf), z8, z9, some (.str x2)]) → σ2[8]? = some (some (.int spot)) → ∀ D : Ends, D.nx = SeeW K pb pf v (.ref l) r4 F N H H5 (i + 1) → sDPut (tVar 7) (tTup (tCons (tVar 8) (tCons (tVar 10) tNil))) (tC (.bl true)) D σ2 H14 := fun x2 H14 M hx2 x14 hM σ2 ⟨z5, z8, z9, hσ2⟩ h8 D hD => by
        subst hσ2
        obtain rfl : z8 = some (.int spot) := Option.some.inj h8
        refine ⟨.ref pf, rfl, .int spot, rfl, .str x2, rfl, sz_of (by simp), fun p hp => ?_⟩
        have e15 : Ex H14 (upd H14 p (.tup [.int spot, .str x2])) := Ex.new hp
        have hk15 := e15 _ _ (x14.keep _ _ npf hk13)
        refine ⟨pf, _, rfl, DPut.t (k := [.inl spot, .inr x2]) hk15 upd_same (sz_lt (by omega)), ?_⟩
        rw [hD]
        refine ⟨?_, ((t13.trans x14.tle).trans (TLe.ex e15)).trans (TLe.dtt hk15), ⟨_, _, _, _, rfl⟩, _, upd_same, Nat.le_trans putT_len (by omega), fun p hp => ?_⟩
        · have := (((hx13.trans x14).ex e15).put (o := .dT (putK kvs [.inl spot, .inr x2] (.bl true))) hpf0 npf)
          exact this.up (by push_cast; omega)
        · rcases putT_key hp with h | ⟨q, hq, h⟩
          · exact ⟨spot, x2, h, hx2⟩
          · rw [← h]; exact hkk q hq
      refine q_bent K (N := N + 24 + 3 * i + 1) rfl rfl (by omega) (hx13.box.up (by omega)) (fun H14 x14 => ?_) fun H14 x14 => ?_
      · have hlh14 := x14.keep _ _ nph (e13 _ _ (e12 _ _ hlh))
        refine ⟨.ref pb, rfl, .ref ph, rfl, pb, ph, ov F spot, N + 24 + 3 * i + 2, rfl, nph, hov, by have := ov_len F spot; omega, by omega, x14.box.up (by omega), hlh14, fun x2 H15 hx2 x15 => ?_⟩
        exact fin x2 H15 _ hx2 (x14.trans x15) (by push_cast; omega) _ ⟨_, _, _, rfl⟩ rfl _ rfl
      · exact fin x1 H14 _ hx1 x14 (by push_cast; omega) _ ⟨_, _, _, rfl⟩ rfl _ rfl
    · exact ⟨(hx11.ex e12).up (by push_cast; omega), t11.trans (TLe.ex e12), ⟨_, _, _, _, rfl⟩, kvs, e12 _ _ hk11, by omega, hkk⟩
  · subst hσ
    rw [List.length_range] at x' hkl
    refine ⟨.ref pf, rfl, pf, kvs, rfl, .of hk, by omega, fun p hp r hr => ?_, fun pt ys es hpt hes hpw hys => ?_⟩
    · obtain ⟨c, x, h1, _⟩ := hkk p hp
      obtain ⟨c', x', h1', _⟩ := hkk r hr
      rw [h1, h1']
      exact ⟨by simp, by simp, rfl, fun _ => ⟨rfl, fun _ => trivial⟩⟩
    · have hmem : ∀ d ∈ es, ∃ s : Si, d = sD s ∧ s.2 ∈ ov F s.1 := fun d hd => by
        obtain ⟨p, hp, rfl⟩ := List.mem_map.mp (hes.mem_iff.mp hd)
        obtain ⟨c, x, h1, h2⟩ := hkk p hp
        exact ⟨(c, x), by rw [h1]; rfl, h2⟩
      obtain ⟨ss, rfl⟩ := all_of (enc := sD) fun d hd => by
        obtain ⟨s, h, _⟩ := hmem d hd
        exact ⟨s, h⟩
      have e9 : Ex H' (upd H' pt (.lst ys)) := Ex.new hpt
      refine ⟨pt, ys, rfl, .inl ⟨sq_of upd_same, fun lt hlt => ?_⟩⟩
      have e10 : Ex (upd H' pt (.lst ys)) (upd (upd H' pt (.lst ys)) lt (.tup ys)) := Ex.new hlt
      refine gv (.ref lt) ss _ (((x'.ex e9).ex e10).up (by omega)) (.tup (st_of upd_same) (hys.ex (e9.trans e10))) ⟨?_, fun s hs => ?_⟩
      · have := hes.length_eq
        rw [List.length_map, List.length_map] at this
        omega
      · obtain ⟨s', h1, h2⟩ := hmem (sD s) (List.mem_map.mpr ⟨s, hs, rfl⟩)
        rw [sD_inj h1]; exact h2
end
end K77
set_option maxHeartbeats 1000000
/-! _law_parts, _law_three, _law_case, _law_sees_right. -/
namespace K77
open PySem PySem.Spec PyProof.Rows L2 Evl
section
variable {P : Program} {w : World} {K : PySem.W.Frag} {mg : Str → Option Value} {base : Heap}
section
variable {σ : L2.St} {H : Hp} {te tl ta tb : TE} {D : Ends} {tz : TS}
theorem l_cat {ds es : List PyData} (h1 : EL K ta σ H ds) (h2 : EL K tb σ H es) (hl : ds.length + es.length ≤ 100000) : EL K (tOp rCat ta tb) σ H (ds ++ es) := fun H1 e1 Q q => h1 H1 e1 _ fun p xs H2 hp e2 hx hd => h2 H2 (e1.trans e2) _ fun r ys H3 hr e3 hy he =>
  ⟨p, r, xs, ys, rfl, rfl, e3 _ _ hx, hy, sz_of (by rw [hd.length, he.length]; exact hl), fun l hl => q l _ _ (fresh_back (e2.trans e3) hl) ((e2.trans e3).trans (Ex.new hl)) upd_same (((hd.ex e3).append he).ex (Ex.new hl))⟩
theorem l_catV {ds es : List PyData} {p : Addr} {xs : List V} (h1 : Ev ta σ H (.ref p)) (hp : H p = some (.lst xs)) (hd : Dts K H xs ds) (h2 : EL K tb σ H es) (hl : ds.length + es.length ≤ 100000) : EL K (tOp rCat ta tb) σ H (ds ++ es) := fun H1 e1 Q q => h1 H1 e1 _ fun H2 e2 => h2 H2 (e1.trans e2) _ fun r ys H3 hr e3 hy he =>
  ⟨p, r, xs, ys, rfl, rfl, ((e1.trans e2).trans e3) _ _ hp, hy, sz_of (by rw [hd.length, he.length]; exact hl), fun l hl => q l _ _ (fresh_back (e2.trans e3) hl) ((e2.trans e3).trans (Ex.new hl)) upd_same (((hd.ex ((e1.trans e2).trans e3)).append he).ex (Ex.new hl))⟩
theorem g_inTD {d : PyData} {ds : List PyData} (ha : ED K ta σ H d) (hb : ED K tb σ H (.tuple ds)) (sd : SeqAt.shaped d = true) (se : SeqAt.shaped (.tuple ds) = true) : ED K (tOp (rInTD K) ta tb) σ H (.bool (ds.any fun z => PyData.eqv z d)) :=
  g_op ha hb fun H1 x y _ hx hy Q q => ⟨d, ds, hx.dp, hy.dp, sd, se, q _ H1 (Ex.refl _) (.bl _)⟩
theorem g_notN {R : PyData → Prop} {b : Bool} (h : ER K ta σ H R) (hR : ∀ d, R d → (d = .none ↔ b = false)) : ED K (tOp (fun x y H Q => y = .non ∧ Q (.bl (!decide (x = .non))) H) ta (tC .non)) σ H (.bool b) := fun H1 e1 Q q => h H1 e1 _ fun v H2 d e2 hd hr => ⟨rfl, q _ H2 e2 (by
  have e : (!decide (v = .non)) = b := by
    cases hb : b with
    | false =>
      have := (hR d hr).mpr hb
      subst this
      rw [hd.nonV]; rfl
    | true =>
      have : d ≠ .none := fun z => by have := (hR d hr).mp z; rw [hb] at this; cases this
      rw [Bool.not_eq_true', decide_eq_false_iff_not]
      intro z
      subst z
      cases hd
      exact this rfl
  rw [e]
  exact .bl b)⟩
end
/-! _law_parts -/
theorem cuts_uniq {F : Fence} {es : List PyData} (h : SetRes ((F.map Bill.lo ++ F.map fun b : Bill => b.hi + 1).map PyData.int) es) : es = (cuts F).map PyData.int :=
  set_uniq (fun _ _ => anti_int) h (usort_nd _) (fun x => by
    unfold cuts cutL
    rw [usort_mem, List.mem_flatMap, List.mem_append, List.mem_map, List.mem_map]
    constructor
    · rintro ⟨b, hb, hx⟩
      rcases List.mem_cons.mp hx with e | hx
      · exact .inl ⟨b, hb, e.symm⟩
      · exact .inr ⟨b, hb, (List.mem_singleton.mp hx).symm⟩
    · rintro (⟨b, hb, e⟩ | ⟨b, hb, e⟩)
      · exact ⟨b, hb, by rw [← e]; exact List.mem_cons_self⟩
      · exact ⟨b, hb, by rw [← e]; exact List.mem_cons_of_mem _ (List.mem_singleton.mpr rfl)⟩) ((usort_le _).imp fun h => notGt_int.mpr h)
-- 0 _law_plank_here, 1 _law_cuts_so, 2 _law_found, 3 _law_low, 4 _law_high_so, 5 _law_own
theorem sc_law_parts : FnScope ["_law_plank_here", "_law_cuts_so", "_law_found", "_law_low", "_law_high_so", "_law_own"] ["_law_plank_here"] (defScope s_law_parts) := C8.fnScope_by (by decide +kernel)
theorem c_law_parts (T : Txt K mg) : C8.Cal P w K mg base 2 "_law_parts" (spD K (fun F : Fence => [fD F]) FOk fun F => .tuple ((partL F).map piD)) [] := by
  refine cal_of T.d_law_parts (fun _ _ _ _ _ _ us hu => by match us, hu with | [_], _ => rfl) sc_law_parts (spD_len fun _ => rfl) fun f cdv A outer s H vs Q E hr h => ?_
  obtain ⟨F, hF, hd, gv⟩ := h
  dsimp only at hF hd gv
  obtain ⟨v, rfl, hv⟩ := dts1 hd
  have hf := hF.few
  have h100 : F.length ≤ 100 := by omega
  refine ⟨_, (pss_cons (ps_set (i := 1) sc_law_parts.nd rfl (by first | exact Or.inl rfl | exact Or.inr rfl) (k_ss K rfl (by rfl) hr.units (by rfl) T.z_sorted (by rfl) T.z_set (pe_op op_cat (pe_lc (own := [("_law_own", 5)]) rfl sc_law_parts.nd (k_piT K rfl (pv 0)) (blkOk_by (by kernel_rfl)) (fun _ _ _ _ _ => (pg_name (i := 5) sc_law_parts.nd rfl (by first | exact Or.inl rfl | exact Or.inr rfl))) (fun _ _ _ _ _ => pts_nil) (fun _ _ _ _ _ => (pe_ix (k_ixT K rfl) (pv 5) pe_int (fun _ _ => rfl)))) (pe_lc (own := [("_law_own", 5)]) rfl sc_law_parts.nd (k_piT K rfl (pv 0)) (blkOk_by (by kernel_rfl)) (fun _ _ _ _ _ => (pg_name (i := 5) sc_law_parts.nd rfl (by first | exact Or.inl rfl | exact Or.inr rfl))) (fun _ _ _ _ _ => pts_nil) (fun _ _ _ _ _ => (pe_op op_add (pe_ix (k_ixT K rfl) (pv 5) pe_int (fun _ _ => rfl)) pe_int))))))
  (pss_cons (ps_setLc (i := 2) (own := [("_law_low", 3), ("_law_high_so", 4)]) rfl sc_law_parts.nd rfl rfl (sw_true rfl rfl rfl (by decide +kernel)) (k_zip K rfl (by rfl) T.z_zip (pa_cons (pv 1) (pa_cons (pe_slice (k_slL K rfl) (pv 1) (po_some pe_int) po_none) pa_nil))) (blkOk_by (by kernel_rfl)) (fun _ _ _ _ _ => (k_gT K 2 rfl rfl (pgs_cons (pg_name (i := 3) sc_law_parts.nd rfl (by first | exact Or.inl rfl | exact Or.inr rfl)) (pgs_cons (pg_name (i := 4) sc_law_parts.nd rfl (by first | exact Or.inl rfl | exact Or.inr rfl)) pgs_nil)))) (fun _ _ _ _ _ => pts_nil) (fun _ _ _ _ _ => (pe_tup (pa_cons (pv 3) (pa_cons (pe_op op_sub (pv 4) pe_int) pa_nil)))))
  (pss_one (ps_ret (pe_callTy (k_tupOf K rfl) (by rfl) T.z_tuple (by decide +kernel) (pa_cons (pe_lc (own := [("_law_own", 5)]) rfl sc_law_parts.nd (k_piL K rfl (pv 2)) (blkOk_by (by kernel_rfl)) (fun _ _ _ _ _ => (pg_name (i := 5) sc_law_parts.nd rfl (by first | exact Or.inl rfl | exact Or.inr rfl))) (fun _ _ _ _ _ => (pts_one (pt_cmpR (k_neD K rfl hr.units) (C8.pe_c (c_law_over T) hr (by decide) (by rfl) (pa_cons (pv 0) (pa_cons (pe_ix (k_ixT K rfl) (pv 5) pe_int (fun _ _ => rfl)) pa_nil))) (pe_lst pa_nil) (nomark _)))) (fun _ _ _ _ _ => (pv 5))) pa_nil)))))), ?_⟩
  refine q_asgLR (K := K) (r_tSS (ds := (F.map Bill.lo ++ F.map fun b : Bill => b.hi + 1).map PyData.int) (EL.toS ((l_cat (l_lcI (xs := F) (fun _ => true) (fun b => .int b.lo) (iv_tup (xs := F) (enc := bD) (g_var rfl hv)) TLe.ex (by omega) fun b hb v1 H1 e1 h1 => trn_name rfl yes_t fun _ => g_ixk (k := 1) (g_var rfl h1) rfl) (l_lcI (xs := F) (fun _ => true) (fun b => .int (b.hi + 1)) (iv_tup (xs := F) (enc := bD) (g_var rfl hv)) TLe.ex (by omega) fun b hb v1 H1 e1 h1 => trn_name rfl yes_t fun _ => g_add (g_ixk (k := 2) (g_var rfl h1) rfl) g_int) ?_).is ?_)) ?_ (setIn_ints _)) fun p xs H1 es hp e1 hx hxd hres => ?_
  · rw [made_all, made_all, List.length_map, List.length_map]; omega
  · rw [made_all, made_all, List.map_append, List.map_map, List.map_map]; rfl
  · rw [List.length_map, List.length_append, List.length_map, List.length_map]; omega
  obtain rfl := cuts_uniq hres
  have hc := cuts_len F
  refine q_asgN (K := K) (ds := (gaps F).map piD) ?_ fun p2 xs2 H2 hp2 e2 h2 hx2 => ?_
  · refine (l_lcI (xs := (cuts F).zip ((cuts F).drop 1)) (fun _ => true) (fun p => piD (p.1, p.2 - 1)) (iv_zipL (enc := PyData.int) (enc2 := PyData.int) (eal2 (es_old (ev_var rfl) (sq_of hx) hxd) (EL.toS ((l_slL (es_old (ev_var rfl) (sq_of hx) hxd) (eo_some ev_c) eo_none).is ?_)))) (fun e => e) ?_ fun q hq v2 H2 e2 h2 => ?_).is ?_
    · rw [show (1 : Int) = ((1 : Nat) : Int) from rfl, cutD_from, List.map_drop]
    · rw [List.length_zip]; omega
    · exact trn_t2 h2 fun x y hx hy => ⟨rfl, yes_t, fun _ => g_tup (a_cons (g_var rfl hx) (a_cons (g_sub (g_var rfl hy) g_int) a_nil)) (by simp)⟩
    · rw [made_all]
      unfold gaps
      rw [List.map_map]
      rfl
  · refine s_retD (g_tupleOf (EL.toS (ds := (partL F).map piD) ?_)) fun v3 H3 e3 h3 => gv v3 H3 ((e1.trans e2).trans e3) h3
    refine l_lcI (xs := gaps F) (fun p => decide (0 < (ov F p.1).length)) piD (iv_list (es_old (ev_var rfl) (sq_of h2) hx2)) id (by have := gaps_len F; omega) fun q hq v2 H3 e3 hh => ?_
    refine trn_name rfl (et_is (g_test (g_neLL (EL.toS (elr_eq (lr_call (F, q.1) (a_cons (g_var rfl (hv.ex ((e1.trans e2).trans e3))) (a_cons (g_ixk (k := 0) (g_var rfl hh) rfl) a_nil)) h100))) (EL.toS (l_lst a_nil (by simp))) (str_sh hF fun x hx => ov_nm hx) (by decide +kernel))) ?_) fun _ => g_var rfl hh
    rw [eqv_nil]
    dsimp only
    cases ov F q.1 <;> rfl
/-! _law_three, _law_case -/
def three : Fence := [⟨"a", 1, 6⟩, ⟨"b", 4, 9⟩, ⟨"c", 2, 5⟩]
-- 
theorem sc_law_three : FnScope [] [] (defScope s_law_three) := C8.fnScope_by (by decide +kernel)
theorem c_law_three (T : Txt K mg) : C8.Cal P w K mg base 1 "_law_three" (spD K (fun _ : Unit => []) (fun _ => True) fun _ => fD three) [] := by
  refine cal_of T.d_law_three (fun _ _ _ _ _ _ us hu => by match us, hu with | [], _ => rfl) sc_law_three (spD_len fun _ => rfl) fun f cdv A outer s H vs Q E hr h => ?_
  obtain ⟨_, _, hd, gv⟩ := h
  obtain rfl := dts0 hd
  refine ⟨_, (pss_one (ps_ret (pe_tup (pa_cons (pe_tup (pa_cons pe_str (pa_cons pe_int (pa_cons pe_int pa_nil)))) (pa_cons (pe_tup (pa_cons pe_str (pa_cons pe_int (pa_cons pe_int pa_nil)))) (pa_cons (pe_tup (pa_cons pe_str (pa_cons pe_int (pa_cons pe_int pa_nil)))) pa_nil)))))), ?_⟩
  exact s_retD (K := K) (d := fD three) (g_tup (a_cons (g_tup (a_cons g_str (a_cons g_int (a_cons g_int a_nil))) (by simp)) (a_cons (g_tup (a_cons g_str (a_cons g_int (a_cons g_int a_nil))) (by simp)) (a_cons (g_tup (a_cons g_str (a_cons g_int (a_cons g_int a_nil))) (by simp)) a_nil))) (by decide)) gv
-- 0 _law_plank_here, 1 _law_sees_here, 2 _law_tag, 3 _law_spot
theorem sc_law_case : FnScope ["_law_plank_here", "_law_sees_here", "_law_tag", "_law_spot"] ["_law_plank_here", "_law_sees_here"] (defScope s_law_case) := C8.fnScope_by (by decide +kernel)
theorem c_law_case (T : Txt K mg) : C8.Cal P w K mg base 2 "_law_case" (spD K (fun p : Fence × List Si => [fD p.1, ssD p.2]) (fun p => p.1.length ≤ 100 ∧ p.2.length ≤ 100) fun p => csD (tale p.1 p.2)) [] := by
  refine cal_of T.d_law_case (fun _ _ _ _ _ _ us hu => by match us, hu with | [_, _], _ => rfl) sc_law_case (spD_len fun _ => rfl) fun f cdv A outer s H vs Q E hr h => ?_
  obtain ⟨⟨F, ss⟩, ⟨hF, hS⟩, hd, gv⟩ := h
  dsimp only at hF hS hd gv
  obtain ⟨v, u, rfl, hv, hu⟩ := dts2 hd
  refine ⟨_, (pss_one (ps_ret (pe_tup (pa_cons (pv 0) (pa_cons pe_int (pa_cons (pe_callTy (k_tupOf K rfl) (by rfl) T.z_tuple (by decide +kernel) (pa_cons (pe_lc (own := [("_law_spot", 3), ("_law_tag", 2)]) rfl sc_law_case.nd (k_piT K rfl (pv 1)) (blkOk_by (by kernel_rfl)) (fun _ _ _ _ _ => (k_gT K 2 rfl rfl (pgs_cons (pg_name (i := 3) sc_law_case.nd rfl (by first | exact Or.inl rfl | exact Or.inr rfl)) (pgs_cons (pg_name (i := 2) sc_law_case.nd rfl (by first | exact Or.inl rfl | exact Or.inr rfl)) pgs_nil)))) (fun _ _ _ _ _ => pts_nil) (fun _ _ _ _ _ => (pe_tup (pa_cons pe_int (pa_cons (pv 3) (pa_cons (pv 2) pa_nil)))))) pa_nil)) (pa_cons (pe_callTy (k_tupOf K rfl) (by rfl) T.z_tuple (by decide +kernel) (pa_cons (pe_lc (own := [("_law_tag", 2)]) rfl sc_law_case.nd (k_piT K rfl (C8.pe_c (c_law_names T) hr (by decide) (by rfl) (pa_cons (pv 0) pa_nil))) (blkOk_by (by kernel_rfl)) (fun _ _ _ _ _ => (pg_name (i := 2) sc_law_case.nd rfl (by first | exact Or.inl rfl | exact Or.inr rfl))) (fun _ _ _ _ _ => pts_nil) (fun _ _ _ _ _ => (pe_tup (pa_cons pe_str (pa_cons pe_int (pa_cons (pv 2) pa_nil)))))) pa_nil)) pa_nil))))))), ?_⟩
  refine s_retD (K := K) (d := csD (tale F ss)) (g_tup (a_cons (g_var rfl hv) (a_cons g_int (a_cons (g_tupleOf (EL.toS ((l_lcI (xs := ss) (fun _ => true) teD (iv_tup (xs := ss) (enc := sD) (g_var rfl hu)) TLe.ex (by omega) fun t ht v1 H1 e1 h1 => trn_t2 h1 fun x y hx hy => ⟨rfl, yes_t, fun _ => g_tup (a_cons g_int (a_cons (g_var rfl hx) (a_cons (g_var rfl hy) a_nil))) (by simp)⟩).is made_all))) (a_cons (g_tupleOf (EL.toS ((l_lcI (xs := nm F) (fun _ => true) (fun n => faD (.there n)) (iv_tup (xs := nm F) (enc := PyData.str) (g_call (a_cons (g_var rfl hv) a_nil) (spD_use F hF))) TLe.ex (by rw [nm_len]; omega) fun t ht v1 H1 e1 h1 => trn_name rfl yes_t fun _ => g_tup (a_cons g_str (a_cons g_int (a_cons (g_var rfl h1) a_nil))) (by simp)).is ?_))) a_nil)))) (by simp)) gv
  rw [made_all]
  show _ = ((nm F).map Fa.there).map faD
  rw [List.map_map]; rfl
end
end K77
set_option maxHeartbeats 1000000
/-! _law_sees_right. -/
namespace K77
open PySem PySem.Spec PyProof.Rows L2 Evl
theorem edge_tale {F : Fence} {ss : List Si} : EdgeC (tale F ss) = Edge F ss := by
  funext m n
  refine propext ?_
  rw [edgeC_iff]
  exact ⟨fun h => h.elim id fun h => (by
    obtain ⟨x, hx, e⟩ := List.mem_map.mp h
    cases e), .inl⟩
theorem fit_hold {F : Fence} {ss : List Si} (hF : FOk F) (hS : SOk F ss) : fitB (tale F ss) = holdB F ss := by
  rw [Bool.eq_iff_iff, fitB_iff, fit_tale hF hS, hold_iff]
theorem eqv_suD (a b : (Int × Int) × Str) : PyData.eqv (suD a) (suD b) = decide (a = b) := by
  obtain ⟨⟨a1, a2⟩, a3⟩ := a
  obtain ⟨⟨b1, b2⟩, b3⟩ := b
  rw [Bool.eq_iff_iff, decide_eq_true_eq]
  simp [suD, piD, PyData.eqv, PyData.eqvAll, Prod.ext_iff, and_assoc]
theorem can_suD {F : Fence} (hF : FOk F) {p : (Int × Int) × Str} (h : p.2 ∈ nm F) : (suD p).canLay0 = true := by
  simp [suD, piD, PyData.canLay0, PyData.canLayAll0]
  exact hF.txt _ h
theorem dep_suD (p : (Int × Int) × Str) : (suD p).depth ≤ 60 := by simp [suD, piD, PyData.depth, PyData.depthAll]
theorem can_prD {F : Fence} (hF : FOk F) {p : Str × Str} (h1 : p.1 ∈ nm F) (h2 : p.2 ∈ nm F) : (prD p).canLay0 = true := by
  simp [prD, PyData.canLay0, PyData.canLayAll0]
  exact ⟨hF.txt _ h1, hF.txt _ h2⟩
theorem dep_prD (p : Str × Str) : (prD p).depth ≤ 60 := by simp [prD, PyData.depth, PyData.depthAll]
theorem seen_nm {F : Fence} {ss : List Si} {c : Int} {x : Str} (h : x ∈ seenL F ss c) : x ∈ nm F := ov_nm (List.mem_filter.mp h).1
theorem sure_nm {F : Fence} {ss : List Si} {p : (Int × Int) × Str} (h : p ∈ sureL F ss) : p.2 ∈ nm F := by
  unfold sureL at h
  obtain ⟨q, hq, rfl⟩ := List.mem_map.mp h
  obtain ⟨_, h1⟩ := List.mem_filter.mp hq
  have h1 := of_decide_eq_true h1
  show (seenL F ss q.1).headD "" ∈ nm F
  cases hs : seenL F ss q.1 with
  | nil => rw [hs] at h1; cases h1
  | cons a l => exact seen_nm (c := q.1) (by rw [hs]; exact List.mem_cons_self)
theorem sh_sure {F : Fence} {ss : List Si} (hF : FOk F) : SeqAt.shaped (.tuple ((sureL F ss).map suD)) = true := sh_tup (fun p hp => can_suD hF (sure_nm hp)) fun p _ => dep_suD p
theorem sh_one {F : Fence} (hF : FOk F) {p : (Int × Int) × Str} (h : p.2 ∈ nm F) : SeqAt.shaped (suD p) = true := by
  unfold SeqAt.shaped
  rw [can_suD hF h, Bool.true_and]
  exact decide_eq_true (by have := dep_suD p; omega)
theorem sh_strs {F : Fence} (hF : FOk F) {l : List Str} (h : ∀ x ∈ l, x ∈ nm F) : SeqAt.shaped (strsD l) = true := sh_tup (fun x hx => hF.txt x (h x hx)) fun x hx => by simp [PyData.depth]
theorem pairs_nm {F : Fence} {ss : List Si} {p : Str × Str} (h : p ∈ pairsL F ss) : p.1 ∈ nm F ∧ p.2 ∈ nm F := by
  unfold pairsL at h
  obtain ⟨a, ha, h⟩ := List.mem_flatMap.mp h
  obtain ⟨b, hb, rfl⟩ := List.mem_map.mp h
  exact ⟨ha, (List.mem_filter.mp hb).1⟩
theorem sh_pairs {F : Fence} {ss : List Si} (hF : FOk F) : SeqAt.shaped (.tuple ((pairsL F ss).map prD)) = true := sh_tup (fun p hp => can_prD hF (pairs_nm hp).1 (pairs_nm hp).2) fun p _ => dep_prD p
theorem eqv_self {d : PyData} (h : SeqAt.shaped d = true) : PyData.eqv d d = true := SeqAt.eqv_refl d (SeqAt.canLay_of_shaped h)
theorem sure_any {F : Fence} {ss : List Si} {p : Int × Int} (hp : p ∈ partL F) {a : Str} {l : List Str} (hs : seenL F ss p.1 = a :: l) : ((sureL F ss).map suD).any (fun z => PyData.eqv z (suD (p, a))) = decide (((seenL F ss p.1).length : Int) = 1) := by
  rw [Bool.eq_iff_iff, List.any_map, List.any_eq_true, decide_eq_true_eq]
  have key : ∀ q : (Int × Int) × Str, (((fun z => PyData.eqv z (suD (p, a))) ∘ suD) q = true) ↔ q = (p, a) := fun q => by
    show PyData.eqv (suD q) (suD (p, a)) = true ↔ _
    rw [eqv_suD, decide_eq_true_eq]
  constructor
  · rintro ⟨q, hq, h⟩
    rw [key] at h
    subst h
    unfold sureL at hq
    obtain ⟨r, hr, e⟩ := List.mem_map.mp hq
    obtain ⟨rfl, _⟩ := Prod.mk.inj e
    have := of_decide_eq_true (List.mem_filter.mp hr).2
    omega
  · intro h
    refine ⟨(p, a), ?_, (key _).mpr rfl⟩
    unfold sureL
    exact List.mem_map.mpr ⟨p, List.mem_filter.mpr ⟨hp, decide_eq_true (by omega)⟩, by rw [hs]; rfl⟩
theorem u65 {k : Nat} {A : Around} (r : Room k A) : A.units + 65 < cLine := by have := r.un; omega
def isStr : PyData → Bool
  | .str _ => true
  | _ => false
theorem only_strs (l : List Str) : (l.map PyData.str ++ [PyData.int 0]).filter isStr = l.map PyData.str := by
  rw [List.filter_append, show ([PyData.int 0].filter isStr) = [] from rfl, List.append_nil, List.filter_eq_self]
  intro d hd
  obtain ⟨x, _, rfl⟩ := List.mem_map.mp hd
  rfl
section
variable {P : Program} {w : World} {K : PySem.W.Frag} {mg : Str → Option Value} {base : Heap}
theorem pairs_len (F : Fence) (ss : List Si) (i : Nat) (h : F.length ≤ 5) : (((nm F).take i).flatMap fun a => ((nm F).filter fun b => decide (b ≠ a) && reachB F ss a b).map fun b => (a, b)).length ≤ 25 := by
  have h1 := flat_len (f := fun a => ((nm F).filter fun b => decide (b ≠ a) && reachB F ss a b).map fun b => (a, b)) (n := 5) ((nm F).take i) fun a _ => by
    rw [List.length_map]
    refine Nat.le_trans (List.length_filter_le _ _) ?_
    rw [nm_len]; exact h
  rw [List.length_take, nm_len] at h1
  omega
theorem s_asgN' {σ : L2.St} {H : Hp} {te : TE} {D : Ends} {ds : List PyData} {i : Nat} (h : EL K te σ H ds) (k : ∀ p xs H1, H p = none → Ex H H1 → H1 p = some (.lst xs) → Dts K H1 xs ds → D.nx (σ.set i (some (.ref p))) H1) : tAsg te (gName i) D σ H := h H (Ex.refl H) _ k
-- 0 _law_plank_here, 1 _law_sees_here, 2 _law_row, 3 _law_low, 4 _law_tale, 5 _law_fine, 6 _law_high_so, 7 _law_some, 8 _law_tags, 9 _law_found, 10 _law_lid, 11 _law_own
theorem sc_law_sees_right : FnScope ["_law_plank_here", "_law_sees_here", "_law_row", "_law_low", "_law_tale", "_law_fine", "_law_high_so", "_law_some", "_law_tags", "_law_found", "_law_lid", "_law_own"] ["_law_plank_here", "_law_sees_here"] (defScope s_law_sees_right) := C8.fnScope_by (by decide +kernel)
theorem c_law_sees_right (T : Txt K mg) : C8.Cal P w K mg base 14 "_law_sees_right" (spD K (fun p : Fence × List Si => [fD p.1, ssD p.2]) (fun p => FOk p.1 ∧ SOk p.1 p.2) fun _ => .bool true) [] := by
  refine cal_of T.d_law_sees_right (fun _ _ _ _ _ _ us hu => by match us, hu with | [_, _], _ => rfl) sc_law_sees_right (spD_len fun _ => rfl) fun f cdv A outer s H vs Q E hr h => ?_
  obtain ⟨⟨F, ss⟩, ⟨hF, hS⟩, hd, gv⟩ := h
  dsimp only at hF hS hd gv
  obtain ⟨v, u, rfl, hv, hu⟩ := dts2 hd
  have hf := hF.few
  have hs9 := hS.few
  have h100 : F.length ≤ 100 := by omega
  have hC := tale_ok hF hS
  refine ⟨_, (pss_cons (ps_asg (pe_tup (pa_cons (C8.pe_c (c_law_case T) hr (by decide) (by rfl) (pa_cons (pv 0) (pa_cons (pv 1) pa_nil))) (pa_cons (C8.pe_c (c_hold_together T) hr (by decide) (by rfl) (pa_cons (pv 0) (pa_cons (pv 1) pa_nil))) pa_nil))) (k_gT K 2 rfl rfl (pgs_cons (pg_name (i := 4) sc_law_sees_right.nd rfl (by first | exact Or.inl rfl | exact Or.inr rfl)) (pgs_cons (pg_name (i := 5) sc_law_sees_right.nd rfl (by first | exact Or.inl rfl | exact Or.inr rfl)) pgs_nil))))
  (pss_cons (ps_if (PW.pt (pw_or (pt_cmpR op_ne (C8.pe_c (c_can_fit T) hr (by decide) (by rfl) (pa_cons (pv 4) pa_nil)) (pv 5) (nomark _)) (pw_or1 (pt_cmpR op_ne (pe_cmpR op_notN (C8.pe_c (c_order_for T) hr (by decide) (by rfl) (pa_cons (pv 0) (pa_cons (pv 1) pa_nil))) pe_non (nomark _)) (pv 5) (nomark _))))) (pss_one (ps_ret pe_bl)) pss_nil)
  (pss_cons (ps_if (pt_not (pt_val (pv 5))) (pss_one (ps_ret pe_bl)) pss_nil)
  (pss_cons (ps_set (i := 2) sc_law_sees_right.nd rfl (by first | exact Or.inl rfl | exact Or.inr rfl) (C8.pe_c (c_latest_history T) hr (by decide) (by rfl) (pa_cons (pv 4) pa_nil)))
  (pss_cons (ps_if (pt_not (pt_val (C8.pe_c (c_is_order_for T) hr (by decide) (by rfl) (pa_cons (pv 0) (pa_cons (pv 1) (pa_cons (pe_callTy (k_tupOf K rfl) (by rfl) T.z_tuple (by decide +kernel) (pa_cons (pe_lc (own := [("_law_own", 11)]) rfl sc_law_sees_right.nd (k_piT K rfl (pv 2)) (blkOk_by (by kernel_rfl)) (fun _ _ _ _ _ => (pg_name (i := 11) sc_law_sees_right.nd rfl (by first | exact Or.inl rfl | exact Or.inr rfl))) (fun _ _ _ _ _ => (pts_one (pt_val (pe_callB (k_isi K rfl) (by rfl) T.z_isinstance (by decide +kernel) (pa_cons (pv 11) (pa_cons (pe_bltn (v := .ty "str") (by rfl) T.z_str (by decide +kernel) rfl) pa_nil)))))) (fun _ _ _ _ _ => (pv 11))) pa_nil)) pa_nil)))))) (pss_one (ps_ret pe_bl)) pss_nil)
  (pss_cons (ps_for PassesOwn.never rfl (k_piT K rfl (C8.pe_c (c_law_parts T) hr (by decide) (by rfl) (pa_cons (pv 0) pa_nil))) (k_gT K 2 rfl rfl (pgs_cons (pg_name (i := 3) sc_law_sees_right.nd rfl (by first | exact Or.inl rfl | exact Or.inr rfl)) (pgs_cons (pg_name (i := 6) sc_law_sees_right.nd rfl (by first | exact Or.inl rfl | exact Or.inr rfl)) pgs_nil))) (pss_cons (ps_set (i := 7) sc_law_sees_right.nd rfl (by first | exact Or.inl rfl | exact Or.inr rfl) (C8.pe_c (c_answers T) hr (by decide) (by rfl) (pa_cons (pv 4) (pa_cons pe_int (pa_cons (pv 3) pa_nil)))))
  (pss_cons (ps_if (pt_cmpR (k_neD K rfl hr.units) (pv 7) (C8.pe_c (c_seen_there T) hr (by decide) (by rfl) (pa_cons (pv 0) (pa_cons (pv 1) (pa_cons (pv 3) pa_nil)))) (nomark _)) (pss_one (ps_ret pe_bl)) pss_nil)
  (pss_one (ps_if (pt_cmpR op_ne (pe_cmpR op_eq (pe_callB (k_len K rfl) (by rfl) T.z_len (by decide +kernel) (pa_cons (pv 7) pa_nil)) pe_int (nomark _)) (pe_cmpR (k_inTD K rfl (u65 hr)) (pe_tup (pa_cons (pe_tup (pa_cons (pv 3) (pa_cons (pv 6) pa_nil))) (pa_cons (pe_ix (k_ixT K rfl) (pv 7) pe_int (fun _ _ => rfl)) pa_nil))) (C8.pe_c (c_sure_cells T) hr (by decide) (by rfl) (pa_cons (pv 0) (pa_cons (pv 1) pa_nil))) (by rfl)) (nomark _)) (pss_one (ps_ret pe_bl)) pss_nil)))))
  (pss_cons (ps_par (i := 8) (j := 9) rfl sc_law_sees_right.nd rfl rfl (by decide) rfl rfl (pa_cons (C8.pe_c (c_law_names T) hr (by decide) (by rfl) (pa_cons (pv 0) pa_nil)) (pa_cons (pe_lst pa_nil) pa_nil)) rfl)
  (pss_cons (ps_for PassesOwn.never rfl (k_piT K rfl (pv 8)) (pg_name (i := 3) sc_law_sees_right.nd rfl (by first | exact Or.inl rfl | exact Or.inr rfl)) (pss_one (ps_set (i := 9) sc_law_sees_right.nd rfl (by first | exact Or.inl rfl | exact Or.inr rfl) (pe_op op_cat (pv 9) (pe_lc (own := [("_law_lid", 10)]) rfl sc_law_sees_right.nd (k_piT K rfl (pv 8)) (blkOk_by (by kernel_rfl)) (fun _ _ _ _ _ => (pg_name (i := 10) sc_law_sees_right.nd rfl (by first | exact Or.inl rfl | exact Or.inr rfl))) (fun _ _ _ _ _ => (pts_one (PW.pt (pw_and (pt_cmpR op_ne (pv 10) (pv 3) (nomark _)) (pw_and1 (pt_val (C8.pe_c (c_surely_before T) hr (by decide) (by rfl) (pa_cons (pv 4) (pa_cons (pv 3) (pa_cons (pv 10) pa_nil)))))))))) (fun _ _ _ _ _ => (pe_tup (pa_cons (pv 3) (pa_cons (pv 10) pa_nil)))))))))
  (pss_one (ps_ret (pe_cmpR (k_eqD K rfl hr.units) (pe_callTy (k_tupOf K rfl) (by rfl) T.z_tuple (by decide +kernel) (pa_cons (pv 9) pa_nil)) (C8.pe_c (c_surely_below T) hr (by decide) (by rfl) (pa_cons (pv 0) (pa_cons (pv 1) pa_nil))) (nomark _)))))))))))), ?_⟩
  refine q_asgT (K := K) (ds := [csD (tale F ss), .bool (holdB F ss)]) (g_tup (a_cons (g_call (a_cons (g_var rfl hv) (a_cons (g_var rfl hu) a_nil)) (spD_use (F, ss) ⟨h100, by show ss.length ≤ 100; omega⟩)) (a_cons (g_call (a_cons (g_var rfl hv) (a_cons (g_var rfl hu) a_nil)) (spD_use (F, ss) ⟨h100, by show ss.length ≤ 50; omega⟩)) a_nil)) (by simp)) rfl fun ws H1 e1 hws => ?_
  obtain ⟨vt, vf, rfl, ht, hfine⟩ := dts2 hws
  obtain rfl := hfine.boolV
  refine ⟨vt, [_], rfl, _, [], rfl, rfl, ?_⟩
  have hv1 := hv.ex e1
  have hu1 := hu.ex e1
  refine q_when (b := false) (et_is (et_or (a := false) (b := false) (et_is (g_test (g_neB (g_call (K := K) (a_cons (g_var rfl ht) a_nil) (spD_use (tale F ss) hC)) (g_var rfl (.bl (holdB F ss))))) ?_) fun _ => et_is (g_test (g_neB (g_notN (K := K) (b := holdB F ss) (r_call (F, ss) (a_cons (g_var rfl hv1) (a_cons (g_var rfl hu1) a_nil)) ⟨hF, hS⟩) fun d hd => ?_) (g_var rfl (.bl (holdB F ss))))) ?_) rfl) (fun h => nomatch h) fun _ H2 e2 => ?_
  · rw [fit_hold hF hS]; cases holdB F ss <;> rfl
  · rw [show (d = .none ↔ ¬ Hold F ss) from hd, ← hold_iff, Bool.not_eq_true]
  · cases holdB F ss <;> rfl
  have e12 := e1.trans e2
  refine q_when (b := !holdB F ss) (et_not (et_B (ev_var rfl))) (fun hb H3 e3 => s_retD (K := K) g_bl fun v4 H4 e4 h4 => gv v4 H4 (e12.trans (e3.trans e4)) h4) fun hb H3 e3 => ?_
  have hH : Hold F ss := hold_iff.mp (by cases hh : holdB F ss with | true => rfl | false => rw [hh] at hb; cases hb)
  have hfit := tale_fit hF hS hH
  have e13 := e12.trans e3
  have e23 := e2.trans e3
  refine q_asgR (r_call (K := K) (tale F ss) (a_cons (g_var rfl (ht.ex e23)) a_nil) ⟨hC, hfit⟩) fun vr H4 dr e4 hvr ⟨ord, hdr, hperm, htopo⟩ => ?_
  subst hdr
  rw [edge_tale] at htopo
  have e14 := e13.trans e4
  have hol : ord.length ≤ 5 := by
    have := hperm.length_eq
    rw [this]
    show (nm F).length ≤ 5
    rw [nm_len]; exact hf
  refine q_when (b := false) (et_is (et_not (g_testB (g_call (K := K) (a_cons (g_var rfl (hv.ex e14)) (a_cons (g_var rfl (hu.ex e14)) (a_cons (g_tupleOf (EL.toS ((l_lcI (xs := ord.map PyData.str ++ [.int 0]) isStr id (iv_tup (xs := ord.map PyData.str ++ [.int 0]) (enc := id) ((g_var rfl hvr).is ?_)) TLe.ex ?_ fun d hd v5 H5 e5 h5 => ?_).is ?_))) a_nil))) (spD_use (F, ss, ord) ⟨hF, hS, hperm, htopo⟩)))) rfl) (fun h => nomatch h) fun _ H5 e5 => ?_
  · rw [List.map_id]
  · rw [List.length_append, List.length_map, List.length_singleton]; omega
  · refine trn_name rfl (g_testB (g_isi1 (T := "str") (b := isStr d) (g_var rfl h5) ?_)) fun _ => g_var rfl h5
    rcases List.mem_append.mp hd with h | h
    · obtain ⟨x, _, rfl⟩ := List.mem_map.mp h
      rfl
    · rw [List.mem_singleton.mp h]; rfl
  · unfold made
    rw [only_strs, List.map_id]
  have e15 := e14.trans e5
  have ht5 : Dt K H5 vt (csD (tale F ss)) := ht.ex (e2.trans (e3.trans (e4.trans e5)))
  have hv5 := hv.ex e15
  have hu5 := hu.ex e15
  -- the parts
  refine q_forI (iv_tup (K := K) (xs := partL F) (enc := piD) (g_call (a_cons (g_var rfl hv5) a_nil) (spD_use F hF))).ex (fun H6 i σ' H' => Ex H6 H' ∧ Ex H5 H' ∧ ∃ y3 y6 y7, σ' = [some v, some u, some vr, y3, some vt, some (.bl (holdB F ss)), y6, y7, none, none, none, none])
    (fun H6 e6 => ⟨Ex.refl _, e6, _, _, _, rfl⟩) (fun H6 i σ' H' _ h => h.1) (fun H6 i x v1 σ' H' H7 e6 hi ⟨t, ex, y3, y6, y7, hσ⟩ e7 hv1 => ?_) fun H6 σ' H' e6 ⟨t, ex, y3, y6, y7, hσ⟩ => ?_
  · subst hσ
    have hmem := List.mem_of_getElem? hi
    obtain ⟨lo, hi'⟩ := x
    have hov : ov F lo ≠ [] := fun e => by
      have := of_decide_eq_true (List.mem_filter.mp hmem).2
      dsimp only at this
      rw [e] at this
      exact Nat.lt_irrefl _ this
    obtain ⟨a0, l0, hseen⟩ : ∃ a l, seenL F ss lo = a :: l := by
      cases hs : seenL F ss lo with
      | nil => exact absurd hs (seen_some hF hS.ovr hH hov)
      | cons a l => exact ⟨a, l, rfl⟩
    have x7 := ex.trans e7
    refine g_t2 hv1 fun p1 p2 hp1 hp2 => ?_
    obtain rfl := hp1.intV
    obtain rfl := hp2.intV
    refine q_asgD (g_call (K := K) (a_cons (g_var rfl (ht5.ex x7)) (a_cons g_int (a_cons (g_var rfl (.int lo)) a_nil))) (spD_use ((F, ss), lo) ⟨⟨hF, hS, hH⟩, hov⟩)) fun v8 H8 e8 h8 => ?_
    have x8 := x7.trans e8
    have shs : SeqAt.shaped (strsD (seenL F ss lo)) = true := sh_strs hF fun x hx => seen_nm hx
    refine q_when (b := false) (et_is (g_test (g_neTT (g_var rfl h8) (g_call (K := K) (a_cons (g_var rfl (hv5.ex x8)) (a_cons (g_var rfl (hu5.ex x8)) (a_cons (g_var rfl (.int lo)) a_nil))) (spD_use (F, ss, lo) ⟨hF, hS, hH⟩)) shs shs)) (by rw [eqv_self shs]; rfl)) (fun h => nomatch h) fun _ H9 e9 => ?_
    have x9 := x8.trans e9
    have h9 := h8.ex e9
    refine s_when (b := false) (et_is (g_test (g_neB (g_eqI (g_lenT (g_var rfl h9)) g_int) (g_inTD (K := K) (d := suD ((lo, hi'), a0)) (g_tup (a_cons (g_tup (a_cons (g_var rfl (.int lo)) (a_cons (g_var rfl (.int hi')) a_nil)) (by simp)) (a_cons (g_ixk (k := 0) (d := .str a0) (g_var rfl h9) ?_) a_nil)) (by simp)) (g_call (a_cons (g_var rfl (hv5.ex x9)) (a_cons (g_var rfl (hu5.ex x9)) a_nil)) (spD_use (F, ss) ⟨hF, hS, hH⟩)) (sh_one hF (seen_nm (c := lo) (by rw [hseen]; exact List.mem_cons_self))) (sh_sure hF)))) ?_) (fun h => nomatch h) fun _ H10 e10 => ⟨((t.trans e7).trans e8).trans (e9.trans e10), x9.trans e10, _, _, _, rfl⟩
    · rw [hseen]; rfl
    · rw [sure_any (p := (lo, hi')) hmem hseen, List.length_map]
      exact bne_self_eq_false _
  · subst hσ
    have hv6 := hv5.ex ex
    have hu6 := hu5.ex ex
    have ht6 := ht5.ex ex
    refine q_parDL (K := K) (g_call (a_cons (g_var rfl hv6) a_nil) (spD_use F h100)) (l_lst a_nil (by simp)) fun vg pf xs H7 e7 hpf hvg hlf hxf => ?_
    refine q_forI (iv_tup (K := K) (xs := nm F) (enc := PyData.str) (g_var rfl hvg)).ex (fun H8 i σ' H' => Ex H8 H' ∧ Ex H7 H' ∧ (∃ z3, σ' = [some v, some u, some vr, z3, some vt, some (.bl (holdB F ss)), y6, y7, some vg, σ'[9]?.getD none, none, none]) ∧ ∃ pq zs, σ'[9]? = some (some (.ref pq)) ∧ H' pq = some (.lst zs) ∧ Dts K H' zs ((((nm F).take i).flatMap fun a => ((nm F).filter fun b => decide (b ≠ a) && reachB F ss a b).map fun b => (a, b)).map prD))
      (fun H8 e8 => ⟨Ex.refl _, e8, ⟨_, rfl⟩, pf, xs, rfl, e8 _ _ hlf, hxf.ex e8⟩) (fun H8 i σ' H' _ h => h.1) (fun H8 i x v1 σ' H' H9 e8 hi ⟨t, ex8, ⟨z3, hσ⟩, pq, zs, h9, hq, hzd⟩ e9 hv1 => ?_) fun H8 σ' H' e8 ⟨t, ex8, ⟨z3, hσ⟩, pq, zs, h9, hq, hzd⟩ => ?_
    · rw [h9] at hσ
      subst hσ
      have x9 := (e7.trans ex8).trans e9
      have hx := List.mem_of_getElem? hi
      have hl25 := pairs_len F ss i hf
      refine s_asgN' (K := K) (l_catV (ev_var rfl) (e9 _ _ hq) (hzd.ex e9) (l_lcI (xs := nm F) (fun b => !decide (b = x) && reachB F ss x b) (fun b => prD (x, b)) (iv_tup (xs := nm F) (enc := PyData.str) (g_var rfl (hvg.ex (ex8.trans e9)))) TLe.ex (by rw [nm_len]; omega) fun b hb v10 H10 e10 h10 => ?_) ?_) fun p2 ys H10 hp2 e10 hl2 hd2 => ⟨(t.trans e9).trans e10, (ex8.trans e9).trans e10, ⟨_, rfl⟩, p2, ys, rfl, hl2, ?_⟩
      · refine trn_name rfl (et_and (g_test (g_neS (g_var rfl h10) (g_var rfl (hv1.ex e10)))) fun hne => g_testB (g_call (a_cons (g_var rfl (ht6.ex (x9.trans e10))) (a_cons (g_var rfl (hv1.ex e10)) (a_cons (g_var rfl h10) a_nil))) (spD_use ((F, ss), x, b) ⟨⟨hF, hS, hH⟩, hx, hb, fun e => by rw [show x = b from e] at hne; simp at hne⟩))) fun _ => g_tup (a_cons (g_var rfl (hv1.ex e10)) (a_cons (g_var rfl h10) a_nil)) (by simp)
      · rw [List.length_map]
        have h1 := made_len (f := fun b => !decide (b = x) && reachB F ss x b) (e := fun b => prD (x, b)) (xs := nm F) (nm F).length
        rw [List.take_length, nm_len] at h1
        omega
      · rw [flat_succ hi, List.map_append]
        refine (congrArg (Dts K H10 ys) ?_).mp hd2
        congr 1
        unfold made
        rw [List.map_map]
        congr 1
        refine List.filter_congr fun b _ => ?_
        by_cases e : b = x <;> simp [e]
    · rw [h9] at hσ
      subst hσ
      rw [List.take_length] at hzd
      have shp := sh_pairs (ss := ss) hF
      refine s_retD (K := K) (g_eqTT (d := .tuple ((pairsL F ss).map prD)) (g_tupleOf (es_old (ev_var rfl) (sq_of hq) hzd)) (g_call (a_cons (g_var rfl (hv6.ex (e7.trans ex8))) (a_cons (g_var rfl (hu6.ex (e7.trans ex8))) a_nil)) (spD_use (F, ss) ⟨hF, hS, hH⟩)) shp shp) fun v9 H9 e9 h9' => gv v9 H9 (e15.trans (ex.trans (e7.trans (ex8.trans e9)))) ?_
      rw [eqv_self shp] at h9'
      exact h9'
end
end K77
set_option maxHeartbeats 1000000
/-! _law_by_hand_right, _law_case_right, _law_right, _law_box, _law_cells, law. -/
namespace K77
open PySem PySem.Spec PyProof.Rows L2 Evl
theorem cmul_bit (i : Int) (b : Bool) : CMul i (if b = true then 1 else 0) := by cases b <;> exact .inr (by decide)
def one5 : Fence := [⟨"x", 5, 5⟩]
def rowsN : List (List Si) := [[], [(3, "c"), (5, "b"), (8, "b")], [(3, "c"), (5, "a")], [(6, "a")], [(1, "a"), (5, "c")]]
theorem ok_three : FOk three where
  nd := by decide
  srt := by
    show List.Pairwise (fun a b => PySem.W.dataLt (.str b) (.str a) = false) _
    decide +kernel
  few := by decide
  bare := by decide
  txt := by decide +kernel
theorem ok_one : FOk one5 where
  nd := by decide
  srt := by
    show List.Pairwise (fun a b => PySem.W.dataLt (.str b) (.str a) = false) _
    decide +kernel
  few := by decide
  bare := by decide
  txt := by decide +kernel
theorem ok_rows : ∀ ss ∈ rowsN, SOk three ss := fun ss h => by
  simp only [rowsN, List.mem_cons, List.not_mem_nil, or_false] at h
  rcases h with rfl | rfl | rfl | rfl | rfl <;> exact ⟨by decide, by decide⟩
section
variable {P : Program} {w : World} {K : PySem.W.Frag} {mg : Str → Option Value} {base : Heap}
-- 0 _law_three_here, 1 _law_rows_so, 2 _law_own
theorem sc_law_by_hand_right : FnScope ["_law_three_here", "_law_rows_so", "_law_own"] [] (defScope s_law_by_hand_right) := C8.fnScope_by (by decide +kernel)
theorem c_law_by_hand_right (T : Txt K mg) : C8.Cal P w K mg base 15 "_law_by_hand_right" (spD K (fun _ : Unit => []) (fun _ => True) fun _ => .bool true) [] := by
  refine cal_of T.d_law_by_hand_right (fun _ _ _ _ _ _ us hu => by match us, hu with | [], _ => rfl) sc_law_by_hand_right (spD_len fun _ => rfl) fun f cdv A outer s H vs Q E hr h => ?_
  obtain ⟨_, _, hd, gv⟩ := h
  obtain rfl := dts0 hd
  refine ⟨_, (pss_cons (ps_set (i := 0) sc_law_by_hand_right.nd rfl (by first | exact Or.inl rfl | exact Or.inr rfl) (pe_c0 (c_law_three T) hr (by decide) (by rfl)))
  (pss_cons (ps_set (i := 1) sc_law_by_hand_right.nd rfl (by first | exact Or.inl rfl | exact Or.inr rfl) (pe_lst (pa_cons (pe_tup pa_nil) (pa_cons (pe_tup (pa_cons (pe_tup (pa_cons pe_int (pa_cons pe_str pa_nil))) (pa_cons (pe_tup (pa_cons pe_int (pa_cons pe_str pa_nil))) (pa_cons (pe_tup (pa_cons pe_int (pa_cons pe_str pa_nil))) pa_nil)))) (pa_cons (pe_tup (pa_cons (pe_tup (pa_cons pe_int (pa_cons pe_str pa_nil))) (pa_cons (pe_tup (pa_cons pe_int (pa_cons pe_str pa_nil))) pa_nil))) (pa_cons (pe_tup (pa_cons (pe_tup (pa_cons pe_int (pa_cons pe_str pa_nil))) pa_nil)) (pa_cons (pe_tup (pa_cons (pe_tup (pa_cons pe_int (pa_cons pe_str pa_nil))) (pa_cons (pe_tup (pa_cons pe_int (pa_cons pe_str pa_nil))) pa_nil))) pa_nil)))))))
  (pss_cons (ps_if (pt_not (pt_val (C8.pe_c (c_law_sees_right T) hr (by decide) (by rfl) (pa_cons (pe_tup (pa_cons (pe_tup (pa_cons pe_str (pa_cons pe_int (pa_cons pe_int pa_nil)))) pa_nil)) (pa_cons (pe_tup (pa_cons (pe_tup (pa_cons pe_int (pa_cons pe_str pa_nil))) pa_nil)) pa_nil))))) (pss_one (ps_ret pe_bl)) pss_nil)
  (pss_one (ps_ret (pe_callB (k_all K rfl rfl) (by rfl) T.z_all (by decide +kernel) (pa_cons (pe_lc (own := [("_law_own", 2)]) rfl sc_law_by_hand_right.nd (k_piL K rfl (pv 1)) (blkOk_by (by kernel_rfl)) (fun _ _ _ _ _ => (pg_name (i := 2) sc_law_by_hand_right.nd rfl (by first | exact Or.inl rfl | exact Or.inr rfl))) (fun _ _ _ _ _ => pts_nil) (fun _ _ _ _ _ => (C8.pe_c (c_law_sees_right T) hr (by decide) (by rfl) (pa_cons (pv 0) (pa_cons (pv 2) pa_nil))))) pa_nil))))))), ?_⟩
  refine q_asgD (K := K) (g_call a_nil (spD_use () trivial)) fun v1 H1 e1 h1 => ?_
  refine q_asgN (K := K) (ds := rowsN.map ssD) (l_lst (a_cons (g_tup a_nil (by simp)) (a_cons (g_tup (a_cons (g_tup (a_cons g_int (a_cons g_str a_nil)) (by simp)) (a_cons (g_tup (a_cons g_int (a_cons g_str a_nil)) (by simp)) (a_cons (g_tup (a_cons g_int (a_cons g_str a_nil)) (by simp)) a_nil))) (by simp)) (a_cons (g_tup (a_cons (g_tup (a_cons g_int (a_cons g_str a_nil)) (by simp)) (a_cons (g_tup (a_cons g_int (a_cons g_str a_nil)) (by simp)) a_nil)) (by simp)) (a_cons (g_tup (a_cons (g_tup (a_cons g_int (a_cons g_str a_nil)) (by simp)) a_nil) (by simp)) (a_cons (g_tup (a_cons (g_tup (a_cons g_int (a_cons g_str a_nil)) (by simp)) (a_cons (g_tup (a_cons g_int (a_cons g_str a_nil)) (by simp)) a_nil)) (by simp)) a_nil))))) (by decide)) fun p xs H2 hp e2 hx hxd => ?_
  refine q_when (b := false) (et_is (et_not (g_testB (g_call (K := K) (a_cons (g_tup (a_cons (g_tup (a_cons g_str (a_cons g_int (a_cons g_int a_nil))) (by simp)) a_nil) (by simp)) (a_cons (g_tup (a_cons (g_tup (a_cons g_int (a_cons g_str a_nil)) (by simp)) a_nil) (by simp)) a_nil)) (spD_use (one5, [((5 : Int), ("x" : Str))]) ⟨ok_one, by decide, by decide⟩)))) rfl) (fun h => nomatch h) fun _ H3 e3 => ?_
  refine s_retD (K := K) (d := .bool true) ((g_all (bs := rowsN.map fun _ => true) (EL.toS ((l_lcI (xs := rowsN) (fun _ => true) (fun _ => .bool true) (iv_list (xs := rowsN) (enc := ssD) (es_old (ev_var rfl) (sq_of (e3 _ _ hx)) (hxd.ex e3))) (fun e => e) (by decide) fun ss hs v4 H4 e4 h4 => trn_name rfl yes_t fun _ => g_call (a_cons (g_var rfl (h1.ex (e2.trans (e3.trans e4)))) (a_cons (g_var rfl h4) a_nil)) (spD_use (three, ss) ⟨ok_three, ok_rows ss hs⟩)).is ?_))).is rfl) fun v5 H5 e5 h5 => gv v5 H5 (e1.trans (e2.trans (e3.trans e5))) h5
  rw [made_all, List.map_map]; rfl
/-! with a box -/
theorem lc_raw {α : Type} {σ : L2.St} {H : Hp} {te : TE} {wi : TI} {g : TG} {tt : TT} {vs : List Nat} {xs : List α} {R : Hp → V → α → Prop} {S : Hp → Hp → Prop} {Q : VK} (h : IV wi σ H xs R S)
    (k : ∀ J H1 (Kp : Hp → Prop), Ex H H1 → (∀ H3, S H1 H3 → Kp H3) → Runs J xs R Kp → ∀ D, H1 D = none → ∃ W : Nat → Nat → Hp → Prop, (∃ m, W 0 m (upd H1 D (.lst []))) ∧ ∀ i m H, W i m H →
      (J.stop i H ∧ Q (.ref D) H) ∨ (J.go i H ∧ ∃ Nx : Hp → Prop, (∀ H', Nx H' → ∃ m', m' < m ∧ W (i + 1) m' H') ∧ ∀ x H', J.yld i H x H' → g x (wipe σ vs) H' fun σ2 H2 => wipe σ2 vs = wipe σ vs ∧ tt σ2 H2 fun b H3 =>
        if b = true then te σ2 H3 fun y H4 => ∃ acc, H4 D = some (.lst acc) ∧ acc.length < sizeLine ∧ Nx (upd H4 D (.lst (acc ++ [y]))) else Nx H3)) : tLc wi g tt te vs σ H Q := h H (Ex.refl H) _ k
def spBx (c : Int) (M : Int) : Sp := fun vs H Q _ => ∃ (pb : Addr) (N : Int), vs = [.ref pb] ∧ N ≤ M ∧ BOk H pb N ∧ ∀ H2, XB pb (N + c) H H2 → Q (.bl true) H2
-- 0 _law_box_here, 1 _law_plank_here
theorem sc_law_case_right : FnScope ["_law_box_here", "_law_plank_here"] ["_law_box_here"] (defScope s_law_case_right) := C8.fnScope_by (by decide +kernel)
theorem c_law_case_right (T : Txt K mg) : C8.Cal P w K mg base 15 "_law_case_right" (spBx 128 600000) [] := by
  refine cal_of T.d_law_case_right (fun _ _ _ _ _ _ us hu => by match us, hu with | [_], _ => rfl) sc_law_case_right (fun vs H Q E h => by obtain ⟨_, _, rfl, _⟩ := h; rfl) fun f cdv A outer s H vs Q E hr h => ?_
  obtain ⟨pb, N, rfl, hN, hb, gv⟩ := h
  refine ⟨_, (pss_cons (ps_set (i := 1) sc_law_case_right.nd rfl (by first | exact Or.inl rfl | exact Or.inr rfl) (C8.pe_c (c_law_plank T) hr (by decide) (by rfl) (pa_cons (pv 0) (pa_cons pe_int (pa_cons pe_int pa_nil)))))
  (pss_one (ps_ret (C8.pe_c (c_law_sees_right T) hr (by decide) (by rfl) (pa_cons (pv 1) (pa_cons (C8.pe_c (c_law_sees T) hr (by decide) (by rfl) (pa_cons (pv 0) (pa_cons (pv 1) (pa_cons pe_int (pa_cons pe_int pa_nil))))) pa_nil)))))), ?_⟩
  refine ⟨.ref pb, rfl, pb, 5, 6, N, rfl, by decide, by decide, by decide, by decide, by omega, hb, fun v F H2 x2 hv hF => ?_⟩
  refine ⟨v, rfl, .ref pb, rfl, v, rfl, pb, v, F, N + 64, rfl, hv, hF, by omega, x2.box, fun u ss H3 x3 hu hS => ?_⟩
  refine ⟨(F, ss), ⟨hF, hS⟩, .cons (x3.dt hv) (.cons hu .nil), fun z H4 e4 hz => ?_⟩
  rw [hz.boolV]
  exact gv H4 (((x2.trans x3).ex e4).up (by omega))
-- 0 _law_box_here, 1 _law_turn
theorem sc_law_right : FnScope ["_law_box_here", "_law_turn"] ["_law_box_here"] (defScope s_law_right) := C8.fnScope_by (by decide +kernel)
theorem c_law_right (T : Txt K mg) : C8.Cal P w K mg base 16 "_law_right" (spBx 640 1000) [] := by
  refine cal_of T.d_law_right (fun _ _ _ _ _ _ us hu => by match us, hu with | [_], _ => rfl) sc_law_right (fun vs H Q E h => by obtain ⟨_, _, rfl, _⟩ := h; rfl) fun f cdv A outer s H vs Q E hr h => ?_
  obtain ⟨pb, N, rfl, hN, hb, gv⟩ := h
  obtain ⟨xb, hxb⟩ := hb.lst
  refine ⟨_, (pss_one (ps_ret (pe_callB (k_all K rfl rfl) (by rfl) T.z_all (by decide +kernel) (pa_cons (pe_lc (own := [("_law_turn", 1)]) rfl sc_law_right.nd (pi_range1 (by rfl) T.z_range (pa_cons pe_int pa_nil)) (blkOk_by (by kernel_rfl)) (fun _ _ _ _ _ => (pg_name (i := 1) sc_law_right.nd rfl (by first | exact Or.inl rfl | exact Or.inr rfl))) (fun _ _ _ _ _ => pts_nil) (fun _ _ _ _ _ => (C8.pe_c (c_law_case_right T) hr (by decide) (by rfl) (pa_cons (pv 0) pa_nil)))) pa_nil)))), ?_⟩
  show tLc (iRng1 (tCons (tC (.int ((5 : Nat) : Int))) tNil)) (gName 1) tYes (tCall (spBx 128 600000) [] C8.E0 (tCons (tVar 0) tNil)) (List.map (fun x : Str × Nat => x.snd) [(("_law_turn" : Str), 1)]) _ H fun x H1 => tNil _ H1 fun xs H2 => rAll K (x :: xs) H2 Q
  refine lc_raw (iv_range (K := K) (n := 5) (a_cons g_int a_nil) (by decide)) fun J H1 Kp e1 hk r Dl hD => ?_
  have nD : Dl ≠ pb := fun z => by rw [z, e1 _ _ hxb] at hD; cases hD
  have hD0 : H Dl = none := fresh_back e1 hD
  refine ⟨fun i m H' => m = 5 - i ∧ i ≤ 5 ∧ XB pb (N + 128 * i) H H' ∧ H' Dl = some (.lst ((List.replicate i true).map V.bl)), ⟨5, rfl, by decide, (XB.put (XB.of e1 hb) hD0 nD).up (by omega), upd_same⟩, ?_⟩
  rintro i m H' ⟨rfl, hi, x, hl⟩
  have kp := hk H' trivial
  by_cases hlt : i < 5
  · refine .inr ⟨r.go i H' kp (by rw [List.length_range]; exact hlt), fun H' => XB pb (N + 128 * (i + 1)) H H' ∧ H' Dl = some (.lst ((List.replicate (i + 1) true).map V.bl)), fun H2 p2 => ⟨5 - (i + 1), by omega, rfl, hlt, by push_cast; exact p2.1, p2.2⟩, fun v H2 y => ?_⟩
    obtain ⟨j, hj, ex, hr'⟩ := r.yld i H' v H2 kp (by rw [List.length_range]; exact hlt) y
    have x2 := x.ex ex
    refine ⟨rfl, .ref pb, rfl, pb, N + 128 * i, rfl, by omega, x2.box, fun H3 x3 => ?_⟩
    have hl3 := x3.keep _ _ nD (ex _ _ hl)
    refine ⟨_, hl3, sz_lt (by rw [List.length_map, List.length_replicate]; omega), ((x2.trans x3).put hD0 nD).up (by omega), ?_⟩
    rw [upd_same, List.replicate_succ', List.map_append]; rfl
  · obtain rfl : i = 5 := by omega
    refine .inl ⟨r.stop H' kp, Dl, List.replicate 5 true, rfl, sq_of hl, ?_⟩
    exact gv H' (x.up (by omega))
/-! _law_box -/
def spBox (K : PySem.W.Frag) : Sp := fun vs H Q _ => ∃ (a : Addr) (ns : List Int) (k : Nat), vs = [.ref a, .int (k : Int)] ∧ SqL K H a (ns.map V.int) ∧ k < ns.length ∧ k ≤ 100 ∧ ∀ p H2, H p = none → Ex H H2 → BOk H2 p 0 → Q (.ref p) H2
-- 0 _law_script, 1 _law_k, 2 _law_great_so
theorem sc_law_box : FnScope ["_law_script", "_law_k", "_law_great_so"] ["_law_script", "_law_k"] (defScope s_law_box) := C8.fnScope_by (by decide +kernel)
theorem c_law_box (T : Txt K mg) : C8.Cal P w K mg base 1 "_law_box" (spBox K) [] := by
  refine cal_of T.d_law_box (fun _ _ _ _ _ _ us hu => by match us, hu with | [_, _], _ => rfl) sc_law_box (fun vs H Q E h => by obtain ⟨_, _, _, rfl, _⟩ := h; rfl) fun f cdv A outer s H vs Q E hr h => ?_
  obtain ⟨a, ns, k, rfl, ha, hk, hk2, gv⟩ := h
  have es : ∀ {σ : L2.St}, σ[0]? = some (some (.ref a)) → ES K (tVar 0) σ H (ns.map PyData.int) := fun h => es_old (ev_var h) ha (dts_ints ns)
  refine ⟨_, (pss_cons (ps_set (i := 2) sc_law_box.nd rfl (by first | exact Or.inl rfl | exact Or.inr rfl) (pe_ifExp (pt_cmpR op_lt (pv 1) (pe_callB (k_len K rfl) (by rfl) T.z_len (by decide +kernel) (pa_cons (pv 0) pa_nil)) (nomark _)) (pe_ix (k_ixL K rfl) (pv 0) (pv 1) (fun _ _ => rfl)) pe_int))
  (pss_one (ps_ret (pe_lst (pa_cons (pe_op op_mul (pe_callB call_abs (by rfl) T.z_abs (by decide +kernel) (pa_cons (pv 2) pa_nil)) (pe_callTy call_int1 (by rfl) T.z_int (by decide +kernel) (pa_cons (pe_cmpR op_ge (pe_callB call_abs (by rfl) T.z_abs (by decide +kernel) (pa_cons (pv 2) pa_nil)) (pe_op op_pow pe_int pe_int) (nomark _)) pa_nil))) (pa_cons (pe_op op_add (pe_op op_add (pe_op op_modN (pe_callTy call_int1 (by rfl) T.z_int (by decide +kernel) (pa_cons (pv 2) pa_nil)) pe_int) (pe_op op_mul pe_int (pv 1))) pe_int) (pa_cons pe_int pa_nil))))))), ?_⟩
  refine q_asgD (K := K) (d := .int ns[k]) (g_if (b := true) (et_is (g_test (g_cmpI (g := fun i j => decide (i < j)) (g_var rfl (.int _)) (g_lenL (es rfl)))) (by rw [List.length_map]; exact decide_eq_true (by omega))) (fun _ => g_ixL (es rfl) (g_var rfl (.int _)) (ixN_at (by rw [List.length_map]; exact hk)) (by rw [List.getElem?_map, List.getElem?_eq_getElem hk]; rfl)) (fun h => nomatch h)) fun v1 H1 e1 h1 => ?_
  rw [h1.intV]
  refine s_retN (K := K) (l_lst (a_cons (g_I (g := (· * ·)) (g_abs (g_var rfl (.int _))) (g_toIntB (g_cmpI (g := fun i j => decide (j ≤ i)) (g_abs (g_var rfl (.int _))) (g_I (C := CPow) (g := fun i j => i ^ j.toNat) g_int g_int ⟨by decide, by decide, by decide⟩))) (cmul_bit _ _)) (a_cons (g_add (g_add (g_I (g := Int.fmod) (g_toInt (g_var rfl (.int _))) g_int (by decide)) (g_I (g := (· * ·)) g_int (g_var rfl (.int _)) (.inl (by decide)))) g_int) (a_cons g_int a_nil))) (by simp)) fun p xs H2 hp e2 hx hxd => ?_
  obtain ⟨x, y, z, rfl, hx1, hy1, hz1⟩ := dts3 hxd
  obtain rfl := hx1.intV
  obtain rfl := hy1.intV
  obtain rfl := hz1.intV
  exact gv p H2 (fresh_back e1 hp) (e1.trans e2) ⟨_, _, _, hx, by decide, by decide⟩
end
end K77
set_option maxHeartbeats 1000000
/-! _law_cells, law. -/
namespace K77
open PySem PySem.Spec PyProof.Rows L2 Evl
section
variable {P : Program} {w : World} {K : PySem.W.Frag} {mg : Str → Option Value} {base : Heap}
/-- enumerate of a new list, while the lists at B change -/
theorem iv_enumX {α : Type} {σ : L2.St} {H : Hp} {xs : List α} {enc : α → PyData} {tl : TE} (B : Addr → Prop) (hB : ∀ a, B a → ∃ o, H a = some o) (h : EL K tl σ H (xs.map enc)) : IV (iEnum K (tCons tl tNil)) σ H xs.zipIdx (fun H v x => Dt K H v (.tuple [.int (x.2 : Int), enc x.1])) (LTx K B) := fun H1 e1 Q q => h H1 e1 _ fun a vs H2 hn e2 hs hx => by
  have nb : ¬ B a := fun hb => by
    obtain ⟨o, ho⟩ := hB a hb
    rw [e1 _ _ ho] at hn
    cases hn
  refine ⟨a, vs, rfl, sq_of hs, q _ H2 (fun H => SqL K H a vs ∧ Dts K H vs (xs.map enc)) e2 (fun H3 k => ⟨k.1 _ _ nb (sq_of hs), hx.mono k.2⟩) ⟨fun i H ⟨hs, hd⟩ hi => ?_, fun H ⟨hs, hd⟩ => ?_, fun i H v H' ⟨hs, hd⟩ hi y => ?_⟩⟩
  · rw [List.length_zipIdx] at hi
    have hl : i < vs.length := by rw [map_len hd]; exact hi
    exact ⟨vs, vs[i], hs, List.getElem?_eq_getElem hl⟩
  · exact ⟨vs, hs, by rw [map_len hd, List.length_zipIdx]; exact Nat.le_refl _⟩
  · obtain ⟨T, x, rfl, hT, rfl, hx⟩ := y
    obtain ⟨z, hz, hzd⟩ := map_at hd (hx vs hs)
    have ex : Ex H (upd H T (.tup [.int (i : Nat), x])) := Ex.new hT
    refine ⟨(z, i), by rw [List.getElem?_zipIdx, hz]; simp, ex, ?_⟩
    exact .tup (st_of upd_same) (.cons (.int _) (.cons (hzd.ex ex) .nil))
def spCells (K : PySem.W.Frag) : Sp := fun vs H Q _ => ∃ (a : Addr) (ns : List Int), vs = [.ref a, .int 3] ∧ SqL K H a (ns.map V.int) ∧ ns.length ≤ 63 ∧ ∀ p (zs : List Int) H2, H p = none → Ex H H2 → H2 p = some (.lst (zs.map V.int)) → zs.length ≤ 3 → Q (.ref p) H2
theorem ort_run {σ : L2.St} {H : Hp} {ta tb : TE} {Q : VK} (h : ta σ H fun x H1 => ∃ k, TruV K x H1 k ∧ if k = true then Q x H1 else tb σ H1 Q) : tOrT K ta tb σ H Q := h
theorem q_first {a : Addr} {ns : List Int} {σ : L2.St} {H : Hp} {D : Ends} {tz : TS} {i j : Nat} {tsl : TE} (h : EL K tsl σ H ((ns.take 3).map PyData.int)) (kk : ∀ p (zs : List Int) H1, H p = none → Ex H H1 → H1 p = some (.lst (zs.map V.int)) → zs.length ≤ 3 → (3 ≤ ns.length → zs.length = 3) → tz D (σ.set j (some (.ref p))) H1) :
    tSeq (tAsg (tOrT K (tCB (fun xs H Q => ∃ p ys, xs = [.ref p] ∧ (SqL K H p ys ∨ SqT K H p ys) ∧ ∀ l, H l = none → Q (.ref l) (upd H l (.lst ys))) (tCons tsl tNil)) (tLst (tCons (tC (.int 0)) tNil))) (gName j)) tz D σ H := by
  show tOrT K _ _ σ H (fun x H1 => tz D (σ.set j (some x)) H1)
  refine ort_run ?_
  refine l_listOfL (EL.toS h) H (Ex.refl H) _ fun p xs H1 hp e1 hx hxd => ?_
  obtain rfl := hxd.ints
  refine ⟨!((ns.take 3).map V.int).isEmpty, .inl ⟨_, sq_of hx, rfl⟩, ?_⟩
  cases hc : ((ns.take 3).map V.int).isEmpty with
  | false =>
    exact kk p (ns.take 3) H1 hp e1 hx (by rw [List.length_take]; omega) (fun h3 => by rw [List.length_take]; omega)
  | true =>
    refine ⟨sz_of (by simp), fun p2 hp2 => ?_⟩
    refine kk p2 [0] _ (fresh_back e1 hp2) (e1.trans (Ex.new hp2)) upd_same (by decide) (fun h3 => ?_)
    rw [List.isEmpty_iff] at hc
    have := congrArg List.length hc
    rw [List.length_map, List.length_take, List.length_nil] at this
    omega
-- 0 _law_script, 1 _law_most, 2 _law_cells_here, 3 _law_k, 4 _law_great_so, 5 _law_at_so
theorem sc_law_cells : FnScope ["_law_script", "_law_most", "_law_cells_here", "_law_k", "_law_great_so", "_law_at_so"] ["_law_script", "_law_most"] (defScope s_law_cells) := C8.fnScope_by (by decide +kernel)
theorem c_law_cells (T : Txt K mg) : C8.Cal P w K mg base 1 "_law_cells" (spCells K) [] := by
  refine cal_of T.d_law_cells (fun _ _ _ _ _ _ us hu => by match us, hu with | [_, _], _ => rfl) sc_law_cells (fun vs H Q E h => by obtain ⟨_, _, rfl, _⟩ := h; rfl) fun f cdv A outer s H vs Q E hr h => ?_
  obtain ⟨a, ns, rfl, ha, hl, gv⟩ := h
  have es : ∀ {σ : L2.St} {H'}, Ex H H' → σ[0]? = some (some (.ref a)) → ES K (tVar 0) σ H' (ns.map PyData.int) := fun e h => es_old (ev_var h) (ex_l e ha) (dts_ints ns)
  refine ⟨_, (pss_cons (ps_set (i := 2) sc_law_cells.nd rfl (by first | exact Or.inl rfl | exact Or.inr rfl) (pe_orT (pe_callTy (k_listOf K rfl) (by rfl) T.z_list (by decide +kernel) (pa_cons (pe_slice (k_slL K rfl) (pv 0) po_none (po_some (pv 1))) pa_nil)) (pe_one (pe_lst (pa_cons pe_int pa_nil)))))
  (pss_cons (ps_for PassesOwn.never rfl (k_enum K rfl (by rfl) T.z_enumerate (pa_cons (pe_slice (k_slL K rfl) (pv 0) (po_some (pv 1)) (po_some pe_int)) pa_nil)) (k_gT K 2 rfl rfl (pgs_cons (pg_name (i := 3) sc_law_cells.nd rfl (by first | exact Or.inl rfl | exact Or.inr rfl)) (pgs_cons (pg_name (i := 4) sc_law_cells.nd rfl (by first | exact Or.inl rfl | exact Or.inr rfl)) pgs_nil))) (pss_cons (ps_set (i := 5) sc_law_cells.nd rfl (by first | exact Or.inl rfl | exact Or.inr rfl) (pe_op op_modN (pe_callTy call_int1 (by rfl) T.z_int (by decide +kernel) (pa_cons (pv 3) pa_nil)) (pv 1)))
  (pss_one (ps_asg (pe_op op_add (pe_ix (k_ixL K rfl) (pv 2) (pv 5) (fun _ _ => rfl)) (pe_op op_mul (pv 4) (pe_op op_add (pv 3) pe_int))) (pg_sub (pv 2) (pv 5) set_list)))))
  (pss_one (ps_ret (pv 2))))), ?_⟩
  refine q_first (K := K) (a := a) (ns := ns) (i := 0) ((l_slL (es (Ex.refl H) rfl) eo_none (eo_some (ev_var rfl))).is ?_) fun p zs H1 hp e1 hz hz3 hz33 => ?_
  · rw [show (3 : Int) = ((3 : Nat) : Int) from rfl, cutD_to, List.map_take]
  · have hxs : ∃ xs : List Int, cutD (ns.map PyData.int) (some 3) (some 63) = xs.map PyData.int ∧ xs.length ≤ 60 ∧ (0 < xs.length → 3 ≤ ns.length) := by
      unfold cutD
      rw [List.length_map, show (3 : Int) = ((3 : Nat) : Int) from rfl, show (63 : Int) = ((63 : Nat) : Int) from rfl, HT.sIx_nat, HT.sIx_nat, ← List.map_drop, ← List.map_take]
      refine ⟨_, rfl, ?_, ?_⟩
      · rw [List.length_take, List.length_drop]; omega
      · rw [List.length_take, List.length_drop]; omega
    obtain ⟨xs, hxs, hxl, hx3⟩ := hxs
    refine q_forI (iv_enumX (K := K) (xs := xs) (enc := PyData.int) (fun b => b = p) (fun b hb => by subst hb; exact ⟨_, hz⟩) ((l_slL (es e1 rfl) (eo_some (ev_var rfl)) (eo_some ev_c)).is hxs)) (fun H2 i σ' H' => LTx K (fun b => b = p) H2 H' ∧ Ex H H' ∧ (∃ y3 y4 y5, σ' = [some (.ref a), some (.int 3), some (.ref p), y3, y4, y5]) ∧ ∃ zs' : List Int, H' p = some (.lst (zs'.map V.int)) ∧ zs'.length = zs.length)
      (fun H2 e2 => ⟨LTx.refl, e1.trans e2, ⟨_, _, _, rfl⟩, zs, e2 _ _ hz, rfl⟩) (fun H2 i σ' H' _ h => h.1) (fun H2 i x v1 σ' H' H3 e2 hi ⟨t, ex, ⟨y3, y4, y5, hσ⟩, zs', hz', hzl⟩ e3 hv1 => ?_) fun H2 σ' H' e2 ⟨t, ex, ⟨y3, y4, y5, hσ⟩, zs', hz', hzl⟩ => ?_
    · subst hσ
      obtain ⟨g, k⟩ := x
      have hlen := (List.getElem?_eq_some_iff.mp hi).1
      rw [List.length_zipIdx] at hlen
      have hk : k = i := by
        rw [List.getElem?_zipIdx] at hi
        obtain ⟨_, _, e⟩ := Option.map_eq_some_iff.mp hi
        have := (Prod.mk.inj e).2
        omega
      subst hk
      have h3 : zs'.length = 3 := by rw [hzl]; exact hz33 (hx3 (by omega))
      have hz3' := e3 _ _ hz'
      refine g_t2 hv1 fun p1 p2 hp1 hp2 => ?_
      obtain rfl := hp1.intV
      obtain rfl := hp2.intV
      refine q_asgD (K := K) (g_I (g := Int.fmod) (g_toInt (g_var rfl (.int (k : Int)))) (g_var rfl (.int 3)) (by decide)) fun v4 H4 e4 h4 => ?_
      rw [h4.intV]
      have o1 := Int.fmod_nonneg_of_pos (a := (k : Int)) (b := 3) (by decide)
      have o2 := Int.fmod_lt_of_pos (k : Int) (b := 3) (by decide)
      obtain ⟨j, hj⟩ : ∃ j : Nat, (k : Int).fmod 3 = (j : Int) := ⟨((k : Int).fmod 3).toNat, by omega⟩
      rw [hj]
      have hj3 : j < 3 := by omega
      have hz4 := e4 _ _ hz3'
      have hjl : j < zs'.length := by omega
      refine (g_add (K := K) (g_ixL (d := .int zs'[j]) (es_old (ev_var rfl) (sq_of hz4) (dts_ints zs')) (g_var rfl (.int (j : Int))) (ixN_at (by rw [List.length_map]; omega)) (by rw [List.getElem?_map, List.getElem?_eq_getElem hjl]; rfl)) (g_I (g := (· * ·)) (g_var rfl (.int g)) (g_add (g_var rfl (.int (k : Int))) g_int) (.inr (by omega)))) H4 (Ex.refl H4) _ fun v5 H5 e5 h5 => ?_
      rw [h5.intV]
      have hz5 := e5 _ _ hz4
      have x5 := ex.trans (e3.trans (e4.trans e5))
      refine ⟨_, rfl, _, rfl, p, _, _, j, rfl, rfl, hz5, ixN_at (by rw [List.length_map]; omega), (t.trans (LTx.ex (e3.trans (e4.trans e5)))).trans (LTx.lst rfl hz5), Ex.mut x5 hp, ⟨_, _, _, rfl⟩, zs'.set j (zs'[j] + g * ((k : Int) + 2)), ?_, by rw [List.length_set]; exact hzl⟩
      rw [upd_same, List.map_set]
    · subst hσ
      exact s_ret (ev_var rfl) fun H3 e3 => gv p zs' H3 hp (ex.trans e3) (e3 _ _ hz') (by omega)
/-! law -/
def spLaw (K : PySem.W.Frag) : Sp := fun vs H Q _ => ∃ (a : Addr) (ns : List Int), vs = [.ref a] ∧ SqL K H a (ns.map V.int) ∧ ns.length ≤ 63 ∧ ∀ H', Q (.bl true) H'
theorem g_right {σ : L2.St} {H : Hp} {E E2 : XK} {zs : List Int} {p : Addr} {i j k : Nat} (hi : σ[i]? = some (some (.ref p))) (hj : σ[j]? = some (some (.int (k : Int)))) (hp : H p = some (.lst (zs.map V.int))) (hk : k < zs.length) (hk2 : k ≤ 100) : ED K (tCall (spBx 640 1000) [] E (tCons (tCall (spBox K) [] E2 (tCons (tVar i) (tCons (tVar j) tNil))) tNil)) σ H (.bool true) := fun H1 e1 Q q =>
  ⟨.ref p, hi, .int (k : Int), hj, p, zs, k, rfl, sq_of (e1 _ _ hp), hk, hk2, fun pb H2 hpb e2 hb => ⟨pb, 0, rfl, by decide, hb, fun H3 x3 => q _ H3 (x3.exN e2 hpb) (.bl true)⟩⟩
-- 0 _law_script, 1 _law_lots_so, 2 _law_k
theorem sc_law : FnScope ["_law_script", "_law_lots_so", "_law_k"] ["_law_script"] (defScope s_law) := C8.fnScope_by (by decide +kernel)
theorem law_body (T : Txt K mg) (f : Addr) (cdv : Value) (A : Around) (outer : List Env) (s : Shared) (H : Hp) (vs : List V) (Q : VK) (E : XK) (hr : Room 16 (A.deeper (envOfC "law" (defScope s_law) s.heap.objs.size f cdv))) (h : spLaw K vs H Q E) :
    ∃ t, PSs (cxOf CX0 P w K mg base ["_law_script", "_law_lots_so", "_law_k"] "law" (defScope s_law) f cdv A outer s H E).nox (defBody s_law) t ∧ t { nx := fun _ H' => Q .non H', rt := Q } (start ["_law_script", "_law_lots_so", "_law_k"] vs) H := by
  obtain ⟨a, ns, rfl, ha, hl, gv⟩ := h
  refine ⟨_, (pss_cons (ps_if (pt_not (pt_val (pe_c0 (c_law_by_hand_right T) hr (by decide) (by rfl)))) (pss_one (ps_ret pe_bl)) pss_nil)
  (pss_cons (ps_set (i := 1) sc_law.nd rfl (by first | exact Or.inl rfl | exact Or.inr rfl) (C8.pe_c (c_law_cells T) hr (by decide) (by rfl) (pa_cons (pv 0) (pa_cons pe_int pa_nil))))
  (pss_one (ps_ret (pe_callB (k_all K rfl rfl) (by rfl) T.z_all (by decide +kernel) (pa_cons (pe_lc (own := [("_law_k", 2)]) rfl sc_law.nd (pi_range1 (by rfl) T.z_range (pa_cons (pe_callB (k_len K rfl) (by rfl) T.z_len (by decide +kernel) (pa_cons (pv 1) pa_nil)) pa_nil)) (blkOk_by (by kernel_rfl)) (fun _ _ _ _ _ => (pg_name (i := 2) sc_law.nd rfl (by first | exact Or.inl rfl | exact Or.inr rfl))) (fun _ _ _ _ _ => pts_nil) (fun _ _ _ _ _ => (C8.pe_c (c_law_right T) hr (by decide) (by rfl) (pa_cons (C8.pe_c (c_law_box T) hr (by decide) (by rfl) (pa_cons (pv 1) (pa_cons (pv 2) pa_nil))) pa_nil)))) pa_nil)))))), ?_⟩
  refine q_when (b := false) (et_is (et_not (g_testB (g_call (K := K) a_nil (spD_use () trivial)))) rfl) (fun h => nomatch h) fun _ H1 e1 => ?_
  refine ⟨.ref a, rfl, a, ns, rfl, ex_l e1 ha, hl, fun p zs H2 hp e2 hz hz3 => ?_⟩
  refine s_retD (K := K) (d := .bool (((List.range zs.length).map fun _ => true).all id)) (g_all (bs := (List.range zs.length).map fun _ => true) (EL.toS ((l_lcI (xs := List.range zs.length) (fun _ => true) (fun _ => .bool true) (iv_range (n := zs.length) (a_cons ((g_lenL (es_old (ev_var rfl) (sq_of hz) (dts_ints zs))).is ?_) a_nil) (by omega)) (fun _ => trivial) (by rw [List.length_range]; omega) fun k hk v3 H3 e3 h3 => ?_).is ?_))) fun v4 H4 e4 h4 => ?_
  · rw [List.length_map]
  · subst h3
    rw [List.mem_range] at hk
    exact trn_name rfl yes_t fun _ => g_right rfl rfl (e3 _ _ hz) hk (by omega)
  · rw [made_all, List.map_map]; rfl
  · rw [h4.boolV, show ((List.range zs.length).map fun _ => true).all id = true from by simp]
    exact gv H4
end
end K77
set_option maxHeartbeats 0
/-! The end: the head's facts meet the walk. -/
namespace K77
open PySem PySem.Spec PyProof.Rows L2
theorem law_ok {P : Program} {w : World} {K : PySem.W.Frag} {mg : Str → Option Value} {base : Heap} {f : Addr} {fd : FuncData} (T : Txt K mg) (F : FnP K "law" s_law [] f fd) : FnOk P w K mg base CX0 17 f fd ["_law_script"] (spLaw K) :=
  F.ok sc_law (fun vs H Q E h => by obtain ⟨_, _, rfl, _⟩ := h; rfl) fun cdv A outer s H vs Q E hr h => by
    obtain ⟨t, h1, h2⟩ := law_body (base := base) T f cdv A outer s H vs Q E hr h
    exact ⟨t, h1.nox, h2⟩
theorem facts {P : Program} {w : World} {K : PySem.W.Frag} {h : Heap} {mg : Str → Option Value} {f : Addr} (X : K.In h) (G : h.Ns mainGlobals mg) (hfa : mg ("law" : Str) = some (.ref f)) (c : He.SaysD fa fn K) :
    ∃ fd : FuncData, (∀ (s : Shared) (v : Value), BindsTo s fd ⟨[v], []⟩ [("_law_script", v)]) ∧ ∀ base : Heap, K.In base → base.Ns mainGlobals mg → FnOk P w K mg base CX0 17 f fd ["_law_script"] (spLaw K) := by
  have T := txt_of X G c
  obtain ⟨f', fd, F, g⟩ := T.d_law.ex
  have e := hfa.symm.trans g
  cases e
  have b := FunD.bindsA (ps := ["_law_script"]) F fun _ _ _ _ _ _ us hl => match us, hl with | [_], _ => rfl
  exact ⟨fd, fun s v => b s [v] rfl, fun base _ _ => law_ok T F⟩
end K77
open PySem PySem.W PySem.Calls PyProof.Rows
theorem PySem.Challenge.cw_lastpasted_k77_whole_one_photo_of_all_bi_holds : PySem.Challenge.rw_lastpasted_k77_whole_one_photo_of_all_bi.Holds := by
  w_on; o_law
  refine HandSHeadRun.head_any (r := OpenLaw.row PySem.Challenge.rw_lastpasted_k77_whole_one_photo_of_all_bi) (q := view (OpenLaw.row PySem.Challenge.rw_lastpasted_k77_whole_one_photo_of_all_bi).prog [68]) (H := K77.hk) (ob := K77.ob) (M := 9000) (loose := K77.loose)
    (d := HandSHeadRun.topDef (OpenLaw.row PySem.Challenge.rw_lastpasted_k77_whole_one_photo_of_all_bi).prog 68) (kwd := []) K77.ob_eq
    (by kernel_rfl) (fun s => by kernel_rfl) K77.run (by kernel_rfl) (by kernel_rfl) (by kernel_rfl) (by rfl) (by first | assumption | decide +kernel) (by decide +kernel) ⟨rfl, rfl, rfl, rfl, rfl, by decide +kernel⟩ ?hw ?hc
  case hw => w_witness2
  case hc =>
    refine L2.walk_ofE (l := PySem.Challenge.rw_lastpasted_k77_whole_one_photo_of_all_bi) (n := 63) (k := 17) (x := "_law_script") (CX := L2.CX0) rfl (by decide) (by kernel_rfl) ⟨rfl, by decide, by decide⟩ ?F (fun _ _ _ _ z => z)
    intro w mg fa h Y G hmg0
    obtain ⟨K, KX, c⟩ := Y
    have hmg : mg ("law" : PySem.Str) = some (.ref fa) := by
      have e : (HandSHeadRun.topDef (OpenLaw.row PySem.Challenge.rw_lastpasted_k77_whole_one_photo_of_all_bi).prog 68).name = ("law" : PySem.Str) := by kernel_rfl
      rw [← e]
      exact hmg0
    obtain ⟨fd, hb, hF⟩ := K77.facts (P := (PySem.Challenge.rw_lastpasted_k77_whole_one_photo_of_all_bi).prog) (w := w) KX G hmg c
    exact ⟨K, fd, K77.spLaw K, KX, hb, fun H a ns hl _ hS => ⟨a, ns, rfl, hS, hl, fun _ => rfl⟩, hF⟩
