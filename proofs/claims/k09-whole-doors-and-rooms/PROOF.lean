import PyProof.Rows.All
import Wide.All
import OpenK.AllK
import Wide.FinOn
import KE.KStateDown
import Lean
import HandS.Base
import HandS.Call
import HandS.Ends
import HandS.More
import HandS.Words
import HandS.WordsExc
import HandS.Defaults
import HandS.Head0
import HandS.Head1
import HandS.Head2
import HandS.HeadEnd
import HandS.HeadHook1
import HandS.HeadHook2
import HandS.ForMost
import HandS.Walk
import HandS.Zip
import HandS.Rev
import HandS.Style
import HandS.TupAny
import HandS.IsInst
import HandS.Star
import HandS.Deep
import KE.SortData
import HandS.Strs
import HandS.SetFor
import HandS.TupSets
import KE.GoesEnum
import KE.GoesMore
import PyProof.Tail
import HandS.Flow
import PySem.Challenge.RW_undermasters_k09_whole_doors_and_rooms
set_option Elab.async false
set_option linter.all false
set_option maxRecDepth 100000
set_option maxHeartbeats 0
namespace Hd
open PySem PySem.Spec PyProof.Rows L2
def top (i : Nat) : Stmt := PySem.Challenge.pw_undermasters_k09_whole_doors_and_rooms.main.body.getD i (.Pass ⟨0, 0, 0, 0⟩)
abbrev s_is_number : Stmt := top 5
abbrev s_is_name : Stmt := top 6
abbrev s_tupled : Stmt := top 7
abbrev s_rises : Stmt := top 8
abbrev s_set_of : Stmt := top 9
abbrev s_product : Stmt := top 10
abbrev s_door_for : Stmt := top 12
abbrev s_pin_that_bars : Stmt := top 13
abbrev s_opens : Stmt := top 14
abbrev s_both : Stmt := top 15
abbrev s_how_many_open : Stmt := top 16
abbrev s_meetings : Stmt := top 17
abbrev s_how_many_some : Stmt := top 18
abbrev s_how_many_all : Stmt := top 19
abbrev s_choose : Stmt := top 20
abbrev s_how_many_just : Stmt := top 21
abbrev s_nth_opener : Stmt := top 22
abbrev s_nth_of_some : Stmt := top 23
abbrev s_is_depths : Stmt := top 25
abbrev s_is_key : Stmt := top 26
abbrev s_is_free : Stmt := top 27
abbrev s_free_pins : Stmt := top 28
abbrev s_barring_pin : Stmt := top 29
abbrev s_opens_room : Stmt := top 30
abbrev s_clash : Stmt := top 31
abbrev s_is_person : Stmt := top 35
abbrev s_is_room : Stmt := top 36
abbrev s_is_hall : Stmt := top 37
abbrev s_keys_in : Stmt := top 38
abbrev s_sets_in : Stmt := top 39
abbrev s_check : Stmt := top 40
abbrev s_openers : Stmt := top 41
abbrev s_who_opens : Stmt := top 42
abbrev s_strangers : Stmt := top 43
abbrev s_strange : Stmt := top 44
abbrev s_is_kept : Stmt := top 45
abbrev s_clashes : Stmt := top 47
abbrev s_is_quiet : Stmt := top 48
abbrev s_L_box : Stmt := top 50
abbrev s_L_take : Stmt := top 51
abbrev s_L_cells : Stmt := top 52
abbrev s_L_same : Stmt := top 53
abbrev s_L_deep : Stmt := top 54
abbrev s_L_tooth : Stmt := top 55
abbrev s_L_chief : Stmt := top 56
abbrev s_L_stars : Stmt := top 57
abbrev s_L_lets : Stmt := top 58
abbrev s_L_loud : Stmt := top 59
abbrev s_L_teeth : Stmt := top 60
abbrev s_L_case_right : Stmt := top 61
abbrev s_L_hall_right : Stmt := top 62
abbrev s_L_hand_right : Stmt := top 63
abbrev s_L_right : Stmt := top 64
abbrev s_law : Stmt := top 65
def d_is_number : He.DefD := ⟨("is_number", none), "is_number", "is_number", defArgs s_is_number, defBody s_is_number, defScope s_is_number, [], []⟩
def d_is_name : He.DefD := ⟨("is_name", none), "is_name", "is_name", defArgs s_is_name, defBody s_is_name, defScope s_is_name, [], []⟩
def d_tupled : He.DefD := ⟨("tupled", none), "tupled", "tupled", defArgs s_tupled, defBody s_tupled, defScope s_tupled, [], []⟩
def d_rises : He.DefD := ⟨("rises", none), "rises", "rises", defArgs s_rises, defBody s_rises, defScope s_rises, [], []⟩
def d_set_of : He.DefD := ⟨("set_of", none), "set_of", "set_of", defArgs s_set_of, defBody s_set_of, defScope s_set_of, [], []⟩
def d_product : He.DefD := ⟨("product", none), "product", "product", defArgs s_product, defBody s_product, defScope s_product, [], []⟩
def d_door_for : He.DefD := ⟨("door_for", none), "door_for", "door_for", defArgs s_door_for, defBody s_door_for, defScope s_door_for, [], []⟩
def d_pin_that_bars : He.DefD := ⟨("pin_that_bars", none), "pin_that_bars", "pin_that_bars", defArgs s_pin_that_bars, defBody s_pin_that_bars, defScope s_pin_that_bars, [], []⟩
def d_opens : He.DefD := ⟨("opens", none), "opens", "opens", defArgs s_opens, defBody s_opens, defScope s_opens, [], []⟩
def d_both : He.DefD := ⟨("both", none), "both", "both", defArgs s_both, defBody s_both, defScope s_both, [], []⟩
def d_how_many_open : He.DefD := ⟨("how_many_open", none), "how_many_open", "how_many_open", defArgs s_how_many_open, defBody s_how_many_open, defScope s_how_many_open, [], []⟩
def d_meetings : He.DefD := ⟨("meetings", none), "meetings", "meetings", defArgs s_meetings, defBody s_meetings, defScope s_meetings, [], []⟩
def d_how_many_some : He.DefD := ⟨("how_many_some", none), "how_many_some", "how_many_some", defArgs s_how_many_some, defBody s_how_many_some, defScope s_how_many_some, [], []⟩
def d_how_many_all : He.DefD := ⟨("how_many_all", none), "how_many_all", "how_many_all", defArgs s_how_many_all, defBody s_how_many_all, defScope s_how_many_all, [], []⟩
def d_choose : He.DefD := ⟨("choose", none), "choose", "choose", defArgs s_choose, defBody s_choose, defScope s_choose, [], []⟩
def d_how_many_just : He.DefD := ⟨("how_many_just", none), "how_many_just", "how_many_just", defArgs s_how_many_just, defBody s_how_many_just, defScope s_how_many_just, [], []⟩
def d_nth_opener : He.DefD := ⟨("nth_opener", none), "nth_opener", "nth_opener", defArgs s_nth_opener, defBody s_nth_opener, defScope s_nth_opener, [], []⟩
def d_nth_of_some : He.DefD := ⟨("nth_of_some", none), "nth_of_some", "nth_of_some", defArgs s_nth_of_some, defBody s_nth_of_some, defScope s_nth_of_some, [], []⟩
def d_is_depths : He.DefD := ⟨("is_depths", none), "is_depths", "is_depths", defArgs s_is_depths, defBody s_is_depths, defScope s_is_depths, [], []⟩
def d_is_key : He.DefD := ⟨("is_key", none), "is_key", "is_key", defArgs s_is_key, defBody s_is_key, defScope s_is_key, [], []⟩
def d_is_free : He.DefD := ⟨("is_free", none), "is_free", "is_free", defArgs s_is_free, defBody s_is_free, defScope s_is_free, [], []⟩
def d_free_pins : He.DefD := ⟨("free_pins", none), "free_pins", "free_pins", defArgs s_free_pins, defBody s_free_pins, defScope s_free_pins, [], []⟩
def d_barring_pin : He.DefD := ⟨("barring_pin", none), "barring_pin", "barring_pin", defArgs s_barring_pin, defBody s_barring_pin, defScope s_barring_pin, [], []⟩
def d_opens_room : He.DefD := ⟨("opens_room", none), "opens_room", "opens_room", defArgs s_opens_room, defBody s_opens_room, defScope s_opens_room, [], []⟩
def d_clash : He.DefD := ⟨("clash", none), "clash", "clash", defArgs s_clash, defBody s_clash, defScope s_clash, [], []⟩
def d_is_person : He.DefD := ⟨("is_person", none), "is_person", "is_person", defArgs s_is_person, defBody s_is_person, defScope s_is_person, [], []⟩
def d_is_room : He.DefD := ⟨("is_room", none), "is_room", "is_room", defArgs s_is_room, defBody s_is_room, defScope s_is_room, [], []⟩
def d_is_hall : He.DefD := ⟨("is_hall", none), "is_hall", "is_hall", defArgs s_is_hall, defBody s_is_hall, defScope s_is_hall, [], []⟩
def d_keys_in : He.DefD := ⟨("keys_in", none), "keys_in", "keys_in", defArgs s_keys_in, defBody s_keys_in, defScope s_keys_in, [], []⟩
def d_sets_in : He.DefD := ⟨("sets_in", none), "sets_in", "sets_in", defArgs s_sets_in, defBody s_sets_in, defScope s_sets_in, [], []⟩
def d_check : He.DefD := ⟨("check", none), "check", "check", defArgs s_check, defBody s_check, defScope s_check, [], []⟩
def d_openers : He.DefD := ⟨("openers", none), "openers", "openers", defArgs s_openers, defBody s_openers, defScope s_openers, [], []⟩
def d_who_opens : He.DefD := ⟨("who_opens", none), "who_opens", "who_opens", defArgs s_who_opens, defBody s_who_opens, defScope s_who_opens, [], []⟩
def d_strangers : He.DefD := ⟨("strangers", none), "strangers", "strangers", defArgs s_strangers, defBody s_strangers, defScope s_strangers, [], []⟩
def d_strange : He.DefD := ⟨("strange", none), "strange", "strange", defArgs s_strange, defBody s_strange, defScope s_strange, [], []⟩
def d_is_kept : He.DefD := ⟨("is_kept", none), "is_kept", "is_kept", defArgs s_is_kept, defBody s_is_kept, defScope s_is_kept, [], []⟩
def d_clashes : He.DefD := ⟨("clashes", none), "clashes", "clashes", defArgs s_clashes, defBody s_clashes, defScope s_clashes, [], []⟩
def d_is_quiet : He.DefD := ⟨("is_quiet", none), "is_quiet", "is_quiet", defArgs s_is_quiet, defBody s_is_quiet, defScope s_is_quiet, [], []⟩
def d_L_box : He.DefD := ⟨("_law_box", none), "_law_box", "_law_box", defArgs s_L_box, defBody s_L_box, defScope s_L_box, [], []⟩
def d_L_take : He.DefD := ⟨("_law_take", none), "_law_take", "_law_take", defArgs s_L_take, defBody s_L_take, defScope s_L_take, [], []⟩
def d_L_cells : He.DefD := ⟨("_law_cells", none), "_law_cells", "_law_cells", defArgs s_L_cells, defBody s_L_cells, defScope s_L_cells, [], []⟩
def d_L_same : He.DefD := ⟨("_law_same", none), "_law_same", "_law_same", defArgs s_L_same, defBody s_L_same, defScope s_L_same, [], []⟩
def d_L_deep : He.DefD := ⟨("_law_deep", none), "_law_deep", "_law_deep", defArgs s_L_deep, defBody s_L_deep, defScope s_L_deep, [], []⟩
def d_L_tooth : He.DefD := ⟨("_law_tooth", none), "_law_tooth", "_law_tooth", defArgs s_L_tooth, defBody s_L_tooth, defScope s_L_tooth, [], []⟩
def d_L_chief : He.DefD := ⟨("_law_chief", none), "_law_chief", "_law_chief", defArgs s_L_chief, defBody s_L_chief, defScope s_L_chief, [], []⟩
def d_L_stars : He.DefD := ⟨("_law_stars", none), "_law_stars", "_law_stars", defArgs s_L_stars, defBody s_L_stars, defScope s_L_stars, [], []⟩
def d_L_lets : He.DefD := ⟨("_law_lets", none), "_law_lets", "_law_lets", defArgs s_L_lets, defBody s_L_lets, defScope s_L_lets, [], []⟩
def d_L_loud : He.DefD := ⟨("_law_loud", none), "_law_loud", "_law_loud", defArgs s_L_loud, defBody s_L_loud, defScope s_L_loud, [], []⟩
def d_L_teeth : He.DefD := ⟨("_law_teeth", none), "_law_teeth", "_law_teeth", defArgs s_L_teeth, defBody s_L_teeth, defScope s_L_teeth, [], []⟩
def d_L_case_right : He.DefD := ⟨("_law_case_right", none), "_law_case_right", "_law_case_right", defArgs s_L_case_right, defBody s_L_case_right, defScope s_L_case_right, [], []⟩
def d_L_hall_right : He.DefD := ⟨("_law_hall_right", none), "_law_hall_right", "_law_hall_right", defArgs s_L_hall_right, defBody s_L_hall_right, defScope s_L_hall_right, [], []⟩
def d_L_hand_right : He.DefD := ⟨("_law_hand_right", none), "_law_hand_right", "_law_hand_right", defArgs s_L_hand_right, defBody s_L_hand_right, defScope s_L_hand_right, [], []⟩
def d_L_right : He.DefD := ⟨("_law_right", none), "_law_right", "_law_right", defArgs s_L_right, defBody s_L_right, defScope s_L_right, [], []⟩
def d_law : He.DefD := ⟨("law", none), "law", "law", defArgs s_law, defBody s_law, defScope s_law, [], []⟩
def fn : List He.DefD := [d_is_number, d_is_name, d_tupled, d_rises, d_set_of, d_product, d_door_for, d_pin_that_bars, d_opens, d_both, d_how_many_open, d_meetings, d_how_many_some, d_how_many_all, d_choose, d_how_many_just, d_nth_opener, d_nth_of_some, d_is_depths, d_is_key, d_is_free, d_free_pins, d_barring_pin, d_opens_room, d_clash, d_is_person, d_is_room, d_is_hall, d_keys_in, d_sets_in, d_check, d_openers, d_who_opens, d_strangers, d_strange, d_is_kept, d_clashes, d_is_quiet, d_L_box, d_L_take, d_L_cells, d_L_same, d_L_deep, d_L_tooth, d_L_chief, d_L_stars, d_L_lets, d_L_loud, d_L_teeth, d_L_case_right, d_L_hall_right, d_L_hand_right, d_L_right, d_law]
def fa : List He.Fa := [.glo "is_number", .glo "is_name", .glo "tupled", .glo "rises", .glo "set_of", .glo "product", .glo "door_for", .glo "pin_that_bars", .glo "opens", .glo "both", .glo "how_many_open", .glo "meetings", .glo "how_many_some", .glo "how_many_all", .glo "choose", .glo "how_many_just", .glo "nth_opener", .glo "nth_of_some", .glo "is_depths", .glo "is_key", .glo "is_free", .glo "free_pins", .glo "barring_pin", .glo "opens_room", .glo "clash", .glo "is_person", .glo "is_room", .glo "is_hall", .glo "keys_in", .glo "sets_in", .glo "check", .glo "openers", .glo "who_opens", .glo "strangers", .glo "strange", .glo "is_kept", .glo "clashes", .glo "is_quiet", .glo "_law_box", .glo "_law_take", .glo "_law_cells", .glo "_law_same", .glo "_law_deep", .glo "_law_tooth", .glo "_law_chief", .glo "_law_stars", .glo "_law_lets", .glo "_law_loud", .glo "_law_teeth", .glo "_law_case_right", .glo "_law_hall_right", .glo "_law_hand_right", .glo "_law_right", .glo "law", .free "abs", .free "all", .free "bool", .free "dict", .free "enumerate", .free "int", .free "isinstance", .free "len", .free "list", .free "min", .free "range", .free "reversed", .free "set", .free "sorted", .free "str", .free "sum", .free "tuple", .free "zip", .str "LETTERS" "abcdefghijklmnopqrstuvwxyz", .int "PAIR" 2, .int "TRIPLE" 3]
def names0 : List PySem.Str := ["NoName", "NoNumber", "LETTERS", "is_number", "is_name", "tupled", "rises", "set_of", "product", "door_for", "pin_that_bars", "opens", "both", "how_many_open", "meetings", "how_many_some", "how_many_all", "choose", "how_many_just", "nth_opener", "nth_of_some", "is_depths", "is_key", "is_free", "free_pins", "barring_pin", "opens_room", "clash", "PAIR", "TRIPLE"]
def names1 : List PySem.Str := ["is_person", "is_room", "is_hall", "keys_in", "sets_in", "check", "openers", "who_opens", "strangers", "strange", "is_kept", "clashes", "is_quiet", "_law_box", "_law_take", "_law_cells", "_law_same", "_law_deep", "_law_tooth", "_law_chief", "_law_stars", "_law_lets", "_law_loud", "_law_teeth", "_law_case_right", "_law_hall_right", "_law_hand_right", "_law_right"]
def names : List PySem.Str := names0 ++ names1
abbrev R : PySem.W.OpenRow := PySem.W.OpenLaw.row PySem.Challenge.rw_undermasters_k09_whole_doors_and_rooms
abbrev hk : PySem.W.Hook := He.hookD 4 fa fn
def ob (s : PySem.W.SharedT) : He.AlD := He.obsDG 4 fa fn (HandSHeadRun.getT s)
theorem ob_eq (s : PySem.W.SharedT) : ob s = hk.obs s.abs := He.obsDG_eq (HandSHeadRun.getT_eq s)
end Hd
set_option maxHeartbeats 0
namespace Hd
open PySem PySem.Spec PyProof.Rows L2
theorem run (w : World) : HandSHeadRun.RunEq R (PySem.W.view R.prog [65]) hk ob 4000 names w := by
  intro os
  kernel_rfl
end Hd
set_option maxHeartbeats 4000000
/-! U1: values as data over HandS: an expression denotes a function from slots to data. -/
namespace U
open PySem PySem.Spec PyProof.Rows L2

/-! ### heaps -/
def Ex (H H' : Hp) : Prop := ∀ a o, H a = some o → H' a = some o
theorem Ex.refl (H : Hp) : Ex H H := fun _ _ h => h
theorem Ex.trans {H H1 H2 : Hp} (a : Ex H H1) (b : Ex H1 H2) : Ex H H2 := fun x o h => b x o (a x o h)
theorem Ex.new {H : Hp} {p : Addr} {o : HO} (h : H p = none) : Ex H (upd H p o) := fun a u e => by
  rw [upd_ne (ne_of_none e h)]; exact e
theorem Ex.mut {H H' : Hp} {p : Addr} {o : HO} (e : Ex H H') (h : H p = none) : Ex H (upd H' p o) := fun a u ha => by
  rw [upd_ne (ne_of_none ha h)]; exact e a u ha
theorem Ex.back {H H' : Hp} {p : Addr} (e : Ex H H') (h : H' p = none) : H p = none := by
  cases h1 : H p with
  | none => rfl
  | some o => rw [e p o h1] at h; cases h
theorem Ex.upd2 {F H : Hp} {p : Addr} {o : HO} (e : Ex F H) : Ex (upd F p o) (upd H p o) := fun a u ha => by
  by_cases h : a = p
  · subst h; rw [upd_same] at ha ⊢; exact ha
  · rw [upd_ne h] at ha ⊢; exact e a u ha
theorem sz_ok {n : Nat} (h : n ≤ 100000) : n ≤ sizeLine := Nat.le_trans h (by decide)
theorem sz_lt {n : Nat} (h : n < 100000) : n < sizeLine := Nat.lt_of_lt_of_le h (by decide)

/-- the frozen part F of the heap H has grown: nothing tracked has changed, what is newly frozen is new -/
structure Grow (F H F' H' : Hp) : Prop where
  ff : Ex F F'
  fh : Ex F' H'
  hh : Ex H H'
  nw : ∀ a o, F' a = some o → F a = some o ∨ H a = none
theorem Grow.refl {F H : Hp} (h : Ex F H) : Grow F H F H := ⟨Ex.refl F, h, Ex.refl H, fun _ _ e => .inl e⟩
theorem Grow.trans {F H F1 H1 F2 H2 : Hp} (g : Grow F H F1 H1) (k : Grow F1 H1 F2 H2) : Grow F H F2 H2 :=
  ⟨g.ff.trans k.ff, k.fh, g.hh.trans k.hh, fun a o e => by
    rcases k.nw a o e with z | z
    · exact g.nw a o z
    · exact .inr (g.hh.back z)⟩
theorem Grow.laid {F H : Hp} (h : Ex F H) {p : Addr} {o : HO} (n : H p = none) : Grow F H (upd F p o) (upd H p o) :=
  ⟨Ex.new (h.back n), h.upd2, Ex.new n, fun a u e => by
    by_cases q : a = p
    · subst q; exact .inr n
    · rw [upd_ne q] at e; exact .inl e⟩
/-- something new that stays unfrozen -/
theorem Grow.side {F H : Hp} (h : Ex F H) {p : Addr} {o : HO} (n : H p = none) : Grow F H F (upd H p o) :=
  ⟨Ex.refl F, h.trans (Ex.new n), Ex.new n, fun a u e => .inl e⟩
/-- .. changed -/
theorem Grow.mut {F H F' H' : Hp} (g : Grow F H F' H') {p : Addr} {o : HO} (n : H p = none) (n' : F' p = none) : Grow F H F' (upd H' p o) :=
  ⟨g.ff, g.fh.mut n', g.hh.mut n, g.nw⟩
/-- .. frozen -/
theorem Grow.freeze {F H F' H' : Hp} (g : Grow F H F' H') {p : Addr} {o : HO} (n : H p = none) (n' : F' p = none) (h : H' p = some o) : Grow F H (upd F' p o) H' :=
  ⟨g.ff.trans (Ex.new n'), fun a u e => by
    by_cases q : a = p
    · subst q; rw [upd_same] at e; cases e; exact h
    · rw [upd_ne q] at e; exact g.fh a u e, g.hh, fun a u e => by
    by_cases q : a = p
    · subst q; exact .inr n
    · rw [upd_ne q] at e; exact g.nw a u e⟩
theorem Grow.free {F H F' H' : Hp} (g : Grow F H F' H') {p : Addr} {o : HO} (hF : F p = none) (hH : H p = some o) : F' p = none := by
  cases e : F' p with
  | none => rfl
  | some u =>
    rcases g.nw p u e with z | z
    · rw [hF] at z; cases z
    · rw [hH] at z; cases z

/-! ### data -/
/-- a tuple, tracked, maybe with its object known -/
def IsT (F : Hp) (a : Addr) (xs : List V) : Prop := F a = some (.tup xs) ∨ ∃ o : Obj, o.dict = none ∧ F a = some (.frz o (.tup xs))
theorem IsT.ex {F F' : Hp} {a : Addr} {xs : List V} (e : Ex F F') (h : IsT F a xs) : IsT F' a xs := by
  rcases h with h | ⟨o, h1, h2⟩
  · exact .inl (e _ _ h)
  · exact .inr ⟨o, h1, e _ _ h2⟩
theorem IsT.sq {K : PySem.W.Frag} {F H : Hp} {a : Addr} {xs : List V} (h : IsT F a xs) (e : Ex F H) : SqT K H a xs := by
  rcases h with h | ⟨o, h1, h2⟩
  · exact .inl (.inl (e _ _ h))
  · exact .inl (.inr ⟨o, e _ _ h2⟩)
mutual
inductive Da (F : Hp) : V → PyData → Prop
  | non : Da F .non .none
  | bl (b : Bool) : Da F (.bl b) (.bool b)
  | int (i : Int) : Da F (.int i) (.int i)
  | str (x : Str) : Da F (.str x) (.str x)
  | lst {a : Addr} {xs : List V} {ds : List PyData} : F a = some (.lst xs) → DaAll F xs ds → Da F (.ref a) (.list ds)
  | tup {a : Addr} {xs : List V} {ds : List PyData} : IsT F a xs → DaAll F xs ds → Da F (.ref a) (.tuple ds)
  | dict {a : Addr} {kvs : List (Key × V)} {ds : List (PyData × PyData)} : F a = some (.dK kvs) → DaKv F kvs ds → Da F (.ref a) (.dict ds)
inductive DaAll (F : Hp) : List V → List PyData → Prop
  | nil : DaAll F [] []
  | cons {v : V} {vs : List V} {d : PyData} {ds : List PyData} : Da F v d → DaAll F vs ds → DaAll F (v :: vs) (d :: ds)
inductive DaKv (F : Hp) : List (Key × V) → List (PyData × PyData) → Prop
  | nil : DaKv F [] []
  | cons {x : Str} {v : V} {d : PyData} {kvs : List (Key × V)} {ds : List (PyData × PyData)} : Da F v d → DaKv F kvs ds → DaKv F ((.inr x, v) :: kvs) ((.str x, d) :: ds)
end
mutual
theorem Da.ex {F F' : Hp} (e : Ex F F') : ∀ {v : V} {d : PyData}, Da F v d → Da F' v d
  | _, _, .non => .non
  | _, _, .bl b => .bl b
  | _, _, .int i => .int i
  | _, _, .str x => .str x
  | _, _, .lst h k => .lst (e _ _ h) (k.ex e)
  | _, _, .tup h k => .tup (h.ex e) (k.ex e)
  | _, _, .dict h k => .dict (e _ _ h) (k.ex e)
theorem DaAll.ex {F F' : Hp} (e : Ex F F') : ∀ {vs : List V} {ds : List PyData}, DaAll F vs ds → DaAll F' vs ds
  | _, _, .nil => .nil
  | _, _, .cons h k => .cons (h.ex e) (k.ex e)
theorem DaKv.ex {F F' : Hp} (e : Ex F F') : ∀ {vs : List (Key × V)} {ds : List (PyData × PyData)}, DaKv F vs ds → DaKv F' vs ds
  | _, _, .nil => .nil
  | _, _, .cons h k => .cons (h.ex e) (k.ex e)
end
theorem DaAll.length {F : Hp} : ∀ {vs : List V} {ds : List PyData}, DaAll F vs ds → vs.length = ds.length
  | _, _, .nil => rfl
  | _, _, .cons _ k => by rw [List.length_cons, List.length_cons, k.length]
theorem DaAll.app {F : Hp} : ∀ {vs : List V} {ds : List PyData} {ws : List V} {es : List PyData}, DaAll F vs ds → DaAll F ws es → DaAll F (vs ++ ws) (ds ++ es)
  | _, _, _, _, .nil, k => k
  | _, _, _, _, .cons h t, k => .cons h (t.app k)
theorem DaAll.get {F : Hp} : ∀ {vs : List V} {ds : List PyData} {i : Nat} {x : V}, DaAll F vs ds → vs[i]? = some x → ∃ d, ds[i]? = some d ∧ Da F x d
  | _, _, _, _, .nil, e => by simp at e
  | _, _, 0, _, .cons h _, e => by simp at e; subst e; exact ⟨_, by simp, h⟩
  | _, _, i + 1, _, .cons _ k, e => by
    obtain ⟨d, h1, h2⟩ := k.get (i := i) (by simpa using e)
    exact ⟨d, by simpa using h1, h2⟩
theorem DaAll.getD {F : Hp} : ∀ {vs : List V} {ds : List PyData} {i : Nat} {d : PyData}, DaAll F vs ds → ds[i]? = some d → ∃ x, vs[i]? = some x ∧ Da F x d
  | _, _, _, _, .nil, e => by simp at e
  | _, _, 0, _, .cons h _, e => by simp at e; subst e; exact ⟨_, by simp, h⟩
  | _, _, i + 1, _, .cons _ k, e => by
    obtain ⟨d, h1, h2⟩ := k.getD (i := i) (by simpa using e)
    exact ⟨d, by simpa using h1, h2⟩
theorem DaAll.take {F : Hp} : ∀ {vs : List V} {ds : List PyData} (n : Nat), DaAll F vs ds → DaAll F (vs.take n) (ds.take n)
  | _, _, 0, _ => by simp; exact .nil
  | _, _, _ + 1, .nil => .nil
  | _, _, n + 1, .cons h k => .cons h (k.take n)
theorem DaAll.drop {F : Hp} : ∀ {vs : List V} {ds : List PyData} (n : Nat), DaAll F vs ds → DaAll F (vs.drop n) (ds.drop n)
  | _, _, 0, h => h
  | _, _, _ + 1, .nil => .nil
  | _, _, n + 1, .cons _ k => k.drop n
theorem DaAll.rev {F : Hp} : ∀ {vs : List V} {ds : List PyData}, DaAll F vs ds → DaAll F vs.reverse ds.reverse
  | _, _, .nil => .nil
  | _, _, .cons h k => by
    rw [List.reverse_cons, List.reverse_cons]
    exact k.rev.app (.cons h .nil)
theorem DaAll.nilIff {F : Hp} {vs : List V} {ds : List PyData} (h : DaAll F vs ds) : vs = [] ↔ ds = [] := by
  cases h <;> simp
mutual
theorem Da.dp {K : PySem.W.Frag} {F : Hp} : ∀ {v : V} {d : PyData}, Da F v d → d.canLay0 = true → Dp K F v d
  | _, _, .non, _ => .non
  | _, _, .bl b, _ => .bl b
  | _, _, .int i, _ => .int i
  | _, _, .str x, _ => .str x
  | _, _, .lst h k, c => .lst (SqL.of h) (k.dp (by simpa [PyData.canLay0] using c))
  | _, _, .tup h k, c => .tup (h.sq (Ex.refl F)) (k.dp (by simpa [PyData.canLay0] using c))
  | _, _, .dict _ _, c => by simp [PyData.canLay0] at c
theorem DaAll.dp {K : PySem.W.Frag} {F : Hp} : ∀ {vs : List V} {ds : List PyData}, DaAll F vs ds → PyData.canLayAll0 ds = true → DpAll K F vs ds
  | _, _, .nil, _ => .nil
  | _, _, .cons h k, c => by
    rw [PyData.canLayAll0, Bool.and_eq_true] at c
    exact .cons (h.dp c.1) (k.dp c.2)
end

/-! ### slots -/
inductive Cell where
  | dat (d : PyData)
  | own (xs : List PyData)
  | nt (ds : List PyData)
/-- a tuple whose object is known -/
def IsN (F : Hp) (v : V) (ds : List PyData) : Prop := ∃ (a : Addr) (o : Obj) (vs : List V), v = .ref a ∧ o.dict = none ∧ F a = some (.frz o (.tup vs)) ∧ DaAll F vs ds
theorem IsN.ex {F F' : Hp} {v : V} {ds : List PyData} (e : Ex F F') (h : IsN F v ds) : IsN F' v ds := by
  obtain ⟨a, o, vs, h1, h2, h3, h4⟩ := h
  exact ⟨a, o, vs, h1, h2, e _ _ h3, h4.ex e⟩
theorem IsN.da {F : Hp} {v : V} {ds : List PyData} (h : IsN F v ds) : Da F v (.tuple ds) := by
  obtain ⟨a, o, vs, rfl, h2, h3, h4⟩ := h
  exact .tup (.inr ⟨o, h2, h3⟩) h4
abbrev Rho := List (Option Cell)
structure Rep (F H : Hp) (σ : L2.St) (ρ : Rho) : Prop where
  fh : Ex F H
  len : σ.length = ρ.length
  dat : ∀ (i : Nat) (d : PyData), ρ[i]? = some (some (.dat d)) → ∃ v, σ[i]? = some (some v) ∧ Da F v d
  nt : ∀ (i : Nat) (ds : List PyData), ρ[i]? = some (some (.nt ds)) → ∃ v, σ[i]? = some (some v) ∧ IsN F v ds
  own : ∀ (i : Nat) (xs : List PyData), ρ[i]? = some (some (.own xs)) → ∃ p vs, σ[i]? = some (some (.ref p)) ∧ H p = some (.lst vs) ∧ F p = none ∧ DaAll F vs xs
  apart : ∀ (i j : Nat) (xs ys : List PyData) (p : Addr), ρ[i]? = some (some (.own xs)) → ρ[j]? = some (some (.own ys)) → σ[i]? = some (some (.ref p)) → σ[j]? = some (some (.ref p)) → i = j
def OwnNew (H0 : Hp) (σ : L2.St) (ρ : Rho) : Prop := ∀ (i : Nat) (xs : List PyData) (p : Addr), ρ[i]? = some (some (.own xs)) → σ[i]? = some (some (.ref p)) → H0 p = none
section
variable {F H F' H' H0 : Hp} {σ : L2.St} {ρ : Rho}
theorem Rep.grow (R : Rep F H σ ρ) (g : Grow F H F' H') : Rep F' H' σ ρ :=
  ⟨g.fh, R.len, fun i d e => by
    obtain ⟨v, h1, h2⟩ := R.dat i d e
    exact ⟨v, h1, h2.ex g.ff⟩, fun i d e => by
    obtain ⟨v, h1, h2⟩ := R.nt i d e
    exact ⟨v, h1, h2.ex g.ff⟩, fun i xs e => by
    obtain ⟨p, vs, h1, h2, h3, h4⟩ := R.own i xs e
    exact ⟨p, vs, h1, g.hh _ _ h2, g.free h3 h2, h4.ex g.ff⟩, R.apart⟩
theorem getSet {α : Type} {l : List α} {i j : Nat} {x y : α} (h : (l.set i x)[j]? = some y) : (j = i ∧ i < l.length ∧ y = x) ∨ (j ≠ i ∧ l[j]? = some y) := by
  rw [List.getElem?_set] at h
  split at h
  · rename_i e
    split at h
    · cases h; exact .inl ⟨e.symm, by assumption, rfl⟩
    · cases h
  · rename_i e; exact .inr ⟨fun z => e z.symm, h⟩
theorem setGet {α : Type} {l : List α} {i : Nat} {x : α} (h : i < l.length) : (l.set i x)[i]? = some x := by
  rw [List.getElem?_set_self h]
theorem setNe {α : Type} {l : List α} {i j : Nat} {x : α} (h : j ≠ i) : (l.set i x)[j]? = l[j]? := by
  rw [List.getElem?_set_ne (Ne.symm h)]
theorem Rep.setDat (R : Rep F H σ ρ) (i : Nat) {v : V} {d : PyData} (h : Da F v d) : Rep F H (σ.set i (some v)) (ρ.set i (some (.dat d))) := by
  refine ⟨R.fh, by simp [R.len], fun j e he => ?_, fun j e he => ?_, fun j xs he => ?_, fun j k xs ys p h1 h2 h3 h4 => ?_⟩
  · rcases getSet he with ⟨rfl, hl, q⟩ | ⟨hn, q⟩
    · cases q; exact ⟨v, setGet (by rw [R.len]; exact hl), h⟩
    · rw [setNe hn]; exact R.dat j e q
  · rcases getSet he with ⟨rfl, hl, q⟩ | ⟨hn, q⟩
    · cases q
    · rw [setNe hn]; exact R.nt j e q
  · rcases getSet he with ⟨rfl, hl, q⟩ | ⟨hn, q⟩
    · cases q
    · rw [setNe hn]; exact R.own j xs q
  · rcases getSet h1 with ⟨rfl, hl, q⟩ | ⟨hn, q⟩
    · cases q
    · rcases getSet h2 with ⟨rfl, hl, q'⟩ | ⟨hn', q'⟩
      · cases q'
      · rw [setNe hn] at h3; rw [setNe hn'] at h4; exact R.apart _ _ _ _ _ q q' h3 h4
theorem Rep.setNt (R : Rep F H σ ρ) (i : Nat) {v : V} {ds : List PyData} (h : IsN F v ds) : Rep F H (σ.set i (some v)) (ρ.set i (some (.nt ds))) := by
  refine ⟨R.fh, by simp [R.len], fun j e he => ?_, fun j e he => ?_, fun j xs he => ?_, fun j k xs ys p h1 h2 h3 h4 => ?_⟩
  · rcases getSet he with ⟨rfl, hl, q⟩ | ⟨hn, q⟩
    · cases q
    · rw [setNe hn]; exact R.dat j e q
  · rcases getSet he with ⟨rfl, hl, q⟩ | ⟨hn, q⟩
    · cases q; exact ⟨v, setGet (by rw [R.len]; exact hl), h⟩
    · rw [setNe hn]; exact R.nt j e q
  · rcases getSet he with ⟨rfl, hl, q⟩ | ⟨hn, q⟩
    · cases q
    · rw [setNe hn]; exact R.own j xs q
  · rcases getSet h1 with ⟨rfl, hl, q⟩ | ⟨hn, q⟩
    · cases q
    · rcases getSet h2 with ⟨rfl, hl, q'⟩ | ⟨hn', q'⟩
      · cases q'
      · rw [setNe hn] at h3; rw [setNe hn'] at h4; exact R.apart _ _ _ _ _ q q' h3 h4
theorem Rep.setOwn (R : Rep F H σ ρ) (i : Nat) {p : Addr} {vs : List V} {xs : List PyData} (hp : H p = some (.lst vs)) (hf : F p = none) (h : DaAll F vs xs) (hn : ∀ (j : Nat) (ys : List PyData), ρ[j]? = some (some (.own ys)) → j ≠ i → σ[j]? ≠ some (some (.ref p))) :
    Rep F H (σ.set i (some (.ref p))) (ρ.set i (some (.own xs))) := by
  refine ⟨R.fh, by simp [R.len], fun j e he => ?_, fun j e he => ?_, fun j ys he => ?_, fun j k xs1 ys p1 h1 h2 h3 h4 => ?_⟩
  · rcases getSet he with ⟨rfl, hl, q⟩ | ⟨hn', q⟩
    · cases q
    · rw [setNe hn']; exact R.dat j e q
  · rcases getSet he with ⟨rfl, hl, q⟩ | ⟨hn', q⟩
    · cases q
    · rw [setNe hn']; exact R.nt j e q
  · rcases getSet he with ⟨rfl, hl, q⟩ | ⟨hn', q⟩
    · cases q; exact ⟨p, vs, setGet (by rw [R.len]; exact hl), hp, hf, h⟩
    · rw [setNe hn']; exact R.own j ys q
  · rcases getSet h1 with ⟨rfl, hl, q⟩ | ⟨ha, q⟩
    · rcases getSet h2 with ⟨rfl, hl', q'⟩ | ⟨hb, q'⟩
      · rfl
      · rw [setGet (by rw [R.len]; exact hl)] at h3
        cases h3
        rw [setNe hb] at h4
        exact absurd h4 (hn k ys q' hb)
    · rcases getSet h2 with ⟨rfl, hl', q'⟩ | ⟨hb, q'⟩
      · rw [setGet (by rw [R.len]; exact hl')] at h4
        cases h4
        rw [setNe ha] at h3
        exact absurd h3 (hn j xs1 q ha)
      · rw [setNe ha] at h3; rw [setNe hb] at h4; exact R.apart _ _ _ _ _ q q' h3 h4
/-- an owned list is changed -/
theorem Rep.mutOwn (R : Rep F H σ ρ) {i : Nat} {p : Addr} {vs ws : List V} {xs ys : List PyData} (he : ρ[i]? = some (some (.own xs))) (hs : σ[i]? = some (some (.ref p))) (hp : H p = some (.lst vs)) (hf : F p = none) (h : DaAll F ws ys) :
    Rep F (upd H p (.lst ws)) σ (ρ.set i (some (.own ys))) := by
  have hi : i < ρ.length := (List.getElem?_eq_some_iff.mp he).1
  refine ⟨R.fh.mut hf, by simp [R.len], fun j e hj => ?_, fun j e hj => ?_, fun j zs hj => ?_, fun j k xs1 ys1 p1 h1 h2 h3 h4 => ?_⟩
  · rcases getSet hj with ⟨rfl, hl, q⟩ | ⟨hn', q⟩
    · cases q
    · exact R.dat j e q
  · rcases getSet hj with ⟨rfl, hl, q⟩ | ⟨hn', q⟩
    · cases q
    · exact R.nt j e q
  · rcases getSet hj with ⟨rfl, hl, q⟩ | ⟨hn', q⟩
    · cases q; exact ⟨p, ws, hs, upd_same, hf, h⟩
    · obtain ⟨p', vs', h1, h2, h3, h4⟩ := R.own j zs q
      have hne : p' ≠ p := fun z => by subst z; exact hn' (R.apart _ _ _ _ _ q he h1 hs)
      exact ⟨p', vs', h1, by rw [upd_ne hne]; exact h2, h3, h4⟩
  · have g : ∀ (m : Nat) (zs : List PyData), (ρ.set i (some (.own ys)))[m]? = some (some (.own zs)) → ∃ ws', ρ[m]? = some (some (.own ws')) := fun m zs e => by
      rcases getSet e with ⟨rfl, _, _⟩ | ⟨_, q⟩
      · exact ⟨xs, he⟩
      · exact ⟨zs, q⟩
    obtain ⟨_, e1⟩ := g _ _ h1
    obtain ⟨_, e2⟩ := g _ _ h2
    exact R.apart _ _ _ _ _ e1 e2 h3 h4
/-- .. frozen -/
theorem Rep.freeze (R : Rep F H σ ρ) {i : Nat} {p : Addr} {vs : List V} {xs : List PyData} (he : ρ[i]? = some (some (.own xs))) (hs : σ[i]? = some (some (.ref p))) (hp : H p = some (.lst vs)) (hf : F p = none) (h : DaAll F vs xs) :
    Rep (upd F p (.lst vs)) H σ (ρ.set i (some (.dat (.list xs)))) := by
  have ef : Ex F (upd F p (.lst vs)) := Ex.new hf
  refine ⟨fun a u e => ?_, by simp [R.len], fun j e hj => ?_, fun j e hj => ?_, fun j zs hj => ?_, fun j k xs1 ys1 p1 h1 h2 h3 h4 => ?_⟩
  · by_cases q : a = p
    · subst q; rw [upd_same] at e; cases e; exact hp
    · rw [upd_ne q] at e; exact R.fh a u e
  · rcases getSet hj with ⟨rfl, hl, q⟩ | ⟨hn', q⟩
    · cases q; exact ⟨.ref p, hs, .lst upd_same (h.ex ef)⟩
    · obtain ⟨v, h1, h2⟩ := R.dat j e q
      exact ⟨v, h1, h2.ex ef⟩
  · rcases getSet hj with ⟨rfl, hl, q⟩ | ⟨hn', q⟩
    · cases q
    · obtain ⟨v, h1, h2⟩ := R.nt j e q
      exact ⟨v, h1, h2.ex ef⟩
  · rcases getSet hj with ⟨rfl, hl, q⟩ | ⟨hn', q⟩
    · cases q
    · obtain ⟨p', vs', h1, h2, h3, h4⟩ := R.own j zs q
      have hne : p' ≠ p := fun z => by subst z; exact hn' (R.apart _ _ _ _ _ q he h1 hs)
      exact ⟨p', vs', h1, h2, by rw [upd_ne hne]; exact h3, h4.ex ef⟩
  · rcases getSet h1 with ⟨rfl, hl, q⟩ | ⟨ha, q⟩
    · cases q
    · rcases getSet h2 with ⟨rfl, hl', q'⟩ | ⟨hb, q'⟩
      · cases q'
      · exact R.apart _ _ _ _ _ q q' h3 h4
def wipeR (ρ : Rho) : List Nat → Rho
  | [] => ρ
  | v :: vs => (wipeR ρ vs).set v none
theorem Rep.setNone (R : Rep F H σ ρ) (i : Nat) : Rep F H (σ.set i none) (ρ.set i none) := by
  refine ⟨R.fh, by simp [R.len], fun j e he => ?_, fun j e he => ?_, fun j xs he => ?_, fun j k xs ys p h1 h2 h3 h4 => ?_⟩
  · rcases getSet he with ⟨rfl, hl, q⟩ | ⟨hn, q⟩
    · cases q
    · rw [setNe hn]; exact R.dat j e q
  · rcases getSet he with ⟨rfl, hl, q⟩ | ⟨hn, q⟩
    · cases q
    · rw [setNe hn]; exact R.nt j e q
  · rcases getSet he with ⟨rfl, hl, q⟩ | ⟨hn, q⟩
    · cases q
    · rw [setNe hn]; exact R.own j xs q
  · rcases getSet h1 with ⟨rfl, hl, q⟩ | ⟨hn, q⟩
    · cases q
    · rcases getSet h2 with ⟨rfl, hl, q'⟩ | ⟨hn', q'⟩
      · cases q'
      · rw [setNe hn] at h3; rw [setNe hn'] at h4; exact R.apart _ _ _ _ _ q q' h3 h4
theorem Rep.wipe (R : Rep F H σ ρ) : ∀ vs : List Nat, Rep F H (L2.wipe σ vs) (wipeR ρ vs)
  | [] => R
  | v :: vs => (R.wipe vs).setNone v
theorem OwnNew.setDat {v : V} {d : PyData} (o : OwnNew H0 σ ρ) (i : Nat) : OwnNew H0 (σ.set i (some v)) (ρ.set i (some (.dat d))) := by
  intro j xs p h1 h2
  rcases getSet h1 with ⟨rfl, hl, q⟩ | ⟨hn, q⟩
  · cases q
  · rw [setNe hn] at h2; exact o j xs p q h2
theorem OwnNew.setOwn {p : Addr} {xs : List PyData} (o : OwnNew H0 σ ρ) (i : Nat) (hl : σ.length = ρ.length) (n : H0 p = none) : OwnNew H0 (σ.set i (some (.ref p))) (ρ.set i (some (.own xs))) := by
  intro j ys p' h1 h2
  rcases getSet h1 with ⟨rfl, h, q⟩ | ⟨hn, q⟩
  · rw [setGet (by rw [hl]; exact h)] at h2; cases h2; exact n
  · rw [setNe hn] at h2; exact o j ys p' q h2
theorem OwnNew.mutOwn {i : Nat} {xs ys : List PyData} (o : OwnNew H0 σ ρ) (he : ρ[i]? = some (some (.own xs))) : OwnNew H0 σ (ρ.set i (some (.own ys))) := by
  intro j zs p h1 h2
  rcases getSet h1 with ⟨rfl, h, q⟩ | ⟨hn, q⟩
  · exact o j xs p he h2
  · exact o j zs p q h2
theorem OwnNew.freeze {i : Nat} {d : PyData} (o : OwnNew H0 σ ρ) : OwnNew H0 σ (ρ.set i (some (.dat d))) := by
  intro j zs p h1 h2
  rcases getSet h1 with ⟨rfl, h, q⟩ | ⟨hn, q⟩
  · cases q
  · exact o j zs p q h2
end
end U
set_option maxHeartbeats 4000000
/-! U2: expressions. -/
namespace U
open PySem PySem.Spec PyProof.Rows L2

abbrev SE := Rho → Option PyData
abbrev ST := Rho → Option Bool
abbrev SA := Rho → Option (List PyData)

/-! ### functions of slots -/
def vE (i : Nat) : SE := fun ρ => match ρ[i]? with
  | some (some (.dat d)) => some d
  | some (some (.nt ds)) => some (.tuple ds)
  | _ => none
def cE (d : PyData) : SE := fun _ => some d
def op1 (h : PyData → Option PyData) (f : SE) : SE := fun ρ => (f ρ).bind h
def op2 (h : PyData → PyData → Option PyData) (f g : SE) : SE := fun ρ => (f ρ).bind fun x => (g ρ).bind fun y => h x y
def asB : PyData → Option Bool
  | .bool b => some b
  | _ => none
def tstE (f : SE) : ST := fun ρ => (f ρ).bind asB
def andT (s t : ST) : ST := fun ρ => (s ρ).bind fun b => if b = true then t ρ else some false
def orT (s t : ST) : ST := fun ρ => (s ρ).bind fun b => if b = true then some true else t ρ
def notT (s : ST) : ST := fun ρ => (s ρ).map fun b => !b
def yesT : ST := fun _ => some true
def andE (f g : SE) : SE := fun ρ => (tstE f ρ).bind fun b => if b = true then g ρ else some (.bool false)
def orE (f g : SE) : SE := fun ρ => (tstE f ρ).bind fun b => if b = true then some (.bool true) else g ρ
def notE (f : SE) : SE := fun ρ => (tstE f ρ).map fun b => .bool (!b)
def ifE (t : ST) (f g : SE) : SE := fun ρ => (t ρ).bind fun b => if b = true then f ρ else g ρ
def chE (h h' : PyData → PyData → Option PyData) (f g k : SE) : SE := fun ρ => (f ρ).bind fun x => (g ρ).bind fun y => (h x y).bind fun z => (asB z).bind fun b => if b = true then (k ρ).bind fun w => h' y w else some (.bool false)
def aNil : SA := fun _ => some []
def aCons (f : SE) (r : SA) : SA := fun ρ => (f ρ).bind fun x => (r ρ).map fun xs => x :: xs
def itemsOf : PyData → Option (List PyData)
  | .list xs => some xs
  | .tuple xs => some xs
  | _ => none
def aStar (f : SE) (r : SA) : SA := fun ρ => (f ρ).bind fun x => (itemsOf x).bind fun xs => (r ρ).map fun ys => xs ++ ys
def lim (ds : List PyData) : Option (List PyData) := if ds.length ≤ 100000 then some ds else none
def tupE (a : SA) : SE := fun ρ => (a ρ).bind fun ds => (lim ds).map .tuple
def lstL (a : SA) : SA := fun ρ => (a ρ).bind lim
def frzE (l : SA) : SE := fun ρ => (l ρ).map .list
def calE (φ : List PyData → Option PyData) (a : SA) : SE := fun ρ => (a ρ).bind φ
def calL (φ : List PyData → Option (List PyData)) (a : SA) : SA := fun ρ => (a ρ).bind φ

/-! ### readings -/
def tD (f : SE) : TE := fun σ H Q => ∃ F ρ d, Rep F H σ ρ ∧ f ρ = some d ∧ ∀ v F' H', Grow F H F' H' → Da F' v d → Q v H'
def tDT (f : ST) : TT := fun σ H Q => ∃ F ρ b, Rep F H σ ρ ∧ f ρ = some b ∧ ∀ F' H', Grow F H F' H' → Q b H'
def tDA (f : SA) : TA := fun σ H Q => ∃ F ρ ds, Rep F H σ ρ ∧ f ρ = some ds ∧ ∀ vs F' H', Grow F H F' H' → DaAll F' vs ds → Q vs H'
/-- a new list, not frozen -/
def tDL (f : SA) : TE := fun σ H Q => ∃ F ρ ds, Rep F H σ ρ ∧ f ρ = some ds ∧ ∀ p vs F' H', Grow F H F' H' → H p = none → F' p = none → H' p = some (.lst vs) → DaAll F' vs ds → Q (.ref p) H'
abbrev DE (X : Cx) (e : Expr) (f : SE) : Prop := PE X e (tD f)
abbrev DT (X : Cx) (e : Expr) (f : ST) : Prop := PT X e (tDT f)
abbrev DW (X : Cx) (e : Expr) (f : ST) : Prop := PW X e (tDT f)
abbrev DA (X : Cx) (es : List Expr) (f : SA) : Prop := PA X es (tDA f)
abbrev DL (X : Cx) (e : Expr) (f : SA) : Prop := PE X e (tDL f)
theorem weakE {X : Cx} {e : Expr} {t t' : TE} (h : PE X e t) (w : ∀ σ H Q, t' σ H Q → t σ H Q) : PE X e t' := ⟨fun pins s σ H Q I q => h.run pins s σ H Q I (w σ H Q q)⟩
theorem weakT {X : Cx} {e : Expr} {t t' : TT} (h : PT X e t) (w : ∀ σ H Q, t' σ H Q → t σ H Q) : PT X e t' := ⟨fun pins s σ H Q I q => h.run pins s σ H Q I (w σ H Q q)⟩
theorem weakW {X : Cx} {e : Expr} {t t' : TT} (h : PW X e t) (w : ∀ σ H Q, t' σ H Q → t σ H Q) : PW X e t' := ⟨fun wh pins s σ H Q I q => h.run wh pins s σ H Q I (w σ H Q q)⟩
theorem weakA {X : Cx} {e : List Expr} {t t' : TA} (h : PA X e t) (w : ∀ σ H Q, t' σ H Q → t σ H Q) : PA X e t' := ⟨fun pos pins s σ H Q I q => h.run pos pins s σ H Q I (w σ H Q q)⟩
theorem bnd {α β : Type} {o : Option α} {f : α → Option β} {b : β} (h : o.bind f = some b) : ∃ a, o = some a ∧ f a = some b := Option.bind_eq_some_iff.mp h
theorem mpd {α β : Type} {o : Option α} {f : α → β} {b : β} (h : o.map f = some b) : ∃ a, o = some a ∧ f a = b := Option.map_eq_some_iff.mp h
theorem lim_ok {ds es : List PyData} (h : lim ds = some es) : es = ds ∧ ds.length ≤ 100000 := by
  unfold lim at h; split at h
  · cases h; exact ⟨rfl, by assumption⟩
  · cases h

section
variable {X : Cx} {a b c e : Expr} {f g k : SE} {pos : Pos} {es : List Expr} {u : SA}
theorem de_var (i : Nat) {x : Str} (hN : X.N[i]? = some x := by rfl) (hv : Vis X.env.scope x := by first | exact Or.inl rfl | exact Or.inr (Or.inl rfl) | exact Or.inr (Or.inr rfl)) (hd : (x == ("__debug__" : Str)) = false := by decide)
    (hcd : (x == ("__classdict__" : Str)) = false := by decide) : DE X (.Name x pos) (vE i) := weakE (pe_var (i := i) hN hv hd hcd) fun σ H Q h => by
  obtain ⟨F, ρ, d, R, e, q⟩ := h
  unfold vE at e
  split at e
  · cases e
    obtain ⟨v, h1, h2⟩ := R.dat i _ (by assumption)
    exact ⟨v, h1, q v F H (Grow.refl R.fh) h2⟩
  · cases e
    obtain ⟨v, h1, h2⟩ := R.nt i _ (by assumption)
    exact ⟨v, h1, q v F H (Grow.refl R.fh) h2.da⟩
  · cases e
theorem de_con {v : V} {d : PyData} (h : PE X e (tC v)) (hd : ∀ F, Da F v d) : DE X e (cE d) := weakE h fun σ H Q h => by
  obtain ⟨F, ρ, d', R, e, q⟩ := h
  cases e
  exact q v F H (Grow.refl R.fh) (hd F)
theorem de_int {i : Int} {j} : DE X (.Constant (.int i) j pos) (cE (.int i)) := de_con pe_int fun _ => .int i
theorem de_str {x : Str} {j} : DE X (.Constant (.str x) j pos) (cE (.str x)) := de_con pe_str fun _ => .str x
theorem de_bl {x : Bool} {j} : DE X (.Constant (.bool x) j pos) (cE (.bool x)) := de_con pe_bl fun _ => .bl x
theorem de_non {j} : DE X (.Constant .none j pos) (cE .none) := de_con pe_non fun _ => .non

/-- an operator by data -/
def RD (r : R2) (h : PyData → PyData → Option PyData) : Prop := ∀ (F H : Hp) (x y : V) (dx dy dz : PyData) (Q : VK), Ex F H → Da F x dx → Da F y dy → h dx dy = some dz → (∀ v F' H', Grow F H F' H' → Da F' v dz → Q v H') → r x y H Q
theorem RD.run {r : R2} {h : PyData → PyData → Option PyData} (hr : RD r h) {σ : L2.St} {H : Hp} {Q : VK} (w : tD (op2 h f g) σ H Q) : tOp r (tD f) (tD g) σ H Q := by
  obtain ⟨F, ρ, d, R, e, q⟩ := w
  obtain ⟨x, e1, e⟩ := bnd e
  obtain ⟨y, e2, e3⟩ := bnd e
  exact ⟨F, ρ, x, R, e1, fun v F1 H1 g1 dv => ⟨F1, ρ, y, R.grow g1, e2, fun w F2 H2 g2 dw => hr F2 H2 v w x y d Q g2.fh (dv.ex g2.ff) dw e3 fun u F3 H3 g3 du => q u F3 H3 ((g1.trans g2).trans g3) du⟩⟩
theorem de_op {op : Operator} {r : R2} {h : PyData → PyData → Option PyData} (ho : OpR X (binaryOp op) r) (hr : RD r h) (ha : DE X a f) (hb : DE X b g) : DE X (.BinOp a op b pos) (op2 h f g) :=
  weakE (pe_op ho ha hb) fun _ _ _ w => hr.run w
theorem de_cmp {op : CmpOp} {r : R2} {h : PyData → PyData → Option PyData} (ho : OpR X (compareOp op) r) (hr : RD r h) (ha : DE X a f) (hb : DE X b g) (hm : behindInMarks op b = false) : DE X (.Compare a [op] [b] pos) (op2 h f g) :=
  weakE (pe_cmpR ho ha hb hm) fun _ _ _ w => hr.run w
theorem tst_run {t : TE} {f : SE} (h : ∀ σ H Q, tD f σ H Q → t σ H Q) {σ : L2.St} {H : Hp} {Q : Bool → Hp → Prop} (w : tDT (tstE f) σ H Q) : tTest t σ H Q := by
  obtain ⟨F, ρ, b, R, e, q⟩ := w
  obtain ⟨d, e1, e2⟩ := bnd e
  refine h σ H _ ⟨F, ρ, d, R, e1, fun v F' H' g dv => ?_⟩
  cases d with
  | bool x => cases e2; cases dv; exact ⟨b, rfl, q F' H' g⟩
  | _ => cases e2
theorem dt_cmp {op : CmpOp} {r : R2} {h : PyData → PyData → Option PyData} (ho : OpR X (compareOp op) r) (hr : RD r h) (ha : DE X a f) (hb : DE X b g) (hm : behindInMarks op b = false) : DT X (.Compare a [op] [b] pos) (tstE (op2 h f g)) :=
  weakT (pt_cmpR ho ha hb hm) fun _ _ _ w => tst_run (fun _ _ _ w => hr.run w) w
theorem dt_val (h : DE X e f) (he : ∀ whole, isTrue e X.env whole = (do let v ← whole; standAt e.pos; holding [v] (truthy v)) := by intro _; rfl) : DT X e (tstE f) :=
  weakT (pt_val h he) fun _ _ _ w => tst_run (t := tD f) (fun _ _ _ w => w) w
theorem de_ix {r : R2} {h : PyData → PyData → Option PyData} (ho : IxR X r) (hr : RD r h) (ha : DE X a f) (hb : DE X b g) (hs : PlainIx b := by intro _ _; rfl) : DE X (.Subscript a b pos) (op2 h f g) :=
  weakE (pe_ix ho ha hb hs) fun _ _ _ w => hr.run w
/-- one operand -/
def RU (r : V → Hp → VK → Prop) (h : PyData → Option PyData) : Prop := ∀ (F H : Hp) (x : V) (dx dz : PyData) (Q : VK), Ex F H → Da F x dx → h dx = some dz → (∀ v F' H', Grow F H F' H' → Da F' v dz → Q v H') → r x H Q
theorem RU.run {r : V → Hp → VK → Prop} {h : PyData → Option PyData} (hr : RU r h) {σ : L2.St} {H : Hp} {Q : VK} (w : tD (op1 h f) σ H Q) : (tD f) σ H fun x H1 => r x H1 Q := by
  obtain ⟨F, ρ, d, R, e, q⟩ := w
  obtain ⟨x, e1, e⟩ := bnd e
  exact ⟨F, ρ, x, R, e1, fun v F1 H1 g1 dv => hr F1 H1 v x d Q g1.fh dv e fun u F3 H3 g3 du => q u F3 H3 (g1.trans g3) du⟩
theorem de_un {op : UnaryOp} {r : V → Hp → VK → Prop} {h : PyData → Option PyData} (ho : UnR X (unaryOp op) r) (hr : RU r h) (ha : DE X a f) : DE X (.UnaryOp op a pos) (op1 h f) :=
  weakE (pe_un ho ha) fun _ _ _ w => hr.run w

/-! ### and, or, not, if -/
theorem dw_and1 {s : ST} (h : DT X a s) : DW X (.BoolOp .And [a] pos) s := pw_and1 h
theorem dw_or1 {s : ST} (h : DT X a s) : DW X (.BoolOp .Or [a] pos) s := pw_or1 h
theorem dw_and {s t : ST} {rest : List Expr} (ha : DT X a s) (hb : DW X (.BoolOp .And (b :: rest) pos) t) : DW X (.BoolOp .And (a :: b :: rest) pos) (andT s t) := weakW (pw_and ha hb) fun σ H Q w => by
  obtain ⟨F, ρ, r, R, e, q⟩ := w
  obtain ⟨x, e1, e2⟩ := bnd e
  refine ⟨F, ρ, x, R, e1, fun F1 H1 g1 => ?_⟩
  cases x with
  | true => exact ⟨F1, ρ, r, R.grow g1, e2, fun F2 H2 g2 => q F2 H2 (g1.trans g2)⟩
  | false => cases e2; exact q F1 H1 g1
theorem dw_or {s t : ST} {rest : List Expr} (ha : DT X a s) (hb : DW X (.BoolOp .Or (b :: rest) pos) t) : DW X (.BoolOp .Or (a :: b :: rest) pos) (orT s t) := weakW (pw_or ha hb) fun σ H Q w => by
  obtain ⟨F, ρ, r, R, e, q⟩ := w
  obtain ⟨x, e1, e2⟩ := bnd e
  refine ⟨F, ρ, x, R, e1, fun F1 H1 g1 => ?_⟩
  cases x with
  | false => exact ⟨F1, ρ, r, R.grow g1, e2, fun F2 H2 g2 => q F2 H2 (g1.trans g2)⟩
  | true => cases e2; exact q F1 H1 g1
theorem dt_not {s : ST} (h : DT X a s) : DT X (.UnaryOp .Not a pos) (notT s) := weakT (pt_not h) fun σ H Q w => by
  obtain ⟨F, ρ, r, R, e, q⟩ := w
  obtain ⟨x, e1, e2⟩ := mpd e
  subst e2
  exact ⟨F, ρ, x, R, e1, q⟩
theorem de_one {op} (h : DE X a f) : DE X (.BoolOp op [a] pos) f := pe_one h
theorem de_and {rest : List Expr} (ha : DE X a f) (hb : DE X (.BoolOp .And (b :: rest) pos) g) : DE X (.BoolOp .And (a :: b :: rest) pos) (andE f g) := weakE (pe_and ha hb) fun σ H Q w => by
  obtain ⟨F, ρ, r, R, e, q⟩ := w
  obtain ⟨x, e1, e2⟩ := bnd e
  obtain ⟨d, e0, e1⟩ := bnd e1
  refine ⟨F, ρ, d, R, e0, fun v F1 H1 g1 dv => ?_⟩
  cases d with
  | bool y =>
    cases e1
    cases dv
    refine ⟨x, rfl, ?_⟩
    cases x with
    | true => exact ⟨F1, ρ, r, R.grow g1, e2, fun u F2 H2 g2 du => q u F2 H2 (g1.trans g2) du⟩
    | false => cases e2; exact q _ F1 H1 g1 (.bl false)
  | _ => cases e1
theorem de_or {rest : List Expr} (ha : DE X a f) (hb : DE X (.BoolOp .Or (b :: rest) pos) g) : DE X (.BoolOp .Or (a :: b :: rest) pos) (orE f g) := weakE (pe_or ha hb) fun σ H Q w => by
  obtain ⟨F, ρ, r, R, e, q⟩ := w
  obtain ⟨x, e1, e2⟩ := bnd e
  obtain ⟨d, e0, e1⟩ := bnd e1
  refine ⟨F, ρ, d, R, e0, fun v F1 H1 g1 dv => ?_⟩
  cases d with
  | bool y =>
    cases e1
    cases dv
    refine ⟨x, rfl, ?_⟩
    cases x with
    | false => exact ⟨F1, ρ, r, R.grow g1, e2, fun u F2 H2 g2 du => q u F2 H2 (g1.trans g2) du⟩
    | true => cases e2; exact q _ F1 H1 g1 (.bl true)
  | _ => cases e1
theorem de_not (ha : DE X a f) : DE X (.UnaryOp .Not a pos) (notE f) := weakE (pe_not ha) fun σ H Q w => by
  obtain ⟨F, ρ, r, R, e, q⟩ := w
  obtain ⟨x, e1, e2⟩ := mpd e
  obtain ⟨d, e0, e1⟩ := bnd e1
  refine ⟨F, ρ, d, R, e0, fun v F1 H1 g1 dv => ?_⟩
  cases d with
  | bool y =>
    cases e1
    cases dv
    subst e2
    exact ⟨x, rfl, q _ F1 H1 g1 (.bl (!x))⟩
  | _ => cases e1
theorem de_if {s : ST} (hc : DT X c s) (ha : DE X a f) (hb : DE X b g) : DE X (.IfExp c a b pos) (ifE s f g) := weakE (pe_ifExp hc ha hb) fun σ H Q w => by
  obtain ⟨F, ρ, r, R, e, q⟩ := w
  obtain ⟨x, e1, e2⟩ := bnd e
  refine ⟨F, ρ, x, R, e1, fun F1 H1 g1 => ?_⟩
  cases x with
  | true => exact ⟨F1, ρ, r, R.grow g1, e2, fun u F2 H2 g2 du => q u F2 H2 (g1.trans g2) du⟩
  | false => exact ⟨F1, ρ, r, R.grow g1, e2, fun u F2 H2 g2 du => q u F2 H2 (g1.trans g2) du⟩
theorem ch_run {r r' : R2} {h h' : PyData → PyData → Option PyData} (hr : RD r h) (hr' : RD r' h') {σ : L2.St} {H : Hp} {Q : VK} (w : tD (chE h h' f g k) σ H Q) : tChain r r' (tD f) (tD g) (tD k) σ H Q := by
  obtain ⟨F, ρ, d, R, e, q⟩ := w
  obtain ⟨x, e1, e⟩ := bnd e
  obtain ⟨y, e2, e⟩ := bnd e
  obtain ⟨z, e3, e⟩ := bnd e
  obtain ⟨t, e4, e⟩ := bnd e
  refine ⟨F, ρ, x, R, e1, fun v F1 H1 g1 dv => ⟨F1, ρ, y, R.grow g1, e2, fun w F2 H2 g2 dw => hr F2 H2 v w x y z _ g2.fh (dv.ex g2.ff) dw e3 fun u F3 H3 g3 du => ?_⟩⟩
  cases z with
  | bool zb =>
    cases e4
    cases du
    refine ⟨t, rfl, ?_⟩
    cases t with
    | false => cases e; exact q _ F3 H3 ((g1.trans g2).trans g3) (.bl false)
    | true =>
      have e : ((k ρ).bind fun w => h' y w) = some d := e
      obtain ⟨m, e5, e6⟩ := bnd e
      exact ⟨F3, ρ, m, R.grow ((g1.trans g2).trans g3), e5, fun u4 F4 H4 g4 d4 => hr' F4 H4 w u4 y m d Q g4.fh (dw.ex (g3.ff.trans g4.ff)) d4 e6 fun u5 F5 H5 g5 d5 => q u5 F5 H5 ((((g1.trans g2).trans g3).trans g4).trans g5) d5⟩
  | _ => cases e4
theorem de_chain {op op' : CmpOp} {r r' : R2} {h h' : PyData → PyData → Option PyData} (ho : OpR X (compareOp op) r) (ho' : OpR X (compareOp op') r') (hr : RD r h) (hr' : RD r' h') (ha : DE X a f) (hb : DE X b g) (hc : DE X c k)
    (hm : lastMarks [op, op'] [b, c] = false := by with_unfolding_all rfl) : DE X (.Compare a [op, op'] [b, c] pos) (chE h h' f g k) := weakE (pe_chain ho ho' ha hb hc hm) fun _ _ _ w => ch_run hr hr' w
theorem dt_chain {op op' : CmpOp} {r r' : R2} {h h' : PyData → PyData → Option PyData} (ho : OpR X (compareOp op) r) (ho' : OpR X (compareOp op') r') (hr : RD r h) (hr' : RD r' h') (ha : DE X a f) (hb : DE X b g) (hc : DE X c k)
    (hm : lastMarks [op, op'] [b, c] = false := by with_unfolding_all rfl) : DT X (.Compare a [op, op'] [b, c] pos) (tstE (chE h h' f g k)) := weakT (pt_chain ho ho' ha hb hc hm) fun _ _ _ w => tst_run (fun _ _ _ w => ch_run hr hr' w) w

/-! ### arguments, displays -/
theorem da_nil : DA X [] aNil := weakA pa_nil fun σ H Q w => by
  obtain ⟨F, ρ, ds, R, e, q⟩ := w
  cases e
  exact q [] F H (Grow.refl R.fh) .nil
theorem da_cons (ha : DE X e f) (hr : DA X es u) (hs : starEach (e :: es) X.env = (false, eval e X.env) :: starEach es X.env := by rfl) : DA X (e :: es) (aCons f u) := weakA (pa_cons ha hr hs) fun σ H Q w => by
  obtain ⟨F, ρ, ds, R, e, q⟩ := w
  obtain ⟨x, e1, e⟩ := bnd e
  obtain ⟨xs, e2, e3⟩ := mpd e
  subst e3
  exact ⟨F, ρ, x, R, e1, fun v F1 H1 g1 dv => ⟨F1, ρ, xs, R.grow g1, e2, fun vs F2 H2 g2 dvs => q (v :: vs) F2 H2 (g1.trans g2) (.cons (dv.ex g2.ff) dvs)⟩⟩
theorem da_star {p : Pos} (ha : DE X e f) (hr : DA X es u) (hs : starEach (.Starred e p :: es) X.env = (true, eval e X.env) :: starEach es X.env := by rfl) : DA X (.Starred e p :: es) (aStar f u) := weakA (StX.pa_star ha hr hs) fun σ H Q w => by
  obtain ⟨F, ρ, ds, R, e, q⟩ := w
  obtain ⟨x, e1, e⟩ := bnd e
  obtain ⟨xs, e2, e⟩ := bnd e
  obtain ⟨ys, e3, e4⟩ := mpd e
  subst e4
  refine ⟨F, ρ, x, R, e1, fun v F1 H1 g1 dv => ?_⟩
  cases x with
  | list zs =>
    cases e2
    cases dv with
    | @lst a vs _ ha hv =>
      exact ⟨a, vs, rfl, .inr (SqL.of (g1.fh _ _ ha)), ⟨F1, ρ, ys, R.grow g1, e3, fun ws F2 H2 g2 dws => q _ F2 H2 (g1.trans g2) ((hv.ex g2.ff).app dws)⟩⟩
  | tuple zs =>
    cases e2
    cases dv with
    | @tup a vs _ ha hv =>
      exact ⟨a, vs, rfl, .inl (ha.sq g1.fh), ⟨F1, ρ, ys, R.grow g1, e3, fun ws F2 H2 g2 dws => q _ F2 H2 (g1.trans g2) ((hv.ex g2.ff).app dws)⟩⟩
  | _ => cases e2
theorem de_tup {x1} (h : DA X es u) : DE X (.Tuple es x1 pos) (tupE u) := weakE (pe_tup h) fun σ H Q w => by
  obtain ⟨F, ρ, d, R, e, q⟩ := w
  obtain ⟨ds, e1, e⟩ := bnd e
  obtain ⟨ds', e2, e3⟩ := mpd e
  obtain ⟨rfl, hl⟩ := lim_ok e2
  subst e3
  refine ⟨F, ρ, ds', R, e1, fun vs F1 H1 g1 dv => ⟨sz_ok (by rw [dv.length]; exact hl), fun p hp => ?_⟩⟩
  have g2 : Grow F1 H1 _ _ := Grow.laid (o := .tup vs) g1.fh hp
  exact q _ _ _ (g1.trans g2) (.tup (.inl upd_same) (dv.ex g2.ff))
theorem dl_lst (h : DA X es u) : DL X (.List es pos) (lstL u) := weakE (pe_lst h) fun σ H Q w => by
  obtain ⟨F, ρ, d, R, e, q⟩ := w
  obtain ⟨ds, e1, e⟩ := bnd e
  obtain ⟨rfl, hl⟩ := lim_ok e
  refine ⟨F, ρ, d, R, e1, fun vs F1 H1 g1 dv => ⟨sz_ok (by rw [dv.length]; exact hl), fun p hp => ?_⟩⟩
  exact q p vs F1 _ (g1.trans (Grow.side g1.fh hp)) (g1.hh.back hp) (g1.fh.back hp) upd_same dv
/-- a new list, frozen -/
theorem de_frz {l : SA} (h : DL X e l) : DE X e (frzE l) := weakE h fun σ H Q w => by
  obtain ⟨F, ρ, d, R, e, q⟩ := w
  obtain ⟨ds, e1, e2⟩ := mpd e
  subst e2
  refine ⟨F, ρ, ds, R, e1, fun p vs F' H' g hp hf hh dv => ?_⟩
  exact q _ _ H' (g.freeze hp hf hh) (.lst upd_same (dv.ex (Ex.new hf)))

/-! ### calls -/
def spD (φ : List PyData → Option PyData) : Sp := fun vs H Q _ => ∃ F ds d, Ex F H ∧ DaAll F vs ds ∧ φ ds = some d ∧ ∀ v F' H', Grow F H F' H' → Da F' v d → Q v H'
section
variable {k : Nat} {fa : Addr} {fd : FuncData} {ps : List Str} {x : Str} {p : Pos} {φ : List PyData → Option PyData}
theorem de_call (G : FnOk X.prog X.w X.K X.mg X.base CX0 k fa fd ps (spD φ)) (hr : Room k X.A) (hg : Gl X x) (hm : X.mg x = some (.ref fa)) (hk : PySem.W.keepIn X.K (.ref fa) = true) (hb : Binds X.K fd ps []) (ha : DA X (e :: es) u)
    (hd : (x == ("__debug__" : Str)) = false := by decide) (hs : starEach (e :: es) X.env = (false, eval e X.env) :: starEach es X.env := by rfl) (hp : (backTo pos (starEach es X.env)).any (·.1) = false := by rfl) :
    DE X (.Call (.Name x p) (e :: es) [] pos) (calE φ u) := weakE (pe_call G hr hg hm hk hb .nil pass0 ha hd hs hp) fun σ H Q w => by
  obtain ⟨F, ρ, d, R, e, q⟩ := w
  obtain ⟨ds, e1, e2⟩ := bnd e
  refine ⟨F, ρ, ds, R, e1, fun vs F1 H1 g1 dv => ?_⟩
  refine ⟨F1, ds, d, g1.fh, by rw [List.append_nil]; exact dv, e2, fun v F2 H2 g2 d2 => q v F2 H2 (g1.trans g2) d2⟩
end
/-- a built-in by data -/
def CD (r : List V → Hp → VK → Prop) (φ : List PyData → Option PyData) : Prop := ∀ (F H : Hp) (vs : List V) (ds : List PyData) (d : PyData) (Q : VK), Ex F H → DaAll F vs ds → φ ds = some d → (∀ v F' H', Grow F H F' H' → Da F' v d → Q v H') → r vs H Q
def CDL (r : List V → Hp → VK → Prop) (φ : List PyData → Option (List PyData)) : Prop := ∀ (F H : Hp) (vs : List V) (ds es : List PyData) (Q : VK), Ex F H → DaAll F vs ds → φ ds = some es → (∀ p ws F' H', Grow F H F' H' → H p = none → F' p = none → H' p = some (.lst ws) → DaAll F' ws es → Q (.ref p) H') → r vs H Q
theorem CD.run {r : List V → Hp → VK → Prop} {φ : List PyData → Option PyData} (h : CD r φ) {σ : L2.St} {H : Hp} {Q : VK} (w : tD (calE φ u) σ H Q) : tCB r (tDA u) σ H Q := by
  obtain ⟨F, ρ, d, R, e, q⟩ := w
  obtain ⟨ds, e1, e2⟩ := bnd e
  exact ⟨F, ρ, ds, R, e1, fun vs F1 H1 g1 dv => h F1 H1 vs ds d Q g1.fh dv e2 fun v F2 H2 g2 d2 => q v F2 H2 (g1.trans g2) d2⟩
theorem CDL.run {r : List V → Hp → VK → Prop} {φ : List PyData → Option (List PyData)} (h : CDL r φ) {σ : L2.St} {H : Hp} {Q : VK} (w : tDL (calL φ u) σ H Q) : tCB r (tDA u) σ H Q := by
  obtain ⟨F, ρ, d, R, e, q⟩ := w
  obtain ⟨ds, e1, e2⟩ := bnd e
  exact ⟨F, ρ, ds, R, e1, fun vs F1 H1 g1 dv => h F1 H1 vs ds d Q g1.fh dv e2 fun p ws F2 H2 g2 n1 n2 h2 d2 => q p ws F2 H2 (g1.trans g2) (g1.hh.back n1) n2 h2 d2⟩
section
variable {id T : String} {r : List V → Hp → VK → Prop} {x : Str} {p : Pos}
theorem de_callB {φ : List PyData → Option PyData} (hc : CallR X (.builtin id) r) (hd : CD r φ) (hg : Gl X x) (hm : X.mg x = none) (hv : bootBuiltins x = some (.builtin id)) (ha : DA X (e :: es) u) (hn : x ≠ "__name__" := by decide)
    (hdb : (x == ("__debug__" : Str)) = false := by decide) (hs : starEach (e :: es) X.env = (false, eval e X.env) :: starEach es X.env := by rfl) (hp : (backTo pos (starEach es X.env)).any (·.1) = false := by rfl) : DE X (.Call (.Name x p) (e :: es) [] pos) (calE φ u) :=
  weakE (pe_callB hc hg hm hv ha hn hdb hs hp) fun _ _ _ w => hd.run w
theorem dl_callB {φ : List PyData → Option (List PyData)} (hc : CallR X (.builtin id) r) (hd : CDL r φ) (hg : Gl X x) (hm : X.mg x = none) (hv : bootBuiltins x = some (.builtin id)) (ha : DA X (e :: es) u) (hn : x ≠ "__name__" := by decide)
    (hdb : (x == ("__debug__" : Str)) = false := by decide) (hs : starEach (e :: es) X.env = (false, eval e X.env) :: starEach es X.env := by rfl) (hp : (backTo pos (starEach es X.env)).any (·.1) = false := by rfl) : DL X (.Call (.Name x p) (e :: es) [] pos) (calL φ u) :=
  weakE (pe_callB hc hg hm hv ha hn hdb hs hp) fun _ _ _ w => hd.run w
theorem de_callTy {φ : List PyData → Option PyData} (hc : CallR X (.type T) r) (hd : CD r φ) (hg : Gl X x) (hm : X.mg x = none) (hv : bootBuiltins x = some (.type T)) (ha : DA X (e :: es) u) (hn : x ≠ "__name__" := by decide)
    (hdb : (x == ("__debug__" : Str)) = false := by decide) (hs : starEach (e :: es) X.env = (false, eval e X.env) :: starEach es X.env := by rfl) (hp : (backTo pos (starEach es X.env)).any (·.1) = false := by rfl) : DE X (.Call (.Name x p) (e :: es) [] pos) (calE φ u) :=
  weakE (pe_callTy hc hg hm hv ha hn hdb hs hp) fun _ _ _ w => hd.run w
end
end
end U
set_option maxHeartbeats 4000000
/-! U3: operators and built-ins by data. -/
namespace U
open PySem PySem.Spec PyProof.Rows L2

/-! ### operators -/
def addD : PyData → PyData → Option PyData
  | .int i, .int j => some (.int (i + j))
  | .str x, .str y => if x.length + y.length ≤ 100000 then some (.str (x ++ y)) else none
  | .list xs, .list ys => if xs.length + ys.length ≤ 100000 then some (.list (xs ++ ys)) else none
  | .tuple xs, .tuple ys => if xs.length + ys.length ≤ 100000 then some (.tuple (xs ++ ys)) else none
  | _, _ => none
def subD : PyData → PyData → Option PyData
  | .int i, .int j => some (.int (i - j))
  | _, _ => none
def mulD : PyData → PyData → Option PyData
  | .int i, .int j => if (-(2 ^ 64) < i ∧ i < 2 ^ 64) ∨ (-(2 ^ 64) < j ∧ j < 2 ^ 64) then some (.int (i * j)) else none
  | _, _ => none
def fdivD : PyData → PyData → Option PyData
  | .int i, .int j => if 0 < j ∧ j < 1073741824 then some (.int (i / j)) else none
  | _, _ => none
def modD : PyData → PyData → Option PyData
  | .int i, .int j => if 0 < j then some (.int (i % j)) else none
  | _, _ => none
def negD : PyData → Option PyData
  | .int i => some (.int (-i))
  | _ => none
def ltD : PyData → PyData → Option PyData
  | .int i, .int j => some (.bool (decide (i < j)))
  | .str x, .str y => some (.bool (decide (x.cps.toList < y.cps.toList)))
  | _, _ => none
def leD : PyData → PyData → Option PyData
  | .int i, .int j => some (.bool (decide (i ≤ j)))
  | _, _ => none
def gtD : PyData → PyData → Option PyData
  | .int i, .int j => some (.bool (decide (j < i)))
  | _, _ => none
def geD : PyData → PyData → Option PyData
  | .int i, .int j => some (.bool (decide (j ≤ i)))
  | _, _ => none
def eqD (x y : PyData) : Option PyData := if SeqAt.shaped x = true ∧ SeqAt.shaped y = true then some (.bool (PyData.eqv x y)) else none
def neD (x y : PyData) : Option PyData := if SeqAt.shaped x = true ∧ SeqAt.shaped y = true then some (.bool (!PyData.eqv x y)) else none
def isNoneD : PyData → Bool
  | .none => true
  | _ => false
def isND (x y : PyData) : Option PyData := match y with
  | .none => some (.bool (isNoneD x))
  | _ => none
def sign1 (x : Str) : Option Nat := match x.cps.toList with
  | [c] => some c
  | _ => none
def inB (x y : PyData) : Option Bool := match y with
  | .list ds => if SeqAt.shaped x = true ∧ SeqAt.shaped (.list ds) = true then some (ds.any fun z => PyData.eqv z x) else none
  | .tuple ds => if SeqAt.shaped x = true ∧ SeqAt.shaped (.tuple ds) = true then some (ds.any fun z => PyData.eqv z x) else none
  | .str z => match x with
    | .str w => (sign1 w).map fun c => decide (c ∈ z.cps.toList)
    | _ => none
  | _ => none
def inD (x y : PyData) : Option PyData := (inB x y).map .bool
def notInB (x y : PyData) : Option Bool := match y with
  | .list ds => if SeqAt.shaped x = true ∧ SeqAt.shaped (.list ds) = true then some (ds.any fun z => PyData.eqv z x) else none
  | .tuple ds => if SeqAt.shaped x = true ∧ SeqAt.shaped (.tuple ds) = true then some (ds.any fun z => PyData.eqv z x) else none
  | _ => none
def notInD (x y : PyData) : Option PyData := (notInB x y).map fun b => .bool (!b)
def ixD (x y : PyData) : Option PyData := match y with
  | .int i => match x with
    | .list ds => atI ds i
    | .tuple ds => atI ds i
    | .str z => if z.length ≤ 100000 then (atI z.cps.toList i).map fun c => .str ⟨#[c]⟩ else none
    | _ => none
  | _ => none

def rAdd4 (K : PySem.W.Frag) : R2 := fun x y H Q => rI0 (fun i j => .int (i + j)) x y H Q ∨ (∃ i j, x = .str i ∧ y = .str j ∧ i.length + j.length ≤ sizeLine ∧ Q (.str (i ++ j)) H) ∨ rCat x y H Q ∨ rCatA K x y H Q
theorem rd_add {K : PySem.W.Frag} : RD (rAdd4 K) addD := by
  intro F H x y dx dy dz Q ef hx hy h q
  cases dx with
  | int i => cases dy with
    | int j => cases h; cases hx; cases hy; exact .inl ⟨i, j, rfl, rfl, q _ F H (Grow.refl ef) (.int _)⟩
    | _ => cases h
  | str i => cases dy with
    | str j =>
      have h' : (if i.length + j.length ≤ 100000 then some (PyData.str (i ++ j)) else none) = some dz := h
      split at h'
      · cases h'; cases hx; cases hy
        exact .inr (.inl ⟨i, j, rfl, rfl, sz_ok (by assumption), q _ F H (Grow.refl ef) (.str _)⟩)
      · cases h'
    | _ => cases h
  | list xs => cases dy with
    | list ys =>
      have h' : (if xs.length + ys.length ≤ 100000 then some (PyData.list (xs ++ ys)) else none) = some dz := h
      split at h'
      · cases h'
        cases hx with
        | @lst a vs _ h1 k1 => cases hy with
          | @lst b ws _ h2 k2 =>
            refine .inr (.inr (.inl ⟨a, b, vs, ws, rfl, rfl, ef _ _ h1, ef _ _ h2, sz_ok (by rw [k1.length, k2.length]; assumption), fun p hp => ?_⟩))
            have g := Grow.laid (o := .lst (vs ++ ws)) ef hp
            exact q _ _ _ g (.lst upd_same ((k1.app k2).ex g.ff))
      · cases h'
    | _ => cases h
  | tuple xs => cases dy with
    | tuple ys =>
      have h' : (if xs.length + ys.length ≤ 100000 then some (PyData.tuple (xs ++ ys)) else none) = some dz := h
      split at h'
      · cases h'
        cases hx with
        | @tup a vs _ h1 k1 => cases hy with
          | @tup b ws _ h2 k2 =>
            refine .inr (.inr (.inr ⟨a, b, vs, ws, rfl, rfl, h1.sq ef, h2.sq ef, sz_ok (by rw [k1.length, k2.length]; assumption), fun e => ?_, fun e1 e2 => ?_, fun e1 e2 p hp => ?_⟩))
            · have e' := k1.nilIff.mp e
              subst e'
              exact q _ F H (Grow.refl ef) (.tup h2 k2)
            · have e' := k2.nilIff.mp e2
              subst e'
              rw [List.append_nil] at q
              exact q _ F H (Grow.refl ef) (.tup h1 k1)
            · have g := Grow.laid (o := .tup (vs ++ ws)) ef hp
              exact q _ _ _ g (.tup (.inl upd_same) ((k1.app k2).ex g.ff))
      · cases h'
    | _ => cases h
  | _ => cases dy <;> cases h
/-- two ints, a condition, a function -/
theorem rd_int {C : Int → Int → Prop} {g : Int → Int → Int} {h : PyData → PyData → Option PyData} (hh : ∀ x y z, h x y = some z → ∃ i j, x = .int i ∧ y = .int j ∧ C i j ∧ z = .int (g i j)) : RD (rI C fun i j => .int (g i j)) h := by
  intro F H x y dx dy dz Q ef hx hy h q
  obtain ⟨i, j, rfl, rfl, c, rfl⟩ := hh _ _ _ h
  cases hx; cases hy
  exact ⟨i, j, rfl, rfl, c, q _ F H (Grow.refl ef) (.int _)⟩
theorem rd_int0 {g : Int → Int → Int} {h : PyData → PyData → Option PyData} (hh : ∀ x y z, h x y = some z → ∃ i j, x = .int i ∧ y = .int j ∧ z = .int (g i j)) : RD (rI0 fun i j => .int (g i j)) h := by
  intro F H x y dx dy dz Q ef hx hy h q
  obtain ⟨i, j, rfl, rfl, rfl⟩ := hh _ _ _ h
  cases hx; cases hy
  exact ⟨i, j, rfl, rfl, q _ F H (Grow.refl ef) (.int _)⟩
theorem rd_intB {g : Int → Int → Bool} {h : PyData → PyData → Option PyData} (hh : ∀ x y z, h x y = some z → ∃ i j, x = .int i ∧ y = .int j ∧ z = .bool (g i j)) : RD (rI0 fun i j => .bl (g i j)) h := by
  intro F H x y dx dy dz Q ef hx hy h q
  obtain ⟨i, j, rfl, rfl, rfl⟩ := hh _ _ _ h
  cases hx; cases hy
  exact ⟨i, j, rfl, rfl, q _ F H (Grow.refl ef) (.bl _)⟩
theorem rd_sub : RD (rI0 fun i j => .int (i - j)) subD := rd_int0 fun x y z h => by
  unfold subD at h; split at h
  · cases h; exact ⟨_, _, rfl, rfl, rfl⟩
  · cases h
theorem rd_mul : RD (rI CMul fun i j => .int (i * j)) mulD := rd_int fun x y z h => by
  unfold mulD at h; split at h
  · split at h
    · cases h; exact ⟨_, _, rfl, rfl, by assumption, rfl⟩
    · cases h
  · cases h
theorem rd_fdiv : RD (rI CDiv fun i j => .int (i / j)) fdivD := rd_int fun x y z h => by
  unfold fdivD at h; split at h
  · split at h
    · cases h; exact ⟨_, _, rfl, rfl, by assumption, rfl⟩
    · cases h
  · cases h
theorem rd_mod : RD (rI (fun _ j => 0 < j) fun i j => .int (i % j)) modD := rd_int fun x y z h => by
  unfold modD at h; split at h
  · split at h
    · cases h; exact ⟨_, _, rfl, rfl, by assumption, rfl⟩
    · cases h
  · cases h
theorem ru_neg : RU (rU fun i => .int (-i)) negD := by
  intro F H x dx dz Q ef hx h q
  unfold negD at h; split at h
  · cases h; cases hx; exact ⟨_, rfl, q _ F H (Grow.refl ef) (.int _)⟩
  · cases h
def rLt2 : R2 := fun x y H Q => rI0 (fun i j => .bl (decide (i < j))) x y H Q ∨ ∃ i j, x = .str i ∧ y = .str j ∧ Q (.bl (decide (i.cps.toList < j.cps.toList))) H
theorem rd_lt : RD rLt2 ltD := by
  intro F H x y dx dy dz Q ef hx hy h q
  unfold ltD at h; split at h
  · cases h; cases hx; cases hy; exact .inl ⟨_, _, rfl, rfl, q _ F H (Grow.refl ef) (.bl _)⟩
  · cases h; cases hx; cases hy; exact .inr ⟨_, _, rfl, rfl, q _ F H (Grow.refl ef) (.bl _)⟩
  · cases h
theorem rd_le : RD (rI0 fun i j => .bl (decide (i ≤ j))) leD := rd_intB fun x y z h => by
  unfold leD at h; split at h
  · cases h; exact ⟨_, _, rfl, rfl, rfl⟩
  · cases h
theorem rd_gt : RD (rI0 fun i j => .bl (decide (j < i))) gtD := rd_intB fun x y z h => by
  unfold gtD at h; split at h
  · cases h; exact ⟨_, _, rfl, rfl, rfl⟩
  · cases h
theorem rd_ge : RD (rI0 fun i j => .bl (decide (j ≤ i))) geD := rd_intB fun x y z h => by
  unfold geD at h; split at h
  · cases h; exact ⟨_, _, rfl, rfl, rfl⟩
  · cases h
theorem dp_of {K : PySem.W.Frag} {F H : Hp} (ef : Ex F H) {v : V} {d : PyData} (h : Da F v d) (s : SeqAt.shaped d = true) : Dp K H v d := (h.ex ef).dp (SeqAt.canLay_of_shaped s)
theorem rd_eq {K : PySem.W.Frag} : RD (rEqD K) eqD := by
  intro F H x y dx dy dz Q ef hx hy h q
  unfold eqD at h; split at h
  · rename_i c; cases h
    exact ⟨dx, dy, dp_of ef hx c.1, dp_of ef hy c.2, c.1, c.2, q _ F H (Grow.refl ef) (.bl _)⟩
  · cases h
theorem rd_ne {K : PySem.W.Frag} : RD (rNeD K) neD := by
  intro F H x y dx dy dz Q ef hx hy h q
  unfold neD at h; split at h
  · rename_i c; cases h
    exact ⟨dx, dy, dp_of ef hx c.1, dp_of ef hy c.2, c.1, c.2, q _ F H (Grow.refl ef) (.bl _)⟩
  · cases h
theorem non_iff {F : Hp} {v : V} {d : PyData} (h : Da F v d) : decide (v = .non) = isNoneD d := by
  cases h <;> simp [isNoneD]
theorem rd_isN : RD (fun x y H Q => y = .non ∧ Q (.bl (decide (x = .non))) H) isND := by
  intro F H x y dx dy dz Q ef hx hy h q
  unfold isND at h; split at h
  · cases h; cases hy
    refine ⟨rfl, ?_⟩
    rw [non_iff hx]
    exact q _ F H (Grow.refl ef) (.bl _)
  · cases h
/-! x in t, t a tuple of data -/
def rInT (K : PySem.W.Frag) (neg : Bool) : R2 := fun x y H Q => ∃ d ds, Dp K H x d ∧ Dp K H y (.tuple ds) ∧ SeqAt.shaped d = true ∧ SeqAt.shaped (.tuple ds) = true ∧ Q (.bl (if neg = true then !ds.any fun z => PyData.eqv z d else ds.any fun z => PyData.eqv z d)) H
theorem op_inT {X : Cx} (hu : X.A.units + 65 < cLine) : OpR X (compareOp .In) (rInT X.K false) := by
  intro pins s σ H x y v u Q I rx ry h
  obtain ⟨d, ds, hd, he, sd, se, q⟩ := h
  obtain ⟨as, r1⟩ := Dp.reads I d x v hd rx
  obtain ⟨bs, r2⟩ := Dp.reads I (.tuple ds) y u he ry
  have ct : PyData.canLayAll0 ds = true := by
    have z := SeqAt.canLay_of_shaped se
    simpa [PyData.canLay0] using z
  exact SeqAt.in_tuple_reads r2 r1 ct (SeqAt.canLay_of_shaped sd) (room_in_shaped sd hu) ⟨.bl _, H, I, rfl, q⟩
theorem op_notInT {X : Cx} (hu : X.A.units + 65 < cLine) : OpR X (compareOp .NotIn) (rInT X.K true) := by
  intro pins s σ H x y v u Q I rx ry h
  obtain ⟨d, ds, hd, he, sd, se, q⟩ := h
  obtain ⟨as, r1⟩ := Dp.reads I d x v hd rx
  obtain ⟨bs, r2⟩ := Dp.reads I (.tuple ds) y u he ry
  have ct : PyData.canLayAll0 ds = true := by
    have z := SeqAt.canLay_of_shaped se
    simpa [PyData.canLay0] using z
  exact SeqAt.notIn_tuple_reads r2 r1 ct (SeqAt.canLay_of_shaped sd) (room_in_shaped sd hu) ⟨.bl _, H, I, rfl, q⟩
theorem sign1_eq {w : Str} {c : Nat} (h : sign1 w = some c) : w = ⟨#[c]⟩ := by
  unfold sign1 at h
  split at h
  · rename_i c' e
    cases h
    obtain ⟨⟨l⟩⟩ := w
    have e' : l = [c] := e
    rw [e']
  · cases h
def rIn3 (K : PySem.W.Frag) : R2 := fun x y H Q => rInD K x y H Q ∨ rInT K false x y H Q ∨ ∃ (c : Nat) (z : Str), x = .str ⟨#[c]⟩ ∧ y = .str z ∧ Q (.bl (decide (c ∈ z.cps.toList))) H
theorem rd_in {K : PySem.W.Frag} : RD (rIn3 K) inD := by
  intro F H x y dx dy dz Q ef hx hy h q
  obtain ⟨b, h1, rfl⟩ := mpd h
  unfold inB at h1
  split at h1
  · split at h1
    · rename_i c; cases h1
      exact .inl ⟨dx, _, dp_of ef hx c.1, dp_of ef hy c.2, c.1, c.2, q _ F H (Grow.refl ef) (.bl _)⟩
    · cases h1
  · split at h1
    · rename_i c; cases h1
      exact .inr (.inl ⟨dx, _, dp_of ef hx c.1, dp_of ef hy c.2, c.1, c.2, q _ F H (Grow.refl ef) (.bl _)⟩)
    · cases h1
  · split at h1
    · cases hx with
      | str w => cases hy with
        | str z =>
          obtain ⟨c, h2, rfl⟩ := mpd h1
          exact .inr (.inr ⟨c, _, by rw [sign1_eq h2], rfl, q _ F H (Grow.refl ef) (.bl _)⟩)
    · cases h1
  · cases h1
def rNotIn2 (K : PySem.W.Frag) : R2 := fun x y H Q => rNotInD K x y H Q ∨ rInT K true x y H Q
theorem rd_notIn {K : PySem.W.Frag} : RD (rNotIn2 K) notInD := by
  intro F H x y dx dy dz Q ef hx hy h q
  obtain ⟨b, h1, rfl⟩ := mpd h
  unfold notInB at h1
  split at h1
  · split at h1
    · rename_i c; cases h1
      exact .inl ⟨dx, _, dp_of ef hx c.1, dp_of ef hy c.2, c.1, c.2, q _ F H (Grow.refl ef) (.bl _)⟩
    · cases h1
  · split at h1
    · rename_i c; cases h1
      exact .inr ⟨dx, _, dp_of ef hx c.1, dp_of ef hy c.2, c.1, c.2, q _ F H (Grow.refl ef) (.bl _)⟩
    · cases h1
  · cases h1
theorem atI_da {F : Hp} {vs : List V} {ds : List PyData} {i : Int} {d : PyData} (h : DaAll F vs ds) (e : atI ds i = some d) : ∃ v, atI vs i = some v ∧ Da F v d := by
  unfold atI at e ⊢
  rw [h.length]
  obtain ⟨j, h1, h2⟩ := bnd e
  obtain ⟨v, h3, h4⟩ := h.getD h2
  exact ⟨v, by rw [h1]; exact h3, h4⟩
theorem rd_ix {K : PySem.W.Frag} : RD (rIx K) ixD := by
  intro F H x y dx dy dz Q ef hx hy h q
  unfold ixD at h
  split at h
  · cases hy
    split at h
    · cases hx with
      | @lst a vs _ h1 k1 =>
        obtain ⟨v, e, dv⟩ := atI_da k1 h
        exact .inl ⟨a, vs, _, v, rfl, rfl, SqL.of (ef _ _ h1), e, q _ F H (Grow.refl ef) dv⟩
    · cases hx with
      | @tup a vs _ h1 k1 =>
        obtain ⟨v, e, dv⟩ := atI_da k1 h
        exact .inr (.inl ⟨a, vs, _, v, rfl, rfl, h1.sq ef, e, q _ F H (Grow.refl ef) dv⟩)
    · split at h
      · cases hx
        obtain ⟨c, e, rfl⟩ := mpd h
        exact .inr (.inr ⟨_, _, c, rfl, rfl, sz_ok (by assumption), e, q _ F H (Grow.refl ef) (.str _)⟩)
      · cases h
    · cases h
  · cases h
section
variable {X : Cx} {a b : Expr} {f g : SE} {pos : Pos}
theorem de_add (ha : DE X a f) (hb : DE X b g) : DE X (.BinOp a .Add b pos) (op2 addD f g) := de_op (op_add.or (op_add_str.or (op_cat.or op_catA))) rd_add ha hb
theorem de_sub (ha : DE X a f) (hb : DE X b g) : DE X (.BinOp a .Sub b pos) (op2 subD f g) := de_op op_sub rd_sub ha hb
theorem de_mul (ha : DE X a f) (hb : DE X b g) : DE X (.BinOp a .Mult b pos) (op2 mulD f g) := de_op op_mul rd_mul ha hb
theorem de_fdiv (ha : DE X a f) (hb : DE X b g) : DE X (.BinOp a .FloorDiv b pos) (op2 fdivD f g) := de_op op_fdiv rd_fdiv ha hb
theorem de_mod (ha : DE X a f) (hb : DE X b g) : DE X (.BinOp a .Mod b pos) (op2 modD f g) := de_op op_mod rd_mod ha hb
theorem de_neg (ha : DE X a f) : DE X (.UnaryOp .USub a pos) (op1 negD f) := de_un un_neg ru_neg ha
theorem de_ixs (ha : DE X a f) (hb : DE X b g) (hs : PlainIx b := by intro _ _; rfl) : DE X (.Subscript a b pos) (op2 ixD f g) := de_ix ix_seq rd_ix ha hb hs
/-- which comparison an operator is -/
structure CmpD (X : Cx) (op : CmpOp) (h : PyData → PyData → Option PyData) : Prop where
  ex : ∃ r, OpR X (compareOp op) r ∧ RD r h
theorem c_lt : CmpD X .Lt ltD := ⟨_, op_lt.or op_lt_str, rd_lt⟩
theorem c_le : CmpD X .LtE leD := ⟨_, op_le, rd_le⟩
theorem c_gt : CmpD X .Gt gtD := ⟨_, op_gt, rd_gt⟩
theorem c_ge : CmpD X .GtE geD := ⟨_, op_ge, rd_ge⟩
theorem c_eq {k : Nat} (hr : Room k X.A) : CmpD X .Eq eqD := ⟨_, op_eqD hr.units, rd_eq⟩
theorem c_ne {k : Nat} (hr : Room k X.A) : CmpD X .NotEq neD := ⟨_, op_neD hr.units, rd_ne⟩
theorem c_is : CmpD X .Is isND := ⟨_, op_isN, rd_isN⟩
theorem de_c {op : CmpOp} {h : PyData → PyData → Option PyData} (c : CmpD X op h) (ha : DE X a f) (hb : DE X b g) (hm : behindInMarks op b = false := by first | exact nomark _ | rfl) : DE X (.Compare a [op] [b] pos) (op2 h f g) :=
  let ⟨_, ho, hr⟩ := c.ex; de_cmp ho hr ha hb hm
theorem dt_c {op : CmpOp} {h : PyData → PyData → Option PyData} (c : CmpD X op h) (ha : DE X a f) (hb : DE X b g) (hm : behindInMarks op b = false := by first | exact nomark _ | rfl) : DT X (.Compare a [op] [b] pos) (tstE (op2 h f g)) :=
  let ⟨_, ho, hr⟩ := c.ex; dt_cmp ho hr ha hb hm
theorem de_ch {op op' : CmpOp} {c : Expr} {k : SE} {h h' : PyData → PyData → Option PyData} (z : CmpD X op h) (z' : CmpD X op' h') (ha : DE X a f) (hb : DE X b g) (hc : DE X c k) (hm : lastMarks [op, op'] [b, c] = false := by with_unfolding_all rfl) :
    DE X (.Compare a [op, op'] [b, c] pos) (chE h h' f g k) := let ⟨_, ho, hr⟩ := z.ex; let ⟨_, ho', hr'⟩ := z'.ex; de_chain ho ho' hr hr' ha hb hc hm
theorem dt_ch {op op' : CmpOp} {c : Expr} {k : SE} {h h' : PyData → PyData → Option PyData} (z : CmpD X op h) (z' : CmpD X op' h') (ha : DE X a f) (hb : DE X b g) (hc : DE X c k) (hm : lastMarks [op, op'] [b, c] = false := by with_unfolding_all rfl) :
    DT X (.Compare a [op, op'] [b, c] pos) (tstE (chE h h' f g k)) := let ⟨_, ho, hr⟩ := z.ex; let ⟨_, ho', hr'⟩ := z'.ex; dt_chain ho ho' hr hr' ha hb hc hm
theorem u65 {A : Around} {k : Nat} (hr : Room k A) : A.units + 65 < cLine := by
  have h1 := hr.un
  omega
theorem c_in {k : Nat} (hr : Room k X.A) : CmpD X .In inD := ⟨_, (op_inD (u65 hr)).or ((op_inT (u65 hr)).or op_in_sign), rd_in⟩
theorem c_ni {k : Nat} (hr : Room k X.A) : CmpD X .NotIn notInD := ⟨_, (op_notInD (u65 hr)).or (op_notInT (u65 hr)), rd_notIn⟩
end
end U
set_option maxHeartbeats 4000000
/-! U4: built-ins, slices, what is walked, comprehensions. -/
namespace U
open PySem PySem.Spec PyProof.Rows L2

/-! ### built-ins -/
def lenD : List PyData → Option PyData
  | [.str x] => if x.length ≤ 100000 then some (.int x.length) else none
  | [.list xs] => some (.int xs.length)
  | [.tuple xs] => some (.int xs.length)
  | _ => none
theorem cd_len {K : PySem.W.Frag} : CD (fun xs H Q => ∃ x n, xs = [x] ∧ LenV K x H n ∧ Q (.int n) H) lenD := by
  intro F H vs ds d Q ef hv h q
  unfold lenD at h
  split at h
  · cases hv with
    | cons h1 h2 => cases h2; cases h1; split at h
                    · cases h; exact ⟨_, _, rfl, ⟨sz_ok (by assumption), rfl⟩, q _ F H (Grow.refl ef) (.int _)⟩
                    · cases h
  · cases h
    cases hv with
    | cons h1 h2 => cases h2; cases h1 with
      | @lst a ws _ h3 h4 => exact ⟨_, _, rfl, .inl ⟨_, SqL.of (ef _ _ h3), rfl⟩, by rw [h4.length]; exact q _ F H (Grow.refl ef) (.int _)⟩
  · cases h
    cases hv with
    | cons h1 h2 => cases h2; cases h1 with
      | @tup a ws _ h3 h4 => exact ⟨_, _, rfl, .inr ⟨_, h3.sq ef, rfl⟩, by rw [h4.length]; exact q _ F H (Grow.refl ef) (.int _)⟩
  · cases h
def tupOfD : List PyData → Option PyData
  | [.list xs] => some (.tuple xs)
  | [.tuple xs] => some (.tuple xs)
  | _ => none
theorem cd_tuple {K : PySem.W.Frag} : CD (fun xs H Q => ∃ p ys, xs = [.ref p] ∧ ((SqL K H p ys ∧ ∀ l, H l = none → Q (.ref l) (upd H l (.tup ys))) ∨ (SqT K H p ys ∧ Q (.ref p) H))) tupOfD := by
  intro F H vs ds d Q ef hv h q
  unfold tupOfD at h
  split at h
  · cases h
    cases hv with
    | cons h1 h2 => cases h2; cases h1 with
      | @lst a ws _ h3 h4 =>
        refine ⟨a, ws, rfl, .inl ⟨SqL.of (ef _ _ h3), fun p hp => ?_⟩⟩
        have g := Grow.laid (o := .tup ws) ef hp
        exact q _ _ _ g (.tup (.inl upd_same) (h4.ex g.ff))
  · cases h
    cases hv with
    | cons h1 h2 => cases h2; cases h1 with
      | @tup a ws _ h3 h4 => exact ⟨a, ws, rfl, .inr ⟨h3.sq ef, q _ F H (Grow.refl ef) (.tup h3 h4)⟩⟩
  · cases h
def asI : PyData → Option Int
  | .int i => some i
  | _ => none
def asS : PyData → Option Str
  | .str i => some i
  | _ => none
def mapO {α β : Type} (f : α → Option β) : List α → Option (List β)
  | [] => some []
  | x :: xs => (f x).bind fun y => (mapO f xs).map fun ys => y :: ys
theorem da_bools {F : Hp} : ∀ {ds : List PyData} {vs : List V} {bs : List Bool}, DaAll F vs ds → mapO asB ds = some bs → vs = bs.map V.bl
  | [], _, _, .nil, h => by cases h; rfl
  | d :: ds, _, bs, .cons h1 h2, h => by
    obtain ⟨b, e1, e⟩ := bnd h
    obtain ⟨r, e2, e3⟩ := mpd e
    subst e3
    rw [da_bools h2 e2]
    cases h1 <;> first | cases e1
    rfl
theorem da_ints {F : Hp} : ∀ {ds : List PyData} {vs : List V} {bs : List Int}, DaAll F vs ds → mapO asI ds = some bs → vs = bs.map V.int
  | [], _, _, .nil, h => by cases h; rfl
  | d :: ds, _, bs, .cons h1 h2, h => by
    obtain ⟨b, e1, e⟩ := bnd h
    obtain ⟨r, e2, e3⟩ := mpd e
    subst e3
    rw [da_ints h2 e2]
    cases h1 <;> first | cases e1
    rfl
theorem da_strs {F : Hp} : ∀ {ds : List PyData} {vs : List V} {bs : List Str}, DaAll F vs ds → mapO asS ds = some bs → vs = bs.map V.str
  | [], _, _, .nil, h => by cases h; rfl
  | d :: ds, _, bs, .cons h1 h2, h => by
    obtain ⟨b, e1, e⟩ := bnd h
    obtain ⟨r, e2, e3⟩ := mpd e
    subst e3
    rw [da_strs h2 e2]
    cases h1 <;> first | cases e1
    rfl
def allD : List PyData → Option PyData
  | [.list xs] => (mapO asB xs).map fun bs => .bool (bs.all id)
  | _ => none
theorem cd_all {K : PySem.W.Frag} : CD (rAll K) allD := by
  intro F H vs ds d Q ef hv h q
  unfold allD at h
  split at h
  · obtain ⟨bs, e, rfl⟩ := mpd h
    cases hv with
    | cons h1 h2 => cases h2; cases h1 with
      | @lst a ws _ h3 h4 =>
        have e' := da_bools h4 e
        subst e'
        exact ⟨a, bs, rfl, SqL.of (ef _ _ h3), q _ F H (Grow.refl ef) (.bl _)⟩
  · cases h
def sumD : List PyData → Option PyData
  | [.list xs] => (mapO asI xs).map fun ns => .int ns.sum
  | _ => none
theorem cd_sum {K : PySem.W.Frag} : CD (rSum K) sumD := by
  intro F H vs ds d Q ef hv h q
  unfold sumD at h
  split at h
  · obtain ⟨bs, e, rfl⟩ := mpd h
    cases hv with
    | cons h1 h2 => cases h2; cases h1 with
      | @lst a ws _ h3 h4 =>
        have e' := da_ints h4 e
        subst e'
        exact ⟨a, bs, rfl, SqL.of (ef _ _ h3), q _ F H (Grow.refl ef) (.int _)⟩
  · cases h
def minD : List PyData → Option PyData
  | [.int i, .int j] => some (.int (if j < i then j else i))
  | _ => none
theorem cd_min : CD (fun xs H Q => ∃ i j, xs = [.int i, .int j] ∧ Q (.int (if j < i then j else i)) H) minD := by
  intro F H vs ds d Q ef hv h q
  unfold minD at h
  split at h
  · cases h
    cases hv with
    | cons h1 h2 => cases h2 with
      | cons h2 h3 => cases h3; cases h1; cases h2; exact ⟨_, _, rfl, q _ F H (Grow.refl ef) (.int _)⟩
  · cases h
/-! isinstance -/
def tyN : PyData → String
  | .none => "NoneType"
  | .bool _ => "bool"
  | .int _ => "int"
  | .str _ => "str"
  | .list _ => "list"
  | .tuple _ => "tuple"
  | .dict _ => "dict"
theorem da_ty {K : PySem.W.Frag} {F H : Hp} (ef : Ex F H) {v : V} {d : PyData} (h : Da F v d) : TyX K H v (.type (tyN d)) := by
  cases h with
  | non => exact .base .non
  | bl b => exact .base (.bl b)
  | int i => exact .base (.int i)
  | str i => exact .base (.str i)
  | lst h k => exact .base (.lst (ef _ _ h))
  | tup h k =>
    rcases h with h | ⟨o, _, h⟩
    · exact .base (.tup (ef _ _ h))
    · exact .fTuple (ef _ _ h)
  | dict h k => exact .base (.dK (ef _ _ h))
def isTy (T : String) (d : PyData) : Bool := decide (tyN d = T) || (decide (T = "int") && decide (tyN d = "bool"))
def tyOk (T : String) : Bool := decide (T ∈ ["int", "bool", "str", "list", "tuple", "dict"])
theorem kit_all {T : String} (h : tyOk T = true) (d : PyData) : kitB (tyN d) T = some (isTy T d) := by
  have hT : T ∈ ["int", "bool", "str", "list", "tuple", "dict"] := of_decide_eq_true h
  have key : ∀ t ∈ ["NoneType", "bool", "int", "str", "list", "tuple", "dict"], ∀ T ∈ ["int", "bool", "str", "list", "tuple", "dict"], kitB t T = some (decide (t = T) || (decide (T = "int") && decide (t = "bool"))) := by
    decide +kernel
  exact key (tyN d) (by cases d <;> simp [tyN]) T hT
def isiD (T : String) : PyData → Option PyData := fun d => some (.bool (isTy T d))
def isi2D (T T' : String) : PyData → Option PyData := fun d => some (.bool (isTy T d || isTy T' d))
section
variable {X : Cx} {a : Expr} {f : SE} {pos p p1 p2 p3 : Pos} {xT xT' : Str} {T T' : String}
theorem de_isi (ha : DE X a f) (hg : Gl X "isinstance") (hm : X.mg "isinstance" = none) (hgT : Gl X xT) (hmT : X.mg xT = none) (hvT : bootBuiltins xT = some (.type T)) (ok : tyOk T = true) (hn : xT ≠ "__name__" := by decide) (hd : (xT == ("__debug__" : Str)) = false := by decide)
    (hs : starEach [a, .Name xT p1] X.env = (false, eval a X.env) :: starEach [.Name xT p1] X.env := by rfl) (hp : (backTo pos (starEach [.Name xT p1] X.env)).any (·.1) = false := by rfl) (hs2 : starEach [.Name xT p1] X.env = (false, eval (.Name xT p1) X.env) :: starEach [] X.env := by rfl) :
    DE X (.Call (.Name "isinstance" p) [a, .Name xT p1] [] pos) (op1 (isiD T) f) :=
  weakE (pe_callB call_isi hg hm (by decide +kernel) (pa_cons ha (pa_cons (pe_bltn (v := .ty T) hgT hmT hvT rfl hn hd) pa_nil hs2) hs) (by decide) (by decide) hs hp) fun σ H Q w => by
    obtain ⟨F, ρ, d, R, e, q⟩ := w
    obtain ⟨x, e1, e2⟩ := bnd e
    cases e2
    exact ⟨F, ρ, x, R, e1, fun v F1 H1 g1 dv => ⟨v, .ty T, _, _, _, rfl, .ty T, da_ty g1.fh dv, kit_ty (kit_all ok x), q _ F1 H1 g1 (.bl _)⟩⟩
theorem de_isi2 {k2 : Nat} (ha : DE X a f) (hg : Gl X "isinstance") (hm : X.mg "isinstance" = none) (hgT : Gl X xT) (hmT : X.mg xT = none) (hvT : bootBuiltins xT = some (.type T)) (ok : tyOk T = true) (hgT' : Gl X xT') (hmT' : X.mg xT' = none) (hvT' : bootBuiltins xT' = some (.type T')) (ok' : tyOk T' = true)
    (hn : xT ≠ "__name__" := by decide) (hd : (xT == ("__debug__" : Str)) = false := by decide) (hn' : xT' ≠ "__name__" := by decide) (hd' : (xT' == ("__debug__" : Str)) = false := by decide)
    (hs : starEach [a, .Tuple [.Name xT p1, .Name xT' p2] k2 p3] X.env = (false, eval a X.env) :: starEach [.Tuple [.Name xT p1, .Name xT' p2] k2 p3] X.env := by rfl) (hp : (backTo pos (starEach [.Tuple [.Name xT p1, .Name xT' p2] k2 p3] X.env)).any (·.1) = false := by rfl)
    (hs2 : starEach [.Tuple [.Name xT p1, .Name xT' p2] k2 p3] X.env = (false, eval (.Tuple [.Name xT p1, .Name xT' p2] k2 p3) X.env) :: starEach [] X.env := by rfl)
    (hs3 : starEach [.Name xT p1, .Name xT' p2] X.env = (false, eval (.Name xT p1) X.env) :: starEach [.Name xT' p2] X.env := by rfl) (hs4 : starEach [.Name xT' p2] X.env = (false, eval (.Name xT' p2) X.env) :: starEach [] X.env := by rfl) :
    DE X (.Call (.Name "isinstance" p) [a, .Tuple [.Name xT p1, .Name xT' p2] k2 p3] [] pos) (op1 (isi2D T T') f) :=
  weakE (pe_callB call_isiT hg hm (by decide +kernel) (pa_cons ha (pa_cons (pe_tup (pa_cons (pe_bltn (v := .ty T) hgT hmT hvT rfl hn hd) (pa_cons (pe_bltn (v := .ty T') hgT' hmT' hvT' rfl hn' hd') pa_nil hs4) hs3)) pa_nil hs2) hs) (by decide) (by decide) hs hp) fun σ H Q w => by
    obtain ⟨F, ρ, d, R, e, q⟩ := w
    obtain ⟨x, e1, e2⟩ := bnd e
    cases e2
    refine ⟨F, ρ, x, R, e1, fun v F1 H1 g1 dv => ⟨by show 2 ≤ sizeLine; decide, fun t ht => ?_⟩⟩
    have g2 : Grow F1 H1 F1 (upd H1 t (.tup [.ty T, .ty T'])) := Grow.side g1.fh ht
    refine ⟨v, t, _, _, [.type T, .type T'], _, rfl, upd_same, .cons (.ty T) (.cons (.ty T') .nil), da_ty g2.fh dv, ?_, q _ F1 _ (g1.trans g2) (.bl _)⟩
    refine kitAny_cons (kit_ty (kit_all ok x)) (fun h => ?_) (fun h => by rw [h]; rfl)
    refine kitAny_cons (kit_ty (kit_all ok' x)) (fun h' => ?_) (fun h' => by rw [h']; simp)
    rw [h, h']; exact kitAny_nil
end

/-! ### slices -/
def cutD (ds : List PyData) (lo hi : Option Int) : List PyData := (ds.drop (HT.sIx ds.length 0 lo)).take (HT.sIx ds.length ds.length hi - HT.sIx ds.length 0 lo)
theorem DaAll.cut {F : Hp} {vs : List V} {ds : List PyData} (h : DaAll F vs ds) (lo hi : Option Int) : DaAll F (cutV vs lo hi) (cutD ds lo hi) := by
  unfold cutV cutD
  rw [h.length]
  exact (h.drop _).take _
abbrev SO := Rho → Option (Option Int)
def noO : SO := fun _ => some none
def someO (f : SE) : SO := fun ρ => (f ρ).bind fun d => (asI d).map some
def tDO (f : SO) : TO := fun σ H Q => ∃ F ρ o, Rep F H σ ρ ∧ f ρ = some o ∧ ∀ F' H', Grow F H F' H' → Q o H'
abbrev DO (X : Cx) (e : Option Expr) (f : SO) : Prop := PO X e (tDO f)
def slD (d : PyData) (lo hi : Option Int) : Option PyData := match d with
  | .list ds => some (.list (cutD ds lo hi))
  | .tuple ds => some (.tuple (cutD ds lo hi))
  | _ => none
def slE (f : SE) (l h : SO) : SE := fun ρ => (f ρ).bind fun d => (l ρ).bind fun lo => (h ρ).bind fun hi => slD d lo hi
section
variable {X : Cx} {a : Expr} {f : SE} {pos p2 : Pos} {lo hi : Option Expr} {l h : SO}
theorem do_none : DO X none noO := ⟨fun pins s σ H Q I w => by
  obtain ⟨F, ρ, o, R, e, q⟩ := w
  cases e
  exact po_none.run pins s σ H Q I (q F H (Grow.refl R.fh))⟩
theorem do_some (ha : DE X a f) : DO X (some a) (someO f) := ⟨fun pins s σ H Q I w => (po_some ha).run pins s σ H Q I (by
  obtain ⟨F, ρ, o, R, e, q⟩ := w
  obtain ⟨d, e1, e⟩ := bnd e
  obtain ⟨i, e2, e3⟩ := mpd e
  subst e3
  refine ⟨F, ρ, d, R, e1, fun v F1 H1 g1 dv => ?_⟩
  cases d with
  | int j => cases e2; cases dv; exact ⟨i, rfl, q F1 H1 g1⟩
  | _ => cases e2)⟩
theorem cut_whole {ds : List PyData} {lo hi : Option Int} (h : HT.sIx ds.length 0 lo = 0 ∧ HT.sIx ds.length ds.length hi = ds.length) : cutD ds lo hi = ds := by
  unfold cutD
  rw [h.1, h.2, List.drop_zero, Nat.sub_zero, List.take_length]
theorem de_slice (ha : DE X a f) (hl : DO X lo l) (hh : DO X hi h) : DE X (.Subscript a (.Slice lo hi none p2) pos) (slE f l h) := weakE (pe_slice (sl_list.or sl_tupA) ha hl hh) fun σ H Q w => by
  obtain ⟨F, ρ, d, R, e, q⟩ := w
  obtain ⟨x, e1, e⟩ := bnd e
  obtain ⟨o1, e2, e⟩ := bnd e
  obtain ⟨o2, e3, e⟩ := bnd e
  refine ⟨F, ρ, x, R, e1, fun v F1 H1 g1 dv => ⟨F1, ρ, o1, R.grow g1, e2, fun F2 H2 g2 => ⟨F2, ρ, o2, R.grow (g1.trans g2), e3, fun F3 H3 g3 => ?_⟩⟩⟩
  have dv3 := dv.ex (g2.ff.trans g3.ff)
  have g := (g1.trans g2).trans g3
  cases x with
  | list ds =>
    cases e
    cases dv3 with
    | @lst a vs _ h1 h2 =>
      refine .inl ⟨a, vs, rfl, SqL.of (g3.fh _ _ h1), fun p hp => ?_⟩
      have g4 := Grow.laid (o := .lst (cutV vs o1 o2)) g3.fh hp
      exact q _ _ _ (g.trans g4) (.lst upd_same ((h2.cut o1 o2).ex g4.ff))
  | tuple ds =>
    cases e
    cases dv3 with
    | @tup a vs _ h1 h2 =>
      refine .inr ⟨a, vs, rfl, h1.sq g3.fh, fun hw => ?_, fun hw p hp => ?_⟩
      · rw [h2.length] at hw
        rw [cut_whole hw] at q
        exact q _ _ _ g (.tup h1 h2)
      · have g4 := Grow.laid (o := .tup (cutV vs o1 o2)) g3.fh hp
        exact q _ _ _ (g.trans g4) (.tup (.inl upd_same) ((h2.cut o1 o2).ex g4.ff))
  | _ => cases e
def revD : PyData → Option PyData
  | .list ds => some (.list ds.reverse)
  | _ => none
theorem de_rev {k : Nat} {p1 p2 p3 : Pos} (ha : DE X a f) : DE X (.Subscript a (.Slice none none (some (.UnaryOp .USub (.Constant (.int 1) k p1) p2)) p3) pos) (op1 revD f) := weakE (pe_revL ha) fun σ H Q w => by
  obtain ⟨F, ρ, d, R, e, q⟩ := w
  obtain ⟨x, e1, e⟩ := bnd e
  refine ⟨F, ρ, x, R, e1, fun v F1 H1 g1 dv => ?_⟩
  cases x with
  | list ds =>
    cases e
    cases dv with
    | @lst a vs _ h1 h2 =>
      refine ⟨a, vs, rfl, SqL.of (g1.fh _ _ h1), fun p hp => ?_⟩
      have g4 := Grow.laid (o := .lst vs.reverse) g1.fh hp
      exact q _ _ _ (g1.trans g4) (.lst upd_same (h2.rev.ex g4.ff))
  | _ => cases e
end
end U
set_option maxHeartbeats 4000000
/-! U5: what is walked, comprehensions. -/
namespace U
open PySem PySem.Spec PyProof.Rows L2

/-- the iterator J gives the data ds, one after another, over every heap that has grown from F1 -/
def Wk (J : It) (F1 : Hp) (ds : List PyData) : Prop := ∃ (G : Hp → Prop) (Y : Nat → Hp → V → Hp → Prop), Walk J ds.length G Y ∧ (∀ F' H', Ex F1 F' → Ex F' H' → G H') ∧
  ∀ i F' H' x H'', i < ds.length → Ex F1 F' → Ex F' H' → Y i H' x H'' → ∃ F'' d, Grow F' H' F'' H'' ∧ ds[i]? = some d ∧ Da F'' x d
def tDI (f : SA) : TI := fun σ H R => ∃ F ρ ds, Rep F H σ ρ ∧ f ρ = some ds ∧ ∀ J F1 H1, Grow F H F1 H1 → Wk J F1 ds → R J H1
abbrev DI (X : Cx) (tg e : Expr) (f : SA) : Prop := PI X tg e (tDI f)
theorem weakI {X : Cx} {tg e : Expr} {t t' : TI} (h : PI X tg e t) (w : ∀ σ H R, t' σ H R → t σ H R) : PI X tg e t' := ⟨fun pins s σ H R I q => h.run pins s σ H R I (w σ H R q)⟩
theorem orI {X : Cx} {tg e : Expr} {t t' : TI} (h : PI X tg e t) (h' : PI X tg e t') : PI X tg e (fun σ H R => t σ H R ∨ t' σ H R) := ⟨fun pins s σ H R I q => q.elim (h.run pins s σ H R I) (h'.run pins s σ H R I)⟩

theorem wk_list {K : PySem.W.Frag} {F : Hp} {a : Addr} {vs : List V} {ds : List PyData} (h : F a = some (.lst vs)) (k : DaAll F vs ds) : Wk (Itl K a) F ds := by
  refine ⟨_, _, by rw [← k.length]; exact walk_list, fun F' H' e1 e2 => SqL.of (e2 _ _ (e1 _ _ h)), fun i F' H' x H'' hi e1 e2 y => ?_⟩
  obtain ⟨rfl, y⟩ := y
  obtain ⟨d, hd, dx⟩ := k.get y
  exact ⟨F', d, Grow.refl e2, hd, dx.ex e1⟩
theorem wk_tup {K : PySem.W.Frag} {F : Hp} {a : Addr} {vs : List V} {ds : List PyData} (h : IsT F a vs) (k : DaAll F vs ds) : Wk (Itt K a) F ds := by
  refine ⟨_, _, by rw [← k.length]; exact walk_tup, fun F' H' e1 e2 => (h.ex e1).sq e2, fun i F' H' x H'' hi e1 e2 y => ?_⟩
  obtain ⟨rfl, y⟩ := y
  obtain ⟨d, hd, dx⟩ := k.get y
  exact ⟨F', d, Grow.refl e2, hd, dx.ex e1⟩
def signsOf (z : Str) : List PyData := z.cps.toList.map fun c => .str ⟨#[c]⟩
theorem wk_str {F : Hp} {z : Str} : Wk (Its z) F (signsOf z) := by
  have hl : (signsOf z).length = z.cps.size := by unfold signsOf; simp
  refine ⟨_, _, by rw [hl]; exact walk_str, fun F' H' e1 e2 => trivial, fun i F' H' x H'' hi e1 e2 y => ?_⟩
  obtain ⟨rfl, c, hc, rfl⟩ := y
  refine ⟨F', .str ⟨#[c]⟩, Grow.refl e2, ?_, .str _⟩
  unfold signsOf
  rw [List.getElem?_map, Array.getElem?_toList, hc] <;> rfl
def seqItems : PyData → Option (List PyData)
  | .list xs => some xs
  | .tuple xs => some xs
  | .str z => some (signsOf z)
  | _ => none
def itE (f : SE) : SA := fun ρ => (f ρ).bind seqItems
def rangeOf (n : Int) : List PyData := (List.range n.toNat).map fun i => .int (i : Nat)
def rngL (f : SE) : SA := fun ρ => (f ρ).bind fun d => (asI d).bind fun n => if -100000 ≤ n ∧ n ≤ 100000 then some (rangeOf n) else none
def enumOf (ds : List PyData) : List PyData := ds.zipIdx.map fun p => .tuple [.int (p.2 : Nat), p.1]
def enumL (f : SE) : SA := fun ρ => (f ρ).bind fun d => (itemsOf d).map enumOf
def zip2D : PyData → PyData → Option (List PyData)
  | .list xs, .list ys => some ((xs.zip ys).map fun p => .tuple [p.1, p.2])
  | .tuple xs, .tuple ys => some ((xs.zip ys).map fun p => .tuple [p.1, p.2])
  | _, _ => none
def zipL (f g : SE) : SA := fun ρ => (f ρ).bind fun x => (g ρ).bind fun y => zip2D x y
def revL (f : SE) : SA := fun ρ => (f ρ).bind fun d => (itemsOf d).map List.reverse
section
variable {X : Cx} {a b e tg : Expr} {f g : SE} {pos p : Pos}
theorem di_seq (ha : DE X a f) : DI X tg a (itE f) := weakI (orI (pi_list ha) (orI (pi_tup ha) (pi_str ha))) fun σ H R w => by
  obtain ⟨F, ρ, ds, Re, e, q⟩ := w
  obtain ⟨x, e1, e2⟩ := bnd e
  cases x with
  | list xs =>
    cases e2
    refine .inl ⟨F, ρ, _, Re, e1, fun v F1 H1 g1 dv => ?_⟩
    cases dv with
    | @lst a vs _ h1 h2 => exact ⟨a, rfl, ⟨vs, SqL.of (g1.fh _ _ h1)⟩, q _ F1 H1 g1 (wk_list h1 h2)⟩
  | tuple xs =>
    cases e2
    refine .inr (.inl ⟨F, ρ, _, Re, e1, fun v F1 H1 g1 dv => ?_⟩)
    cases dv with
    | @tup a vs _ h1 h2 => exact ⟨a, rfl, ⟨vs, h1.sq g1.fh⟩, q _ F1 H1 g1 (wk_tup h1 h2)⟩
  | str z =>
    cases e2
    refine .inr (.inr ⟨F, ρ, _, Re, e1, fun v F1 H1 g1 dv => ?_⟩)
    cases dv
    exact ⟨z, rfl, q _ F1 H1 g1 wk_str⟩
  | _ => cases e2
theorem di_range (hg : Gl X "range") (hm : X.mg "range" = none) (ha : DE X a f) (hs : starEach [a] X.env = [(false, eval a X.env)] := by rfl) : DI X tg (.Call (.Name "range" p) [a] [] pos) (rngL f) := weakI (pi_range1 hg hm (pa_cons ha pa_nil hs) hs) fun σ H R w => by
  obtain ⟨F, ρ, ds, Re, e, q⟩ := w
  obtain ⟨x, e1, e⟩ := bnd e
  obtain ⟨n, e2, e⟩ := bnd e
  split at e
  · rename_i c
    cases e
    have ex : x = .int n := by
      cases x <;> first | cases e2
      rfl
    subst ex
    refine ⟨F, ρ, _, Re, e1, fun v F1 H1 g1 dv => ?_⟩
    cases dv
    refine ⟨n, rfl, by omega, by omega, q _ F1 H1 g1 ?_⟩
    have hl : (rangeOf n).length = n.toNat := by unfold rangeOf; simp
    refine ⟨_, _, by rw [hl]; exact walk_range, fun _ _ _ _ => trivial, fun i F' H' x H'' hi e1 e2 y => ?_⟩
    obtain ⟨rfl, rfl⟩ := y
    rw [hl] at hi
    refine ⟨F', .int (i : Nat), Grow.refl e2, ?_, by show Da F' (.int (0 + (i : Int))) _; rw [Int.zero_add]; exact .int _⟩
    unfold rangeOf
    rw [List.getElem?_map, List.getElem?_range hi] <;> rfl
  · cases e
theorem walk_zipT {K : PySem.W.Frag} {a b : Addr} {xs ys : List V} {n : Nat} (hn : n = min xs.length ys.length) : Walk (RZ.ItzT K a b) n (fun H => SqT K H a xs ∧ SqT K H b ys) (YPair (fun i => xs[i]?) (fun i => ys[i]?)) := by
  subst hn
  refine ⟨fun i H hi q => ⟨xs, ys, xs[i]'(by omega), ys[i]'(by omega), q.1, q.2, by simp, by simp⟩, fun H q => ⟨xs, ys, q.1, q.2, by omega⟩, fun i H v H' _ q y => ?_⟩
  obtain ⟨T, x, z, h1, h2, h3, h4, h5⟩ := y
  exact ⟨T, x, z, h1, h2, h3, h4 xs q.1, h5 ys q.2⟩
theorem wk_pair {J : It} {F : Hp} {xs ys : List PyData} {vs ws : List V} {G : Hp → Prop} (w : Walk J (min vs.length ws.length) G (YPair (fun i => vs[i]?) (fun i => ws[i]?))) (hG : ∀ F' H', Ex F F' → Ex F' H' → G H') (h1 : DaAll F vs xs) (h2 : DaAll F ws ys) :
    Wk J F ((xs.zip ys).map fun p => .tuple [p.1, p.2]) := by
  have hl : ((xs.zip ys).map fun p : PyData × PyData => PyData.tuple [p.1, p.2]).length = min vs.length ws.length := by
    rw [List.length_map, List.length_zip, h1.length, h2.length]
  refine ⟨G, _, by rw [hl]; exact w, hG, fun i F' H' x H'' hi e1 e2 y => ?_⟩
  obtain ⟨T, u, v, rfl, hT, rfl, hu, hv⟩ := y
  obtain ⟨d1, q1, k1⟩ := h1.get hu
  obtain ⟨d2, q2, k2⟩ := h2.get hv
  have g := Grow.laid (o := .tup [u, v]) e2 hT
  refine ⟨_, .tuple [d1, d2], g, ?_, .tup (.inl upd_same) (.cons (k1.ex (e1.trans g.ff)) (.cons (k2.ex (e1.trans g.ff)) .nil))⟩
  rw [List.getElem?_map, (List.getElem?_zip_eq_some (z := (d1, d2))).mpr ⟨q1, q2⟩] <;> rfl
theorem di_zip {elts : List Expr} {kk : Nat} {tpos : Pos} (hg : Gl X "zip") (hm : X.mg "zip" = none) (ha : DE X a f) (hb : DE X b g)
    (hs : starEach [a, b] X.env = (false, eval a X.env) :: starEach [b] X.env := by rfl) (hs2 : starEach [b] X.env = (false, eval b X.env) :: starEach [] X.env := by rfl) (hpl : (backTo pos (starEach [b] X.env)).any (·.1) = false := by rfl) :
    DI X (.Tuple elts kk tpos) (.Call (.Name "zip" p) [a, b] [] pos) (zipL f g) := weakI (RZ.pi_zipA hg hm (pa_cons ha (pa_cons hb pa_nil hs2) hs) hs hpl) fun σ H R w => by
  obtain ⟨F, ρ, ds, Re, e, q⟩ := w
  obtain ⟨x, e1, e⟩ := bnd e
  obtain ⟨y, e2, e⟩ := bnd e
  refine ⟨F, ρ, x, Re, e1, fun v F1 H1 g1 dv => ⟨F1, ρ, y, Re.grow g1, e2, fun u F2 H2 g2 du => ?_⟩⟩
  unfold zip2D at e
  split at e
  · cases e
    cases dv.ex g2.ff with
    | @lst a vs _ h1 h2 => cases du with
      | @lst b ws _ h3 h4 =>
        exact ⟨a, b, vs, ws, rfl, .inl ⟨SqL.of (g2.fh _ _ h1), SqL.of (g2.fh _ _ h3), q _ F2 H2 (g1.trans g2) (wk_pair (walk_zip rfl) (fun F' H' x1 x2 => ⟨SqL.of (x2 _ _ (x1 _ _ h1)), SqL.of (x2 _ _ (x1 _ _ h3))⟩) h2 h4)⟩⟩
  · cases e
    cases dv.ex g2.ff with
    | @tup a vs _ h1 h2 => cases du with
      | @tup b ws _ h3 h4 =>
        exact ⟨a, b, vs, ws, rfl, .inr ⟨h1.sq g2.fh, h3.sq g2.fh, q _ F2 H2 (g1.trans g2) (wk_pair (walk_zipT rfl) (fun F' H' x1 x2 => ⟨(h1.ex x1).sq x2, (h3.ex x1).sq x2⟩) h2 h4)⟩⟩
  · cases e
theorem walk_revT {K : PySem.W.Frag} {a : Addr} {xs : List V} : Walk (RT.ItvT K a xs.length) xs.length (fun H => SqT K H a xs) (fun i H x H' => H' = H ∧ xs[xs.length - 1 - i]? = some x) :=
  ⟨fun i _ hi q => ⟨hi, xs, xs[xs.length - 1 - i]'(by omega), q, by simp [show xs.length - 1 - i < xs.length by omega]⟩, fun _ _ => Nat.le_refl _, fun _ _ _ _ _ q y => ⟨y.1, y.2 xs q⟩⟩
theorem wk_rev {J : It} {F : Hp} {xs : List PyData} {vs : List V} {G : Hp → Prop} (w : Walk J vs.length G (fun i H x H' => H' = H ∧ vs[vs.length - 1 - i]? = some x)) (hG : ∀ F' H', Ex F F' → Ex F' H' → G H') (h1 : DaAll F vs xs) : Wk J F xs.reverse := by
  refine ⟨G, _, by rw [List.length_reverse, ← h1.length]; exact w, hG, fun i F' H' x H'' hi e1 e2 y => ?_⟩
  obtain ⟨rfl, hx⟩ := y
  obtain ⟨d, q, k⟩ := h1.get hx
  refine ⟨F', d, Grow.refl e2, ?_, k.ex e1⟩
  rw [List.length_reverse] at hi
  rw [List.getElem?_reverse hi, ← h1.length]
  exact q
theorem di_rev (hg : Gl X "reversed") (hm : X.mg "reversed" = none) (ha : DE X a f) (hs : starEach [a] X.env = (false, eval a X.env) :: starEach [] X.env := by rfl) : DI X tg (.Call (.Name "reversed" p) [a] [] pos) (revL f) := weakI (RT.pi_revA hg hm ha hs) fun σ H R w => by
  obtain ⟨F, ρ, ds, Re, e, q⟩ := w
  obtain ⟨x, e1, e⟩ := bnd e
  obtain ⟨xs, e2, e3⟩ := mpd e
  subst e3
  refine ⟨F, ρ, x, Re, e1, fun v F1 H1 g1 dv => ?_⟩
  cases x with
  | list ys =>
    cases e2
    cases dv with
    | @lst a vs _ h1 h2 => exact ⟨a, vs, rfl, .inl ⟨SqL.of (g1.fh _ _ h1), q _ F1 H1 g1 (wk_rev walk_rev (fun F' H' x1 x2 => SqL.of (x2 _ _ (x1 _ _ h1))) h2)⟩⟩
  | tuple ys =>
    cases e2
    cases dv with
    | @tup a vs _ h1 h2 => exact ⟨a, vs, rfl, .inr ⟨h1.sq g1.fh, q _ F1 H1 g1 (wk_rev walk_revT (fun F' H' x1 x2 => (h1.ex x1).sq x2) h2)⟩⟩
  | _ => cases e2
end

/-! ### targets -/
abbrev SG := PyData → Rho → Option Rho
def gN (i : Nat) : SG := fun d ρ => some (ρ.set i (some (.dat d)))
def gT2 (i j : Nat) : SG := fun d ρ => match d with
  | .tuple [a, b] => some ((ρ.set i (some (.dat a))).set j (some (.dat b)))
  | _ => none
def gT3 (i j k : Nat) : SG := fun d ρ => match d with
  | .tuple [a, b, c] => some (((ρ.set i (some (.dat a))).set j (some (.dat b))).set k (some (.dat c)))
  | _ => none
def tDG (g : SG) (ix : List Nat) : TG := fun v σ H Q => ∃ F ρ d ρ', Rep F H σ ρ ∧ Da F v d ∧ g d ρ = some ρ' ∧
  ∀ σ', Rep F H σ' ρ' → σ'.length = σ.length → (∀ i, i ∉ ix → σ'[i]? = σ[i]?) → (∀ H0, OwnNew H0 σ ρ → OwnNew H0 σ' ρ') → Q σ' H
abbrev DG (X : Cx) (e : Expr) (g : SG) (ix : List Nat) : Prop := PG X e (tDG g ix)
theorem weakG {X : Cx} {e : Expr} {t t' : TG} (h : PG X e t) (w : ∀ v σ H Q, t' v σ H Q → t v σ H Q) : PG X e t' := ⟨fun pins s σ H v u Q I r q => h.run pins s σ H v u Q I r (w v σ H Q q)⟩
section
variable {X : Cx} {pos p p1 p2 p3 : Pos} {i j k : Nat} {x y z : Str}
theorem dg_name (hN : X.N.Nodup) (hi : X.N[i]? = some x) (hx : Loc X.env.scope x) (hf : X.fn x = true ∨ X.env.scope.names.lookup x = some .local := by first | exact .inl rfl | exact .inr rfl | assumption) : DG X (.Name x pos) (gN i) [i] :=
  weakG (pg_name hN hi hx hf) fun v σ H Q w => by
    obtain ⟨F, ρ, d, ρ', R, dv, e, q⟩ := w
    cases e
    exact q _ (R.setDat i dv) (by simp) (fun m hm => setNe (by simpa using hm)) fun H0 o => o.setDat i
theorem dg_tup2 {kk : Nat} (hc : X.calm = true) (hN : X.N.Nodup) (hi : X.N[i]? = some x) (hx : Loc X.env.scope x) (hj : X.N[j]? = some y) (hy : Loc X.env.scope y)
    (hf : X.fn x = true ∨ X.env.scope.names.lookup x = some .local := by first | exact .inl rfl | exact .inr rfl | assumption) (hf2 : X.fn y = true ∨ X.env.scope.names.lookup y = some .local := by first | exact .inl rfl | exact .inr rfl | assumption) : DG X (.Tuple [.Name x p1, .Name y p2] kk pos) (gT2 i j) [i, j] :=
  weakG (pg_tup (n := 2) hc (pgs_cons (pg_name hN hi hx hf) (pgs_cons (pg_name hN hj hy hf2) pgs_nil))) fun v σ H Q w => by
    obtain ⟨F, ρ, d, ρ', R, dv, e, q⟩ := w
    unfold gT2 at e
    split at e
    · cases e
      cases dv with
      | @tup a vs _ h1 h2 => cases h2 with
        | cons ka h2 => cases h2 with
          | cons kb h2 =>
            cases h2
            refine ⟨a, _, rfl, h1.sq R.fh, rfl, _, _, rfl, _, _, rfl, rfl, ?_⟩
            exact q _ ((R.setDat i ka).setDat j kb) (by simp) (fun m hm => by
              rw [List.mem_cons, List.mem_cons, not_or, not_or] at hm
              rw [setNe hm.2.1, setNe hm.1]) fun H0 o => (o.setDat i).setDat j
    · cases e
theorem dg_tup3 {kk : Nat} (hc : X.calm = true) (hN : X.N.Nodup) (hi : X.N[i]? = some x) (hx : Loc X.env.scope x) (hj : X.N[j]? = some y) (hy : Loc X.env.scope y) (hk : X.N[k]? = some z) (hz : Loc X.env.scope z)
    (hf : X.fn x = true ∨ X.env.scope.names.lookup x = some .local := by first | exact .inl rfl | exact .inr rfl | assumption) (hf2 : X.fn y = true ∨ X.env.scope.names.lookup y = some .local := by first | exact .inl rfl | exact .inr rfl | assumption)
    (hf3 : X.fn z = true ∨ X.env.scope.names.lookup z = some .local := by first | exact .inl rfl | exact .inr rfl | assumption) : DG X (.Tuple [.Name x p1, .Name y p2, .Name z p3] kk pos) (gT3 i j k) [i, j, k] :=
  weakG (pg_tup (n := 3) hc (pgs_cons (pg_name hN hi hx hf) (pgs_cons (pg_name hN hj hy hf2) (pgs_cons (pg_name hN hk hz hf3) pgs_nil)))) fun v σ H Q w => by
    obtain ⟨F, ρ, d, ρ', R, dv, e, q⟩ := w
    unfold gT3 at e
    split at e
    · cases e
      cases dv with
      | @tup a vs _ h1 h2 => cases h2 with
        | cons ka h2 => cases h2 with
          | cons kb h2 => cases h2 with
            | cons kc h2 =>
              cases h2
              refine ⟨a, _, rfl, h1.sq R.fh, rfl, _, _, rfl, _, _, rfl, _, _, rfl, rfl, ?_⟩
              exact q _ (((R.setDat i ka).setDat j kb).setDat k kc) (by simp) (fun m hm => by
                rw [List.mem_cons, List.mem_cons, List.mem_cons, not_or, not_or, not_or] at hm
                rw [setNe hm.2.2.1, setNe hm.2.1, setNe hm.1]) fun H0 o => ((o.setDat i).setDat j).setDat k
    · cases e
end

/-! ### comprehensions -/
theorem wipe_in {σ : L2.St} {i : Nat} : ∀ {vs : List Nat}, i ∈ vs → (L2.wipe σ vs)[i]? = if i < σ.length then some none else none
  | v :: vs, h => by
    unfold L2.wipe
    by_cases e : i = v
    · subst e
      rw [List.getElem?_set]
      simp [wipe_length]
    · have h' : i ∈ vs := by
        rcases List.mem_cons.mp h with z | z
        · exact absurd z e
        · exact z
      rw [setNe e]
      exact wipe_in h'
theorem wipe_eq {σ σ2 : L2.St} {vs : List Nat} (hl : σ2.length = σ.length) (h : ∀ i, i ∉ vs → σ2[i]? = σ[i]?) : L2.wipe σ2 vs = L2.wipe σ vs := by
  apply List.ext_getElem?
  intro i
  by_cases hi : i ∈ vs
  · rw [wipe_in hi, wipe_in hi, hl]
  · rw [wipe_out hi, wipe_out hi]
    exact h i hi
def lcR (g : SG) (t : ST) (e : SE) (ρ : Rho) : List PyData → Option (List PyData)
  | [] => some []
  | x :: xs => (g x ρ).bind fun ρ1 => (t ρ1).bind fun b => if b = true then (e ρ1).bind fun y => (lcR g t e ρ xs).map fun ys => y :: ys else lcR g t e ρ xs
def lcL (it : SA) (g : SG) (t : ST) (e : SE) (vs : List Nat) : SA := fun ρ => (it ρ).bind fun ds => (lim ds).bind fun ds => lcR g t e (wipeR ρ vs) ds
def lcR2 (g : SG) (t : ST) (it1 : SA) (g1 : SG) (t1 : ST) (e : SE) (vs1 : List Nat) (ρ : Rho) : List PyData → Option (List PyData)
  | [] => some []
  | x :: xs => (g x ρ).bind fun ρ1 => (t ρ1).bind fun b => if b = true then (it1 ρ1).bind fun ds => (lim ds).bind fun ds => (lcR g1 t1 e (wipeR ρ1 vs1) ds).bind fun ys => (lcR2 g t it1 g1 t1 e vs1 ρ xs).map fun zs => ys ++ zs else lcR2 g t it1 g1 t1 e vs1 ρ xs
def lcL2 (it : SA) (g : SG) (t : ST) (it1 : SA) (g1 : SG) (t1 : ST) (e : SE) (vs vs1 : List Nat) : SA := fun ρ => (it ρ).bind fun ds => (lim ds).bind fun ds => (lcR2 g t it1 g1 t1 e vs1 (wipeR ρ vs) ds).bind lim
def tDTs (f : ST) : TT := tDT f
abbrev DTs (X : Cx) (ifs : List Expr) (f : ST) : Prop := PTs X ifs (tDT f)
theorem dts_nil {X : Cx} : DTs X [] yesT := ⟨fun pins s σ H Q I w => pts_nil.run pins s σ H Q I (by
  obtain ⟨F, ρ, b, R, e, q⟩ := w
  cases e
  exact q F H (Grow.refl R.fh))⟩
theorem dts_one {X : Cx} {c : Expr} {t : ST} (h : DT X c t) : DTs X [c] t := pts_one h
theorem go_it {J : It} {n : Nat} {G : Hp → Prop} {Y : Nat → Hp → V → Hp → Prop} (w : Walk J n G Y) (B : V → Hp → (Hp → Prop) → Prop) {H0 : Hp} {Qd : Hp → Prop} (Pv : Nat → Hp → Prop) (h0 : Pv 0 H0) (hG : ∀ i H, i ≤ n → Pv i H → G H)
    (hs : ∀ i x H H', i < n → Pv i H → Y i H x H' → B x H' (Pv (i + 1))) (hd : ∀ H, Pv n H → Qd H) :
    ∃ W : Nat → Nat → Hp → Prop, (∃ m, W 0 m H0) ∧ ∀ i m H, W i m H → (J.stop i H ∧ Qd H) ∨ (J.go i H ∧ ∃ Nx : Hp → Prop, (∀ H', Nx H' → ∃ m', m' < m ∧ W (i + 1) m' H') ∧ ∀ x H', J.yld i H x H' → B x H' Nx) := by
  refine ⟨fun i m H => m = n - i ∧ i ≤ n ∧ Pv i H, ⟨n, by simp, Nat.zero_le _, h0⟩, ?_⟩
  rintro i m H ⟨rfl, hi, p⟩
  have q := hG i H hi p
  by_cases hlt : i < n
  · exact .inr ⟨w.goes i H hlt q, Pv (i + 1), fun H' p' => ⟨n - (i + 1), by omega, rfl, hlt, p'⟩, fun x H' y => hs i x H H' hlt p (w.yields i H x H' hlt q y)⟩
  · have e : i = n := by omega
    subst e
    exact .inl ⟨w.stops H q, hd H p⟩
/-- the list at Dl grows: done so far, rest to come -/
structure Lc (F1 H1 : Hp) (Dl : Addr) (done : List PyData) (F' H' : Hp) : Prop where
  g : Grow F1 H1 F' H'
  n1 : H1 Dl = none
  nf : F' Dl = none
  at_ : ∃ ac, H' Dl = some (.lst ac) ∧ DaAll F' ac done
theorem Lc.grow {F1 H1 F' H' F'' H'' : Hp} {Dl : Addr} {done : List PyData} (l : Lc F1 H1 Dl done F' H') (k : Grow F' H' F'' H'') : Lc F1 H1 Dl done F'' H'' := by
  obtain ⟨ac, h, d⟩ := l.at_
  exact ⟨l.g.trans k, l.n1, k.free l.nf h, ac, k.hh _ _ h, d.ex k.ff⟩
theorem Lc.push {F1 H1 F' H' : Hp} {Dl : Addr} {done : List PyData} {y : V} {d : PyData} (l : Lc F1 H1 Dl done F' H') (hy : Da F' y d) : ∃ ac, H' Dl = some (.lst ac) ∧ ac.length = done.length ∧ Lc F1 H1 Dl (done ++ [d]) F' (upd H' Dl (.lst (ac ++ [y]))) := by
  obtain ⟨ac, h, dd⟩ := l.at_
  exact ⟨ac, h, dd.length, l.g.mut l.n1 l.nf, l.n1, l.nf, _, upd_same, dd.app (.cons hy .nil)⟩
theorem lcR_len {g : SG} {t : ST} {e : SE} {ρ : Rho} : ∀ {ds ys : List PyData}, lcR g t e ρ ds = some ys → ys.length ≤ ds.length
  | [], _, h => by cases h; exact Nat.le_refl _
  | x :: xs, ys, h => by
    obtain ⟨ρ1, _, h⟩ := bnd h
    obtain ⟨b, _, h⟩ := bnd h
    cases b with
    | true =>
      have h : (e ρ1).bind (fun y => (lcR g t e ρ xs).map fun ys => y :: ys) = some ys := h
      obtain ⟨y, _, h⟩ := bnd h
      obtain ⟨zs, h1, h2⟩ := mpd h
      subst h2
      have := lcR_len h1
      simp only [List.length_cons]; omega
    | false =>
      have h : lcR g t e ρ xs = some ys := h
      have := lcR_len h
      simp only [List.length_cons]; omega
/-- growth but at Dl -/
structure Gb (Dl : Addr) (F H F' H' : Hp) : Prop where
  ff : Ex F F'
  fh : Ex F' H'
  hh : ∀ a o, a ≠ Dl → H a = some o → H' a = some o
  nw : ∀ a o, F' a = some o → F a = some o ∨ H a = none
  nd : F' Dl = none
theorem Gb.of {Dl : Addr} {F H F' H' : Hp} (g : Grow F H F' H') (h : F' Dl = none) : Gb Dl F H F' H' := ⟨g.ff, g.fh, fun a o _ e => g.hh a o e, g.nw, h⟩
theorem Gb.trans {Dl : Addr} {F H F1 H1 F2 H2 : Hp} (g : Gb Dl F H F1 H1) (k : Gb Dl F1 H1 F2 H2) : Gb Dl F H F2 H2 :=
  ⟨g.ff.trans k.ff, k.fh, fun a o n e => k.hh a o n (g.hh a o n e), fun a o e => by
    have hn : a ≠ Dl := fun z => by subst z; rw [k.nd] at e; cases e
    rcases k.nw a o e with z | z
    · exact g.nw a o z
    · refine .inr ?_
      cases q : H a with
      | none => rfl
      | some u => (rw [g.hh a u hn q] at z; cases z), k.nd⟩
theorem Gb.mut {Dl : Addr} {F H F' H' : Hp} {o : HO} (g : Gb Dl F H F' H') : Gb Dl F H F' (upd H' Dl o) :=
  ⟨g.ff, g.fh.mut g.nd, fun a u n e => by rw [upd_ne n]; exact g.hh a u n e, g.nw, g.nd⟩
theorem Rep.gb {Dl : Addr} {F H F' H' : Hp} {σ : L2.St} {ρ : Rho} (R : Rep F H σ ρ) (g : Gb Dl F H F' H') (hn : ∀ (i : Nat) (xs : List PyData), ρ[i]? = some (some (.own xs)) → σ[i]? ≠ some (some (.ref Dl))) : Rep F' H' σ ρ :=
  ⟨g.fh, R.len, fun i d e => by
    obtain ⟨v, h1, h2⟩ := R.dat i d e
    exact ⟨v, h1, h2.ex g.ff⟩, fun i d e => by
    obtain ⟨v, h1, h2⟩ := R.nt i d e
    exact ⟨v, h1, h2.ex g.ff⟩, fun i xs e => by
    obtain ⟨p, vs, h1, h2, h3, h4⟩ := R.own i xs e
    have hp : p ≠ Dl := fun z => by subst z; exact hn i xs e h1
    refine ⟨p, vs, h1, g.hh _ _ hp h2, ?_, h4.ex g.ff⟩
    cases q : F' p with
    | none => rfl
    | some u =>
      rcases g.nw p u q with z | z
      · rw [h3] at z; cases z
      · (rw [h2] at z; cases z), R.apart⟩
def only (Dl : Addr) : Hp := fun a => if a = Dl then some (.lst []) else none
theorem only_ne {Dl p : Addr} (h : only Dl p = none) : p ≠ Dl := fun z => by subst z; unfold only at h; rw [if_pos rfl] at h; cases h
theorem only_of {Dl p : Addr} (h : p ≠ Dl) : only Dl p = none := by unfold only; rw [if_neg h]
/-- one turn -/
theorem lc_turn {σ : L2.St} {ρ0 : Rho} {vs : List Nat} {g : SG} {ix : List Nat} {t : ST} {e : SE} {F1 H1 F' H' : Hp} {Dl : Addr} {done : List PyData} {x : V} {d : PyData} {xs ys : List PyData} {N : List PyData → List PyData → Hp → Prop}
    (l : Lc F1 H1 Dl done F' H') (R : Rep F' H' σ ρ0) (hix : ∀ i ∈ ix, i ∈ vs) (dx : Da F' x d) (h : lcR g t e ρ0 (d :: xs) = some ys) (hz : done.length + ys.length ≤ 100000)
    (hN : ∀ dn rest F'' H'', Lc F1 H1 Dl (done ++ dn) F'' H'' → Gb Dl F' H' F'' H'' → lcR g t e ρ0 xs = some rest → ys = dn ++ rest → N dn rest H'') (Nx : Hp → Prop) (hNx : ∀ dn rest H'', N dn rest H'' → Nx H'') :
    tDG g ix x σ H' fun σ2 H2 => L2.wipe σ2 vs = L2.wipe σ vs ∧ tDT t σ2 H2 fun b H3 => if b = true then tD e σ2 H3 fun y H4 => ∃ acc, H4 Dl = some (.lst acc) ∧ acc.length < sizeLine ∧ Nx (upd H4 Dl (.lst (acc ++ [y]))) else Nx H3 := by
  obtain ⟨ρ1, e1, h1⟩ := bnd h
  obtain ⟨b, e2, h2⟩ := bnd h1
  clear h h1
  refine ⟨F', ρ0, d, ρ1, R, dx, e1, fun σ' R1 hl hk _ => ⟨wipe_eq hl fun i hi => hk i fun z => hi (hix i z), ?_⟩⟩
  refine ⟨F', ρ1, b, R1, e2, fun F2 H2 g2 => ?_⟩
  cases b with
  | true =>
    have h2 : (e ρ1).bind (fun y => (lcR g t e ρ0 xs).map fun ys => y :: ys) = some ys := h2
    obtain ⟨y, e3, h3⟩ := bnd h2
    obtain ⟨rest, e4, h4⟩ := mpd h3
    subst h4
    refine ⟨F2, ρ1, y, R1.grow g2, e3, fun v F3 H3 g3 dv => ?_⟩
    obtain ⟨ac, q1, q2, q3⟩ := (l.grow (g2.trans g3)).push dv
    rw [List.length_cons] at hz
    exact ⟨ac, q1, sz_lt (by omega), hNx _ _ _ (hN [y] rest F3 _ q3 (Gb.mut (Gb.of (g2.trans g3) q3.nf)) e4 rfl)⟩
  | false =>
    have h2 : lcR g t e ρ0 xs = some ys := h2
    exact hNx _ _ _ (hN [] ys F2 H2 (by rw [List.append_nil]; exact l.grow g2) (Gb.of g2 (l.grow g2).nf) h2 rfl)
theorem drop_at {α : Type} {l : List α} {i : Nat} {d : α} (h : l[i]? = some d) : l.drop i = d :: l.drop (i + 1) := by
  obtain ⟨hl, e⟩ := List.getElem?_eq_some_iff.mp h
  rw [List.drop_eq_getElem_cons hl, e]
section
variable {X : Cx} {elt tg iter : Expr} {ifs : List Expr} {scope : Scope} {own : List (Str × Nat)} {pos : Pos} {it : SA} {g : SG} {ix : List Nat} {t : ST} {e : SE}
theorem lc_read {σ : L2.St} {H : Hp} {Q : VK} {vs : List Nat} (hix : ∀ i ∈ ix, i ∈ vs) (w : tDL (lcL it g t e vs) σ H Q) : tLc (tDI it) (tDG g ix) (tDT t) (tD e) vs σ H Q := by
  obtain ⟨F, ρ, tot, R, ha, q⟩ := w
  obtain ⟨ds, e1, hb⟩ := bnd ha
  obtain ⟨ds', e2, h⟩ := bnd hb
  clear ha hb
  obtain ⟨rfl, hz⟩ := lim_ok e2
  refine ⟨F, ρ, ds', R, e1, fun J F1 H1 g1 wk Dl hD => ?_⟩
  obtain ⟨G, Y, w, hG, hY⟩ := wk
  have fD : F1 Dl = none := g1.fh.back hD
  refine go_it w (fun x H' Nx => tDG g ix x (L2.wipe σ vs) H' fun σ2 H2 => L2.wipe σ2 vs = L2.wipe σ vs ∧ tDT t σ2 H2 fun b H3 => if b = true then tD e σ2 H3 fun y H4 => ∃ acc, H4 Dl = some (.lst acc) ∧ acc.length < sizeLine ∧ Nx (upd H4 Dl (.lst (acc ++ [y]))) else Nx H3)
    (fun i H' => ∃ done rest F', Lc F1 H1 Dl done F' H' ∧ lcR g t e (wipeR ρ vs) (ds'.drop i) = some rest ∧ tot = done ++ rest)
    ⟨[], tot, F1, ⟨(Grow.side g1.fh hD), hD, fD, [], upd_same, .nil⟩, by rw [List.drop_zero]; exact h, rfl⟩ (fun i H' hi p => ?_) (fun i x H' H'' hi p y => ?_) (fun H' p => ?_)
  · obtain ⟨done, rest, F', l, _⟩ := p
    exact hG F' H' l.g.ff l.g.fh
  · obtain ⟨done, rest, F', l, hr, ht⟩ := p
    obtain ⟨F2, d, g2, hdi, dx⟩ := hY i F' H' x H'' hi l.g.ff l.g.fh y
    rw [drop_at hdi] at hr
    have l2 := l.grow g2
    have hw : ∀ σ2, L2.wipe σ2 vs = L2.wipe (L2.wipe σ vs) vs → L2.wipe σ2 vs = L2.wipe σ vs := fun σ2 z => z.trans (wipe_eq (wipe_length _ _) fun i hi => wipe_out hi)
    have tn := lc_turn (σ := L2.wipe σ vs) (N := fun dn rest' H3 => ∃ F3, Lc F1 H1 Dl (done ++ dn) F3 H3 ∧ lcR g t e (wipeR ρ vs) (ds'.drop (i + 1)) = some rest' ∧ tot = (done ++ dn) ++ rest') l2 ((R.grow (g1.trans ⟨l2.g.ff, l2.g.fh, l2.g.hh, l2.g.nw⟩)).wipe vs) hix dx hr (by have hlen := lcR_len h; rw [ht, List.length_append] at hlen; omega)
      (fun dn rest' F3 H3 l3 _ h3 h4 => ⟨F3, l3, h3, by rw [ht, h4, List.append_assoc]⟩) (fun H3 => ∃ done rest F', Lc F1 H1 Dl done F' H3 ∧ lcR g t e (wipeR ρ vs) (ds'.drop (i + 1)) = some rest ∧ tot = done ++ rest) (fun dn rest' H3 ⟨F3, a, b, c⟩ => ⟨done ++ dn, rest', F3, a, b, c⟩)
    obtain ⟨Fa, ρa, da, ρa', ra1, ra2, ra3, ra4⟩ := tn
    exact ⟨Fa, ρa, da, ρa', ra1, ra2, ra3, fun σ' b1 b2 b3 b4 => ⟨hw _ (ra4 σ' b1 b2 b3 b4).1, (ra4 σ' b1 b2 b3 b4).2⟩⟩
  · obtain ⟨done, rest, F', l, hr, ht⟩ := p
    rw [List.drop_length] at hr
    cases hr
    rw [List.append_nil] at ht
    subst ht
    obtain ⟨ac, h1, h2⟩ := l.at_
    exact q Dl ac F' H' (g1.trans l.g) (g1.hh.back hD) l.nf h1 h2
theorem dl_lc (hc : X.calm = true) (hN : X.N.Nodup) (hi : DI X tg iter it) (ok : BlkOk X.N X.env.scope scope own)
    (hg : ∀ (s : Shared) (H : Hp) (C : Addr) (cl : List (Str × Addr)) (fp : List Addr), DG (X.blk s H scope (compEnvC scope cl C X.env) fp) tg g ix) (ht : ∀ (s : Shared) (H : Hp) (C : Addr) (cl : List (Str × Addr)) (fp : List Addr), DTs (X.blk s H scope (compEnvC scope cl C X.env) fp) ifs t)
    (he : ∀ (s : Shared) (H : Hp) (C : Addr) (cl : List (Str × Addr)) (fp : List Addr), DE (X.blk s H scope (compEnvC scope cl C X.env) fp) elt e) (hix : ∀ i ∈ ix, i ∈ own.map (·.2)) (hs : ∀ x, foldedSetIterable iter X.env x = pure x := by intro _; rfl) :
    DL X (.ListComp elt [⟨tg, iter, ifs, 0⟩] scope pos) (lcL it g t e (own.map (·.2))) := weakE (pe_lc hc hN hi ok hg ht he hs) fun σ H Q w => lc_read hix w
end

/-! two fors -/
section
variable {X : Cx} {elt tg iter tg1 iter1 : Expr} {ifs ifs1 : List Expr} {scope : Scope} {own : List (Str × Nat)} {vs1 : List Nat} {pos : Pos} {it it1 : SA} {g g1 : SG} {ix ix1 : List Nat} {t t1 : ST} {e : SE}
theorem lc2_read {σ : L2.St} {H : Hp} {Q : VK} {vs : List Nat} (hix : ∀ i ∈ ix, i ∈ vs) (hix1 : ∀ i ∈ ix1, i ∈ vs1) (w : tDL (lcL2 it g t it1 g1 t1 e vs vs1) σ H Q) : tLc2 (tDI it) (tDG g ix) (tDT t) (tDI it1) (tDG g1 ix1) (tDT t1) (tD e) vs vs1 σ H Q := by
  obtain ⟨F, ρ, tot, R, ha, q⟩ := w
  obtain ⟨ds, e1, hb⟩ := bnd ha
  obtain ⟨ds', e2, hc⟩ := bnd hb
  obtain ⟨tot', hd, he⟩ := bnd hc
  clear ha hb hc
  obtain ⟨rfl, hz⟩ := lim_ok e2
  obtain ⟨rfl, hzt⟩ := lim_ok he
  refine ⟨F, ρ, ds', R, e1, fun J F1 H1 gr1 wk Dl hD => ?_⟩
  obtain ⟨G, Y, w, hG, hY⟩ := wk
  have fD : F1 Dl = none := gr1.fh.back hD
  -- the outer word
  refine go_it w (fun x H' Nx => tDG g ix x (L2.wipe σ vs) H' fun σ2 H2 => L2.wipe σ2 vs = L2.wipe σ vs ∧ tDT t σ2 H2 fun b H3 =>
      if b = true then tDI it1 σ2 H3 fun J1 H4 => ∃ W1 : Nat → Nat → Hp → Prop, (∃ m, W1 0 m H4) ∧ ∀ j k H, W1 j k H →
        (J1.stop j H ∧ Nx H) ∨ (J1.go j H ∧ ∃ Nx1 : Hp → Prop, (∀ H', Nx1 H' → ∃ k', k' < k ∧ W1 (j + 1) k' H') ∧ ∀ x H', J1.yld j H x H' → tDG g1 ix1 x (L2.wipe σ2 vs1) H' fun σ3 H5 => L2.wipe σ3 vs1 = L2.wipe σ2 vs1 ∧ tDT t1 σ3 H5 fun b H6 =>
          if b = true then tD e σ3 H6 fun y H7 => ∃ acc, H7 Dl = some (.lst acc) ∧ acc.length < sizeLine ∧ Nx1 (upd H7 Dl (.lst (acc ++ [y]))) else Nx1 H6)
      else Nx H3)
    (fun i H' => ∃ done rest F', Lc F1 H1 Dl done F' H' ∧ lcR2 g t it1 g1 t1 e vs1 (wipeR ρ vs) (ds'.drop i) = some rest ∧ tot = done ++ rest)
    ⟨[], tot, F1, ⟨(Grow.side gr1.fh hD), hD, fD, [], upd_same, .nil⟩, by rw [List.drop_zero]; exact hd, rfl⟩ (fun i H' hi p => ?_) (fun i x H' H'' hi p y => ?_) (fun H' p => ?_)
  · obtain ⟨done, rest, F', l, _⟩ := p
    exact hG F' H' l.g.ff l.g.fh
  · obtain ⟨done, rest, F', l, hr, htot⟩ := p
    obtain ⟨F2, d, g2, hdi, dx⟩ := hY i F' H' x H'' hi l.g.ff l.g.fh y
    rw [drop_at hdi] at hr
    have l2 := l.grow g2
    have hw : ∀ σ2, L2.wipe σ2 vs = L2.wipe (L2.wipe σ vs) vs → L2.wipe σ2 vs = L2.wipe σ vs := fun σ2 z => z.trans (wipe_eq (wipe_length _ _) fun i hi => wipe_out hi)
    obtain ⟨ρ1, q1, hr1⟩ := bnd hr
    obtain ⟨b, q2, hr2⟩ := bnd hr1
    clear hr hr1
    refine ⟨F2, wipeR ρ vs, d, ρ1, (R.grow (gr1.trans l2.g)).wipe vs, dx, q1, fun σ' R1 hl hk on => ⟨hw _ (wipe_eq hl fun i hi => hk i fun z => hi (hix i z)), ?_⟩⟩
    refine ⟨F2, ρ1, b, R1, q2, fun F3 H3 g3 => ?_⟩
    have l3 := l2.grow g3
    have R3 := R1.grow g3
    cases b with
    | false =>
      have hr2 : lcR2 g t it1 g1 t1 e vs1 (wipeR ρ vs) (ds'.drop (i + 1)) = some rest := hr2
      exact ⟨done, rest, F3, l3, hr2, htot⟩
    | true =>
      have hr2 : (it1 ρ1).bind (fun ds => (lim ds).bind fun ds => (lcR g1 t1 e (wipeR ρ1 vs1) ds).bind fun ys => (lcR2 g t it1 g1 t1 e vs1 (wipeR ρ vs) (ds'.drop (i + 1))).map fun zs => ys ++ zs) = some rest := hr2
      obtain ⟨es, q3, hr3⟩ := bnd hr2
      obtain ⟨es', q4, hr4⟩ := bnd hr3
      obtain ⟨ys, q5, hr5⟩ := bnd hr4
      obtain ⟨zs, q6, q7⟩ := mpd hr5
      clear hr2 hr3 hr4 hr5
      obtain ⟨rfl, hz1⟩ := lim_ok q4
      subst q7
      refine ⟨F3, ρ1, es', R3, q3, fun J1 F4 H4 g4 wk1 => ?_⟩
      obtain ⟨G1, Y1, w1, hG1, hY1⟩ := wk1
      have l4 := l3.grow g4
      have hown : ∀ (i : Nat) (xs : List PyData), ρ1[i]? = some (some (.own xs)) → σ'[i]? ≠ some (some (.ref Dl)) := by
        have o0 : OwnNew (only Dl) (L2.wipe σ vs) (wipeR ρ vs) := by
          intro m xs p h1 h2
          obtain ⟨p', ws, h3, h4, _⟩ := (R.wipe vs).own m xs h1
          rw [h2] at h3
          cases h3
          refine only_of fun z => ?_
          subst z
          rw [gr1.hh.back hD] at h4
          cases h4
        intro m xs h1 h2
        exact only_ne (on _ o0 m xs Dl h1 h2) rfl
      have hlen : done.length + (ys.length + zs.length) ≤ 100000 := by
        rw [htot, List.length_append, List.length_append] at hzt
        exact hzt
      refine go_it w1 (fun x H' Nx => tDG g1 ix1 x (L2.wipe σ' vs1) H' fun σ3 H5 => L2.wipe σ3 vs1 = L2.wipe σ' vs1 ∧ tDT t1 σ3 H5 fun b H6 => if b = true then tD e σ3 H6 fun y H7 => ∃ acc, H7 Dl = some (.lst acc) ∧ acc.length < sizeLine ∧ Nx (upd H7 Dl (.lst (acc ++ [y]))) else Nx H6)
        (fun j H' => ∃ done1 rest1 F', Lc F1 H1 Dl (done ++ done1) F' H' ∧ Gb Dl F4 H4 F' H' ∧ lcR g1 t1 e (wipeR ρ1 vs1) (es'.drop j) = some rest1 ∧ ys = done1 ++ rest1)
        ⟨[], ys, F4, by rw [List.append_nil]; exact l4, Gb.of (Grow.refl g4.fh) l4.nf, by rw [List.drop_zero]; exact q5, rfl⟩ (fun j H' hj p => ?_) (fun j x1 H' Hb hj p y1 => ?_) (fun H' p => ?_)
      · obtain ⟨done1, rest1, F', l5, gg5, _⟩ := p
        exact hG1 F' H' gg5.ff l5.g.fh
      · obtain ⟨done1, rest1, F', l5, gg5, hr5, hy5⟩ := p
        obtain ⟨F6, d1, g6, hdj, dx1⟩ := hY1 j F' H' x1 Hb hj gg5.ff l5.g.fh y1
        rw [drop_at hdj] at hr5
        have l6 := l5.grow g6
        have hw1 : ∀ σ2, L2.wipe σ2 vs1 = L2.wipe (L2.wipe σ' vs1) vs1 → L2.wipe σ2 vs1 = L2.wipe σ' vs1 := fun σ2 z => z.trans (wipe_eq (wipe_length _ _) fun i hi => wipe_out hi)
        have e46 : Gb Dl F4 H4 F6 Hb := gg5.trans (Gb.of g6 l6.nf)
        have R6 : Rep F6 Hb σ' ρ1 := (R3.grow g4).gb e46 hown
        have tn := lc_turn (σ := L2.wipe σ' vs1) (N := fun dn rest' Hc => ∃ Fc, Lc F1 H1 Dl (done ++ (done1 ++ dn)) Fc Hc ∧ Gb Dl F4 H4 Fc Hc ∧ lcR g1 t1 e (wipeR ρ1 vs1) (es'.drop (j + 1)) = some rest' ∧ ys = (done1 ++ dn) ++ rest') l6 (R6.wipe vs1) hix1 dx1 hr5 ?_
          ?_ (fun Hc => ∃ done1 rest1 F', Lc F1 H1 Dl (done ++ done1) F' Hc ∧ Gb Dl F4 H4 F' Hc ∧ lcR g1 t1 e (wipeR ρ1 vs1) (es'.drop (j + 1)) = some rest1 ∧ ys = done1 ++ rest1) (fun dn rest' Hc z => ?_)
        · obtain ⟨Fa, ρa, da, ρa', ra1, ra2, ra3, ra4⟩ := tn
          exact ⟨Fa, ρa, da, ρa', ra1, ra2, ra3, fun σ'' b1 b2 b3 b4 => ⟨hw1 _ (ra4 σ'' b1 b2 b3 b4).1, (ra4 σ'' b1 b2 b3 b4).2⟩⟩
        · rw [hy5] at hlen
          simp only [List.length_append] at hlen ⊢
          omega
        · exact fun dn rest' F7 H7 l7 g7 h7 e7 => ⟨F7, by rw [← List.append_assoc]; exact l7, e46.trans g7, h7, by rw [hy5, e7, List.append_assoc]⟩
        · obtain ⟨Fc, z2, z3, z4, z5⟩ := z
          exact ⟨done1 ++ dn, rest', Fc, z2, z3, z4, z5⟩
      · obtain ⟨done1, rest1, F', l5, gg5, hr5, hy5⟩ := p
        rw [List.drop_length] at hr5
        cases hr5
        rw [List.append_nil] at hy5
        subst hy5
        exact ⟨done ++ ys, zs, F', l5, q6, by rw [htot, List.append_assoc]⟩
  · obtain ⟨done, rest, F', l, hr, htot⟩ := p
    rw [List.drop_length] at hr
    cases hr
    rw [List.append_nil] at htot
    subst htot
    obtain ⟨ac, h1, h2⟩ := l.at_
    exact q Dl ac F' H' (gr1.trans l.g) (gr1.hh.back hD) l.nf h1 h2
end
end U
set_option maxHeartbeats 4000000
/-! U6: statements, defs. -/
namespace U
open PySem PySem.Spec PyProof.Rows L2

section
variable {X : Cx} {elt tg iter tg1 iter1 : Expr} {ifs ifs1 : List Expr} {scope : Scope} {own : List (Str × Nat)} {vs1 : List Nat} {pos : Pos} {it it1 : SA} {g g1 : SG} {ix ix1 : List Nat} {t t1 : ST} {e : SE}
theorem dl_lc2 (hc : X.calm = true) (hN : X.N.Nodup) (hi : DI X tg iter it) (ok : BlkOk X.N X.env.scope scope own) (hv : ∀ i ∈ vs1, i ∈ own.map (·.2))
    (hg : ∀ (s : Shared) (H : Hp) (C : Addr) (cl : List (Str × Addr)) (fp : List Addr), DG (X.blk s H scope (compEnvC scope cl C X.env) fp) tg g ix) (ht : ∀ (s : Shared) (H : Hp) (C : Addr) (cl : List (Str × Addr)) (fp : List Addr), DTs (X.blk s H scope (compEnvC scope cl C X.env) fp) ifs t)
    (hi1 : ∀ (s : Shared) (H : Hp) (C : Addr) (cl : List (Str × Addr)) (fp : List Addr), DI (X.blk s H scope (compEnvC scope cl C X.env) fp) tg1 iter1 it1)
    (hg1 : ∀ (s : Shared) (H : Hp) (C : Addr) (cl : List (Str × Addr)) (fp : List Addr), DG (X.blk s H scope (compEnvC scope cl C X.env) fp) tg1 g1 ix1) (ht1 : ∀ (s : Shared) (H : Hp) (C : Addr) (cl : List (Str × Addr)) (fp : List Addr), DTs (X.blk s H scope (compEnvC scope cl C X.env) fp) ifs1 t1)
    (he : ∀ (s : Shared) (H : Hp) (C : Addr) (cl : List (Str × Addr)) (fp : List Addr), DE (X.blk s H scope (compEnvC scope cl C X.env) fp) elt e) (hix : ∀ i ∈ ix, i ∈ own.map (·.2)) (hix1 : ∀ i ∈ ix1, i ∈ vs1)
    (hs : ∀ x, foldedSetIterable iter X.env x = pure x := by intro _; rfl) (hs1 : ∀ env x, foldedSetIterable iter1 env x = pure x := by intro _ _; rfl) :
    DL X (.ListComp elt [⟨tg, iter, ifs, 0⟩, ⟨tg1, iter1, ifs1, 0⟩] scope pos) (lcL2 it g t it1 g1 t1 e (own.map (·.2)) vs1) := weakE (pe_lc2 hc hN hi ok hv hg ht hi1 hg1 ht1 he hs hs1) fun σ H Q w => lc2_read hix hix1 w
end

inductive Res where
  | nx (ρ : Rho)
  | rt (d : PyData)
  | bk (ρ : Rho)
abbrev SS := Rho → Option Res
def PostR (F0 H0 : Hp) (E : Ends) : Res → Prop
  | .nx ρ' => ∀ F' H' σ', Grow F0 H0 F' H' → OwnNew H0 σ' ρ' → Rep F' H' σ' ρ' → E.nx σ' H'
  | .rt d => ∀ F' H' v, Grow F0 H0 F' H' → Da F' v d → E.rt v H'
  | .bk ρ' => ∀ F' H' σ', Grow F0 H0 F' H' → OwnNew H0 σ' ρ' → Rep F' H' σ' ρ' → E.bk σ' H'
def tDS (f : SS) : TS := fun E σ H => ∃ F0 H0 F ρ r, Grow F0 H0 F H ∧ OwnNew H0 σ ρ ∧ Rep F H σ ρ ∧ f ρ = some r ∧ PostR F0 H0 E r
abbrev DS (X : Cx) (st : Stmt) (f : SS) : Prop := PS X st (tDS f)
abbrev DSs (X : Cx) (st : List Stmt) (f : SS) : Prop := PSs X st (tDS f)
theorem weakS {X : Cx} {st : Stmt} {t t' : TS} (h : PS X st t) (w : ∀ E σ H, t' E σ H → t E σ H) : PS X st t' := ⟨fun pins s σ H D I q => h.run pins s σ H D I (w D σ H q)⟩
theorem weakSs {X : Cx} {st : List Stmt} {t t' : TS} (h : PSs X st t) (w : ∀ E σ H, t' E σ H → t E σ H) : PSs X st t' := ⟨fun pins s σ H D I q => h.run pins s σ H D I (w D σ H q)⟩

def seqS (f g : SS) : SS := fun ρ => (f ρ).bind fun r => match r with
  | .nx ρ' => g ρ'
  | .rt d => some (.rt d)
  | .bk ρ' => some (.bk ρ')
def nxS : SS := fun ρ => some (.nx ρ)
def setS (i : Nat) (f : SE) : SS := fun ρ => (f ρ).map fun d => .nx (ρ.set i (some (.dat d)))
def setO (i : Nat) (f : SA) : SS := fun ρ => (f ρ).map fun d => .nx (ρ.set i (some (.own d)))
def parS (i j : Nat) (a : SA) : SS := fun ρ => (a ρ).bind fun ds => match ds with
  | [x, y] => some (.nx ((ρ.set i (some (.dat x))).set j (some (.dat y))))
  | _ => none
def parO (i j : Nat) (l : SA) (f : SE) : SS := fun ρ => (l ρ).bind fun xs => (f ρ).map fun y => .nx ((ρ.set i (some (.own xs))).set j (some (.dat y)))
def asgS (f : SE) (g : SG) : SS := fun ρ => (f ρ).bind fun d => (g d ρ).map .nx
def appS (i : Nat) (f : SE) : SS := fun ρ => match ρ[i]? with
  | some (some (.own xs)) => (f ρ).bind fun d => (lim (xs ++ [d])).map fun ys => .nx (ρ.set i (some (.own ys)))
  | _ => none
def frz (i : Nat) : Rho → Option Rho := fun ρ => match ρ[i]? with
  | some (some (.own xs)) => some (ρ.set i (some (.dat (.list xs))))
  | _ => none
def frzS (i : Nat) (f : SS) : SS := fun ρ => (frz i ρ).bind f
def ifS (t : ST) (f g : SS) : SS := fun ρ => (t ρ).bind fun b => if b = true then f ρ else g ρ
def retS (f : SE) : SS := fun ρ => (f ρ).map .rt
def retN : SS := fun _ => some (.rt .none)
def exprS (f : SE) : SS := fun ρ => (f ρ).map fun _ => .nx ρ
def brkS : SS := fun ρ => some (.bk ρ)
def nevS : SS := fun _ => none
def forR (g : SG) (b : SS) : List PyData → Rho → Option Res
  | [], ρ => some (.nx ρ)
  | x :: xs, ρ => (g x ρ).bind fun ρ1 => (b ρ1).bind fun r => match r with
    | .nx ρ2 => forR g b xs ρ2
    | .rt d => some (.rt d)
    | .bk ρ2 => some (.nx ρ2)
def forS (it : SA) (g : SG) (b : SS) : SS := fun ρ => (it ρ).bind fun ds => forR g b ds ρ
def whR (t : ST) (b : SS) : Nat → Rho → Option Res
  | 0, _ => none
  | n + 1, ρ => (t ρ).bind fun c => if c = true then (b ρ).bind fun r => match r with
    | .nx ρ2 => whR t b n ρ2
    | .rt d => some (.rt d)
    | .bk ρ2 => some (.nx ρ2)
    else some (.nx ρ)
def whS (n : Nat) (t : ST) (b : SS) : SS := whR t b n

section
variable {X : Cx} {st : Stmt} {rest : List Stmt} {f g : SS} {e c : Expr} {h k : SE} {pos p : Pos}
theorem dss_nil : DSs X [] nxS := weakSs pss_nil fun E σ H w => by
  obtain ⟨F0, H0, F, ρ, r, g, o, R, e, q⟩ := w
  cases e
  exact q F H σ g o R
theorem seq_read {E : Ends} {σ : L2.St} {H : Hp} (w : tDS (seqS f g) E σ H) : tSeq (tDS f) (tDS g) E σ H := by
  obtain ⟨F0, H0, F, ρ, r, gr, o, R, e, q⟩ := w
  obtain ⟨r1, e1, e2⟩ := bnd e
  refine ⟨F0, H0, F, ρ, r1, gr, o, R, e1, ?_⟩
  cases r1 with
  | nx ρ' => exact fun F' H' σ' g' o' R' => ⟨F0, H0, F', ρ', r, g', o', R', e2, q⟩
  | rt d => cases e2; exact q
  | bk ρ' => cases e2; exact q
theorem dss_cons (h1 : DS X st f) (h2 : DSs X rest g) : DSs X (st :: rest) (seqS f g) := weakSs (pss_cons h1 h2) fun _ _ _ w => seq_read w
theorem dss_one (h1 : DS X st f) : DSs X [st] f := pss_one h1
theorem OwnNew.sub {H0 : Hp} {σ : L2.St} {ρ : Rho} (o : OwnNew H0 σ ρ) : OwnNew H0 σ ρ := o
theorem ds_set {i : Nat} {x : Str} {pos' : Pos} (hN : X.N.Nodup) (hi : X.N[i]? = some x) (hx : Loc X.env.scope x) (he : DE X e h) (hs : swapsWith e (some (.Name x pos')) pos.line X.env = pure false := by rfl)
    (hf : X.fn x = true ∨ X.env.scope.names.lookup x = some .local := by first | exact .inl rfl | exact .inr rfl | assumption) : DS X (.Assign [.Name x pos'] e pos) (setS i h) := weakS (ps_set hN hi hx he hs hf) fun E σ H w => by
  obtain ⟨F0, H0, F, ρ, r, gr, o, R, e, q⟩ := w
  obtain ⟨d, e1, e2⟩ := mpd e
  subst e2
  exact ⟨F, ρ, d, R, e1, fun v F' H' g dv => q F' H' _ (gr.trans g) (o.setDat i) ((R.grow g).setDat i dv)⟩
theorem own_read {l : SA} {i : Nat} {E : Ends} {σ : L2.St} {H : Hp} (w : tDS (setO i l) E σ H) : tAsg (tDL l) (gName i) E σ H := by
  obtain ⟨F0, H0, F, ρ, r, gr, o, R, e, q⟩ := w
  obtain ⟨d, e1, e2⟩ := mpd e
  subst e2
  refine ⟨F, ρ, d, R, e1, fun p vs F' H' g n1 n2 hp dv => q F' H' _ (gr.trans g) (o.setOwn i R.len (gr.hh.back n1)) ((R.grow g).setOwn i hp n2 dv fun j ys hj _ hs => ?_)⟩
  obtain ⟨p', ws, h1, h2, _⟩ := R.own j ys hj
  rw [hs] at h1
  cases h1
  rw [n1] at h2
  cases h2
theorem ds_setO {i : Nat} {l : SA} {x : Str} {pos' : Pos} (hN : X.N.Nodup) (hi : X.N[i]? = some x) (hx : Loc X.env.scope x) (he : DL X e l) (hs : swapsWith e (some (.Name x pos')) pos.line X.env = pure false := by rfl)
    (hf : X.fn x = true ∨ X.env.scope.names.lookup x = some .local := by first | exact .inl rfl | exact .inr rfl | assumption) : DS X (.Assign [.Name x pos'] e pos) (setO i l) := weakS (ps_set hN hi hx he hs hf) fun _ _ _ w => own_read w
theorem ds_asg {tg : Expr} {gg : SG} {ix : List Nat} (he : DE X e h) (hg : DG X tg gg ix) (hs : swapsWithSole [tg] e pos.line X.env = pure false := by rfl) (hw : swappedStores [tg] e X.env = pure none := by rfl)
    (h1 : (assignEach [tg] X.env).map (·.2) = [assign tg X.env] := by rfl) : DS X (.Assign [tg] e pos) (asgS h gg) := weakS (ps_asg he hg hs hw h1) fun E σ H w => by
  obtain ⟨F0, H0, F, ρ, r, gr, o, R, e, q⟩ := w
  obtain ⟨d, e1, e2⟩ := bnd e
  obtain ⟨ρ', e3, e4⟩ := mpd e2
  subst e4
  exact ⟨F, ρ, d, R, e1, fun v F' H' g dv => ⟨F', ρ, d, ρ', R.grow g, dv, e3, fun σ' R' _ _ on => q F' H' σ' (gr.trans g) (on H0 o) R'⟩⟩
theorem ds_par {i j : Nat} {x y : Str} {a b : Expr} {ta : SA} {px py pt : Pos} {kt k2 pt2} (hc : X.calm = true) (hN : X.N.Nodup) (hi : X.N[i]? = some x) (hj : X.N[j]? = some y) (hij : i ≠ j)
    (hx : X.env.scope.names.lookup x = some .local) (hy : X.env.scope.names.lookup y = some .local) (ha : DA X [a, b] ta)
    (hw : swappedStores [.Tuple [.Name x px, .Name y py] kt pt] (.Tuple [a, b] k2 pt2) X.env = pure (some [x, y])) (hs : swapsWithSole [.Tuple [.Name x px, .Name y py] kt pt] (.Tuple [a, b] k2 pt2) pos.line X.env = pure false := by rfl) :
    DS X (.Assign [.Tuple [.Name x px, .Name y py] kt pt] (.Tuple [a, b] k2 pt2) pos) (parS i j ta) := weakS (ps_par hc hN hi hj hij hx hy ha hw hs) fun E σ H w => by
  obtain ⟨F0, H0, F, ρ, r, gr, o, R, e, q⟩ := w
  obtain ⟨ds, e1, e2⟩ := bnd e
  split at e2
  · cases e2
    refine ⟨F, ρ, _, R, e1, fun vs F' H' g dv => ?_⟩
    cases dv with
    | cons d1 dv => cases dv with
      | cons d2 dv => cases dv; exact ⟨_, _, rfl, q F' H' _ (gr.trans g) ((o.setDat i).setDat j) (((R.grow g).setDat i d1).setDat j d2)⟩
  · cases e2
theorem ds_parO {i j : Nat} {x y : Str} {a b : Expr} {l : SA} {px py pt : Pos} {kt k2 pt2} (hc : X.calm = true) (hN : X.N.Nodup) (hi : X.N[i]? = some x) (hj : X.N[j]? = some y) (hij : i ≠ j)
    (hx : X.env.scope.names.lookup x = some .local) (hy : X.env.scope.names.lookup y = some .local) (ha : DL X a l) (hb : DE X b h)
    (hw : swappedStores [.Tuple [.Name x px, .Name y py] kt pt] (.Tuple [a, b] k2 pt2) X.env = pure (some [x, y])) (hs : swapsWithSole [.Tuple [.Name x px, .Name y py] kt pt] (.Tuple [a, b] k2 pt2) pos.line X.env = pure false := by rfl)
    (hs1 : starEach [a, b] X.env = (false, eval a X.env) :: starEach [b] X.env := by rfl) (hs2 : starEach [b] X.env = (false, eval b X.env) :: starEach [] X.env := by rfl) :
    DS X (.Assign [.Tuple [.Name x px, .Name y py] kt pt] (.Tuple [a, b] k2 pt2) pos) (parO i j l h) := weakS (ps_par hc hN hi hj hij hx hy (pa_cons ha (pa_cons hb pa_nil hs2) hs1) hw hs) fun E σ H w => by
  obtain ⟨F0, H0, F, ρ, r, gr, o, R, e, q⟩ := w
  obtain ⟨xs, e1, e2⟩ := bnd e
  obtain ⟨d, e3, e4⟩ := mpd e2
  subst e4
  refine ⟨F, ρ, xs, R, e1, fun p vs F' H' g n1 n2 hp dv => ⟨F', ρ, d, R.grow g, e3, fun v F2 H2 g2 dv2 => ⟨_, _, rfl, ?_⟩⟩⟩
  refine q F2 H2 _ ((gr.trans g).trans g2) ((o.setOwn i R.len (gr.hh.back n1)).setDat j) (((R.grow (g.trans g2)).setOwn i (g2.hh _ _ hp) (g2.free n2 hp) (dv.ex g2.ff) fun m ys hm _ hs => ?_).setDat j dv2)
  obtain ⟨p', ws, h1, h2, _⟩ := R.own m ys hm
  rw [hs] at h1
  cases h1
  rw [n1] at h2
  cases h2
theorem ds_ret (he : DE X e h) : DS X (.Return (some e) pos) (retS h) := weakS (ps_ret he) fun E σ H w => by
  obtain ⟨F0, H0, F, ρ, r, gr, o, R, e, q⟩ := w
  obtain ⟨d, e1, e2⟩ := mpd e
  subst e2
  exact ⟨F, ρ, d, R, e1, fun v F' H' g dv => q F' H' v (gr.trans g) dv⟩
theorem ds_retN : DS X (.Return none pos) retN := weakS ps_retN fun E σ H w => by
  obtain ⟨F0, H0, F, ρ, r, gr, o, R, e, q⟩ := w
  cases e
  exact q F H .non gr .non
theorem ds_expr (he : DE X e h) (hs : swapsWith e none pos.line X.env = pure false := by rfl) : DS X (.Expr e pos) (exprS h) := weakS (ps_expr he hs) fun E σ H w => by
  obtain ⟨F0, H0, F, ρ, r, gr, o, R, e, q⟩ := w
  obtain ⟨d, e1, e2⟩ := mpd e
  subst e2
  exact ⟨F, ρ, d, R, e1, fun v F' H' g dv => q F' H' σ (gr.trans g) o (R.grow g)⟩
theorem ds_brk : DS X (.Break pos) brkS := weakS ps_break fun E σ H w => by
  obtain ⟨F0, H0, F, ρ, r, gr, o, R, e, q⟩ := w
  cases e
  exact q F H σ gr o R
theorem ds_never : DS X st nevS := weakS ps_never fun E σ H w => by
  obtain ⟨F0, H0, F, ρ, r, gr, o, R, e, q⟩ := w
  cases e
theorem dss_never : DSs X rest nevS := weakSs pss_never fun E σ H w => by
  obtain ⟨F0, H0, F, ρ, r, gr, o, R, e, q⟩ := w
  cases e
theorem ds_if {t : ST} {a b : List Stmt} (hc : DT X c t) (ha : DSs X a f) (hb : DSs X b g) : DS X (.If c a b pos) (ifS t f g) := weakS (ps_if hc ha hb) fun E σ H w => by
  obtain ⟨F0, H0, F, ρ, r, gr, o, R, e, q⟩ := w
  obtain ⟨x, e1, e2⟩ := bnd e
  refine ⟨F, ρ, x, R, e1, fun F1 H1 g1 => ?_⟩
  cases x with
  | true => exact ⟨F0, H0, F1, ρ, r, gr.trans g1, o, R.grow g1, e2, q⟩
  | false => exact ⟨F0, H0, F1, ρ, r, gr.trans g1, o, R.grow g1, e2, q⟩
/-- xs.append(e), xs a list of our own -/
theorem ds_app (i : Nat) {x : Str} {p1 p2 p3 : Pos} (he : DE X e h) (hN : X.N[i]? = some x := by rfl) (hv : Vis X.env.scope x := by first | exact Or.inl rfl | exact Or.inr (Or.inl rfl) | exact Or.inr (Or.inr rfl)) (hd : (x == ("__debug__" : Str)) = false := by decide)
    (hcd : (x == ("__classdict__" : Str)) = false := by decide) (hbase : attributeBase (.Name x p1) "append" X.env (eval (.Name x p1) X.env) = eval (.Name x p1) X.env := by rfl)
    (hfew : ((backTo p3 (starEach [e] X.env)).all (fun x => !x.1) && (backToKw p3 (keywordEach [] X.env)).all (fun x => x.1.isSome) && decide (([e] : List Expr).length + ([] : List Keyword).length + (if ([] : List Keyword).isEmpty then 0 else 1) < 30)) = true := by rfl)
    (hline : (p2.endLine == p3.line) = true := by rfl) (hs : starEach [e] X.env = (false, eval e X.env) :: starEach [] X.env := by rfl) (hplain : (backTo p3 (starEach [] X.env)).any (·.1) = false := by rfl)
    (hsw : swapsWith (.Call (.Attribute (.Name x p1) "append" p2) [e] [] p3) none pos.line X.env = pure false := by rfl) :
    DS X (.Expr (.Call (.Attribute (.Name x p1) "append" p2) [e] [] p3) pos) (appS i h) :=
  weakS (ps_expr (pe_bm PySem.F.plainAttrs_list PySem.F.slot_list_append PySem.F.type_list_append mt_append (pe_var (i := i) hN hv hd hcd) (pa_cons he pa_nil hs) hbase hfew hline hs hplain) hsw) fun E σ H w => by
  obtain ⟨F0, H0, F, ρ, r, gr, o, R, e, q⟩ := w
  unfold appS at e
  split at e
  · rename_i xs hi
    obtain ⟨d, e1, e2⟩ := bnd e
    obtain ⟨ys, e3, e4⟩ := mpd e2
    obtain ⟨rfl, hl⟩ := lim_ok e3
    subst e4
    obtain ⟨pp, vs, h1, h2, h3, h4⟩ := R.own i xs hi
    refine ⟨.ref pp, h1, .inl ⟨rfl, _, .inl (.inl h2)⟩, F, ρ, d, R, e1, fun v F' H' g dv => ?_⟩
    have h2' := g.hh _ _ h2
    have h3' := g.free h3 h2
    have hlen : vs.length < sizeLine := by
      refine sz_lt ?_
      rw [h4.length]
      rw [List.length_append] at hl
      simp only [List.length_singleton] at hl
      omega
    refine ⟨pp, vs, v, rfl, rfl, h2', hlen, ?_⟩
    have n0 : H0 pp = none := o i xs pp hi h1
    exact q F' _ σ ((gr.trans g).mut n0 h3') (o.mutOwn hi) ((R.grow g).mutOwn hi h1 h2' h3' ((h4.ex g.ff).app (.cons dv .nil)))
  · cases e
theorem frz_read {i : Nat} {E : Ends} {σ : L2.St} {H : Hp} (w : tDS (frzS i f) E σ H) : tDS f E σ H := by
  obtain ⟨F0, H0, F, ρ, r, gr, o, R, e, q⟩ := w
  obtain ⟨ρ', e1, e2⟩ := bnd e
  unfold frz at e1
  split at e1
  · rename_i xs hi
    cases e1
    obtain ⟨pp, vs, h1, h2, h3, h4⟩ := R.own i xs hi
    exact ⟨F0, H0, _, _, r, gr.freeze (o i xs pp hi h1) h3 h2, o.freeze, R.freeze hi h1 h2 h3 h4, e2, q⟩
  · cases e1
theorem ds_frz (i : Nat) (hs : DS X st f) : DS X st (frzS i f) := weakS hs fun _ _ _ w => frz_read w
theorem dss_frz (i : Nat) (hs : DSs X rest f) : DSs X rest (frzS i f) := weakSs hs fun _ _ _ w => frz_read w
theorem Grow.join {F0 H0 F1 H1 F2 H2 : Hp} (g : Grow F0 H0 F1 H1) (k : Grow F1 H0 F2 H2) : Grow F0 H0 F2 H2 :=
  ⟨g.ff.trans k.ff, k.fh, k.hh, fun a o e => by
    rcases k.nw a o e with z | z
    · exact g.nw a o z
    · exact .inr z⟩
theorem Grow.here {F0 H0 F1 H1 : Hp} (g : Grow F0 H0 F1 H1) : Grow F1 H0 F1 H1 := ⟨Ex.refl _, g.fh, g.hh, fun a o e => .inl e⟩
theorem ds_for {tg iter : Expr} {body : List Stmt} {it : SA} {gg : SG} {ix : List Nat} (hp : PassesOwn (model X.prog X.w) X.A X.env X.xe) (hc : X.calm = true) (hi : DI X tg iter it) (hg : DG X tg gg ix) (hb : DSs X body f)
    (hs : ∀ x, foldedSetIterable iter X.env x = pure x := by intro _; rfl) : DS X (.For tg iter body [] pos) (forS it gg f) := weakS (ps_for hp hc hi hg hb hs) fun E σ H w => by
  obtain ⟨F0, H0, F, ρ, r, gr, o, R, e, q⟩ := w
  obtain ⟨ds, e1, e2⟩ := bnd e
  refine ⟨F, ρ, ds, R, e1, fun J F1 H1 g1 wk => ?_⟩
  obtain ⟨G, Y, w, hG, hY⟩ := wk
  refine for_it w (fun i σ' H' => ∃ F' ρ', Grow F0 H0 F' H' ∧ OwnNew H0 σ' ρ' ∧ Rep F' H' σ' ρ' ∧ Ex F1 F' ∧ forR gg f (ds.drop i) ρ' = some r) ⟨F1, ρ, gr.trans g1, o, R.grow g1, Ex.refl _, by rw [List.drop_zero]; exact e2⟩
    (fun i σ' H' hi p => ?_) (fun i x σ' H' H'' hi p y => ?_) (fun σ' H' p => ?_)
  · obtain ⟨F', ρ', a1, a2, a3, a4, a5⟩ := p
    exact hG F' H' a4 a3.fh
  · obtain ⟨F', ρ', a1, a2, a3, a4, a5⟩ := p
    obtain ⟨F2, d, g2, hdi, dx⟩ := hY i F' H' x H'' hi a4 a3.fh y
    rw [drop_at hdi] at a5
    obtain ⟨ρ1, b1, b2⟩ := bnd a5
    obtain ⟨r1, b3, b4⟩ := bnd b2
    refine ⟨F2, ρ', d, ρ1, a3.grow g2, dx, b1, fun σ2 R2 _ _ on => ?_⟩
    have gr2 : Grow F0 H0 F2 H'' := a1.trans g2
    refine ⟨F2, H0, F2, ρ1, r1, gr2.here, on H0 a2, R2, b3, ?_⟩
    cases r1 with
    | nx ρ2 => exact fun F3 H3 σ3 g3 o3 R3 => ⟨F3, ρ2, gr2.join g3, o3, R3, (a4.trans g2.ff).trans g3.ff, b4⟩
    | rt d => cases b4; exact fun F3 H3 v g3 dv => q F3 H3 v (gr2.join g3) dv
    | bk ρ2 => cases b4; exact fun F3 H3 σ3 g3 o3 R3 => q F3 H3 σ3 (gr2.join g3) o3 R3
  · obtain ⟨F', ρ', a1, a2, a3, a4, a5⟩ := p
    rw [List.drop_length] at a5
    cases a5
    exact q F' H' σ' a1 a2 a3
theorem ds_while {body : List Stmt} {t : ST} (n : Nat) (hp : PassesOwn (model X.prog X.w) X.A X.env X.xe) (hc : DT X c t) (hb : DSs X body f) : DS X (.While c body [] pos) (whS n t f) := weakS (ps_while hp hc hb) fun E σ H w => by
  obtain ⟨F0, H0, F, ρ, r, gr, o, R, e, q⟩ := w
  refine ⟨fun m σ' H' => ∃ F' ρ', Grow F0 H0 F' H' ∧ OwnNew H0 σ' ρ' ∧ Rep F' H' σ' ρ' ∧ whR t f m ρ' = some r, ⟨n, F, ρ, gr, o, R, e⟩, ?_⟩
  rintro m σ' H' ⟨F', ρ', a1, a2, a3, a5⟩
  cases m with
  | zero => cases a5
  | succ m =>
    obtain ⟨b, b1, b2⟩ := bnd a5
    refine ⟨F', ρ', b, a3, b1, fun F2 H2 g2 => ?_⟩
    cases b with
    | false => cases b2; exact q F2 H2 σ' (a1.trans g2) a2 (a3.grow g2)
    | true =>
      have b2 : ((f ρ').bind fun r => match r with
        | .nx ρ2 => whR t f m ρ2
        | .rt d => some (.rt d)
        | .bk ρ2 => some (.nx ρ2)) = some r := b2
      obtain ⟨r1, b3, b4⟩ := bnd b2
      refine ⟨fun σ3 H3 => ∃ F3 ρ3, Grow F0 H0 F3 H3 ∧ OwnNew H0 σ3 ρ3 ∧ Rep F3 H3 σ3 ρ3 ∧ whR t f m ρ3 = some r, fun σ3 H3 z => ⟨m, Nat.lt_succ_self _, z⟩, ?_⟩
      refine ⟨F0, H0, F2, ρ', r1, a1.trans g2, a2, a3.grow g2, b3, ?_⟩
      cases r1 with
      | nx ρ2 => exact fun F3 H3 σ3 g3 o3 R3 => ⟨F3, ρ2, g3, o3, R3, b4⟩
      | rt d => cases b4; exact q
      | bk ρ2 => cases b4; exact q
end

/-! ### nice tuples as arguments -/
def tDN (l : SA) : TE := fun σ H Q => ∃ F ρ ds, Rep F H σ ρ ∧ l ρ = some ds ∧ ∀ v F' H', Grow F H F' H' → IsN F' v ds → Q v H'
abbrev DN (X : Cx) (e : Expr) (l : SA) : Prop := PE X e (tDN l)
def vN (i : Nat) : SA := fun ρ => match ρ[i]? with
  | some (some (.nt ds)) => some ds
  | _ => none
def DaC (F : Hp) (v : V) : Cell → Prop
  | .dat d => Da F v d
  | .nt ds => IsN F v ds
  | .own _ => False
theorem DaC.ex {F F' : Hp} {v : V} {c : Cell} (e : Ex F F') (h : DaC F v c) : DaC F' v c := by
  cases c with
  | dat d => exact Da.ex e h
  | nt ds => exact IsN.ex e h
  | own xs => exact h
inductive DaCs (F : Hp) : List V → List Cell → Prop
  | nil : DaCs F [] []
  | cons {v : V} {vs : List V} {c : Cell} {cs : List Cell} : DaC F v c → DaCs F vs cs → DaCs F (v :: vs) (c :: cs)
theorem DaCs.length {F : Hp} : ∀ {vs : List V} {cs : List Cell}, DaCs F vs cs → vs.length = cs.length
  | _, _, .nil => rfl
  | _, _, .cons _ k => by rw [List.length_cons, List.length_cons, k.length]
theorem DaCs.of {F : Hp} : ∀ {vs : List V} {ds : List PyData}, DaAll F vs ds → DaCs F vs (ds.map .dat)
  | _, _, .nil => .nil
  | _, _, .cons h k => .cons h (DaCs.of k)
theorem DaCs.getD {F : Hp} : ∀ {vs : List V} {cs : List Cell} {i : Nat} {c : Cell}, DaCs F vs cs → cs[i]? = some c → ∃ x, vs[i]? = some x ∧ DaC F x c
  | _, _, _, _, .nil, e => by simp at e
  | _, _, 0, _, .cons h _, e => by simp at e; subst e; exact ⟨_, by simp, h⟩
  | _, _, i + 1, _, .cons _ k, e => by
    obtain ⟨d, h1, h2⟩ := k.getD (i := i) (by simpa using e)
    exact ⟨d, by simpa using h1, h2⟩
abbrev SAC := Rho → Option (List Cell)
def tDAc (f : SAC) : TA := fun σ H Q => ∃ F ρ cs, Rep F H σ ρ ∧ f ρ = some cs ∧ ∀ vs F' H', Grow F H F' H' → DaCs F' vs cs → Q vs H'
abbrev DAc (X : Cx) (es : List Expr) (f : SAC) : Prop := PA X es (tDAc f)
def cNil : SAC := fun _ => some []
def cDat (f : SE) (r : SAC) : SAC := fun ρ => (f ρ).bind fun x => (r ρ).map fun xs => .dat x :: xs
def cNt (l : SA) (r : SAC) : SAC := fun ρ => (l ρ).bind fun x => (r ρ).map fun xs => .nt x :: xs
def calC (φ : List Cell → Option PyData) (a : SAC) : SE := fun ρ => (a ρ).bind φ
def spC (φ : List Cell → Option PyData) : Sp := fun vs H Q _ => ∃ F cs d, Ex F H ∧ DaCs F vs cs ∧ φ cs = some d ∧ ∀ v F' H', Grow F H F' H' → Da F' v d → Q v H'
section
variable {X : Cx} {e : Expr} {es : List Expr} {f : SE} {l : SA} {u : SAC} {pos : Pos}
theorem dn_var (i : Nat) {x : Str} (hN : X.N[i]? = some x := by rfl) (hv : Vis X.env.scope x := by first | exact Or.inl rfl | exact Or.inr (Or.inl rfl) | exact Or.inr (Or.inr rfl)) (hd : (x == ("__debug__" : Str)) = false := by decide)
    (hcd : (x == ("__classdict__" : Str)) = false := by decide) : DN X (.Name x pos) (vN i) := weakE (pe_var (i := i) hN hv hd hcd) fun σ H Q h => by
  obtain ⟨F, ρ, d, R, e, q⟩ := h
  unfold vN at e
  split at e
  · cases e
    obtain ⟨v, h1, h2⟩ := R.nt i _ (by assumption)
    exact ⟨v, h1, q v F H (Grow.refl R.fh) h2⟩
  · cases e
theorem dac_nil : DAc X [] cNil := weakA pa_nil fun σ H Q w => by
  obtain ⟨F, ρ, ds, R, e, q⟩ := w
  cases e
  exact q [] F H (Grow.refl R.fh) .nil
theorem DaCs.ex {F F' : Hp} (e : Ex F F') : ∀ {vs : List V} {cs : List Cell}, DaCs F vs cs → DaCs F' vs cs
  | _, _, .nil => .nil
  | _, _, .cons h k => .cons (h.ex e) (k.ex e)
theorem dac_dat (ha : DE X e f) (hr : DAc X es u) (hs : starEach (e :: es) X.env = (false, eval e X.env) :: starEach es X.env := by rfl) : DAc X (e :: es) (cDat f u) := weakA (pa_cons ha hr hs) fun σ H Q w => by
  obtain ⟨F, ρ, ds, R, e, q⟩ := w
  obtain ⟨x, e1, e'⟩ := bnd e
  obtain ⟨xs, e2, e3⟩ := mpd e'
  subst e3
  exact ⟨F, ρ, x, R, e1, fun v F1 H1 g1 dv => ⟨F1, ρ, xs, R.grow g1, e2, fun vs F2 H2 g2 dvs => q (v :: vs) F2 H2 (g1.trans g2) (.cons (dv.ex g2.ff) dvs)⟩⟩
theorem dac_nt (ha : DN X e l) (hr : DAc X es u) (hs : starEach (e :: es) X.env = (false, eval e X.env) :: starEach es X.env := by rfl) : DAc X (e :: es) (cNt l u) := weakA (pa_cons ha hr hs) fun σ H Q w => by
  obtain ⟨F, ρ, ds, R, e, q⟩ := w
  obtain ⟨x, e1, e'⟩ := bnd e
  obtain ⟨xs, e2, e3⟩ := mpd e'
  subst e3
  exact ⟨F, ρ, x, R, e1, fun v F1 H1 g1 dv => ⟨F1, ρ, xs, R.grow g1, e2, fun vs F2 H2 g2 dvs => q (v :: vs) F2 H2 (g1.trans g2) (.cons (IsN.ex g2.ff dv) dvs)⟩⟩
end

/-! ### defs -/
def startC (n : Nat) (cs : List Cell) : Rho := cs.map some ++ List.replicate (n - cs.length) none
def endF : Option Res → Option PyData
  | some (.rt d) => some d
  | some (.nx _) => some .none
  | _ => none
def runC (n np : Nat) (f : SS) : List Cell → Option PyData := fun cs => if cs.length = np then endF (f (startC n cs)) else none
def runF (n np : Nat) (f : SS) : List PyData → Option PyData := fun ds => runC n np f (ds.map .dat)
theorem startC_at {n i : Nat} {cs : List Cell} {c : Cell} (h : (startC n cs)[i]? = some (some c)) : cs[i]? = some c := by
  unfold startC at h
  by_cases hi : i < cs.length
  · rw [List.getElem?_append_left (by simpa using hi), List.getElem?_map] at h
    cases q : cs[i]? with
    | none => rw [q] at h; cases h
    | some d' => rw [q] at h; cases h; rfl
  · rw [List.getElem?_append_right (by simpa using Nat.le_of_not_lt hi), List.getElem?_replicate] at h
    split at h <;> cases h
theorem start_at {F : Hp} {N : List Str} {vs : List V} {cs : List Cell} {i : Nat} {c : Cell} (h : DaCs F vs cs) (e : cs[i]? = some c) : ∃ v, (L2.start N vs)[i]? = some (some v) ∧ DaC F v c := by
  obtain ⟨v, h1, h2⟩ := h.getD e
  refine ⟨v, ?_, h2⟩
  have hi : i < vs.length := (List.getElem?_eq_some_iff.mp h1).1
  unfold L2.start
  rw [List.getElem?_append_left (by simpa using hi), List.getElem?_map, h1] <;> rfl
theorem start_rep {F H : Hp} {N : List Str} {vs : List V} {cs : List Cell} (ef : Ex F H) (h : DaCs F vs cs) : Rep F H (L2.start N vs) (startC N.length cs) := by
  have hl := h.length
  refine ⟨ef, ?_, fun i d e => ?_, fun i d e => ?_, fun i xs e => ?_, fun i j xs ys p h1 h2 h3 h4 => ?_⟩
  · unfold L2.start startC
    simp only [List.length_append, List.length_map, List.length_replicate, hl]
  · exact start_at h (startC_at e)
  · exact start_at h (startC_at e)
  · obtain ⟨v, _, h2⟩ := start_at (N := N) h (startC_at e)
    exact h2.elim
  · obtain ⟨v, _, h2⟩ := start_at (N := N) h (startC_at h1)
    exact h2.elim
theorem start_own {F H0 : Hp} {N : List Str} {vs : List V} {cs : List Cell} (h : DaCs F vs cs) : OwnNew H0 (L2.start N vs) (startC N.length cs) := by
  intro i xs p h1 _
  obtain ⟨v, _, h2⟩ := start_at (N := N) h (startC_at h1)
  exact h2.elim
abbrev cx1 (P : Program) (w : World) (K : PySem.W.Frag) (mg : Str → Option Value) (base : Heap) (N : List Str) (qual : Str) (scope : Scope) (fa : Addr) (cdv : Value) (A : Around) (outer : List Env) (s : Shared) (H : Hp) (E : XK) : Cx := (cxOf CX0 P w K mg base N qual scope fa cdv A outer s H E).nox
theorem fn_okC {P : Program} {w : World} {K : PySem.W.Frag} {mg : Str → Option Value} {base : Heap} {k : Nat} {x qual : Str} {params : Arguments} {body : List Stmt} {scope : Scope} {fa : Addr} {fd : FuncData} {N ps : List Str} {f : SS} {np : Nat}
    (F : FunD K x qual params body scope [] [] fa fd) (S : FnScope N ps scope) (hn : ps.length = np) {n : Nat} (hN : N.length = n)
    (h : ∀ (cdv : Value) (A : Around) (outer : List Env) (s : Shared) (H : Hp) (E : XK), Room k (A.deeper (envOfC qual scope s.heap.objs.size fa cdv)) → DSs (cx1 P w K mg base N qual scope fa cdv A outer s H E) body f) :
    FnOk P w K mg base CX0 (k + 1) fa fd ps (spC (runC n np f)) := by
  subst hn hN
  refine F.ok S (fun vs H Q E w => ?_) fun cdv A outer s H vs Q E hr w => ⟨tDS f, (h cdv A outer s H E hr).nox, ?_⟩
  · obtain ⟨F, ds, d, ef, dv, e, q⟩ := w
    unfold runC at e
    split at e
    · rw [dv.length]; assumption
    · cases e
  · obtain ⟨F, ds, d, ef, dv, e, q⟩ := w
    unfold runC at e
    split at e
    · cases hr : f (startC N.length ds) with
      | none => rw [hr] at e; cases e
      | some r =>
        rw [hr] at e
        refine ⟨F, H, F, _, r, Grow.refl ef, start_own dv, start_rep ef dv, hr, ?_⟩
        cases r with
        | nx ρ' => cases e; exact fun F' H' σ' g o R => q .non F' H' g .non
        | rt d' => cases e; exact fun F' H' v g dv => q v F' H' g dv
        | bk ρ' => cases e
    · cases e
theorem sp_imp {φ : List Cell → Option PyData} {vs : List V} {H : Hp} {Q : VK} {E : XK} (h : spD (fun ds => φ (ds.map .dat)) vs H Q E) : spC φ vs H Q E := by
  obtain ⟨F, ds, d, ef, dv, e, q⟩ := h
  exact ⟨F, ds.map .dat, d, ef, DaCs.of dv, e, q⟩
/-- a def of the text that keeps such a promise -/
def Has (P : Program) (w : World) (K : PySem.W.Frag) (mg : Str → Option Value) (base : Heap) (k : Nat) (x : Str) (φ : List Cell → Option PyData) : Prop :=
  ∃ fa fd ps, FnOk P w K mg base CX0 k fa fd ps (spC φ) ∧ mg x = some (.ref fa) ∧ PySem.W.keepIn K (.ref fa) = true ∧ Binds K fd ps []
theorem Has.mono {P : Program} {w : World} {K : PySem.W.Frag} {mg : Str → Option Value} {base : Heap} {j k : Nat} {x : Str} {φ : List Cell → Option PyData} (h : Has P w K mg base j x φ) (hk : j ≤ k) : Has P w K mg base k x φ :=
  let ⟨fa, fd, ps, h1, h2⟩ := h; ⟨fa, fd, ps, h1.mono hk, h2⟩
/-- on data alone -/
def onD (φ : List Cell → Option PyData) : List PyData → Option PyData := fun ds => φ (ds.map .dat)
section
variable {X : Cx} {k : Nat} {x : Str} {p pos : Pos} {e : Expr} {es : List Expr} {u : SA} {uc : SAC} {φ : List Cell → Option PyData}
theorem de_callH (G : Has X.prog X.w X.K X.mg X.base k x φ) (hr : Room k X.A) (hg : Gl X x) (ha : DA X (e :: es) u)
    (hd : (x == ("__debug__" : Str)) = false := by decide) (hs : starEach (e :: es) X.env = (false, eval e X.env) :: starEach es X.env := by rfl) (hp : (backTo pos (starEach es X.env)).any (·.1) = false := by rfl) :
    DE X (.Call (.Name x p) (e :: es) [] pos) (calE (onD φ) u) := by
  obtain ⟨fa, fd, ps, h1, h2, h3, h4⟩ := G
  exact weakE (pe_call h1 hr hg h2 h3 h4 .nil pass0 ha hd hs hp) fun σ H Q w => by
    obtain ⟨F, ρ, d, R, e, q⟩ := w
    obtain ⟨ds, e1, e2⟩ := bnd e
    refine ⟨F, ρ, ds, R, e1, fun vs F1 H1 g1 dv => ?_⟩
    exact ⟨F1, ds.map .dat, d, g1.fh, by rw [List.append_nil]; exact DaCs.of dv, e2, fun v F2 H2 g2 d2 => q v F2 H2 (g1.trans g2) d2⟩
theorem de_callC (G : Has X.prog X.w X.K X.mg X.base k x φ) (hr : Room k X.A) (hg : Gl X x) (ha : DAc X (e :: es) uc)
    (hd : (x == ("__debug__" : Str)) = false := by decide) (hs : starEach (e :: es) X.env = (false, eval e X.env) :: starEach es X.env := by rfl) (hp : (backTo pos (starEach es X.env)).any (·.1) = false := by rfl) :
    DE X (.Call (.Name x p) (e :: es) [] pos) (calC φ uc) := by
  obtain ⟨fa, fd, ps, h1, h2, h3, h4⟩ := G
  exact weakE (pe_call h1 hr hg h2 h3 h4 .nil pass0 ha hd hs hp) fun σ H Q w => by
    obtain ⟨F, ρ, d, R, e, q⟩ := w
    obtain ⟨ds, e1, e2⟩ := bnd e
    refine ⟨F, ρ, ds, R, e1, fun vs F1 H1 g1 dv => ?_⟩
    exact ⟨F1, ds, d, g1.fh, by rw [List.append_nil]; exact dv, e2, fun v F2 H2 g2 d2 => q v F2 H2 (g1.trans g2) d2⟩
end
end U
set_option maxHeartbeats 4000000
/-! U7: sorted, dicts, index, count, comprehensions given to a name. -/
namespace U
open PySem PySem.Spec PyProof.Rows L2

/-! ### sorted -/
def SrtOk (ds : List PyData) : Prop := PySem.W.AllAlike ds ∧ PySem.W.Sortable ds ∧ (∀ d ∈ ds, d.canLay0 = true ∧ d.depth ≤ 60) ∧ ds.length ≤ 100000
def srt (ds : List PyData) : List PyData := ds.mergeSort (PySem.W.dataLe false id)
/-- sorted(xs), a list that reads as data -/
def rSortD (K : PySem.W.Frag) : List V → Hp → VK → Prop := fun vs H Q => ∃ (a : Addr) (xs : List V) (ds : List PyData), vs = [.ref a] ∧ H a = some (.lst xs) ∧ Paired (Dp K H) xs ds ∧ SrtOk ds ∧
  ∀ ys p, Paired (fun y d => y ∈ xs ∧ ∃ i : Nat, xs[i]? = some y ∧ ds[i]? = some d) ys (srt ds) → H p = none → Q (.ref p) (upd H p (.lst ys))
theorem paired_get {α β : Type} {R : α → β → Prop} : ∀ {xs : List α} {ys : List β}, Paired R xs ys → xs.length = ys.length ∧ ∀ (i : Nat) x y, xs[i]? = some x → ys[i]? = some y → R x y
  | _, _, .nil => ⟨rfl, fun i x y h => by simp at h⟩
  | _, _, .cons r t => by
    obtain ⟨h1, h2⟩ := paired_get t
    refine ⟨by simp [h1], fun i x y hx hy => ?_⟩
    cases i with
    | zero => simp at hx hy; subst hx hy; exact r
    | succ i => simp at hx hy; exact h2 i x y hx hy
theorem cr_sortD {X : Cx} (hu : X.A.units + 150 < cLine) : CallR X (.builtin "sorted") (rSortD X.K) := by
  intro pins s σ H vs us Q I r h
  obtain ⟨a, xs, ds, rfl, ha, hp, ⟨hal, hsk, hcl, hz⟩, q⟩ := h
  obtain ⟨its, rv, pl, _⟩ := I.list (SqL.of (K := X.K) ha)
  rw [Vals.ref1 r]
  obtain ⟨l1, g1⟩ := paired_get hp
  have l2 := rv.length
  -- the items beside their values and data
  let bs : List (V × PyData) := xs.zip ds
  have ebs : bs.map Prod.snd = ds := by
    show (xs.zip ds).map Prod.snd = ds
    rw [List.map_snd_zip]; omega
  have efs : bs.map Prod.fst = xs := by
    show (xs.zip ds).map Prod.fst = xs
    rw [List.map_fst_zip]; omega
  have lbs : bs.length = its.length := by
    show (xs.zip ds).length = _
    rw [List.length_zip]; omega
  have eachOf : ∀ {R : Value → V × PyData → Prop}, (∀ (i : Nat) u b, its[i]? = some u → bs[i]? = some b → R u b) → PySem.W.EachIs R its bs := by
    intro R hR
    have key : ∀ (as : List Value) (cs : List (V × PyData)), as.length = cs.length → (∀ (i : Nat) u b, as[i]? = some u → cs[i]? = some b → R u b) → PySem.W.EachIs R as cs := by
      intro as
      induction as with
      | nil => intro cs hl _; cases cs with
        | nil => exact .nil
        | cons c cs => cases hl
      | cons u as ih => intro cs hl h; cases cs with
        | nil => cases hl
        | cons c cs => exact .cons (h 0 u c rfl rfl) (ih cs (by simpa using hl) fun i u b h1 h2 => h (i + 1) u b h1 h2)
    exact key its bs lbs.symm hR
  have bsAt : ∀ (i : Nat) b, bs[i]? = some b → xs[i]? = some b.1 ∧ ds[i]? = some b.2 := fun i b h => by
    have h' : (xs.zip ds)[i]? = some b := h
    exact List.getElem?_zip_eq_some.mp h'
  have relAt : ∀ (i : Nat) u b, its[i]? = some u → bs[i]? = some b → RelV b.1 u := fun i u b h1 h2 => by
    obtain ⟨u', e, r'⟩ := rv.get (bsAt i b h2).1
    rw [h1] at e
    cases e
    exact r'
  refine PySem.W.sorted_data (R := fun u b => RelV b.1 u ∧ b ∈ bs) (bs := bs) (enc := Prod.snd) pl.isList (eachOf fun i u b h1 h2 => ⟨relAt i u b h1 h2, List.mem_of_getElem? h2⟩) (eachOf fun i u b h1 h2 => ?_) (by rw [ebs]; exact hal) (by rw [ebs]; exact hsk)
    (by rw [lbs, ← l2, l1]; exact sz_ok hz) (fun b hb => ?_) fun out hl ho => ?_
  · exact Dp.reads I b.2 b.1 u (g1 i b.1 b.2 (bsAt i b h2).1 (bsAt i b h2).2) (relAt i u b h1 h2)
  · have hm : b.2 ∈ ds := by rw [← ebs]; exact List.mem_map_of_mem hb
    have := (hcl _ hm).2
    omega
  · obtain ⟨ep, he'⟩ := PyProof.Rows.sortedAll_at s.heap its out.toArray
    generalize hsb : bs.mergeSort (PySem.W.dataLe false Prod.snd) = sb at ho
    have es : sb.map Prod.snd = srt ds := by
      have hm := PySem.W.sort_maps (r := PySem.W.dataLe false Prod.snd) (s := PySem.W.dataLe false id) (Prod.snd : V × PyData → PyData) (l := bs) (fun a _ b _ => rfl)
      rw [← hsb, hm, ebs] <;> rfl
    have vals : ∀ {o : List Value} {c : List (V × PyData)}, PySem.W.EachIs (fun u b => RelV b.1 u ∧ b ∈ bs) o c → Vals (c.map Prod.fst) o ∧ ∀ b ∈ c, b ∈ bs := by
      intro o c h
      induction h with
      | nil => exact ⟨.nil, fun b hb => nomatch hb⟩
      | cons h1 _ ih => exact ⟨.cons h1.1 ih.1, fun b hb => by
          rcases List.mem_cons.mp hb with e | hb
          · rw [e]; exact h1.2
          · exact ih.2 b hb⟩
    obtain ⟨hv, hmem⟩ := vals ho
    have hlen : (sb.map Prod.fst).length ≤ sizeLine := by
      rw [hv.length, hl, lbs, ← l2, l1]
      exact sz_ok hz
    have hpair : Paired (fun y d => y ∈ xs ∧ ∃ i : Nat, xs[i]? = some y ∧ ds[i]? = some d) (sb.map Prod.fst) (srt ds) := by
      rw [← es]
      have key : ∀ c : List (V × PyData), (∀ b ∈ c, b ∈ bs) → Paired (fun y d => y ∈ xs ∧ ∃ i : Nat, xs[i]? = some y ∧ ds[i]? = some d) (c.map Prod.fst) (c.map Prod.snd) := by
        intro c
        induction c with
        | nil => intro _; exact .nil
        | cons b c ih =>
          intro h
          obtain ⟨i, hi⟩ := List.mem_iff_getElem?.mp (h b List.mem_cons_self)
          obtain ⟨h1, h2⟩ := bsAt i b hi
          exact .cons ⟨List.mem_of_getElem? h1, i, h1, h2⟩ (ih fun x hx => h x (List.mem_cons_of_mem _ hx))
      exact key sb hmem
    exact ⟨.ref _, upd H (s.heap.objs.size + 1) (.lst (sb.map Prod.fst)), I.laid (t' := s.toks) (fun _ _ => PyProof.Rows.sortedAll_old) (Nat.le_succ _) ⟨hlen, out, ep, hv, he'⟩, rfl, q _ _ hpair (I.hok.fresh (Nat.le_succ _))⟩
open Classical in
noncomputable def sortD : List PyData → Option (List PyData)
  | [.list ds] => if SrtOk ds then some (srt ds) else none
  | _ => none
theorem daPaired {K : PySem.W.Frag} {F H : Hp} (ef : Ex F H) : ∀ {vs : List V} {ds : List PyData}, DaAll F vs ds → (∀ d ∈ ds, d.canLay0 = true) → Paired (Dp K H) vs ds
  | _, _, .nil, _ => .nil
  | _, _, .cons h k, c => .cons ((h.ex ef).dp (c _ List.mem_cons_self)) (daPaired ef k fun d hd => c d (List.mem_cons_of_mem _ hd))
theorem daOf {F : Hp} {xs : List V} {ds : List PyData} (h : DaAll F xs ds) : ∀ {ys : List V} {es : List PyData}, Paired (fun y d => y ∈ xs ∧ ∃ i : Nat, xs[i]? = some y ∧ ds[i]? = some d) ys es → DaAll F ys es
  | _, _, .nil => .nil
  | _, _, .cons ⟨_, i, h1, h2⟩ t => by
    obtain ⟨d, e1, e2⟩ := h.get h1
    rw [h2] at e1
    cases e1
    exact .cons e2 (daOf h t)
theorem cd_sort {K : PySem.W.Frag} : CDL (rSortD K) sortD := by
  intro F H vs ds es Q ef hv h q
  unfold sortD at h
  split at h
  · split at h
    · rename_i ok
      cases h
      cases hv with
      | cons h1 h2 => cases h2; cases h1 with
        | @lst a ws _ h3 h4 =>
          refine ⟨a, ws, _, rfl, ef _ _ h3, daPaired ef h4 fun d hd => (ok.2.2.1 d hd).1, ok, fun ys p hp hn => ?_⟩
          exact q p ys F _ (Grow.side ef hn) hn (ef.back hn) upd_same (daOf h4 hp)
    · cases h
  · cases h

/-! ### dicts -/
def pairKv : PyData → Option (PyData × PyData)
  | .tuple [.str x, d] => some (.str x, d)
  | _ => none
def dictD : List PyData → Option PyData
  | [.list ds] => (mapO pairKv ds).bind fun kvs => if (kvs.map fun p => asS p.1).Nodup then some (.dict kvs) else none
  | _ => none
theorem DaKv.keys {F : Hp} : ∀ {kvs : List (Key × V)} {ds : List (PyData × PyData)}, DaKv F kvs ds → ∀ j : Fin 1, kvs.map (fun p => some p.1) = ds.map fun p => (asS p.1).map Sum.inr
  | _, _, .nil, _ => rfl
  | _, _, .cons _ k, j => by
    simp only [List.map_cons]
    rw [k.keys j] <;> rfl
theorem merge_nodup : ∀ (more acc : List (Key × V)), ((acc ++ more).map (·.1)).Nodup → mergeK acc more = acc ++ more
  | [], acc, _ => by simp [mergeK]
  | kv :: more, acc, h => by
    have hk : valV acc kv.1 = none := by
      unfold valV
      rw [List.find?_eq_none.mpr]
      · rfl
      · intro x hx e
        have e' : x.1 = kv.1 := of_decide_eq_true e
        rw [List.map_append, List.map_cons] at h
        have := (List.nodup_append.mp h).2.2 x.1 (List.mem_map_of_mem hx) kv.1 List.mem_cons_self
        exact this e'
    have e : mergeK acc (kv :: more) = mergeK (acc ++ [kv]) more := by
      show mergeK (putK acc kv.1 kv.2) more = _
      rw [putK_new _ hk]
    rw [e, merge_nodup more (acc ++ [kv]) (by rw [List.append_assoc]; exact h), List.append_assoc] <;> rfl
theorem pairKv_eq {d : PyData} {p : PyData × PyData} (h : pairKv d = some p) : ∃ x d', d = .tuple [.str x, d'] ∧ p = (.str x, d') := by
  unfold pairKv at h
  split at h
  · cases h; exact ⟨_, _, rfl, rfl⟩
  · cases h
theorem asS_eq {d : PyData} {x : Str} (h : asS d = some x) : d = .str x := by
  cases d <;> first | cases h
  rfl
theorem da_pairs {K : PySem.W.Frag} {F H : Hp} (ef : Ex F H) : ∀ {ds : List PyData} {vs : List V} {kvs : List (PyData × PyData)}, DaAll F vs ds → mapO pairKv ds = some kvs →
    ∃ (ps : List Addr) (ks : List (Key × V)), vs = ps.map V.ref ∧ Paired (fun p kv => SqT K H p [kV kv.1, kv.2]) ps ks ∧ DaKv F ks kvs
  | [], _, _, .nil, h => by cases h; exact ⟨[], [], rfl, .nil, .nil⟩
  | d :: ds, _, _, .cons h1 h2, h => by
    obtain ⟨p, e1, e⟩ := bnd h
    obtain ⟨r, e2, e3⟩ := mpd e
    subst e3
    obtain ⟨ps, ks, q1, q2, q3⟩ := da_pairs ef h2 e2
    obtain ⟨x, d', rfl, rfl⟩ := pairKv_eq e1
    cases h1 with
    | @tup a ws _ ha k1 => cases k1 with
      | @cons v1 _ _ _ k1 k2 => cases k2 with
        | @cons v _ _ _ k2 k3 =>
          cases k3
          cases k1
          exact ⟨a :: ps, (.inr x, v) :: ks, by rw [q1] <;> rfl, .cons (ha.sq ef) q2, .cons k2 q3⟩
theorem kv_keys {F : Hp} : ∀ {kvs : List (Key × V)} {ds : List (PyData × PyData)}, DaKv F kvs ds → (ds.map fun p => asS p.1).Nodup → (kvs.map (·.1)).Nodup := by
  intro kvs ds h nd
  have e : kvs.map (fun p => some p.1) = ds.map fun p => (asS p.1).map Sum.inr := h.keys 0
  have e2 : (kvs.map (·.1)).map some = (ds.map fun p => asS p.1).map (Option.map Sum.inr) := by
    rw [List.map_map, List.map_map]
    exact e
  have n2 : ((kvs.map (·.1)).map some).Nodup := by
    rw [e2]
    refine List.Pairwise.map _ (fun a b hab z => hab ?_) nd
    cases a <;> cases b <;> simp at z ⊢
    exact z
  exact List.Pairwise.of_map some (fun a b hab z => hab (congrArg some z)) n2
def rDictP (K : PySem.W.Frag) : List V → Hp → VK → Prop := fun xs H Q => ∃ (a : Addr) (ps : List Addr) (kvs : List (Key × V)), xs = [.ref a] ∧ SqL K H a (ps.map V.ref) ∧ Paired (fun p kv => SqT K H p [kV kv.1, kv.2]) ps kvs ∧ ∀ p, H p = none → Q (.ref p) (upd H p (.dK (mergeK [] kvs)))
theorem cd_dict0 {K : PySem.W.Frag} {F H : Hp} {vs : List V} {ds : List PyData} {d : PyData} {Q : VK} (ef : Ex F H) (hv : DaAll F vs ds) (h : dictD ds = some d) (q : ∀ p kvs es, d = .dict es → H p = none → DaKv F kvs es → Q (.ref p) (upd H p (.dK kvs))) : rDictP K vs H Q := by
  unfold dictD at h
  split at h
  · obtain ⟨kvs, e1, e2⟩ := bnd h
    split at e2
    · rename_i nd
      cases e2
      cases hv with
      | cons h1 h2 => cases h2; cases h1 with
        | @lst a ws _ h3 h4 =>
          obtain ⟨ps, ks, q1, q2, q3⟩ := da_pairs (K := K) ef h4 e1
          refine ⟨a, ps, ks, rfl, by rw [← q1]; exact SqL.of (ef _ _ h3), q2, fun p hp => ?_⟩
          rw [merge_nodup ks [] (by simpa using kv_keys q3 nd), List.nil_append]
          exact q p ks _ rfl hp q3
    · cases e2
  · cases h
theorem cd_dict {K : PySem.W.Frag} : CD (rDictP K) dictD := by
  intro F H vs ds d Q ef hv h q
  refine cd_dict0 ef hv h fun p kvs es e hp hk => ?_
  subst e
  have g := Grow.laid (o := .dK kvs) ef hp
  exact q _ _ _ g (.dict upd_same (hk.ex g.ff))
def lookKv (kvs : List (PyData × PyData)) (x : Str) : Option PyData := (kvs.find? fun p => decide (asS p.1 = some x)).map (·.2)
theorem da_look {F : Hp} {x : Str} : ∀ {kvs : List (Key × V)} {ds : List (PyData × PyData)}, DaKv F kvs ds → (valV kvs (.inr x) = none ∧ lookKv ds x = none) ∨ ∃ v d, valV kvs (.inr x) = some v ∧ lookKv ds x = some d ∧ Da F v d
  | _, _, .nil => .inl ⟨rfl, rfl⟩
  | _, _, .cons (x := y) (v := v) (d := d) (kvs := kvs) (ds := ds) h k => by
    by_cases e : y = x
    · subst e
      exact .inr ⟨v, d, by simp [valV], by simp [lookKv, asS], h⟩
    · have e1 : valV ((.inr y, v) :: kvs) (.inr x) = valV kvs (.inr x) := by
        simp [valV, List.find?_cons, e]
      have e2 : lookKv ((.str y, d) :: ds) x = lookKv ds x := by
        simp [lookKv, List.find?_cons, asS, e]
      rw [e1, e2]
      exact da_look k
def dgetD (x y : PyData) : Option PyData := match x with
  | .dict kvs => (asS y).bind fun k => lookKv kvs k
  | _ => none
def dniD (y x : PyData) : Option PyData := match x with
  | .dict kvs => (asS y).map fun k => .bool (!(lookKv kvs k).isSome)
  | _ => none
section
variable {X : Cx} {a b e : Expr} {f g : SE} {pos p : Pos}
theorem de_dget (hu : X.A.units + 1 < cLine) (ha : DE X a f) (hb : DE X b g) (hs : NoSl b := by intro _ _; rfl) : DE X (.Subscript a b pos) (op2 dgetD f g) := weakE (pe_dget hu ha hb hs) fun σ H Q w => by
  obtain ⟨F, ρ, d, R, e, q⟩ := w
  obtain ⟨x, e1, e'⟩ := bnd e
  obtain ⟨y, e2, e3⟩ := bnd e'
  refine ⟨F, ρ, x, R, e1, fun v F1 H1 g1 dv => ⟨F1, ρ, y, R.grow g1, e2, fun w F2 H2 g2 dw => ?_⟩⟩
  unfold dgetD at e3
  split at e3
  · obtain ⟨k, e4, e5⟩ := bnd e3
    cases dv.ex g2.ff with
    | @dict aa ks _ h1 h2 =>
      cases y <;> first | cases e4
      cases dw
      rcases da_look (x := k) h2 with ⟨z1, z2⟩ | ⟨v', d', z1, z2, z3⟩
      · rw [z2] at e5; cases e5
      · rw [z2] at e5; cases e5
        have dg : DGet H2 aa (kV (Sum.inr k)) (valV ks (.inr k)) := DGet.k (g2.fh _ _ h1)
        rw [z1] at dg
        exact ⟨aa, v', rfl, dg, q v' F2 H2 (g1.trans g2) z3⟩
  · cases e3
theorem dt_dni (hu : X.A.units + 1 < cLine) (ha : DE X a f) (hb : DE X b g) (h1 : behindInMarks .NotIn b = false := by rfl) : DT X (.Compare a [.NotIn] [b] pos) (tstE (op2 dniD f g)) := weakT (pt_cmp (pc_dnotin hu ha hb) h1) fun σ H Q w => by
  obtain ⟨F, ρ, t, R, e, q⟩ := w
  obtain ⟨d, e0, et⟩ := bnd e
  obtain ⟨x, e1, e'⟩ := bnd e0
  obtain ⟨y, e2, e3⟩ := bnd e'
  refine ⟨F, ρ, x, R, e1, fun v F1 H1 g1 dv => ⟨F1, ρ, y, R.grow g1, e2, fun w F2 H2 g2 dw => ?_⟩⟩
  obtain ⟨kvs, k, rfl, rfl, rfl⟩ : ∃ kvs k, y = .dict kvs ∧ x = .str k ∧ d = .bool (!(lookKv kvs k).isSome) := by
    unfold dniD at e3
    split at e3
    · obtain ⟨k, e4, e5⟩ := mpd e3
      exact ⟨_, k, rfl, asS_eq e4, e5.symm⟩
    · cases e3
  · cases et
    cases dw with
    | @dict aa ks _ h1 h2 =>
      cases dv
      have dg : DGet H2 aa (kV (Sum.inr k)) (valV ks (.inr k)) := DGet.k (g2.fh _ _ h1)
      refine ⟨aa, _, rfl, dg, _, rfl, ?_⟩
      have ee : (valV ks (.inr k)).isSome = (lookKv kvs k).isSome := by
        rcases da_look (x := k) h2 with ⟨z1, z2⟩ | ⟨v', d', z1, z2, z3⟩
        · rw [z1, z2]; rfl
        · rw [z1, z2]; rfl
      rw [ee]
      exact q F2 H2 (g1.trans g2)
end
/-- sorted(d) -/
def keysKv (kvs : List (PyData × PyData)) : Option (List Str) := mapO (fun p => asS p.1) kvs
def leS (x y : Str) : Bool := decide (x.cps.toList ≤ y.cps.toList)
end U
set_option maxHeartbeats 4000000
/-! U8: sorted(d), index, count, names of the module, lists given to a name, a dict's keys walked. -/
namespace U
open PySem PySem.Spec PyProof.Rows L2

/-! ### texts in order -/
def leSt (x y : Str) : Bool := !decide (y.cps.toList < x.cps.toList)
theorem str_ext {x y : Str} (h : x.cps.toList = y.cps.toList) : x = y := by
  cases x; cases y
  rename_i a b
  have h' : a.toList = b.toList := h
  have : a = b := Array.toList_inj.mp h'
  rw [this]
theorem leSt_total (x y : Str) : (leSt x y || leSt y x) = true := by
  unfold leSt
  by_cases h : y.cps.toList < x.cps.toList
  · have h2 : ¬ x.cps.toList < y.cps.toList := List.lt_asymm h
    simp [h2]
  · simp [h]
theorem leSt_trans (x y z : Str) (h1 : leSt x y = true) (h2 : leSt y z = true) : leSt x z = true := by
  unfold leSt at *
  simp only [Bool.not_eq_true', decide_eq_false_iff_not] at *
  exact fun h => h1 (by
    have a : x.cps.toList ≤ y.cps.toList := h1
    have b : y.cps.toList ≤ z.cps.toList := h2
    exact absurd h (List.le_trans a b))
theorem leSt_anti (x y : Str) (h1 : leSt x y = true) (h2 : leSt y x = true) : x = y := by
  unfold leSt at *
  simp only [Bool.not_eq_true', decide_eq_false_iff_not] at *
  exact str_ext (List.le_antisymm h1 h2)
theorem rising_pw : ∀ (p : Str) (l : List Str), risingS p l = true → (p :: l).Pairwise (fun a b => leSt a b = true)
  | p, [], _ => List.pairwise_singleton _ _
  | p, x :: r, h => by
    unfold risingS at h
    rw [Bool.and_eq_true, ltCps_eq] at h
    have ih := rising_pw x r h.2
    refine List.pairwise_cons.mpr ⟨fun b hb => ?_, ih⟩
    rcases List.mem_cons.mp hb with rfl | hb
    · exact h.1
    · exact leSt_trans p x b h.1 ((List.pairwise_cons.mp ih).1 b hb)
theorem sortedS_pw : ∀ l : List Str, sortedS l = true → l.Pairwise (fun a b => leSt a b = true)
  | [], _ => .nil
  | x :: r, h => rising_pw x r h
theorem sortS_one {ys ks : List Str} (hp : ys.Perm ks) (hs : sortedS ys = true) : ys = ks.mergeSort leSt :=
  List.Perm.eq_of_pairwise (le := fun a b => leSt a b = true) (fun a b _ _ => leSt_anti a b) (sortedS_pw ys hs) (List.pairwise_mergeSort leSt_trans leSt_total ks) (hp.trans (List.mergeSort_perm ks leSt).symm)

def sortKD : List PyData → Option (List PyData)
  | [.dict kvs] => (keysKv kvs).bind fun ks => if ks.length < 64 then some ((ks.mergeSort leSt).map .str) else none
  | _ => none
theorem kv_strs {F : Hp} : ∀ {kvs : List (Key × V)} {ds : List (PyData × PyData)} {ks : List Str}, DaKv F kvs ds → keysKv ds = some ks → kvs.map (·.1) = ks.map Sum.inr
  | _, _, _, .nil, h => by cases h; rfl
  | _, _, _, .cons (x := x) h k, e => by
    unfold keysKv at e
    obtain ⟨a, e1, e2⟩ := bnd e
    obtain ⟨r, e3, e4⟩ := mpd e2
    subst e4
    cases e1
    rw [List.map_cons, List.map_cons, kv_strs k e3]
theorem da_strMap {F : Hp} : ∀ ks : List Str, DaAll F (ks.map V.str) (ks.map PyData.str)
  | [] => .nil
  | k :: ks => .cons (.str k) (da_strMap ks)
theorem cd_sortK : CDL (fun xs H Q => ∃ (a : Addr) (kvs : List (Key × V)) (ks : List Str), xs = [.ref a] ∧ Rd H a (.dK kvs) ∧ kvs.map (·.1) = ks.map Sum.inr ∧ ks.length < 64 ∧
    ∀ ys p, ys.Perm ks → sortedS ys = true → H p = none → Q (.ref p) (upd H p (.lst (ys.map V.str)))) sortKD := by
  intro F H vs ds es Q ef hv h q
  unfold sortKD at h
  split at h
  · obtain ⟨ks, e1, e2⟩ := bnd h
    split at e2
    · cases e2
      cases hv with
      | cons h1 h2 => cases h2; cases h1 with
        | @dict a kvs _ h3 h4 =>
          refine ⟨a, kvs, ks, rfl, .inl (ef _ _ h3), kv_strs h4 e1, by assumption, fun ys p hp hs hn => ?_⟩
          rw [sortS_one hp hs]
          exact q p _ F _ (Grow.side ef hn) hn (ef.back hn) upd_same (da_strMap _)
    · cases e2
  · cases h
noncomputable def sortAD (ds : List PyData) : Option (List PyData) := match sortD ds with
  | some r => some r
  | none => sortKD ds
theorem CDL.or {r r' : List V → Hp → VK → Prop} {φ ψ : List PyData → Option (List PyData)} (h : CDL r φ) (h' : CDL r' ψ) : CDL (fun xs H Q => r xs H Q ∨ r' xs H Q) (fun ds => match φ ds with
    | some r => some r
    | none => ψ ds) := by
  intro F H vs ds es Q ef hv e q
  have e' : (match φ ds with
    | some r => some r
    | none => ψ ds) = some es := e
  cases z : φ ds with
  | some rr => rw [z] at e'; cases e'; exact .inl (h F H vs ds es Q ef hv z q)
  | none => rw [z] at e'; exact .inr (h' F H vs ds es Q ef hv e' q)
section
variable {X : Cx} {a b e o : Expr} {f g : SE} {es : List Expr} {u : SA} {pos p : Pos} {k : Nat}
theorem dl_sorted (hr : Room k X.A) (hc : X.calm = true) (hg : Gl X "sorted") (hm : X.mg "sorted" = none) (ha : DA X (e :: es) u) (hs : starEach (e :: es) X.env = (false, eval e X.env) :: starEach es X.env := by rfl) (hp : (backTo pos (starEach es X.env)).any (·.1) = false := by rfl) :
    DL X (.Call (.Name "sorted" p) (e :: es) [] pos) (calL sortAD u) :=
  dl_callB ((cr_sortD (by have := hr.un; omega)).or (call_sortedD hc)) (CDL.or cd_sort cd_sortK) hg hm (by decide +kernel) ha (by decide) (by decide) hs hp

/-! ### methods of tuples and lists -/
def idxD (x y : PyData) : Option PyData := match x with
  | .tuple ds => if SeqAt.shaped (.tuple ds) = true ∧ SeqAt.shaped y = true then (ds.findIdx? fun z => PyData.eqv z y).map fun j => .int (j : Nat) else none
  | _ => none
/-- t.index(x), t a tuple whose object is known -/
def rTupIdx (K : PySem.W.Frag) : V → List V → Hp → VK → Prop := fun x xs H Q => ∃ (a : Addr) (y : V) (d : PyData) (vs : List V) (ds : List PyData) (j : Nat), x = V.ref a ∧ xs = [y] ∧ SqT K H a vs ∧ DpAll K H vs ds ∧ Dp K H y d ∧
  SeqAt.shaped (.tuple ds) = true ∧ SeqAt.shaped d = true ∧ ds.findIdx? (fun z => PyData.eqv z d) = some j ∧ Q (.int (j : Nat)) H
theorem mt_tupIdx (hu : X.A.units + 65 < cLine) : MtR X "tuple.index" (rTupIdx X.K) := by
  intro pins s σ H x xs v us Q I rx rxs h
  obtain ⟨a, y, d, vs, ds, j, rfl, rfl, hs, hds, hy, sl, sd, hj, q⟩ := h
  cases rx
  obtain ⟨uy, rfl, ry⟩ := vals1 rxs
  obtain ⟨bs, r1⟩ := Dp.reads I d y uy hy ry
  obtain ⟨its, rv, ⟨⟨cls, dd, data, sls⟩, ho, hc, n, hd⟩, hlen⟩ := I.tuple hs
  simp only at hc hd
  subst hc hd
  obtain ⟨as, hr⟩ := Dp.readsAll I ds _ its hds rv
  have hxs : PyData.canLayAll0 ds = true := by
    have z := SeqAt.canLay_of_shaped sl
    simpa [PyData.canLay0] using z
  have hroom : X.A.units + 1 + min (PyData.depthAll ds) d.depth < cLine := room_in_shaped sd hu
  have hmap : its.map (SeqAt.readOf s.heap) = ds := SeqAt.readsAll_map ds its as hxs hr
  have hn : its.length = ds.length := SeqAt.ReadsAll.length ds its as hr
  obtain ⟨hjl, hjt, hjn⟩ := List.findIdx?_eq_some_iff_getElem.mp hj
  have at_ : ∀ (m : Nat) (hm : m < its.toArray.size) (hm2 : m < ds.length), SeqAt.readOf s.heap its.toArray[m] = ds[m] := by
    intro m hm hm2
    have e : (its.map (SeqAt.readOf s.heap))[m]? = some ds[m] := by rw [hmap]; exact List.getElem?_eq_getElem hm2
    rw [List.getElem?_map, List.getElem?_eq_getElem (by omega)] at e
    have e1 := Option.some.inj e
    simpa using e1
  have hj' : j < its.toArray.size := by rw [List.size_toArray]; omega
  refine call_meets PySem.F.slot_tuple_index ⟨_, ho, rfl⟩ PySem.F.entry_tuple_index (PySem.F.args_tuple_index_2 _ _) (TI.tuple_indexAt a its.toArray n dd sls uy (fun u => PyData.eqv (SeqAt.readOf s.heap u) d) j hj' ?_ ?_)
    ⟨ho, SeqAt.items_eqAt (vs := its.toArray) (show ReadsAll s.heap its.toArray.toList ds as by simpa using hr) r1 hxs (SeqAt.canLay_of_shaped sd) hroom, ⟨.int (j : Nat), H, I.tok _, ⟨_, rfl⟩, q⟩⟩
  · show PyData.eqv (SeqAt.readOf s.heap its.toArray[j]) d = true
    rw [at_ j hj' hjl]
    exact hjt
  · intro m hm hmj
    show PyData.eqv (SeqAt.readOf s.heap its.toArray[m]) d = false
    rw [at_ m hm (by omega)]
    have := hjn m hmj
    simpa using this
/-- the method of a tuple whose object is known -/
theorem pe_tupIdx {t : TE} {apos cpos : Pos} {te : TE} {r : V → List V → Hp → VK → Prop} (hm : MtR X "tuple.index" r) (ho : PE X o te) (ha : PE X e t)
    (hbase : attributeBase o "index" X.env (eval o X.env) = eval o X.env := by rfl)
    (hfew : ((backTo cpos (starEach [e] X.env)).all (fun x => !x.1) && (backToKw cpos (keywordEach [] X.env)).all (fun x => x.1.isSome) && decide (([e] : List Expr).length + ([] : List Keyword).length + (if ([] : List Keyword).isEmpty then 0 else 1) < 30)) = true := by rfl)
    (hline : (apos.endLine == cpos.line) = true := by rfl) (hs : starEach [e] X.env = (false, eval e X.env) :: starEach [] X.env := by rfl) (hplain : (backTo cpos (starEach [] X.env)).any (·.1) = false := by rfl) :
    PE X (.Call (.Attribute o "index" apos) [e] [] cpos) (fun σ H Q => te σ H fun x H1 => (∃ a ob u, x = .ref a ∧ H1 a = some (.frz ob (.tup u)) ∧ ob.dict = none) ∧ t σ H1 fun y H2 => r x [y] H2 Q) := by
  refine ⟨fun pins s σ H Q I h => ?_⟩
  refine wpAny_Call_method_late hbase hfew hline rfl (thn (ho.run pins s σ H _ I h) fun v s1 ⟨x, H1, I1, r1, ⟨a, ob, u, ex, hfr, hdn⟩, q1⟩ => ?_)
  subst ex
  cases r1
  obtain ⟨hob, _, its, rv, o', ho', hc', n, hd'⟩ := (show ObjOk X.prog X.w H1 s1.heap a (.frz ob (.tup u)) from I1.hok a _ hfr)
  refine ⟨"tuple", "tuple.index", PySem.F.plainAttrs_tuple, PySem.F.slot_tuple_index, PySem.F.type_tuple_index, ⟨o', ho', hc'⟩, fun b eb => ?_, ?_⟩
  · cases eb; exact ⟨ob, hob, hdn⟩
  have q2 : tCons t tNil σ H1 (fun vs H2 => r (V.ref a) vs H2 Q) := q1
  have hA := (pa_cons ha (pa_nil (X := X)) hs).run cpos pins s1 σ H1 _ I1 q2
  rw [hs] at hA ⊢
  refine Calls.callWith_builtin (by show (false || (backTo cpos (starEach [] X.env)).any (·.1)) = false; rw [hplain] <;> rfl) (Calls.evalArgs_plain ?_)
  exact thn hA fun us s2 ⟨vs, H2, I2, r2, q2⟩ => hm pins s2 σ H2 (.ref a) vs (.ref a) us Q I2 rfl r2 q2
def idxE (l : SA) (f : SE) : SE := fun ρ => (l ρ).bind fun ds => (f ρ).bind fun y => idxD (.tuple ds) y
theorem de_tupIdx {apos cpos : Pos} {l : SA} (hr : Room k X.A) (ho : DN X o l) (ha : DE X e f) (hbase : attributeBase o "index" X.env (eval o X.env) = eval o X.env := by rfl)
    (hfew : ((backTo cpos (starEach [e] X.env)).all (fun x => !x.1) && (backToKw cpos (keywordEach [] X.env)).all (fun x => x.1.isSome) && decide (([e] : List Expr).length + ([] : List Keyword).length + (if ([] : List Keyword).isEmpty then 0 else 1) < 30)) = true := by rfl)
    (hline : (apos.endLine == cpos.line) = true := by rfl) (hs : starEach [e] X.env = (false, eval e X.env) :: starEach [] X.env := by rfl) (hplain : (backTo cpos (starEach [] X.env)).any (·.1) = false := by rfl) :
    DE X (.Call (.Attribute o "index" apos) [e] [] cpos) (idxE l f) := weakE (pe_tupIdx (mt_tupIdx (u65 hr)) ho ha hbase hfew hline hs hplain) fun σ H Q w => by
  obtain ⟨F, ρ, d, R, e, q⟩ := w
  obtain ⟨ds, e1, e'⟩ := bnd e
  obtain ⟨y, e2, e3⟩ := bnd e'
  refine ⟨F, ρ, ds, R, e1, fun v F1 H1 g1 dv => ?_⟩
  obtain ⟨a, ob, vs, rfl, hdn, hfr, hda⟩ := dv
  refine ⟨⟨a, ob, vs, rfl, g1.fh _ _ hfr, hdn⟩, F1, ρ, y, R.grow g1, e2, fun w F2 H2 g2 dw => ?_⟩
  unfold idxD at e3
  have e3' : (if SeqAt.shaped (.tuple ds) = true ∧ SeqAt.shaped y = true then (ds.findIdx? fun z => PyData.eqv z y).map fun j => PyData.int (j : Nat) else none) = some d := e3
  split at e3'
  · rename_i c
    obtain ⟨j, e4, e5⟩ := mpd e3'
    subst e5
    have cl : PyData.canLayAll0 ds = true := by
      have z := SeqAt.canLay_of_shaped c.1
      simpa [PyData.canLay0] using z
    exact ⟨a, w, y, vs, ds, j, rfl, rfl, .inl (.inr ⟨ob, (g1.hh.trans g2.hh |> fun _ => g2.fh) _ _ (g2.ff _ _ hfr)⟩), ((hda.ex g2.ff).ex g2.fh).dp cl, dp_of g2.fh dw c.2, c.1, c.2, e4, q _ F2 H2 (g1.trans g2) (.int _)⟩
  · cases e3'
def cntD (x y : PyData) : Option PyData := match x with
  | .list ds => (mapO asI ds).bind fun ns => (asI y).map fun k => .int (ns.count k : Nat)
  | _ => none
theorem de_count {apos cpos : Pos} (ho : DE X o f) (ha : DE X e g) (hbase : attributeBase o "count" X.env (eval o X.env) = eval o X.env := by rfl)
    (hfew : ((backTo cpos (starEach [e] X.env)).all (fun x => !x.1) && (backToKw cpos (keywordEach [] X.env)).all (fun x => x.1.isSome) && decide (([e] : List Expr).length + ([] : List Keyword).length + (if ([] : List Keyword).isEmpty then 0 else 1) < 30)) = true := by rfl)
    (hline : (apos.endLine == cpos.line) = true := by rfl) (hs : starEach [e] X.env = (false, eval e X.env) :: starEach [] X.env := by rfl) (hplain : (backTo cpos (starEach [] X.env)).any (·.1) = false := by rfl) :
    DE X (.Call (.Attribute o "count" apos) [e] [] cpos) (op2 cntD f g) := weakE (pe_bm PySem.F.plainAttrs_list PySem.F.slot_list_count PySem.F.type_list_count mt_lcount ho (pa_cons ha pa_nil hs) hbase hfew hline hs hplain) fun σ H Q w => by
  obtain ⟨F, ρ, d, R, e, q⟩ := w
  obtain ⟨x, e1, e'⟩ := bnd e
  obtain ⟨y, e2, e3⟩ := bnd e'
  refine ⟨F, ρ, x, R, e1, fun v F1 H1 g1 dv => ?_⟩
  cases x with
  | list ds =>
    obtain ⟨ns, e4, e5⟩ := bnd e3
    obtain ⟨kk, e6, e7⟩ := mpd e5
    subst e7
    cases dv with
    | @lst a vs _ h1 h2 =>
      have ev := da_ints h2 e4
      subst ev
      refine ⟨.inl ⟨rfl, _, SqL.of (g1.fh _ _ h1)⟩, F1, ρ, y, R.grow g1, e2, fun w F2 H2 g2 dw => ?_⟩
      cases y <;> first | cases e6
      cases dw
      exact ⟨a, ns, _, rfl, rfl, SqL.of (g2.fh _ _ (g2.ff _ _ h1)), q _ F2 H2 (g1.trans g2) (.int _)⟩
  | _ => cases e3

/-! ### names of the module -/
theorem de_globS {x z : Str} (hg : Gl X x) (hm : ∃ t, X.mg x = some (.str z t)) (hd : (x == ("__debug__" : Str)) = false := by decide) : DE X (.Name x pos) (cE (.str z)) := by
  obtain ⟨t, hm⟩ := hm
  exact de_con (pe_glob (v := .str z) hg hm ⟨t, rfl⟩ hd) fun _ => .str z
theorem de_globI {x : Str} {z : Int} (hg : Gl X x) (hm : ∃ t, X.mg x = some (.int z t)) (hd : (x == ("__debug__" : Str)) = false := by decide) : DE X (.Name x pos) (cE (.int z)) := by
  obtain ⟨t, hm⟩ := hm
  exact de_con (pe_glob (v := .int z) hg hm ⟨t, rfl⟩ hd) fun _ => .int z

/-! ### name = [..] on one line -/
section
variable {elt tg iter : Expr} {ifs : List Expr} {scope : Scope} {own : List (Str × Nat)} {spos py : Pos} {it : SA} {gg : SG} {ix : List Nat} {t : ST} {ee : SE} {i : Nat} {y : Str}
theorem ds_lcO (hc : X.calm = true) (hN : X.N.Nodup) (hy : X.N[i]? = some y) (hyl : X.env.scope.names.lookup y = some .local)
    (hsw : swapsWith (.ListComp elt [⟨tg, iter, ifs, 0⟩] scope pos) (some (.Name y py)) spos.line X.env = pure true) (hi : DI X tg iter it) (ok : BlkOk X.N X.env.scope scope own)
    (hg : ∀ (s : Shared) (H : Hp) (C : Addr) (cl : List (Str × Addr)) (fp : List Addr), DG (X.blk s H scope (compEnvC scope cl C X.env) fp) tg gg ix) (ht : ∀ (s : Shared) (H : Hp) (C : Addr) (cl : List (Str × Addr)) (fp : List Addr), DTs (X.blk s H scope (compEnvC scope cl C X.env) fp) ifs t)
    (he : ∀ (s : Shared) (H : Hp) (C : Addr) (cl : List (Str × Addr)) (fp : List Addr), DE (X.blk s H scope (compEnvC scope cl C X.env) fp) elt ee) (hix : ∀ i ∈ ix, i ∈ own.map (·.2)) (hs : ∀ x, foldedSetIterable iter X.env x = pure x := by intro _; rfl) :
    DS X (.Assign [.Name y py] (.ListComp elt [⟨tg, iter, ifs, 0⟩] scope pos) spos) (setO i (lcL it gg t ee (own.map (·.2)))) := weakS (ps_setLc hc hN hy hyl hsw hi ok hg ht he hs) fun E σ H w => lc_read hix (own_read w)
theorem frzd_read {l : SA} {E : Ends} {σ : L2.St} {H : Hp} (w : tDS (setS i (frzE l)) E σ H) : tAsg (tDL l) (gName i) E σ H := by
  obtain ⟨F0, H0, F, ρ, r, gr, o, R, e, q⟩ := w
  obtain ⟨d, e1, e2⟩ := mpd e
  obtain ⟨ds, e3, e4⟩ := mpd e1
  subst e2
  subst e4
  refine ⟨F, ρ, ds, R, e3, fun p vs F' H' g n1 n2 hp dv => ?_⟩
  have g2 := g.freeze n1 n2 hp
  exact q _ H' _ (gr.trans g2) (o.setDat i) ((R.grow g2).setDat i (.lst upd_same (dv.ex (Ex.new n2))))
theorem ds_lcS (hc : X.calm = true) (hN : X.N.Nodup) (hy : X.N[i]? = some y) (hyl : X.env.scope.names.lookup y = some .local)
    (hsw : swapsWith (.ListComp elt [⟨tg, iter, ifs, 0⟩] scope pos) (some (.Name y py)) spos.line X.env = pure true) (hi : DI X tg iter it) (ok : BlkOk X.N X.env.scope scope own)
    (hg : ∀ (s : Shared) (H : Hp) (C : Addr) (cl : List (Str × Addr)) (fp : List Addr), DG (X.blk s H scope (compEnvC scope cl C X.env) fp) tg gg ix) (ht : ∀ (s : Shared) (H : Hp) (C : Addr) (cl : List (Str × Addr)) (fp : List Addr), DTs (X.blk s H scope (compEnvC scope cl C X.env) fp) ifs t)
    (he : ∀ (s : Shared) (H : Hp) (C : Addr) (cl : List (Str × Addr)) (fp : List Addr), DE (X.blk s H scope (compEnvC scope cl C X.env) fp) elt ee) (hix : ∀ i ∈ ix, i ∈ own.map (·.2)) (hs : ∀ x, foldedSetIterable iter X.env x = pure x := by intro _; rfl) :
    DS X (.Assign [.Name y py] (.ListComp elt [⟨tg, iter, ifs, 0⟩] scope pos) spos) (setS i (frzE (lcL it gg t ee (own.map (·.2))))) := weakS (ps_setLc hc hN hy hyl hsw hi ok hg ht he hs) fun E σ H w => lc_read hix (frzd_read w)
end

/-! ### the keys of a new dict -/
/-- an expression that gives a new dict -/
def tDD (f : Rho → Option (List (PyData × PyData))) : TE := fun σ H Q => ∃ F ρ ds, Rep F H σ ρ ∧ f ρ = some ds ∧ ∀ p kvs F' H', Grow F H F' H' → H p = none → F' p = none → H' p = some (.dK kvs) → DaKv F' kvs ds → Q (.ref p) H'
theorem pe_lockEnd {te : TE} (he : PE X e te) : PE X e (fun σ H Q => te σ H fun x H1 => ∃ d kvs, x = .ref d ∧ H1 d = some (.dK kvs) ∧ ∀ od, Q x (upd H1 d (.frz od (.dK kvs)))) := by
  refine ⟨fun pins s σ H Q I h => ?_⟩
  refine thn (he.run pins s σ H _ I h) fun v s1 ⟨x, H1, I1, r1, d, kvs, ex, hd, q⟩ => ?_
  obtain ⟨od, I2⟩ := I1.lock hd trivial
  exact ⟨x, _, I2, r1, q od⟩
def keysOf (ds : List (PyData × PyData)) : List PyData := ds.map Prod.fst
theorem DaKv.at {F : Hp} : ∀ {kvs : List (Key × V)} {ds : List (PyData × PyData)} {i : Nat} {k : Key} {v : V}, DaKv F kvs ds → kvs[i]? = some (k, v) → ∃ x d, k = .inr x ∧ ds[i]? = some (.str x, d)
  | _, _, _, _, _, .nil, e => by simp at e
  | _, _, 0, _, _, .cons (x := x) (d := d) h _, e => by
    simp at e
    obtain ⟨rfl, rfl⟩ := e
    exact ⟨x, d, rfl, by simp⟩
  | _, _, i + 1, _, _, .cons _ k, e => by
    obtain ⟨x, d, h1, h2⟩ := k.at (i := i) (by simpa using e)
    exact ⟨x, d, h1, by simpa using h2⟩
theorem DaKv.length {F : Hp} : ∀ {kvs : List (Key × V)} {ds : List (PyData × PyData)}, DaKv F kvs ds → kvs.length = ds.length
  | _, _, .nil => rfl
  | _, _, .cons _ k => by rw [List.length_cons, List.length_cons, k.length]
theorem di_keys {tg : Expr} {fk : Rho → Option (List (PyData × PyData))} (he : PE X e (tDD fk)) : DI X tg e (fun ρ => (fk ρ).map keysOf) := weakI (pi_keys (pe_lockEnd he)) fun σ H R w => by
  obtain ⟨F, ρ, ds, Re, e, q⟩ := w
  obtain ⟨kv, e1, e2⟩ := mpd e
  subst e2
  refine ⟨F, ρ, kv, Re, e1, fun p kvs F' H' g n1 n2 hp hk => ⟨p, kvs, rfl, hp, fun od => ⟨p, od, rfl, .inl ⟨kvs, upd_same, ?_⟩⟩⟩⟩
  have g2 : Grow F H (upd F' p (.frz od (.dK kvs))) (upd H' p (.frz od (.dK kvs))) := (g.mut n1 n2).freeze n1 n2 upd_same
  refine q _ _ _ g2 ?_
  have hl : (keysOf kv).length = kvs.length := by unfold keysOf; rw [List.length_map, hk.length]
  refine ⟨_, _, by rw [hl]; exact walk_keys (d := p) (o := od) (kvs := kvs), fun F2 H2 x1 x2 => x2 _ _ (x1 _ _ upd_same), fun i F2 H2 x H3 hi x1 x2 y => ?_⟩
  obtain ⟨rfl, k, v, h1, rfl⟩ := y
  obtain ⟨z, d, rfl, h2⟩ := hk.at h1
  refine ⟨F2, .str z, Grow.refl x2, ?_, .str z⟩
  unfold keysOf
  rw [List.getElem?_map, h2] <;> rfl
end
end U
set_option maxHeartbeats 4000000
/-! S0: tuples of ints and texts as members of a set: the model's small questions. -/
namespace U
open PySem PySem.Spec PyProof.Rows L2
def Leafy (v : Value) : Prop := (∃ i t, v = .int i t) ∨ ∃ x t, v = .str x t
theorem Leafy.ask (n : Nat) {v : Value} (h : Leafy v) : ofAClassStatement n v = pure false ∧ ∃ r, hashByValue n v = pure r := by
  rcases h with ⟨i, t, rfl⟩ | ⟨x, t, rfl⟩ <;> cases n <;> exact ⟨rfl, _, rfl⟩
section
variable {P : Program} {w : World} {A : Around} {E : Value → Shared → Prop} {s : Shared} {k : List Key} {b : Addr}
abbrev Kt (P : Program) (w : World) (h : Heap) (k : List Key) (b : Addr) : Prop := IsTupleKey (mixKind P w) h k b
theorem leafy_all {vs : List Value} (h : ItemsAre (mixKind P w) k vs) : ∀ v ∈ vs, Leafy v := by
  induction h with
  | nil => exact fun v hv => nomatch hv
  | cons h1 _ ih =>
    intro v hv
    cases hv with
    | head => rcases keyIs_shape h1 with ⟨i, t, _, e⟩ | ⟨x, t, _, e⟩
              · exact .inl ⟨i, t, e⟩
              · exact .inr ⟨x, t, e⟩
    | tail _ hv => exact ih v hv
theorem Kt.class_ {Q : Bool → Shared → Prop} (hk : Kt P w s.heap k b) (h : Q false s) : wpAny (model P w) A (ofAClassStatement 8 (.ref b)) Q E s := by
  obtain ⟨o, items, n, ho, hc, hd, hi⟩ := id hk
  unfold ofAClassStatement
  refine wpAny_bind (wpAny_typeOf hk.typeIs ?_)
  simp only [show (("tuple" : String) == "tuple") = true from by decide, if_true, Bool.not_true, Bool.false_eq_true, if_false]
  refine wpAny_bind (wpAny_pure ?_)
  simp only [Bool.not_true, Bool.false_eq_true, if_false]
  refine wpAny_bind (wpAny_seqItems ho hd ?_)
  have q : forIn items (none, ()) (fun (y : Value) (_ : Option Bool × Unit) => do
      if (← ofAClassStatement 7 y) = true then pure (ForInStep.done (some true, ())) else pure (ForInStep.yield (none, ()))) = (pure (none, ()) : Sem (Option Bool × Unit)) := by
    rw [← Array.forIn_toList]
    have all := leafy_all hi
    generalize items.toList = l at all
    induction l with
    | nil => rfl
    | cons v l ih =>
      rw [List.forIn_cons, ((all v List.mem_cons_self).ask 7).1]
      exact ih fun u hu => all u (List.mem_cons_of_mem _ hu)
  show wpAny _ _ (_ >>= _) _ _ _
  rw [q]
  exact wpAny_bind (wpAny_pure (wpAny_pure h))
theorem Kt.byv {Q : Bool → Shared → Prop} (hk : Kt P w s.heap k b) (h : ∀ r, Q r s) : wpAny (model P w) A (hashByValue 8 (.ref b)) Q E s := by
  obtain ⟨o, items, n, ho, hc, hd, hi⟩ := id hk
  unfold hashByValue
  refine wpAny_bind (wpAny_specialOf hk.typeIs F.slot_tuple_hash.lookup ?_)
  show wpAny _ _ (seqItems? (.ref b) >>= _) _ _ s
  refine wpAny_bind (wpAny_seqItems ho hd ?_)
  refine wpAny_bind ?_
  show wpAny _ _ (forIn items _ _) _ _ s
  rw [← Array.forIn_toList]
  refine wpAny_forIn_list _ (fun rest r s' => r = (none, ()) ∧ s' = s ∧ ∀ v ∈ rest, Leafy v) _ (fun v rest r s' z => ?_) (fun r s' z => ?_) _ _ ⟨rfl, rfl, leafy_all hi⟩
  · obtain ⟨rfl, rfl, all⟩ := z
    obtain ⟨c, e⟩ := ((all v List.mem_cons_self).ask 7).2
    rw [e]
    refine wpAny_bind (wpAny_pure ?_)
    cases c with
    | true => exact wpAny_pure ⟨rfl, rfl, fun u hu => all u (List.mem_cons_of_mem _ hu)⟩
    | false => exact wpAny_pure (wpAny_pure (h false))
  · obtain ⟨rfl, rfl, _⟩ := z
    exact wpAny_pure (h true)
theorem Kt.seen {Q : Bool → Shared → Prop} (hk : Kt P w s.heap k b) {ys : List Value} (hy : ∀ y ∈ ys, ∃ k' c, y = Value.ref c ∧ Kt P w s.heap k' c) (h : Q false s) : wpAny (model P w) A (searchCouldBeSeen (.ref b) ys) Q E s := by
  unfold searchCouldBeSeen
  refine wpAny_bind (wpAny_forIn_list _ (fun rest r s' => r = (none, ()) ∧ s' = s ∧ ∀ y ∈ rest, ∃ k' c, y = Value.ref c ∧ Kt P w s.heap k' c) _ (fun v rest r s' z => ?_) (fun r s' z => ?_) _ _ ⟨rfl, rfl, hy⟩)
  · obtain ⟨rfl, rfl, all⟩ := z
    obtain ⟨k', c, rfl, hc⟩ := all v List.mem_cons_self
    have more : ∀ y ∈ rest, ∃ k' c, y = Value.ref c ∧ Kt P w s'.heap k' c := fun u hu => all u (List.mem_cons_of_mem _ hu)
    dsimp only
    split
    · exact wpAny_pure ⟨rfl, rfl, more⟩
    · refine wpAny_bind (wpAny_eqIsQuiet_tuple hk (wpAny_bind (wpAny_eqIsQuiet_tuple hc (wpAny_bind (hk.class_ (wpAny_bind (hc.class_ ?_)))))))
      exact wpAny_pure ⟨rfl, rfl, more⟩
  · obtain ⟨rfl, rfl, _⟩ := z
    exact wpAny_pure h
end
end U
set_option maxHeartbeats 4000000
/-! S1: a set of tuples of ints and texts: the search. -/
namespace U
open PySem PySem.Spec PyProof.Rows L2
abbrev kH (P : Program) (w : World) (k : List Key) : Int := tupleKeyHash (mixKind P w) k
abbrev KL := List (Addr × List Key)
def kRow (P : Program) (w : World) (p : Addr × List Key) : Int × Value := (kH P w p.2, .ref p.1)
/-- the state of probing after c steps -/
def pst (m : Nat) (h : Int) (c : Nat) : SetTable.Probe := nth m (runAt m (SetTable.bits h % (m + 1)) (SetTable.bits h)) c
theorem pst_add (m : Nat) (h : Int) (c q : Nat) : nth m (pst m h c) q = pst m h (c + q) := (nth_add m c _ q).symm
theorem pst_dummy (m : Nat) (h : Int) (c : Nat) : (pst m h c).dummy = none := by
  have key : ∀ n p, SetTable.Probe.dummy p = none → (nth m p n).dummy = none := fun n => by
    induction n with
    | zero => exact fun p e => e
    | succ n ih => exact fun p e => ih _ (by unfold adv; split <;> exact e)
  exact key c _ rfl
structure KS (P : Program) (w : World) (h : Heap) (a : Addr) (L : KL) (es : Array (Int × Value)) (ep : Nat) (t : SetTable) : Prop where
  ob : ∃ o, h.get? a = some o ∧ o.ExactSet ∧ o.data = .set es ep t
  rows : es.toList = L.map (kRow P w)
  tab : TabOk t (L.map fun p => kH P w p.2)
  nd : (L.map Prod.snd).Nodup
  at_ : ∀ p ∈ L, Kt P w h p.2 p.1
  led : w.params.followText "set-order" = true ∨ t.led = true
  room : L.length * 5 < t.mask * 3
  few : L.length < 64
section
variable {P : Program} {w : World} {A : Around} {E : Value → Shared → Prop} {s : Shared} {a : Addr} {L : KL} {es : Array (Int × Value)} {ep : Nat} {t : SetTable}
theorem KS.len (R : KS P w s.heap a L es ep t) : es.size = L.length ∧ t.place.size = L.length := by
  have h1 := congrArg List.length R.rows
  have h2 := R.tab.sz
  rw [List.length_map] at h1 h2
  exact ⟨h1, h2⟩
theorem fits_of {n : Nat} (h1 : t.place.size = n) (h2 : t.dummies = #[]) (h3 : n ≤ t.mask) : t.fits n = true := by
  unfold SetTable.fits SetTable.fill
  rw [h2, h1]
  simpa using h3
theorem KS.fits (R : KS P w s.heap a L es ep t) : t.fits es.size = true := by
  obtain ⟨e1, e2⟩ := R.len
  have := R.room
  exact fits_of (by rw [e1, e2]) R.tab.dm (by omega)
theorem KS.row (R : KS P w s.heap a L es ep t) {i : Nat} {p : Addr × List Key} (h : L[i]? = some p) : es[i]? = some (kRow P w p) := by
  rw [← Array.getElem?_toList, R.rows, List.getElem?_map, h] <;> rfl
theorem KS.search (R : KS P w s.heap a L es ep t) {x : Addr} {k : List Key} (hx : Kt P w s.heap k x) (hu : A.units < cLine) {K : Nat} (hKf : K < 10 * SetTable.turns t.mask)
    (hK : (pst t.mask (kH P w k) K).j ∉ t.place.toList) (hKb : ∀ c, c < K → (pst t.mask (kH P w k) c).j ∈ t.place.toList) {Q : SetFound → Shared → Prop}
    (hin : k ∈ L.map Prod.snd → Q (.there none) s) (hout : k ∉ L.map Prod.snd → Q (.free (pst t.mask (kH P w k) K).j false) s) :
    ∀ (f c : Nat) (st : Option SetTable.Probe), st.getD (t.probeStart (kH P w k)) = pst t.mask (kH P w k) c → c ≤ K → K - c < f →
      (∀ (i : Nat) p, L[i]? = some p → p.2 = k → ∃ d, c ≤ d ∧ d < K ∧ t.place.toList[i]? = some (pst t.mask (kH P w k) d).j) →
      wpAny (model P w) A (setSearchFrom a (.ref x) (kH P w k) true f st) Q E s := by
  intro f
  induction f with
  | zero => exact fun c st _ _ hf _ => absurd hf (Nat.not_lt_zero _)
  | succ f ih =>
    intro c st hst hc hf hre
    obtain ⟨o, ho, hex, hd⟩ := R.ob
    have hat : ∀ (i : Nat) p, L[i]? = some p → ((es[i]?.map (·.1)).getD 0) = kH P w p.2 := fun i p hp => by rw [R.row hp] <;> rfl
    rw [setSearchFrom_succ]
    refine wpAny_bind (wpAny_setState_of ho hd R.fits ?_)
    refine wp_if_neg (by unfold SetTable.gaveWay; rw [mask_odd R.tab.mok]; decide) ?_
    have pj : ∀ q, (nth t.mask (pst t.mask (kH P w k) c) q).j = (pst t.mask (kH P w k) (c + q)).j := fun q => by rw [pst_add]
    have spec := go_spec t R.tab.ris R.tab.dm (fun i => (es[i]?.map (·.1)).getD 0) (kH P w k) (10 * SetTable.turns t.mask) (K - c) (pst t.mask (kH P w k) c) (pst_dummy _ _ _) (by omega)
      (fun q hq => by rw [pj]; exact hKb _ (by omega)) (by rw [pj, show c + (K - c) = K by omega]; exact hK)
    have miss : ∀ (n : Nat), (∀ (q i : Nat), q < n → t.place.toList[i]? = some (nth t.mask (pst t.mask (kH P w k) c) q).j → ((es[i]?.map (·.1)).getD 0) ≠ kH P w k) → ∀ (i : Nat) p, L[i]? = some p → p.2 = k → ∃ d, c + n ≤ d ∧ d < K ∧ t.place.toList[i]? = some (pst t.mask (kH P w k) d).j := by
      intro n hno i p hp hk
      obtain ⟨d, d1, d2, d3⟩ := hre i p hp hk
      refine ⟨d, ?_, d2, d3⟩
      rcases Nat.lt_or_ge d (c + n) with g | g
      · exact absurd ((hat i p hp).trans (by rw [hk])) (hno (d - c) i (by omega) (by rw [pj, show c + (d - c) = d by omega]; exact d3))
      · exact g
    rcases spec with ⟨q, i, hq, hi, hh, hno, hpr⟩ | ⟨hno, hpr⟩
    · rw [pj] at hi
      have e0 : t.probe (fun i => (es[i]?.map (·.1)).getD 0) (kH P w k) (st.getD (t.probeStart (kH P w k))) = some (.candidate (pst t.mask (kH P w k) (c + q)).j i (pst t.mask (kH P w k) (c + (q + 1)))) := by
        rw [hst, ← pst_add, ← pst_add]
        exact hpr
      simp only [e0]
      have hil : i < L.length := by
        rw [← R.len.2, ← Array.length_toList]
        exact (List.getElem?_eq_some_iff.mp hi).1
      obtain ⟨p, hp⟩ : ∃ p, L[i]? = some p := ⟨_, List.getElem?_eq_getElem hil⟩
      have hm : p ∈ L := List.mem_of_getElem? hp
      have sl : t.slot (pst t.mask (kH P w k) (c + q)).j = .live i := slot_live R.tab.ris hi
      have rest : wpAny (model P w) A (searchRest a (.ref x) (kH P w k) true f es t (pst t.mask (kH P w k) (c + q)).j i (pst t.mask (kH P w k) (c + (q + 1)))) Q E s := by
        unfold searchRest
        rw [R.row hp]
        refine wpAny_bind (wpAny_holding (wpAny_eqBool_tuple hu (R.at_ p hm) hx (wpAny_bind (wpAny_setState_of ho hd R.fits ?_))))
        by_cases hkk : p.2 = k
        · exact wp_if_pos (by simp [hkk]) (wpAny_pure (hin (List.mem_map.mpr ⟨p, hm, hkk⟩)))
        · refine wp_if_neg (by simp [hkk]) ?_
          simp only [sameMem, sl, R.row hp, if_true]
          refine wpAny_bind (wpAny_isSame_ref_self (wpAny_bind (wpAny_pure ?_)))
          simp only [if_true]
          refine wp_if_neg (by simp [hkk]) (ih (c + (q + 1)) _ rfl (by omega) (by omega) fun i0 p0 h0 k0 => ?_)
          obtain ⟨d, d1, d2, d3⟩ := miss q (fun q' i' => hno q' i') i0 p0 h0 k0
          refine ⟨d, ?_, d2, d3⟩
          rcases Nat.eq_or_lt_of_le d1 with g | g
          · rw [← g] at d3
            have s0 := (slot_live R.tab.ris d3).symm.trans sl
            injection s0 with s0
            rw [s0, hp] at h0
            exact absurd ((congrArg Prod.snd (Option.some.inj h0)).trans k0) hkk
          · omega
      cases hl : t.led with
      | true => exact wp_if_neg (by simp) rest
      | false =>
        refine wp_if_pos (by simp) (wpAny_bind (hx.seen (fun y hy => ?_) (wp_if_neg (by decide) rest)))
        obtain ⟨e, he, rfl⟩ := List.mem_map.mp hy
        have he2 : e ∈ es.toList := by
          have := (List.mem_map.mp hy)
          simp at he
          simpa using he.1
        rw [R.rows] at he2
        obtain ⟨p2, hp2, rfl⟩ := List.mem_map.mp he2
        exact ⟨p2.2, p2.1, rfl, R.at_ p2 hp2⟩
    · have e0 : t.probe (fun i => (es[i]?.map (·.1)).getD 0) (kH P w k) (st.getD (t.probeStart (kH P w k))) = some (.empty (pst t.mask (kH P w k) K).j none) := by
        rw [hst, show (pst t.mask (kH P w k) K).j = (nth t.mask (pst t.mask (kH P w k) c) (K - c)).j by rw [pj, show c + (K - c) = K by omega]]
        exact hpr
      simp only [e0]
      refine wpAny_pure (hout fun hm => ?_)
      obtain ⟨p, hp, hk⟩ := List.mem_map.mp hm
      obtain ⟨i, hi⟩ := List.mem_iff_getElem?.mp hp
      obtain ⟨d, d1, d2, _⟩ := miss (K - c) hno i p hi hk
      omega
end
end U
set_option maxHeartbeats 4000000
/-! S2: a set of tuples of ints and texts: adding. -/
namespace U
open PySem PySem.Spec PyProof.Rows L2
section
variable {P : Program} {w : World} {A : Around} {E : Value → Shared → Prop} {s : Shared} {a : Addr} {L : KL} {es : Array (Int × Value)} {ep : Nat} {t : SetTable}
theorem KS.look (R : KS P w s.heap a L es ep t) {x : Addr} {k : List Key} (hx : Kt P w s.heap k x) (hu : A.units < cLine) {Q : SetFound → Shared → Prop} (hin : k ∈ L.map Prod.snd → Q (.there none) s)
    (hout : ∀ K, k ∉ L.map Prod.snd → way t.mask (kH P w k) K ∉ t.place.toList → (∀ c, c < K → way t.mask (kH P w k) c ∈ t.place.toList) → Q (.free (way t.mask (kH P w k) K) false) s) :
    wpAny (model P w) A (setSearch a (.ref x) (kH P w k) true) Q E s := by
  have hroom := R.room
  obtain ⟨K, b1, b2, b3⟩ := R.tab.first (by rw [List.length_map]; omega) (kH P w k)
  have ht : SetTable.turns t.mask ≤ 142 := by unfold SetTable.turns; rcases R.tab.mok with e | e | e <;> omega
  unfold setSearch
  refine R.search hx hu b1 b2 b3 hin (fun hn => hout K hn b2 b3) 100000 0 none rfl (Nat.zero_le _) (by omega) fun i p hp hk => ?_
  have il : i < t.place.toList.length := by rw [Array.length_toList, R.len.2]; exact (List.getElem?_eq_some_iff.mp hp).1
  obtain ⟨c, c1, c2⟩ := R.tab.before b2 (show (L.map fun p => kH P w p.2)[i]? = some (kH P w k) by rw [List.getElem?_map, hp, ← hk] <;> rfl) (List.getElem?_eq_getElem il)
  exact ⟨c, Nat.zero_le _, c1, by rw [List.getElem?_eq_getElem il, ← c2] <;> rfl⟩
theorem Kt.same {h h' : Heap} {k : List Key} {b : Addr} {o : Obj} (hb : Kt P w h k b) (ho : h.get? a = some o) (hd : o.data = .set es ep t) (hs : Heap.SameBut a h h') : Kt P w h' k b := by
  obtain ⟨o', items, n, h1, h2, h3, h4⟩ := hb
  refine ⟨o', items, n, (hs.2 b fun e => ?_).trans h1, h2, h3, h4⟩
  subst e
  rw [ho] at h1
  cases h1
  rw [hd] at h3
  cases h3
theorem range_all {α : Type} (l : List α) : (List.range l.length).filterMap (fun i => l[i]?) = l := by
  induction l with
  | nil => rfl
  | cons x l ih =>
    rw [List.length_cons, List.range_succ_eq_map, List.filterMap_cons_some (f := fun i => (x :: l)[i]?) (a := 0) (b := x) rfl, List.filterMap_map]
    exact congrArg (x :: ·) ih
theorem order_perm {order : Array Nat} (hr : es.toList = L.map (kRow P w)) (hp : order.toList.Perm (List.range L.length)) :
    ∃ L2 : KL, (order.filterMap (es[·]?)).toList = L2.map (kRow P w) ∧ L2.Perm L ∧ (L2.map fun p => kH P w p.2) = order.toList.map fun i => (es.map (·.1)).getD i 0 := by
  have ent : ∀ i : Nat, es[i]? = (L[i]?).map (kRow P w) := fun i => by rw [← Array.getElem?_toList, hr, List.getElem?_map]
  refine ⟨order.toList.filterMap fun i => L[i]?, ?_, ?_, ?_⟩
  · rw [Array.toList_filterMap, List.map_filterMap]
    exact congrArg (fun f => List.filterMap f order.toList) (funext ent)
  · have q := hp.filterMap fun i => L[i]?
    rw [range_all] at q
    exact q
  · have ok : ∀ i ∈ order.toList, i < L.length := fun i hi => List.mem_range.mp (hp.mem_iff.mp hi)
    generalize order.toList = l at ok
    induction l with
    | nil => rfl
    | cons i l ih =>
      have hi := ok i List.mem_cons_self
      rw [List.filterMap_cons_some (List.getElem?_eq_getElem hi), List.map_cons, List.map_cons, ih fun j hj => ok j (List.mem_cons_of_mem _ hj)]
      congr 1
      have e : (es.map (·.1))[i]? = some (kH P w L[i].2) := by rw [Array.getElem?_map, ent, List.getElem?_eq_getElem hi] <;> rfl
      simp [Array.getD_eq_getD_getElem?, e]
theorem k_relay {o : Obj} (ho : s.heap.get? a = some o) (hex : o.ExactSet) (hd : o.data = .set es ep t) (hr : es.toList = L.map (kRow P w)) (hp : t.place.size = L.length) (hdm : t.dummies = #[]) (hfl : L.length ≤ t.mask) (nd : (L.map Prod.snd).Nodup)
    (kt : ∀ p ∈ L, Kt P w s.heap p.2 p.1) (ld : w.params.followText "set-order" = true ∨ t.led = true) (few : L.length < 64) {n M : Nat} (hw : SetTable.sizeAbove n - 1 = M) (hM : MaskOk M) (h128 : SetTable.sizeAbove n ≤ 128) (hn : L.length * 5 < M * 3) {Q : Unit → Shared → Prop}
    (hQ : ∀ h' L' es' ep' t', Heap.SameBut a s.heap h' → KS P w h' a L' es' ep' t' → L'.Perm L → Q () { s with heap := h' }) : wpAny (model P w) A (setRelay a n) Q E s := by
  have hsz : es.size = L.length := by
    have := congrArg List.length hr
    rwa [Array.length_toList, List.length_map] at this
  obtain ⟨t2, order, er, po, T, em, el, ep2, ed⟩ := relaid_ok t (hs := es.map (·.1)) (wanted := n) hw hM (by rw [Array.size_map, hsz]; omega)
  rw [Array.size_map, hsz] at po
  obtain ⟨L2, r1, r2, r3⟩ := order_perm hr po
  rw [← r3] at T
  have s2 : (order.filterMap (es[·]?)).size = L.length := by
    have := congrArg List.length r1
    rw [Array.length_toList, List.length_map, r2.length_eq] at this
    exact this
  rw [setRelay_eq]
  refine wpAny_bind (wpAny_setState_of ho hd (by rw [hsz]; exact fits_of hp hdm hfl) (wp_if_neg (by rw [sizeLine_eq]; omega) ?_))
  simp only [er]
  refine wpAny_bind (wp_if_neg (by rw [s2, hsz]; simp) (wpAny_pure (wpAny_storeSet_of ho hd ?_ (by rw [s2, sizeLine_eq]; omega))))
  have sb : Heap.SameBut a s.heap (s.heap.update a (Obj.putSet (order.filterMap (es[·]?)) t2)) := Heap.SameBut.update ..
  refine hQ _ L2 _ (ep + 1) t2 sb ⟨⟨_, store_at ho hd, ⟨hex.1, hex.2.1, hex.2.2⟩, rfl⟩, r1, T, (r2.map Prod.snd).nodup_iff.mpr nd, fun p h => (kt p (r2.mem_iff.mp h)).same ho hd sb, by rw [el]; exact ld, ?_, by rw [r2.length_eq]; exact few⟩ r2
  rw [r2.length_eq, em]
  exact hn
theorem KS.add (R : KS P w s.heap a L es ep t) {x : Addr} {k : List Key} (hx : Kt P w s.heap k x) (hu : A.units < cLine) (hfew : L.length + 1 < 64) {Q : Bool → Shared → Prop}
    (hQ : ∀ b h' L' es' ep' t', Heap.SameBut a s.heap h' → KS P w h' a L' es' ep' t' → (k ∈ L.map Prod.snd → L' = L) → (k ∉ L.map Prod.snd → L'.Perm ((x, k) :: L)) → Q b { s with heap := h' }) :
    wpAny (model P w) A (setAddHashed a (.ref x) (kH P w k)) Q E s := by
  obtain ⟨o, ho, hex, hd⟩ := R.ob
  have hroom := R.room
  obtain ⟨l1, l2⟩ := R.len
  unfold setAddHashed
  refine wpAny_holding ?_
  rw [show (100000 : Nat) = 99999 + 1 from rfl, setAddHashedIn_succ]
  refine wpAny_bind (wpAny_setState_of ho hd R.fits (wp_if_neg (by simp [byScan, Value.scannable]) (wpAny_bind (R.look hx hu (fun hm => ?_) fun K hm hK hb => ?_))))
  · exact wpAny_pure (hQ false s.heap L es ep t (Heap.SameBut.refl a s.heap) R (fun _ => rfl) fun z => absurd hm z)
  · refine wpAny_bind (wpAny_setState_of ho hd R.fits ?_)
    obtain ⟨q1, q2, q3, q4, q5, q6, q7, q8, q9⟩ := R.tab.put hK hb
    dsimp only
    generalize t.put (way t.mask (kH P w k) K) = pt at q1 q3 q4 q5 q6 q7 q8 q9 ⊢
    obtain ⟨t1, p⟩ := pt
    dsimp only at q1 q3 q4 q5 q6 q7 q8 q9 ⊢
    subst q1
    have tail : ∀ tb : SetTable, tb.mask = t.mask → tb.led = t.led → tb.fill = L.length + 1 → TabOk tb (List.take (SetTable.below t.place (way t.mask (kH P w k) K)) (L.map fun p => kH P w p.2) ++ kH P w k :: List.drop (SetTable.below t.place (way t.mask (kH P w k) K)) (L.map fun p => kH P w p.2)) →
        wpAny (model P w) A (do
          storeSet a (SetTable.insertAt es (SetTable.below t.place (way t.mask (kH P w k) K)) (kH P w k, Value.ref x)) tb
          if (!false && tb.tooFull) = true then do
            setRelay a (SetTable.grown (es.size + 1))
            pure true
          else pure true) Q E s := by
      intro tb m1 m2 m3 T
      generalize SetTable.below t.place (way t.mask (kH P w k) K) = B at T ⊢
      have inn : (SetTable.insertAt es B (kH P w k, Value.ref x)).toList = (L.take B ++ (x, k) :: L.drop B).map (kRow P w) := by
        rw [SetTable.toList_insertAt, R.rows, List.map_append, List.map_cons, List.map_take, List.map_drop] <;> rfl
      rw [← List.map_take, ← List.map_drop, ← List.map_cons (f := fun p : Addr × List Key => kH P w p.2) (a := (x, k)), ← List.map_append] at T
      have pm := put_perm L B (x, k)
      generalize L.take B ++ (x, k) :: L.drop B = L1 at inn T pm
      have n1 : L1.length = L.length + 1 := pm.length_eq
      have nd1 : (L1.map Prod.snd).Nodup := (pm.map Prod.snd).nodup_iff.mpr (List.nodup_cons.mpr ⟨hm, R.nd⟩)
      have sz1 : (SetTable.insertAt es B (kH P w k, Value.ref x)).size = L.length + 1 := by
        have := congrArg List.length inn
        rwa [Array.length_toList, List.length_map, n1] at this
      generalize SetTable.insertAt es B (kH P w k, Value.ref x) = es1 at inn sz1 ⊢
      refine wpAny_bind (wpAny_storeSet_of ho hd ?_ (by rw [sz1, sizeLine_eq]; omega))
      have sb : Heap.SameBut a s.heap (s.heap.update a (Obj.putSet es1 tb)) := Heap.SameBut.update ..
      have ho1 := store_at (es' := es1) (t' := tb) ho hd
      generalize s.heap.update a (Obj.putSet es1 tb) = h1 at sb ho1 ⊢
      have kt1 : ∀ p ∈ L1, Kt P w h1 p.2 p.1 := fun p hp => by
        rcases List.mem_cons.mp (pm.mem_iff.mp hp) with e | hp
        · rw [e]; exact hx.same ho hd sb
        · exact (R.at_ p hp).same ho hd sb
      have ld1 : w.params.followText "set-order" = true ∨ tb.led = true := by rw [m2]; exact R.led
      by_cases hf : tb.tooFull = true
      · refine wp_if_pos (by simp [hf]) (wpAny_bind ?_)
        have full : (L.length + 1) * 5 ≥ tb.mask * 3 := by
          have q := hf
          unfold SetTable.tooFull at q
          rwa [decide_eq_true_eq, m3] at q
        have ps : tb.place.size = L1.length := by
          have := T.sz
          rwa [List.length_map] at this
        rw [l1]
        have go : ∀ M, SetTable.sizeAbove (SetTable.grown (L.length + 1)) - 1 = M → MaskOk M → SetTable.sizeAbove (SetTable.grown (L.length + 1)) ≤ 128 → (L.length + 1) * 5 < M * 3 → L.length + 1 ≤ t.mask →
            wpAny (model P w) A (setRelay a (SetTable.grown (L.length + 1))) (fun _ s' => wpAny (model P w) A (pure true) Q E s') E { s with heap := h1 } := fun M g1 g2 g3 g4 g5 =>
          k_relay (s := { s with heap := h1 }) ho1 ⟨hex.1, hex.2.1, hex.2.2⟩ rfl inn ps T.dm (by rw [n1, m1]; exact g5) nd1 kt1 ld1 (by rw [n1]; exact hfew) g1 g2 g3 (by rw [n1]; exact g4) fun h2 L2 es2 ep2 t2 sb2 R2 pm2 =>
            wpAny_pure (hQ true h2 L2 es2 ep2 t2 (sb.trans sb2) R2 (fun z => absurd z hm) fun _ => pm2.trans pm)
        rw [m1] at full
        rcases R.tab.mok with e | e | e
        · have e4 : L.length = 4 := by omega
          exact go 31 (by rw [e4, size_20]) (.inr (.inl rfl)) (by rw [e4, size_20]; decide) (by omega) (by omega)
        · have e4 : L.length = 18 := by omega
          exact go 127 (by rw [e4, size_76]) (.inr (.inr rfl)) (by rw [e4, size_76]; decide) (by omega) (by omega)
        · omega
      · refine wp_if_neg (by simp [hf]) (wpAny_pure (hQ true h1 L1 es1 (ep + 1) tb sb ⟨⟨_, ho1, ⟨hex.1, hex.2.1, hex.2.2⟩, rfl⟩, inn, T, nd1, kt1, ld1, ?_, by rw [n1]; exact hfew⟩ (fun z => absurd z hm) fun _ => pm))
        have q := hf
        unfold SetTable.tooFull at q
        rw [decide_eq_true_eq, m3] at q
        rw [n1]
        omega
    by_cases hp : t1.plain = true
    · refine wp_if_pos hp (wpAny_bind (hx.byv fun r => ?_))
      cases r with
      | true => exact tail t1 q4 q5 (by rw [q9, List.length_map]) q3
      | false => exact tail _ q4 q5 (by rw [← List.length_map (f := fun p : Addr × List Key => kH P w p.2)]; exact q9) ⟨q3.1, q3.2, q3.3, q3.4, q3.5, q3.6⟩
    · exact wp_if_neg hp (wpAny_bind (wpAny_pure (tail t1 q4 q5 (by rw [q9, List.length_map]) q3)))
end
end U
set_option maxHeartbeats 4000000
/-! S3: set(list), set(tuple) of tuples: the loop. -/
namespace U
open PySem PySem.Spec PyProof.Rows L2
/-- what stands in the set after some items: members of them, each key of them -/
structure KGot (done L : KL) : Prop where
  sub : ∀ p ∈ L, p ∈ done
  all : ∀ p ∈ done, p.2 ∈ L.map Prod.snd
  len : L.length ≤ done.length
theorem KGot.next {done L L' : KL} {x : Addr × List Key} (g : KGot done L) (h1 : x.2 ∈ L.map Prod.snd → L' = L) (h2 : x.2 ∉ L.map Prod.snd → L'.Perm (x :: L)) : KGot (done ++ [x]) L' := by
  by_cases hm : x.2 ∈ L.map Prod.snd
  · rw [h1 hm]
    refine ⟨fun p hp => List.mem_append_left _ (g.sub p hp), fun p hp => ?_, by rw [List.length_append]; exact Nat.le_add_right_of_le g.len⟩
    rcases List.mem_append.mp hp with q | q
    · exact g.all p q
    · rw [List.mem_singleton.mp q]; exact hm
  · have pm := h2 hm
    refine ⟨fun p hp => ?_, fun p hp => ?_, by rw [pm.length_eq, List.length_append, List.length_cons]; exact Nat.succ_le_succ g.len⟩
    · rcases List.mem_cons.mp (pm.mem_iff.mp hp) with q | q
      · rw [q]; exact List.mem_append_right _ (List.mem_singleton.mpr rfl)
      · exact List.mem_append_left _ (g.sub p q)
    · rw [(pm.map Prod.snd).mem_iff]
      rcases List.mem_append.mp hp with q | q
      · exact List.mem_cons_of_mem _ (g.all p q)
      · rw [List.mem_singleton.mp q]; exact List.mem_cons_self
section
variable {P : Program} {w : World} {A : Around} {E : Value → Shared → Prop} {s : Shared}
theorem Kt.keep {h h' : Heap} {k : List Key} {b : Addr} (x : Kt P w h k b) (u : ∀ c o, h.get? c = some o → h'.get? c = some o) : Kt P w h' k b := by
  obtain ⟨o, items, n, ho, r⟩ := x
  exact ⟨o, items, n, u b o ho, r⟩
theorem KS.keep {h h' : Heap} {a : Addr} {L : KL} {es : Array (Int × Value)} {ep : Nat} {t : SetTable} (R : KS P w h a L es ep t) (ha : ∀ o, h.get? a = some o → h'.get? a = some o) (kt : ∀ p ∈ L, Kt P w h' p.2 p.1) : KS P w h' a L es ep t := by
  obtain ⟨⟨o, ho, r⟩, r1, r2, r3, _, r5, r6, r7⟩ := R
  exact ⟨⟨o, ha o ho, r⟩, r1, r2, r3, kt, r5, r6, r7⟩
theorem KS.new {h : Heap} {a : Addr} (ho : h.get? a = some { cls := .type "set", dict := none, data := .set #[] 0 (.fresh 0 0 (!w.params.followText "set-order")) }) : KS P w h a [] #[] 0 (.fresh 0 0 (!w.params.followText "set-order")) := by
  refine ⟨⟨_, ho, ⟨rfl, rfl, rfl⟩, rfl⟩, rfl, ⟨List.Pairwise.nil, rfl, rfl, .inl rfl, fun x hx => (nomatch hx), fun i h j hi => by simp at hi⟩, List.nodup_nil, fun p hp => (nomatch hp), ?_, (by show 0 * 5 < 7 * 3; decide), by decide⟩
  show _ ∨ (!w.params.followText "set-order") = true
  cases w.params.followText "set-order" <;> simp
theorem k_loop {I S : Addr} {fp wr : List Addr} {G : Array GenState → Array GenState → Prop} {n : Nat} {Pv : Nat → Value → Prop} {St : Nat → Shared → Prop} {R : Result → Shared → Prop} {ks : KL} {h0 : Heap}
    (W : WalksS P w A.in1 I fp wr G n Pv St) (hS : S ∉ fp) (hn : n = ks.length) (few : ks.length < 64) (val : ∀ i v, Pv i v → ∃ p, ks[i]? = some p ∧ v = .ref p.1) (kt : ∀ p ∈ ks, Kt P w h0 p.2 p.1) (new : h0.get? S = none) (newW : ∀ b ∈ wr, h0.get? b = none) (hu : A.in1.units < cLine) :
    ∀ (m i : Nat) (s : Shared), n - i = m → i ≤ n → St i s → (∀ b o, h0.get? b = some o → s.heap.get? b = some o) → (∃ L es ep t, KS P w s.heap S L es ep t ∧ KGot (ks.take i) L) →
      (∀ s' L es ep t, Moved (S :: wr) G s s' → KS P w s'.heap S L es ep t → KGot ks L → (∀ b o, h0.get? b = some o → s'.heap.get? b = some o) → R (.ok (.ret .none)) s') →
      codeAny (model P w) A (.builtin "set.update.loop" ⟨[.ref S, .ref I], []⟩) R s := by
  have wS : S ∉ wr := fun h => hS (W.sub _ h)
  have stay : ∀ {s s' : Shared}, Moved wr G s s' → (∀ b o, h0.get? b = some o → s.heap.get? b = some o) → ∀ b o, h0.get? b = some o → s'.heap.get? b = some o := fun mv u b o e =>
    mv.heap b o (fun hb => by rw [newW b hb] at e; cases e) (u b o e)
  intro m
  induction m with
  | zero =>
    intro i s hm hi st u ⟨L, es, ep, t, R0, g⟩ hR
    obtain rfl : i = n := by omega
    refine codeAny_builtin F.entry_set_update_loop ?_
    rw [Around.under_plainId F.plain_set_update_loop _]
    refine wpAny_bind (m := pyNext (.ref I)) (W.done s _ _ st fun s' mv => wpAny_pure ?_)
    rw [hn, List.take_length] at g
    exact hR s' L es ep t (mv.mono fun b hb => List.mem_cons_of_mem _ hb) (R0.keep (fun o e => mv.heap S o wS e) fun p hp => (kt p (g.sub p hp)).keep (stay mv u)) g (stay mv u)
  | succ m ih =>
    intro i s hm hi st u ⟨L, es, ep, t, R0, g⟩ hR
    have hlt : i < n := by omega
    refine codeAny_builtin F.entry_set_update_loop ?_
    rw [Around.under_plainId F.plain_set_update_loop _]
    refine wpAny_bind (m := pyNext (.ref I)) (W.item i s _ _ hlt st fun v s' hv st2 mv => ?_)
    obtain ⟨p, hp, rfl⟩ := val i v hv
    have u2 := stay mv u
    have R1 : KS P w s'.heap S L es ep t := R0.keep (fun o e => mv.heap S o wS e) fun q hq => (kt q (List.mem_of_mem_take (g.sub q hq))).keep u2
    have hx : Kt P w s'.heap p.2 p.1 := (kt p (List.mem_of_getElem? hp)).keep u2
    show wpAny _ A.in1 (holding [Value.ref p.1] (setAdd S (.ref p.1)) >>= _) _ _ s'
    refine wpAny_bind (wpAny_holding ?_)
    unfold setAdd
    have lg := g.len
    rw [List.length_take] at lg
    refine wpAny_holding (wpAny_bind (wpAny_pyHash_tuple hu hx (R1.add (s := { s' with toks := s'.toks + (p.2.length + 1) }) hx hu (by omega) fun b h' L' es' ep' t' sb R2 c1 c2 => ?_)))
    have u3 : ∀ b o, h0.get? b = some o → h'.get? b = some o := fun b o e => (sb.2 b (fun z => by rw [z, new] at e; cases e)).trans (u2 b o e)
    have g2 : KGot (ks.take (i + 1)) L' := by
      rw [List.take_add_one, hp]
      exact g.next c1 c2
    refine wpAny_pure ⟨plainId_quiet F.plain_set_update_loop _, ih (i + 1) _ (by omega) hlt (W.frame _ s' _ _ st2 (Nat.le_add_right _ _) fun b hb o e => (sb.2 b (fun z : b = S => hS (z ▸ hb))).trans e) u3 ⟨L', es', ep', t', R2, g2⟩ fun s2 L2 es2 ep2 t2 mv2 R3 g3 u4 => ?_⟩
    exact hR s2 L2 es2 ep2 t2 (Moved.trans W.gtrans ((mv.mono fun b hb => List.mem_cons_of_mem _ hb).then_heap (Nat.le_add_right _ _) fun b o hb e => (sb.2 b (fun z : b = S => hb (by rw [z]; exact List.mem_cons_self))).trans e) mv2) R3 g3 u4
end
end U
set_option maxHeartbeats 4000000
/-! S4: set(list), set(tuple): the shell. -/
namespace U
open PySem PySem.Spec PyProof.Rows L2
abbrev newSet (w : World) : Obj := { cls := .type "set", dict := none, data := .set #[] 0 (.fresh 0 0 (!w.params.followText "set-order")) }
/-- the loop that set(xs) runs, from the new set at S on; I its iterator -/
def SetLoop (P : Program) (w : World) (A : Around) (s : Shared) (l : Addr) (items : Array Value) (C : Heap → Prop) : Prop :=
  ∀ (I : Addr) (St : Nat → Heap → Prop) (s1 : Shared) (R : Result → Shared → Prop), I = s.heap.objs.size + 1 → Walks P w A.in1 I [I, l] [I] items.size (fun i v => items[i]? = some v) St → l < s.heap.objs.size →
    St 0 s1.heap → s1.heap.get? s.heap.objs.size = some (newSet w) → (∀ b o, s.heap.get? b = some o → s1.heap.get? b = some o) →
    (∀ s', Moved [s.heap.objs.size, I] (fun a b => b = a) s1 s' → C s'.heap → R (.ok (.ret .none)) s') →
    codeAny (model P w) A (.builtin "set.update.loop" ⟨[.ref s.heap.objs.size, .ref I], []⟩) R s1
section
variable {P : Program} {w : World} {A : Around} {E : Value → Shared → Prop} {s : Shared}
theorem gone {b : Addr} {h : Heap} (hb : h.objs.size ≤ b) : h.get? b = none := by
  cases q : h.get? b with
  | none => rfl
  | some o => exact absurd (Nat.lt_of_lt_of_le (Heap.lt_size q) hb) (Nat.lt_irrefl _)
theorem k_setLoop {l : Addr} {items : Array Value} {ks : KL} (hit : items.toList = ks.map fun p => Value.ref p.1) (kt : ∀ p ∈ ks, Kt P w s.heap p.2 p.1) (few : ks.length < 64) (hu : A.in1.units < cLine) :
    SetLoop P w A s l items (fun h => ∃ L es ep t, KS P w h s.heap.objs.size L es ep t ∧ KGot ks L) := by
  intro I St s1 R eI W hl st fr u hR
  subst eI
  have hsz : items.size = ks.length := by
    have := congrArg List.length hit
    rwa [Array.length_toList, List.length_map] at this
  refine k_loop (ks := ks) (h0 := s.heap) W.toS (fun z => ?_) hsz few (fun i v e => ?_) kt (gone (Nat.le_refl _)) (fun b hb => ?_) hu items.size 0 s1 rfl (Nat.zero_le _) st u ⟨[], #[], 0, _, KS.new fr, ⟨fun p hp => (nomatch hp), fun p hp => (nomatch hp), Nat.le_refl _⟩⟩ fun s' L es ep t mv R2 g _ => hR s' mv ⟨L, es, ep, t, R2, g⟩
  · rcases List.mem_cons.mp z with e | e
    · exact absurd e (Nat.ne_of_lt (Nat.lt_succ_self _))
    · exact absurd (List.mem_singleton.mp e) (Nat.ne_of_gt hl)
  · rw [← Array.getElem?_toList, hit, List.getElem?_map] at e
    cases q : ks[i]? with
    | none => rw [q] at e; cases e
    | some p => rw [q] at e; exact ⟨p, rfl, (Option.some.inj e).symm⟩
  · rw [List.mem_singleton.mp hb]
    exact gone (Nat.le_succ _)
theorem i_setLoop {l : Addr} {items : Array Value} {ns : List Int} (hit : IntsAre items.toList ns) (hb : ns.length + 1 < scanBound) :
    SetLoop P w A s l items (fun h => ∃ c, SetR w h s.heap.objs.size (fun j => decide (j ∈ ns)) c) := by
  intro I St s1 R eI W hl st fr u hR
  subst eI
  have hsz : items.size = ns.length := by
    have := IntsAre.length hit
    rwa [Array.length_toList] at this
  refine set_update_ints W.toS s.heap.objs.size (fun z => ?_) ns hsz hb (fun i v e => ?_) items.size 0 s1 rfl (Nat.zero_le _) st ⟨0, Nat.le_refl 0, setR_new_at fr⟩ fun s' c mv _ R2 => hR s' mv ⟨c, R2⟩
  · rcases List.mem_cons.mp z with e | e
    · exact absurd e (Nat.ne_of_lt (Nat.lt_succ_self _))
    · exact absurd (List.mem_singleton.mp e) (Nat.ne_of_gt hl)
  · have hi : i < ns.length := by rw [← hsz]; exact (Array.getElem?_eq_some_iff.mp e).1
    obtain ⟨t, q⟩ := PyProof.Rows.IntsAre.int_at hit i v (by rw [Array.getElem?_toList]; exact e)
    refine ⟨ns[i], t, List.getElem?_eq_getElem hi, ?_⟩
    rw [q, List.getD_eq_getElem?_getD, List.getElem?_eq_getElem hi] <;> rfl
set_option maxRecDepth 100000 in
/-- set(xs), xs a list or a tuple -/
theorem k_call {l : Addr} {items : Array Value} {C : Heap → Prop} {Q : Value → Shared → Prop} (hh : A.handled = none) (hl : s.heap.IsList l items ∨ s.heap.IsTuple l items) (hL : SetLoop P w A.in1.in1 s l items C)
    (h : ∀ (h' : Heap) (tk : Nat), C h' → (∀ b o, s.heap.get? b = some o → h'.get? b = some o) → Q (.ref s.heap.objs.size) { s with heap := h', toks := tk }) :
    wpAny (model P w) A (call (.type "set") [.ref l]) Q E s := by
  obtain ⟨c, tl, hmro⟩ := F.called_set.mro
  have hmade := F.called_set.made
  have hsub := F.called_set.sub
  refine wpAny_call (codeAny_of_tree ?_)
  show wpAny _ _ (callAny (.type "set") _) _ _ _
  refine wpAny_pure ⟨Code.quiet_builtin _ (by decide +kernel), codeAny_builtin F.entry_type_call ?_⟩
  rw [Around.under_plain (weight_type_call_type "set" [.ref l] []) rfl]
  have h1 := F.called_set.notType
  have h2 := F.called_set.canCreate
  have hct := F.typeCall_set_1 (.ref l)
  repeat (any_goals (first | assumption | wp_step))

  refine codeAny_mono (code_set_led1 (.ref l) (E := E) (Q₁ := fun obj s₁ => obj = .ref s.heap.objs.size ∧ s₁ = { s with heap := s.heap.push (newSet w) }) ⟨rfl, rfl⟩) fun r s₁ hr => ?_
  cases r with
  | error e => exact hr
  | ok fl =>
    cases fl with
    | ret obj =>
      obtain ⟨rfl, rfl⟩ := hr
      have hS : (s.heap.push (newSet w)).get? s.heap.objs.size = some (newSet w) := Heap.get?_push_size _ rfl
      have hT : Shared.TypeIs { s with heap := s.heap.push (newSet w) } (.ref s.heap.objs.size) "set" := ⟨_, hS, rfl⟩
      have hli := F.called_set.init.lookup
      have hbi := F.called_set.init.bind (.ref s.heap.objs.size)
      repeat (any_goals (first | assumption | wp_step))

      refine codeAny_mono (codeAny_call_builtin (R := wants (fun r s₂ => r = .none ∧ ∃ h' tk, s₂ = { s with heap := h', toks := tk } ∧ C h' ∧ (∀ b o, s.heap.get? b = some o → h'.get? b = some o)) E)
        F.called_set.init.plain F.entry_set_init (check_set_init_1 hT ?_)) fun r₂ s₂ hr₂ => ?_
      · have hz1 : (s.heap.push (newSet w)).objs.size = s.heap.objs.size + 1 := Heap.size_push ..
        have hh3 : A.in1.in1.in1.handled = none := by simp [hh]
        have fin : ∀ {s1 s' : Shared}, (∀ b o, s.heap.get? b = some o → s1.heap.get? b = some o) → Moved [s.heap.objs.size, (s.heap.push (newSet w)).objs.size] (fun a b => b = a) s1 s' → ∀ b o, s.heap.get? b = some o → s'.heap.get? b = some o := fun u hm b o e => by
          have hb0 : b < s.heap.objs.size := Heap.lt_size e
          refine hm.heap b o (fun hb => ?_) (u b o e)
          rw [hz1] at hb
          rcases List.mem_cons.mp hb with z | z
          · exact absurd z (Nat.ne_of_lt hb0)
          · exact absurd (List.mem_singleton.mp z) (Nat.ne_of_lt (Nat.lt_succ_of_lt hb0))
        rcases hl with hl | hl
        · obtain ⟨ol, hol, hcl, nl, hdl⟩ := hl
          obtain ⟨ocls, odict, odata, oslots⟩ := ol
          simp only at hcl hdl
          subst hcl; subst hdl
          have hol' : (s.heap.push (newSet w)).get? l = some { cls := .type "list", dict := odict, data := .seq items nl, slots := oslots } := Heap.get?_push_of_some _ hol
          have hsls := F.sub_list_set
          have hslf := F.sub_list_frozenset
          have hne : (Value.type "list" == Value.type "dict") = false := by decide
          have hl1 : (s.heap.push (newSet w)).IsList l items := ⟨_, hol', rfl, nl, rfl⟩
          have hlS : l < s.heap.objs.size := Heap.lt_size hol
          unfold Builtin.«set.__init__» noKeywords Builtin.Frozenset.updateFrom
          generalize hPI : pyIter = PI
          wp_walk
          subst hPI

          refine wpAny_pyIter_list hl1 ?_
          refine wpAny_bind (wpAny_runValue ?_)
          have hneI : l ≠ (s.heap.push (newSet w)).objs.size := by rw [hz1]; exact Nat.ne_of_lt (Nat.lt_succ_of_lt hlS)
          refine hL _ _ _ _ hz1 (Walks.list hh3 _ l hneI items) hlS ⟨⟨_, Heap.get?_push_size _ rfl, rfl, rfl⟩, hl1.push _⟩ (Heap.get?_push_of_some _ hS) (fun b o e => Heap.get?_push_of_some _ (Heap.get?_push_of_some _ e)) fun s' hm hC => ?_
          have keep := fin (fun b o e => Heap.get?_push_of_some _ (Heap.get?_push_of_some _ e)) hm
          obtain ⟨h', g2, d', tk', os'⟩ := s'
          have eg : g2 = s.gens := hm.gens
          have ed : d' = s.drawn := hm.drawn
          have eo : os' = s.os := hm.os
          subst eg; subst ed; subst eo
          refine wpAny_pure ?_
          show wpAny _ _ (ret Value.none) _ _ _
          exact wpAny_pure ⟨rfl, h', tk', rfl, hC, keep⟩
        · obtain ⟨ol, hol, hcl, nl, hdl⟩ := hl
          obtain ⟨ocls, odict, odata, oslots⟩ := ol
          simp only at hcl hdl
          subst hcl; subst hdl
          have hol' : (s.heap.push (newSet w)).get? l = some { cls := .type "tuple", dict := odict, data := .seq items nl, slots := oslots } := Heap.get?_push_of_some _ hol
          have hsls := F.sub_tuple_set
          have hslf := F.sub_tuple_frozenset
          have hne : (Value.type "tuple" == Value.type "dict") = false := by decide
          have hl1 : (s.heap.push (newSet w)).IsTuple l items := ⟨_, hol', rfl, nl, rfl⟩
          have hlS : l < s.heap.objs.size := Heap.lt_size hol
          unfold Builtin.«set.__init__» noKeywords Builtin.Frozenset.updateFrom
          generalize hPI : pyIter = PI
          wp_walk
          subst hPI

          refine wpAny_pyIter_tuple hl1 ?_
          refine wpAny_bind (wpAny_runValue ?_)
          have hneI : l ≠ (s.heap.push (newSet w)).objs.size := by rw [hz1]; exact Nat.ne_of_lt (Nat.lt_succ_of_lt hlS)
          refine hL _ _ _ _ hz1 (Walks.tuple hh3 _ l hneI items) hlS ⟨⟨_, Heap.get?_push_size _ rfl, rfl, rfl⟩, hl1.push _⟩ (Heap.get?_push_of_some _ hS) (fun b o e => Heap.get?_push_of_some _ (Heap.get?_push_of_some _ e)) fun s' hm hC => ?_
          have keep := fin (fun b o e => Heap.get?_push_of_some _ (Heap.get?_push_of_some _ e)) hm
          obtain ⟨h', g2, d', tk', os'⟩ := s'
          have eg : g2 = s.gens := hm.gens
          have ed : d' = s.drawn := hm.drawn
          have eo : os' = s.os := hm.os
          subst eg; subst ed; subst eo
          refine wpAny_pure ?_
          show wpAny _ _ (ret Value.none) _ _ _
          exact wpAny_pure ⟨rfl, h', tk', rfl, hC, keep⟩
      · cases r₂ with
        | error e => exact hr₂
        | ok fl₂ =>
          cases fl₂ with
          | ret r =>
            obtain ⟨rfl, h', tk, rfl, hC, hk'⟩ := hr₂
            repeat (any_goals (first | assumption | wp_step))
            exact h _ _ hC hk'
          | _ => exact hr₂.elim
    | _ => exact hr.elim
end
end U
set_option maxHeartbeats 4000000
/-! S5: sets of data: what they are, and plain facts of sorting. -/
namespace U
open PySem PySem.Spec PyProof.Rows L2
def isLeaf : PyData → Bool
  | .int _ => true
  | .str _ => true
  | _ => false
def Flat (ds : List PyData) : Prop := (∀ d ∈ ds, ∃ i, d = .int i) ∨ ∀ d ∈ ds, ∃ x r, d = .tuple (x :: r) ∧ ∀ z ∈ x :: r, isLeaf z = true
def SetOk (ds : List PyData) : Prop := SrtOk ds ∧ ds.length < 64 ∧ Flat ds
open Classical in
noncomputable def nub : List PyData → List PyData
  | [] => []
  | x :: xs => if x ∈ xs then nub xs else x :: nub xs
theorem mem_nub {d : PyData} : ∀ {l : List PyData}, d ∈ nub l ↔ d ∈ l
  | [] => Iff.rfl
  | x :: xs => by
    unfold nub
    split
    · rename_i h
      rw [mem_nub (l := xs), List.mem_cons]
      exact ⟨.inr, fun e => e.elim (fun e => e ▸ h) id⟩
    · rw [List.mem_cons, mem_nub (l := xs), List.mem_cons]
theorem nub_nodup : ∀ l : List PyData, (nub l).Nodup
  | [] => List.nodup_nil
  | x :: xs => by
    unfold nub
    split
    · exact nub_nodup xs
    · rename_i h
      exact List.nodup_cons.mpr ⟨fun e => h (mem_nub.mp e), nub_nodup xs⟩
theorem nub_len : ∀ l : List PyData, (nub l).length ≤ l.length
  | [] => Nat.le_refl _
  | x :: xs => by
    unfold nub
    have := nub_len xs
    split
    · rw [List.length_cons]; omega
    · rw [List.length_cons, List.length_cons]; omega
theorem srt_perm (l : List PyData) : (srt l).Perm l := List.mergeSort_perm l _
theorem mem_srt {l : List PyData} {d : PyData} : d ∈ srt l ↔ d ∈ l := (srt_perm l).mem_iff
/-! ### sorted lists of data -/
abbrev dle : PyData → PyData → Bool := PySem.W.dataLe false id
theorem dle_eq (x y : PyData) : dle x y = !PyProof.Rows.lexLt PyProof.Rows.itemOrd (PySem.W.keyToks y) (PySem.W.keyToks x) := rfl
theorem dle_tot : ∀ a b, (dle a b || dle b a) = true := fun a b => by
  rcases (PySem.W.sortLe_total (PyProof.Rows.listOrd PyProof.Rows.itemOrd) false (fun b : PyData => PySem.W.keyToks (id b))).total a b with h | h
  · have : dle a b = true := h
    rw [this]; rfl
  · have : dle b a = true := h
    rw [this, Bool.or_true]
theorem dle_trans : ∀ a b c, dle a b = true → dle b c = true → dle a c = true := (PySem.W.sortLe_total (PyProof.Rows.listOrd PyProof.Rows.itemOrd) false (fun b : PyData => PySem.W.keyToks (id b))).trans
theorem dle_anti {x y : PyData} (h1 : dle x y = true) (h2 : dle y x = true) : PySem.W.keyToks x = PySem.W.keyToks y := by
  rw [dle_eq, Bool.not_eq_true'] at h1 h2
  exact PyProof.Rows.lex_total _ _ h2 h1
theorem srt_pw (l : List PyData) : (srt l).Pairwise (fun a b => dle a b = true) := List.pairwise_mergeSort dle_trans dle_tot l
theorem srt_self {l : List PyData} (h : l.Pairwise (fun a b => dle a b = true)) : srt l = l := List.mergeSort_of_pairwise h
/-- the same things sorted -/
theorem srt_one {l m : List PyData} (p : l.Perm m) (inj : ∀ a ∈ l, ∀ b ∈ l, PySem.W.keyToks a = PySem.W.keyToks b → a = b) : srt l = srt m := by
  refine List.Perm.eq_of_pairwise (le := fun a b => dle a b = true) (fun a b ha hb h1 h2 => ?_) (srt_pw l) (srt_pw m) ((srt_perm l).trans (p.trans (srt_perm m).symm))
  exact inj a (mem_srt.mp ha) b (p.mem_iff.mpr (mem_srt.mp hb)) (dle_anti h1 h2)
/-! ints -/
theorem toks_int {i j : Int} (h : PySem.W.keyToks (.int i) = PySem.W.keyToks (.int j)) : i = j := by
  rw [PySem.W.keyToks, PySem.W.keyToks] at h
  injection h with h _
  exact Sum.inl.inj h
/-! leaves -/
def leafK : PyData → Key
  | .int i => .inl i
  | .str x => .inr x
  | _ => .inl 0
def keyD : Key → PyData
  | .inl i => .int i
  | .inr x => .str x
theorem keyD_leaf {d : PyData} (h : isLeaf d = true) : keyD (leafK d) = d := by
  cases d <;> first | rfl | cases h
theorem keyD_inj {k k' : Key} (h : keyD k = keyD k') : k = k' := by
  cases k <;> cases k' <;> first | cases h; rfl | cases h
theorem keyDs_inj {k k' : List Key} (h : k.map keyD = k'.map keyD) : k = k' := (List.map_inj_right fun a b e => keyD_inj e).mp h
theorem keyD_leafs : ∀ {ds : List PyData}, (∀ z ∈ ds, isLeaf z = true) → (ds.map leafK).map keyD = ds
  | [], _ => rfl
  | d :: ds, h => by
    rw [List.map_cons, List.map_cons, keyD_leaf (h d List.mem_cons_self), keyD_leafs fun z hz => h z (List.mem_cons_of_mem _ hz)]
theorem leaf_da {F : Hp} {v : V} {d : PyData} (h : Da F v d) (l : isLeaf d = true) : v = kV (leafK d) := by
  cases h <;> first | rfl | cases l
theorem leafs_da {F : Hp} : ∀ {vs : List V} {ds : List PyData}, DaAll F vs ds → (∀ z ∈ ds, isLeaf z = true) → vs = (ds.map leafK).map kV
  | _, _, .nil, _ => rfl
  | _, _, .cons h k, l => by
    rw [List.map_cons, List.map_cons, ← leaf_da h (l _ List.mem_cons_self), ← leafs_da k fun z hz => l z (List.mem_cons_of_mem _ hz)]
theorem toks_keys : ∀ {k k' : List Key}, PySem.W.keyToksAll (k.map keyD) = PySem.W.keyToksAll (k'.map keyD) → k = k'
  | [], [], _ => rfl
  | [], x :: k', h => by
    rw [List.map_nil, List.map_cons, PySem.W.keyToksAll, PySem.W.keyToksAll] at h
    injection h with h _
    exact absurd (Sum.inl.inj h) (by decide)
  | x :: k, [], h => by
    rw [List.map_nil, List.map_cons, PySem.W.keyToksAll, PySem.W.keyToksAll] at h
    injection h with h _
    exact absurd (Sum.inl.inj h) (by decide)
  | x :: k, y :: k', h => by
    rw [List.map_cons, List.map_cons, PySem.W.keyToksAll, PySem.W.keyToksAll] at h
    injection h with _ h
    have e : ∀ z : Key, PySem.W.keyToks (keyD z) = [match z with
      | .inl i => .inl i
      | .inr x => .inr x.cps.toList] := fun z => by cases z <;> simp [keyD, PySem.W.keyToks]
    rw [e, e] at h
    injection h with h1 h2
    rw [toks_keys h2]
    congr 1
    cases x <;> cases y <;> first
      | exact congrArg Sum.inl (Sum.inl.inj h1)
      | exact congrArg Sum.inr (str_ext (Sum.inr.inj h1))
      | cases h1
theorem flat_inj {ds : List PyData} (h : Flat ds) : ∀ a ∈ ds, ∀ b ∈ ds, PySem.W.keyToks a = PySem.W.keyToks b → a = b := by
  intro a ha b hb e
  rcases h with h | h
  · obtain ⟨i, rfl⟩ := h a ha
    obtain ⟨j, rfl⟩ := h b hb
    rw [toks_int e]
  · obtain ⟨x, r, rfl, l1⟩ := h a ha
    obtain ⟨y, t, rfl, l2⟩ := h b hb
    rw [PySem.W.keyToks, PySem.W.keyToks, ← keyD_leafs l1, ← keyD_leafs l2] at e
    rw [← keyD_leafs l1, ← keyD_leafs l2, toks_keys e]
theorem Flat.sub {ds es : List PyData} (h : Flat ds) (s : ∀ e ∈ es, e ∈ ds) : Flat es := by
  rcases h with h | h
  · exact .inl fun d hd => h d (s d hd)
  · exact .inr fun d hd => h d (s d hd)
theorem SrtOk.sub {ds es : List PyData} (h : SrtOk ds) (s : ∀ e ∈ es, e ∈ ds) (l : es.length ≤ ds.length) : SrtOk es := by
  obtain ⟨h1, h2, h3, h4⟩ := h
  refine ⟨fun d hd d' hd' => h1 d (s d hd) d' (s d' hd'), ?_, fun d hd => h3 d (s d hd), Nat.le_trans l h4⟩
  rcases h2 with h2 | h2
  · exact .inl fun d hd => h2 d (s d hd)
  · exact .inr fun d hd => h2 d (s d hd)
/-- flat data read off no list -/
theorem leaf_reads {h : Heap} : ∀ {ds : List PyData} {us : List Value} {as : List Addr}, (∀ z ∈ ds, isLeaf z = true) → ReadsAll h us ds as → as = []
  | [], _, _, _, r => by cases r; rfl
  | d :: ds, _, _, l, r => by
    cases r with
    | cons h1 h2 =>
      rw [leaf_reads (fun z hz => l z (List.mem_cons_of_mem _ hz)) h2]
      have hd := l d List.mem_cons_self
      cases h1 <;> first | rfl | cases hd
theorem flat_reads {h : Heap} {ds : List PyData} (f : Flat ds) {d : PyData} (hd : d ∈ ds) {u : Value} {as : List Addr} (r : Reads h u d as) : as = [] := by
  rcases f with f | f
  · obtain ⟨i, rfl⟩ := f d hd
    cases r; rfl
  · obtain ⟨x, t, rfl, l⟩ := f d hd
    cases r with
    | tuple _ _ _ h4 => exact leaf_reads l h4
theorem each_perm {α β : Type} {R : α → β → Prop} {as as' : List α} (p : as'.Perm as) : ∀ {bs : List β}, PySem.W.EachIs R as bs → ∃ bs', PySem.W.EachIs R as' bs' ∧ bs'.Perm bs := by
  induction p with
  | nil => exact fun h => ⟨_, h, .refl _⟩
  | cons x _ ih =>
    intro bs h
    cases h with
    | cons h1 h2 =>
      obtain ⟨cs, c1, c2⟩ := ih h2
      exact ⟨_, .cons h1 c1, c2.cons _⟩
  | swap x y l =>
    intro bs h
    cases h with
    | cons h1 h2 => cases h2 with
      | cons h2 h3 => exact ⟨_, .cons h2 (.cons h1 h3), .swap _ _ _⟩
  | trans _ _ ih1 ih2 =>
    intro bs h
    obtain ⟨cs, c1, c2⟩ := ih2 h
    obtain ⟨es, e1, e2⟩ := ih1 c1
    exact ⟨es, e1, e2.trans c2⟩
theorem each_of {F : Hp} : ∀ {vs : List V} {us : List Value} {ds : List PyData}, Vals vs us → DaAll F vs ds → PySem.W.EachIs (fun u (b : V × PyData) => RelV b.1 u ∧ Da F b.1 b.2) us (vs.zip ds)
  | _, _, _, .nil, .nil => .nil
  | _, _, _, .cons r t, .cons d k => .cons ⟨r, d⟩ (each_of t k)
theorem each_back {F : Hp} : ∀ {us : List Value} {bs : List (V × PyData)}, PySem.W.EachIs (fun u (b : V × PyData) => RelV b.1 u ∧ Da F b.1 b.2) us bs → Vals (bs.map Prod.fst) us ∧ DaAll F (bs.map Prod.fst) (bs.map Prod.snd)
  | _, _, .nil => ⟨.nil, .nil⟩
  | _, _, .cons h t => ⟨.cons h.1 (each_back t).1, .cons h.2 (each_back t).2⟩
theorem each_in {α β : Type} {R : α → β → Prop} {S : β → Prop} : ∀ {as : List α} {bs : List β}, PySem.W.EachIs R as bs → (∀ b ∈ bs, S b) → PySem.W.EachIs (fun a b => R a b ∧ S b) as bs
  | _, _, .nil, _ => .nil
  | _, _, .cons h t, s => .cons ⟨h, s _ List.mem_cons_self⟩ (each_in t fun b hb => s b (List.mem_cons_of_mem _ hb))
end U
set_option maxHeartbeats 4000000
/-! S6: set(xs) and sorted(set): rules over the heap. -/
namespace U
open PySem PySem.Spec PyProof.Rows L2
/-- the set at a; the things in it -/
def SetV (w : World) (a : Addr) (vs : List V) (h : Heap) : Prop := ∃ es ep t, SetAt h a es ep t ∧ t.fits es.size = true ∧ es.size < scanBound ∧ Ris t.place.toList ∧ (w.params.followText "set-order" = true ∨ t.led = true) ∧ Vals vs (es.toList.map (·.2))
def SetVO (w : World) (a : Addr) (vs : List V) : HO := .ext fun h => SetV w a vs h
theorem setVO_ok {P : Program} {w : World} {H : Hp} {h : Heap} {a : Addr} {vs : List V} (R : SetV w a vs h) : ObjOk P w H h a (SetVO w a vs) := by
  have ⟨es, ep, t, ⟨o, ho, r⟩, q⟩ := R
  refine ⟨R, ⟨o, ho⟩, fun h1 h2 p k => ?_⟩
  have ⟨es', ep', t', ⟨o', ho', r'⟩, q'⟩ := (show SetV w a vs h1 from p)
  exact ⟨es', ep', t', ⟨o', k o' ho', r'⟩, q'⟩
theorem good_vals : ∀ {l : List (Int × Value)}, (∀ e ∈ l, GoodE e) → Vals ((l.map keyOf).map V.int) (l.map (·.2))
  | [], _ => .nil
  | e :: l, h => by
    refine .cons ?_ (good_vals fun x hx => h x (List.mem_cons_of_mem _ hx))
    obtain ⟨k, tk, h1, _⟩ := h e List.mem_cons_self
    refine ⟨tk, ?_⟩
    unfold keyOf
    rw [h1]
    exact h1
theorem setR_V {w : World} {h : Heap} {a : Addr} {S : Int → Bool} {c : Nat} (R : SetR w h a S c) : ∃ ns : List Int, SetV w a (ns.map V.int) h ∧ ns.Nodup ∧ ∀ k, k ∈ ns ↔ S k = true := by
  obtain ⟨o, es, ep, t, ho, hex, hd, g, nd, hm, hb, hf, hn, r, l⟩ := R
  exact ⟨es.toList.map keyOf, ⟨es, ep, t, ⟨o, ho, hex.1, hd⟩, hf, hb, r, l, good_vals g⟩, nd, fun k => (hm k).symm⟩
theorem row_vals {P : Program} {w : World} : ∀ L : KL, Vals (L.map fun p => V.ref p.1) ((L.map (kRow P w)).map (·.2))
  | [] => .nil
  | p :: L => .cons rfl (row_vals L)
theorem KS.toV {P : Program} {w : World} {s : Shared} {a : Addr} {L : KL} {es : Array (Int × Value)} {ep : Nat} {t : SetTable} (R : KS P w s.heap a L es ep t) : SetV w a (L.map fun p => V.ref p.1) s.heap := by
  obtain ⟨o, ho, hex, hd⟩ := R.ob
  have := R.few
  refine ⟨es, ep, t, ⟨o, ho, hex.1, hd⟩, R.fits, by rw [R.len.1]; unfold scanBound; omega, R.tab.ris, R.led, ?_⟩
  rw [R.rows]
  exact row_vals L
theorem ref_vals : ∀ {ks : KL} {us : List Value}, Vals (ks.map fun p => V.ref p.1) us → us = ks.map fun p => Value.ref p.1
  | [], _, .nil => rfl
  | p :: ks, _, .cons r t => by
    cases r
    rw [ref_vals t] <;> rfl
def tupD (k : List Key) : PyData := .tuple (k.map keyD)
theorem tupD_inj {k k' : List Key} (h : tupD k = tupD k') : k = k' := keyDs_inj (PyData.tuple.inj h)
theorem ints_da {F : Hp} : ∀ ns : List Int, DaAll F (ns.map V.int) (ns.map PyData.int)
  | [] => .nil
  | n :: ns => .cons (.int n) (ints_da ns)
theorem flat_ints {F : Hp} : ∀ {vs : List V} {ds : List PyData}, DaAll F vs ds → (∀ d ∈ ds, ∃ i, d = .int i) → ∃ ns : List Int, vs = ns.map V.int ∧ ds = ns.map PyData.int
  | _, _, .nil, _ => ⟨[], rfl, rfl⟩
  | _, _, .cons h k, l => by
    obtain ⟨ns, e1, e2⟩ := flat_ints k fun z hz => l z (List.mem_cons_of_mem _ hz)
    obtain ⟨i, rfl⟩ := l _ List.mem_cons_self
    cases h
    exact ⟨i :: ns, by rw [e1] <;> rfl, by rw [e2] <;> rfl⟩
section
variable {X : Cx} {pins : List (Addr × Obj)} {σ : L2.St} {H : Hp} {s : Shared}
theorem Inv.kt {F : Hp} (I : Inv X pins σ H s) (ef : Ex F H) {v : V} {ds : List PyData} (h : Da F v (.tuple ds)) (l : ∀ z ∈ ds, isLeaf z = true) : ∃ b, v = .ref b ∧ Kt X.prog X.w s.heap (ds.map leafK) b := by
  cases h with
  | @tup a xs _ h1 h2 =>
    obtain ⟨its, r, ⟨o, ho, hc, n, hd⟩, _⟩ := I.tuple (h1.sq (K := X.K) ef)
    rw [leafs_da h2 l] at r
    exact ⟨a, rfl, o, its.toArray, n, ho, hc, hd, by simpa using items_are r⟩
theorem Inv.kts {F : Hp} (I : Inv X pins σ H s) (ef : Ex F H) : ∀ {vs : List V} {ds : List PyData}, DaAll F vs ds → (∀ d ∈ ds, ∃ x r, d = .tuple (x :: r) ∧ ∀ z ∈ x :: r, isLeaf z = true) →
    ∃ ks : KL, vs = (ks.map fun p => V.ref p.1) ∧ ds = (ks.map fun p => tupD p.2) ∧ (∀ p ∈ ks, Kt X.prog X.w s.heap p.2 p.1) ∧ ∀ p ∈ ks, Da F (.ref p.1) (tupD p.2)
  | _, _, .nil, _ => ⟨[], rfl, rfl, fun p hp => (nomatch hp), fun p hp => (nomatch hp)⟩
  | _, _, .cons h k, l => by
    obtain ⟨ks, e1, e2, e3, e4⟩ := Inv.kts I ef k fun z hz => l z (List.mem_cons_of_mem _ hz)
    obtain ⟨x, r, rfl, hl⟩ := l _ List.mem_cons_self
    obtain ⟨b, rfl, hb⟩ := Inv.kt I ef h hl
    have e : tupD ((x :: r).map leafK) = .tuple (x :: r) := by unfold tupD; rw [keyD_leafs hl]
    refine ⟨(b, (x :: r).map leafK) :: ks, by rw [e1] <;> rfl, ?_, fun p hp => ?_, fun p hp => ?_⟩
    · rw [List.map_cons, ← e2]
      exact congrArg (· :: _) e.symm
    · rcases List.mem_cons.mp hp with q | q
      · rw [q]; exact hb
      · exact e3 p q
    · rcases List.mem_cons.mp hp with q | q
      · rw [q]
        show Da F (.ref b) (tupD ((x :: r).map leafK))
        rw [e]; exact h
      · exact e4 p q
theorem refs_da {F : Hp} : ∀ {L : KL}, (∀ p ∈ L, Da F (.ref p.1) (tupD p.2)) → DaAll F (L.map fun p => V.ref p.1) (L.map fun p => tupD p.2)
  | [], _ => .nil
  | p :: L, h => .cons (h p List.mem_cons_self) (refs_da fun q hq => h q (List.mem_cons_of_mem _ hq))
/-- set(xs), xs a list or a tuple of data -/
def rSetV (w : World) : List V → Hp → VK → Prop := fun xs H Q => ∃ (F : Hp) (p : Addr) (d : PyData) (ds : List PyData), xs = [.ref p] ∧ Ex F H ∧ Da F (.ref p) d ∧ itemsOf d = some ds ∧ SetOk ds ∧
  ∀ a vs es, H a = none → DaAll F vs es → es.Perm (nub ds) → Q (.ref a) (upd H a (SetVO w a vs))
theorem cr_setV (hc : X.calm = true) (hu : X.A.units + 64 < cLine) : CallR X (.type "set") (rSetV X.w) := by
  intro pins s σ H xs us Q I r h
  obtain ⟨F, p, d, ds, rfl, ef, hd, hi, ok, q⟩ := h
  rw [Vals.ref1 r]
  have hn : H s.heap.objs.size = none := I.hok.fresh (Nat.le_refl _)
  obtain ⟨ws, its, hda, rv, hl⟩ : ∃ (ws : List V) (its : List Value), DaAll F ws ds ∧ Vals ws its ∧ (s.heap.IsList p its.toArray ∨ s.heap.IsTuple p its.toArray) := by
    cases hd with
    | lst h1 h2 =>
      cases hi
      obtain ⟨its, rv, pl, _⟩ := I.list (SqL.of (K := X.K) (ef _ _ h1))
      exact ⟨_, its, h2, rv, .inl pl.isList⟩
    | tup h1 h2 =>
      cases hi
      obtain ⟨its, rv, pl, _⟩ := I.tuple (h1.sq (K := X.K) ef)
      exact ⟨_, its, h2, rv, .inr pl⟩
    | dict _ _ => cases hi
  have put : ∀ (h' : Heap) (tk : Nat) (vs : List V) (es : List PyData), SetV X.w s.heap.objs.size vs h' → (∀ b o, s.heap.get? b = some o → h'.get? b = some o) → DaAll F vs es → es.Perm (nub ds) → EP X pins σ Q (.ref s.heap.objs.size) { s with heap := h', toks := tk } :=
    fun h' tk vs es R k dv pe => ⟨.ref s.heap.objs.size, upd H s.heap.objs.size (SetVO X.w s.heap.objs.size vs), I.laid (t' := tk) k (Nat.le_refl _) (setVO_ok R), rfl, q _ vs es hn dv pe⟩
  have few := ok.2.1
  rcases ok.2.2 with fi | ft
  · obtain ⟨ns, rfl, rfl⟩ := flat_ints hda fi
    rw [List.length_map] at few
    refine k_call (P := X.prog) (w := X.w) (I.ok.hd hc) hl (i_setLoop (ns := ns) (by simpa using rv.ints) (by unfold scanBound; omega)) fun h' tk ⟨c, R⟩ k => ?_
    obtain ⟨ms, R2, nd, hm⟩ := setR_V R
    refine put h' tk _ _ R2 k (ints_da ms) ((List.perm_ext_iff_of_nodup (List.Pairwise.map _ (fun a b hab z => hab (PyData.int.inj z)) nd) (nub_nodup _)).mpr fun d => ?_)
    rw [mem_nub]
    constructor
    · intro hd
      obtain ⟨i, hi, rfl⟩ := List.mem_map.mp hd
      exact List.mem_map_of_mem (of_decide_eq_true ((hm i).mp hi))
    · intro hd
      obtain ⟨i, hi, rfl⟩ := List.mem_map.mp hd
      exact List.mem_map_of_mem ((hm i).mpr (decide_eq_true hi))
  · obtain ⟨ks, rfl, rfl, kt, kd⟩ := Inv.kts I ef hda ft
    rw [List.length_map] at few
    refine k_call (P := X.prog) (w := X.w) (I.ok.hd hc) hl (k_setLoop (ks := ks) (by simpa using ref_vals rv) kt few (by show X.A.units + 3 < cLine; omega)) fun h' tk ⟨L, es, ep, t, R, g⟩ k => ?_
    refine put h' tk _ _ (KS.toV (s := { s with heap := h' }) R) k (refs_da fun p hp => kd p (g.sub p hp)) ((List.perm_ext_iff_of_nodup ?_ (nub_nodup _)).mpr fun d => ?_)
    · have nd := R.nd
      have e : (L.map fun p => tupD p.2) = (L.map Prod.snd).map tupD := by rw [List.map_map] <;> rfl
      rw [e]
      exact List.Pairwise.map _ (fun a b hab z => hab (tupD_inj z)) nd
    · rw [mem_nub]
      constructor
      · intro hd
        obtain ⟨p, hp, rfl⟩ := List.mem_map.mp hd
        exact List.mem_map_of_mem (f := fun p : Addr × List Key => tupD p.2) (g.sub p hp)
      · intro hd
        obtain ⟨p, hp, rfl⟩ := List.mem_map.mp hd
        obtain ⟨p', hp', e⟩ := List.mem_map.mp (g.all p hp)
        exact List.mem_map.mpr ⟨p', hp', by rw [e]⟩
/-- sorted(set) -/
def rSortV (w : World) : List V → Hp → VK → Prop := fun xs H Q => ∃ (F : Hp) (a : Addr) (vs : List V) (ds : List PyData), xs = [.ref a] ∧ H a = some (SetVO w a vs) ∧ Ex F H ∧ DaAll F vs ds ∧ SrtOk ds ∧ Flat ds ∧
  ∀ p ys, H p = none → DaAll F ys (srt ds) → Q (.ref p) (upd H p (.lst ys))
theorem cr_sortV (hc : X.calm = true) (hu : X.A.units + 150 < cLine) : CallR X (.builtin "sorted") (rSortV X.w) := by
  intro pins s σ H xs us Q I r h
  obtain ⟨F, a, vs, ds, rfl, ha, ef, hda, ok, fl, q⟩ := h
  rw [Vals.ref1 r]
  obtain ⟨es, ep, t, hat, hf, hb, ris, led, hv⟩ : SetV X.w a vs s.heap := (I.hok a _ ha).1
  refine Calls.call_function_entry kind_sorted plain_sorted entry_sorted (args_sorted1 _) ?_
  unfold Builtin.«sorted»
  refine wpAny_bind (m := checkCount "sorted" 1 1 _) (wpAny_pure ?_)
  refine wpAny_bind (collect_set (A := X.A.in1) (I.ok.hd hc) hat hf hb ris led fun s1 out k1 hz g1 o1 pm => ?_)
  obtain ⟨bs, b1, b2⟩ := each_perm pm (each_of hv hda)
  have zs : (vs.zip ds).map Prod.snd = ds := by rw [List.map_snd_zip]; rw [hda.length]; exact Nat.le_refl _
  have pd : (bs.map Prod.snd).Perm ds := by rw [← zs]; exact b2.map Prod.snd
  have sub : ∀ e ∈ bs.map Prod.snd, e ∈ ds := fun e he => pd.mem_iff.mp he
  have ok2 := ok.sub sub (Nat.le_of_eq pd.length_eq)
  have fl2 := fl.sub sub
  have hlen : out.length ≤ sizeLine := by
    rw [b1.length, ← List.length_map (f := Prod.snd), pd.length_eq]
    exact sz_ok ok.2.2.2
  refine wpAny_bind (wpAny_newList ?_ hlen)
  have hoL : (s1.heap.push (seqObj "list" out.toArray 0)).get? s1.heap.objs.size = some (seqObj "list" out.toArray 0) := Heap.get?_push_size _ rfl
  have kp : ∀ b u, s.heap.get? b = some u → (s1.heap.push (seqObj "list" out.toArray 0)).get? b = some u := fun b u e => Heap.get?_push_of_some _ (k1 b u e)
  have er : PySem.W.EachIs (fun u (b : V × PyData) => ∃ as, Reads (s1.heap.push (seqObj "list" out.toArray 0)) u (Prod.snd b) as ∧ s1.heap.objs.size ∉ as) out bs := by
    have key : ∀ {us : List Value} {cs : List (V × PyData)}, PySem.W.EachIs (fun u (b : V × PyData) => RelV b.1 u ∧ Da F b.1 b.2) us cs → (∀ b ∈ cs, b.2 ∈ bs.map Prod.snd) →
        PySem.W.EachIs (fun u (b : V × PyData) => ∃ as, Reads (s1.heap.push (seqObj "list" out.toArray 0)) u (Prod.snd b) as ∧ s1.heap.objs.size ∉ as) us cs := by
      intro us cs h
      induction h with
      | nil => exact fun _ => .nil
      | @cons u b us cs h1 _ ih =>
        intro hm
        refine .cons ?_ (ih fun c hc => hm c (List.mem_cons_of_mem _ hc))
        have hb := hm b List.mem_cons_self
        obtain ⟨as, rd⟩ := Dp.reads I b.2 b.1 u ((h1.2.ex ef).dp (ok2.2.2.1 _ hb).1) h1.1
        have e0 : as = [] := flat_reads fl2 hb rd
        subst e0
        exact ⟨[], PyProof.Rows.Reads.keeps kp rd, fun z => (nomatch z)⟩
    exact key b1 fun b hb => List.mem_map_of_mem hb
  refine wpAny_bind (wpAny_holding (PySem.W.list_sort_data (s := { s1 with heap := s1.heap.push (seqObj "list" out.toArray 0) }) (R := fun u (b : V × PyData) => RelV b.1 u ∧ Da F b.1 b.2) (enc := Prod.snd) hoL b1 er ok2.1 ok2.2.1 (by rw [← b1.length]; exact hlen) (fun b hb => ?_) fun o2 hl2 ho2 => ?_))
  · have := (ok2.2.2.1 _ (List.mem_map_of_mem (f := Prod.snd) hb)).2
    show X.A.units + 1 + 1 + (Prod.snd b).depth < cLine
    omega
  · obtain ⟨c, hc2⟩ := sortedHeap_at (vs := out) (out := o2.toArray) hoL
    obtain ⟨v2, d2⟩ := each_back ho2
    generalize hsb : bs.mergeSort (PySem.W.dataLe false Prod.snd) = sb at ho2 v2 d2
    have e2 : sb.map Prod.snd = srt ds := by
      have hm := PySem.W.sort_maps (r := PySem.W.dataLe false Prod.snd) (s := PySem.W.dataLe false id) (Prod.snd : V × PyData → PyData) (l := bs) (fun a _ b _ => rfl)
      rw [← hsb, hm]
      exact srt_one pd (flat_inj fl2)
    rw [e2] at d2
    have hn : H s1.heap.objs.size = none := I.hok.fresh hz
    have kk : ∀ b u, s.heap.get? b = some u → (sortedHeap (s1.heap.push (seqObj "list" out.toArray 0)) s1.heap.objs.size out o2.toArray).get? b = some u := fun b u e => by
      have z := k1 b u e
      have hlt := Heap.lt_size z
      rw [sortedHeap_old (Nat.ne_of_lt hlt) (by rw [size_push']; exact Nat.lt_succ_of_lt hlt)]
      exact Heap.get?_push_of_some _ z
    have l2 : (sb.map Prod.fst).length ≤ sizeLine := by
      rw [v2.length, hl2, ← b1.length]; exact hlen
    refine wpAny_pure ⟨_, rfl, .ref s1.heap.objs.size, upd H s1.heap.objs.size (.lst (sb.map Prod.fst)), ?_, rfl, q _ _ hn d2⟩
    exact Inv.call' (ch := []) I o1 (Un.laid kk hz hn) (I.hok.laid kk hz ⟨l2, o2, c, v2, hc2⟩) (by show AllBare s1.gens; rw [g1]; exact I.bare) (fun _ z => nomatch z)
theorem pe_mono {e : Expr} {t : TE} (h : PE X e t) : PE X e (fun σ H Q => ∃ Q0 : VK, t σ H Q0 ∧ ∀ x H1, Q0 x H1 → Q x H1) :=
  ⟨fun pins s σ H Q I ⟨Q0, h0, k⟩ => thn (h.run pins s σ H Q0 I h0) fun v s1 ⟨x, H1, I1, r1, q1⟩ => ⟨x, H1, I1, r1, k x H1 q1⟩⟩
def rSS : V → Hp → VK → Prop := fun x H Q => ∃ F d ds, Ex F H ∧ Da F x d ∧ itemsOf d = some ds ∧ SetOk ds ∧ ∀ p vs F' H', Grow F H F' H' → H p = none → F' p = none → H' p = some (.lst vs) → DaAll F' vs (srt (nub ds)) → Q (.ref p) H'
theorem pe_sortedSet {a : Expr} {pos pos2 p p2 : Pos} {k : Nat} {ta : TE} (hr : Room k X.A) (hc : X.calm = true) (hg : Gl X "sorted") (hm : X.mg "sorted" = none) (hg2 : Gl X "set") (hm2 : X.mg "set" = none) (ha : PE X a ta)
    (hs : starEach [.Call (.Name "set" p2) [a] [] pos2] X.env = (false, eval (.Call (.Name "set" p2) [a] [] pos2) X.env) :: starEach [] X.env := by rfl) (hs2 : starEach [a] X.env = (false, eval a X.env) :: starEach [] X.env := by rfl) :
    PE X (.Call (.Name "sorted" p) [.Call (.Name "set" p2) [a] [] pos2] [] pos) (fun σ H Q => ta σ H fun x H1 => rSS x H1 Q) :=
  weakE (pe_callB (cr_sortV hc (by have := hr.un; omega)) hg hm (by decide +kernel)
    (pa_cons (pe_callTy (cr_setV hc (by have := hr.un; omega)) hg2 hm2 PyProof.Rows.boot_set (pa_cons (pe_mono ha) pa_nil hs2) (by decide) (by decide) hs2) pa_nil hs) (by decide) (by decide) hs) fun σ H Q w => by
  refine ⟨_, w, fun x H1 ⟨F, d, ds, ef, hd, hi, ok, q⟩ => ?_⟩
  obtain ⟨b, rfl⟩ : ∃ b, x = .ref b := by
    cases hd <;> first | exact ⟨_, rfl⟩ | cases hi
  refine ⟨F, b, d, ds, rfl, ef, hd, hi, ok, fun a vs es hn dv pe => ?_⟩
  have sub : ∀ e ∈ es, e ∈ ds := fun e he => mem_nub.mp (pe.mem_iff.mp he)
  have ne : F a = none := ef.back hn
  refine ⟨F, a, vs, es, rfl, upd_same, ef.mut ne, dv, ok.1.sub sub (by rw [pe.length_eq]; exact nub_len ds), ok.2.2.sub sub, fun p2 ys hp dy => ?_⟩
  rw [srt_one pe (flat_inj (ok.2.2.sub sub))] at dy
  have g1 : Grow F H1 F (upd H1 a (SetVO X.w a vs)) := Grow.side ef hn
  have g2 : Grow F (upd H1 a (SetVO X.w a vs)) F (upd (upd H1 a (SetVO X.w a vs)) p2 (.lst ys)) := Grow.side g1.fh hp
  exact q p2 ys F _ (g1.trans g2) (g1.hh.back hp) (g1.fh.back hp) upd_same dy
end
end U
set_option maxHeartbeats 4000000
/-! V1: enumerate over a tuple. -/
namespace U
open PySem PySem.Spec PyProof.Rows L2
theorem en_new {v : Value} {ob : Obj} {G : Heap → Prop} (B : Begins v ob G) :
    Meets (Builtin.«enumerate.__new__» ⟨[.type "enumerate", v], []⟩) (fun _ R s => G s.heap ∧
      R (.ok (.ret (.ref (s.heap.push ob).objs.size))) { s with heap := (s.heap.push ob).push { cls := .type "enumerate", data := .fields #[.none, .bool false, .ref s.heap.objs.size, rawInt 0, .none, .none] } }) := by
  refine .of_wp fun prog w A R s k => ?_
  obtain ⟨hp, gl, dd, tks, oss⟩ := s
  obtain ⟨k1, k2⟩ := k
  have sb := sub_enumerate
  have q1 : ∀ {A2 : Around} {E2 : Value → Shared → Prop} {Q2 : Value → Shared → Prop}, Q2 (.ref hp.objs.size) ⟨hp.push ob, gl, dd, tks, oss⟩ → wpAny (model prog w) A2 (pyIter v) Q2 E2 ⟨hp, gl, dd, tks, oss⟩ :=
    fun z => B.iter prog w _ _ ⟨hp, gl, dd, tks, oss⟩ _ k1 z
  wp_walk using q1
  refine wpAny_stack_any fun st => wpAny_pure ?_
  split
  · rename_i cc _ _ _ _ _
    cases (cc == Value.type "enumerate") <;> (wp_walk using q1; exact ⟨_, rfl, k2⟩)
  · wp_walk using q1
    exact ⟨_, rfl, k2⟩
section
variable {prog : Program} {w : World} {A : Around} {E : Value → Shared → Prop} {s : Shared}
theorem call_enT {a : Addr} {its : Array Value} {Q : Value → Shared → Prop} (ht : s.heap.IsTuple a its)
    (k : ∀ h2, IsEnum h2 (s.heap.objs.size + 1) s.heap.objs.size 0 .none → h2.IsTupleIter s.heap.objs.size a 0 → (∀ c o, s.heap.get? c = some o → h2.get? c = some o) → Q (.ref (s.heap.objs.size + 1)) { s with heap := h2 }) :
    wpAny (model prog w) A (call (.type "enumerate") [.ref a]) Q E s := by
  refine callType_new F.called_enumerate (by decide) (F.typeCall_enumerate_1 _) (F.newCall_enumerate_1 _) (fun ob => F.args_object_init_2 ob _) F.entry_enumerate_new (en_new (begins_tuple a its)) ⟨ht, ?_⟩
  have z1 : (s.heap.push { cls := .type "tuple_iterator", data := .fields #[.ref a, .int 0 0] }).objs.size = s.heap.objs.size + 1 := Heap.size_push ..
  show _ ∧ _
  rw [z1]
  have e1 := Heap.get?_push_size (s.heap.push { cls := .type "tuple_iterator", data := .fields #[.ref a, .int 0 0] }) (o := { cls := .type "enumerate", data := .fields #[.none, .bool false, .ref s.heap.objs.size, rawInt 0, .none, .none] }) rfl
  rw [z1] at e1
  exact ⟨⟨_, e1, rfl⟩, k _ e1 ⟨_, Heap.get?_push_of_some _ (Heap.get?_push_size _ rfl), rfl, rfl⟩ fun c o q => Heap.get?_push_of_some _ (Heap.get?_push_of_some _ q)⟩
theorem enT_end {e it a : Addr} {i : Nat} {its : Array Value} {old : Value} {Q : Option Value → Shared → Prop} (hh : A.handled = none) (he : IsEnum s.heap e it i old) (hit : s.heap.IsTupleIter it a i) (ht : s.heap.IsTuple a its) (hx : its[i]? = none)
    (k : ∀ h2, Heap.ExtBut it s.heap h2 → Q none { s with heap := h2 }) : wpAny (model prog w) A (pyNext (.ref e)) Q E s := by
  have hh1 : A.in1.handled = none := hh
  have D : Draws prog w A.in1 it [it, a] i (fun _ _ => False) (fun m h2 => m = i ∧ h2.IsTupleIter it a i ∧ h2.IsTuple a its) :=
    { live := fun m h2 st => by
        obtain ⟨o, ho, _⟩ := st.2.1
        exact ⟨o, ho⟩
      frame := fun m h2 h3 st hk => ⟨st.1, st.2.1.at fun o q => hk it List.mem_cons_self o q, st.2.2.at fun o q => hk a (List.mem_cons_of_mem _ List.mem_cons_self) o q⟩
      item := fun m s2 Q2 E2 hi st => absurd (st.1 ▸ hi) (Nat.lt_irrefl _)
      done := fun s2 Q2 E2 st hE => wpAny_nextOf_tuple_end hh1 st.2.1 st.2.2 hx hE }
  exact wpAny_pyNext_enum_endD D he ⟨rfl, hit, ht⟩ k
end
/-- the tuple at a, each item in a new pair -/
def IteT (K : PySem.W.Frag) (a : Addr) : It where
  go := fun i H => ∃ (xs : List V) (x : V), SqT K H a xs ∧ xs[i]? = some x
  yld := fun i H v H' => ∃ T x, v = .ref T ∧ H T = none ∧ H' = upd H T (.tup [.int (i : Nat), x]) ∧ ∀ xs, SqT K H a xs → xs[i]? = some x
  stop := fun i H => ∃ xs : List V, SqT K H a xs ∧ xs.length ≤ i
theorem turn_enT {P : Program} {w : World} {K : PySem.W.Frag} {elts : List Expr} {kk : Nat} {tpos : Pos} (a e it : Addr) :
    Turn P w K (.Tuple elts kk tpos) (IteT K a) [e, it] e (fun i h => (∃ old, IsEnum h e it ((i : Nat) : Int) old) ∧ h.IsTupleIter it a i ∧ e ≠ it ∧ a ≠ it ∧ a ≠ e) where
  mem := List.mem_cons_self
  obj := fun i h st c hc => by
    obtain ⟨⟨old, he⟩, ⟨o, ho, _, hd⟩, _⟩ := st
    rcases List.mem_cons.mp hc with z | z
    · rw [z]; exact ⟨_, he, fun v q => nomatch q⟩
    · rw [List.mem_singleton] at z; rw [z]; exact ⟨o, ho, fun v q => by rw [hd] at q; cases q⟩
  keep := fun i h h' st k => by
    obtain ⟨⟨old, he⟩, hi, hne⟩ := st
    exact ⟨⟨old, k e List.mem_cons_self _ he⟩, hi.at fun o q => k it (List.mem_cons_of_mem _ List.mem_cons_self) o q, hne⟩
  item := by
    intro X hP hw hK hc i pins s σ H E I hf st hg
    subst hP hw hK
    obtain ⟨⟨old, he⟩, hit, hne, n1, n2⟩ := st
    obtain ⟨xs, x, hq, hx⟩ := hg
    obtain ⟨its, rv, p, hz⟩ := I.tuple hq
    obtain ⟨u, hu, ru⟩ := rv.get hx
    have hel : e < s.heap.objs.size := Heap.lt_size he
    have hil : it < s.heap.objs.size := by obtain ⟨_, q, _⟩ := hit; exact Heap.lt_size q
    have hlt : i < its.toArray.size := by
      rw [List.size_toArray]
      exact (List.getElem?_eq_some_iff.mp hu).1
    refine wpAny_pyNext_enum_itemD (Draws.tuple (A := X.A.in1) (show X.A.in1.handled = none from I.ok.hd hc) it a n1 its.toArray) he ⟨hit, p⟩ hlt hne (by simp [hne, Ne.symm n2]) fun y h1 tk hy ho st1 hT hsz hk => ?_
    have ey : y = u := by
      have h0 : its.toArray[i]? = some u := by simpa using hu
      rw [h0] at hy
      exact (Option.some.inj hy).symm
    subst ey
    refine ⟨_, rfl, wpAny_letOwnedTupleGo_enum (s := { s with heap := h1, toks := tk + 1 }) ho fun h2 he2 sb => ?_⟩
    have hT2 : h2.get? s.heap.objs.size = some { cls := .type "tuple", data := .seq #[.int i tk, y] } := (sb.2 _ (Nat.ne_of_gt hel)).trans hT
    have new : ObjOk X.prog X.w (upd H s.heap.objs.size (.tup [.int (i : Nat), x])) h2 s.heap.objs.size (.tup [.int (i : Nat), x]) :=
      ⟨by show 2 ≤ sizeLine; decide, [.int i tk, y], .cons ⟨_, rfl⟩ (.cons ru .nil), ⟨_, hT2, rfl, _, rfl⟩⟩
    have I1 : Inv X pins σ (upd H s.heap.objs.size (.tup [.int (i : Nat), x])) { s with heap := h2, toks := tk + 1 } :=
      I.turnedNew (ch := [e, it]) (fun c ob hb q => (sb.2 c fun z => hb (by rw [z]; exact List.mem_cons_self)).trans (hk c ob (fun z => hb (by rw [z]; exact List.mem_cons_self)) (fun z => hb (by rw [z]; simp)) q)) hf (Nat.le_refl _) new
    refine ⟨.ref s.heap.objs.size, _, I1, rfl, ⟨_, x, rfl, I.hok.fresh (Nat.le_refl _), rfl, fun ys hy => by rw [I.tuple_inj hy hq]; exact hx⟩, ⟨⟨y, ?_⟩, st1.1.at fun o q => (sb.2 it (Ne.symm hne)).trans q, hne, n1, n2⟩, fun c hcm => ?_⟩
    · have e1 : ((i + 1 : Nat) : Int) = (i : Int) + 1 := by omega
      rw [e1]; exact he2
    · have hb' : c < s.heap.objs.size := by
        rcases List.mem_cons.mp hcm with z | z
        · rw [z]; exact hel
        · rw [List.mem_singleton] at z; rw [z]; exact hil
      rw [upd_ne (Nat.ne_of_lt hb')]
      exact (hf c hcm).1
  done := by
    intro X hP hw hK hc i pins s σ H E I hf st hg
    subst hP hw hK
    obtain ⟨⟨old, he⟩, hit, hne, n1, n2⟩ := st
    obtain ⟨xs, hq, hx⟩ := hg
    obtain ⟨its, rv, p, hz⟩ := I.tuple hq
    have hl := rv.length
    obtain ⟨f0, f1, f2, f3, f4, f5⟩ := hf it (by simp)
    exact enT_end (I.ok.hd hc) he hit p (by simp; omega) fun h2 eb => ⟨rfl, I.turned (t' := s.toks) (fun c o hb q => eb c o hb q) f0 f1 f3 f4 f5⟩
  self := fun A i s Q E st h => by
    obtain ⟨⟨old, he⟩, _⟩ := st
    exact wpAny_pyIter_enum he h
theorem wk_enL {K : PySem.W.Frag} {F : Hp} {a : Addr} {vs : List V} {ds : List PyData} (h : F a = some (.lst vs)) (k : DaAll F vs ds) : Wk (Ite K a) F (enumOf ds) := by
  have hl : (enumOf ds).length = vs.length := by unfold enumOf; rw [List.length_map, List.length_zipIdx, k.length]
  refine ⟨fun H => SqL K H a vs, fun i H v H' => ∃ T x, v = .ref T ∧ H T = none ∧ H' = upd H T (.tup [.int (i : Nat), x]) ∧ vs[i]? = some x, ?_, fun F' H' e1 e2 => SqL.of (e2 _ _ (e1 _ _ h)), fun i F' H' x H'' hi e1 e2 y => ?_⟩
  · rw [hl]
    exact ⟨fun i H hi q => ⟨vs, vs[i], q, List.getElem?_eq_getElem hi⟩, fun H q => ⟨vs, q, Nat.le_refl _⟩, fun i H v H' _ q ⟨T, x, h1, h2, h3, h4⟩ => ⟨T, x, h1, h2, h3, h4 vs q⟩⟩
  · obtain ⟨T, u, rfl, hT, rfl, hu⟩ := y
    obtain ⟨d, hd, du⟩ := k.get hu
    have g := Grow.laid (o := .tup [.int (i : Nat), u]) e2 hT
    refine ⟨_, .tuple [.int (i : Nat), d], g, ?_, .tup (.inl upd_same) (.cons (.int _) (.cons (du.ex (e1.trans g.ff)) .nil))⟩
    unfold enumOf
    rw [List.getElem?_map, List.getElem?_zipIdx, hd, Nat.zero_add] <;> rfl
theorem wk_enT {K : PySem.W.Frag} {F : Hp} {a : Addr} {vs : List V} {ds : List PyData} (h : IsT F a vs) (k : DaAll F vs ds) : Wk (IteT K a) F (enumOf ds) := by
  have hl : (enumOf ds).length = vs.length := by unfold enumOf; rw [List.length_map, List.length_zipIdx, k.length]
  refine ⟨fun H => SqT K H a vs, fun i H v H' => ∃ T x, v = .ref T ∧ H T = none ∧ H' = upd H T (.tup [.int (i : Nat), x]) ∧ vs[i]? = some x, ?_, fun F' H' e1 e2 => (h.ex e1).sq e2, fun i F' H' x H'' hi e1 e2 y => ?_⟩
  · rw [hl]
    exact ⟨fun i H hi q => ⟨vs, vs[i], q, List.getElem?_eq_getElem hi⟩, fun H q => ⟨vs, q, Nat.le_refl _⟩, fun i H v H' _ q ⟨T, x, h1, h2, h3, h4⟩ => ⟨T, x, h1, h2, h3, h4 vs q⟩⟩
  · obtain ⟨T, u, rfl, hT, rfl, hu⟩ := y
    obtain ⟨d, hd, du⟩ := k.get hu
    have g := Grow.laid (o := .tup [.int (i : Nat), u]) e2 hT
    refine ⟨_, .tuple [.int (i : Nat), d], g, ?_, .tup (.inl upd_same) (.cons (.int _) (.cons (du.ex (e1.trans g.ff)) .nil))⟩
    unfold enumOf
    rw [List.getElem?_map, List.getElem?_zipIdx, hd, Nat.zero_add] <;> rfl
def rEn : V → Hp → (It → Hp → Prop) → Prop := fun x H R => ∃ F d ds, Ex F H ∧ Da F x d ∧ itemsOf d = some ds ∧ ∀ J F1 H1, Grow F H F1 H1 → Wk J F1 (enumOf ds) → R J H1
section
variable {X : Cx} {a : Expr} {pos p tpos : Pos}
theorem one_of {ta : TE} {σ : L2.St} {H : Hp} {r : V → Hp → Prop} (h : ta σ H r) : tCons ta tNil σ H (fun vs H1 => ∃ x, vs = [x] ∧ r x H1) := by
  have e : (fun x H1 => ∃ y, [x] = [y] ∧ r y H1) = r := by
    funext x H1
    refine propext ⟨fun ⟨y, e, q⟩ => ?_, fun q => ⟨x, rfl, q⟩⟩
    cases e
    exact q
  show ta σ H (fun x H1 => ∃ y, [x] = [y] ∧ r y H1)
  rw [e]
  exact h
theorem pi_enumR {elts : List Expr} {kk : Nat} {ta : TE} (hc : X.calm = true) (hg : Gl X "enumerate") (hm : X.mg "enumerate" = none) (ha : PE X a ta) (hs : starEach [a] X.env = [(false, eval a X.env)] := by rfl) :
    PI X (.Tuple elts kk tpos) (.Call (.Name "enumerate" p) [a] [] pos) (fun σ H R => ta σ H fun x H1 => rEn x H1 R) := by
  refine ⟨fun pins s σ H R I h => ?_⟩
  have hpa : PA X [a] (tCons ta tNil) := pa_cons ha pa_nil hs
  refine Call_ (ld_blt I hg hm boot_enumerate (PyProof.Rows.callWith_type1 (thn (hpa.run pos pins s σ H _ I (one_of h)) fun us s1 ⟨vs, H1, I1, r1, q1⟩ => ?_) hs rfl))
  obtain ⟨x, rfl, F, d, ds, ef, dv, ei, hR⟩ := q1
  cases r1 with
  | cons r rr =>
    cases rr
    have fresh : ∀ b, b ∈ [s1.heap.objs.size + 1, s1.heap.objs.size] → FpOk X pins H1 b := fun b hb => by
      have hle : s1.heap.objs.size ≤ b := by
        rcases List.mem_cons.mp hb with z | z
        · rw [z]; exact Nat.le_add_right _ _
        · rw [List.mem_singleton] at z; rw [z]; exact Nat.le_refl _
      exact I1.fpOk hle (I1.hok.fresh hle)
    cases d with
    | list l =>
      cases ei
      cases dv with
      | @lst q vs _ h1 h2 =>
        cases r
        obtain ⟨its, rv, p', hz⟩ := I1.list (SqL.of (K := X.K) (ef _ _ h1))
        refine call_enumerate_list p'.isList fun h2' he hit hsz hk => wpAny_pyIter_enum he ?_
        have I2 : Inv X pins σ H1 { s1 with heap := h2' } := I1.kept (t' := s1.toks) hk
        exact ⟨s1.heap.objs.size + 1, [s1.heap.objs.size + 1, s1.heap.objs.size], _, _, H1, rfl, I2, turn_enum q (s1.heap.objs.size + 1) s1.heap.objs.size, ⟨⟨.none, he⟩, hit, Nat.succ_ne_self _⟩, fresh, hR _ F H1 (Grow.refl ef) (wk_enL h1 h2)⟩
    | tuple l =>
      cases ei
      cases dv with
      | @tup q vs _ h1 h2 =>
        cases r
        obtain ⟨its, rv, p', hz⟩ := I1.tuple (h1.sq (K := X.K) ef)
        have hql : q < s1.heap.objs.size := by
          obtain ⟨o, ho, _⟩ := id p'
          exact Heap.lt_size ho
        refine call_enT (a := q) (its := its.toArray) p' fun h2' he hit hk => wpAny_pyIter_enum he ?_
        have I2 : Inv X pins σ H1 { s1 with heap := h2' } := I1.kept (t' := s1.toks) hk
        exact ⟨s1.heap.objs.size + 1, [s1.heap.objs.size + 1, s1.heap.objs.size], _, _, H1, rfl, I2, turn_enT q (s1.heap.objs.size + 1) s1.heap.objs.size, ⟨⟨.none, he⟩, hit, Nat.succ_ne_self _, Nat.ne_of_lt hql, Nat.ne_of_lt (Nat.lt_succ_of_lt hql)⟩, fresh, hR _ F H1 (Grow.refl ef) (wk_enT h1 h2)⟩
    | _ => cases ei
end
end U
set_option maxHeartbeats 4000000
/-! Z0: zip over tuples: begin. -/
namespace U
open PySem PySem.Spec PyProof.Rows L2
theorem zz_newCall1 (a : Value) (l : List Value) : checkBuiltinCall "zip.__new__" ⟨.type "zip" :: a :: l, []⟩ = pure () := by kernel_rfl
theorem zz_newCall (l : List Value) (h : 0 < l.length) : checkBuiltinCall "zip.__new__" ⟨.type "zip" :: l, []⟩ = pure () := by
  cases l with
  | nil => exact absurd h (Nat.lt_irrefl _)
  | cons a l => exact zz_newCall1 a l
theorem zz_typeCall (l : List Value) : checkTypeCall "zip" ⟨l, []⟩ = pure () := by kernel_rfl
theorem zz_init (o : Value) (l : List Value) : argsOk "object.__init__" ⟨o :: l, []⟩ := by unfold argsOk; kernel_rfl
/-- the iterators of a zip whose cells begin at n0 -/
abbrev zIts (n0 m : Nat) : List Value := (List.range m).map fun j => Value.ref (n0 + j)
theorem zIts_succ (n0 m : Nat) : zIts n0 (m + 1) = zIts n0 m ++ [Value.ref (n0 + m)] := by
  unfold zIts; rw [List.range_succ, List.map_append]; rfl
def ZIt (n0 : Addr) (ts : List Addr) (i k : Nat) (h : Heap) : Prop := ∀ j, j < k → ∀ t, ts[j]? = some t → h.IsTupleIter (n0 + j) t i
abbrev ZObj (n0 m : Nat) (f0 : Value) (b : Bool) (h : Heap) : Prop := h.get? (n0 + m + 2) = some { cls := .type "zip", dict := none, data := .fields #[f0, .bool b, .bool false, .ref (n0 + m), .ref (n0 + m + 1)], slots := #[] }
structure ZSt (n0 : Addr) (ts : List Addr) (i : Nat) (h : Heap) : Prop where
  z : ∃ f0 b, ZObj n0 ts.length f0 b h ∧ (f0 = .none ∨ ∃ a, f0 = rawInt a)
  TI : h.get? (n0 + ts.length) = some { cls := .type "tuple", data := .seq (zIts n0 ts.length).toArray }
  TO : ∃ olds : List Value, olds.length = ts.length ∧ h.get? (n0 + ts.length + 1) = some { cls := .type "tuple", data := .seq olds.toArray }
  its : ZIt n0 ts i ts.length h
theorem iterAll_T {prog : Program} {w : World} {A : Around} {E : Value → Shared → Prop} {s : Shared} {ts : List Addr} {Q : List Value → Shared → Prop} (ht : ∀ t ∈ ts, ∃ its, s.heap.IsTuple t its)
    (hq : ∀ h1, h1.objs.size = s.heap.objs.size + ts.length → (∀ c o, s.heap.get? c = some o → h1.get? c = some o) → ZIt s.heap.objs.size ts 0 ts.length h1 → Q (zIts s.heap.objs.size ts.length) { s with heap := h1 }) :
    wpAny (model prog w) A (Builtin.SmallTypes.iterAll (ts.map Value.ref)) Q E s := by
  unfold Builtin.SmallTypes.iterAll
  refine wpAny_bind (wpAny_forIn_list _ (fun rest b s' => ∃ k h1, k ≤ ts.length ∧ rest = (ts.drop k).map Value.ref ∧ b = (zIts s.heap.objs.size k).toArray ∧ s' = { s with heap := h1 } ∧ h1.objs.size = s.heap.objs.size + k ∧ (∀ c o, s.heap.get? c = some o → h1.get? c = some o) ∧ ZIt s.heap.objs.size ts 0 k h1) _ ?_ ?_ _ _ ⟨0, s.heap, Nat.zero_le _, by rw [List.drop_zero], rfl, rfl, rfl, fun _ _ e => e, fun j hj => absurd hj (Nat.not_lt_zero _)⟩)
  · rintro x rest b s' ⟨k, h1, hk, er, rfl, rfl, hs, hp, hi⟩
    have hlt : k < ts.length := by
      rcases Nat.lt_or_ge k ts.length with q | q
      · exact q
      · rw [List.drop_eq_nil_of_le q] at er; cases er
    rw [List.drop_eq_getElem_cons hlt] at er
    cases er
    obtain ⟨its, hT⟩ := ht _ (List.getElem_mem hlt)
    refine wpAny_bind (wpAny_holding ((begins_tuple (ts[k]) its).iter prog w _ _ { s with heap := h1 } _ (hT.at fun o e => hp _ o e) (wpAny_pure ?_)))
    refine ⟨k + 1, _, hlt, rfl, ?_, rfl, ?_, fun c o e => Heap.get?_push_of_some _ (hp c o e), fun j hj t e => ?_⟩
    · show (zIts s.heap.objs.size k).toArray.push (Value.ref h1.objs.size) = _
      rw [zIts_succ, hs]
      simp
    · show (h1.push _).objs.size = _
      rw [Heap.size_push, hs] <;> omega
    · rcases Nat.lt_succ_iff_lt_or_eq.mp hj with q | rfl
      · exact (hi j q t e).at fun o z => Heap.get?_push_of_some _ z
      · rw [List.getElem?_eq_getElem hlt] at e
        cases e
        rw [← hs]
        exact ⟨_, Heap.get?_push_size _ rfl, rfl, rfl⟩
  · rintro b s' ⟨k, h1, hk, er, rfl, rfl, hs, hp, hi⟩
    have hk2 : k = ts.length := by
      rcases Nat.lt_or_ge k ts.length with q | q
      · rw [List.drop_eq_getElem_cons q] at er; cases er
      · omega
    subst hk2
    refine wpAny_pure ?_
    exact hq h1 hs hp hi
abbrev zzT (h : Heap) (l : List Value) : Heap := h.push { cls := .type "tuple", data := .seq l.toArray }
abbrev zzO (h : Heap) (l : List Value) : Heap := (zzT h l).push { cls := .type "tuple", data := .seq (l.map fun _ => Value.none).toArray }
abbrev zzZ (h : Heap) (l : List Value) : Heap := (zzO h l).push { cls := .type "zip", data := .fields #[.none, .bool false, .bool false, .ref h.objs.size, .ref (zzT h l).objs.size] }
theorem zz_new (ts : List Addr) (hl : ts.length ≤ 1001) :
    Meets (Builtin.«zip.__new__» ⟨.type "zip" :: ts.map Value.ref, []⟩) (fun A R s => (∀ t ∈ ts, ∃ its, s.heap.IsTuple t its) ∧ ∀ h5, ZSt s.heap.objs.size ts 0 h5 → ZObj s.heap.objs.size ts.length .none false h5 → (∀ c o, s.heap.get? c = some o → h5.get? c = some o) → R (.ok (.ret (.ref (s.heap.objs.size + ts.length + 2)))) { s with heap := h5 }) := by
  refine .of_wp fun prog w A R s k => ?_
  obtain ⟨k1, k2⟩ := k
  have hsub := sub_zip
  have hn : ∀ {A : Around} {E : Value → Shared → Prop} {Q : Value × List Value → Shared → Prop}, Q (.type "zip", ts.map Value.ref) s → wpAny (model prog w) A (Builtin.SmallTypes.newClass "zip" ⟨.type "zip" :: ts.map Value.ref, []⟩) Q E s := by
    intro A E Q hQ
    wp_walk
    exact hQ
  unfold Builtin.«zip.__new__»
  refine wpAny_bind (hn ?_)
  show wpAny _ _ (Builtin.SmallTypes.iterAll (ts.map Value.ref) >>= _) _ _ _
  refine wpAny_bind (iterAll_T k1 fun h1 hs hp hi => ?_)
  have ll : (zIts s.heap.objs.size ts.length).length = ts.length := by unfold zIts; rw [List.length_map, List.length_range]
  refine wpAny_bind (wpAny_newTuple ?_ (by rw [ll]; exact Nat.le_trans hl (by decide)))
  refine wpAny_bind (wpAny_newTuple ?_ (by rw [List.length_map, ll]; exact Nat.le_trans hl (by decide)))
  refine wpAny_bind ?_
  wp_walk
  refine ⟨_, rfl, ?_⟩
  have z1 : (zzT h1 (zIts s.heap.objs.size ts.length)).objs.size = s.heap.objs.size + ts.length + 1 := by rw [Heap.size_push, hs]
  have z2 : (zzO h1 (zIts s.heap.objs.size ts.length)).objs.size = s.heap.objs.size + ts.length + 2 := by rw [Heap.size_push, z1]
  have gZ : (zzZ h1 (zIts s.heap.objs.size ts.length)).get? (zzO h1 (zIts s.heap.objs.size ts.length)).objs.size = some { cls := .type "zip", data := .fields #[.none, .bool false, .bool false, .ref h1.objs.size, .ref (zzT h1 (zIts s.heap.objs.size ts.length)).objs.size] } := Heap.get?_push_size _ rfl
  have gO : (zzZ h1 (zIts s.heap.objs.size ts.length)).get? (zzT h1 (zIts s.heap.objs.size ts.length)).objs.size = some { cls := .type "tuple", data := .seq ((zIts s.heap.objs.size ts.length).map fun _ => Value.none).toArray } := Heap.get?_push_of_some _ (Heap.get?_push_size _ rfl)
  have gT : (zzZ h1 (zIts s.heap.objs.size ts.length)).get? h1.objs.size = some { cls := .type "tuple", data := .seq (zIts s.heap.objs.size ts.length).toArray } := Heap.get?_push_of_some _ (Heap.get?_push_of_some _ (Heap.get?_push_size _ rfl))
  rw [z2, z1, hs] at gZ
  rw [z1] at gO
  rw [hs] at gT
  have up : ∀ c o, h1.get? c = some o → (zzZ h1 (zIts s.heap.objs.size ts.length)).get? c = some o := fun c o e => Heap.get?_push_of_some _ (Heap.get?_push_of_some _ (Heap.get?_push_of_some _ e))
  have fin := k2 (zzZ h1 (zIts s.heap.objs.size ts.length)) ⟨⟨_, _, gZ, .inl rfl⟩, gT, ⟨_, by rw [List.length_map, ll], gO⟩, fun j hj t e => (hi j hj t e).at fun o z => up _ o z⟩ gZ (fun c o e => up c o (hp c o e))
  rw [← z2] at fin
  exact fin
section
variable {prog : Program} {w : World} {A : Around} {E : Value → Shared → Prop} {s : Shared}
theorem call_zipN {ts : List Addr} {Q : Value → Shared → Prop} (h0 : 0 < ts.length) (hl : ts.length ≤ 1001) (ht : ∀ t ∈ ts, ∃ its, s.heap.IsTuple t its)
    (h : ∀ h5, ZSt s.heap.objs.size ts 0 h5 → (∀ c o, s.heap.get? c = some o → h5.get? c = some o) → Q (.ref (s.heap.objs.size + ts.length + 2)) { s with heap := h5 }) :
    wpAny (model prog w) A (call (.type "zip") (ts.map Value.ref)) Q E s :=
  callType_new F.called_zip (by decide) (zz_typeCall _) (zz_newCall _ (by rw [List.length_map]; exact h0)) (fun ob => zz_init ob _) F.entry_zip_new (zz_new ts hl) ⟨ht, fun h5 st gz k => ⟨⟨_, gz, rfl⟩, h h5 st k⟩⟩
end
end U
set_option maxHeartbeats 4000000
/-! Z1: zip over tuples: a turn. -/
namespace U
open PySem PySem.Spec PyProof.Rows L2
section
variable {prog : Program} {w : World} {A : Around} {E : Value → Shared → Prop} {s : Shared} {n0 i : Nat} {ts : List Addr}
theorem zIts_len (n0 m : Nat) : (zIts n0 m).length = m := by unfold zIts; rw [List.length_map, List.length_range]
theorem ne_a {a b : Nat} (h : a < b ∨ b < a) : a ≠ b := fun e => by omega
/-- the iterators below k have gone on -/
structure ZMid (n0 : Nat) (ts : List Addr) (i k : Nat) (h0 h : Heap) : Prop where
  lo : ∀ j, j < k → ∀ t, ts[j]? = some t → h.IsTupleIter (n0 + j) t (i + 1)
  hi : ∀ j, k ≤ j → ∀ t, ts[j]? = some t → h.IsTupleIter (n0 + j) t i
  sz : h.objs.size = h0.objs.size
  TI : h.get? (n0 + ts.length) = some { cls := .type "tuple", data := .seq (zIts n0 ts.length).toArray }
  up : ∀ (c : Nat) o, (c < n0 ∨ n0 + ts.length + 3 ≤ c) → h0.get? c = some o → h.get? c = some o
theorem ZMid.draw {h0 : Heap} {k : Nat} {t : Addr} {its : Array Value} {x : Value} {Q : Value → Shared → Prop} (M : ZMid n0 ts i k h0 s.heap) (ht : ts[k]? = some t) (hlt : t < n0) (hT : h0.IsTuple t its) (hx : its[i]? = some x)
    (hQ : ∀ h', ZMid n0 ts i (k + 1) h0 h' → Heap.SameBut (n0 + k) s.heap h' → Q x { s with heap := h' }) : wpAny (model prog w) A (Builtin.SmallTypes.nextOf (.ref (n0 + k))) Q E s := by
  have hk : k < ts.length := (List.getElem?_eq_some_iff.mp ht).1
  refine wpAny_nextOf_tuple_item (M.hi k (Nat.le_refl _) t ht) (hT.at fun o e => M.up _ o (.inl hlt) e) hx fun h' hi' hs => hQ h' ⟨fun j hj t' e => ?_, fun j hj t' e => ?_, hs.1.trans M.sz, ?_, fun c o hc e => ?_⟩ hs
  · rcases Nat.lt_succ_iff_lt_or_eq.mp hj with q | rfl
    · exact (M.lo j q t' e).at fun o z => hs.extBut _ _ (ne_a (by omega)) z
    · rw [ht] at e; cases e; exact hi'
  · exact (M.hi j (by omega) t' e).at fun o z => hs.extBut _ _ (ne_a (by omega)) z
  · exact hs.extBut _ _ (ne_a (by omega)) M.TI
  · exact hs.extBut _ _ (ne_a (by omega)) (M.up c o hc e)
theorem ZMid.over {h0 h h' : Heap} {k a : Nat} (M : ZMid n0 ts i k h0 h) (hs : Heap.SameBut a h h') (ha : (a : Nat) = n0 + ts.length + 1 ∨ (a : Nat) = n0 + ts.length + 2) : ZMid n0 ts i k h0 h' := by
  have fine : ∀ j t, ts[j]? = some t → ∀ q, h.IsTupleIter (n0 + j) t q → h'.IsTupleIter (n0 + j) t q := fun j t e q x => x.at fun o z => hs.extBut _ _ (ne_a (by have := (List.getElem?_eq_some_iff.mp e).1; omega)) z
  exact ⟨fun j hj t e => fine j t e _ (M.lo j hj t e), fun j hj t e => fine j t e _ (M.hi j hj t e), hs.1.trans M.sz, hs.extBut _ _ (ne_a (by omega)) M.TI, fun c o hc e => hs.extBut _ _ (ne_a (by omega)) (M.up c o hc e)⟩
theorem zz_free {m : Nat} {f0 : Value} {b : Bool} {Q : Bool → Shared → Prop} (hz : ZObj n0 m f0 b s.heap) (hf : f0 = .none ∨ ∃ a, f0 = rawInt a)
    (hQ : ∀ r b h1, ZObj n0 m f0 b h1 → Heap.SameBut (n0 + m + 2) s.heap h1 → Q r { s with heap := h1 }) : wpAny (model prog w) A (Builtin.SmallTypes.ownedTupleIsFree (.ref (n0 + m + 2))) Q E s := by
  unfold Builtin.SmallTypes.ownedTupleIsFree
  refine wpAny_bind (wpAny_field hz rfl (x := f0) rfl ?_)
  rcases hf with rfl | ⟨a, rfl⟩
  · exact wpAny_pure (hQ true b s.heap hz ⟨rfl, fun _ _ => rfl⟩)
  · show wpAny _ _ (loadIfAlive _ >>= _) _ _ _
    refine wpAny_bind (show wpAny (model prog w) A (loadIfAlive _) _ _ _ from fun Γ p hΓ => ?_)
    show Sem.wp _ Γ (Sem.loadIfAlive _ _) _ _ p s
    rw [Sem.wp_loadIfAlive]
    show wpAny (model prog w) A (if (s.heap.get? (Int.toNat a)).isNone = true then _ else _) _ _ _
    cases e : (s.heap.get? (Int.toNat a)).isNone with
    | true => exact wpAny_pure (hQ true b s.heap hz ⟨rfl, fun _ _ => rfl⟩)
    | false =>
      simp only [Bool.false_eq_true, if_false]
      refine wpAny_bind (wpAny_field hz rfl (x := .bool b) rfl ?_)
      cases b with
      | true => exact wpAny_pure (hQ false true s.heap hz ⟨rfl, fun _ _ => rfl⟩)
      | false => exact wpAny_bind (wpAny_setField_rec hz (by simp) fun h1 z1 s1 => wpAny_pure (hQ false true h1 z1 s1))
theorem zz_fin {h0 h3 h' : Heap} {xs : List Value} {f0 : Value} {b : Bool} (M : ZMid n0 ts i ts.length h0 h3) (o3 : ∃ olds : List Value, olds.length = ts.length ∧ h3.get? (n0 + ts.length + 1) = some { cls := .type "tuple", data := .seq olds.toArray })
    (sb : ∀ c, c ≠ n0 + ts.length + 2 → h'.get? c = (h3.push { cls := .type "tuple", data := .seq xs.toArray }).get? c) (hsz : h'.objs.size = h3.objs.size + 1) (z8 : ZObj n0 ts.length f0 b h') (hf : f0 = .none ∨ ∃ a, f0 = rawInt a) (hz0 : n0 + ts.length + 2 < h0.objs.size) :
    ZSt n0 ts (i + 1) h' ∧ h'.get? h0.objs.size = some { cls := .type "tuple", data := .seq xs.toArray } ∧ h'.objs.size = h0.objs.size + 1 ∧ ∀ (c : Nat) o, (c < n0 ∨ n0 + ts.length + 3 ≤ c) → h0.get? c = some o → h'.get? c = some o := by
  have up : ∀ (c : Nat) o, c ≠ n0 + ts.length + 2 → h3.get? c = some o → h'.get? c = some o := fun c o hc e => (sb c hc).trans (Heap.get?_push_of_some _ e)
  obtain ⟨olds, ol, e3⟩ := o3
  refine ⟨⟨⟨f0, b, z8, hf⟩, up _ _ (ne_a (by omega)) M.TI, ⟨olds, ol, up _ _ (ne_a (by omega)) e3⟩, fun j hj t e => (M.lo j hj t e).at fun o z => up _ _ (ne_a (by omega)) z⟩, ?_, by rw [hsz, M.sz], fun c o hc e => up c o (ne_a (by omega)) (M.up c o hc e)⟩
  rw [sb _ (ne_a (by omega)), ← M.sz]
  exact Heap.get?_push_size _ rfl
theorem zz_next_item {xs : List Value} {Q : Value → Shared → Prop} (h0 : 0 < ts.length) (h4' : ts.length ≤ 1001) (st : ZSt n0 ts i s.heap) (hlt : ∀ t ∈ ts, t < n0) (hl : xs.length = ts.length)
    (hx : ∀ (j : Nat) (t : Addr), ts[j]? = some t → ∃ (its : Array Value) (x : Value), s.heap.IsTuple t its ∧ its[i]? = some x ∧ xs[j]? = some x)
    (hQ : ∀ h', ZSt n0 ts (i + 1) h' → h'.get? s.heap.objs.size = some { cls := .type "tuple", data := .seq xs.toArray } → h'.objs.size = s.heap.objs.size + 1 →
      (∀ (c : Nat) o, (c < n0 ∨ n0 + ts.length + 3 ≤ c) → s.heap.get? c = some o → h'.get? c = some o) → Q (.ref s.heap.objs.size) { s with heap := h' }) :
    wpAny (model prog w) A (Builtin.«zip.__next__» ⟨[.ref (n0 + ts.length + 2)], []⟩) (fun fin s' => ∃ v, fin = .done (.ret v) ∧ Q v s') E s := by
  obtain ⟨⟨f0, b, hz, hf⟩, hTI, ⟨olds, hol, hTO⟩, hI⟩ := st
  have M0 : ZMid n0 ts i 0 s.heap s.heap := ⟨fun j hj => absurd hj (Nat.not_lt_zero _), fun j _ t e => hI j (List.getElem?_eq_some_iff.mp e).1 t e, rfl, hTI, fun _ _ _ e => e⟩
  show wpAny _ _ (field (.ref (n0 + ts.length + 2)) 2 >>= _) _ _ _
  refine wpAny_bind (wpAny_field hz rfl (x := .bool false) rfl ?_)
  show wpAny _ _ (field (.ref (n0 + ts.length + 2)) 3 >>= _) _ _ _
  refine wpAny_bind (wpAny_field hz rfl (x := .ref (n0 + ts.length)) rfl ?_)
  refine wpAny_bind (wpAny_seqItems hTI rfl ?_)
  have hne : (zIts n0 ts.length).toArray.isEmpty = false := by
    cases e : ts.length with
    | zero => omega
    | succ m => rw [zIts_succ] <;> simp
  simp only [hne, Bool.false_eq_true, if_false]
  have hzl : n0 + ts.length + 2 < s.heap.objs.size := Heap.lt_size hz
  refine wpAny_bind (zz_free hz hf fun r b1 h1 hz1 hs1 => ?_)
  have M1 : ZMid n0 ts i 0 s.heap h1 := M0.over hs1 (.inr rfl)
  have hTO1 : h1.get? (n0 + ts.length + 1) = some { cls := .type "tuple", data := .seq olds.toArray } := hs1.extBut _ _ (ne_a (by omega)) hTO
  have hget : ∀ (k : Nat), k < ts.length → ∃ t its x, ts[k]? = some t ∧ t < n0 ∧ s.heap.IsTuple t its ∧ its[i]? = some x ∧ xs[k]? = some x := fun k hk => by
    have e := List.getElem?_eq_getElem hk
    obtain ⟨its, x, a1, a2, a3⟩ := hx k _ e
    exact ⟨_, its, x, e, hlt _ (List.getElem_mem hk), a1, a2, a3⟩
  cases r with
  | true =>
    simp only [if_true]
    refine wpAny_bind (wpAny_rule ?_)
    refine wpAny_bind (wpAny_field hz1 rfl (x := .ref (n0 + ts.length + 1)) rfl ?_)
    refine wpAny_bind (wpAny_setField_rec hz1 (by simp) fun h2 hz2 hs2 => ?_)
    replace hz2 : ZObj n0 ts.length .ellipsis b1 h2 := hz2
    replace hs2 : Heap.SameBut (n0 + ts.length + 2) h1 h2 := hs2
    refine wpAny_bind (wpAny_forIn_list _ (fun rest b s' => ∃ k h3 olds, k ≤ ts.length ∧ rest = (zIts n0 ts.length).zipIdx.drop k ∧ b = (none, ()) ∧ s' = { s with heap := h3 } ∧ ZMid n0 ts i k s.heap h3 ∧ ZObj n0 ts.length .ellipsis b1 h3 ∧ olds.length = ts.length ∧
      (∀ j, j < k → olds[j]? = xs[j]?) ∧ h3.get? (n0 + ts.length + 1) = some { cls := .type "tuple", data := .seq olds.toArray }) _ ?_ ?_ _ _
      ⟨0, h2, olds, Nat.zero_le _, rfl, rfl, rfl, M1.over hs2 (.inr rfl), hz2, hol, fun j hj => absurd hj (Nat.not_lt_zero _), hs2.extBut _ _ (ne_a (by omega)) hTO1⟩)
    · rintro ⟨u, j⟩ rest b s' ⟨k, h3, olds, hk, er, rfl, rfl, M, z3, ol, oe, o3⟩
      have hk' : k < ts.length := by
        rcases Nat.lt_or_ge k ts.length with q | q
        · exact q
        · rw [List.drop_eq_nil_of_le (by rw [List.length_zipIdx, zIts_len]; exact q)] at er; cases er
      rw [List.drop_eq_getElem_cons (by rw [List.length_zipIdx, zIts_len]; exact hk')] at er
      have eh := (List.cons.inj er).1
      have et := (List.cons.inj er).2
      rw [List.getElem_zipIdx] at eh
      have e1 : u = Value.ref (n0 + k) := by
        have := congrArg Prod.fst eh
        simpa [zIts] using this
      have e2 : j = k := by simpa using congrArg Prod.snd eh
      subst e1 e2
      obtain ⟨t, its, x, ht, htl, hT, hi, hxj⟩ := hget j hk'
      refine wpAny_bind (wpAny_onRaise ?_)
      show wpAny _ _ (Builtin.SmallTypes.nextOf (.ref (n0 + j)) >>= _) _ _ _
      refine wpAny_bind (M.draw (s := { s with heap := h3 }) ht htl hT hi fun h4 M4 hs4 => wpAny_pure ?_)
      have o4 : h4.get? (n0 + ts.length + 1) = some { cls := .type "tuple", data := .seq olds.toArray } := hs4.extBut _ _ (ne_a (by omega)) o3
      have z4 : ZObj n0 ts.length .ellipsis b1 h4 := hs4.extBut _ _ (ne_a (by omega)) z3
      refine wpAny_bind (wpAny_seqItems o4 rfl ?_)
      refine wpAny_bind (wpAny_updateSeq o4 rfl ?_ (by show olds.toArray.size ≤ sizeLine; rw [List.size_toArray, ol]; exact Nat.le_trans h4' (by decide)) (by show (olds.toArray.setIfInBounds j x).size ≤ sizeLine + 1; rw [Array.size_setIfInBounds, List.size_toArray, ol]; exact Nat.le_trans h4' (by decide)))
      refine wpAny_bind (wpAny_letGo (wpAny_pure ?_))
      have o5 : (h4.update (n0 + ts.length + 1) (Obj.mapSeq fun a => a.setIfInBounds j x)).get? (n0 + ts.length + 1) = some { cls := .type "tuple", data := .seq (olds.set j x).toArray } := by
        rw [Heap.get?_update_self _ o4 rfl]
        simp [Obj.mapSeq]
      have hs5 : Heap.SameBut (n0 + ts.length + 1) h4 (h4.update (n0 + ts.length + 1) (Obj.mapSeq fun a => a.setIfInBounds j x)) := Heap.SameBut.update ..
      refine ⟨j + 1, _, olds.set j x, hk', et, rfl, rfl, M4.over hs5 (.inl rfl), hs5.extBut _ _ (ne_a (by omega)) z4, by rw [List.length_set]; exact ol, fun q hq => ?_, o5⟩
      rcases Nat.lt_succ_iff_lt_or_eq.mp hq with g | rfl
      · rw [List.getElem?_set_ne (by omega)]; exact oe q g
      · rw [List.getElem?_set_self (by omega), hxj]
    · rintro b s' ⟨k, h3, olds, hk, er, rfl, rfl, M, z3, ol, oe, o3⟩
      have hk2 : k = ts.length := by
        rcases Nat.lt_or_ge k ts.length with q | q
        · rw [List.drop_eq_getElem_cons (by rw [List.length_zipIdx, zIts_len]; exact q)] at er; cases er
        · omega
      subst hk2
      have eo : olds = xs := by
        refine List.ext_getElem? fun j => ?_
        rcases Nat.lt_or_ge j ts.length with q | q
        · exact oe j q
        · rw [List.getElem?_eq_none (by omega), List.getElem?_eq_none (by omega)]
      subst eo
      show wpAny _ _ (seqItems? (.ref (n0 + ts.length + 1)) >>= _) _ _ _
      refine wpAny_bind (wpAny_seqItems o3 rfl ?_)
      refine wpAny_bind (wpAny_newTuple ?_ (by show olds.length ≤ sizeLine; rw [ol]; exact Nat.le_trans h4' (by decide)))
      show wpAny _ _ (Builtin.SmallTypes.ownedTupleHandOut (.ref (n0 + ts.length + 2)) (.ref h3.objs.size) >>= _) _ _ { s with heap := h3.push { cls := .type "tuple", data := .seq olds.toArray } }
      refine wpAny_bind ?_
      unfold Builtin.SmallTypes.ownedTupleHandOut
      have z6 : ZObj n0 ts.length .ellipsis b1 (h3.push { cls := .type "tuple", data := .seq olds.toArray }) := Heap.get?_push_of_some _ z3
      refine wpAny_bind (wpAny_setField_rec z6 (by simp) fun h7 z7 s7 => ?_)
      replace z7 : ZObj n0 ts.length (rawInt h3.objs.size) b1 h7 := z7
      refine wpAny_setField_rec z7 (by simp) fun h8 z8 s8 => ?_
      replace z8 : ZObj n0 ts.length (rawInt h3.objs.size) false h8 := z8
      refine wpAny_pure ⟨_, rfl, ?_⟩
      have fin := zz_fin (h' := h8) (xs := olds) M ⟨olds, ol, o3⟩ (fun c hc => (s8.2 c hc).trans (s7.2 c hc)) (by rw [s8.1, s7.1]; exact Heap.size_push ..) z8 (.inr ⟨_, rfl⟩) hzl
      show Q (.ref h3.objs.size) _
      rw [M.sz]
      exact hQ h8 fin.1 fin.2.1 fin.2.2.1 fin.2.2.2
  | false =>
    simp only [Bool.false_eq_true, if_false]
    refine wpAny_bind (wpAny_forIn_array' _ (fun rest b s' => ∃ k h3, k ≤ ts.length ∧ rest = (zIts n0 ts.length).drop k ∧ b = (none, (xs.take k).toArray) ∧ s' = { s with heap := h3 } ∧ ZMid n0 ts i k s.heap h3 ∧ ZObj n0 ts.length f0 b1 h3 ∧
      h3.get? (n0 + ts.length + 1) = some { cls := .type "tuple", data := .seq olds.toArray }) _ ?_ ?_ _ _
      ⟨0, h1, Nat.zero_le _, rfl, rfl, rfl, M1, hz1, hTO1⟩)
    · rintro u rest b s' ⟨k, h3, hk, er, rfl, rfl, M, z3, o3⟩
      have hk' : k < ts.length := by
        rcases Nat.lt_or_ge k ts.length with q | q
        · exact q
        · rw [List.drop_eq_nil_of_le (by rw [zIts_len]; exact q)] at er; cases er
      rw [List.drop_eq_getElem_cons (by rw [zIts_len]; exact hk')] at er
      have eh := (List.cons.inj er).1
      have et := (List.cons.inj er).2
      have e1 : u = Value.ref (n0 + k) := by rw [eh]; simp [zIts]
      subst e1
      obtain ⟨t, its, x, ht, htl, hT, hi, hxj⟩ := hget k hk'
      refine wpAny_bind (wpAny_holding ?_)
      show wpAny _ _ (Builtin.SmallTypes.nextOf (.ref (n0 + k)) >>= _) _ _ _
      refine wpAny_bind (M.draw (s := { s with heap := h3 }) ht htl hT hi fun h4 M4 hs4 => wpAny_pure (wpAny_pure ?_))
      refine ⟨k + 1, _, hk', et, ?_, rfl, M4, hs4.extBut _ _ (ne_a (by omega)) z3, hs4.extBut _ _ (ne_a (by omega)) o3⟩
      show ((none : Option Fin), (xs.take k).toArray.push x) = _
      rw [List.take_add_one, hxj]
      simp
    · rintro b s' ⟨k, h3, hk, er, rfl, rfl, M, z3, o3⟩
      have hk2 : k = ts.length := by
        rcases Nat.lt_or_ge k ts.length with q | q
        · rw [List.drop_eq_getElem_cons (by rw [zIts_len]; exact q)] at er; cases er
        · omega
      subst hk2
      rw [← hl, List.take_length]
      show wpAny _ _ (newTuple xs >>= _) _ _ _
      refine wpAny_bind (wpAny_newTuple ?_ (by show xs.length ≤ sizeLine; rw [hl]; exact Nat.le_trans h4' (by decide)))
      refine wpAny_pure ⟨_, rfl, ?_⟩
      have fin := zz_fin (h' := h3.push { cls := .type "tuple", data := .seq xs.toArray }) (xs := xs) M ⟨olds, hol, o3⟩ (fun c hc => rfl) (Heap.size_push ..) (Heap.get?_push_of_some _ z3) hf hzl
      show Q (.ref h3.objs.size) _
      rw [M.sz]
      exact hQ _ fin.1 fin.2.1 fin.2.2.1 fin.2.2.2
end
end U
set_option maxHeartbeats 4000000
/-! Z2: zip over tuples: the end; the iterator. -/
namespace U
open PySem PySem.Spec PyProof.Rows L2
section
variable {prog : Program} {w : World} {A : Around} {E : Value → Shared → Prop} {s : Shared} {n0 i : Nat} {ts : List Addr}
theorem zz_next_end {t0 : Nat} {its : Array Value} {Q : Fin → Shared → Prop} (hh : A.handled = none) (h0 : ts[0]? = some t0) (st : ZSt n0 ts i s.heap) (hlt : t0 < n0) (hT : s.heap.IsTuple t0 its) (hx : its[i]? = none)
    (hE : ∀ h' e, (∀ (c : Nat) o, (c < n0 ∨ n0 + ts.length + 3 ≤ c) → s.heap.get? c = some o → h'.get? c = some o) → (∃ o, h'.get? e = some o ∧ o.cls = .type "StopIteration") → E (.ref e) { s with heap := h' }) :
    wpAny (model prog w) A (Builtin.«zip.__next__» ⟨[.ref (n0 + ts.length + 2)], []⟩) Q E s := by
  obtain ⟨⟨f0, b, hz, hf⟩, hTI, ⟨olds, hol, hTO⟩, hI⟩ := st
  have hm : 0 < ts.length := (List.getElem?_eq_some_iff.mp h0).1
  obtain ⟨rest, hr⟩ : ∃ rest, zIts n0 ts.length = Value.ref (n0 + 0) :: rest := by
    cases e : ts.length with
    | zero => omega
    | succ m => unfold zIts; rw [List.range_succ_eq_map]; exact ⟨_, rfl⟩
  show wpAny _ _ (field (.ref (n0 + ts.length + 2)) 2 >>= _) _ _ _
  refine wpAny_bind (wpAny_field hz rfl (x := .bool false) rfl ?_)
  show wpAny _ _ (field (.ref (n0 + ts.length + 2)) 3 >>= _) _ _ _
  refine wpAny_bind (wpAny_field hz rfl (x := .ref (n0 + ts.length)) rfl ?_)
  refine wpAny_bind (wpAny_seqItems hTI rfl ?_)
  have hne : (zIts n0 ts.length).toArray.isEmpty = false := by rw [hr] <;> rfl
  simp only [hne, Bool.false_eq_true, if_false]
  have hzl : n0 + ts.length + 2 < s.heap.objs.size := Heap.lt_size hz
  refine wpAny_bind (zz_free hz hf fun r b1 h1 hz1 hs1 => ?_)
  have I1 : h1.IsTupleIter (n0 + 0) t0 i := (hI 0 hm t0 h0).at fun o z => hs1.extBut _ _ (ne_a (by omega)) z
  have T1 : h1.IsTuple t0 its := hT.at fun o z => hs1.extBut _ _ (ne_a (by omega)) z
  cases r with
  | true =>
    simp only [if_true]
    refine wpAny_bind (wpAny_rule ?_)
    refine wpAny_bind (wpAny_field hz1 rfl (x := .ref (n0 + ts.length + 1)) rfl ?_)
    refine wpAny_bind (wpAny_setField_rec hz1 (by simp) fun h2 hz2 hs2 => ?_)
    replace hz2 : ZObj n0 ts.length .ellipsis b1 h2 := hz2
    replace hs2 : Heap.SameBut (n0 + ts.length + 2) h1 h2 := hs2
    simp only [hr, List.zipIdx_cons, List.forIn_cons]
    refine wpAny_bind (wpAny_bind (wpAny_bind (wpAny_onRaise ?_)))
    show wpAny _ _ (Builtin.SmallTypes.nextOf (.ref (n0 + 0)) >>= _) _ _ _
    refine wpAny_bind (wpAny_nextOf_tuple_end (s := { s with heap := h2 }) hh (I1.at fun o z => hs2.extBut _ _ (ne_a (by omega)) z) (T1.at fun o z => hs2.extBut _ _ (ne_a (by omega)) z) hx fun h3 e hs3 he => ?_)
    obtain ⟨oe, hoe, hce⟩ := he
    have hz3 : ZObj n0 ts.length .ellipsis b1 h3 := hs3 _ _ (ne_a (by omega)) hz2
    have hez : e ≠ n0 + ts.length + 2 := fun x => by subst x; rw [hz3] at hoe; cases hoe; simp at hce
    refine wpAny_setField_rec (s := { s with heap := h3 }) hz3 (by simp) fun h4 _ hs4 => hE h4 e (fun c o hc z => ?_) ⟨oe, hs4.extBut _ _ hez hoe, hce⟩
    exact hs4.extBut _ _ (ne_a (by omega)) (hs3 _ _ (ne_a (by omega)) (hs2.extBut _ _ (ne_a (by omega)) (hs1.extBut _ _ (ne_a (by omega)) z)))
  | false =>
    simp only [Bool.false_eq_true, if_false]
    simp only [hr, ← Array.forIn_toList, List.forIn_cons]
    refine wpAny_bind (wpAny_bind (wpAny_bind (wpAny_holding ?_)))
    show wpAny _ _ (Builtin.SmallTypes.nextOf (.ref (n0 + 0)) >>= _) _ _ _
    refine wpAny_bind (wpAny_nextOf_tuple_end (s := { s with heap := h1 }) hh I1 T1 hx fun h3 e hs3 he => hE h3 e (fun c o hc z => ?_) he)
    exact hs3 _ _ (ne_a (by omega)) (hs1.extBut _ _ (ne_a (by omega)) z)
theorem pyNext_zz_item {xs : List Value} {Q : Option Value → Shared → Prop} (h0 : 0 < ts.length) (h4 : ts.length ≤ 1001) (st : ZSt n0 ts i s.heap) (hlt : ∀ t ∈ ts, t < n0) (hl : xs.length = ts.length)
    (hx : ∀ (j : Nat) (t : Addr), ts[j]? = some t → ∃ (its : Array Value) (x : Value), s.heap.IsTuple t its ∧ its[i]? = some x ∧ xs[j]? = some x)
    (hQ : ∀ h', ZSt n0 ts (i + 1) h' → h'.get? s.heap.objs.size = some { cls := .type "tuple", data := .seq xs.toArray } → h'.objs.size = s.heap.objs.size + 1 →
      (∀ (c : Nat) o, (c < n0 ∨ n0 + ts.length + 3 ≤ c) → s.heap.get? c = some o → h'.get? c = some o) → Q (some (.ref s.heap.objs.size)) { s with heap := h' }) :
    wpAny (model prog w) A (pyNext (.ref (n0 + ts.length + 2))) Q E s := by
  have hT : s.TypeIs (.ref (n0 + ts.length + 2)) "zip" := by obtain ⟨⟨f0, b, hz, _⟩, _⟩ := st; exact ⟨_, hz, rfl⟩
  unfold pyNext
  exact wpAny_bind (wpAny_attempt (wpAny_callSpecial?_slot (name := Str.ofString "__next__") hT F.slot_zip_next
    (wpAny_call_entry F.slot_zip_next hT F.entry_zip_next (zz_next_item h0 h4 st hlt hl hx fun h' a1 a2 a3 a4 => wpAny_pure (hQ h' a1 a2 a3 a4)) (F.args_zip_next_1 _))))
theorem pyNext_zz_end {t0 : Nat} {its : Array Value} {Q : Option Value → Shared → Prop} (hh : A.handled = none) (h0 : ts[0]? = some t0) (st : ZSt n0 ts i s.heap) (hlt : t0 < n0) (hT : s.heap.IsTuple t0 its) (hx : its[i]? = none)
    (hQ : ∀ h', (∀ (c : Nat) o, (c < n0 ∨ n0 + ts.length + 3 ≤ c) → s.heap.get? c = some o → h'.get? c = some o) → Q none { s with heap := h' }) : wpAny (model prog w) A (pyNext (.ref (n0 + ts.length + 2))) Q E s := by
  have hT' : s.TypeIs (.ref (n0 + ts.length + 2)) "zip" := by obtain ⟨⟨f0, b, hz, _⟩, _⟩ := st; exact ⟨_, hz, rfl⟩
  unfold pyNext
  refine wpAny_bind (wpAny_attempt (wpAny_callSpecial?_slot (name := Str.ofString "__next__") hT' F.slot_zip_next
    (wpAny_call_entry F.slot_zip_next hT' F.entry_zip_next (zz_next_end hh h0 st hlt hT hx fun h' e hk he => ?_) (F.args_zip_next_1 _))))
  obtain ⟨o, ho, hc⟩ := he
  refine wpAny_bind (wpAny_isInstance (T := "StopIteration") (b := true) ⟨o, ho, hc⟩ isSubtype_stop ?_)
  exact wpAny_pure (hQ _ hk)
theorem pyIter_zz {Q : Value → Shared → Prop} (st : ZSt n0 ts i s.heap) (h : Q (.ref (n0 + ts.length + 2)) s) : wpAny (model prog w) A (pyIter (.ref (n0 + ts.length + 2))) Q E s := by
  have hT : s.TypeIs (.ref (n0 + ts.length + 2)) "zip" := by obtain ⟨⟨f0, b, hz, _⟩, _⟩ := st; exact ⟨_, hz, rfl⟩
  refine wpAny_pyIter_slot hT F.slot_zip_iter (wpAny_call_entry F.slot_zip_iter hT F.entry_zip_iter ?_ (F.args_zip_iter_1 _))
  show wpAny _ _ (ret (.ref (n0 + ts.length + 2))) _ _ s
  exact wpAny_pure ⟨_, rfl, "zip", _, hT, F.slot_zip_next.lookup, h⟩
end
end U
set_option maxHeartbeats 4000000
/-! Z3: zip over tuples: the turn. -/
namespace U
open PySem PySem.Spec PyProof.Rows L2
theorem vals_ex : ∀ (xs : List V) (P : Nat → Value → Prop), (∀ j x, xs[j]? = some x → ∃ u, RelV x u ∧ P j u) → ∃ us, Vals xs us ∧ ∀ (j : Nat), j < xs.length → ∃ u, us[j]? = some u ∧ P j u
  | [], P, _ => ⟨[], .nil, fun j hj => absurd hj (Nat.not_lt_zero _)⟩
  | x :: xs, P, h => by
    obtain ⟨u, r, p⟩ := h 0 x rfl
    obtain ⟨us, rs, q⟩ := vals_ex xs (fun j => P (j + 1)) fun j y e => h (j + 1) y e
    refine ⟨u :: us, .cons r rs, fun j hj => ?_⟩
    cases j with
    | zero => exact ⟨u, rfl, p⟩
    | succ j => exact q j (Nat.lt_of_succ_lt_succ hj)
/-- the tuples ts, the items of each turn in a new tuple -/
def ItzN (K : PySem.W.Frag) (ts : List Addr) : It where
  go := fun i H => ∃ xs : List V, xs.length = ts.length ∧ ∀ (j : Nat) t, ts[j]? = some t → ∃ (vs : List V) (x : V), SqT K H t vs ∧ vs[i]? = some x ∧ xs[j]? = some x
  yld := fun i H v H' => ∃ T xs, v = .ref T ∧ H T = none ∧ H' = upd H T (.tup xs) ∧ xs.length = ts.length ∧ ∀ (j : Nat) t vs, ts[j]? = some t → SqT K H t vs → vs[i]? = xs[j]?
  stop := fun i H => ∃ t vs, ts[0]? = some t ∧ SqT K H t vs ∧ vs.length ≤ i
def zFp (n0 m : Nat) : List Addr := (List.range (m + 3)).map fun j => n0 + j
theorem zFp_mem {n0 m c : Nat} : (c ∈ zFp n0 m) ↔ n0 ≤ c ∧ c < n0 + m + 3 := by
  unfold zFp
  rw [List.mem_map]
  constructor
  · rintro ⟨j, hj, rfl⟩
    rw [List.mem_range] at hj
    omega
  · rintro ⟨h1, h2⟩
    exact ⟨c - n0, by rw [List.mem_range]; omega, by omega⟩
theorem zFp_not {n0 m c : Nat} (h : c ∉ zFp n0 m) : c < n0 ∨ n0 + m + 3 ≤ c := by
  rw [zFp_mem] at h; omega
theorem zSt_at {n0 i : Nat} {ts : List Addr} {h : Heap} (st : ZSt n0 ts i h) {c : Nat} (hc : n0 ≤ c ∧ c < n0 + ts.length + 3) : ∃ o, h.get? c = some o ∧ ∀ v, o.data ≠ .cell v := by
  obtain ⟨⟨f0, b, hz, hf⟩, hTI, ⟨olds, hol, hTO⟩, hI⟩ := st
  by_cases e1 : c = n0 + ts.length + 2
  · subst e1; exact ⟨_, hz, fun v q => nomatch q⟩
  · by_cases e2 : c = n0 + ts.length + 1
    · subst e2; exact ⟨_, hTO, fun v q => nomatch q⟩
    · by_cases e3 : c = n0 + ts.length
      · subst e3; exact ⟨_, hTI, fun v q => nomatch q⟩
      · have hlt : c - n0 < ts.length := by omega
        obtain ⟨o, ho, _, hd⟩ := hI (c - n0) hlt _ (List.getElem?_eq_getElem hlt)
        have e : n0 + (c - n0) = c := by omega
        rw [e] at ho
        exact ⟨o, ho, fun v q => by rw [hd] at q; cases q⟩
theorem turn_zz {P : Program} {w : World} {K : PySem.W.Frag} {x : Str} {tpos : Pos} {n0 : Nat} {ts : List Addr} (h0 : 0 < ts.length) (h4 : ts.length ≤ 1001) (hlt : ∀ t ∈ ts, t < n0) :
    Turn P w K (.Name x tpos) (ItzN K ts) (zFp n0 ts.length) (n0 + ts.length + 2) (fun i h => ZSt n0 ts i h) where
  mem := zFp_mem.mpr (by omega)
  obj := fun i h st c hc => zSt_at st (zFp_mem.mp hc)
  keep := fun i h h' st k => by
    obtain ⟨⟨f0, b, hz, hf⟩, hTI, ⟨olds, hol, hTO⟩, hI⟩ := st
    exact ⟨⟨f0, b, k _ (zFp_mem.mpr (by omega)) _ hz, hf⟩, k _ (zFp_mem.mpr (by omega)) _ hTI, ⟨olds, hol, k _ (zFp_mem.mpr (by omega)) _ hTO⟩, fun j hj t e => (hI j hj t e).at fun o z => k _ (zFp_mem.mpr (by omega)) o z⟩
  item := by
    intro X hP hw hK hc i pins s σ H E I hf st hg
    subst hP hw hK
    obtain ⟨xs, hxl, hx⟩ := hg
    obtain ⟨us, rv, hu⟩ := vals_ex xs (fun j u => ∀ t, ts[j]? = some t → ∃ its : Array Value, s.heap.IsTuple t its ∧ its[i]? = some u) (fun j y e => by
      have hj : j < ts.length := by rw [← hxl]; exact (List.getElem?_eq_some_iff.mp e).1
      obtain ⟨vs, y', hq, hy, e'⟩ := hx j _ (List.getElem?_eq_getElem hj)
      rw [e] at e'; cases e'
      obtain ⟨its, rv, p, hz⟩ := I.tuple hq
      obtain ⟨u, hu, ru⟩ := rv.get hy
      refine ⟨u, ru, fun t et => ?_⟩
      rw [List.getElem?_eq_getElem hj] at et
      cases et
      exact ⟨its.toArray, p, by simpa using hu⟩)
    have hl : us.length = ts.length := by rw [← hxl]; exact rv.length.symm
    refine pyNext_zz_item (xs := us) h0 h4 st hlt hl (fun j t et => ?_) fun h' st' hT hsz hk => ?_
    · obtain ⟨u, eu, q⟩ := hu j (by rw [hxl]; exact (List.getElem?_eq_some_iff.mp et).1)
      obtain ⟨its, a1, a2⟩ := q t et
      exact ⟨its, u, a1, a2, eu⟩
    · refine ⟨_, rfl, wpAny_pure ?_⟩
      have new : ObjOk X.prog X.w (upd H s.heap.objs.size (.tup xs)) h' s.heap.objs.size (.tup xs) :=
        ⟨by show xs.length ≤ sizeLine; rw [hxl]; exact Nat.le_trans h4 (by decide), us, rv, ⟨_, hT, rfl, _, rfl⟩⟩
      have I1 : Inv X pins σ (upd H s.heap.objs.size (.tup xs)) { s with heap := h' } :=
        I.turnedNew (t' := s.toks) (ch := zFp n0 ts.length) (fun c o hb q => hk c o (zFp_not hb) q) hf (Nat.le_refl _) new
      refine ⟨.ref s.heap.objs.size, _, I1, rfl, ⟨_, xs, rfl, I.hok.fresh (Nat.le_refl _), rfl, hxl, fun j t vs et hq => ?_⟩, st', fun c hcm => ?_⟩
      · obtain ⟨vs', y, hq', hy, ey⟩ := hx j t et
        rw [I.tuple_inj hq hq', hy, ey]
      · have hlt' : c < s.heap.objs.size := by
          obtain ⟨o, ho, _⟩ := zSt_at st (zFp_mem.mp hcm)
          exact Heap.lt_size ho
        rw [upd_ne (Nat.ne_of_lt hlt')]
        exact (hf c hcm).1
  done := by
    intro X hP hw hK hc i pins s σ H E I hf st hg
    subst hP hw hK
    obtain ⟨t, vs, et, hq, hle⟩ := hg
    obtain ⟨its, rv, p, hz⟩ := I.tuple hq
    have hl := rv.length
    exact pyNext_zz_end (its := its.toArray) (I.ok.hd hc) et st (hlt t (List.mem_of_getElem? et)) p (by simp; omega) fun h' hk => ⟨rfl, I.turnedL (t' := s.toks) (ch := zFp n0 ts.length) (fun c o hb q => hk c o (zFp_not hb) q) hf⟩
  self := fun A i s Q E st h => pyIter_zz st h
end U
set_option maxHeartbeats 4000000
/-! Z4: zip(*rows). -/
namespace U
open PySem PySem.Spec PyProof.Rows L2
def asT : PyData → Option (List PyData)
  | .tuple xs => some xs
  | _ => none
def colsOf (n : Nat) (rows : List (List PyData)) : List PyData := (List.range n).map fun i => .tuple (rows.map fun r => r.getD i .none)
def zipNL (f : SE) : SA := fun ρ => (f ρ).bind fun d => (itemsOf d).bind fun ds => (mapO asT ds).bind fun rows => match rows with
  | [] => none
  | r :: rs => if (∀ q ∈ rs, q.length = r.length) ∧ rs.length ≤ 1000 then some (colsOf r.length (r :: rs)) else none
theorem mapO_asT : ∀ {ds : List PyData} {rows : List (List PyData)}, mapO asT ds = some rows → ds = rows.map PyData.tuple
  | [], rows, h => by cases h; rfl
  | d :: ds, rows, h => by
    unfold mapO at h
    obtain ⟨r, e1, h⟩ := bnd h
    obtain ⟨rs, e2, h⟩ := mpd h
    subst h
    rw [mapO_asT e2]
    cases d with
    | tuple l => cases e1; rfl
    | _ => cases e1
theorem rows_of {F : Hp} : ∀ {rows : List (List PyData)} {vs : List V}, DaAll F vs (rows.map PyData.tuple) → ∃ ts : List Addr, vs = ts.map V.ref ∧ ts.length = rows.length ∧ ∀ (j : Nat) t, ts[j]? = some t → ∃ r us, rows[j]? = some r ∧ IsT F t us ∧ DaAll F us r
  | [], vs, h => by
    cases h
    exact ⟨[], rfl, rfl, fun j t e => by cases e⟩
  | r :: rows, vs, h => by
    cases h with
    | cons d k =>
      obtain ⟨ts, e, l, q⟩ := rows_of k
      cases d with
      | @tup a us _ h1 h2 =>
        refine ⟨a :: ts, by rw [e]; rfl, by rw [List.length_cons, List.length_cons, l], fun j t et => ?_⟩
        cases j with
        | zero => cases et; exact ⟨r, us, rfl, h1, h2⟩
        | succ j => exact q j t et
theorem daAll_of {F : Hp} : ∀ {xs : List V} {ds : List PyData}, xs.length = ds.length → (∀ (j : Nat) x d, xs[j]? = some x → ds[j]? = some d → Da F x d) → DaAll F xs ds
  | [], [], _, _ => .nil
  | x :: xs, d :: ds, hl, h => .cons (h 0 x d rfl rfl) (daAll_of (Nat.succ.inj hl) fun j x d a b => h (j + 1) x d a b)
theorem vals_refs : ∀ {ts : List Addr} {us : List Value}, Vals (ts.map V.ref) us → us = ts.map Value.ref
  | [], us, h => by cases h; rfl
  | t :: ts, us, h => by
    cases h with
    | cons r k =>
      rw [vals_refs k]
      cases r
      rfl
theorem wk_zz {K : PySem.W.Frag} {F : Hp} {ts : List Addr} {rows : List (List PyData)} {n : Nat} (h0 : 0 < ts.length) (hl : ts.length = rows.length) (hn : ∀ r ∈ rows, r.length = n)
    (h : ∀ (j : Nat) t, ts[j]? = some t → ∃ r us, rows[j]? = some r ∧ IsT F t us ∧ DaAll F us r) : Wk (ItzN K ts) F (colsOf n rows) := by
  have hc : (colsOf n rows).length = n := by unfold colsOf; rw [List.length_map, List.length_range]
  refine ⟨fun H => ∀ (j : Nat) t, ts[j]? = some t → ∃ us : List V, SqT K H t us ∧ us.length = n, fun i H v H' => (ItzN K ts).yld i H v H', ⟨fun i H hi q => ?_, fun H q => ?_, fun i H v H' _ _ y => y⟩, fun F' H' e1 e2 j t et => ?_, fun i F' H' v H'' hi e1 e2 y => ?_⟩
  · rw [hc] at hi
    have key : ∀ (l : List Addr), (∀ (j : Nat) t, l[j]? = some t → ∃ us : List V, SqT K H t us ∧ us.length = n) → ∃ xs : List V, xs.length = l.length ∧ ∀ (j : Nat) t, l[j]? = some t → ∃ (vs : List V) (x : V), SqT K H t vs ∧ vs[i]? = some x ∧ xs[j]? = some x := by
      intro l
      induction l with
      | nil => exact fun _ => ⟨[], rfl, fun j t e => by cases e⟩
      | cons a l ih =>
        intro q
        obtain ⟨xs, e, k⟩ := ih fun j t et => q (j + 1) t et
        obtain ⟨us, hu, hul⟩ := q 0 a rfl
        have hi' : i < us.length := by omega
        refine ⟨us[i] :: xs, by rw [List.length_cons, List.length_cons, e], fun j t et => ?_⟩
        cases j with
        | zero => cases et; exact ⟨us, us[i], hu, List.getElem?_eq_getElem hi', rfl⟩
        | succ j => exact k j t et
    exact key ts q
  · obtain ⟨us, hu, hul⟩ := q 0 _ (List.getElem?_eq_getElem h0)
    exact ⟨_, us, List.getElem?_eq_getElem h0, hu, by rw [hc, hul]; exact Nat.le_refl _⟩
  · obtain ⟨r, us, er, a1, a2⟩ := h j t et
    exact ⟨us, (a1.ex e1).sq e2, by rw [a2.length]; exact hn r (List.mem_of_getElem? er)⟩
  · rw [hc] at hi
    obtain ⟨T, xs, rfl, hT, rfl, hxl, hx⟩ := y
    have g := Grow.laid (o := .tup xs) e2 hT
    refine ⟨_, .tuple (rows.map fun r => r.getD i .none), g, ?_, .tup (.inl upd_same) (daAll_of (by rw [List.length_map, hxl, hl]) fun j x d ex ed => ?_)⟩
    · unfold colsOf
      rw [List.getElem?_map, List.getElem?_range hi] <;> rfl
    · have hj : j < ts.length := by rw [← hxl]; exact (List.getElem?_eq_some_iff.mp ex).1
      obtain ⟨r, us, er, a1, a2⟩ := h j _ (List.getElem?_eq_getElem hj)
      have eu := hx j _ us (List.getElem?_eq_getElem hj) ((a1.ex e1).sq e2)
      rw [ex] at eu
      obtain ⟨d', ed', dd⟩ := a2.get eu
      rw [List.getElem?_map, er] at ed
      cases ed
      show Da _ x (r.getD i PyData.none)
      rw [List.getD_eq_getElem?_getD, ed']
      exact dd.ex (e1.trans g.ff)
section
variable {X : Cx} {a : Expr} {f : SE} {pos p p2 tpos : Pos}
theorem di_zipN {x : Str} (hc : X.calm = true) (hg : Gl X "zip") (hm : X.mg "zip" = none) (ha : DE X a f) (hst : starEach [.Starred a p2] X.env = [(true, eval a X.env)] := by rfl) :
    DI X (.Name x tpos) (.Call (.Name "zip" p) [.Starred a p2] [] pos) (zipNL f) := by
  refine ⟨fun pins s σ H R I h => ?_⟩
  obtain ⟨F, ρ, ds, Re, e, k⟩ := h
  obtain ⟨d, e1, ea⟩ := bnd e
  obtain ⟨es, e2, eb⟩ := bnd ea
  obtain ⟨rows, e3, ec⟩ := bnd eb
  clear ea eb
  have e4 := mapO_asT e3
  subst e4
  cases rows with
  | nil => cases ec
  | cons r rs =>
    replace ec : (if (∀ q ∈ rs, q.length = r.length) ∧ rs.length ≤ 1000 then some (colsOf r.length (r :: rs)) else none) = some ds := ec
    split at ec
    case isFalse => cases ec
    case isTrue hh =>
      cases ec
      refine Call_ (ld_blt I hg hm PyProof.Rows.boot_zip ?_)
      rw [hst]
      refine PySem.W.ks_call (P := fun _ => True) rfl (fun h _ => ⟨.machine, .inr (.inl rfl), ?_⟩) (PySem.W.ks_lone (thn (ha.run pins s σ H (fun v H1 => ∃ F1, Grow F H F1 H1 ∧ Da F1 v d) I ⟨F, ρ, d, Re, e1, fun v F1 H1 g1 dv => ⟨F1, g1, dv⟩⟩) fun v s1 ⟨y, H1, I1, ry, F1, g1, dv⟩ => ?_))
      · exact PySem.W.Looks.of_pure rfl
      · have kk : ∃ t vs, y = V.ref t ∧ (SqT X.K H1 t vs ∨ SqL X.K H1 t vs) ∧ DaAll F1 vs ((r :: rs).map PyData.tuple) := by
          cases d with
          | list l => cases e2; cases dv with | @lst q vs _ h1 h2 => exact ⟨q, vs, rfl, .inr (SqL.of (g1.fh _ _ h1)), h2⟩
          | tuple l => cases e2; cases dv with | @tup q vs _ h1 h2 => exact ⟨q, vs, rfl, .inl (h1.sq g1.fh), h2⟩
          | _ => cases e2
        obtain ⟨t, vs, rfl, hsq, dvs⟩ := kk
        obtain ⟨ts, rfl, hl, hts⟩ := rows_of dvs
        obtain rfl : v = Value.ref t := ry
        refine StX.star_any I1 hsq fun us s2 I2 rv => ⟨trivial, ?_⟩
        have eus : us = ts.map Value.ref := by
          exact vals_refs rv
        subst eus
        have hl' : ts.length ≤ 1001 := by rw [hl, List.length_cons]; omega
        have h0 : 0 < ts.length := by rw [hl, List.length_cons]; omega
        have hT : ∀ t ∈ ts, ∃ its, s2.heap.IsTuple t its := fun t ht => by
          obtain ⟨j, hj, et⟩ := List.getElem_of_mem ht
          obtain ⟨r', us, er, a1, a2⟩ := hts j t (by rw [← et]; exact List.getElem?_eq_getElem hj)
          obtain ⟨its, _, p', _⟩ := I2.tuple (a1.sq (K := X.K) g1.fh)
          exact ⟨_, p'⟩
        refine call_zipN h0 hl' hT fun h5 st up => pyIter_zz st ?_
        have I3 : Inv X pins σ H1 { s2 with heap := h5 } := I2.kept (t' := s2.toks) up
        refine ⟨_, zFp s2.heap.objs.size ts.length, _, _, H1, rfl, I3, turn_zz h0 hl' (fun t ht => ?_), st, fun b hb => ?_, k _ F1 H1 g1 (wk_zz h0 hl (fun q hq => ?_) hts)⟩
        · obtain ⟨its, o, ho, _⟩ := hT t ht
          exact Heap.lt_size ho
        · have hle := (zFp_mem.mp hb).1
          exact I2.fpOk hle (I2.hok.fresh hle)
        · rcases List.mem_cons.mp hq with z | z
          · rw [z]
          · exact hh.1 q z
end
end U
set_option maxHeartbeats 4000000
/-! U9: sorted(set(..)), enumerate. -/
namespace U
open PySem PySem.Spec PyProof.Rows L2
open Classical in
noncomputable def setL (f : SE) : SA := fun ρ => (f ρ).bind fun d => (itemsOf d).bind fun ds => if SetOk ds then some (srt (nub ds)) else none
section
variable {X : Cx} {a : Expr} {f : SE} {pos pos2 p p2 tpos : Pos} {k : Nat}
theorem dl_sortedSet (hr : Room k X.A) (hc : X.calm = true) (hg : Gl X "sorted") (hm : X.mg "sorted" = none) (hg2 : Gl X "set") (hm2 : X.mg "set" = none) (ha : DE X a f)
    (hs : starEach [.Call (.Name "set" p2) [a] [] pos2] X.env = (false, eval (.Call (.Name "set" p2) [a] [] pos2) X.env) :: starEach [] X.env := by rfl) (hs2 : starEach [a] X.env = (false, eval a X.env) :: starEach [] X.env := by rfl) :
    DL X (.Call (.Name "sorted" p) [.Call (.Name "set" p2) [a] [] pos2] [] pos) (setL f) := weakE (pe_sortedSet hr hc hg hm hg2 hm2 ha hs hs2) fun σ H Q w => by
  obtain ⟨F, ρ, ds, R, e, q⟩ := w
  obtain ⟨d, e1, e⟩ := bnd e
  obtain ⟨es, e2, e⟩ := bnd e
  split at e
  · cases e
    exact ⟨F, ρ, d, R, e1, fun v F1 H1 g1 dv => ⟨F1, d, es, g1.fh, dv, e2, by assumption, fun p vs F' H' g n1 n2 hp dvs => q p vs F' H' (g1.trans g) (g1.hh.back n1) n2 hp dvs⟩⟩
  · cases e
theorem di_enum {elts : List Expr} {kk : Nat} (hc : X.calm = true) (hg : Gl X "enumerate") (hm : X.mg "enumerate" = none) (ha : DE X a f) (hs : starEach [a] X.env = [(false, eval a X.env)] := by rfl) :
    DI X (.Tuple elts kk tpos) (.Call (.Name "enumerate" p) [a] [] pos) (enumL f) := weakI (pi_enumR hc hg hm ha hs) fun σ H R w => by
  obtain ⟨F, ρ, ds, Re, e, q⟩ := w
  obtain ⟨x, e1, e⟩ := bnd e
  obtain ⟨xs, e2, e3⟩ := mpd e
  subst e3
  exact ⟨F, ρ, x, Re, e1, fun v F1 H1 g1 dv => ⟨F1, x, xs, g1.fh, dv, e2, fun J F2 H2 g2 wk => q J F2 H2 (g1.trans g2) wk⟩⟩
end
end U
set_option maxHeartbeats 4000000
/-! M0: tuples of ints as data, sorting, sets: plain. -/
namespace U
open PySem PySem.Spec PyProof.Rows L2
def iT (hs : List Int) : PyData := .tuple (hs.map .int)
theorem int_inj {xs ys : List Int} (h : xs.map PyData.int = ys.map PyData.int) : xs = ys := (List.map_inj_right fun a b e => PyData.int.inj e).mp h
theorem iT_inj {xs ys : List Int} (h : iT xs = iT ys) : xs = ys := int_inj (PyData.tuple.inj h)
theorem canLay_ints : ∀ xs : List Int, PyData.canLayAll0 (xs.map .int) = true
  | [] => rfl
  | x :: xs => by rw [List.map_cons, PyData.canLayAll0, canLay_ints xs]; rfl
theorem depth_ints : ∀ xs : List Int, PyData.depthAll (xs.map .int) = 0
  | [] => by simp [PyData.depthAll]
  | x :: xs => by
    rw [List.map_cons, PyData.depthAll, depth_ints xs]
    rfl
theorem iT_lay (xs : List Int) : (iT xs).canLay0 = true ∧ (iT xs).depth = 1 := by
  refine ⟨?_, ?_⟩
  · show PyData.canLay0 (.tuple (xs.map .int)) = true
    rw [PyData.canLay0]; exact canLay_ints xs
  · show PyData.depth (.tuple (xs.map .int)) = 1
    rw [PyData.depth, depth_ints xs]
theorem alike_ints : ∀ xs ys : List Int, PySem.W.alikeAll (xs.map .int) (ys.map .int) = true
  | [], _ => by rw [List.map_nil, PySem.W.alikeAll]
  | _ :: _, [] => by rw [List.map_cons, List.map_nil, PySem.W.alikeAll]
  | x :: xs, y :: ys => by
    rw [List.map_cons, List.map_cons, PySem.W.alikeAll, alike_ints xs ys]
    rfl
/-! ### nub -/
theorem map_back {α : Type} {f : α → PyData} : ∀ {l : List PyData}, (∀ d ∈ l, ∃ r, d = f r) → ∃ ch : List α, l = ch.map f
  | [], _ => ⟨[], rfl⟩
  | x :: xs, h => by
    obtain ⟨r, rfl⟩ := h x List.mem_cons_self
    obtain ⟨ch, rfl⟩ := map_back (f := f) (l := xs) fun d hd => h d (List.mem_cons_of_mem _ hd)
    exact ⟨r :: ch, rfl⟩
theorem mem_mapI {α : Type} {f : α → PyData} (hf : ∀ a b, f a = f b → a = b) {r : α} {l : List α} : f r ∈ l.map f ↔ r ∈ l := by
  constructor
  · intro h
    obtain ⟨s, hs, e⟩ := List.mem_map.mp h
    exact hf _ _ e ▸ hs
  · exact fun h => List.mem_map_of_mem h
/-- sorted(set(..)) of coded things: coded things, each once -/
theorem srt_nub {α : Type} {f : α → PyData} (hf : ∀ a b, f a = f b → a = b) (rows : List α) : ∃ ch : List α, srt (nub (rows.map f)) = ch.map f ∧ ch.Nodup ∧ (∀ r, r ∈ ch ↔ r ∈ rows) ∧ ch.length ≤ rows.length := by
  obtain ⟨ch, e⟩ := map_back (f := f) (l := srt (nub (rows.map f))) fun d hd => by
    have := mem_nub.mp (mem_srt.mp hd)
    obtain ⟨r, _, e⟩ := List.mem_map.mp this
    exact ⟨r, e.symm⟩
  refine ⟨ch, e, ?_, fun r => ?_, ?_⟩
  · have : (ch.map f).Nodup := by rw [← e]; exact (srt_perm _).nodup_iff.mpr (nub_nodup _)
    exact List.Pairwise.of_map f (fun a b h z => h (congrArg f z)) this
  · rw [← mem_mapI hf (l := ch), ← e, mem_srt, mem_nub, mem_mapI hf]
  · have h1 : (ch.map f).length = (nub (rows.map f)).length := by rw [← e]; exact (srt_perm _).length_eq
    rw [List.length_map] at h1
    have := nub_len (rows.map f)
    rw [List.length_map] at this
    omega
theorem setOk_keys {rows : List (List Int)} (h : ∀ r ∈ rows, r ≠ []) (hl : rows.length < 64) : SetOk (rows.map iT) := by
  refine ⟨⟨?_, .inl ?_, ?_, by rw [List.length_map]; omega⟩, by rw [List.length_map]; exact hl, .inr ?_⟩
  · intro d hd d' hd'
    obtain ⟨r, _, rfl⟩ := List.mem_map.mp hd
    obtain ⟨r', _, rfl⟩ := List.mem_map.mp hd'
    show PySem.W.alike (.tuple (r.map .int)) (.tuple (r'.map .int)) = true
    rw [PySem.W.alike]
    exact alike_ints r r'
  · intro d hd
    obtain ⟨r, hr, rfl⟩ := List.mem_map.mp hd
    cases r with
    | nil => exact absurd rfl (h _ hr)
    | cons x r => exact ⟨_, _, rfl⟩
  · intro d hd
    obtain ⟨r, hr, rfl⟩ := List.mem_map.mp hd
    exact ⟨(iT_lay r).1, by rw [(iT_lay r).2]; omega⟩
  · intro d hd
    obtain ⟨r, hr, rfl⟩ := List.mem_map.mp hd
    cases r with
    | nil => exact absurd rfl (h _ hr)
    | cons x r =>
      refine ⟨.int x, r.map .int, rfl, fun z hz => ?_⟩
      obtain ⟨i, _, rfl⟩ := List.mem_map.mp (show z ∈ (x :: r).map PyData.int from hz)
      rfl
end U
set_option maxHeartbeats 4000000
/-! U10: what the printed walk leans on. -/
namespace U
open PySem PySem.Spec PyProof.Rows L2
def notND (x y : PyData) : Option PyData := match y with
  | .none => some (.bool (!isNoneD x))
  | _ => none
theorem rd_notN : RD (fun x y H Q => y = .non ∧ Q (.bl (!decide (x = .non))) H) notND := by
  intro F H x y dx dy dz Q ef hx hy h q
  unfold notND at h; split at h
  · cases h; cases hy
    refine ⟨rfl, ?_⟩
    rw [non_iff hx]
    exact q _ F H (Grow.refl ef) (.bl _)
  · cases h
section
variable {X : Cx} {a b e : Expr} {es : List Expr} {f g : SE} {u : SA} {pos p : Pos} {k : Nat}
theorem c_nn : CmpD X .IsNot notND := ⟨_, op_notN, rd_notN⟩
theorem de_tuple (hg : Gl X "tuple") (hm : X.mg "tuple" = none) (ha : DA X (e :: es) u) (hs : starEach (e :: es) X.env = (false, eval e X.env) :: starEach es X.env := by rfl) (hp : (backTo pos (starEach es X.env)).any (·.1) = false := by rfl) :
    DE X (.Call (.Name "tuple" p) (e :: es) [] pos) (calE tupOfD u) := de_callTy call_tuple_of cd_tuple hg hm (by decide +kernel) ha (by decide) (by decide) hs hp
theorem de_len (hg : Gl X "len") (hm : X.mg "len" = none) (ha : DA X (e :: es) u) (hs : starEach (e :: es) X.env = (false, eval e X.env) :: starEach es X.env := by rfl) (hp : (backTo pos (starEach es X.env)).any (·.1) = false := by rfl) :
    DE X (.Call (.Name "len" p) (e :: es) [] pos) (calE lenD u) := de_callB call_len cd_len hg hm (by decide +kernel) ha (by decide) (by decide) hs hp
theorem de_all (hc : X.calm = true) (hg : Gl X "all") (hm : X.mg "all" = none) (ha : DA X (e :: es) u) (hs : starEach (e :: es) X.env = (false, eval e X.env) :: starEach es X.env := by rfl) (hp : (backTo pos (starEach es X.env)).any (·.1) = false := by rfl) :
    DE X (.Call (.Name "all" p) (e :: es) [] pos) (calE allD u) := de_callB (cr_all hc) cd_all hg hm (by decide +kernel) ha (by decide) (by decide) hs hp
theorem de_sum (hc : X.calm = true) (hg : Gl X "sum") (hm : X.mg "sum" = none) (ha : DA X (e :: es) u) (hs : starEach (e :: es) X.env = (false, eval e X.env) :: starEach es X.env := by rfl) (hp : (backTo pos (starEach es X.env)).any (·.1) = false := by rfl) :
    DE X (.Call (.Name "sum" p) (e :: es) [] pos) (calE sumD u) := de_callB (cr_sum hc) cd_sum hg hm (by decide +kernel) ha (by decide) (by decide) hs hp
theorem de_min (hc : X.calm = true) (hg : Gl X "min") (hm : X.mg "min" = none) (ha : DA X (e :: es) u) (hs : starEach (e :: es) X.env = (false, eval e X.env) :: starEach es X.env := by rfl) (hp : (backTo pos (starEach es X.env)).any (·.1) = false := by rfl) :
    DE X (.Call (.Name "min" p) (e :: es) [] pos) (calE minD u) := de_callB (call_min2 hc) cd_min hg hm (by decide +kernel) ha (by decide) (by decide) hs hp
theorem de_dict (hc : X.calm = true) (hg : Gl X "dict") (hm : X.mg "dict" = none) (ha : DA X (e :: es) u) (hs : starEach (e :: es) X.env = (false, eval e X.env) :: starEach es X.env := by rfl) (hp : (backTo pos (starEach es X.env)).any (·.1) = false := by rfl) :
    DE X (.Call (.Name "dict" p) (e :: es) [] pos) (calE dictD u) := de_callTy (call_dictP hc) cd_dict hg hm (by decide +kernel) ha (by decide) (by decide) hs hp
/-- a display, the tuple's object known -/
theorem dn_tup {x1} (h : DA X es u) : DN X (.Tuple es x1 pos) (lstL u) := by
  have h2 : PE X (.Tuple es x1 pos) (fun σ H Q => tDA u σ H fun xs H1 => xs.length ≤ sizeLine ∧ ∀ p o, o.dict = none → H1 p = none → Q (.ref p) (upd H1 p (.frz o (.tup xs)))) := by
    refine ⟨fun pins s σ H Q I hq => ?_⟩
    refine wpAny_Tuple_spliced (thn (h.run pos pins s σ H _ I hq) fun us s1 ⟨xs, H1, I1, r, z, q⟩ => ⟨by rw [← r.length]; exact z, ?_⟩)
    have hf : H1 s1.heap.objs.size = none := I1.hok.fresh (Nat.le_refl _)
    refine ⟨.ref s1.heap.objs.size, upd H1 s1.heap.objs.size (.frz { cls := .type "tuple", data := .seq us.toArray } (.tup xs)), I1.laid (t' := s1.toks) (fun b u e => Heap.get?_push_of_some _ e) (Nat.le_refl _) ?_, rfl, q _ _ rfl hf⟩
    exact ⟨Heap.get?_push_size _ rfl, z, us, r, ⟨_, Heap.get?_push_size _ rfl, rfl, _, rfl⟩⟩
  exact weakE h2 fun σ H Q w => by
    obtain ⟨F, ρ, d, R, e, q⟩ := w
    obtain ⟨ds, e1, e⟩ := bnd e
    obtain ⟨rfl, hl⟩ := lim_ok e
    refine ⟨F, ρ, d, R, e1, fun vs F1 H1 g1 dv => ⟨sz_ok (by rw [dv.length]; exact hl), fun p o ho hp => ?_⟩⟩
    have g2 := Grow.laid (o := .frz o (.tup vs)) g1.fh hp
    exact q _ _ _ (g1.trans g2) ⟨p, o, vs, rfl, ho, upd_same, dv.ex g2.ff⟩
theorem de_call0H {x : Str} {φ : List Cell → Option PyData} (G : Has X.prog X.w X.K X.mg X.base k x φ) (hr : Room k X.A) (hg : Gl X x) (hd : (x == ("__debug__" : Str)) = false := by decide) :
    DE X (.Call (.Name x p) [] [] pos) (fun _ => φ []) := by
  obtain ⟨fa, fd, ps, h1, h2, h3, h4⟩ := G
  exact weakE (pe_call0 h1 hr hg h2 h3 h4 .nil pass0 hd) fun σ H Q w => by
    obtain ⟨F, ρ, d, R, e, q⟩ := w
    exact ⟨F, [], d, R.fh, .nil, e, fun v F2 H2 g2 d2 => q v F2 H2 g2 d2⟩
end
/-- what the walk knows of the text's names -/
structure Txt (P : Program) (w : World) (K : PySem.W.Frag) (mg : Str → Option Value) (base : Heap) : Prop where
  ex : ∃ h, K.In h ∧ h.Ns mainGlobals mg ∧ He.SaysD Hd.fa Hd.fn K
section
variable {P : Program} {w : World} {K : PySem.W.Frag} {mg : Str → Option Value} {base : Heap}
theorem Txt.free (T : Txt P w K mg base) (i : Nat) {x : Str} (h : Hd.fa[i]? = some (.free x) := by rfl) : mg x = none := by
  obtain ⟨hp, X, G, c⟩ := T.ex
  exact He.free_ok X G (c.fact i h)
theorem Txt.str (T : Txt P w K mg base) (i : Nat) {x z : Str} (h : Hd.fa[i]? = some (.str x z) := by rfl) : ∃ t, mg x = some (.str z t) := by
  obtain ⟨hp, X, G, c⟩ := T.ex
  exact He.str_ok X G (c.fact i h)
theorem Txt.int (T : Txt P w K mg base) (i : Nat) {x : Str} {z : Int} (h : Hd.fa[i]? = some (.int x z) := by rfl) : ∃ t, mg x = some (.int z t) := by
  obtain ⟨hp, X, G, c⟩ := T.ex
  exact He.int_ok X G (c.fact i h)
theorem u1 {A : Around} {k : Nat} (hr : Room k A) : A.units + 1 < cLine := by
  have h1 := hr.un
  omega
theorem Txt.def_ (T : Txt P w K mg base) (i j : Nat) {x qual : Str} {params : Arguments} {body : List Stmt} {scope : Scope} (h : Hd.fn[i]? = some ⟨(x, none), x, qual, params, body, scope, [], []⟩ := by rfl) (h2 : Hd.fa[j]? = some (.glo x) := by rfl) :
    ∃ fa fd, FunD K x qual params body scope [] [] fa fd ∧ mg x = some (.ref fa) := by
  obtain ⟨hp, X, G, c⟩ := T.ex
  obtain ⟨fd, F⟩ := c.def_ i h
  exact ⟨_, fd, F, He.glo_ok X G (c.fact j h2)⟩
theorem Has.of {k np : Nat} {x qual : Str} {params : Arguments} {body : List Stmt} {scope : Scope} {N ps : List Str} {f : SS} {n : Nat} {fa : Addr} {fd : FuncData} (F : FunD K x qual params body scope [] [] fa fd) (hm : mg x = some (.ref fa)) (S : FnScope N ps scope)
    (hb : ∀ (kV doc pm : Value) (an : Option Addr) (cdv ct : Value) (us : List Value), us.length = ps.length → bindArgs (PySem.W.fnOf x qual params body scope .none kV doc pm an cdv ct) ⟨us, []⟩ = pure (ps.zip us))
    (hn : ps.length = np) (hN : N.length = n)
    (h : ∀ (cdv : Value) (A : Around) (outer : List Env) (s : Shared) (H : Hp) (E : XK), Room k (A.deeper (envOfC qual scope s.heap.objs.size fa cdv)) → DSs (cx1 P w K mg base N qual scope fa cdv A outer s H E) body f) :
    Has P w K mg base (k + 1) x (runC n np f) := ⟨fa, fd, ps, fn_okC F S hn hN h, hm, F.kp, F.bindsN hb⟩
end
end U
set_option maxHeartbeats 0
/-! The walk, printed by gen_walk.py: part A. -/
namespace U
open PySem PySem.Spec PyProof.Rows L2 Hd
section
variable {P : Program} {w : World} {K : PySem.W.Frag} {mg : Str → Option Value} {base : Heap}
/-! is_number: 0 thing -/
theorem sc_is_number : FnScope ["thing"] ["thing"] (defScope s_is_number) := ⟨rfl, rfl, rfl, by decide +kernel, rfl, by decide +kernel, by decide +kernel⟩
set_option linter.unusedVariables false in
noncomputable def F_is_number : SS := (retS (andE (op1 (isiD "int") (vE 0)) (notE (op1 (isiD "bool") (vE 0)))))
noncomputable def φ_is_number : List Cell → Option PyData := runC 1 1 F_is_number
theorem ok_is_number (T : Txt P w K mg base) : Has P w K mg base 1 "is_number" φ_is_number := by
  obtain ⟨fa, fd, F, hm⟩ := T.def_ 0 0 (x := "is_number")
  exact Has.of F hm sc_is_number (fun _ _ _ _ _ _ us hl => match us, hl with | [_], _ => rfl) rfl rfl fun cdv A outer s H E hr => (dss_one (ds_ret (de_and (de_isi (de_var 0) (by rfl) (T.free 60) (by rfl) (T.free 59) (by decide +kernel) (by decide +kernel)) (de_one (de_not (de_isi (de_var 0) (by rfl) (T.free 60) (by rfl) (T.free 56) (by decide +kernel) (by decide +kernel)))))))
/-! is_name: 0 thing, 1 letter -/
theorem sc_is_name : FnScope ["thing", "letter"] ["thing"] (defScope s_is_name) := ⟨rfl, rfl, rfl, by decide +kernel, rfl, by decide +kernel, by decide +kernel⟩
set_option linter.unusedVariables false in
noncomputable def F_is_name : SS := (retS (andE (op1 (isiD "str") (vE 0)) (andE (chE leD leD (cE (.int 1)) (calE lenD (aCons (vE 0) aNil)) (cE (.int 8))) (calE allD (aCons (frzE (lcL (itE (vE 0)) (gN 1) yesT (op2 inD (vE 1) (cE (.str "abcdefghijklmnopqrstuvwxyz"))) [1])) aNil)))))
noncomputable def φ_is_name : List Cell → Option PyData := runC 2 1 F_is_name
theorem ok_is_name (T : Txt P w K mg base) : Has P w K mg base 1 "is_name" φ_is_name := by
  obtain ⟨fa, fd, F, hm⟩ := T.def_ 1 1 (x := "is_name")
  exact Has.of F hm sc_is_name (fun _ _ _ _ _ _ us hl => match us, hl with | [_], _ => rfl) rfl rfl fun cdv A outer s H E hr => (dss_one (ds_ret (de_and (de_isi (de_var 0) (by rfl) (T.free 60) (by rfl) (T.free 68) (by decide +kernel) (by decide +kernel)) (de_and (de_ch c_le c_le de_int (de_len (by rfl) (T.free 61) (da_cons (de_var 0) da_nil)) de_int) (de_one (de_all rfl (by rfl) (T.free 55) (da_cons (de_frz (dl_lc rfl sc_is_name.nd (di_seq (de_var 0)) (blkOk_by (own := [("letter", 1)]) (by kernel_rfl)) (fun s H C cl fp => (dg_name sc_is_name.nd (i := 1) rfl (.inl rfl))) (fun s H C cl fp => dts_nil) (fun s H C cl fp => (de_c (c_in hr) (de_var 1) (de_globS (by rfl) (T.str 72)))) (by decide))) da_nil)))))))
/-! tupled: 0 thing, 1 part -/
theorem sc_tupled : FnScope ["thing", "part"] ["thing"] (defScope s_tupled) := ⟨rfl, rfl, rfl, by decide +kernel, rfl, by decide +kernel, by decide +kernel⟩
set_option linter.unusedVariables false in
noncomputable def F_tupled (φ : List Cell → Option PyData) : SS := (retS (ifE (tstE (op1 (isi2D "list" "tuple") (vE 0))) (calE tupOfD (aCons (frzE (lcL (itE (vE 0)) (gN 1) yesT (calE (onD φ) (aCons (vE 1) aNil)) [1])) aNil)) (vE 0)))
noncomputable def φ_tupled : Nat → List Cell → Option PyData
  | 0 => runC 2 1 nevS
  | m + 1 => runC 2 1 (F_tupled (φ_tupled m))
theorem okr_tupled (T : Txt P w K mg base) : ∀ m, Has P w K mg base (m + 1) "tupled" (φ_tupled m)
  | 0 => by
    obtain ⟨fa, fd, F, hm⟩ := T.def_ 2 2 (x := "tupled")
    exact (Has.of (k := 0) F hm sc_tupled (fun _ _ _ _ _ _ us hl => match us, hl with | [_], _ => rfl) rfl rfl fun cdv A outer s H E hr => dss_never).mono (by omega)
  | m + 1 => by
    obtain ⟨fa, fd, F, hm⟩ := T.def_ 2 2 (x := "tupled")
    have G := okr_tupled T m
    rw [show m + 1 + 1 = (m + 1) + 1 from by omega]
    exact Has.of F hm sc_tupled (fun _ _ _ _ _ _ us hl => match us, hl with | [_], _ => rfl) rfl rfl fun cdv A outer s H E hr => (dss_one (ds_ret (de_if (dt_val (de_isi2 (de_var 0) (by rfl) (T.free 60) (by rfl) (T.free 62) (by decide +kernel) (by decide +kernel) (by rfl) (T.free 70) (by decide +kernel) (by decide +kernel))) (de_tuple (by rfl) (T.free 70) (da_cons (de_frz (dl_lc rfl sc_tupled.nd (di_seq (de_var 0)) (blkOk_by (own := [("part", 1)]) (by kernel_rfl)) (fun s H C cl fp => (dg_name sc_tupled.nd (i := 1) rfl (.inl rfl))) (fun s H C cl fp => dts_nil) (fun s H C cl fp => (de_callH G hr (by rfl) (da_cons (de_var 1) da_nil))) (by decide))) da_nil)) (de_var 0))))
theorem ok_tupled (T : Txt P w K mg base) : Has P w K mg base 7 "tupled" (φ_tupled 6) := okr_tupled T 6
/-! rises: 0 thing, 1 one, 2 other -/
theorem sc_rises : FnScope ["thing", "one", "other"] ["thing"] (defScope s_rises) := ⟨rfl, rfl, rfl, by decide +kernel, rfl, by decide +kernel, by decide +kernel⟩
set_option linter.unusedVariables false in
noncomputable def F_rises : SS := (retS (calE allD (aCons (frzE (lcL (zipL (vE 0) (slE (vE 0) (someO (cE (.int 1))) noO)) (gT2 1 2) yesT (op2 ltD (vE 1) (vE 2)) [1, 2])) aNil)))
noncomputable def φ_rises : List Cell → Option PyData := runC 3 1 F_rises
theorem ok_rises (T : Txt P w K mg base) : Has P w K mg base 1 "rises" φ_rises := by
  obtain ⟨fa, fd, F, hm⟩ := T.def_ 3 3 (x := "rises")
  exact Has.of F hm sc_rises (fun _ _ _ _ _ _ us hl => match us, hl with | [_], _ => rfl) rfl rfl fun cdv A outer s H E hr => (dss_one (ds_ret (de_all rfl (by rfl) (T.free 55) (da_cons (de_frz (dl_lc rfl sc_rises.nd (di_zip (by rfl) (T.free 71) (de_var 0) (de_slice (de_var 0) (do_some de_int) do_none)) (blkOk_by (own := [("one", 1), ("other", 2)]) (by kernel_rfl)) (fun s H C cl fp => (dg_tup2 rfl sc_rises.nd (i := 1) rfl (.inl rfl) (j := 2) rfl (.inl rfl))) (fun s H C cl fp => dts_nil) (fun s H C cl fp => (de_c c_lt (de_var 1) (de_var 2))) (by decide))) da_nil))))
/-! set_of: 0 things -/
theorem sc_set_of : FnScope ["things"] ["things"] (defScope s_set_of) := ⟨rfl, rfl, rfl, by decide +kernel, rfl, by decide +kernel, by decide +kernel⟩
set_option linter.unusedVariables false in
noncomputable def F_set_of : SS := (retS (calE tupOfD (aCons (frzE (setL (vE 0))) aNil)))
noncomputable def φ_set_of : List Cell → Option PyData := runC 1 1 F_set_of
theorem ok_set_of (T : Txt P w K mg base) : Has P w K mg base 1 "set_of" φ_set_of := by
  obtain ⟨fa, fd, F, hm⟩ := T.def_ 4 4 (x := "set_of")
  exact Has.of F hm sc_set_of (fun _ _ _ _ _ _ us hl => match us, hl with | [_], _ => rfl) rfl rfl fun cdv A outer s H E hr => (dss_one (ds_ret (de_tuple (by rfl) (T.free 70) (da_cons (de_frz (dl_sortedSet hr rfl (by rfl) (T.free 67) (by rfl) (T.free 66) (de_var 0))) da_nil))))
/-! product: 0 numbers, 1 found, 2 number -/
theorem sc_product : FnScope ["numbers", "found", "number"] ["numbers"] (defScope s_product) := ⟨rfl, rfl, rfl, by decide +kernel, rfl, by decide +kernel, by decide +kernel⟩
set_option linter.unusedVariables false in
noncomputable def F_product : SS := (seqS (setS 1 (cE (.int 1))) (seqS (forS (itE (vE 0)) (gN 2) (setS 1 (op2 mulD (vE 1) (vE 2)))) (retS (vE 1))))
noncomputable def φ_product : List Cell → Option PyData := runC 3 1 F_product
theorem ok_product (T : Txt P w K mg base) : Has P w K mg base 1 "product" φ_product := by
  obtain ⟨fa, fd, F, hm⟩ := T.def_ 5 5 (x := "product")
  exact Has.of F hm sc_product (fun _ _ _ _ _ _ us hl => match us, hl with | [_], _ => rfl) rfl rfl fun cdv A outer s H E hr => (dss_cons (ds_set sc_product.nd (i := 1) rfl (.inl rfl) de_int) (dss_cons (ds_for PassesOwn.never rfl (di_seq (de_var 0)) (dg_name sc_product.nd (i := 2) rfl (.inl rfl)) (dss_one (ds_set sc_product.nd (i := 1) rfl (.inl rfl) (de_mul (de_var 1) (de_var 2))))) (dss_one (ds_ret (de_var 1)))))
/-! door_for: 0 keys, 1 cuts -/
theorem sc_door_for : FnScope ["keys", "cuts"] ["keys"] (defScope s_door_for) := ⟨rfl, rfl, rfl, by decide +kernel, rfl, by decide +kernel, by decide +kernel⟩
set_option linter.unusedVariables false in
noncomputable def F_door_for : SS := (retS (calE tupOfD (aCons (frzE (lcL (zipNL (vE 0)) (gN 1) yesT (calE (onD φ_set_of) (aCons (vE 1) aNil)) [1])) aNil)))
noncomputable def φ_door_for : List Cell → Option PyData := runC 2 1 F_door_for
theorem ok_door_for (T : Txt P w K mg base) : Has P w K mg base 2 "door_for" φ_door_for := by
  obtain ⟨fa, fd, F, hm⟩ := T.def_ 6 6 (x := "door_for")
  have H_set_of := ok_set_of T
  exact Has.of F hm sc_door_for (fun _ _ _ _ _ _ us hl => match us, hl with | [_], _ => rfl) rfl rfl fun cdv A outer s H E hr => (dss_one (ds_ret (de_tuple (by rfl) (T.free 70) (da_cons (de_frz (dl_lc rfl sc_door_for.nd (di_zipN rfl (by rfl) (T.free 71) (de_var 0)) (blkOk_by (own := [("cuts", 1)]) (by kernel_rfl)) (fun s H C cl fp => (dg_name sc_door_for.nd (i := 1) rfl (.inl rfl))) (fun s H C cl fp => dts_nil) (fun s H C cl fp => (de_callH (H_set_of.mono (by omega)) hr (by rfl) (da_cons (de_var 1) da_nil))) (by decide))) da_nil))))
/-! pin_that_bars: 0 door, 1 key, 2 pin, 3 cut -/
theorem sc_pin_that_bars : FnScope ["door", "key", "pin", "cut"] ["door", "key"] (defScope s_pin_that_bars) := ⟨rfl, rfl, rfl, by decide +kernel, rfl, by decide +kernel, by decide +kernel⟩
set_option linter.unusedVariables false in
noncomputable def F_pin_that_bars : SS := (seqS (forS (enumL (vE 1)) (gT2 2 3) (ifS (tstE (op2 notInD (vE 3) (op2 ixD (vE 0) (vE 2)))) (retS (vE 2)) nxS)) (retS (cE .none)))
noncomputable def φ_pin_that_bars : List Cell → Option PyData := runC 4 2 F_pin_that_bars
theorem ok_pin_that_bars (T : Txt P w K mg base) : Has P w K mg base 1 "pin_that_bars" φ_pin_that_bars := by
  obtain ⟨fa, fd, F, hm⟩ := T.def_ 7 7 (x := "pin_that_bars")
  exact Has.of F hm sc_pin_that_bars (fun _ _ _ _ _ _ us hl => match us, hl with | [_, _], _ => rfl) rfl rfl fun cdv A outer s H E hr => (dss_cons (ds_for PassesOwn.never rfl (di_enum rfl (by rfl) (T.free 58) (de_var 1)) (dg_tup2 rfl sc_pin_that_bars.nd (i := 2) rfl (.inl rfl) (j := 3) rfl (.inl rfl)) (dss_one (ds_if (dt_c (c_ni hr) (de_var 3) (de_ixs (de_var 0) (de_var 2))) (dss_one (ds_ret (de_var 2))) dss_nil))) (dss_one (ds_ret de_non)))
/-! opens: 0 door, 1 key -/
theorem sc_opens : FnScope ["door", "key"] ["door", "key"] (defScope s_opens) := ⟨rfl, rfl, rfl, by decide +kernel, rfl, by decide +kernel, by decide +kernel⟩
set_option linter.unusedVariables false in
noncomputable def F_opens : SS := (retS (op2 isND (calE (onD φ_pin_that_bars) (aCons (vE 0) (aCons (vE 1) aNil))) (cE .none)))
noncomputable def φ_opens : List Cell → Option PyData := runC 2 2 F_opens
theorem ok_opens (T : Txt P w K mg base) : Has P w K mg base 2 "opens" φ_opens := by
  obtain ⟨fa, fd, F, hm⟩ := T.def_ 8 8 (x := "opens")
  have H_pin_that_bars := ok_pin_that_bars T
  exact Has.of F hm sc_opens (fun _ _ _ _ _ _ us hl => match us, hl with | [_, _], _ => rfl) rfl rfl fun cdv A outer s H E hr => (dss_one (ds_ret (de_c c_is (de_callH (H_pin_that_bars.mono (by omega)) hr (by rfl) (da_cons (de_var 0) (da_cons (de_var 1) da_nil))) de_non)))
/-! both: 0 door, 1 other, 2 found, 3 one, 4 two, 5 cut -/
theorem sc_both : FnScope ["door", "other", "found", "one", "two", "cut"] ["door", "other"] (defScope s_both) := ⟨rfl, rfl, rfl, by decide +kernel, rfl, by decide +kernel, by decide +kernel⟩
set_option linter.unusedVariables false in
noncomputable def F_both : SS := (seqS (setS 2 (calE tupOfD (aCons (frzE (lcL (zipL (vE 0) (vE 1)) (gT2 3 4) yesT (calE tupOfD (aCons (frzE (lcL (itE (vE 3)) (gN 5) (tstE (op2 inD (vE 5) (vE 4))) (vE 5) [5])) aNil)) [3, 4])) aNil))) (retS (ifE (tstE (op2 inD (tupE aNil) (vE 2))) (cE .none) (vE 2))))
noncomputable def φ_both : List Cell → Option PyData := runC 6 2 F_both
theorem ok_both (T : Txt P w K mg base) : Has P w K mg base 1 "both" φ_both := by
  obtain ⟨fa, fd, F, hm⟩ := T.def_ 9 9 (x := "both")
  exact Has.of F hm sc_both (fun _ _ _ _ _ _ us hl => match us, hl with | [_, _], _ => rfl) rfl rfl fun cdv A outer s H E hr => (dss_cons (ds_set sc_both.nd (i := 2) rfl (.inl rfl) (de_tuple (by rfl) (T.free 70) (da_cons (de_frz (dl_lc rfl sc_both.nd (di_zip (by rfl) (T.free 71) (de_var 0) (de_var 1)) (blkOk_by (own := [("one", 3), ("two", 4)]) (by kernel_rfl)) (fun s H C cl fp => (dg_tup2 rfl sc_both.nd (i := 3) rfl (.inl rfl) (j := 4) rfl (.inr rfl))) (fun s H C cl fp => dts_nil) (fun s H C cl fp => (de_tuple (by rfl) (T.free 70) (da_cons (de_frz (dl_lc rfl sc_both.nd (di_seq (de_var 3)) (blkOk_by (own := [("cut", 5)]) (by kernel_rfl)) (fun s H C cl fp => (dg_name sc_both.nd (i := 5) rfl (.inl rfl))) (fun s H C cl fp => (dts_one (dt_c (c_in hr) (de_var 5) (de_var 4)))) (fun s H C cl fp => (de_var 5)) (by decide))) da_nil))) (by decide))) da_nil))) (dss_one (ds_ret (de_if (dt_c (c_in hr) (de_tup da_nil) (de_var 2)) de_non (de_var 2)))))
/-! how_many_open: 0 door, 1 part -/
theorem sc_how_many_open : FnScope ["door", "part"] ["door"] (defScope s_how_many_open) := ⟨rfl, rfl, rfl, by decide +kernel, rfl, by decide +kernel, by decide +kernel⟩
set_option linter.unusedVariables false in
noncomputable def F_how_many_open : SS := (retS (calE (onD φ_product) (aCons (frzE (lcL (itE (vE 0)) (gN 1) yesT (calE lenD (aCons (vE 1) aNil)) [1])) aNil)))
noncomputable def φ_how_many_open : List Cell → Option PyData := runC 2 1 F_how_many_open
theorem ok_how_many_open (T : Txt P w K mg base) : Has P w K mg base 2 "how_many_open" φ_how_many_open := by
  obtain ⟨fa, fd, F, hm⟩ := T.def_ 10 10 (x := "how_many_open")
  have H_product := ok_product T
  exact Has.of F hm sc_how_many_open (fun _ _ _ _ _ _ us hl => match us, hl with | [_], _ => rfl) rfl rfl fun cdv A outer s H E hr => (dss_one (ds_ret (de_callH (H_product.mono (by omega)) hr (by rfl) (da_cons (de_frz (dl_lc rfl sc_how_many_open.nd (di_seq (de_var 0)) (blkOk_by (own := [("part", 1)]) (by kernel_rfl)) (fun s H C cl fp => (dg_name sc_how_many_open.nd (i := 1) rfl (.inl rfl))) (fun s H C cl fp => dts_nil) (fun s H C cl fp => (de_len (by rfl) (T.free 61) (da_cons (de_var 1) da_nil))) (by decide))) da_nil))))
/-! meetings: 0 doors, 1 found, 2 door, 3 later, 4 many, 5 other, 6 meet -/
theorem sc_meetings : FnScope ["doors", "found", "door", "later", "many", "other", "meet"] ["doors"] (defScope s_meetings) := ⟨rfl, rfl, rfl, by decide +kernel, rfl, by decide +kernel, by decide +kernel⟩
set_option linter.unusedVariables false in
noncomputable def F_meetings : SS := (seqS (setS 1 (frzE (lstL aNil))) (seqS (forS (itE (calE (onD (φ_tupled 6)) (aCons (vE 0) aNil))) (gN 2) (seqS (setO 3 (lstL (aCons (tupE (aCons (cE (.int 1)) (aCons (vE 2) aNil))) aNil))) (seqS (forS (itE (vE 1)) (gT2 4 5) (seqS (setS 6 (calE (onD φ_both) (aCons (vE 2) (aCons (vE 5) aNil)))) (ifS (tstE (op2 notND (vE 6) (cE .none))) (appS 3 (tupE (aCons (op2 addD (vE 4) (cE (.int 1))) (aCons (vE 6) aNil)))) nxS))) (frzS 3 (setS 1 (op2 addD (vE 1) (vE 3))))))) (retS (frzE (lcL (itE (vE 1)) (gT2 4 2) yesT (tupE (aCons (vE 4) (aCons (calE (onD φ_how_many_open) (aCons (vE 2) aNil)) aNil))) [4, 2])))))
noncomputable def φ_meetings : List Cell → Option PyData := runC 7 1 F_meetings
theorem ok_meetings (T : Txt P w K mg base) : Has P w K mg base 8 "meetings" φ_meetings := by
  obtain ⟨fa, fd, F, hm⟩ := T.def_ 11 11 (x := "meetings")
  have H_both := ok_both T
  have H_how_many_open := ok_how_many_open T
  have H_tupled := ok_tupled T
  exact Has.of F hm sc_meetings (fun _ _ _ _ _ _ us hl => match us, hl with | [_], _ => rfl) rfl rfl fun cdv A outer s H E hr => (dss_cons (ds_set sc_meetings.nd (i := 1) rfl (.inl rfl) (de_frz (dl_lst da_nil))) (dss_cons (ds_for PassesOwn.never rfl (di_seq (de_callH (H_tupled.mono (by omega)) hr (by rfl) (da_cons (de_var 0) da_nil))) (dg_name sc_meetings.nd (i := 2) rfl (.inl rfl)) (dss_cons (ds_setO sc_meetings.nd (i := 3) rfl (.inl rfl) (dl_lst (da_cons (de_tup (da_cons de_int (da_cons (de_var 2) da_nil))) da_nil))) (dss_cons (ds_for PassesOwn.never rfl (di_seq (de_var 1)) (dg_tup2 rfl sc_meetings.nd (i := 4) rfl (.inl rfl) (j := 5) rfl (.inl rfl)) (dss_cons (ds_set sc_meetings.nd (i := 6) rfl (.inl rfl) (de_callH (H_both.mono (by omega)) hr (by rfl) (da_cons (de_var 2) (da_cons (de_var 5) da_nil)))) (dss_one (ds_if (dt_c c_nn (de_var 6) de_non) (dss_one (ds_app 3 (de_tup (da_cons (de_add (de_var 4) de_int) (da_cons (de_var 6) da_nil))))) dss_nil)))) (dss_frz 3 (dss_one (ds_set sc_meetings.nd (i := 1) rfl (.inl rfl) (de_add (de_var 1) (de_var 3)))))))) (dss_one (ds_ret (de_frz (dl_lc rfl sc_meetings.nd (di_seq (de_var 1)) (blkOk_by (own := [("many", 4), ("door", 2)]) (by kernel_rfl)) (fun s H C cl fp => (dg_tup2 rfl sc_meetings.nd (i := 4) rfl (.inl rfl) (j := 2) rfl (.inl rfl))) (fun s H C cl fp => dts_nil) (fun s H C cl fp => (de_tup (da_cons (de_var 4) (da_cons (de_callH (H_how_many_open.mono (by omega)) hr (by rfl) (da_cons (de_var 2) da_nil)) da_nil)))) (by decide)))))))
/-! how_many_some: 0 doors, 1 many, 2 number -/
theorem sc_how_many_some : FnScope ["doors", "many", "number"] ["doors"] (defScope s_how_many_some) := ⟨rfl, rfl, rfl, by decide +kernel, rfl, by decide +kernel, by decide +kernel⟩
set_option linter.unusedVariables false in
noncomputable def F_how_many_some : SS := (retS (calE sumD (aCons (frzE (lcL (itE (calE (onD φ_meetings) (aCons (vE 0) aNil))) (gT2 1 2) yesT (ifE (tstE (op2 eqD (op2 modD (vE 1) (cE (.int 2))) (cE (.int 1)))) (vE 2) (op1 negD (vE 2))) [1, 2])) aNil)))
noncomputable def φ_how_many_some : List Cell → Option PyData := runC 3 1 F_how_many_some
theorem ok_how_many_some (T : Txt P w K mg base) : Has P w K mg base 9 "how_many_some" φ_how_many_some := by
  obtain ⟨fa, fd, F, hm⟩ := T.def_ 12 12 (x := "how_many_some")
  have H_meetings := ok_meetings T
  exact Has.of F hm sc_how_many_some (fun _ _ _ _ _ _ us hl => match us, hl with | [_], _ => rfl) rfl rfl fun cdv A outer s H E hr => (dss_one (ds_ret (de_sum rfl (by rfl) (T.free 69) (da_cons (de_frz (dl_lc rfl sc_how_many_some.nd (di_seq (de_callH (H_meetings.mono (by omega)) hr (by rfl) (da_cons (de_var 0) da_nil))) (blkOk_by (own := [("many", 1), ("number", 2)]) (by kernel_rfl)) (fun s H C cl fp => (dg_tup2 rfl sc_how_many_some.nd (i := 1) rfl (.inl rfl) (j := 2) rfl (.inl rfl))) (fun s H C cl fp => dts_nil) (fun s H C cl fp => (de_if (dt_c (c_eq hr) (de_mod (de_var 1) de_int) de_int) (de_var 2) (de_neg (de_var 2)))) (by decide))) da_nil))))
/-! how_many_all: 0 doors*, 1 many, 2 number -/
theorem sc_how_many_all : FnScope ["doors", "many", "number"] ["doors"] (defScope s_how_many_all) := ⟨rfl, rfl, rfl, by decide +kernel, rfl, by decide +kernel, by decide +kernel⟩
set_option linter.unusedVariables false in
noncomputable def F_how_many_all : SS := (retS (calE sumD (aCons (frzE (lcL (itE (calE (onD φ_meetings) (aCons (vE 0) aNil))) (gT2 1 2) (tstE (op2 eqD (vE 1) (calE lenD (aCons (vE 0) aNil)))) (vE 2) [1, 2])) aNil)))
noncomputable def φ_how_many_all : List Cell → Option PyData := runC 3 1 F_how_many_all
theorem ok_how_many_all (T : Txt P w K mg base) : Has P w K mg base 9 "how_many_all" φ_how_many_all := by
  obtain ⟨fa, fd, F, hm⟩ := T.def_ 13 13 (x := "how_many_all")
  have H_meetings := ok_meetings T
  exact Has.of F hm sc_how_many_all (fun _ _ _ _ _ _ us hl => match us, hl with | [_], _ => rfl) rfl rfl fun cdv A outer s H E hr => (dss_one (ds_ret (de_sum rfl (by rfl) (T.free 69) (da_cons (de_frz (dl_lc rfl sc_how_many_all.nd (di_seq (de_callH (H_meetings.mono (by omega)) hr (by rfl) (da_cons (de_var 0) da_nil))) (blkOk_by (own := [("many", 1), ("number", 2)]) (by kernel_rfl)) (fun s H C cl fp => (dg_tup2 rfl sc_how_many_all.nd (i := 1) rfl (.inl rfl) (j := 2) rfl (.inl rfl))) (fun s H C cl fp => (dts_one (dt_c (c_eq hr) (de_var 1) (de_len (by rfl) (T.free 61) (da_cons (de_var 0) da_nil))))) (fun s H C cl fp => (de_var 2)) (by decide))) da_nil))))
/-! choose: 0 many, 1 few, 2 found, 3 place -/
theorem sc_choose : FnScope ["many", "few", "found", "place"] ["many", "few"] (defScope s_choose) := ⟨rfl, rfl, rfl, by decide +kernel, rfl, by decide +kernel, by decide +kernel⟩
set_option linter.unusedVariables false in
noncomputable def F_choose : SS := (seqS (setS 2 (cE (.int 1))) (seqS (forS (rngL (vE 1)) (gN 3) (setS 2 (op2 fdivD (op2 mulD (vE 2) (op2 subD (vE 0) (vE 3))) (op2 addD (vE 3) (cE (.int 1)))))) (retS (vE 2))))
noncomputable def φ_choose : List Cell → Option PyData := runC 4 2 F_choose
theorem ok_choose (T : Txt P w K mg base) : Has P w K mg base 1 "choose" φ_choose := by
  obtain ⟨fa, fd, F, hm⟩ := T.def_ 14 14 (x := "choose")
  exact Has.of F hm sc_choose (fun _ _ _ _ _ _ us hl => match us, hl with | [_, _], _ => rfl) rfl rfl fun cdv A outer s H E hr => (dss_cons (ds_set sc_choose.nd (i := 2) rfl (.inl rfl) de_int) (dss_cons (ds_for PassesOwn.never rfl (di_range (by rfl) (T.free 64) (de_var 1)) (dg_name sc_choose.nd (i := 3) rfl (.inl rfl)) (dss_one (ds_set sc_choose.nd (i := 2) rfl (.inl rfl) (de_fdiv (de_mul (de_var 2) (de_sub (de_var 0) (de_var 3))) (de_add (de_var 3) de_int))))) (dss_one (ds_ret (de_var 2)))))
/-! how_many_just: 0 depths, 1 doors, 2 number, 3 found, 4 many, 5 much -/
theorem sc_how_many_just : FnScope ["depths", "doors", "number", "found", "many", "much"] ["depths", "doors", "number"] (defScope s_how_many_just) := ⟨rfl, rfl, rfl, by decide +kernel, rfl, by decide +kernel, by decide +kernel⟩
set_option linter.unusedVariables false in
noncomputable def F_how_many_just : SS := (seqS (ifS (notT (tstE (chE leD leD (cE (.int 0)) (vE 2) (calE lenD (aCons (vE 1) aNil))))) (retS (cE (.int 0))) nxS) (seqS (setS 3 (cE (.int 0))) (seqS (forS (itE (frzE (lstL (aCons (tupE (aCons (cE (.int 0)) (aCons (calE (onD φ_product) (aCons (vE 0) aNil)) aNil))) (aStar (calE (onD φ_meetings) (aCons (vE 1) aNil)) aNil))))) (gT2 4 5) (ifS (tstE (op2 geD (vE 4) (vE 2))) (setS 3 (op2 addD (vE 3) (op2 mulD (calE (onD φ_choose) (aCons (vE 4) (aCons (vE 2) aNil))) (ifE (tstE (op2 eqD (op2 modD (op2 subD (vE 4) (vE 2)) (cE (.int 2))) (cE (.int 0)))) (vE 5) (op1 negD (vE 5)))))) nxS)) (retS (vE 3)))))
noncomputable def φ_how_many_just : List Cell → Option PyData := runC 6 3 F_how_many_just
theorem ok_how_many_just (T : Txt P w K mg base) : Has P w K mg base 9 "how_many_just" φ_how_many_just := by
  obtain ⟨fa, fd, F, hm⟩ := T.def_ 15 15 (x := "how_many_just")
  have H_choose := ok_choose T
  have H_meetings := ok_meetings T
  have H_product := ok_product T
  exact Has.of F hm sc_how_many_just (fun _ _ _ _ _ _ us hl => match us, hl with | [_, _, _], _ => rfl) rfl rfl fun cdv A outer s H E hr => (dss_cons (ds_if (dt_not (dt_ch c_le c_le de_int (de_var 2) (de_len (by rfl) (T.free 61) (da_cons (de_var 1) da_nil)))) (dss_one (ds_ret de_int)) dss_nil) (dss_cons (ds_set sc_how_many_just.nd (i := 3) rfl (.inl rfl) de_int) (dss_cons (ds_for PassesOwn.never rfl (di_seq (de_frz (dl_lst (da_cons (de_tup (da_cons de_int (da_cons (de_callH (H_product.mono (by omega)) hr (by rfl) (da_cons (de_var 0) da_nil)) da_nil))) (da_star (de_callH (H_meetings.mono (by omega)) hr (by rfl) (da_cons (de_var 1) da_nil)) da_nil))))) (dg_tup2 rfl sc_how_many_just.nd (i := 4) rfl (.inl rfl) (j := 5) rfl (.inl rfl)) (dss_one (ds_if (dt_c c_ge (de_var 4) (de_var 2)) (dss_one (ds_set sc_how_many_just.nd (i := 3) rfl (.inl rfl) (de_add (de_var 3) (de_mul (de_callH (H_choose.mono (by omega)) hr (by rfl) (da_cons (de_var 4) (da_cons (de_var 2) da_nil))) (de_if (dt_c (c_eq hr) (de_mod (de_sub (de_var 4) (de_var 2)) de_int) de_int) (de_var 5) (de_neg (de_var 5))))))) dss_nil))) (dss_one (ds_ret (de_var 3))))))
/-! nth_opener: 0 door, 1 number, 2 part, 3 found, 4 rest -/
theorem sc_nth_opener : FnScope ["door", "number", "part", "found", "rest"] ["door", "number"] (defScope s_nth_opener) := ⟨rfl, rfl, rfl, by decide +kernel, rfl, by decide +kernel, by decide +kernel⟩
set_option linter.unusedVariables false in
noncomputable def F_nth_opener : SS := (seqS (ifS (notT (tstE (chE leD ltD (cE (.int 0)) (vE 1) (calE (onD φ_how_many_open) (aCons (vE 0) aNil))))) nevS nxS) (seqS (parO 3 4 (lstL aNil) (vE 1)) (seqS (forS (revL (vE 0)) (gN 2) (seqS (appS 3 (op2 ixD (vE 2) (op2 modD (vE 4) (calE lenD (aCons (vE 2) aNil))))) (setS 4 (op2 fdivD (vE 4) (calE lenD (aCons (vE 2) aNil)))))) (frzS 3 (retS (calE tupOfD (aCons (op1 revD (vE 3)) aNil)))))))
noncomputable def φ_nth_opener : List Cell → Option PyData := runC 5 2 F_nth_opener
theorem ok_nth_opener (T : Txt P w K mg base) : Has P w K mg base 3 "nth_opener" φ_nth_opener := by
  obtain ⟨fa, fd, F, hm⟩ := T.def_ 16 16 (x := "nth_opener")
  have H_how_many_open := ok_how_many_open T
  exact Has.of F hm sc_nth_opener (fun _ _ _ _ _ _ us hl => match us, hl with | [_, _], _ => rfl) rfl rfl fun cdv A outer s H E hr => (dss_cons (ds_if (dt_not (dt_ch c_le c_lt de_int (de_var 1) (de_callH (H_how_many_open.mono (by omega)) hr (by rfl) (da_cons (de_var 0) da_nil)))) dss_never dss_nil) (dss_cons (ds_parO rfl sc_nth_opener.nd (i := 3) (j := 4) rfl rfl (by decide) rfl rfl (dl_lst da_nil) (de_var 1) rfl) (dss_cons (ds_for PassesOwn.never rfl (di_rev (by rfl) (T.free 65) (de_var 0)) (dg_name sc_nth_opener.nd (i := 2) rfl (.inl rfl)) (dss_cons (ds_app 3 (de_ixs (de_var 2) (de_mod (de_var 4) (de_len (by rfl) (T.free 61) (da_cons (de_var 2) da_nil))))) (dss_one (ds_set sc_nth_opener.nd (i := 4) rfl (.inl rfl) (de_fdiv (de_var 4) (de_len (by rfl) (T.free 61) (da_cons (de_var 2) da_nil))))))) (dss_frz 3 (dss_one (ds_ret (de_tuple (by rfl) (T.free 70) (da_cons (de_rev (de_var 3)) da_nil))))))))
/-! nth_of_some: 0 doors, 1 number, 2 left, 3 found, 4 rest, 5 cut*, 6 fresh, 7 many, 8 door, 9 own -/
theorem sc_nth_of_some : FnScope ["doors", "number", "left", "found", "rest", "cut", "fresh", "many", "door", "own"] ["doors", "number"] (defScope s_nth_of_some) := ⟨rfl, rfl, rfl, by decide +kernel, rfl, by decide +kernel, by decide +kernel⟩
set_option linter.unusedVariables false in
noncomputable def F_nth_of_some : SS := (seqS (setS 2 (calE (onD (φ_tupled 6)) (aCons (vE 0) aNil))) (seqS (ifS (notT (tstE (chE leD ltD (cE (.int 0)) (vE 1) (calE (onD φ_how_many_some) (aCons (vE 2) aNil))))) nevS nxS) (seqS (parO 3 4 (lstL aNil) (vE 1)) (seqS (whS 6 (tstE (op2 gtD (calE lenD (aCons (op2 ixD (vE 2) (cE (.int 0))) aNil)) (cE (.int 0)))) (seqS (forS (itE (calE (onD φ_set_of) (aCons (frzE (lcL2 (itE (vE 2)) (gN 8) yesT (itE (op2 ixD (vE 8) (cE (.int 0)))) (gN 9) yesT (vE 9) [8, 9] [9])) aNil))) (gN 5) (seqS (setS 6 (calE tupOfD (aCons (frzE (lcL (itE (vE 2)) (gN 8) (tstE (op2 inD (vE 5) (op2 ixD (vE 8) (cE (.int 0))))) (slE (vE 8) (someO (cE (.int 1))) noO) [8])) aNil))) (seqS (setS 7 (calE (onD φ_how_many_some) (aCons (vE 6) aNil))) (seqS (ifS (tstE (op2 ltD (vE 4) (vE 7))) brkS nxS) (setS 4 (op2 subD (vE 4) (vE 7))))))) (seqS (appS 3 (vE 5)) (setS 2 (vE 6))))) (frzS 3 (retS (calE tupOfD (aCons (vE 3) aNil))))))))
noncomputable def φ_nth_of_some : List Cell → Option PyData := runC 10 2 F_nth_of_some
theorem ok_nth_of_some (T : Txt P w K mg base) : Has P w K mg base 10 "nth_of_some" φ_nth_of_some := by
  obtain ⟨fa, fd, F, hm⟩ := T.def_ 17 17 (x := "nth_of_some")
  have H_how_many_some := ok_how_many_some T
  have H_set_of := ok_set_of T
  have H_tupled := ok_tupled T
  exact Has.of F hm sc_nth_of_some (fun _ _ _ _ _ _ us hl => match us, hl with | [_, _], _ => rfl) rfl rfl fun cdv A outer s H E hr => (dss_cons (ds_set sc_nth_of_some.nd (i := 2) rfl (.inl rfl) (de_callH (H_tupled.mono (by omega)) hr (by rfl) (da_cons (de_var 0) da_nil))) (dss_cons (ds_if (dt_not (dt_ch c_le c_lt de_int (de_var 1) (de_callH (H_how_many_some.mono (by omega)) hr (by rfl) (da_cons (de_var 2) da_nil)))) dss_never dss_nil) (dss_cons (ds_parO rfl sc_nth_of_some.nd (i := 3) (j := 4) rfl rfl (by decide) rfl rfl (dl_lst da_nil) (de_var 1) rfl) (dss_cons (ds_while 6 PassesOwn.never (dt_c c_gt (de_len (by rfl) (T.free 61) (da_cons (de_ixs (de_var 2) de_int) da_nil)) de_int) (dss_cons (ds_for PassesOwn.never rfl (di_seq (de_callH (H_set_of.mono (by omega)) hr (by rfl) (da_cons (de_frz (dl_lc2 rfl sc_nth_of_some.nd (di_seq (de_var 2)) (blkOk_by (own := [("door", 8), ("own", 9)]) (by kernel_rfl)) (vs1 := [9]) (by decide) (fun s H C cl fp => (dg_name sc_nth_of_some.nd (i := 8) rfl (.inl rfl))) (fun s H C cl fp => dts_nil) (fun s H C cl fp => (di_seq (de_ixs (de_var 8) de_int))) (fun s H C cl fp => (dg_name sc_nth_of_some.nd (i := 9) rfl (.inl rfl))) (fun s H C cl fp => dts_nil) (fun s H C cl fp => (de_var 9)) (by decide) (by decide))) da_nil))) (dg_name sc_nth_of_some.nd (i := 5) rfl (.inr rfl)) (dss_cons (ds_set sc_nth_of_some.nd (i := 6) rfl (.inl rfl) (de_tuple (by rfl) (T.free 70) (da_cons (de_frz (dl_lc rfl sc_nth_of_some.nd (di_seq (de_var 2)) (blkOk_by (own := [("door", 8)]) (by kernel_rfl)) (fun s H C cl fp => (dg_name sc_nth_of_some.nd (i := 8) rfl (.inl rfl))) (fun s H C cl fp => (dts_one (dt_c (c_in hr) (de_var 5) (de_ixs (de_var 8) de_int)))) (fun s H C cl fp => (de_slice (de_var 8) (do_some de_int) do_none)) (by decide))) da_nil))) (dss_cons (ds_set sc_nth_of_some.nd (i := 7) rfl (.inl rfl) (de_callH (H_how_many_some.mono (by omega)) hr (by rfl) (da_cons (de_var 6) da_nil))) (dss_cons (ds_if (dt_c c_lt (de_var 4) (de_var 7)) (dss_one ds_brk) dss_nil) (dss_one (ds_set sc_nth_of_some.nd (i := 4) rfl (.inl rfl) (de_sub (de_var 4) (de_var 7)))))))) (dss_cons (ds_app 3 (de_var 5)) (dss_one (ds_set sc_nth_of_some.nd (i := 2) rfl (.inl rfl) (de_var 6)))))) (dss_frz 3 (dss_one (ds_ret (de_tuple (by rfl) (T.free 70) (da_cons (de_var 3) da_nil)))))))))
/-! is_depths: 0 thing, 1 part -/
theorem sc_is_depths : FnScope ["thing", "part"] ["thing"] (defScope s_is_depths) := ⟨rfl, rfl, rfl, by decide +kernel, rfl, by decide +kernel, by decide +kernel⟩
set_option linter.unusedVariables false in
noncomputable def F_is_depths : SS := (retS (andE (op1 (isiD "tuple") (vE 0)) (andE (op2 gtD (calE lenD (aCons (vE 0) aNil)) (cE (.int 0))) (calE allD (aCons (frzE (lcL (itE (vE 0)) (gN 1) yesT (andE (calE (onD φ_is_number) (aCons (vE 1) aNil)) (op2 geD (vE 1) (cE (.int 2)))) [1])) aNil)))))
noncomputable def φ_is_depths : List Cell → Option PyData := runC 2 1 F_is_depths
theorem ok_is_depths (T : Txt P w K mg base) : Has P w K mg base 2 "is_depths" φ_is_depths := by
  obtain ⟨fa, fd, F, hm⟩ := T.def_ 18 18 (x := "is_depths")
  have H_is_number := ok_is_number T
  exact Has.of F hm sc_is_depths (fun _ _ _ _ _ _ us hl => match us, hl with | [_], _ => rfl) rfl rfl fun cdv A outer s H E hr => (dss_one (ds_ret (de_and (de_isi (de_var 0) (by rfl) (T.free 60) (by rfl) (T.free 70) (by decide +kernel) (by decide +kernel)) (de_and (de_c c_gt (de_len (by rfl) (T.free 61) (da_cons (de_var 0) da_nil)) de_int) (de_one (de_all rfl (by rfl) (T.free 55) (da_cons (de_frz (dl_lc rfl sc_is_depths.nd (di_seq (de_var 0)) (blkOk_by (own := [("part", 1)]) (by kernel_rfl)) (fun s H C cl fp => (dg_name sc_is_depths.nd (i := 1) rfl (.inl rfl))) (fun s H C cl fp => dts_nil) (fun s H C cl fp => (de_and (de_callH (H_is_number.mono (by omega)) hr (by rfl) (da_cons (de_var 1) da_nil)) (de_one (de_c c_ge (de_var 1) de_int)))) (by decide))) da_nil)))))))
/-! is_key: 0 depths, 1 thing, 2 cut, 3 depth -/
theorem sc_is_key : FnScope ["depths", "thing", "cut", "depth"] ["depths", "thing"] (defScope s_is_key) := ⟨rfl, rfl, rfl, by decide +kernel, rfl, by decide +kernel, by decide +kernel⟩
set_option linter.unusedVariables false in
noncomputable def F_is_key : SS := (seqS (ifS (orT (notT (tstE (op1 (isiD "tuple") (vE 1)))) (tstE (op2 neD (calE lenD (aCons (vE 1) aNil)) (calE lenD (aCons (vE 0) aNil))))) (retS (cE (.bool false))) nxS) (retS (calE allD (aCons (frzE (lcL (zipL (vE 1) (vE 0)) (gT2 2 3) yesT (andE (calE (onD φ_is_number) (aCons (vE 2) aNil)) (chE leD ltD (cE (.int 0)) (vE 2) (vE 3))) [2, 3])) aNil))))
noncomputable def φ_is_key : List Cell → Option PyData := runC 4 2 F_is_key
theorem ok_is_key (T : Txt P w K mg base) : Has P w K mg base 2 "is_key" φ_is_key := by
  obtain ⟨fa, fd, F, hm⟩ := T.def_ 19 19 (x := "is_key")
  have H_is_number := ok_is_number T
  exact Has.of F hm sc_is_key (fun _ _ _ _ _ _ us hl => match us, hl with | [_, _], _ => rfl) rfl rfl fun cdv A outer s H E hr => (dss_cons (ds_if (dw_or (dt_not (dt_val (de_isi (de_var 1) (by rfl) (T.free 60) (by rfl) (T.free 70) (by decide +kernel) (by decide +kernel)))) (dw_or1 (dt_c (c_ne hr) (de_len (by rfl) (T.free 61) (da_cons (de_var 1) da_nil)) (de_len (by rfl) (T.free 61) (da_cons (de_var 0) da_nil))))).pt (dss_one (ds_ret de_bl)) dss_nil) (dss_one (ds_ret (de_all rfl (by rfl) (T.free 55) (da_cons (de_frz (dl_lc rfl sc_is_key.nd (di_zip (by rfl) (T.free 71) (de_var 1) (de_var 0)) (blkOk_by (own := [("cut", 2), ("depth", 3)]) (by kernel_rfl)) (fun s H C cl fp => (dg_tup2 rfl sc_is_key.nd (i := 2) rfl (.inl rfl) (j := 3) rfl (.inl rfl))) (fun s H C cl fp => dts_nil) (fun s H C cl fp => (de_and (de_callH (H_is_number.mono (by omega)) hr (by rfl) (da_cons (de_var 2) da_nil)) (de_one (de_ch c_le c_lt de_int (de_var 2) (de_var 3))))) (by decide))) da_nil)))))
/-! is_free: 0 common, 1 key*, 2 pin*, 3 other -/
theorem sc_is_free : FnScope ["common", "key", "pin", "other"] ["common", "key", "pin"] (defScope s_is_free) := ⟨rfl, rfl, rfl, by decide +kernel, rfl, by decide +kernel, by decide +kernel⟩
set_option linter.unusedVariables false in
noncomputable def F_is_free : SS := (retS (calE allD (aCons (frzE (lcL (itE (vE 0)) (gN 3) yesT (op2 neD (op2 ixD (vE 3) (vE 2)) (op2 ixD (vE 1) (vE 2))) [3])) aNil)))
noncomputable def φ_is_free : List Cell → Option PyData := runC 4 3 F_is_free
theorem ok_is_free (T : Txt P w K mg base) : Has P w K mg base 1 "is_free" φ_is_free := by
  obtain ⟨fa, fd, F, hm⟩ := T.def_ 20 20 (x := "is_free")
  exact Has.of F hm sc_is_free (fun _ _ _ _ _ _ us hl => match us, hl with | [_, _, _], _ => rfl) rfl rfl fun cdv A outer s H E hr => (dss_one (ds_ret (de_all rfl (by rfl) (T.free 55) (da_cons (de_frz (dl_lc rfl sc_is_free.nd (di_seq (de_var 0)) (blkOk_by (own := [("other", 3)]) (by kernel_rfl)) (fun s H C cl fp => (dg_name sc_is_free.nd (i := 3) rfl (.inl rfl))) (fun s H C cl fp => dts_nil) (fun s H C cl fp => (de_c (c_ne hr) (de_ixs (de_var 3) (de_var 2)) (de_ixs (de_var 1) (de_var 2)))) (by decide))) da_nil))))
/-! free_pins: 0 common*, 1 key*, 2 pin -/
theorem sc_free_pins : FnScope ["common", "key", "pin"] ["common", "key"] (defScope s_free_pins) := ⟨rfl, rfl, rfl, by decide +kernel, rfl, by decide +kernel, by decide +kernel⟩
set_option linter.unusedVariables false in
noncomputable def F_free_pins : SS := (retS (calE tupOfD (aCons (frzE (lcL (rngL (calE lenD (aCons (vE 1) aNil))) (gN 2) (tstE (calE (onD φ_is_free) (aCons (vE 0) (aCons (vE 1) (aCons (vE 2) aNil))))) (vE 2) [2])) aNil)))
noncomputable def φ_free_pins : List Cell → Option PyData := runC 3 2 F_free_pins
theorem ok_free_pins (T : Txt P w K mg base) : Has P w K mg base 2 "free_pins" φ_free_pins := by
  obtain ⟨fa, fd, F, hm⟩ := T.def_ 21 21 (x := "free_pins")
  have H_is_free := ok_is_free T
  exact Has.of F hm sc_free_pins (fun _ _ _ _ _ _ us hl => match us, hl with | [_, _], _ => rfl) rfl rfl fun cdv A outer s H E hr => (dss_one (ds_ret (de_tuple (by rfl) (T.free 70) (da_cons (de_frz (dl_lc rfl sc_free_pins.nd (di_range (by rfl) (T.free 64) (de_len (by rfl) (T.free 61) (da_cons (de_var 1) da_nil))) (blkOk_by (own := [("pin", 2)]) (by kernel_rfl)) (fun s H C cl fp => (dg_name sc_free_pins.nd (i := 2) rfl (.inl rfl))) (fun s H C cl fp => (dts_one (dt_val (de_callH (H_is_free.mono (by omega)) hr (by rfl) (da_cons (de_var 0) (da_cons (de_var 1) (da_cons (de_var 2) da_nil))))))) (fun s H C cl fp => (de_var 2)) (by decide))) da_nil))))
/-! barring_pin: 0 common, 1 one, 2 other, 3 pin -/
theorem sc_barring_pin : FnScope ["common", "one", "other", "pin"] ["common", "one", "other"] (defScope s_barring_pin) := ⟨rfl, rfl, rfl, by decide +kernel, rfl, by decide +kernel, by decide +kernel⟩
set_option linter.unusedVariables false in
noncomputable def F_barring_pin : SS := (seqS (forS (itE (calE (onD φ_free_pins) (aCons (vE 0) (aCons (vE 1) aNil)))) (gN 3) (ifS (tstE (op2 neD (op2 ixD (vE 1) (vE 3)) (op2 ixD (vE 2) (vE 3)))) (retS (vE 3)) nxS)) (retS (cE .none)))
noncomputable def φ_barring_pin : List Cell → Option PyData := runC 4 3 F_barring_pin
theorem ok_barring_pin (T : Txt P w K mg base) : Has P w K mg base 3 "barring_pin" φ_barring_pin := by
  obtain ⟨fa, fd, F, hm⟩ := T.def_ 22 22 (x := "barring_pin")
  have H_free_pins := ok_free_pins T
  exact Has.of F hm sc_barring_pin (fun _ _ _ _ _ _ us hl => match us, hl with | [_, _, _], _ => rfl) rfl rfl fun cdv A outer s H E hr => (dss_cons (ds_for PassesOwn.never rfl (di_seq (de_callH (H_free_pins.mono (by omega)) hr (by rfl) (da_cons (de_var 0) (da_cons (de_var 1) da_nil)))) (dg_name sc_barring_pin.nd (i := 3) rfl (.inl rfl)) (dss_one (ds_if (dt_c (c_ne hr) (de_ixs (de_var 1) (de_var 3)) (de_ixs (de_var 2) (de_var 3))) (dss_one (ds_ret (de_var 3))) dss_nil))) (dss_one (ds_ret de_non)))
/-! opens_room: 0 common, 1 one, 2 other -/
theorem sc_opens_room : FnScope ["common", "one", "other"] ["common", "one", "other"] (defScope s_opens_room) := ⟨rfl, rfl, rfl, by decide +kernel, rfl, by decide +kernel, by decide +kernel⟩
set_option linter.unusedVariables false in
noncomputable def F_opens_room : SS := (retS (op2 isND (calE (onD φ_barring_pin) (aCons (vE 0) (aCons (vE 1) (aCons (vE 2) aNil)))) (cE .none)))
noncomputable def φ_opens_room : List Cell → Option PyData := runC 3 3 F_opens_room
theorem ok_opens_room (T : Txt P w K mg base) : Has P w K mg base 4 "opens_room" φ_opens_room := by
  obtain ⟨fa, fd, F, hm⟩ := T.def_ 23 23 (x := "opens_room")
  have H_barring_pin := ok_barring_pin T
  exact Has.of F hm sc_opens_room (fun _ _ _ _ _ _ us hl => match us, hl with | [_, _, _], _ => rfl) rfl rfl fun cdv A outer s H E hr => (dss_one (ds_ret (de_c c_is (de_callH (H_barring_pin.mono (by omega)) hr (by rfl) (da_cons (de_var 0) (da_cons (de_var 1) (da_cons (de_var 2) da_nil)))) de_non)))
/-! clash: 0 common, 1 keys, 2 own, 3 one, 4 other -/
theorem sc_clash : FnScope ["common", "keys", "own", "one", "other"] ["common", "keys"] (defScope s_clash) := ⟨rfl, rfl, rfl, by decide +kernel, rfl, by decide +kernel, by decide +kernel⟩
set_option linter.unusedVariables false in
noncomputable def F_clash : SS := (seqS (setS 2 (calE (onD (φ_tupled 6)) (aCons (vE 1) aNil))) (seqS (forS (itE (vE 2)) (gN 3) (forS (itE (vE 2)) (gN 4) (ifS (andT (tstE (op2 neD (vE 3) (vE 4))) (tstE (calE (onD φ_opens_room) (aCons (vE 0) (aCons (vE 3) (aCons (vE 4) aNil)))))) (retS (tupE (aCons (vE 3) (aCons (vE 4) aNil)))) nxS))) (retS (cE .none))))
noncomputable def φ_clash : List Cell → Option PyData := runC 5 2 F_clash
theorem ok_clash (T : Txt P w K mg base) : Has P w K mg base 8 "clash" φ_clash := by
  obtain ⟨fa, fd, F, hm⟩ := T.def_ 24 24 (x := "clash")
  have H_opens_room := ok_opens_room T
  have H_tupled := ok_tupled T
  exact Has.of F hm sc_clash (fun _ _ _ _ _ _ us hl => match us, hl with | [_, _], _ => rfl) rfl rfl fun cdv A outer s H E hr => (dss_cons (ds_set sc_clash.nd (i := 2) rfl (.inl rfl) (de_callH (H_tupled.mono (by omega)) hr (by rfl) (da_cons (de_var 1) da_nil))) (dss_cons (ds_for PassesOwn.never rfl (di_seq (de_var 2)) (dg_name sc_clash.nd (i := 3) rfl (.inl rfl)) (dss_one (ds_for PassesOwn.never rfl (di_seq (de_var 2)) (dg_name sc_clash.nd (i := 4) rfl (.inl rfl)) (dss_one (ds_if (dw_and (dt_c (c_ne hr) (de_var 3) (de_var 4)) (dw_and1 (dt_val (de_callH (H_opens_room.mono (by omega)) hr (by rfl) (da_cons (de_var 0) (da_cons (de_var 3) (da_cons (de_var 4) da_nil))))))).pt (dss_one (ds_ret (de_tup (da_cons (de_var 3) (da_cons (de_var 4) da_nil))))) dss_nil))))) (dss_one (ds_ret de_non))))
/-! is_person: 0 depths, 1 thing -/
theorem sc_is_person : FnScope ["depths", "thing"] ["depths", "thing"] (defScope s_is_person) := ⟨rfl, rfl, rfl, by decide +kernel, rfl, by decide +kernel, by decide +kernel⟩
set_option linter.unusedVariables false in
noncomputable def F_is_person : SS := (seqS (ifS (orT (notT (tstE (op1 (isiD "tuple") (vE 1)))) (tstE (op2 neD (calE lenD (aCons (vE 1) aNil)) (cE (.int 2))))) (retS (cE (.bool false))) nxS) (retS (andE (calE (onD φ_is_name) (aCons (op2 ixD (vE 1) (cE (.int 0))) aNil)) (calE (onD φ_is_key) (aCons (vE 0) (aCons (op2 ixD (vE 1) (cE (.int 1))) aNil))))))
noncomputable def φ_is_person : List Cell → Option PyData := runC 2 2 F_is_person
theorem ok_is_person (T : Txt P w K mg base) : Has P w K mg base 3 "is_person" φ_is_person := by
  obtain ⟨fa, fd, F, hm⟩ := T.def_ 25 25 (x := "is_person")
  have H_is_key := ok_is_key T
  have H_is_name := ok_is_name T
  exact Has.of F hm sc_is_person (fun _ _ _ _ _ _ us hl => match us, hl with | [_, _], _ => rfl) rfl rfl fun cdv A outer s H E hr => (dss_cons (ds_if (dw_or (dt_not (dt_val (de_isi (de_var 1) (by rfl) (T.free 60) (by rfl) (T.free 70) (by decide +kernel) (by decide +kernel)))) (dw_or1 (dt_c (c_ne hr) (de_len (by rfl) (T.free 61) (da_cons (de_var 1) da_nil)) (de_globI (by rfl) (T.int 73))))).pt (dss_one (ds_ret de_bl)) dss_nil) (dss_one (ds_ret (de_and (de_callH (H_is_name.mono (by omega)) hr (by rfl) (da_cons (de_ixs (de_var 1) de_int) da_nil)) (de_one (de_callH (H_is_key.mono (by omega)) hr (by rfl) (da_cons (de_var 0) (da_cons (de_ixs (de_var 1) de_int) da_nil))))))))
/-! is_room: 0 names*, 1 thing, 2 name -/
theorem sc_is_room : FnScope ["names", "thing", "name"] ["names", "thing"] (defScope s_is_room) := ⟨rfl, rfl, rfl, by decide +kernel, rfl, by decide +kernel, by decide +kernel⟩
set_option linter.unusedVariables false in
noncomputable def F_is_room : SS := (seqS (ifS (orT (notT (tstE (op1 (isiD "tuple") (vE 1)))) (orT (tstE (op2 neD (calE lenD (aCons (vE 1) aNil)) (cE (.int 2)))) (notT (tstE (calE (onD φ_is_name) (aCons (op2 ixD (vE 1) (cE (.int 0))) aNil)))))) (retS (cE (.bool false))) nxS) (seqS (ifS (orT (notT (tstE (op1 (isiD "tuple") (op2 ixD (vE 1) (cE (.int 1)))))) (tstE (op2 eqD (calE lenD (aCons (op2 ixD (vE 1) (cE (.int 1))) aNil)) (cE (.int 0))))) (retS (cE (.bool false))) nxS) (retS (andE (calE allD (aCons (frzE (lcL (itE (op2 ixD (vE 1) (cE (.int 1)))) (gN 2) yesT (andE (op1 (isiD "str") (vE 2)) (op2 inD (vE 2) (vE 0))) [2])) aNil)) (calE (onD φ_rises) (aCons (op2 ixD (vE 1) (cE (.int 1))) aNil))))))
noncomputable def φ_is_room : List Cell → Option PyData := runC 3 2 F_is_room
theorem ok_is_room (T : Txt P w K mg base) : Has P w K mg base 2 "is_room" φ_is_room := by
  obtain ⟨fa, fd, F, hm⟩ := T.def_ 26 26 (x := "is_room")
  have H_is_name := ok_is_name T
  have H_rises := ok_rises T
  exact Has.of F hm sc_is_room (fun _ _ _ _ _ _ us hl => match us, hl with | [_, _], _ => rfl) rfl rfl fun cdv A outer s H E hr => (dss_cons (ds_if (dw_or (dt_not (dt_val (de_isi (de_var 1) (by rfl) (T.free 60) (by rfl) (T.free 70) (by decide +kernel) (by decide +kernel)))) (dw_or (dt_c (c_ne hr) (de_len (by rfl) (T.free 61) (da_cons (de_var 1) da_nil)) (de_globI (by rfl) (T.int 73))) (dw_or1 (dt_not (dt_val (de_callH (H_is_name.mono (by omega)) hr (by rfl) (da_cons (de_ixs (de_var 1) de_int) da_nil))))))).pt (dss_one (ds_ret de_bl)) dss_nil) (dss_cons (ds_if (dw_or (dt_not (dt_val (de_isi (de_ixs (de_var 1) de_int) (by rfl) (T.free 60) (by rfl) (T.free 70) (by decide +kernel) (by decide +kernel)))) (dw_or1 (dt_c (c_eq hr) (de_len (by rfl) (T.free 61) (da_cons (de_ixs (de_var 1) de_int) da_nil)) de_int))).pt (dss_one (ds_ret de_bl)) dss_nil) (dss_one (ds_ret (de_and (de_all rfl (by rfl) (T.free 55) (da_cons (de_frz (dl_lc rfl sc_is_room.nd (di_seq (de_ixs (de_var 1) de_int)) (blkOk_by (own := [("name", 2)]) (by kernel_rfl)) (fun s H C cl fp => (dg_name sc_is_room.nd (i := 2) rfl (.inl rfl))) (fun s H C cl fp => dts_nil) (fun s H C cl fp => (de_and (de_isi (de_var 2) (by rfl) (T.free 60) (by rfl) (T.free 68) (by decide +kernel) (by decide +kernel)) (de_one (de_c (c_in hr) (de_var 2) (de_var 0))))) (by decide))) da_nil)) (de_one (de_callH (H_rises.mono (by omega)) hr (by rfl) (da_cons (de_ixs (de_var 1) de_int) da_nil))))))))
/-! is_hall: 0 thing, 1 names*, 2 depths*, 3 people, 4 rooms, 5 own -/
theorem sc_is_hall : FnScope ["thing", "names", "depths", "people", "rooms", "own"] ["thing"] (defScope s_is_hall) := ⟨rfl, rfl, rfl, by decide +kernel, rfl, by decide +kernel, by decide +kernel⟩
set_option linter.unusedVariables false in
noncomputable def F_is_hall : SS := (seqS (ifS (orT (notT (tstE (op1 (isiD "tuple") (vE 0)))) (orT (tstE (op2 neD (calE lenD (aCons (vE 0) aNil)) (cE (.int 3)))) (notT (tstE (calE (onD φ_is_depths) (aCons (op2 ixD (vE 0) (cE (.int 0))) aNil)))))) (retS (cE (.bool false))) nxS) (seqS (asgS (vE 0) (gT3 2 3 4)) (seqS (ifS (orT (notT (tstE (op1 (isiD "tuple") (vE 3)))) (orT (tstE (op2 eqD (calE lenD (aCons (vE 3) aNil)) (cE (.int 0)))) (notT (tstE (calE allD (aCons (frzE (lcL (itE (vE 3)) (gN 5) yesT (calE (onD φ_is_person) (aCons (vE 2) (aCons (vE 5) aNil))) [5])) aNil)))))) (retS (cE (.bool false))) nxS) (seqS (setS 1 (frzE (lcL (itE (vE 3)) (gN 5) yesT (op2 ixD (vE 5) (cE (.int 0))) [5]))) (seqS (ifS (orT (notT (tstE (calE (onD φ_rises) (aCons (vE 1) aNil)))) (notT (tstE (op1 (isiD "tuple") (vE 4))))) (retS (cE (.bool false))) nxS) (retS (andE (calE allD (aCons (frzE (lcL (itE (vE 4)) (gN 5) yesT (calE (onD φ_is_room) (aCons (vE 1) (aCons (vE 5) aNil))) [5])) aNil)) (calE (onD φ_rises) (aCons (frzE (lcL (itE (vE 4)) (gN 5) yesT (op2 ixD (vE 5) (cE (.int 0))) [5])) aNil)))))))))
noncomputable def φ_is_hall : List Cell → Option PyData := runC 6 1 F_is_hall
theorem ok_is_hall (T : Txt P w K mg base) : Has P w K mg base 4 "is_hall" φ_is_hall := by
  obtain ⟨fa, fd, F, hm⟩ := T.def_ 27 27 (x := "is_hall")
  have H_is_depths := ok_is_depths T
  have H_is_person := ok_is_person T
  have H_is_room := ok_is_room T
  have H_rises := ok_rises T
  exact Has.of F hm sc_is_hall (fun _ _ _ _ _ _ us hl => match us, hl with | [_], _ => rfl) rfl rfl fun cdv A outer s H E hr => (dss_cons (ds_if (dw_or (dt_not (dt_val (de_isi (de_var 0) (by rfl) (T.free 60) (by rfl) (T.free 70) (by decide +kernel) (by decide +kernel)))) (dw_or (dt_c (c_ne hr) (de_len (by rfl) (T.free 61) (da_cons (de_var 0) da_nil)) (de_globI (by rfl) (T.int 74))) (dw_or1 (dt_not (dt_val (de_callH (H_is_depths.mono (by omega)) hr (by rfl) (da_cons (de_ixs (de_var 0) de_int) da_nil))))))).pt (dss_one (ds_ret de_bl)) dss_nil) (dss_cons (ds_asg (de_var 0) (dg_tup3 rfl sc_is_hall.nd (i := 2) rfl (.inr rfl) (j := 3) rfl (.inl rfl) (k := 4) rfl (.inl rfl))) (dss_cons (ds_if (dw_or (dt_not (dt_val (de_isi (de_var 3) (by rfl) (T.free 60) (by rfl) (T.free 70) (by decide +kernel) (by decide +kernel)))) (dw_or (dt_c (c_eq hr) (de_len (by rfl) (T.free 61) (da_cons (de_var 3) da_nil)) de_int) (dw_or1 (dt_not (dt_val (de_all rfl (by rfl) (T.free 55) (da_cons (de_frz (dl_lc rfl sc_is_hall.nd (di_seq (de_var 3)) (blkOk_by (own := [("own", 5)]) (by kernel_rfl)) (fun s H C cl fp => (dg_name sc_is_hall.nd (i := 5) rfl (.inl rfl))) (fun s H C cl fp => dts_nil) (fun s H C cl fp => (de_callH (H_is_person.mono (by omega)) hr (by rfl) (da_cons (de_var 2) (da_cons (de_var 5) da_nil)))) (by decide))) da_nil))))))).pt (dss_one (ds_ret de_bl)) dss_nil) (dss_cons (ds_set sc_is_hall.nd (i := 1) rfl (.inr rfl) (de_frz (dl_lc rfl sc_is_hall.nd (di_seq (de_var 3)) (blkOk_by (own := [("own", 5)]) (by kernel_rfl)) (fun s H C cl fp => (dg_name sc_is_hall.nd (i := 5) rfl (.inl rfl))) (fun s H C cl fp => dts_nil) (fun s H C cl fp => (de_ixs (de_var 5) de_int)) (by decide)))) (dss_cons (ds_if (dw_or (dt_not (dt_val (de_callH (H_rises.mono (by omega)) hr (by rfl) (da_cons (de_var 1) da_nil)))) (dw_or1 (dt_not (dt_val (de_isi (de_var 4) (by rfl) (T.free 60) (by rfl) (T.free 70) (by decide +kernel) (by decide +kernel)))))).pt (dss_one (ds_ret de_bl)) dss_nil) (dss_one (ds_ret (de_and (de_all rfl (by rfl) (T.free 55) (da_cons (de_frz (dl_lc rfl sc_is_hall.nd (di_seq (de_var 4)) (blkOk_by (own := [("own", 5)]) (by kernel_rfl)) (fun s H C cl fp => (dg_name sc_is_hall.nd (i := 5) rfl (.inl rfl))) (fun s H C cl fp => dts_nil) (fun s H C cl fp => (de_callH (H_is_room.mono (by omega)) hr (by rfl) (da_cons (de_var 1) (da_cons (de_var 5) da_nil)))) (by decide))) da_nil)) (de_one (de_callH (H_rises.mono (by omega)) hr (by rfl) (da_cons (de_frz (dl_lc rfl sc_is_hall.nd (di_seq (de_var 4)) (blkOk_by (own := [("own", 5)]) (by kernel_rfl)) (fun s H C cl fp => (dg_name sc_is_hall.nd (i := 5) rfl (.inl rfl))) (fun s H C cl fp => dts_nil) (fun s H C cl fp => (de_ixs (de_var 5) de_int)) (by decide))) da_nil)))))))))))
/-! keys_in: 0 hall, 1 own -/
theorem sc_keys_in : FnScope ["hall", "own"] ["hall"] (defScope s_keys_in) := ⟨rfl, rfl, rfl, by decide +kernel, rfl, by decide +kernel, by decide +kernel⟩
set_option linter.unusedVariables false in
noncomputable def F_keys_in : SS := (retS (calE dictD (aCons (frzE (lcL (itE (calE (onD (φ_tupled 6)) (aCons (op2 ixD (vE 0) (cE (.int 1))) aNil))) (gN 1) yesT (calE tupOfD (aCons (vE 1) aNil)) [1])) aNil)))
noncomputable def φ_keys_in : List Cell → Option PyData := runC 2 1 F_keys_in
theorem ok_keys_in (T : Txt P w K mg base) : Has P w K mg base 8 "keys_in" φ_keys_in := by
  obtain ⟨fa, fd, F, hm⟩ := T.def_ 28 28 (x := "keys_in")
  have H_tupled := ok_tupled T
  exact Has.of F hm sc_keys_in (fun _ _ _ _ _ _ us hl => match us, hl with | [_], _ => rfl) rfl rfl fun cdv A outer s H E hr => (dss_one (ds_ret (de_dict rfl (by rfl) (T.free 57) (da_cons (de_frz (dl_lc rfl sc_keys_in.nd (di_seq (de_callH (H_tupled.mono (by omega)) hr (by rfl) (da_cons (de_ixs (de_var 0) de_int) da_nil))) (blkOk_by (own := [("own", 1)]) (by kernel_rfl)) (fun s H C cl fp => (dg_name sc_keys_in.nd (i := 1) rfl (.inl rfl))) (fun s H C cl fp => dts_nil) (fun s H C cl fp => (de_tuple (by rfl) (T.free 70) (da_cons (de_var 1) da_nil))) (by decide))) da_nil))))
/-! sets_in: 0 hall, 1 own -/
theorem sc_sets_in : FnScope ["hall", "own"] ["hall"] (defScope s_sets_in) := ⟨rfl, rfl, rfl, by decide +kernel, rfl, by decide +kernel, by decide +kernel⟩
set_option linter.unusedVariables false in
noncomputable def F_sets_in : SS := (retS (calE dictD (aCons (frzE (lcL (itE (calE (onD (φ_tupled 6)) (aCons (op2 ixD (vE 0) (cE (.int 2))) aNil))) (gN 1) yesT (calE tupOfD (aCons (vE 1) aNil)) [1])) aNil)))
noncomputable def φ_sets_in : List Cell → Option PyData := runC 2 1 F_sets_in
theorem ok_sets_in (T : Txt P w K mg base) : Has P w K mg base 8 "sets_in" φ_sets_in := by
  obtain ⟨fa, fd, F, hm⟩ := T.def_ 29 29 (x := "sets_in")
  have H_tupled := ok_tupled T
  exact Has.of F hm sc_sets_in (fun _ _ _ _ _ _ us hl => match us, hl with | [_], _ => rfl) rfl rfl fun cdv A outer s H E hr => (dss_one (ds_ret (de_dict rfl (by rfl) (T.free 57) (da_cons (de_frz (dl_lc rfl sc_sets_in.nd (di_seq (de_callH (H_tupled.mono (by omega)) hr (by rfl) (da_cons (de_ixs (de_var 0) de_int) da_nil))) (blkOk_by (own := [("own", 1)]) (by kernel_rfl)) (fun s H C cl fp => (dg_name sc_sets_in.nd (i := 1) rfl (.inl rfl))) (fun s H C cl fp => dts_nil) (fun s H C cl fp => (de_tuple (by rfl) (T.free 70) (da_cons (de_var 1) da_nil))) (by decide))) da_nil))))
/-! check: 0 table, 1 name -/
theorem sc_check : FnScope ["table", "name"] ["table", "name"] (defScope s_check) := ⟨rfl, rfl, rfl, by decide +kernel, rfl, by decide +kernel, by decide +kernel⟩
set_option linter.unusedVariables false in
noncomputable def F_check : SS := (ifS (tstE (op2 dniD (vE 1) (vE 0))) nevS nxS)
noncomputable def φ_check : List Cell → Option PyData := runC 2 2 F_check
theorem ok_check (T : Txt P w K mg base) : Has P w K mg base 1 "check" φ_check := by
  obtain ⟨fa, fd, F, hm⟩ := T.def_ 30 30 (x := "check")
  exact Has.of F hm sc_check (fun _ _ _ _ _ _ us hl => match us, hl with | [_, _], _ => rfl) rfl rfl fun cdv A outer s H E hr => (dss_one (ds_if (dt_dni (u1 hr) (de_var 1) (de_var 0)) dss_never dss_nil))
/-! openers: 0 keys*, 1 names, 2 door*, 3 name -/
theorem sc_openers : FnScope ["keys", "names", "door", "name"] ["keys", "names"] (defScope s_openers) := ⟨rfl, rfl, rfl, by decide +kernel, rfl, by decide +kernel, by decide +kernel⟩
set_option linter.unusedVariables false in
noncomputable def F_openers : SS := (seqS (setS 2 (calE (onD φ_door_for) (aCons (frzE (lcL (itE (vE 1)) (gN 3) yesT (op2 dgetD (vE 0) (vE 3)) [3])) aNil))) (retS (calE tupOfD (aCons (frzE (lcL (itE (frzE (calL sortAD (aCons (vE 0) aNil)))) (gN 3) (tstE (calE (onD φ_opens) (aCons (vE 2) (aCons (op2 dgetD (vE 0) (vE 3)) aNil)))) (vE 3) [3])) aNil))))
noncomputable def φ_openers : List Cell → Option PyData := runC 4 2 F_openers
theorem ok_openers (T : Txt P w K mg base) : Has P w K mg base 3 "openers" φ_openers := by
  obtain ⟨fa, fd, F, hm⟩ := T.def_ 31 31 (x := "openers")
  have H_door_for := ok_door_for T
  have H_opens := ok_opens T
  exact Has.of F hm sc_openers (fun _ _ _ _ _ _ us hl => match us, hl with | [_, _], _ => rfl) rfl rfl fun cdv A outer s H E hr => (dss_cons (ds_set sc_openers.nd (i := 2) rfl (.inr rfl) (de_callH (H_door_for.mono (by omega)) hr (by rfl) (da_cons (de_frz (dl_lc rfl sc_openers.nd (di_seq (de_var 1)) (blkOk_by (own := [("name", 3)]) (by kernel_rfl)) (fun s H C cl fp => (dg_name sc_openers.nd (i := 3) rfl (.inl rfl))) (fun s H C cl fp => dts_nil) (fun s H C cl fp => (de_dget (u1 hr) (de_var 0) (de_var 3))) (by decide))) da_nil))) (dss_one (ds_ret (de_tuple (by rfl) (T.free 70) (da_cons (de_frz (dl_lc rfl sc_openers.nd (di_seq (de_frz (dl_sorted hr rfl (by rfl) (T.free 67) (da_cons (de_var 0) da_nil)))) (blkOk_by (own := [("name", 3)]) (by kernel_rfl)) (fun s H C cl fp => (dg_name sc_openers.nd (i := 3) rfl (.inl rfl))) (fun s H C cl fp => (dts_one (dt_val (de_callH (H_opens.mono (by omega)) hr (by rfl) (da_cons (de_var 2) (da_cons (de_dget (u1 hr) (de_var 0) (de_var 3)) da_nil)))))) (fun s H C cl fp => (de_var 3)) (by decide))) da_nil)))))
/-! who_opens: 0 hall, 1 room, 2 sets -/
theorem sc_who_opens : FnScope ["hall", "room", "sets"] ["hall", "room"] (defScope s_who_opens) := ⟨rfl, rfl, rfl, by decide +kernel, rfl, by decide +kernel, by decide +kernel⟩
set_option linter.unusedVariables false in
noncomputable def F_who_opens : SS := (seqS (setS 2 (calE (onD φ_sets_in) (aCons (vE 0) aNil))) (seqS (exprS (calE (onD φ_check) (aCons (vE 2) (aCons (vE 1) aNil)))) (retS (calE (onD φ_openers) (aCons (calE (onD φ_keys_in) (aCons (vE 0) aNil)) (aCons (op2 dgetD (vE 2) (vE 1)) aNil))))))
noncomputable def φ_who_opens : List Cell → Option PyData := runC 3 2 F_who_opens
theorem ok_who_opens (T : Txt P w K mg base) : Has P w K mg base 9 "who_opens" φ_who_opens := by
  obtain ⟨fa, fd, F, hm⟩ := T.def_ 32 32 (x := "who_opens")
  have H_check := ok_check T
  have H_keys_in := ok_keys_in T
  have H_openers := ok_openers T
  have H_sets_in := ok_sets_in T
  exact Has.of F hm sc_who_opens (fun _ _ _ _ _ _ us hl => match us, hl with | [_, _], _ => rfl) rfl rfl fun cdv A outer s H E hr => (dss_cons (ds_set sc_who_opens.nd (i := 2) rfl (.inl rfl) (de_callH (H_sets_in.mono (by omega)) hr (by rfl) (da_cons (de_var 0) da_nil))) (dss_cons (ds_expr (de_callH (H_check.mono (by omega)) hr (by rfl) (da_cons (de_var 2) (da_cons (de_var 1) da_nil)))) (dss_one (ds_ret (de_callH (H_openers.mono (by omega)) hr (by rfl) (da_cons (de_callH (H_keys_in.mono (by omega)) hr (by rfl) (da_cons (de_var 0) da_nil)) (da_cons (de_dget (u1 hr) (de_var 2) (de_var 1)) da_nil)))))))
/-! strangers: 0 hall, 1 room, 2 found, 3 some*, 4 name -/
theorem sc_strangers : FnScope ["hall", "room", "found", "some", "name"] ["hall", "room"] (defScope s_strangers) := ⟨rfl, rfl, rfl, by decide +kernel, rfl, by decide +kernel, by decide +kernel⟩
set_option linter.unusedVariables false in
noncomputable def F_strangers : SS := (seqS (asgS (tupE (aCons (calE (onD φ_who_opens) (aCons (vE 0) (aCons (vE 1) aNil))) (aCons (op2 dgetD (calE (onD φ_sets_in) (aCons (vE 0) aNil)) (vE 1)) aNil))) (gT2 2 3)) (retS (calE tupOfD (aCons (frzE (lcL (itE (vE 2)) (gN 4) (tstE (op2 notInD (vE 4) (vE 3))) (vE 4) [4])) aNil))))
noncomputable def φ_strangers : List Cell → Option PyData := runC 5 2 F_strangers
theorem ok_strangers (T : Txt P w K mg base) : Has P w K mg base 10 "strangers" φ_strangers := by
  obtain ⟨fa, fd, F, hm⟩ := T.def_ 33 33 (x := "strangers")
  have H_sets_in := ok_sets_in T
  have H_who_opens := ok_who_opens T
  exact Has.of F hm sc_strangers (fun _ _ _ _ _ _ us hl => match us, hl with | [_, _], _ => rfl) rfl rfl fun cdv A outer s H E hr => (dss_cons (ds_asg (de_tup (da_cons (de_callH (H_who_opens.mono (by omega)) hr (by rfl) (da_cons (de_var 0) (da_cons (de_var 1) da_nil))) (da_cons (de_dget (u1 hr) (de_callH (H_sets_in.mono (by omega)) hr (by rfl) (da_cons (de_var 0) da_nil)) (de_var 1)) da_nil))) (dg_tup2 rfl sc_strangers.nd (i := 2) rfl (.inl rfl) (j := 3) rfl (.inr rfl))) (dss_one (ds_ret (de_tuple (by rfl) (T.free 70) (da_cons (de_frz (dl_lc rfl sc_strangers.nd (di_seq (de_var 2)) (blkOk_by (own := [("name", 4)]) (by kernel_rfl)) (fun s H C cl fp => (dg_name sc_strangers.nd (i := 4) rfl (.inl rfl))) (fun s H C cl fp => (dts_one (dt_c (c_ni hr) (de_var 4) (de_var 3)))) (fun s H C cl fp => (de_var 4)) (by decide))) da_nil)))))
/-! clashes: 0 depths, 1 common*, 2 own, 3 keys*, 4 one, 5 other -/
theorem sc_clashes : FnScope ["depths", "common", "own", "keys", "one", "other"] ["depths", "common", "own"] (defScope s_clashes) := ⟨rfl, rfl, rfl, by decide +kernel, rfl, by decide +kernel, by decide +kernel⟩
set_option linter.unusedVariables false in
noncomputable def F_clashes : SS := (seqS (setS 3 (calE (onD (φ_tupled 6)) (aCons (vE 2) aNil))) (retS (frzE (lcL2 (itE (vE 3)) (gN 4) yesT (itE (vE 3)) (gN 5) (andT (tstE (op2 neD (vE 4) (vE 5))) (tstE (calE (onD φ_opens_room) (aCons (vE 1) (aCons (vE 4) (aCons (vE 5) aNil)))))) (tupE (aCons (vE 4) (aCons (vE 5) aNil))) [4, 5] [5]))))
noncomputable def φ_clashes : List Cell → Option PyData := runC 6 3 F_clashes
theorem ok_clashes (T : Txt P w K mg base) : Has P w K mg base 8 "clashes" φ_clashes := by
  obtain ⟨fa, fd, F, hm⟩ := T.def_ 36 36 (x := "clashes")
  have H_opens_room := ok_opens_room T
  have H_tupled := ok_tupled T
  exact Has.of F hm sc_clashes (fun _ _ _ _ _ _ us hl => match us, hl with | [_, _, _], _ => rfl) rfl rfl fun cdv A outer s H E hr => (dss_cons (ds_set sc_clashes.nd (i := 3) rfl (.inr rfl) (de_callH (H_tupled.mono (by omega)) hr (by rfl) (da_cons (de_var 2) da_nil))) (dss_one (ds_ret (de_frz (dl_lc2 rfl sc_clashes.nd (di_seq (de_var 3)) (blkOk_by (own := [("one", 4), ("other", 5)]) (by kernel_rfl)) (vs1 := [5]) (by decide) (fun s H C cl fp => (dg_name sc_clashes.nd (i := 4) rfl (.inl rfl))) (fun s H C cl fp => dts_nil) (fun s H C cl fp => (di_seq (de_var 3))) (fun s H C cl fp => (dg_name sc_clashes.nd (i := 5) rfl (.inl rfl))) (fun s H C cl fp => (dts_one (dw_and (dt_c (c_ne hr) (de_var 4) (de_var 5)) (dw_and1 (dt_val (de_callH (H_opens_room.mono (by omega)) hr (by rfl) (da_cons (de_var 1) (da_cons (de_var 4) (da_cons (de_var 5) da_nil))))))).pt)) (fun s H C cl fp => (de_tup (da_cons (de_var 4) (da_cons (de_var 5) da_nil)))) (by decide) (by decide))))))
/-! is_quiet: 0 depths, 1 common, 2 own -/
theorem sc_is_quiet : FnScope ["depths", "common", "own"] ["depths", "common", "own"] (defScope s_is_quiet) := ⟨rfl, rfl, rfl, by decide +kernel, rfl, by decide +kernel, by decide +kernel⟩
set_option linter.unusedVariables false in
noncomputable def F_is_quiet : SS := (retS (op2 eqD (calE lenD (aCons (calE (onD φ_clashes) (aCons (vE 0) (aCons (vE 1) (aCons (vE 2) aNil)))) aNil)) (cE (.int 0))))
noncomputable def φ_is_quiet : List Cell → Option PyData := runC 3 3 F_is_quiet
theorem ok_is_quiet (T : Txt P w K mg base) : Has P w K mg base 9 "is_quiet" φ_is_quiet := by
  obtain ⟨fa, fd, F, hm⟩ := T.def_ 37 37 (x := "is_quiet")
  have H_clashes := ok_clashes T
  exact Has.of F hm sc_is_quiet (fun _ _ _ _ _ _ us hl => match us, hl with | [_, _, _], _ => rfl) rfl rfl fun cdv A outer s H E hr => (dss_one (ds_ret (de_c (c_eq hr) (de_len (by rfl) (T.free 61) (da_cons (de_callH (H_clashes.mono (by omega)) hr (by rfl) (da_cons (de_var 0) (da_cons (de_var 1) (da_cons (de_var 2) da_nil)))) da_nil)) de_int)))
end
end U
set_option maxHeartbeats 4000000
/-! A def that gives a new dict. -/
namespace U
open PySem PySem.Spec PyProof.Rows L2 Hd
def dictK (ds : List PyData) : Option (List (PyData × PyData)) := match dictD ds with
  | some (.dict kv) => some kv
  | _ => none
def spDD (ψ : List Cell → Option (List (PyData × PyData))) : Sp := fun vs H Q _ => ∃ F cs kv, Ex F H ∧ DaCs F vs cs ∧ ψ cs = some kv ∧ ∀ p kvs F' H', Grow F H F' H' → H p = none → F' p = none → H' p = some (.dK kvs) → DaKv F' kvs kv → Q (.ref p) H'
def ddE (ψ : List Cell → Option (List (PyData × PyData))) (u : SA) : Rho → Option (List (PyData × PyData)) := fun ρ => (u ρ).bind fun ds => ψ (ds.map .dat)
def kyL (ψ : List Cell → Option (List (PyData × PyData))) (u : SA) : SA := fun ρ => (ddE ψ u ρ).map keysOf
def HasDD (P : Program) (w : World) (K : PySem.W.Frag) (mg : Str → Option Value) (base : Heap) (k : Nat) (x : Str) (ψ : List Cell → Option (List (PyData × PyData))) : Prop :=
  ∃ fa fd ps, FnOk P w K mg base CX0 k fa fd ps (spDD ψ) ∧ mg x = some (.ref fa) ∧ PySem.W.keepIn K (.ref fa) = true ∧ Binds K fd ps []
theorem HasDD.mono {P : Program} {w : World} {K : PySem.W.Frag} {mg : Str → Option Value} {base : Heap} {j k : Nat} {x : Str} {ψ : List Cell → Option (List (PyData × PyData))} (h : HasDD P w K mg base j x ψ) (hk : j ≤ k) : HasDD P w K mg base k x ψ :=
  let ⟨fa, fd, ps, h1, h2⟩ := h; ⟨fa, fd, ps, h1.mono hk, h2⟩
def dicE (u : SA) : Rho → Option (List (PyData × PyData)) := fun ρ => (u ρ).bind dictK
section
variable {X : Cx} {e : Expr} {es : List Expr} {u : SA} {pos p : Pos} {k : Nat} {x : Str} {ψ : List Cell → Option (List (PyData × PyData))}
theorem pe_dictN (hc : X.calm = true) (hg : Gl X "dict") (hm : X.mg "dict" = none) (ha : DA X (e :: es) u) (hs : starEach (e :: es) X.env = (false, eval e X.env) :: starEach es X.env := by rfl) (hp : (backTo pos (starEach es X.env)).any (·.1) = false := by rfl) :
    PE X (.Call (.Name "dict" p) (e :: es) [] pos) (tDD (dicE u)) := weakE (pe_callTy (call_dictP hc) hg hm (by decide +kernel) ha (by decide) (by decide) hs hp) fun σ H Q w => by
  obtain ⟨F, ρ, kv, R, e0, q⟩ := w
  obtain ⟨ds, e1, e2⟩ := bnd e0
  refine ⟨F, ρ, ds, R, e1, fun vs F1 H1 g1 dv => ?_⟩
  have e3 : ∃ kv', dictD ds = some (.dict kv') ∧ kv' = kv := by
    unfold dictK at e2
    split at e2
    · exact ⟨_, by assumption, by cases e2; rfl⟩
    · cases e2
  obtain ⟨kv', e4, e5⟩ := e3
  subst e5
  refine cd_dict0 g1.fh dv e4 fun p kvs es' e6 hp hk => ?_
  cases e6
  exact q p kvs F1 _ (g1.trans (Grow.side g1.fh hp)) (g1.hh.back hp) (g1.fh.back hp) upd_same hk
theorem pe_callDD (G : HasDD X.prog X.w X.K X.mg X.base k x ψ) (hr : Room k X.A) (hg : Gl X x) (ha : DA X (e :: es) u)
    (hd : (x == ("__debug__" : Str)) = false := by decide) (hs : starEach (e :: es) X.env = (false, eval e X.env) :: starEach es X.env := by rfl) (hp : (backTo pos (starEach es X.env)).any (·.1) = false := by rfl) :
    PE X (.Call (.Name x p) (e :: es) [] pos) (tDD (ddE ψ u)) := by
  obtain ⟨fa, fd, ps, h1, h2, h3, h4⟩ := G
  exact weakE (pe_call h1 hr hg h2 h3 h4 .nil pass0 ha hd hs hp) fun σ H Q w => by
    obtain ⟨F, ρ, kv, R, e, q⟩ := w
    obtain ⟨ds, e1, e2⟩ := bnd e
    refine ⟨F, ρ, ds, R, e1, fun vs F1 H1 g1 dv => ?_⟩
    exact ⟨F1, ds.map .dat, kv, g1.fh, by rw [List.append_nil]; exact DaCs.of dv, e2, fun p kvs F2 H2 g2 n1 n2 hp hk => q p kvs F2 H2 (g1.trans g2) (g1.hh.back n1) n2 hp hk⟩
end
section
variable {P : Program} {w : World} {K : PySem.W.Frag} {mg : Str → Option Value} {base : Heap}
def runDD (n np : Nat) (f : Rho → Option (List (PyData × PyData))) : List Cell → Option (List (PyData × PyData)) := fun cs => if cs.length = np then f (startC n cs) else none
theorem HasDD.of {k np : Nat} {x qual : Str} {params : Arguments} {e : Expr} {pos : Pos} {scope : Scope} {N ps : List Str} {f : Rho → Option (List (PyData × PyData))} {n : Nat} {fa : Addr} {fd : FuncData} (F : FunD K x qual params [.Return (some e) pos] scope [] [] fa fd) (hm : mg x = some (.ref fa)) (S : FnScope N ps scope)
    (hb : ∀ (kV doc pm : Value) (an : Option Addr) (cdv ct : Value) (us : List Value), us.length = ps.length → bindArgs (PySem.W.fnOf x qual params [.Return (some e) pos] scope .none kV doc pm an cdv ct) ⟨us, []⟩ = pure (ps.zip us))
    (hn : ps.length = np) (hN : N.length = n)
    (h : ∀ (cdv : Value) (A : Around) (outer : List Env) (s : Shared) (H : Hp) (E : XK), Room k (A.deeper (envOfC qual scope s.heap.objs.size fa cdv)) → PE (cx1 P w K mg base N qual scope fa cdv A outer s H E) e (tDD f)) :
    HasDD P w K mg base (k + 1) x (runDD n np f) := by
  subst hn hN
  refine ⟨fa, fd, ps, ?_, hm, F.kp, F.bindsN hb⟩
  refine F.ok S (fun vs H Q E w => ?_) fun cdv A outer s H vs Q E hr w => ⟨tRet (tDD f), PSs.nox (pss_one (ps_ret (h cdv A outer s H E hr))), ?_⟩
  · obtain ⟨F, cs, kv, ef, dv, e, q⟩ := w
    unfold runDD at e
    split at e
    · rw [dv.length]; assumption
    · cases e
  · obtain ⟨F, cs, kv, ef, dv, e, q⟩ := w
    unfold runDD at e
    split at e
    · exact ⟨F, _, kv, start_rep ef dv, e, q⟩
    · cases e
noncomputable def ψ_sets_in : List Cell → Option (List (PyData × PyData)) := runDD 2 1 (dicE (aCons (frzE (lcL (itE (calE (onD (φ_tupled 6)) (aCons (op2 ixD (vE 0) (cE (.int 2))) aNil))) (gN 1) yesT (calE tupOfD (aCons (vE 1) aNil)) [1])) aNil))
theorem okD_sets_in (T : Txt P w K mg base) : HasDD P w K mg base 8 "sets_in" ψ_sets_in := by
  obtain ⟨fa, fd, F, hm⟩ := T.def_ 29 29 (x := "sets_in")
  have H_tupled := ok_tupled T
  exact HasDD.of F hm sc_sets_in (fun _ _ _ _ _ _ us hl => match us, hl with | [_], _ => rfl) rfl rfl fun cdv A outer s H E hr => (pe_dictN rfl (by rfl) (T.free 57) (da_cons (de_frz (dl_lc rfl sc_sets_in.nd (di_seq (de_callH (H_tupled.mono (by omega)) hr (by rfl) (da_cons (de_ixs (de_var 0) de_int) da_nil))) (blkOk_by (own := [("own", 1)]) (by kernel_rfl)) (fun s H C cl fp => (dg_name sc_sets_in.nd (i := 1) rfl (.inl rfl))) (fun s H C cl fp => dts_nil) (fun s H C cl fp => (de_tuple (by rfl) (T.free 70) (da_cons (de_var 1) da_nil))) (by decide))) da_nil))
end
end U
set_option maxHeartbeats 0
/-! The walk, printed by gen_walk.py: part B. -/
namespace U
open PySem PySem.Spec PyProof.Rows L2 Hd
section
variable {P : Program} {w : World} {K : PySem.W.Frag} {mg : Str → Option Value} {base : Heap}
/-! strange: 0 hall*, 1 room, 2 name -/
theorem sc_strange : FnScope ["hall", "room", "name"] ["hall"] (defScope s_strange) := ⟨rfl, rfl, rfl, by decide +kernel, rfl, by decide +kernel, by decide +kernel⟩
set_option linter.unusedVariables false in
noncomputable def F_strange : SS := (retS (calE (onD φ_set_of) (aCons (frzE (lcL2 (kyL ψ_sets_in (aCons (vE 0) aNil)) (gN 1) yesT (itE (calE (onD φ_strangers) (aCons (vE 0) (aCons (vE 1) aNil)))) (gN 2) yesT (tupE (aCons (vE 2) (aCons (vE 1) aNil))) [1, 2] [2])) aNil)))
noncomputable def φ_strange : List Cell → Option PyData := runC 3 1 F_strange
theorem ok_strange (T : Txt P w K mg base) : Has P w K mg base 11 "strange" φ_strange := by
  obtain ⟨fa, fd, F, hm⟩ := T.def_ 34 34 (x := "strange")
  have H_set_of := ok_set_of T
  have H_sets_in := ok_sets_in T
  have H_strangers := ok_strangers T
  have HD := okD_sets_in T
  exact Has.of F hm sc_strange (fun _ _ _ _ _ _ us hl => match us, hl with | [_], _ => rfl) rfl rfl fun cdv A outer s H E hr => (dss_one (ds_ret (de_callH (H_set_of.mono (by omega)) hr (by rfl) (da_cons (de_frz (dl_lc2 rfl sc_strange.nd (di_keys (pe_callDD (HD.mono (by omega)) hr (by rfl) (da_cons (de_var 0) da_nil))) (blkOk_by (own := [("room", 1), ("name", 2)]) (by kernel_rfl)) (vs1 := [2]) (by decide) (fun s H C cl fp => (dg_name sc_strange.nd (i := 1) rfl (.inl rfl))) (fun s H C cl fp => dts_nil) (fun s H C cl fp => (di_seq (de_callH (H_strangers.mono (by omega)) hr (by rfl) (da_cons (de_var 0) (da_cons (de_var 1) da_nil))))) (fun s H C cl fp => (dg_name sc_strange.nd (i := 2) rfl (.inl rfl))) (fun s H C cl fp => dts_nil) (fun s H C cl fp => (de_tup (da_cons (de_var 2) (da_cons (de_var 1) da_nil)))) (by decide) (by decide))) da_nil))))
/-! is_kept: 0 hall -/
theorem sc_is_kept : FnScope ["hall"] ["hall"] (defScope s_is_kept) := ⟨rfl, rfl, rfl, by decide +kernel, rfl, by decide +kernel, by decide +kernel⟩
set_option linter.unusedVariables false in
noncomputable def F_is_kept : SS := (retS (op2 eqD (calE (onD φ_strange) (aCons (vE 0) aNil)) (tupE aNil)))
noncomputable def φ_is_kept : List Cell → Option PyData := runC 1 1 F_is_kept
theorem ok_is_kept (T : Txt P w K mg base) : Has P w K mg base 12 "is_kept" φ_is_kept := by
  obtain ⟨fa, fd, F, hm⟩ := T.def_ 35 35 (x := "is_kept")
  have H_strange := ok_strange T
  exact Has.of F hm sc_is_kept (fun _ _ _ _ _ _ us hl => match us, hl with | [_], _ => rfl) rfl rfl fun cdv A outer s H E hr => (dss_one (ds_ret (de_c (c_eq hr) (de_callH (H_strange.mono (by omega)) hr (by rfl) (da_cons (de_var 0) da_nil)) (de_tup da_nil))))
/-! _law_same: 0 _law_got*, 1 _law_due*, 2 _law_lot_so, 3 _law_mine, 4 _law_its -/
theorem sc_L_same : FnScope ["_law_got", "_law_due", "_law_lot_so", "_law_mine", "_law_its"] ["_law_got", "_law_due"] (defScope s_L_same) := ⟨rfl, rfl, rfl, by decide +kernel, rfl, by decide +kernel, by decide +kernel⟩
set_option linter.unusedVariables false in
noncomputable def F_L_same (φ : List Cell → Option PyData) : SS := (seqS (ifS (tstE (op1 (isi2D "list" "tuple") (vE 1))) (seqS (ifS (orT (tstE (op2 neD (op1 (isiD "list") (vE 0)) (op1 (isiD "list") (vE 1)))) (tstE (op2 neD (op1 (isiD "tuple") (vE 0)) (op1 (isiD "tuple") (vE 1))))) (retS (cE (.bool false))) nxS) (retS (andE (op2 eqD (calE lenD (aCons (vE 0) aNil)) (calE lenD (aCons (vE 1) aNil))) (calE allD (aCons (frzE (lcL (zipL (vE 0) (vE 1)) (gT2 3 4) yesT (calE (onD φ) (aCons (vE 3) (aCons (vE 4) aNil))) [3, 4])) aNil))))) nxS) (seqS (ifS (tstE (op1 (isiD "dict") (vE 1))) nevS nxS) (seqS (ifS (orT (tstE (op2 isND (vE 1) (cE .none))) (tstE (op1 (isi2D "bool" "str") (vE 1)))) (retS (andE (op2 eqD (vE 0) (vE 1)) (andE (op2 eqD (op1 (isiD "bool") (vE 0)) (op1 (isiD "bool") (vE 1))) (op2 eqD (op2 isND (vE 0) (cE .none)) (op2 isND (vE 1) (cE .none)))))) nxS) (retS (andE (op1 (isiD "int") (vE 0)) (andE (notE (op1 (isiD "bool") (vE 0))) (op2 eqD (vE 0) (vE 1))))))))
noncomputable def φ_L_same : Nat → List Cell → Option PyData
  | 0 => runC 5 2 nevS
  | m + 1 => runC 5 2 (F_L_same (φ_L_same m))
theorem okr_L_same (T : Txt P w K mg base) : ∀ m, Has P w K mg base (m + 1) "_law_same" (φ_L_same m)
  | 0 => by
    obtain ⟨fa, fd, F, hm⟩ := T.def_ 41 41 (x := "_law_same")
    exact (Has.of (k := 0) F hm sc_L_same (fun _ _ _ _ _ _ us hl => match us, hl with | [_, _], _ => rfl) rfl rfl fun cdv A outer s H E hr => dss_never).mono (by omega)
  | m + 1 => by
    obtain ⟨fa, fd, F, hm⟩ := T.def_ 41 41 (x := "_law_same")
    have G := okr_L_same T m
    rw [show m + 1 + 1 = (m + 1) + 1 from by omega]
    exact Has.of F hm sc_L_same (fun _ _ _ _ _ _ us hl => match us, hl with | [_, _], _ => rfl) rfl rfl fun cdv A outer s H E hr => (dss_cons (ds_if (dt_val (de_isi2 (de_var 1) (by rfl) (T.free 60) (by rfl) (T.free 62) (by decide +kernel) (by decide +kernel) (by rfl) (T.free 70) (by decide +kernel) (by decide +kernel))) (dss_cons (ds_if (dw_or (dt_c (c_ne hr) (de_isi (de_var 0) (by rfl) (T.free 60) (by rfl) (T.free 62) (by decide +kernel) (by decide +kernel)) (de_isi (de_var 1) (by rfl) (T.free 60) (by rfl) (T.free 62) (by decide +kernel) (by decide +kernel))) (dw_or1 (dt_c (c_ne hr) (de_isi (de_var 0) (by rfl) (T.free 60) (by rfl) (T.free 70) (by decide +kernel) (by decide +kernel)) (de_isi (de_var 1) (by rfl) (T.free 60) (by rfl) (T.free 70) (by decide +kernel) (by decide +kernel))))).pt (dss_one (ds_ret de_bl)) dss_nil) (dss_one (ds_ret (de_and (de_c (c_eq hr) (de_len (by rfl) (T.free 61) (da_cons (de_var 0) da_nil)) (de_len (by rfl) (T.free 61) (da_cons (de_var 1) da_nil))) (de_one (de_all rfl (by rfl) (T.free 55) (da_cons (de_frz (dl_lc rfl sc_L_same.nd (di_zip (by rfl) (T.free 71) (de_var 0) (de_var 1)) (blkOk_by (own := [("_law_mine", 3), ("_law_its", 4)]) (by kernel_rfl)) (fun s H C cl fp => (dg_tup2 rfl sc_L_same.nd (i := 3) rfl (.inl rfl) (j := 4) rfl (.inl rfl))) (fun s H C cl fp => dts_nil) (fun s H C cl fp => (de_callH G hr (by rfl) (da_cons (de_var 3) (da_cons (de_var 4) da_nil)))) (by decide))) da_nil))))))) dss_nil) (dss_cons (ds_if (dt_val (de_isi (de_var 1) (by rfl) (T.free 60) (by rfl) (T.free 57) (by decide +kernel) (by decide +kernel))) dss_never dss_nil) (dss_cons (ds_if (dw_or (dt_c c_is (de_var 1) de_non) (dw_or1 (dt_val (de_isi2 (de_var 1) (by rfl) (T.free 60) (by rfl) (T.free 56) (by decide +kernel) (by decide +kernel) (by rfl) (T.free 68) (by decide +kernel) (by decide +kernel))))).pt (dss_one (ds_ret (de_and (de_c (c_eq hr) (de_var 0) (de_var 1)) (de_and (de_c (c_eq hr) (de_isi (de_var 0) (by rfl) (T.free 60) (by rfl) (T.free 56) (by decide +kernel) (by decide +kernel)) (de_isi (de_var 1) (by rfl) (T.free 60) (by rfl) (T.free 56) (by decide +kernel) (by decide +kernel))) (de_one (de_c (c_eq hr) (de_c c_is (de_var 0) de_non) (de_c c_is (de_var 1) de_non))))))) dss_nil) (dss_one (ds_ret (de_and (de_isi (de_var 0) (by rfl) (T.free 60) (by rfl) (T.free 59) (by decide +kernel) (by decide +kernel)) (de_and (de_not (de_isi (de_var 0) (by rfl) (T.free 60) (by rfl) (T.free 56) (by decide +kernel) (by decide +kernel))) (de_one (de_c (c_eq hr) (de_var 0) (de_var 1))))))))))
theorem ok_L_same (T : Txt P w K mg base) : Has P w K mg base 8 "_law_same" (φ_L_same 7) := okr_L_same T 7
/-! _law_stars: 0 _law_chief_here*, 1 _law_tooth_here, 2 _law_k, 3 _law_cut, 4 _law_mate -/
theorem sc_L_stars : FnScope ["_law_chief_here", "_law_tooth_here", "_law_k", "_law_cut", "_law_mate"] ["_law_chief_here", "_law_tooth_here"] (defScope s_L_stars) := ⟨rfl, rfl, rfl, by decide +kernel, rfl, by decide +kernel, by decide +kernel⟩
set_option linter.unusedVariables false in
noncomputable def F_L_stars : SS := (retS (frzE (lcL (enumL (vE 1)) (gT2 2 3) (tstE (op2 eqD (frzE (lcL (itE (vE 0)) (gN 4) (tstE (op2 eqD (op2 ixD (vE 4) (vE 2)) (vE 3))) (vE 4) [4])) (frzE (lstL aNil)))) (tupE (aCons (vE 2) (aCons (vE 3) aNil))) [2, 3])))
noncomputable def φ_L_stars : List Cell → Option PyData := runC 5 2 F_L_stars
theorem ok_L_stars (T : Txt P w K mg base) : Has P w K mg base 1 "_law_stars" φ_L_stars := by
  obtain ⟨fa, fd, F, hm⟩ := T.def_ 45 45 (x := "_law_stars")
  exact Has.of F hm sc_L_stars (fun _ _ _ _ _ _ us hl => match us, hl with | [_, _], _ => rfl) rfl rfl fun cdv A outer s H E hr => (dss_one (ds_ret (de_frz (dl_lc rfl sc_L_stars.nd (di_enum rfl (by rfl) (T.free 58) (de_var 1)) (blkOk_by (own := [("_law_k", 2), ("_law_cut", 3)]) (by kernel_rfl)) (fun s H C cl fp => (dg_tup2 rfl sc_L_stars.nd (i := 2) rfl (.inr rfl) (j := 3) rfl (.inr rfl))) (fun s H C cl fp => (dts_one (dt_c (c_eq hr) (de_frz (dl_lc rfl sc_L_stars.nd (di_seq (de_var 0)) (blkOk_by (own := [("_law_mate", 4)]) (by kernel_rfl)) (fun s H C cl fp => (dg_name sc_L_stars.nd (i := 4) rfl (.inl rfl))) (fun s H C cl fp => (dts_one (dt_c (c_eq hr) (de_ixs (de_var 4) (de_var 2)) (de_var 3)))) (fun s H C cl fp => (de_var 4)) (by decide))) (de_frz (dl_lst da_nil))))) (fun s H C cl fp => (de_tup (da_cons (de_var 2) (da_cons (de_var 3) da_nil)))) (by decide)))))
/-! _law_lets: 0 _law_chief_here, 1 _law_one_so, 2 _law_two_so*, 3 _law_bit -/
theorem sc_L_lets : FnScope ["_law_chief_here", "_law_one_so", "_law_two_so", "_law_bit"] ["_law_chief_here", "_law_one_so", "_law_two_so"] (defScope s_L_lets) := ⟨rfl, rfl, rfl, by decide +kernel, rfl, by decide +kernel, by decide +kernel⟩
set_option linter.unusedVariables false in
noncomputable def F_L_lets : SS := (retS (op2 eqD (frzE (lcL (itE (calE (onD φ_L_stars) (aCons (vE 0) (aCons (vE 1) aNil)))) (gN 3) (tstE (op2 neD (op2 ixD (vE 2) (op2 ixD (vE 3) (cE (.int 0)))) (op2 ixD (vE 3) (cE (.int 1))))) (vE 3) [3])) (frzE (lstL aNil))))
noncomputable def φ_L_lets : List Cell → Option PyData := runC 4 3 F_L_lets
theorem ok_L_lets (T : Txt P w K mg base) : Has P w K mg base 2 "_law_lets" φ_L_lets := by
  obtain ⟨fa, fd, F, hm⟩ := T.def_ 46 46 (x := "_law_lets")
  have H_L_stars := ok_L_stars T
  exact Has.of F hm sc_L_lets (fun _ _ _ _ _ _ us hl => match us, hl with | [_, _, _], _ => rfl) rfl rfl fun cdv A outer s H E hr => (dss_one (ds_ret (de_c (c_eq hr) (de_frz (dl_lc rfl sc_L_lets.nd (di_seq (de_callH (H_L_stars.mono (by omega)) hr (by rfl) (da_cons (de_var 0) (da_cons (de_var 1) da_nil)))) (blkOk_by (own := [("_law_bit", 3)]) (by kernel_rfl)) (fun s H C cl fp => (dg_name sc_L_lets.nd (i := 3) rfl (.inl rfl))) (fun s H C cl fp => (dts_one (dt_c (c_ne hr) (de_ixs (de_var 2) (de_ixs (de_var 3) de_int)) (de_ixs (de_var 3) de_int)))) (fun s H C cl fp => (de_var 3)) (by decide))) (de_frz (dl_lst da_nil)))))
/-! _law_loud: 0 _law_chief_here*, 1 _law_bunch, 2 _law_found, 3 _law_tooth_here*, 4 _law_mate -/
theorem sc_L_loud : FnScope ["_law_chief_here", "_law_bunch", "_law_found", "_law_tooth_here", "_law_mate"] ["_law_chief_here", "_law_bunch"] (defScope s_L_loud) := ⟨rfl, rfl, rfl, by decide +kernel, rfl, by decide +kernel, by decide +kernel⟩
set_option linter.unusedVariables false in
noncomputable def F_L_loud : SS := (seqS (setS 2 (frzE (lstL aNil))) (seqS (forS (itE (vE 1)) (gN 3) (setS 2 (op2 addD (vE 2) (frzE (lcL (itE (vE 1)) (gN 4) (andT (tstE (op2 neD (vE 4) (vE 3))) (tstE (calE (onD φ_L_lets) (aCons (vE 0) (aCons (vE 3) (aCons (vE 4) aNil)))))) (tupE (aCons (vE 3) (aCons (vE 4) aNil))) [4]))))) (retS (frzE (calL sortAD (aCons (vE 2) aNil))))))
noncomputable def φ_L_loud : List Cell → Option PyData := runC 5 2 F_L_loud
theorem ok_L_loud (T : Txt P w K mg base) : Has P w K mg base 3 "_law_loud" φ_L_loud := by
  obtain ⟨fa, fd, F, hm⟩ := T.def_ 47 47 (x := "_law_loud")
  have H_L_lets := ok_L_lets T
  exact Has.of F hm sc_L_loud (fun _ _ _ _ _ _ us hl => match us, hl with | [_, _], _ => rfl) rfl rfl fun cdv A outer s H E hr => (dss_cons (ds_set sc_L_loud.nd (i := 2) rfl (.inl rfl) (de_frz (dl_lst da_nil))) (dss_cons (ds_for PassesOwn.never rfl (di_seq (de_var 1)) (dg_name sc_L_loud.nd (i := 3) rfl (.inr rfl)) (dss_one (ds_set sc_L_loud.nd (i := 2) rfl (.inl rfl) (de_add (de_var 2) (de_frz (dl_lc rfl sc_L_loud.nd (di_seq (de_var 1)) (blkOk_by (own := [("_law_mate", 4)]) (by kernel_rfl)) (fun s H C cl fp => (dg_name sc_L_loud.nd (i := 4) rfl (.inl rfl))) (fun s H C cl fp => (dts_one (dw_and (dt_c (c_ne hr) (de_var 4) (de_var 3)) (dw_and1 (dt_val (de_callH (H_L_lets.mono (by omega)) hr (by rfl) (da_cons (de_var 0) (da_cons (de_var 3) (da_cons (de_var 4) da_nil))))))).pt)) (fun s H C cl fp => (de_tup (da_cons (de_var 3) (da_cons (de_var 4) da_nil)))) (by decide))))))) (dss_one (ds_ret (de_frz (dl_sorted hr rfl (by rfl) (T.free 67) (da_cons (de_var 2) da_nil)))))))
/-! _law_teeth: 0 _law_deep_here, 1 _law_found, 2 _law_high_so, 3 _law_rows_so, 4 _law_tooth_here*, 5 _law_cut -/
theorem sc_L_teeth : FnScope ["_law_deep_here", "_law_found", "_law_high_so", "_law_rows_so", "_law_tooth_here", "_law_cut"] ["_law_deep_here"] (defScope s_L_teeth) := ⟨rfl, rfl, rfl, by decide +kernel, rfl, by decide +kernel, by decide +kernel⟩
set_option linter.unusedVariables false in
noncomputable def F_L_teeth : SS := (seqS (setS 1 (frzE (lstL (aCons (tupE aNil) aNil)))) (seqS (forS (itE (vE 0)) (gN 2) (seqS (setS 3 (frzE (lstL aNil))) (seqS (forS (itE (vE 1)) (gN 4) (setS 3 (op2 addD (vE 3) (frzE (lcL (rngL (vE 2)) (gN 5) yesT (op2 addD (vE 4) (tupE (aCons (vE 5) aNil))) [5]))))) (setS 1 (vE 3))))) (retS (vE 1))))
noncomputable def φ_L_teeth : List Cell → Option PyData := runC 6 1 F_L_teeth
theorem ok_L_teeth (T : Txt P w K mg base) : Has P w K mg base 1 "_law_teeth" φ_L_teeth := by
  obtain ⟨fa, fd, F, hm⟩ := T.def_ 48 48 (x := "_law_teeth")
  exact Has.of F hm sc_L_teeth (fun _ _ _ _ _ _ us hl => match us, hl with | [_], _ => rfl) rfl rfl fun cdv A outer s H E hr => (dss_cons (ds_set sc_L_teeth.nd (i := 1) rfl (.inl rfl) (de_frz (dl_lst (da_cons (de_tup da_nil) da_nil)))) (dss_cons (ds_for PassesOwn.never rfl (di_seq (de_var 0)) (dg_name sc_L_teeth.nd (i := 2) rfl (.inl rfl)) (dss_cons (ds_set sc_L_teeth.nd (i := 3) rfl (.inl rfl) (de_frz (dl_lst da_nil))) (dss_cons (ds_for PassesOwn.never rfl (di_seq (de_var 1)) (dg_name sc_L_teeth.nd (i := 4) rfl (.inr rfl)) (dss_one (ds_set sc_L_teeth.nd (i := 3) rfl (.inl rfl) (de_add (de_var 3) (de_frz (dl_lc rfl sc_L_teeth.nd (di_range (by rfl) (T.free 64) (de_var 2)) (blkOk_by (own := [("_law_cut", 5)]) (by kernel_rfl)) (fun s H C cl fp => (dg_name sc_L_teeth.nd (i := 5) rfl (.inl rfl))) (fun s H C cl fp => dts_nil) (fun s H C cl fp => (de_add (de_var 4) (de_tup (da_cons (de_var 5) da_nil)))) (by decide))))))) (dss_one (ds_set sc_L_teeth.nd (i := 1) rfl (.inl rfl) (de_var 3)))))) (dss_one (ds_ret (de_var 1)))))
/-! _law_hall_right: 0 _law_deep_here, 1 _law_chief_here*, 2 _law_bunch*, 3 _law_people, 4 _law_hall, 5 _law_loud_here, 6 _law_got, 7 _law_opens_so, 8 _law_calm, 9 _law_due, 10 _law_tags*, 11 _law_mates*, 12 _law_k, 13 _law_own, 14 _law_one_so, 15 _law_two_so, 16 _law_tag -/
theorem sc_L_hall_right : FnScope ["_law_deep_here", "_law_chief_here", "_law_bunch", "_law_people", "_law_hall", "_law_loud_here", "_law_got", "_law_opens_so", "_law_calm", "_law_due", "_law_tags", "_law_mates", "_law_k", "_law_own", "_law_one_so", "_law_two_so", "_law_tag"] ["_law_deep_here", "_law_chief_here", "_law_bunch"] (defScope s_L_hall_right) := ⟨rfl, rfl, rfl, by decide +kernel, rfl, by decide +kernel, by decide +kernel⟩
set_option linter.unusedVariables false in
noncomputable def F_L_hall_right : SS := (seqS (asgS (tupE (aCons (frzE (lcL (rngL (calE lenD (aCons (vE 2) aNil))) (gN 12) yesT (op2 addD (cE (.str "r")) (op2 ixD (cE (.str "abcdefghij")) (vE 12))) [12])) (aCons (frzE (lcL (rngL (calE lenD (aCons (vE 1) aNil))) (gN 12) yesT (op2 addD (cE (.str "h")) (op2 ixD (cE (.str "abcdef")) (vE 12))) [12])) aNil))) (gT2 10 11)) (seqS (setS 3 (frzE (lcL (enumL (vE 1)) (gT2 12 13) yesT (tupE (aCons (op2 ixD (vE 11) (vE 12)) (aCons (vE 13) aNil))) [12, 13]))) (seqS (setS 3 (frzE (calL sortAD (aCons (op2 addD (vE 3) (frzE (lcL (enumL (vE 2)) (gT2 12 13) yesT (tupE (aCons (op2 ixD (vE 10) (vE 12)) (aCons (vE 13) aNil))) [12, 13]))) aNil)))) (seqS (setS 4 (tupE (aCons (vE 0) (aCons (calE tupOfD (aCons (vE 3) aNil)) (aCons (calE tupOfD (aCons (frzE (lcL (itE (vE 10)) (gN 16) yesT (tupE (aCons (vE 16) (aCons (calE tupOfD (aCons (frzE (calL sortAD (aCons (op2 addD (vE 11) (frzE (lstL (aCons (vE 16) aNil)))) aNil))) aNil)) aNil))) [16])) aNil)) aNil))))) (seqS (setS 5 (frzE (lcL (itE (calE (onD φ_L_loud) (aCons (vE 1) (aCons (vE 2) aNil)))) (gT2 14 15) yesT (tupE (aCons (op2 ixD (vE 10) (idxE (vN 2) (vE 14))) (aCons (op2 ixD (vE 10) (idxE (vN 2) (vE 15))) aNil))) [14, 15]))) (seqS (setO 6 (lstL (aCons (calE (onD φ_is_hall) (aCons (vE 4) aNil)) (aCons (calE (onD φ_is_kept) (aCons (vE 4) aNil)) (aCons (calE (onD φ_is_quiet) (aCons (vE 0) (aCons (vE 1) (aCons (vE 2) aNil)))) (aCons (op2 isND (calE (onD φ_clash) (aCons (vE 1) (aCons (vE 2) aNil))) (cE .none)) aNil)))))) (seqS (appS 6 (calE (onD φ_strange) (aCons (vE 4) aNil))) (seqS (setS 7 (frzE (lcL (itE (vE 3)) (gN 13) (orT (tstE (op2 inD (op2 ixD (vE 13) (cE (.int 0))) (vE 11))) (tstE (calE (onD φ_L_lets) (aCons (vE 1) (aCons (op2 ixD (vE 13) (cE (.int 1))) (aCons (op2 ixD (vE 2) (cE (.int 0))) aNil)))))) (op2 ixD (vE 13) (cE (.int 0))) [13]))) (seqS (setS 8 (op2 eqD (vE 5) (frzE (lstL aNil)))) (seqS (setS 9 (frzE (lstL (aCons (cE (.bool true)) (aCons (vE 8) (aCons (vE 8) (aCons (vE 8) (aCons (calE tupOfD (aCons (frzE (calL sortAD (aCons (vE 5) aNil))) aNil)) (aCons (calE tupOfD (aCons (vE 7) aNil)) aNil))))))))) (frzS 6 (retS (calE (onD (φ_L_same 7)) (aCons (op2 addD (vE 6) (frzE (lstL (aCons (calE (onD φ_who_opens) (aCons (vE 4) (aCons (cE (.str "ra")) aNil))) aNil)))) (aCons (vE 9) aNil)))))))))))))))
noncomputable def φ_L_hall_right : List Cell → Option PyData := runC 17 3 F_L_hall_right
theorem ok_L_hall_right (T : Txt P w K mg base) : Has P w K mg base 13 "_law_hall_right" φ_L_hall_right := by
  obtain ⟨fa, fd, F, hm⟩ := T.def_ 50 50 (x := "_law_hall_right")
  have H_L_lets := ok_L_lets T
  have H_L_loud := ok_L_loud T
  have H_L_same := ok_L_same T
  have H_clash := ok_clash T
  have H_is_hall := ok_is_hall T
  have H_is_kept := ok_is_kept T
  have H_is_quiet := ok_is_quiet T
  have H_strange := ok_strange T
  have H_who_opens := ok_who_opens T
  exact Has.of F hm sc_L_hall_right (fun _ _ _ _ _ _ us hl => match us, hl with | [_, _, _], _ => rfl) rfl rfl fun cdv A outer s H E hr => (dss_cons (ds_asg (de_tup (da_cons (de_frz (dl_lc rfl sc_L_hall_right.nd (di_range (by rfl) (T.free 64) (de_len (by rfl) (T.free 61) (da_cons (de_var 2) da_nil))) (blkOk_by (own := [("_law_k", 12)]) (by kernel_rfl)) (fun s H C cl fp => (dg_name sc_L_hall_right.nd (i := 12) rfl (.inl rfl))) (fun s H C cl fp => dts_nil) (fun s H C cl fp => (de_add de_str (de_ixs de_str (de_var 12)))) (by decide))) (da_cons (de_frz (dl_lc rfl sc_L_hall_right.nd (di_range (by rfl) (T.free 64) (de_len (by rfl) (T.free 61) (da_cons (de_var 1) da_nil))) (blkOk_by (own := [("_law_k", 12)]) (by kernel_rfl)) (fun s H C cl fp => (dg_name sc_L_hall_right.nd (i := 12) rfl (.inl rfl))) (fun s H C cl fp => dts_nil) (fun s H C cl fp => (de_add de_str (de_ixs de_str (de_var 12)))) (by decide))) da_nil))) (dg_tup2 rfl sc_L_hall_right.nd (i := 10) rfl (.inr rfl) (j := 11) rfl (.inr rfl))) (dss_cons (ds_lcS rfl sc_L_hall_right.nd (i := 3) rfl rfl (sw_true rfl rfl rfl rfl) (di_enum rfl (by rfl) (T.free 58) (de_var 1)) (blkOk_by (own := [("_law_k", 12), ("_law_own", 13)]) (by kernel_rfl)) (fun s H C cl fp => (dg_tup2 rfl sc_L_hall_right.nd (i := 12) rfl (.inl rfl) (j := 13) rfl (.inl rfl))) (fun s H C cl fp => dts_nil) (fun s H C cl fp => (de_tup (da_cons (de_ixs (de_var 11) (de_var 12)) (da_cons (de_var 13) da_nil)))) (by decide)) (dss_cons (ds_set sc_L_hall_right.nd (i := 3) rfl (.inl rfl) (de_frz (dl_sorted hr rfl (by rfl) (T.free 67) (da_cons (de_add (de_var 3) (de_frz (dl_lc rfl sc_L_hall_right.nd (di_enum rfl (by rfl) (T.free 58) (de_var 2)) (blkOk_by (own := [("_law_k", 12), ("_law_own", 13)]) (by kernel_rfl)) (fun s H C cl fp => (dg_tup2 rfl sc_L_hall_right.nd (i := 12) rfl (.inl rfl) (j := 13) rfl (.inl rfl))) (fun s H C cl fp => dts_nil) (fun s H C cl fp => (de_tup (da_cons (de_ixs (de_var 10) (de_var 12)) (da_cons (de_var 13) da_nil)))) (by decide)))) da_nil)))) (dss_cons (ds_set sc_L_hall_right.nd (i := 4) rfl (.inl rfl) (de_tup (da_cons (de_var 0) (da_cons (de_tuple (by rfl) (T.free 70) (da_cons (de_var 3) da_nil)) (da_cons (de_tuple (by rfl) (T.free 70) (da_cons (de_frz (dl_lc rfl sc_L_hall_right.nd (di_seq (de_var 10)) (blkOk_by (own := [("_law_tag", 16)]) (by kernel_rfl)) (fun s H C cl fp => (dg_name sc_L_hall_right.nd (i := 16) rfl (.inl rfl))) (fun s H C cl fp => dts_nil) (fun s H C cl fp => (de_tup (da_cons (de_var 16) (da_cons (de_tuple (by rfl) (T.free 70) (da_cons (de_frz (dl_sorted hr rfl (by rfl) (T.free 67) (da_cons (de_add (de_var 11) (de_frz (dl_lst (da_cons (de_var 16) da_nil)))) da_nil))) da_nil)) da_nil)))) (by decide))) da_nil)) da_nil))))) (dss_cons (ds_lcS rfl sc_L_hall_right.nd (i := 5) rfl rfl (sw_true rfl rfl rfl rfl) (di_seq (de_callH (H_L_loud.mono (by omega)) hr (by rfl) (da_cons (de_var 1) (da_cons (de_var 2) da_nil)))) (blkOk_by (own := [("_law_one_so", 14), ("_law_two_so", 15)]) (by kernel_rfl)) (fun s H C cl fp => (dg_tup2 rfl sc_L_hall_right.nd (i := 14) rfl (.inl rfl) (j := 15) rfl (.inl rfl))) (fun s H C cl fp => dts_nil) (fun s H C cl fp => (de_tup (da_cons (de_ixs (de_var 10) (de_tupIdx hr (dn_var 2) (de_var 14))) (da_cons (de_ixs (de_var 10) (de_tupIdx hr (dn_var 2) (de_var 15))) da_nil)))) (by decide)) (dss_cons (ds_setO sc_L_hall_right.nd (i := 6) rfl (.inl rfl) (dl_lst (da_cons (de_callH (H_is_hall.mono (by omega)) hr (by rfl) (da_cons (de_var 4) da_nil)) (da_cons (de_callH (H_is_kept.mono (by omega)) hr (by rfl) (da_cons (de_var 4) da_nil)) (da_cons (de_callH (H_is_quiet.mono (by omega)) hr (by rfl) (da_cons (de_var 0) (da_cons (de_var 1) (da_cons (de_var 2) da_nil)))) (da_cons (de_c c_is (de_callH (H_clash.mono (by omega)) hr (by rfl) (da_cons (de_var 1) (da_cons (de_var 2) da_nil))) de_non) da_nil)))))) (dss_cons (ds_app 6 (de_callH (H_strange.mono (by omega)) hr (by rfl) (da_cons (de_var 4) da_nil))) (dss_cons (ds_lcS rfl sc_L_hall_right.nd (i := 7) rfl rfl (sw_true rfl rfl rfl rfl) (di_seq (de_var 3)) (blkOk_by (own := [("_law_own", 13)]) (by kernel_rfl)) (fun s H C cl fp => (dg_name sc_L_hall_right.nd (i := 13) rfl (.inl rfl))) (fun s H C cl fp => (dts_one (dw_or (dt_c (c_in hr) (de_ixs (de_var 13) de_int) (de_var 11)) (dw_or1 (dt_val (de_callH (H_L_lets.mono (by omega)) hr (by rfl) (da_cons (de_var 1) (da_cons (de_ixs (de_var 13) de_int) (da_cons (de_ixs (de_var 2) de_int) da_nil))))))).pt)) (fun s H C cl fp => (de_ixs (de_var 13) de_int)) (by decide)) (dss_cons (ds_set sc_L_hall_right.nd (i := 8) rfl (.inl rfl) (de_c (c_eq hr) (de_var 5) (de_frz (dl_lst da_nil)))) (dss_cons (ds_set sc_L_hall_right.nd (i := 9) rfl (.inl rfl) (de_frz (dl_lst (da_cons de_bl (da_cons (de_var 8) (da_cons (de_var 8) (da_cons (de_var 8) (da_cons (de_tuple (by rfl) (T.free 70) (da_cons (de_frz (dl_sorted hr rfl (by rfl) (T.free 67) (da_cons (de_var 5) da_nil))) da_nil)) (da_cons (de_tuple (by rfl) (T.free 70) (da_cons (de_var 7) da_nil)) da_nil))))))))) (dss_frz 6 (dss_one (ds_ret (de_callH (H_L_same.mono (by omega)) hr (by rfl) (da_cons (de_add (de_var 6) (de_frz (dl_lst (da_cons (de_callH (H_who_opens.mono (by omega)) hr (by rfl) (da_cons (de_var 4) (da_cons de_str da_nil))) da_nil)))) (da_cons (de_var 9) da_nil))))))))))))))))
/-! _law_case_right: 0 _law_deep_here*, 1 _law_chief_here*, 2 _law_bunch*, 3 _law_counts*, 4 _law_own*, 5 _law_many, 6 _law_some, 7 _law_got, 8 _law_due, 9 _law_teeth_here*, 10 _law_doors_so*, 11 _law_mine, 12 _law_mate, 13 _law_k, 14 _law_door -/
theorem sc_L_case_right : FnScope ["_law_deep_here", "_law_chief_here", "_law_bunch", "_law_counts", "_law_own", "_law_many", "_law_some", "_law_got", "_law_due", "_law_teeth_here", "_law_doors_so", "_law_mine", "_law_mate", "_law_k", "_law_door"] ["_law_deep_here", "_law_chief_here", "_law_bunch"] (defScope s_L_case_right) := ⟨rfl, rfl, rfl, by decide +kernel, rfl, by decide +kernel, by decide +kernel⟩
set_option linter.unusedVariables false in
noncomputable def F_L_case_right : SS := (seqS (asgS (tupE (aCons (calE (onD φ_L_teeth) (aCons (vE 0) aNil)) (aCons (frzE (lcL (itE (vE 2)) (gN 4) yesT (calE (onD φ_door_for) (aCons (calE tupOfD (aCons (frzE (setL (op2 addD (vE 1) (tupE (aCons (vE 4) aNil))))) aNil)) aNil)) [4])) aNil))) (gT2 9 10)) (seqS (setO 3 (lstL aNil)) (seqS (forS (itE (vE 9)) (gN 4) (seqS (setS 11 (frzE (lcL (itE (vE 2)) (gN 12) yesT (calE (onD φ_L_lets) (aCons (vE 1) (aCons (vE 4) (aCons (vE 12) aNil)))) [12]))) (seqS (setO 7 (lstL (aCons (frzE (lcL (itE (vE 10)) (gN 14) yesT (calE (onD φ_opens) (aCons (vE 14) (aCons (vE 4) aNil))) [14])) (aCons (frzE (lcL (itE (vE 10)) (gN 14) yesT (op2 isND (calE (onD φ_pin_that_bars) (aCons (vE 14) (aCons (vE 4) aNil))) (cE .none)) [14])) aNil)))) (seqS (appS 7 (frzE (lcL (itE (vE 2)) (gN 12) yesT (calE (onD φ_opens_room) (aCons (vE 1) (aCons (vE 4) (aCons (vE 12) aNil)))) [12]))) (frzS 7 (seqS (ifS (notT (tstE (calE (onD (φ_L_same 7)) (aCons (vE 7) (aCons (frzE (lstL (aCons (vE 11) (aCons (vE 11) (aCons (vE 11) aNil))))) aNil))))) (retS (cE (.bool false))) nxS) (appS 3 (calE lenD (aCons (frzE (lcL (itE (vE 11)) (gN 4) (tstE (vE 4)) (vE 4) [4])) aNil))))))))) (seqS (ifS (tstE (op2 eqD (vE 2) (tupE aNil))) (retS (cE (.bool true))) nxS) (seqS (setS 5 (frzE (lcL (itE (vE 2)) (gN 12) yesT (calE lenD (aCons (frzE (lcL (itE (vE 9)) (gN 4) (tstE (calE (onD φ_L_lets) (aCons (vE 1) (aCons (vE 4) (aCons (vE 12) aNil))))) (vE 4) [4])) aNil)) [12]))) (frzS 3 (seqS (setS 6 (frzE (lcL (enumL (vE 9)) (gT2 13 4) (tstE (op2 gtD (op2 ixD (vE 3) (vE 13)) (cE (.int 0)))) (vE 4) [13, 4]))) (seqS (setO 7 (lstL (aCons (frzE (lcL (itE (vE 10)) (gN 14) yesT (calE (onD φ_how_many_open) (aCons (vE 14) aNil)) [14])) (aCons (calE (onD φ_how_many_some) (aCons (vE 10) aNil)) (aCons (calE (onD φ_how_many_all) (aCons (calE tupOfD (aCons (vE 10) aNil)) aNil)) aNil))))) (seqS (appS 7 (frzE (lcL (rngL (op2 addD (calE lenD (aCons (vE 2) aNil)) (cE (.int 2)))) (gN 13) yesT (calE (onD φ_how_many_just) (aCons (vE 0) (aCons (vE 10) (aCons (vE 13) aNil)))) [13]))) (frzS 7 (seqS (setS 7 (op2 addD (vE 7) (frzE (lstL (aCons (frzE (lcL (rngL (calE minD (aCons (cE (.int 5)) (aCons (calE lenD (aCons (vE 6) aNil)) aNil)))) (gN 13) yesT (calE (onD φ_nth_of_some) (aCons (vE 10) (aCons (vE 13) aNil))) [13])) (aCons (calE (onD φ_nth_opener) (aCons (op2 ixD (vE 10) (cE (.int 0))) (aCons (op2 subD (op2 ixD (vE 5) (cE (.int 0))) (cE (.int 1))) aNil))) aNil)))))) (seqS (setO 8 (lstL (aCons (vE 5) (aCons (calE lenD (aCons (vE 6) aNil)) (aCons (op2 cntD (vE 3) (calE lenD (aCons (vE 2) aNil))) (aCons (frzE (lcL (rngL (op2 addD (calE lenD (aCons (vE 2) aNil)) (cE (.int 2)))) (gN 13) yesT (op2 cntD (vE 3) (vE 13)) [13])) (aCons (slE (vE 6) noO (someO (cE (.int 5)))) aNil))))))) (seqS (appS 8 (op2 ixD (frzE (lcL (itE (vE 9)) (gN 4) (tstE (calE (onD φ_L_lets) (aCons (vE 1) (aCons (vE 4) (aCons (op2 ixD (vE 2) (cE (.int 0))) aNil))))) (vE 4) [4])) (op1 negD (cE (.int 1))))) (frzS 8 (retS (andE (calE (onD (φ_L_same 7)) (aCons (vE 7) (aCons (vE 8) aNil))) (calC φ_L_hall_right (cDat (vE 0) (cDat (vE 1) (cNt (vN 2) cNil))))))))))))))))))))
noncomputable def φ_L_case_right : List Cell → Option PyData := runC 15 3 F_L_case_right
theorem ok_L_case_right (T : Txt P w K mg base) : Has P w K mg base 14 "_law_case_right" φ_L_case_right := by
  obtain ⟨fa, fd, F, hm⟩ := T.def_ 49 49 (x := "_law_case_right")
  have H_L_hall_right := ok_L_hall_right T
  have H_L_lets := ok_L_lets T
  have H_L_same := ok_L_same T
  have H_L_teeth := ok_L_teeth T
  have H_door_for := ok_door_for T
  have H_how_many_all := ok_how_many_all T
  have H_how_many_just := ok_how_many_just T
  have H_how_many_open := ok_how_many_open T
  have H_how_many_some := ok_how_many_some T
  have H_nth_of_some := ok_nth_of_some T
  have H_nth_opener := ok_nth_opener T
  have H_opens := ok_opens T
  have H_opens_room := ok_opens_room T
  have H_pin_that_bars := ok_pin_that_bars T
  exact Has.of F hm sc_L_case_right (fun _ _ _ _ _ _ us hl => match us, hl with | [_, _, _], _ => rfl) rfl rfl fun cdv A outer s H E hr => (dss_cons (ds_asg (de_tup (da_cons (de_callH (H_L_teeth.mono (by omega)) hr (by rfl) (da_cons (de_var 0) da_nil)) (da_cons (de_frz (dl_lc rfl sc_L_case_right.nd (di_seq (de_var 2)) (blkOk_by (own := [("_law_own", 4)]) (by kernel_rfl)) (fun s H C cl fp => (dg_name sc_L_case_right.nd (i := 4) rfl (.inl rfl))) (fun s H C cl fp => dts_nil) (fun s H C cl fp => (de_callH (H_door_for.mono (by omega)) hr (by rfl) (da_cons (de_tuple (by rfl) (T.free 70) (da_cons (de_frz (dl_sortedSet hr rfl (by rfl) (T.free 67) (by rfl) (T.free 66) (de_add (de_var 1) (de_tup (da_cons (de_var 4) da_nil))))) da_nil)) da_nil))) (by decide))) da_nil))) (dg_tup2 rfl sc_L_case_right.nd (i := 9) rfl (.inr rfl) (j := 10) rfl (.inr rfl))) (dss_cons (ds_setO sc_L_case_right.nd (i := 3) rfl (.inr rfl) (dl_lst da_nil)) (dss_cons (ds_for PassesOwn.never rfl (di_seq (de_var 9)) (dg_name sc_L_case_right.nd (i := 4) rfl (.inr rfl)) (dss_cons (ds_lcS rfl sc_L_case_right.nd (i := 11) rfl rfl (sw_true rfl rfl rfl rfl) (di_seq (de_var 2)) (blkOk_by (own := [("_law_mate", 12)]) (by kernel_rfl)) (fun s H C cl fp => (dg_name sc_L_case_right.nd (i := 12) rfl (.inl rfl))) (fun s H C cl fp => dts_nil) (fun s H C cl fp => (de_callH (H_L_lets.mono (by omega)) hr (by rfl) (da_cons (de_var 1) (da_cons (de_var 4) (da_cons (de_var 12) da_nil))))) (by decide)) (dss_cons (ds_setO sc_L_case_right.nd (i := 7) rfl (.inl rfl) (dl_lst (da_cons (de_frz (dl_lc rfl sc_L_case_right.nd (di_seq (de_var 10)) (blkOk_by (own := [("_law_door", 14)]) (by kernel_rfl)) (fun s H C cl fp => (dg_name sc_L_case_right.nd (i := 14) rfl (.inl rfl))) (fun s H C cl fp => dts_nil) (fun s H C cl fp => (de_callH (H_opens.mono (by omega)) hr (by rfl) (da_cons (de_var 14) (da_cons (de_var 4) da_nil)))) (by decide))) (da_cons (de_frz (dl_lc rfl sc_L_case_right.nd (di_seq (de_var 10)) (blkOk_by (own := [("_law_door", 14)]) (by kernel_rfl)) (fun s H C cl fp => (dg_name sc_L_case_right.nd (i := 14) rfl (.inl rfl))) (fun s H C cl fp => dts_nil) (fun s H C cl fp => (de_c c_is (de_callH (H_pin_that_bars.mono (by omega)) hr (by rfl) (da_cons (de_var 14) (da_cons (de_var 4) da_nil))) de_non)) (by decide))) da_nil)))) (dss_cons (ds_app 7 (de_frz (dl_lc rfl sc_L_case_right.nd (di_seq (de_var 2)) (blkOk_by (own := [("_law_mate", 12)]) (by kernel_rfl)) (fun s H C cl fp => (dg_name sc_L_case_right.nd (i := 12) rfl (.inl rfl))) (fun s H C cl fp => dts_nil) (fun s H C cl fp => (de_callH (H_opens_room.mono (by omega)) hr (by rfl) (da_cons (de_var 1) (da_cons (de_var 4) (da_cons (de_var 12) da_nil))))) (by decide)))) (dss_frz 7 (dss_cons (ds_if (dt_not (dt_val (de_callH (H_L_same.mono (by omega)) hr (by rfl) (da_cons (de_var 7) (da_cons (de_frz (dl_lst (da_cons (de_var 11) (da_cons (de_var 11) (da_cons (de_var 11) da_nil))))) da_nil))))) (dss_one (ds_ret de_bl)) dss_nil) (dss_one (ds_app 3 (de_len (by rfl) (T.free 61) (da_cons (de_frz (dl_lc rfl sc_L_case_right.nd (di_seq (de_var 11)) (blkOk_by (own := [("_law_own", 4)]) (by kernel_rfl)) (fun s H C cl fp => (dg_name sc_L_case_right.nd (i := 4) rfl (.inl rfl))) (fun s H C cl fp => (dts_one (dt_val (de_var 4)))) (fun s H C cl fp => (de_var 4)) (by decide))) da_nil)))))))))) (dss_cons (ds_if (dt_c (c_eq hr) (de_var 2) (de_tup da_nil)) (dss_one (ds_ret de_bl)) dss_nil) (dss_cons (ds_lcS rfl sc_L_case_right.nd (i := 5) rfl rfl (sw_true rfl rfl rfl rfl) (di_seq (de_var 2)) (blkOk_by (own := [("_law_mate", 12)]) (by kernel_rfl)) (fun s H C cl fp => (dg_name sc_L_case_right.nd (i := 12) rfl (.inr rfl))) (fun s H C cl fp => dts_nil) (fun s H C cl fp => (de_len (by rfl) (T.free 61) (da_cons (de_frz (dl_lc rfl sc_L_case_right.nd (di_seq (de_var 9)) (blkOk_by (own := [("_law_own", 4)]) (by kernel_rfl)) (fun s H C cl fp => (dg_name sc_L_case_right.nd (i := 4) rfl (.inl rfl))) (fun s H C cl fp => (dts_one (dt_val (de_callH (H_L_lets.mono (by omega)) hr (by rfl) (da_cons (de_var 1) (da_cons (de_var 4) (da_cons (de_var 12) da_nil))))))) (fun s H C cl fp => (de_var 4)) (by decide))) da_nil))) (by decide)) (dss_frz 3 (dss_cons (ds_lcS rfl sc_L_case_right.nd (i := 6) rfl rfl (sw_true rfl rfl rfl rfl) (di_enum rfl (by rfl) (T.free 58) (de_var 9)) (blkOk_by (own := [("_law_k", 13), ("_law_own", 4)]) (by kernel_rfl)) (fun s H C cl fp => (dg_tup2 rfl sc_L_case_right.nd (i := 13) rfl (.inl rfl) (j := 4) rfl (.inl rfl))) (fun s H C cl fp => (dts_one (dt_c c_gt (de_ixs (de_var 3) (de_var 13)) de_int))) (fun s H C cl fp => (de_var 4)) (by decide)) (dss_cons (ds_setO sc_L_case_right.nd (i := 7) rfl (.inl rfl) (dl_lst (da_cons (de_frz (dl_lc rfl sc_L_case_right.nd (di_seq (de_var 10)) (blkOk_by (own := [("_law_door", 14)]) (by kernel_rfl)) (fun s H C cl fp => (dg_name sc_L_case_right.nd (i := 14) rfl (.inl rfl))) (fun s H C cl fp => dts_nil) (fun s H C cl fp => (de_callH (H_how_many_open.mono (by omega)) hr (by rfl) (da_cons (de_var 14) da_nil))) (by decide))) (da_cons (de_callH (H_how_many_some.mono (by omega)) hr (by rfl) (da_cons (de_var 10) da_nil)) (da_cons (de_callH (H_how_many_all.mono (by omega)) hr (by rfl) (da_cons (de_tuple (by rfl) (T.free 70) (da_cons (de_var 10) da_nil)) da_nil)) da_nil))))) (dss_cons (ds_app 7 (de_frz (dl_lc rfl sc_L_case_right.nd (di_range (by rfl) (T.free 64) (de_add (de_len (by rfl) (T.free 61) (da_cons (de_var 2) da_nil)) de_int)) (blkOk_by (own := [("_law_k", 13)]) (by kernel_rfl)) (fun s H C cl fp => (dg_name sc_L_case_right.nd (i := 13) rfl (.inl rfl))) (fun s H C cl fp => dts_nil) (fun s H C cl fp => (de_callH (H_how_many_just.mono (by omega)) hr (by rfl) (da_cons (de_var 0) (da_cons (de_var 10) (da_cons (de_var 13) da_nil))))) (by decide)))) (dss_frz 7 (dss_cons (ds_set sc_L_case_right.nd (i := 7) rfl (.inl rfl) (de_add (de_var 7) (de_frz (dl_lst (da_cons (de_frz (dl_lc rfl sc_L_case_right.nd (di_range (by rfl) (T.free 64) (de_min rfl (by rfl) (T.free 63) (da_cons de_int (da_cons (de_len (by rfl) (T.free 61) (da_cons (de_var 6) da_nil)) da_nil)))) (blkOk_by (own := [("_law_k", 13)]) (by kernel_rfl)) (fun s H C cl fp => (dg_name sc_L_case_right.nd (i := 13) rfl (.inl rfl))) (fun s H C cl fp => dts_nil) (fun s H C cl fp => (de_callH (H_nth_of_some.mono (by omega)) hr (by rfl) (da_cons (de_var 10) (da_cons (de_var 13) da_nil)))) (by decide))) (da_cons (de_callH (H_nth_opener.mono (by omega)) hr (by rfl) (da_cons (de_ixs (de_var 10) de_int) (da_cons (de_sub (de_ixs (de_var 5) de_int) de_int) da_nil))) da_nil)))))) (dss_cons (ds_setO sc_L_case_right.nd (i := 8) rfl (.inl rfl) (dl_lst (da_cons (de_var 5) (da_cons (de_len (by rfl) (T.free 61) (da_cons (de_var 6) da_nil)) (da_cons (de_count (de_var 3) (de_len (by rfl) (T.free 61) (da_cons (de_var 2) da_nil))) (da_cons (de_frz (dl_lc rfl sc_L_case_right.nd (di_range (by rfl) (T.free 64) (de_add (de_len (by rfl) (T.free 61) (da_cons (de_var 2) da_nil)) de_int)) (blkOk_by (own := [("_law_k", 13)]) (by kernel_rfl)) (fun s H C cl fp => (dg_name sc_L_case_right.nd (i := 13) rfl (.inl rfl))) (fun s H C cl fp => dts_nil) (fun s H C cl fp => (de_count (de_var 3) (de_var 13))) (by decide))) (da_cons (de_slice (de_var 6) do_none (do_some de_int)) da_nil))))))) (dss_cons (ds_app 8 (de_ixs (de_frz (dl_lc rfl sc_L_case_right.nd (di_seq (de_var 9)) (blkOk_by (own := [("_law_own", 4)]) (by kernel_rfl)) (fun s H C cl fp => (dg_name sc_L_case_right.nd (i := 4) rfl (.inl rfl))) (fun s H C cl fp => (dts_one (dt_val (de_callH (H_L_lets.mono (by omega)) hr (by rfl) (da_cons (de_var 1) (da_cons (de_var 4) (da_cons (de_ixs (de_var 2) de_int) da_nil))))))) (fun s H C cl fp => (de_var 4)) (by decide))) (de_neg de_int))) (dss_frz 8 (dss_one (ds_ret (de_and (de_callH (H_L_same.mono (by omega)) hr (by rfl) (da_cons (de_var 7) (da_cons (de_var 8) da_nil))) (de_one (de_callC (H_L_hall_right.mono (by omega)) hr (by rfl) (dac_dat (de_var 0) (dac_dat (de_var 1) (dac_nt (dn_var 2) dac_nil))))))))))))))))))))))
/-! _law_hand_right:  -/
theorem sc_L_hand_right : FnScope [] [] (defScope s_L_hand_right) := ⟨rfl, rfl, rfl, by decide +kernel, rfl, by decide +kernel, by decide +kernel⟩
set_option linter.unusedVariables false in
noncomputable def F_L_hand_right : SS := (seqS (ifS (notT (tstE (calC φ_L_case_right (cDat (tupE (aCons (cE (.int 3)) (aCons (cE (.int 3)) (aCons (cE (.int 2)) aNil)))) (cDat (tupE (aCons (tupE (aCons (cE (.int 0)) (aCons (cE (.int 0)) (aCons (cE (.int 0)) aNil)))) aNil)) (cNt (lstL (aCons (tupE (aCons (cE (.int 1)) (aCons (cE (.int 0)) (aCons (cE (.int 0)) aNil)))) (aCons (tupE (aCons (cE (.int 1)) (aCons (cE (.int 2)) (aCons (cE (.int 0)) aNil)))) (aCons (tupE (aCons (cE (.int 2)) (aCons (cE (.int 0)) (aCons (cE (.int 1)) aNil)))) aNil)))) cNil)))))) (retS (cE (.bool false))) nxS) (seqS (ifS (notT (tstE (calC φ_L_case_right (cDat (tupE (aCons (cE (.int 2)) (aCons (cE (.int 2)) aNil))) (cDat (tupE (aCons (tupE (aCons (cE (.int 0)) (aCons (cE (.int 0)) aNil))) aNil)) (cNt (lstL aNil) cNil)))))) (retS (cE (.bool false))) nxS) (retS (calC φ_L_case_right (cDat (tupE (aCons (cE (.int 4)) (aCons (cE (.int 3)) aNil))) (cDat (tupE (aCons (tupE (aCons (cE (.int 0)) (aCons (cE (.int 0)) aNil))) (aCons (tupE (aCons (cE (.int 3)) (aCons (cE (.int 1)) aNil))) aNil))) (cNt (lstL (aCons (tupE (aCons (cE (.int 1)) (aCons (cE (.int 2)) aNil))) (aCons (tupE (aCons (cE (.int 2)) (aCons (cE (.int 1)) aNil))) (aCons (tupE (aCons (cE (.int 2)) (aCons (cE (.int 2)) aNil))) aNil)))) cNil)))))))
noncomputable def φ_L_hand_right : List Cell → Option PyData := runC 0 0 F_L_hand_right
theorem ok_L_hand_right (T : Txt P w K mg base) : Has P w K mg base 15 "_law_hand_right" φ_L_hand_right := by
  obtain ⟨fa, fd, F, hm⟩ := T.def_ 51 51 (x := "_law_hand_right")
  have H_L_case_right := ok_L_case_right T
  exact Has.of F hm sc_L_hand_right (fun _ _ _ _ _ _ us hl => match us, hl with | [], _ => rfl) rfl rfl fun cdv A outer s H E hr => (dss_cons (ds_if (dt_not (dt_val (de_callC (H_L_case_right.mono (by omega)) hr (by rfl) (dac_dat (de_tup (da_cons de_int (da_cons de_int (da_cons de_int da_nil)))) (dac_dat (de_tup (da_cons (de_tup (da_cons de_int (da_cons de_int (da_cons de_int da_nil)))) da_nil)) (dac_nt (dn_tup (da_cons (de_tup (da_cons de_int (da_cons de_int (da_cons de_int da_nil)))) (da_cons (de_tup (da_cons de_int (da_cons de_int (da_cons de_int da_nil)))) (da_cons (de_tup (da_cons de_int (da_cons de_int (da_cons de_int da_nil)))) da_nil)))) dac_nil)))))) (dss_one (ds_ret de_bl)) dss_nil) (dss_cons (ds_if (dt_not (dt_val (de_callC (H_L_case_right.mono (by omega)) hr (by rfl) (dac_dat (de_tup (da_cons de_int (da_cons de_int da_nil))) (dac_dat (de_tup (da_cons (de_tup (da_cons de_int (da_cons de_int da_nil))) da_nil)) (dac_nt (dn_tup da_nil) dac_nil)))))) (dss_one (ds_ret de_bl)) dss_nil) (dss_one (ds_ret (de_callC (H_L_case_right.mono (by omega)) hr (by rfl) (dac_dat (de_tup (da_cons de_int (da_cons de_int da_nil))) (dac_dat (de_tup (da_cons (de_tup (da_cons de_int (da_cons de_int da_nil))) (da_cons (de_tup (da_cons de_int (da_cons de_int da_nil))) da_nil))) (dac_nt (dn_tup (da_cons (de_tup (da_cons de_int (da_cons de_int da_nil))) (da_cons (de_tup (da_cons de_int (da_cons de_int da_nil))) (da_cons (de_tup (da_cons de_int (da_cons de_int da_nil))) da_nil)))) dac_nil))))))))
end
end U
set_option maxHeartbeats 4000000
/-! The draws: a box of three ints that is changed. -/
namespace U
open PySem PySem.Spec PyProof.Rows L2 Hd
def absD : List PyData → Option PyData
  | [.int i] => some (.int (if i < 0 then -i else i))
  | _ => none
def intD : List PyData → Option PyData
  | [.int i] => some (.int i)
  | [.bool k] => some (.int (if k then 1 else 0))
  | _ => none
def powD : PyData → PyData → Option PyData
  | .int i, .int j => if 0 ≤ j ∧ j ≤ 1000000 ∧ i.natAbs < 2 ^ 64 then some (.int (i ^ j.toNat)) else none
  | _, _ => none
theorem rd_pow : RD (rI CPow fun i j => .int (i ^ j.toNat)) powD := rd_int fun x y z h => by
  unfold powD at h; split at h
  · split at h
    · cases h; exact ⟨_, _, rfl, rfl, by assumption, rfl⟩
    · cases h
  · cases h
theorem cd_abs : CD (fun xs H Q => ∃ i, xs = [.int i] ∧ Q (.int (if i < 0 then -i else i)) H) absD := by
  intro F H vs ds d Q ef hv h q
  unfold absD at h
  split at h
  · cases h
    cases hv with
    | cons h1 h2 => cases h2; cases h1; exact ⟨_, rfl, q _ F H (Grow.refl ef) (.int _)⟩
  · cases h
theorem cd_int1 : CD (fun xs H Q => (∃ i, xs = [.int i] ∧ Q (.int i) H) ∨ ∃ k, xs = [.bl k] ∧ Q (.int (if k then 1 else 0)) H) intD := by
  intro F H vs ds d Q ef hv h q
  unfold intD at h
  split at h
  · cases h
    cases hv with
    | cons h1 h2 => cases h2; cases h1; exact .inl ⟨_, rfl, q _ F H (Grow.refl ef) (.int _)⟩
  · cases h
    cases hv with
    | cons h1 h2 => cases h2; cases h1; exact .inr ⟨_, rfl, q _ F H (Grow.refl ef) (.int _)⟩
  · cases h
section
variable {X : Cx} {a b e : Expr} {es : List Expr} {f g : SE} {u : SA} {pos p : Pos} {k : Nat}
theorem de_pow (ha : DE X a f) (hb : DE X b g) : DE X (.BinOp a .Pow b pos) (op2 powD f g) := de_op op_pow rd_pow ha hb
theorem de_abs (hg : Gl X "abs") (hm : X.mg "abs" = none) (ha : DA X (e :: es) u) (hs : starEach (e :: es) X.env = (false, eval e X.env) :: starEach es X.env := by rfl) (hp : (backTo pos (starEach es X.env)).any (·.1) = false := by rfl) :
    DE X (.Call (.Name "abs" p) (e :: es) [] pos) (calE absD u) := de_callB call_abs cd_abs hg hm (by decide +kernel) ha (by decide) (by decide) hs hp
theorem de_int1 (hg : Gl X "int") (hm : X.mg "int" = none) (ha : DA X (e :: es) u) (hs : starEach (e :: es) X.env = (false, eval e X.env) :: starEach es X.env := by rfl) (hp : (backTo pos (starEach es X.env)).any (·.1) = false := by rfl) :
    DE X (.Call (.Name "int" p) (e :: es) [] pos) (calE intD u) := de_callTy call_int1 cd_int1 hg hm (by decide +kernel) ha (by decide) (by decide) hs hp
end
/-! ### the box -/
def boxF (b : Addr) (xs : List V) : Hp := fun a => if a = b then some (.lst xs) else none
theorem boxF_at {b : Addr} {xs : List V} : boxF b xs b = some (.lst xs) := if_pos rfl
theorem da_intMap {F : Hp} : ∀ ks : List Int, DaAll F (ks.map V.int) (ks.map PyData.int)
  | [] => .nil
  | k :: ks => .cons (.int k) (da_intMap ks)
abbrev sI (l : List (Option Int)) : L2.St := l.map (Option.map V.int)
abbrev rI' (l : List (Option Int)) : Rho := l.map (Option.map fun i => Cell.dat (.int i))
theorem rep_box {H : Hp} {b : Addr} {ds : List Int} {l : List (Option Int)} (h : H b = some (.lst (ds.map V.int))) :
    Rep (boxF b (ds.map V.int)) H (some (.ref b) :: sI l) (some (.dat (.list (ds.map .int))) :: rI' l) := by
  have key : ∀ (j : Nat) (c : Cell), (rI' l)[j]? = some (some c) → ∃ i : Int, c = .dat (.int i) ∧ (sI l)[j]? = some (some (.int i)) := by
    intro j c e
    rw [List.getElem?_map] at e
    cases q : l[j]? with
    | none => rw [q] at e; cases e
    | some o =>
      rw [q] at e
      cases o with
      | none => cases e
      | some i => cases e; exact ⟨i, rfl, by rw [List.getElem?_map, q] <;> rfl⟩
  refine ⟨fun a o e => ?_, by simp, fun i d e => ?_, fun i d e => ?_, fun i xs e => ?_, fun i j xs ys p h1 h2 h3 h4 => ?_⟩
  · unfold boxF at e
    split at e
    · cases e; rename_i z; rw [z]; exact h
    · cases e
  · cases i with
    | zero => cases e; exact ⟨_, rfl, .lst boxF_at (da_intMap ds)⟩
    | succ i =>
      obtain ⟨z, e1, e2⟩ := key i _ e
      cases e1
      exact ⟨_, e2, .int z⟩
  · cases i with
    | zero => cases e
    | succ i =>
      obtain ⟨z, e1, e2⟩ := key i _ e
      cases e1
  · cases i with
    | zero => cases e
    | succ i =>
      obtain ⟨z, e1, e2⟩ := key i _ e
      cases e1
  · cases i with
    | zero => cases h1
    | succ i =>
      obtain ⟨z, e1, e2⟩ := key i _ h1
      cases e1
theorem int_run {f : SE} {F H : Hp} {σ : L2.St} {ρ : Rho} {z : Int} {Q : VK} (R : Rep F H σ ρ) (e : f ρ = some (.int z)) (q : ∀ H', Ex H H' → Q (.int z) H') : tD f σ H Q :=
  ⟨F, ρ, _, R, e, fun v F' H' g dv => by cases dv; exact q H' g.hh⟩
theorem tst_box {f : ST} {F H : Hp} {σ : L2.St} {ρ : Rho} {z : Bool} {Q : Bool → Hp → Prop} (R : Rep F H σ ρ) (e : f ρ = some z) (q : ∀ H', Ex H H' → Q z H') : tDT f σ H Q :=
  ⟨F, ρ, _, R, e, fun F' H' g => q H' g.hh⟩
def Kept (b : Addr) (H H' : Hp) : Prop := ∀ a o, a ≠ b → H a = some o → H' a = some o
theorem Kept.of {b : Addr} {H H' : Hp} (e : Ex H H') : Kept b H H' := fun a o _ h => e a o h
theorem Kept.trans {b : Addr} {H H1 H2 : Hp} (e : Kept b H H1) (k : Kept b H1 H2) : Kept b H H2 := fun a o n h => k a o n (e a o n h)
theorem Kept.upd {b : Addr} {H H1 : Hp} {o : HO} (e : Kept b H H1) : Kept b H (upd H1 b o) := fun a u n h => by rw [upd_ne n]; exact e a u n h
structure Bx (H : Hp) (b : Addr) (n : Nat) : Prop where
  ex : ∃ a m c : Int, H b = some (.lst [.int a, .int m, .int c]) ∧ 0 ≤ a ∧ 0 ≤ m ∧ m < 2 ^ 62 ∧ 0 ≤ c ∧ c ≤ n
theorem Bx.mono {H : Hp} {b : Addr} {n m : Nat} (h : Bx H b n) (k : n ≤ m) : Bx H b m := by
  obtain ⟨a, x, c, h1, h2, h3, h4, h5, h6⟩ := h.ex
  exact ⟨a, x, c, h1, h2, h3, h4, h5, by omega⟩
theorem Bx.grow {H H' : Hp} {b : Addr} {n : Nat} (h : Bx H b n) (k : Ex H H') : Bx H' b n := by
  obtain ⟨a, x, c, h1, h2⟩ := h.ex
  exact ⟨a, x, c, k _ _ h1, h2⟩
/-- a promise, any -/
def HasR (P : Program) (w : World) (K : PySem.W.Frag) (mg : Str → Option Value) (base : Heap) (k : Nat) (x : Str) (sp : Sp) : Prop :=
  ∃ fa fd ps, FnOk P w K mg base CX0 k fa fd ps sp ∧ mg x = some (.ref fa) ∧ PySem.W.keepIn K (.ref fa) = true ∧ Binds K fd ps []
theorem HasR.mono {P : Program} {w : World} {K : PySem.W.Frag} {mg : Str → Option Value} {base : Heap} {j k : Nat} {x : Str} {sp : Sp} (h : HasR P w K mg base j x sp) (hk : j ≤ k) : HasR P w K mg base k x sp :=
  let ⟨fa, fd, ps, h1, h2⟩ := h; ⟨fa, fd, ps, h1.mono hk, h2⟩
theorem HasR.of {P : Program} {w : World} {K : PySem.W.Frag} {mg : Str → Option Value} {base : Heap} {k : Nat} {x qual : Str} {params : Arguments} {body : List Stmt} {scope : Scope} {N ps : List Str} {sp : Sp} {fa : Addr} {fd : FuncData} (F : FunD K x qual params body scope [] [] fa fd) (hm : mg x = some (.ref fa)) (S : FnScope N ps scope)
    (hb : ∀ (kV doc pm : Value) (an : Option Addr) (cdv ct : Value) (us : List Value), us.length = ps.length → bindArgs (PySem.W.fnOf x qual params body scope .none kV doc pm an cdv ct) ⟨us, []⟩ = pure (ps.zip us))
    (len : ∀ vs H Q E, sp vs H Q E → vs.length = ps.length)
    (t : TS) (ht : ∀ vs H Q E, sp vs H Q E → t { nx := fun _ H' => Q .non H', rt := Q } (L2.start N vs) H)
    (h : ∀ (cdv : Value) (A : Around) (outer : List Env) (s : Shared) (H : Hp) (E : XK), Room k (A.deeper (envOfC qual scope s.heap.objs.size fa cdv)) → PSs (cx1 P w K mg base N qual scope fa cdv A outer s H E) body t) :
    HasR P w K mg base (k + 1) x sp :=
  ⟨fa, fd, ps, F.ok S len fun cdv A outer s H vs Q E hr w => ⟨t, PSs.nox (h cdv A outer s H E hr), ht vs H Q E w⟩, hm, F.kp, F.bindsN hb⟩
section
variable {X : Cx} {k : Nat} {x : Str} {p pos : Pos} {e : Expr} {es : List Expr} {u : TA} {sp : Sp}
theorem pe_callR (G : HasR X.prog X.w X.K X.mg X.base k x sp) (hr : Room k X.A) (hg : Gl X x) (ha : PA X (e :: es) u)
    (hd : (x == ("__debug__" : Str)) = false := by decide) (hs : starEach (e :: es) X.env = (false, eval e X.env) :: starEach es X.env := by rfl) (hp : (backTo pos (starEach es X.env)).any (·.1) = false := by rfl) :
    PE X (.Call (.Name x p) (e :: es) [] pos) (tCall sp [] E0 u) := by
  obtain ⟨fa, fd, ps, h1, h2, h3, h4⟩ := G
  exact pe_call h1 hr hg h2 h3 h4 .nil pass0 ha hd hs hp
end
/-! ### take -/
def spTake : Sp := fun vs H Q _ => ∃ (b : Addr) (top : Int) (n : Nat), vs = [.ref b, .int top] ∧ 0 < top ∧ top < 1073741824 ∧ Bx H b n ∧ n ≤ 1000000 ∧
  ∀ (r : Int) H', 0 ≤ r → r < top → Kept b H H' → Bx H' b (n + 1) → Q (.int r) H'
theorem sc_L_take : FnScope ["_law_box_here", "_law_top_so", "_law_once", "_law_far", "_law_twice", "_law_digit_so"] ["_law_box_here", "_law_top_so"] (defScope s_L_take) := ⟨rfl, rfl, rfl, by decide +kernel, rfl, by decide +kernel, by decide +kernel⟩
theorem mod_run {i j : Int} (h : 0 < j) : modD (.int i) (.int j) = some (.int (i % j)) := by
  show (if 0 < j then some (PyData.int (i % j)) else none) = _
  rw [if_pos h]
theorem div_run {i j : Int} (h : 0 < j ∧ j < 1073741824) : fdivD (.int i) (.int j) = some (.int (i / j)) := by
  show (if 0 < j ∧ j < 1073741824 then some (PyData.int (i / j)) else none) = _
  rw [if_pos h]
theorem mul_run {i j : Int} (h : (-(2 ^ 64) < i ∧ i < 2 ^ 64) ∨ (-(2 ^ 64) < j ∧ j < 2 ^ 64)) : mulD (.int i) (.int j) = some (.int (i * j)) := by
  show (if (-(2 ^ 64) < i ∧ i < 2 ^ 64) ∨ (-(2 ^ 64) < j ∧ j < 2 ^ 64) then some (PyData.int (i * j)) else none) = _
  rw [if_pos h]
def tkT : TS := tSeq (tIfS (tDT (tstE (op2 gtD (op2 ixD (vE 0) (cE (.int 0))) (cE (.int 0)))))
    (tSeq (tAsg (tD (op2 modD (calE intD (aCons (op2 ixD (vE 0) (cE (.int 0))) aNil)) (vE 1))) (gName 5)) (tSeq (tAsg (tD (op2 fdivD (op2 ixD (vE 0) (cE (.int 0))) (vE 1))) (gSub (tVar 0) (tC (.int 0)) rSetL)) (tRet (tD (vE 5))))) tNext)
  (tSeq (tAsg (tD (op2 addD (op2 ixD (vE 0) (cE (.int 2))) (cE (.int 1)))) (gSub (tVar 0) (tC (.int 2)) rSetL))
  (tSeq (tAsg (tD (op2 modD (calE intD (aCons (op2 mulD (op2 addD (op2 ixD (vE 0) (cE (.int 1))) (op2 mulD (cE (.int 48271)) (op2 ixD (vE 0) (cE (.int 2))))) (op2 addD (cE (.int 39373)) (op2 ixD (vE 0) (cE (.int 2))))) aNil)) (cE (.int 2147483647)))) (gName 2))
  (tSeq (tAsg (tD (op2 addD (op2 modD (calE intD (aCons (vE 2) aNil)) (cE (.int 40009))) (cE (.int 7)))) (gName 3))
  (tSeq (tAsg (tD (op2 modD (calE intD (aCons (op2 mulD (op2 addD (op2 addD (vE 2) (op2 ixD (vE 0) (cE (.int 2)))) (op2 fdivD (op2 ixD (vE 0) (cE (.int 1))) (cE (.int 1000003)))) (vE 3)) aNil)) (cE (.int 2147483629)))) (gName 4))
  (tRet (tD (op2 modD (calE intD (aCons (op2 fdivD (op2 modD (calE intD (aCons (op2 addD (op2 mulD (vE 4) (cE (.int 48271))) (vE 2)) aNil)) (cE (.int 2147483587))) (cE (.int 64))) aNil)) (vE 1))))))))
theorem take_pure {vs : List V} {H : Hp} {Q : VK} {E : XK} (w : spTake vs H Q E) : tkT { nx := fun _ H' => Q .non H', rt := Q } (L2.start ["_law_box_here", "_law_top_so", "_law_once", "_law_far", "_law_twice", "_law_digit_so"] vs) H := by
  obtain ⟨b, top, n, rfl, t0, t1, hb, hn, q⟩ := w
  obtain ⟨a, m, c, h, a0, m0, m1, c0, c1⟩ := hb.ex
  have c2 : c ≤ 1000000 := by omega
  have R0 := rep_box (l := [some top, none, none, none, none]) (ds := [a, m, c]) h
  refine tst_box (z := decide (0 < a)) R0 rfl fun H1 e1 => ?_
  have h1 := e1 _ _ h
  have R1 := rep_box (l := [some top, none, none, none, none]) (ds := [a, m, c]) h1
  by_cases ha : 0 < a
  · rw [decide_eq_true ha]
    refine int_run (z := a % top) R1 (by show modD (.int a) (.int top) = _; exact mod_run t0) fun H2 e2 => ?_
    have h2 := e2 _ _ h1
    have R2 := rep_box (l := [some top, none, none, none, some (a % top)]) (ds := [a, m, c]) h2
    refine int_run (z := a / top) R2 (by show fdivD (.int a) (.int top) = _; exact div_run ⟨t0, t1⟩) fun H3 e3 => ?_
    have h3 := e3 _ _ h2
    refine ⟨_, rfl, b, _, 0, 0, rfl, rfl, h3, rfl, ?_⟩
    have h4 : (upd H3 b (.lst [.int (a / top), .int m, .int c])) b = some (.lst [.int (a / top), .int m, .int c]) := upd_same
    have R4 := rep_box (l := [some top, none, none, none, some (a % top)]) (ds := [a / top, m, c]) h4
    refine int_run (z := a % top) R4 rfl fun H5 e5 => ?_
    refine q _ H5 (Int.emod_nonneg _ (by omega)) (Int.emod_lt_of_pos _ t0) ?_ ⟨_, _, _, e5 _ _ h4, Int.ediv_nonneg a0 (by omega), m0, m1, c0, by omega⟩
    exact (((Kept.of e1).trans (Kept.of e2)).trans (Kept.of e3)).upd.trans (Kept.of e5)
  · rw [decide_eq_false ha, if_neg Bool.false_ne_true]
    show tD _ _ _ _
    refine int_run (z := c + 1) R1 rfl fun H2 e2 => ?_
    have h2 := e2 _ _ h1
    refine ⟨_, rfl, b, _, 2, 2, rfl, rfl, h2, rfl, ?_⟩
    have h3 : (upd H2 b (.lst [.int a, .int m, .int (c + 1)])) b = some (.lst [.int a, .int m, .int (c + 1)]) := upd_same
    have R3 := rep_box (l := [some top, none, none, none, none]) (ds := [a, m, c + 1]) h3
    refine int_run (z := ((m + 48271 * (c + 1)) * (39373 + (c + 1))) % 2147483647) R3 ?_ fun H4 e4 => ?_
    · show (((((mulD (.int 48271) (.int (c + 1))).bind fun y => addD (.int m) y).bind fun x => mulD x (.int (39373 + (c + 1)))).bind fun x => some [x]).bind intD).bind (fun x => modD x (.int 2147483647)) = _
      rw [mul_run (by omega)]
      show (((mulD (.int (m + 48271 * (c + 1))) (.int (39373 + (c + 1)))).bind fun x => some [x]).bind intD).bind (fun x => modD x (.int 2147483647)) = _
      rw [mul_run (by omega)]
      exact mod_run (j := 2147483647) (by decide)
    have h4 := e4 _ _ h3
    generalize ho : ((m + 48271 * (c + 1)) * (39373 + (c + 1))) % 2147483647 = once at *
    have o0 : 0 ≤ once ∧ once < 2147483647 := by rw [← ho]; omega
    have R4 := rep_box (l := [some top, some once, none, none, none]) (ds := [a, m, c + 1]) h4
    refine int_run (z := once % 40009 + 7) R4 ?_ fun H5 e5 => ?_
    · show (modD (.int once) (.int 40009)).bind (fun x => addD x (.int 7)) = _
      rw [mod_run (by omega)] <;> rfl
    have h5 := e5 _ _ h4
    generalize hf : once % 40009 + 7 = far at *
    have R5 := rep_box (l := [some top, some once, some far, none, none]) (ds := [a, m, c + 1]) h5
    refine int_run (z := ((once + (c + 1) + m / 1000003) * far) % 2147483629) R5 ?_ fun H6 e6 => ?_
    · show (((((fdivD (.int m) (.int 1000003)).bind fun y => addD (.int (once + (c + 1))) y).bind fun x => mulD x (.int far)).bind fun x => some [x]).bind intD).bind (fun x => modD x (.int 2147483629)) = _
      rw [div_run (by omega)]
      show (((mulD (.int (once + (c + 1) + m / 1000003)) (.int far)).bind fun x => some [x]).bind intD).bind (fun x => modD x (.int 2147483629)) = _
      rw [mul_run (by omega)]
      exact mod_run (j := 2147483629) (by decide)
    have h6 := e6 _ _ h5
    generalize ht : ((once + (c + 1) + m / 1000003) * far) % 2147483629 = twice at *
    have R6 := rep_box (l := [some top, some once, some far, some twice, none]) (ds := [a, m, c + 1]) h6
    refine int_run (z := ((twice * 48271 + once) % 2147483587 / 64) % top) R6 ?_ fun H7 e7 => ?_
    · show (((((((((mulD (.int twice) (.int 48271)).bind fun x => addD x (.int once)).bind fun x => some [x]).bind intD).bind fun x => modD x (.int 2147483587)).bind fun x => fdivD x (.int 64)).bind fun x => some [x]).bind intD).bind fun x => modD x (.int top)) = _
      rw [mul_run (by omega)]
      show (((((modD (.int (twice * 48271 + once)) (.int 2147483587)).bind fun x => fdivD x (.int 64)).bind fun x => some [x]).bind intD).bind fun x => modD x (.int top)) = _
      rw [mod_run (by omega)]
      show ((((fdivD (.int ((twice * 48271 + once) % 2147483587)) (.int 64)).bind fun x => some [x]).bind intD).bind fun x => modD x (.int top)) = _
      rw [div_run (by omega)]
      exact mod_run t0
    refine q _ H7 (Int.emod_nonneg _ (by omega)) (Int.emod_lt_of_pos _ t0) ?_ ⟨_, _, _, e7 _ _ h6, a0, m0, m1, by omega, by omega⟩
    exact ((((((Kept.of e1).trans (Kept.of e2)).upd.trans (Kept.of e4)).trans (Kept.of e5)).trans (Kept.of e6)).trans (Kept.of e7))
section
variable {P : Program} {w : World} {K : PySem.W.Frag} {mg : Str → Option Value} {base : Heap}
theorem ok_L_take (T : Txt P w K mg base) : HasR P w K mg base 1 "_law_take" spTake := by
  obtain ⟨fa, fd, F, hm⟩ := T.def_ 39 39 (x := "_law_take")
  refine HasR.of F hm sc_L_take (fun _ _ _ _ _ _ us hl => match us, hl with | [_, _], _ => rfl) (fun vs H Q E w => ?_) tkT (fun vs H Q E w => take_pure w) fun cdv A outer s H E hr => ?_
  · obtain ⟨b, top, n, rfl, _⟩ := w
    rfl
  · refine pss_cons (ps_if (dt_c c_gt (de_ixs (de_var 0) de_int) de_int) (pss_cons (ps_set sc_L_take.nd (i := 5) rfl (.inl rfl) (de_mod (de_int1 (by rfl) (T.free 59) (da_cons (de_ixs (de_var 0) de_int) da_nil)) (de_var 1)))
      (pss_cons (ps_asg (de_fdiv (de_ixs (de_var 0) de_int) (de_var 1)) (pg_sub (pe_var (i := 0) rfl (.inl rfl)) pe_int set_list)) (pss_one (ps_ret (de_var 5))))) pss_nil) ?_
    refine pss_cons (ps_asg (de_add (de_ixs (de_var 0) de_int) de_int) (pg_sub (pe_var (i := 0) rfl (.inl rfl)) pe_int set_list)) ?_
    refine pss_cons (ps_set sc_L_take.nd (i := 2) rfl (.inl rfl) (de_mod (de_int1 (by rfl) (T.free 59) (da_cons (de_mul (de_add (de_ixs (de_var 0) de_int) (de_mul de_int (de_ixs (de_var 0) de_int))) (de_add de_int (de_ixs (de_var 0) de_int))) da_nil)) de_int)) ?_
    refine pss_cons (ps_set sc_L_take.nd (i := 3) rfl (.inl rfl) (de_add (de_mod (de_int1 (by rfl) (T.free 59) (da_cons (de_var 2) da_nil)) de_int) de_int)) ?_
    refine pss_cons (ps_set sc_L_take.nd (i := 4) rfl (.inl rfl) (de_mod (de_int1 (by rfl) (T.free 59) (da_cons (de_mul (de_add (de_add (de_var 2) (de_ixs (de_var 0) de_int)) (de_fdiv (de_ixs (de_var 0) de_int) de_int)) (de_var 3)) da_nil)) de_int)) ?_
    exact pss_one (ps_ret (de_mod (de_int1 (by rfl) (T.free 59) (da_cons (de_fdiv (de_mod (de_int1 (by rfl) (T.free 59) (da_cons (de_add (de_mul (de_var 4) de_int) (de_var 2)) da_nil)) de_int) de_int) da_nil)) (de_var 1)))
end
end U
set_option maxHeartbeats 4000000
/-! The draws: what draws from the box. -/
namespace U
open PySem PySem.Spec PyProof.Rows L2 Hd
structure RB (F H : Hp) (σ : L2.St) (ρ : Rho) (b : Addr) (n : Nat) : Prop where
  rep : Rep F H σ ρ
  fb : F b = none
  bx : Bx H b n
  no : ∀ (i : Nat) (xs : List PyData), ρ[i]? ≠ some (some (.own xs))
  at0 : σ[0]? = some (some (.ref b))
section
variable {F H F' H' : Hp} {σ : L2.St} {ρ : Rho} {b : Addr} {n m : Nat}
theorem RB.gb (R : RB F H σ ρ b n) (g : Gb b F H F' H') (x : Bx H' b m) : RB F' H' σ ρ b m :=
  ⟨R.rep.gb g fun i xs e => absurd e (R.no i xs), g.nd, x, R.no, R.at0⟩
theorem Bx.some (h : Bx H b n) : ∃ o, H b = some o := let ⟨_, _, _, e, _⟩ := h.ex; ⟨_, e⟩
theorem Bx.free (h : Bx H b n) (g : Grow F H F' H') (fb : F b = none) : F' b = none := let ⟨o, e⟩ := h.some; g.free fb e
theorem RB.grow (R : RB F H σ ρ b n) (g : Grow F H F' H') : RB F' H' σ ρ b n := ⟨R.rep.grow g, R.bx.free g R.fb, R.bx.grow g.hh, R.no, R.at0⟩
theorem Bx.ne {p : Addr} (h : Bx H b n) (hp : H p = none) : p ≠ b := fun e => by
  subst e; obtain ⟨o, q⟩ := h.some; rw [q] at hp; cases hp
theorem Gb.kept (ef : Ex F H) (fb : F b = none) (kp : Kept b H H') : Gb b F H F H' :=
  ⟨Ex.refl F, fun a o e => kp a o (fun z => by subst z; rw [fb] at e; cases e) (ef a o e), kp, fun a o e => .inl e, fb⟩
theorem Gb.mutNew {p : Addr} {o : HO} (g : Gb b F H F' H') (n : H p = none) (n' : F' p = none) : Gb b F H F' (upd H' p o) :=
  ⟨g.ff, g.fh.mut n', fun a u hn e => by rw [upd_ne (ne_of_none e n)]; exact g.hh a u hn e, g.nw, g.nd⟩
theorem Gb.freezeNew {p : Addr} {o : HO} (g : Gb b F H F' H') (n : H p = none) (hb : p ≠ b) (h : H' p = some o) (n' : F' p = none) : Gb b F H (upd F' p o) H' :=
  ⟨g.ff.trans (Ex.new n'), fun a u e => by
    by_cases q : a = p
    · subst q; rw [upd_same] at e; cases e; exact h
    · rw [upd_ne q] at e; exact g.fh a u e, g.hh, fun a u e => by
    by_cases q : a = p
    · subst q; exact .inr n
    · rw [upd_ne q] at e; exact g.nw a u e, by rw [upd_ne (Ne.symm hb)]; exact g.nd⟩
theorem Gb.back {p : Addr} (g : Gb b F H F' H') (hb : p ≠ b) (h : H' p = none) : H p = none := by
  cases e : H p with
  | none => rfl
  | some o => rw [g.hh p o hb e] at h; cases h
theorem wipeR_get {i : Nat} {c : Cell} : ∀ {vs : List Nat}, (wipeR ρ vs)[i]? = some (some c) → ρ[i]? = some (some c)
  | [], h => h
  | v :: vs, h => by
    unfold wipeR at h
    rcases getSet h with ⟨_, _, q⟩ | ⟨_, q⟩
    · cases q
    · exact wipeR_get q
theorem RB.wipe (R : RB F H σ ρ b n) {vs : List Nat} (h0 : 0 ∉ vs) : RB F H (L2.wipe σ vs) (wipeR ρ vs) b n :=
  ⟨R.rep.wipe vs, R.fb, R.bx, fun i xs e => R.no i xs (wipeR_get e), by rw [wipe_out h0]; exact R.at0⟩
end
def tB (N : Nat) (P : Rho → Prop) (S : Rho → PyData → Prop) : TE := fun σ H Q => ∃ F ρ b n, RB F H σ ρ b n ∧ P ρ ∧ n + N ≤ 1000000 ∧ ∀ v d F' H', Gb b F H F' H' → Bx H' b (n + N) → Da F' v d → S ρ d → Q v H'
def tBL (N : Nat) (P : Rho → Prop) (S : Rho → List PyData → Prop) : TE := fun σ H Q => ∃ F ρ b n, RB F H σ ρ b n ∧ P ρ ∧ n + N ≤ 1000000 ∧ ∀ p vs out F' H', Gb b F H F' H' → Bx H' b (n + N) → H p = none → F' p = none → H' p = some (.lst vs) → DaAll F' vs out → S ρ out → Q (.ref p) H'
def tBN (N : Nat) (P : Rho → Prop) (S : Rho → List PyData → Prop) : TE := fun σ H Q => ∃ F ρ b n, RB F H σ ρ b n ∧ P ρ ∧ n + N ≤ 1000000 ∧ ∀ v out F' H', Gb b F H F' H' → Bx H' b (n + N) → IsN F' v out → S ρ out → Q v H'
def tIB (N : Nat) (P : Rho → Prop) (S : Rho → List PyData → Prop) : TI := fun σ H R => ∃ F ρ b n, RB F H σ ρ b n ∧ P ρ ∧ n + N ≤ 1000000 ∧ ∀ J ds F1 H1, Gb b F H F1 H1 → Bx H1 b (n + N) → S ρ ds → Wk J F1 ds → R J H1
def spB (N : Nat) (P : List PyData → Prop) (S : List PyData → PyData → Prop) : Sp := fun vs H Q _ => ∃ F b n ws ds, vs = .ref b :: ws ∧ Ex F H ∧ F b = none ∧ DaAll F ws ds ∧ Bx H b n ∧ P ds ∧ n + N ≤ 1000000 ∧
  ∀ v d F' H', Gb b F H F' H' → Bx H' b (n + N) → Da F' v d → S ds d → Q v H'
section
variable {X : Cx} {k N : Nat} {x : Str} {p p0 pos : Pos} {a e : Expr} {es : List Expr} {f : SE} {u : SA} {P : List PyData → Prop} {S : List PyData → PyData → Prop} {P' : Rho → Prop} {S' : Rho → PyData → Prop}
theorem pe_callBx (G : HasR X.prog X.w X.K X.mg X.base k x (spB N P S)) (hr : Room k X.A) (hg : Gl X x) {bn : Str} (ha : DA X es u) (hN : X.N[0]? = some bn := by rfl) (hv : Vis X.env.scope bn := by first | exact Or.inl rfl | exact Or.inr (Or.inl rfl) | exact Or.inr (Or.inr rfl))
    (hb : (bn == ("__debug__" : Str)) = false := by decide) (hb2 : (bn == ("__classdict__" : Str)) = false := by decide)
    (hd : (x == ("__debug__" : Str)) = false := by decide) (hs : starEach (.Name bn p0 :: es) X.env = (false, eval (.Name bn p0) X.env) :: starEach es X.env := by rfl) (hp : (backTo pos (starEach es X.env)).any (·.1) = false := by rfl) :
    PE X (.Call (.Name x p) (.Name bn p0 :: es) [] pos) (tB N (fun ρ => ∃ ds, u ρ = some ds ∧ P ds) (fun ρ d => ∃ ds, u ρ = some ds ∧ S ds d)) :=
  weakE (pe_callR G hr hg (pa_cons (pe_var (i := 0) hN hv hb hb2) ha hs) hd hs hp) fun σ H Q w => by
    obtain ⟨F, ρ, b, n, R, ⟨ds, e, hP⟩, hn, q⟩ := w
    refine ⟨.ref b, R.at0, F, ρ, ds, R.rep, e, fun vs F1 H1 g1 dv => ?_⟩
    refine ⟨F1, b, n, vs, ds, by rw [List.append_nil], g1.fh, R.bx.free g1 R.fb, dv, R.bx.grow g1.hh, hP, hn, fun v d F' H' g bx dd hS => ?_⟩
    exact q v d F' H' ((Gb.of g1 (R.bx.free g1 R.fb)).trans g) bx dd ⟨ds, e, hS⟩
theorem pe_addB {c : Int} {j : Nat} {p1 : Pos} (hi : ∀ ρ d, S' ρ d → ∃ r : Int, d = .int r) (ha : PE X a (tB N P' S')) : PE X (.BinOp (.Constant (.int c) j p1) .Add a pos) (tB N P' (fun ρ d => ∃ r : Int, S' ρ (.int r) ∧ d = .int (c + r))) :=
  weakE (pe_op op_add pe_int ha) fun σ H Q w => by
    obtain ⟨F, ρ, b, n, R, hP, hn, q⟩ := w
    refine ⟨F, ρ, b, n, R, hP, hn, fun v d F' H' g bx dd hS => ?_⟩
    obtain ⟨r, rfl⟩ := hi ρ d hS
    cases dd
    exact ⟨c, r, rfl, rfl, q _ _ F' H' g bx (.int _) ⟨r, hS, rfl⟩⟩
theorem pi_rangeB {tg : Expr} (hg : Gl X "range") (hm : X.mg "range" = none) (hi : ∀ ρ d, S' ρ d → ∃ n : Int, d = .int n ∧ -100000 ≤ n ∧ n ≤ 100000) (ha : PE X a (tB N P' S')) (hs : starEach [a] X.env = [(false, eval a X.env)] := by rfl) :
    PI X tg (.Call (.Name "range" p) [a] [] pos) (tIB N P' (fun ρ ds => ∃ n : Int, S' ρ (.int n) ∧ ds = rangeOf n)) := weakI (pi_range1 hg hm (pa_cons ha pa_nil hs) hs) fun σ H R w => by
  obtain ⟨F, ρ, b, n, Re, hP, hn, q⟩ := w
  refine ⟨F, ρ, b, n, Re, hP, hn, fun v d F' H' g bx dd hS => ?_⟩
  obtain ⟨z, rfl, z1, z2⟩ := hi ρ d hS
  cases dd
  refine ⟨z, rfl, by omega, by omega, q _ _ F' H' g bx ⟨z, hS, rfl⟩ ?_⟩
  have hl : (rangeOf z).length = z.toNat := by unfold rangeOf; simp
  refine ⟨_, _, by rw [hl]; exact walk_range, fun _ _ _ _ => trivial, fun i F' H' x H'' hi e1 e2 y => ?_⟩
  obtain ⟨rfl, rfl⟩ := y
  rw [hl] at hi
  refine ⟨F', .int (i : Nat), Grow.refl e2, ?_, by show Da F' (.int (0 + (i : Int))) _; rw [Int.zero_add]; exact .int _⟩
  unfold rangeOf
  rw [List.getElem?_map, List.getElem?_range hi] <;> rfl
theorem pi_dataB {tg : Expr} {it : SA} (h : DI X tg e it) : PI X tg e (tIB 0 (fun ρ => ∃ ds, it ρ = some ds) (fun ρ ds => it ρ = some ds)) := weakI h fun σ H R w => by
  obtain ⟨F, ρ, b, n, Re, ⟨ds, hds⟩, hn, q⟩ := w
  exact ⟨F, ρ, ds, Re.rep, hds, fun J F1 H1 g1 wk => q J ds F1 H1 (Gb.of g1 (Re.bx.free g1 Re.fb)) (Re.bx.grow g1.hh) hds wk⟩
theorem pe_tupB {S : Rho → List PyData → Prop} (hg : Gl X "tuple") (hm : X.mg "tuple" = none) (ha : PE X e (tBL N P' S)) (hs : starEach [e] X.env = (false, eval e X.env) :: starEach [] X.env := by rfl) (hp : (backTo pos (starEach [] X.env)).any (·.1) = false := by rfl) :
    PE X (.Call (.Name "tuple" p) [e] [] pos) (tB N P' (fun ρ d => ∃ out, S ρ out ∧ d = .tuple out)) := weakE (pe_callTy call_tuple_of hg hm (by decide +kernel) (pa_cons ha pa_nil hs) (by decide) (by decide) hs hp) fun σ H Q w => by
  obtain ⟨F, ρ, b, n, R, hP, hn, q⟩ := w
  refine ⟨F, ρ, b, n, R, hP, hn, fun p vs out F' H' g bx n1 n2 h dv hS => ?_⟩
  refine ⟨p, vs, rfl, .inl ⟨SqL.of h, fun l hl => ?_⟩⟩
  have lb : l ≠ b := bx.ne hl
  have hH : H l = none := g.back lb hl
  have nF : F' l = none := g.fh.back hl
  have g2 := (g.mutNew (o := .tup vs) hH nF).freezeNew hH lb upd_same nF
  exact q _ _ _ _ g2 (bx.grow (Ex.new hl)) (.tup (.inl upd_same) (dv.ex (Ex.new nF))) ⟨out, hS, rfl⟩
/-- tuple(a new list), the tuple's object known -/
def rTupN (K : PySem.W.Frag) : List V → Hp → VK → Prop := fun xs H Q => ∃ p ys, xs = [.ref p] ∧ SqL K H p ys ∧ ∀ l o, o.dict = none → H l = none → Q (.ref l) (upd H l (.frz o (.tup ys)))
theorem call_tupN : CallR X (.type "tuple") (rTupN X.K) := by
  intro pins s σ H xs us Q I r h
  obtain ⟨p, ys, rfl, hq, q⟩ := h
  obtain ⟨u, rfl, rx⟩ := vals1 r
  cases rx
  obtain ⟨its, r', pl, hz⟩ := I.list hq
  have hlen := r'.length
  refine call_tuple_list pl.isList (fun h' kp => ?_) (by simp only [List.size_toArray] <;> omega)
  have I1 : Inv X pins σ H { s with heap := h' } := I.kept (t' := s.toks) kp
  refine ⟨.ref h'.objs.size, upd H h'.objs.size (.frz { cls := .type "tuple", data := .seq its.toArray } (.tup ys)), ?_, rfl, q _ _ rfl (I1.hok.fresh (Nat.le_refl _))⟩
  exact I1.laid (t' := s.toks) (fun b o e => Heap.get?_push_of_some _ e) (Nat.le_refl _) (show ObjOk X.prog X.w _ _ _ (.frz _ (.tup ys)) from ⟨Heap.get?_push_size _ rfl, hz, its, r', IsTup.new _ _⟩)
theorem pe_tupBN {S : Rho → List PyData → Prop} (hg : Gl X "tuple") (hm : X.mg "tuple" = none) (ha : PE X e (tBL N P' S)) (hs : starEach [e] X.env = (false, eval e X.env) :: starEach [] X.env := by rfl) (hp : (backTo pos (starEach [] X.env)).any (·.1) = false := by rfl) :
    PE X (.Call (.Name "tuple" p) [e] [] pos) (tBN N P' S) := weakE (pe_callTy call_tupN hg hm (by decide +kernel) (pa_cons ha pa_nil hs) (by decide) (by decide) hs hp) fun σ H Q w => by
  obtain ⟨F, ρ, b, n, R, hP, hn, q⟩ := w
  refine ⟨F, ρ, b, n, R, hP, hn, fun p vs out F' H' g bx n1 n2 h dv hS => ?_⟩
  refine ⟨p, vs, rfl, SqL.of h, fun l o ho hl => ?_⟩
  have lb : l ≠ b := bx.ne hl
  have hH : H l = none := g.back lb hl
  have nF : F' l = none := g.fh.back hl
  have g2 := (g.mutNew (o := .frz o (.tup vs)) hH nF).freezeNew hH lb upd_same nF
  exact q _ _ _ _ g2 (bx.grow (Ex.new hl)) ⟨l, o, vs, rfl, ho, upd_same, dv.ex (Ex.new nF)⟩ hS
theorem dn_tuple {l : SA} (hg : Gl X "tuple") (hm : X.mg "tuple" = none) (ha : DL X e l) (hs : starEach [e] X.env = (false, eval e X.env) :: starEach [] X.env := by rfl) (hp : (backTo pos (starEach [] X.env)).any (·.1) = false := by rfl) :
    DN X (.Call (.Name "tuple" p) [e] [] pos) l := weakE (pe_callTy call_tupN hg hm (by decide +kernel) (pa_cons ha pa_nil hs) (by decide) (by decide) hs hp) fun σ H Q w => by
  obtain ⟨F, ρ, ds, R, e, q⟩ := w
  refine ⟨F, ρ, ds, R, e, fun p vs F' H' g n1 n2 h dv => ?_⟩
  refine ⟨p, vs, rfl, SqL.of h, fun l o ho hl => ?_⟩
  have g2 := Grow.laid (o := .frz o (.tup vs)) g.fh hl
  exact q _ _ _ (g.trans g2) ⟨l, o, vs, rfl, ho, upd_same, dv.ex g2.ff⟩
theorem pe_sortedSetB {p2 pos2 : Pos} {L : Rho → List PyData → Prop} (hr : Room k X.A) (hc : X.calm = true) (hg : Gl X "sorted") (hm : X.mg "sorted" = none) (hg2 : Gl X "set") (hm2 : X.mg "set" = none) (ha : PE X a (tBL N P' L)) (hok : ∀ ρ out, P' ρ → L ρ out → SetOk out)
    (hs : starEach [.Call (.Name "set" p2) [a] [] pos2] X.env = (false, eval (.Call (.Name "set" p2) [a] [] pos2) X.env) :: starEach [] X.env := by rfl) (hs2 : starEach [a] X.env = (false, eval a X.env) :: starEach [] X.env := by rfl) :
    PE X (.Call (.Name "sorted" p) [.Call (.Name "set" p2) [a] [] pos2] [] pos) (tBL N P' (fun ρ out => ∃ o1, L ρ o1 ∧ out = srt (nub o1))) := weakE (pe_sortedSet hr hc hg hm hg2 hm2 ha hs hs2) fun σ H Q w => by
  obtain ⟨F, ρ, b, n, R, hP, hn, q⟩ := w
  refine ⟨F, ρ, b, n, R, hP, hn, fun p vs out F' H' g bx n1 n2 h dv hS => ?_⟩
  have pb : p ≠ b := fun z => by
    subst z
    obtain ⟨o, e⟩ := R.bx.some
    rw [n1] at e; cases e
  have g1 : Gb b F H (upd F' p (.lst vs)) H' := g.freezeNew n1 pb h n2
  refine ⟨upd F' p (.lst vs), .list out, out, g1.fh, .lst upd_same (dv.ex (Ex.new n2)), rfl, hok ρ out hP hS, fun q' ws F2 H2 g2 m1 m2 hh dd => ?_⟩
  have fb2 : F2 b = none := bx.free g2 g1.nd
  exact q q' ws _ F2 H2 (g1.trans (Gb.of g2 fb2)) (bx.grow g2.hh) (g.back (bx.ne m1) m1) m2 hh dd ⟨out, hS, rfl⟩
end
/-! ### a comprehension that draws -/
theorem paired_app {α β : Type} {R : α → β → Prop} : ∀ {xs : List α} {ys : List β} {xs' : List α} {ys' : List β}, Paired R xs ys → Paired R xs' ys' → Paired R (xs ++ xs') (ys ++ ys')
  | _, _, _, _, .nil, k => k
  | _, _, _, _, .cons h t, k => .cons h (paired_app t k)
structure LB (b : Addr) (F1 H1 : Hp) (Dl : Addr) (done : List PyData) (F' H' : Hp) : Prop where
  g : Gb b F1 H1 F' H'
  n1 : H1 Dl = none
  nf : F' Dl = none
  at_ : ∃ ac, H' Dl = some (.lst ac) ∧ DaAll F' ac done
theorem Grow.freeAt {F H F' H' : Hp} {p : Addr} {o : HO} (g : Grow F H F' H') (hf : F p = none) (hh : H p = some o) : F' p = none := g.free hf hh
section
variable {X : Cx} {elt iter : Expr} {scope : Scope} {own : List (Str × Nat)} {pos tp : Pos} {x : Str} {i NI NE L : Nat} {P1 : Rho → Prop} {S1 : Rho → List PyData → Prop} {P2 : Rho → Prop} {S2 : Rho → PyData → Prop}
theorem pe_lcB (hc : X.calm = true) (hN : X.N.Nodup) (hi : PI X (.Name x tp) iter (tIB NI P1 S1)) (ok : BlkOk X.N X.env.scope scope own)
    (hg : ∀ (s : Shared) (H : Hp) (C : Addr) (cl : List (Str × Addr)) (fp : List Addr), DG (X.blk s H scope (compEnvC scope cl C X.env) fp) (.Name x tp) (gN i) [i])
    (he : ∀ (s : Shared) (H : Hp) (C : Addr) (cl : List (Str × Addr)) (fp : List Addr), PE (X.blk s H scope (compEnvC scope cl C X.env) fp) elt (tB NE P2 S2)) (hix : i ∈ own.map (·.2)) (h0 : 0 ∉ own.map (·.2)) (hL : L ≤ 90000)
    (hs : ∀ x, foldedSetIterable iter X.env x = pure x := by intro _; rfl) :
    PE X (.ListComp elt [⟨.Name x tp, iter, [], 0⟩] scope pos) (tBL (NI + L * NE) (fun ρ => P1 ρ ∧ ∀ ds, S1 ρ ds → ds.length ≤ L ∧ ∀ d ∈ ds, P2 ((wipeR ρ (own.map (·.2))).set i (some (.dat d))))
      (fun ρ out => ∃ ds, S1 ρ ds ∧ Paired (fun d o => S2 ((wipeR ρ (own.map (·.2))).set i (some (.dat d))) o) ds out)) :=
  weakE (pe_lc hc hN hi ok hg (fun _ _ _ _ _ => dts_nil) he hs) fun σ H Q w => by
    obtain ⟨F, ρ, b, n, R, ⟨p1, p2⟩, hn, q⟩ := w
    refine ⟨F, ρ, b, n, R, p1, by omega, fun J ds F1 H1 g1 bx1 s1 wk Dl hD => ?_⟩
    obtain ⟨hl, hp⟩ := p2 ds s1
    obtain ⟨G, Y, w, hG, hY⟩ := wk
    have fD : F1 Dl = none := g1.fh.back hD
    have hbD : Dl ≠ b := bx1.ne hD
    have i0 : i ≠ 0 := fun z => h0 (z ▸ hix)
    have mulL : ds.length * NE ≤ L * NE := Nat.mul_le_mul_right NE hl
    refine go_it w (fun x H' Nx => tDG (gN i) [i] x (L2.wipe σ (own.map (·.2))) H' fun σ2 H2 => L2.wipe σ2 (own.map (·.2)) = L2.wipe σ (own.map (·.2)) ∧ tDT yesT σ2 H2 fun b H3 => if b = true then tB NE P2 S2 σ2 H3 fun y H4 => ∃ acc, H4 Dl = some (.lst acc) ∧ acc.length < sizeLine ∧ Nx (upd H4 Dl (.lst (acc ++ [y]))) else Nx H3)
      (fun j H' => ∃ done F', LB b F1 H1 Dl done F' H' ∧ Bx H' b (n + NI + j * NE) ∧ Paired (fun d o => S2 ((wipeR ρ (own.map (·.2))).set i (some (.dat d))) o) (ds.take j) done)
      ⟨[], F1, ⟨⟨Ex.refl _, g1.fh.mut fD, fun a o _ e => by rw [upd_ne (ne_of_none e hD)]; exact e, fun a o e => .inl e, g1.nd⟩, hD, fD, [], upd_same, .nil⟩, by
        rw [Nat.zero_mul, Nat.add_zero]
        obtain ⟨u1, u2, u3, u4, u5⟩ := bx1.ex
        exact ⟨u1, u2, u3, by rw [upd_ne (Ne.symm hbD)]; exact u4, u5⟩, by rw [List.take_zero]; exact .nil⟩ (fun j H' hj p => ?_) (fun j x H' H'' hj p y => ?_) (fun H' p => ?_)
    · obtain ⟨done, F', l, _⟩ := p
      exact hG F' H' l.g.ff l.g.fh
    · obtain ⟨done, F', l, bx, fa⟩ := p
      obtain ⟨F2, d, g2, hdi, dx⟩ := hY j F' H' x H'' hj l.g.ff l.g.fh y
      obtain ⟨ac, ha, hd⟩ := l.at_
      have bx2 := bx.grow g2.hh
      have gb2 : Gb b F' H' F2 H'' := Gb.of g2 (bx.free g2 l.g.nd)
      have R2 : RB F2 H'' (L2.wipe σ (own.map (·.2))) (wipeR ρ (own.map (·.2))) b (n + NI + j * NE) := (R.gb ((g1.trans l.g).trans gb2) bx2).wipe h0
      refine ⟨F2, _, d, _, R2.rep, dx, rfl, fun σ' R' hl' hk on => ⟨?_, ?_⟩⟩
      · exact (wipe_eq hl' fun m hm => hk m fun z => hm (by rw [List.mem_singleton] at z; rw [z]; exact hix)).trans (wipe_eq (wipe_length _ _) fun m hm => wipe_out hm)
      refine ⟨F2, _, true, R', rfl, fun F3 H3 g3 => ?_⟩
      dsimp only
      rw [if_pos rfl]
      have bx3 := bx2.grow g3.hh
      have hmul : j * NE + NE ≤ L * NE := by
        have : (j + 1) * NE ≤ ds.length * NE := Nat.mul_le_mul_right NE hj
        rw [Nat.succ_mul] at this
        omega
      refine ⟨F3, _, b, n + NI + j * NE, ⟨R'.grow g3, bx2.free g3 R2.fb, bx3, fun m xs e => ?_, ?_⟩, hp d (List.mem_of_getElem? hdi), by omega, fun v dd F4 H4 g4 bx4 dv s4 => ?_⟩
      · rcases getSet e with ⟨_, _, z⟩ | ⟨_, z⟩
        · cases z
        · exact R.no m xs (wipeR_get z)
      · rw [hk 0 (by simpa using Ne.symm i0)]
        exact R2.at0
      · have ha4 : H4 Dl = some (.lst ac) := g4.hh _ _ hbD (g3.hh _ _ (g2.hh _ _ ha))
        have nf4 : F4 Dl = none := by
          cases z : F4 Dl with
          | none => rfl
          | some o =>
            rcases g4.nw _ _ z with z1 | z1
            · rw [g3.freeAt (g2.freeAt l.nf ha) (g2.hh _ _ ha)] at z1; cases z1
            · rw [g3.hh _ _ (g2.hh _ _ ha)] at z1; cases z1
        have gg : Gb b F1 H1 F4 H4 := ((l.g.trans gb2).trans (Gb.of g3 (bx2.free g3 R2.fb))).trans g4
        have hlen : ac.length = j := by
          rw [hd.length, ← (paired_get fa).1, List.length_take]
          omega
        refine ⟨ac, ha4, sz_lt (by omega), done ++ [dd], F4, ⟨gg.mutNew l.n1 nf4, l.n1, nf4, _, upd_same, (hd.ex ((g2.ff.trans g3.ff).trans g4.ff)).app (.cons dv .nil)⟩, ?_, ?_⟩
        · obtain ⟨u1, u2, u3, u4, u5⟩ := bx4.ex
          refine ⟨u1, u2, u3, by rw [upd_ne (Ne.symm hbD)]; exact u4, ?_⟩
          rw [Nat.succ_mul, ← Nat.add_assoc]
          exact u5
        · rw [List.take_succ, hdi]
          exact paired_app fa (.cons s4 .nil)
    · obtain ⟨done, F', l, bx, fa⟩ := p
      obtain ⟨ac, ha, hd⟩ := l.at_
      rw [List.take_length] at fa
      exact q Dl ac done F' H' (g1.trans l.g) (bx.mono (by omega)) (g1.back hbD hD) l.nf ha hd ⟨ds, s1, fa⟩
end
end U
set_option maxHeartbeats 4000000
/-! The draws: the defs. -/
namespace U
open PySem PySem.Spec PyProof.Rows L2 Hd
theorem start_cons {x : Str} {N : List Str} {v : V} {ws : List V} : L2.start (x :: N) (v :: ws) = some v :: L2.start N ws := by
  unfold L2.start
  simp
theorem Rep.consNone {F H : Hp} {σ : L2.St} {ρ : Rho} {o : Option V} (R : Rep F H σ ρ) : Rep F H (o :: σ) (none :: ρ) := by
  refine ⟨R.fh, by simp [R.len], fun i d e => ?_, fun i d e => ?_, fun i xs e => ?_, fun i j xs ys p h1 h2 h3 h4 => ?_⟩
  · cases i with
    | zero => cases e
    | succ i => exact R.dat i d e
  · cases i with
    | zero => cases e
    | succ i => exact R.nt i d e
  · cases i with
    | zero => cases e
    | succ i => exact R.own i xs e
  · cases i with
    | zero => cases h1
    | succ i => cases j with
      | zero => cases h2
      | succ j => exact congrArg Nat.succ (R.apart i j xs ys p h1 h2 h3 h4)
theorem startC_no {n i : Nat} {ds xs : List PyData} : (none :: startC n (ds.map .dat))[i]? ≠ some (some (.own xs)) := by
  cases i with
  | zero => intro e; cases e
  | succ i =>
    intro e
    have := startC_at (show (startC n (ds.map .dat))[i]? = some (some (.own xs)) from e)
    rw [List.getElem?_map] at this
    cases q : ds[i]? <;> rw [q] at this <;> cases this
theorem rb_start {F H : Hp} {x : Str} {N : List Str} {b : Addr} {ws : List V} {ds : List PyData} {n : Nat} (ef : Ex F H) (fb : F b = none) (da : DaAll F ws ds) (bx : Bx H b n) :
    RB F H (L2.start (x :: N) (.ref b :: ws)) (none :: startC N.length (ds.map .dat)) b n :=
  ⟨by rw [start_cons]; exact (start_rep ef (DaCs.of da)).consNone, fb, bx, fun i xs => startC_no, by rw [start_cons] <;> rfl⟩
section
variable {P : Program} {w : World} {K : PySem.W.Frag} {mg : Str → Option Value} {base : Heap}
theorem HasB.of {k m N' : Nat} {x y qual : Str} {params : Arguments} {e : Expr} {pos : Pos} {scope : Scope} {N ps : List Str} {fa : Addr} {fd : FuncData} {P0 : List PyData → Prop} {S0 : List PyData → PyData → Prop} {P' : Rho → Prop} {S' : Rho → PyData → Prop}
    (F : FunD K x qual params [.Return (some e) pos] scope [] [] fa fd) (hm : mg x = some (.ref fa)) (S : FnScope (y :: N) ps scope)
    (hb : ∀ (kV doc pm : Value) (an : Option Addr) (cdv ct : Value) (us : List Value), us.length = ps.length → bindArgs (PySem.W.fnOf x qual params [.Return (some e) pos] scope .none kV doc pm an cdv ct) ⟨us, []⟩ = pure (ps.zip us))
    (hn : ps.length = m + 1)
    (h : ∀ (cdv : Value) (A : Around) (outer : List Env) (s : Shared) (H : Hp) (E : XK), Room k (A.deeper (envOfC qual scope s.heap.objs.size fa cdv)) → PE (cx1 P w K mg base (y :: N) qual scope fa cdv A outer s H E) e (tB N' P' S'))
    (hP : ∀ ds, ds.length = m → P0 ds → P' (none :: startC N.length (ds.map .dat))) (hS : ∀ ds d, ds.length = m → P0 ds → S' (none :: startC N.length (ds.map .dat)) d → S0 ds d) :
    HasR P w K mg base (k + 1) x (spB N' (fun ds => ds.length = m ∧ P0 ds) S0) := by
  refine HasR.of F hm S hb (fun vs H Q E w => ?_) (tRet (tB N' P' S')) (fun vs H Q E w => ?_) fun cdv A outer s H E hr => pss_one (ps_ret (h cdv A outer s H E hr))
  · obtain ⟨F, b, n, ws, ds, rfl, ef, fb, da, bx, ⟨hl, hp⟩, hn', q⟩ := w
    rw [List.length_cons, da.length, hl, hn]
  · obtain ⟨F, b, n, ws, ds, rfl, ef, fb, da, bx, ⟨hl, hp⟩, hn', q⟩ := w
    exact ⟨F, _, b, n, rb_start ef fb da bx, hP ds hl hp, hn', fun v d F' H' g bx dd s => q v d F' H' g bx dd (hS ds d hl hp s)⟩
/-- take, as a promise of this kind -/
def PTk (ds : List PyData) : Prop := ∃ top : Int, ds = [.int top] ∧ 0 < top ∧ top ≤ 1000
def STk (ds : List PyData) (d : PyData) : Prop := ∃ top r : Int, ds = [.int top] ∧ d = .int r ∧ 0 ≤ r ∧ r < top ∧ top ≤ 1000
theorem spTake_of {vs : List V} {H : Hp} {Q : VK} {E : XK} (w : spB 1 PTk STk vs H Q E) : spTake vs H Q E := by
  obtain ⟨F, b, n, ws, ds, rfl, ef, fb, da, bx, ⟨top, rfl, t0, t1⟩, hn, q⟩ := w
  cases da with
  | cons h1 h2 =>
    cases h2
    cases h1
    exact ⟨b, top, n, rfl, t0, by omega, bx, by omega, fun r H' r0 r1 kp bx' => q _ _ F H' (Gb.kept ef fb kp) bx' (.int r) ⟨top, r, rfl, rfl, r0, r1, t1⟩⟩
theorem okB_take (T : Txt P w K mg base) : HasR P w K mg base 1 "_law_take" (spB 1 PTk STk) := by
  obtain ⟨fa, fd, ps, h1, h2, h3, h4⟩ := ok_L_take T
  refine ⟨fa, fd, ps, ?_, h2, h3, h4⟩
  exact h1.imp fun vs H Q E w => spTake_of w

theorem ints_of {rs : List PyData} {ls : List PyData} {R : PyData → PyData → Prop} (h : ∀ d o, R d o → ∃ i : Int, o = .int i) : Paired R ls rs → ∃ is : List Int, rs = is.map .int := by
  intro p
  induction p with
  | nil => exact ⟨[], rfl⟩
  | cons r _ ih =>
    obtain ⟨i, rfl⟩ := h _ _ r
    obtain ⟨is, rfl⟩ := ih
    exact ⟨i :: is, rfl⟩
theorem paired_imp {α β : Type} {R S : α → β → Prop} (h : ∀ a b, R a b → S a b) : ∀ {xs : List α} {ys : List β}, Paired R xs ys → Paired S xs ys
  | _, _, .nil => .nil
  | _, _, .cons r t => .cons (h _ _ r) (paired_imp h t)
theorem paired_all {α β : Type} {R : α → β → Prop} {S : β → Prop} (h : ∀ a b, R a b → S b) : ∀ {xs : List α} {ys : List β}, Paired R xs ys → ∀ y ∈ ys, S y
  | _, _, .nil, y, hy => nomatch hy
  | _, _, .cons r t, y, hy => by
    rcases List.mem_cons.mp hy with e | hy
    · rw [e]; exact h _ _ r
    · exact paired_all h t y hy
/-- a tuple of heights -/
def Dp0 (hs : List Int) : Prop := 1 ≤ hs.length ∧ hs.length ≤ 4 ∧ ∀ h ∈ hs, 2 ≤ h ∧ h ≤ 3
def PTo (ds : List PyData) : Prop := ∃ hs : List Int, ds = [iT hs] ∧ Dp0 hs
def KeyOf (hs rs : List Int) : Prop := Paired (fun h r => 0 ≤ r ∧ r < h) hs rs
def STo (ds : List PyData) (d : PyData) : Prop := ∀ hs : List Int, ds = [iT hs] → ∃ rs : List Int, d = iT rs ∧ KeyOf hs rs
theorem sc_L_tooth : FnScope ["_law_box_here", "_law_deep_here", "_law_high_so"] ["_law_box_here", "_law_deep_here"] (defScope s_L_tooth) := ⟨rfl, rfl, rfl, by decide +kernel, rfl, by decide +kernel, by decide +kernel⟩
theorem key_pairs {hs : List Int} {out : List PyData} : Paired (fun d o => ∃ top r : Int, d = PyData.int top ∧ o = PyData.int r ∧ 0 ≤ r ∧ r < top) (hs.map .int) out → ∃ rs : List Int, out = rs.map .int ∧ KeyOf hs rs := by
  induction hs generalizing out with
  | nil => intro h; cases h; exact ⟨[], rfl, .nil⟩
  | cons x hs ih =>
    intro h
    cases h with
    | cons r t =>
      obtain ⟨top, z, e1, rfl, z0, z1⟩ := r
      cases e1
      obtain ⟨rs, rfl, k⟩ := ih t
      exact ⟨z :: rs, rfl, .cons ⟨z0, z1⟩ k⟩
theorem ok_L_tooth (T : Txt P w K mg base) : HasR P w K mg base 2 "_law_tooth" (spB 4 (fun ds => ds.length = 1 ∧ PTo ds) STo) := by
  obtain ⟨fa, fd, F, hm⟩ := T.def_ 43 43 (x := "_law_tooth")
  have HT := okB_take T
  refine HasB.of F hm sc_L_tooth (fun _ _ _ _ _ _ us hl => match us, hl with | [_, _], _ => rfl) rfl (fun cdv A outer s H E hr => pe_tupB (by rfl) (T.free 70) (pe_lcB (i := 2) (NI := 0) (NE := 1) (L := 4) rfl sc_L_tooth.nd (pi_dataB (di_seq (de_var 1))) (blkOk_by (own := [("_law_high_so", 2)]) (by kernel_rfl)) (fun s H C cl fp => dg_name sc_L_tooth.nd (i := 2) rfl (.inl rfl))
    (fun s H C cl fp => pe_callBx (HT.mono (by omega)) hr (by rfl) (da_cons (de_var 2) da_nil)) (by decide) (by decide) (by decide))) ?_ ?_
  · rintro ds hl ⟨hs, rfl, h1, h2, h3⟩
    refine ⟨⟨hs.map .int, rfl⟩, fun ds hds => ?_⟩
    have e : ds = hs.map .int := (Option.some.inj hds).symm
    subst e
    refine ⟨by rw [List.length_map]; exact h2, fun d hd => ?_⟩
    obtain ⟨h, hh, rfl⟩ := List.mem_map.mp hd
    have := h3 h hh
    exact ⟨[.int h], rfl, h, rfl, by omega, by omega⟩
  · rintro ds d hl - ⟨out, ⟨ds', hds, hp⟩, rfl⟩ hs rfl
    have e : ds' = hs.map .int := (Option.some.inj hds).symm
    subst e
    obtain ⟨rs, rfl, k⟩ := key_pairs (paired_imp (fun a b h => by
      obtain ⟨ds, e, top, r, e2, e3, r0, r1, _⟩ := h
      subst e2
      have e4 : some [a] = some [PyData.int top] := e
      cases e4
      exact ⟨top, r, rfl, e3, r0, r1⟩) hp)
    exact ⟨rs, rfl, k⟩

theorem wipeR_len (ρ : Rho) : ∀ vs : List Nat, (wipeR ρ vs).length = ρ.length
  | [] => rfl
  | v :: vs => by unfold wipeR; rw [List.length_set, wipeR_len ρ vs]
theorem range_len {n : Int} : (rangeOf n).length = n.toNat := by unfold rangeOf; simp
theorem sc_L_deep : FnScope ["_law_box_here", "_law_pins", "_law_most", "_law_lap"] ["_law_box_here", "_law_pins", "_law_most"] (defScope s_L_deep) := ⟨rfl, rfl, rfl, by decide +kernel, rfl, by decide +kernel, by decide +kernel⟩
theorem sc_L_chief : FnScope ["_law_box_here", "_law_deep_here", "_law_most", "_law_lap"] ["_law_box_here", "_law_deep_here", "_law_most"] (defScope s_L_chief) := ⟨rfl, rfl, rfl, by decide +kernel, rfl, by decide +kernel, by decide +kernel⟩
def SDe (ds : List PyData) (d : PyData) : Prop := ∃ hs, d = iT hs ∧ Dp0 hs
theorem deep_pairs {ls : List PyData} {out : List PyData} : Paired (fun _ o => ∃ r : Int, o = PyData.int (2 + r) ∧ 0 ≤ r ∧ r < 2) ls out → ∃ hs : List Int, out = hs.map .int ∧ ∀ h ∈ hs, 2 ≤ h ∧ h ≤ 3 := by
  intro p
  induction p with
  | nil => exact ⟨[], rfl, fun _ h => nomatch h⟩
  | cons r _ ih =>
    obtain ⟨z, rfl, z0, z1⟩ := r
    obtain ⟨hs, rfl, k⟩ := ih
    exact ⟨(2 + z) :: hs, rfl, fun h hh => by
      rcases List.mem_cons.mp hh with e | hh
      · omega
      · exact k h hh⟩
theorem ok_L_deep (T : Txt P w K mg base) : HasR P w K mg base 2 "_law_deep" (spB 5 (fun ds => ds.length = 2 ∧ ds = [.int 4, .int 3]) SDe) := by
  obtain ⟨fa, fd, F, hm⟩ := T.def_ 42 42 (x := "_law_deep")
  have HT := okB_take T
  refine HasB.of F hm sc_L_deep (fun _ _ _ _ _ _ us hl => match us, hl with | [_, _, _], _ => rfl) rfl (fun cdv A outer s H E hr => pe_tupB (by rfl) (T.free 70) (pe_lcB (i := 3) (NI := 1) (NE := 1) (L := 4) rfl sc_L_deep.nd
    (pi_rangeB (by rfl) (T.free 64) ?_ (pe_addB ?_ (pe_callBx (HT.mono (by omega)) hr (by rfl) (da_cons (de_var 1) da_nil)))) (blkOk_by (own := [("_law_lap", 3)]) (by kernel_rfl)) (fun s H C cl fp => dg_name sc_L_deep.nd (i := 3) rfl (.inl rfl))
    (fun s H C cl fp => pe_addB ?_ (pe_callBx (HT.mono (by omega)) hr (by rfl) (da_cons (de_sub (de_var 2) de_int) da_nil))) (by decide) (by decide) (by decide))) ?_ ?_
  · rintro ρ d ⟨r, ⟨ds, _, top, r', _, e, r0, r1, r2⟩, rfl⟩
    cases e
    exact ⟨_, rfl, by omega, by omega⟩
  · rintro ρ d ⟨ds, _, top, r, _, e, _⟩
    exact ⟨r, e⟩
  · rintro ρ d ⟨ds, _, top, r, _, e, _⟩
    exact ⟨r, e⟩
  · rintro ds hl rfl
    refine ⟨⟨[.int 4], rfl, 4, rfl, by omega, by omega⟩, fun ds hds => ?_⟩
    obtain ⟨n, ⟨r, ⟨ds', e1, top, r', e2, e3, r0, r1, r2⟩, e4⟩, rfl⟩ := hds
    cases e1
    cases e2
    cases e3
    cases e4
    refine ⟨by rw [range_len]; omega, fun d hd => ⟨[.int 2], rfl, 2, rfl, by omega, by omega⟩⟩
  · rintro ds d hl rfl ⟨out, ⟨ds', ⟨n, ⟨r, ⟨ds'', e1, top, r', e2, e3, r0, r1, r2⟩, e4⟩, rfl⟩, hp⟩, rfl⟩
    cases e1
    cases e2
    cases e3
    cases e4
    have hlen := (paired_get hp).1
    rw [range_len] at hlen
    obtain ⟨hs, rfl, k⟩ := deep_pairs (paired_imp (fun a o h => by
      obtain ⟨r, ⟨ds, e1, top, r', e2, e3, q0, q1, q2⟩, rfl⟩ := h
      cases e3
      have e5 : some [PyData.int 2] = some ds := e1
      cases e5
      cases e2
      exact ⟨r, rfl, q0, q1⟩) hp)
    rw [List.length_map] at hlen
    exact ⟨hs, rfl, by omega, by omega, k⟩
/-- some keys -/
def Keys (hs : List Int) (ch : List (List Int)) : Prop := ∀ r ∈ ch, KeyOf hs r
def PCh (ds : List PyData) : Prop := ∃ hs : List Int, ds = [iT hs, .int 3] ∧ Dp0 hs
def SCh (ds : List PyData) (d : PyData) : Prop := ∀ hs : List Int, ds = [iT hs, .int 3] → ∃ ch : List (List Int), d = .tuple (ch.map iT) ∧ 1 ≤ ch.length ∧ ch.length ≤ 3 ∧ ch.Nodup ∧ Keys hs ch
theorem key_ne {hs r : List Int} (h : KeyOf hs r) (hd : Dp0 hs) : r ≠ [] := fun e => by
  subst e
  have := (paired_get h).1
  have h1 := hd.1
  rw [this] at h1
  exact absurd h1 (by decide)
theorem rows_pairs {hs : List Int} {ls : List PyData} {out : List PyData} : Paired (fun _ o => ∃ rs : List Int, o = iT rs ∧ KeyOf hs rs) ls out → ∃ rows : List (List Int), out = rows.map iT ∧ Keys hs rows := by
  intro p
  induction p with
  | nil => exact ⟨[], rfl, fun _ h => nomatch h⟩
  | cons r _ ih =>
    obtain ⟨z, rfl, z0⟩ := r
    obtain ⟨rows, rfl, k⟩ := ih
    exact ⟨z :: rows, rfl, fun h hh => by
      rcases List.mem_cons.mp hh with e | hh
      · rw [e]; exact z0
      · exact k h hh⟩
theorem some_rows {g : PyData → Rho} {u : SA} {ds out : List PyData} (h3 : ∀ d ∈ ds, ∃ ds', u (g d) = some ds' ∧ ds'.length = 1 ∧ PTo ds') (h2 : Paired (fun d o => ∃ ds', u (g d) = some ds' ∧ STo ds' o) ds out) : ∃ rows : List (List Int), out = rows.map iT ∧ ∀ r ∈ rows, r ≠ [] := by
  induction h2 with
  | nil => exact ⟨[], rfl, fun _ h => nomatch h⟩
  | cons r _ ih =>
    obtain ⟨rows, rfl, k⟩ := ih fun d hd => h3 d (List.mem_cons_of_mem _ hd)
    obtain ⟨ds', e, hs'⟩ := r
    obtain ⟨ds2, e2, _, hs, rfl, hd⟩ := h3 _ List.mem_cons_self
    rw [e] at e2
    cases e2
    obtain ⟨rs, rfl, kk⟩ := hs' hs rfl
    exact ⟨rs :: rows, rfl, fun h hh => by
      rcases List.mem_cons.mp hh with e | hh
      · rw [e]; exact key_ne kk hd
      · exact k h hh⟩
theorem ok_L_chief (T : Txt P w K mg base) : HasR P w K mg base 3 "_law_chief" (spB 13 (fun ds => ds.length = 2 ∧ PCh ds) SCh) := by
  obtain ⟨fa, fd, F, hm⟩ := T.def_ 44 44 (x := "_law_chief")
  have HT := okB_take T
  have HO := ok_L_tooth T
  refine HasB.of F hm sc_L_chief (fun _ _ _ _ _ _ us hl => match us, hl with | [_, _, _], _ => rfl) rfl (fun cdv A outer s H E hr => pe_tupB (by rfl) (T.free 70) (pe_sortedSetB hr rfl (by rfl) (T.free 67) (by rfl) (T.free 66) (pe_lcB (i := 3) (NI := 1) (NE := 4) (L := 3) rfl sc_L_chief.nd
    (pi_rangeB (by rfl) (T.free 64) ?_ (pe_addB ?_ (pe_callBx (HT.mono (by omega)) hr (by rfl) (da_cons (de_var 2) da_nil)))) (blkOk_by (own := [("_law_lap", 3)]) (by kernel_rfl)) (fun s H C cl fp => dg_name sc_L_chief.nd (i := 3) rfl (.inl rfl))
    (fun s H C cl fp => pe_callBx (HO.mono (by omega)) hr (by rfl) (da_cons (de_var 1) da_nil)) (by decide) (by decide) (by decide)) ?_)) ?_ ?_
  · rintro ρ d ⟨r, ⟨ds, _, top, r', _, e, r0, r1, r2⟩, rfl⟩
    cases e
    exact ⟨_, rfl, by omega, by omega⟩
  · rintro ρ d ⟨ds, _, top, r, _, e, _⟩
    exact ⟨r, e⟩
  · rintro ρ out ⟨-, hp⟩ ⟨ds, h1, h2⟩
    obtain ⟨hl, h3⟩ := hp ds h1
    obtain ⟨rows, rfl, hne⟩ := some_rows h3 h2
    have hlen := (paired_get h2).1
    rw [List.length_map] at hlen
    exact setOk_keys hne (by omega)
  · rintro ds hl ⟨hs, rfl, hd⟩
    refine ⟨⟨[.int 3], rfl, 3, rfl, by omega, by omega⟩, fun ds hds => ?_⟩
    obtain ⟨n, ⟨r, ⟨ds', e1, top, r', e2, e3, r0, r1, r2⟩, e4⟩, rfl⟩ := hds
    cases e1
    cases e2
    cases e3
    cases e4
    refine ⟨by rw [range_len]; omega, fun d hd' => ⟨[iT hs], rfl, rfl, hs, rfl, hd⟩⟩
  · rintro ds d hl ⟨hs, rfl, hd⟩ ⟨out, ⟨o1, ⟨ds', ⟨n, ⟨r, ⟨ds'', e1, top, r', e2, e3, r0, r1, r2⟩, e4⟩, rfl⟩, hp⟩, rfl⟩, rfl⟩ hs' ehs
    cases e1
    cases e2
    cases e3
    cases e4
    have ehs2 : hs' = hs := by
      injection ehs with z _
      exact (iT_inj z).symm
    subst ehs2
    have hlen := (paired_get hp).1
    rw [range_len] at hlen
    obtain ⟨rows, rfl, k⟩ := rows_pairs (hs := hs') (paired_imp (fun a o h => by
      obtain ⟨ds, e1, h2⟩ := h
      have e5 : some [iT hs'] = some ds := e1
      cases e5
      exact h2 hs' rfl) hp)
    rw [List.length_map] at hlen
    obtain ⟨ch, e, c1, c2, c3⟩ := srt_nub (f := iT) (fun _ _ => iT_inj) rows
    refine ⟨ch, by rw [e], ?_, by omega, c1, fun r hr => k r ((c2 r).mp hr)⟩
    cases rows with
    | nil => exact absurd hlen (by simp; omega)
    | cons x rows =>
      have : x ∈ ch := (c2 x).mpr List.mem_cons_self
      exact List.length_pos_of_mem this
end
end U
set_option maxHeartbeats 4000000
/-! _law_right. -/
namespace U
open PySem PySem.Spec PyProof.Rows L2 Hd
/-- heights, wider -/
def DpW (hs : List Int) : Prop := 1 ≤ hs.length ∧ hs.length ≤ 4 ∧ ∀ h ∈ hs, 2 ≤ h ∧ h ≤ 4
theorem Dp0.wide {hs : List Int} (h : Dp0 hs) : DpW hs := ⟨h.1, h.2.1, fun x hx => by have := h.2.2 x hx; omega⟩
structure CaseOk : Prop where
  teeth : ∀ hs, Dp0 hs → ∃ ts, onD φ_L_teeth [iT hs] = some (.list ts) ∧ ts.length < 97
  case_ : ∀ (hs : List Int) (ch bu : List (List Int)), DpW hs → 1 ≤ ch.length → ch.length ≤ 3 → Keys hs ch → bu.length ≤ 5 → bu.Nodup → Keys hs bu → φ_L_case_right [.dat (iT hs), .dat (.tuple (ch.map iT)), .nt (bu.map iT)] = some (.bool true)
section
variable {F H F' H' : Hp} {σ : L2.St} {ρ : Rho} {b : Addr} {n m : Nat}
theorem RB.forget (R : RB F H σ ρ b n) : RB F H σ (List.replicate ρ.length none) b n := by
  have hno : ∀ (i : Nat) (c : Cell), (List.replicate ρ.length (none : Option Cell))[i]? ≠ some (some c) := by
    intro i c e
    rw [List.getElem?_replicate] at e
    split at e <;> cases e
  refine ⟨⟨R.rep.fh, by rw [List.length_replicate, R.rep.len], fun i d e => absurd e (hno _ _), fun i d e => absurd e (hno _ _), fun i d e => absurd e (hno _ _), fun i j xs ys p e => absurd e (hno _ _)⟩, R.fb, R.bx, fun i xs => hno _ _, R.at0⟩
theorem RB.mono (R : RB F H σ ρ b n) (h : n ≤ m) : RB F H σ ρ b m := ⟨R.rep, R.fb, R.bx.mono h, R.no, R.at0⟩
theorem RB.setDat (R : RB F H σ ρ b n) (i : Nat) (hi : i ≠ 0) {v : V} {d : PyData} (h : Da F v d) : RB F H (σ.set i (some v)) (ρ.set i (some (.dat d))) b n :=
  ⟨R.rep.setDat i h, R.fb, R.bx, fun j xs e => by
    rcases getSet e with ⟨_, _, z⟩ | ⟨_, z⟩
    · cases z
    · exact R.no j xs z, by rw [setNe (Ne.symm hi)]; exact R.at0⟩
theorem RB.setNt (R : RB F H σ ρ b n) (i : Nat) (hi : i ≠ 0) {v : V} {ds : List PyData} (h : IsN F v ds) : RB F H (σ.set i (some v)) (ρ.set i (some (.nt ds))) b n :=
  ⟨R.rep.setNt i h, R.fb, R.bx, fun j xs e => by
    rcases getSet e with ⟨_, _, z⟩ | ⟨_, z⟩
    · cases z
    · exact R.no j xs z, by rw [setNe (Ne.symm hi)]; exact R.at0⟩
end
theorem sc_L_right : FnScope ["_law_box_here", "_law_turn", "_law_deep_here", "_law_chief_here", "_law_bunch", "_law_lap"] ["_law_box_here"] (defScope s_L_right) := ⟨rfl, rfl, rfl, by decide +kernel, rfl, by decide +kernel, by decide +kernel⟩
def rDe : TE := tB 5 (fun ρ => ∃ ds, (aCons (cE (.int 4)) (aCons (cE (.int 3)) aNil)) ρ = some ds ∧ ds.length = 2 ∧ ds = [.int 4, .int 3]) (fun ρ d => ∃ ds, (aCons (cE (.int 4)) (aCons (cE (.int 3)) aNil)) ρ = some ds ∧ SDe ds d)
def rCh : TE := tB 13 (fun ρ => ∃ ds, (aCons (vE 2) (aCons (cE (.int 3)) aNil)) ρ = some ds ∧ ds.length = 2 ∧ PCh ds) (fun ρ d => ∃ ds, (aCons (vE 2) (aCons (cE (.int 3)) aNil)) ρ = some ds ∧ SCh ds d)
def S1b : Rho → List PyData → Prop := fun ρ ds => ∃ n : Int, (∃ ds', (aCons (cE (.int 6)) aNil) ρ = some ds' ∧ STk ds' (.int n)) ∧ ds = rangeOf n
def S2b : Rho → PyData → Prop := fun ρ o => ∃ ds', (aCons (vE 2) aNil) ρ = some ds' ∧ STo ds' o
def P2b : Rho → Prop := fun ρ => ∃ ds', (aCons (vE 2) aNil) ρ = some ds' ∧ ds'.length = 1 ∧ PTo ds'
def rBu : TE := tBN 21 (fun ρ => (∃ ds, (aCons (cE (.int 6)) aNil) ρ = some ds ∧ PTk ds) ∧ ∀ ds, S1b ρ ds → ds.length ≤ 5 ∧ ∀ d ∈ ds, P2b ((wipeR ρ [5]).set 5 (some (.dat d)))) (fun ρ out => ∃ o1, (∃ ds, S1b ρ ds ∧ Paired (fun d o => S2b ((wipeR ρ [5]).set 5 (some (.dat d))) o) ds o1) ∧ out = srt (nub o1))
noncomputable def cRi : ST := andT (tstE (op2 ltD (calE lenD (aCons (calE (onD φ_L_teeth) (aCons (vE 2) aNil)) aNil)) (cE (.int 97)))) (notT (tstE (calC φ_L_case_right (cDat (vE 2) (cDat (vE 3) (cNt (vN 4) cNil))))))
noncomputable def tRi : TS := tSeq (tFor (tDI (rngL (cE (.int 6)))) (tDG (gN 1) [1]) (tSeq (tAsg rDe (gName 2)) (tSeq (tAsg rCh (gName 3)) (tSeq (tAsg rBu (gName 4)) (tIfS (tDT cRi) (tRet (tD (cE (.bool false)))) tNext))))) (tRet (tD (cE (.bool true))))
theorem right_turn (ok : CaseOk) {F H : Hp} {σ : L2.St} {b : Addr} {n : Nat} {D : Ends} (R : RB F H σ [none, none, none, none, none, none] b n) (hn : n + 39 ≤ 1000000)
    (q : ∀ F' H' σ', Gb b F H F' H' → RB F' H' σ' [none, none, none, none, none, none] b (n + 39) → D.nx σ' H') : (tSeq (tAsg rDe (gName 2)) (tSeq (tAsg rCh (gName 3)) (tSeq (tAsg rBu (gName 4)) (tIfS (tDT cRi) (tRet (tD (cE (.bool false)))) tNext)))) D σ H := by
  refine ⟨F, _, b, n, R, ⟨_, rfl, rfl, rfl⟩, by omega, fun v d F1 H1 g1 bx1 d1 s1 => ?_⟩
  obtain ⟨_, _, hs, rfl, hd⟩ := s1
  have R1 := (R.gb g1 bx1).setDat 2 (by decide) d1
  refine ⟨F1, _, b, n + 5, R1, ⟨_, rfl, rfl, hs, rfl, hd⟩, by omega, fun v2 d2 F2 H2 g2 bx2 d2' s2 => ?_⟩
  obtain ⟨ds, e, s2⟩ := s2
  have e : some [iT hs, .int 3] = some ds := e
  cases e
  obtain ⟨ch, rfl, c1, c2, c3, c4⟩ := s2 hs rfl
  have R2 := (R1.gb g2 bx2).setDat 3 (by decide) d2'
  refine ⟨F2, _, b, n + 18, R2, ⟨⟨[.int 6], rfl, 6, rfl, by omega, by omega⟩, fun ds hds => ?_⟩, by omega, fun v3 out F3 H3 g3 bx3 d3 s3 => ?_⟩
  · obtain ⟨m, ⟨ds', e1, top, r', e2, e3, r0, r1, r2⟩, rfl⟩ := hds
    have e1 : some [PyData.int 6] = some ds' := e1
    cases e1
    cases e2
    cases e3
    exact ⟨by rw [range_len]; omega, fun d hd' => ⟨[iT hs], rfl, rfl, hs, rfl, hd⟩⟩
  obtain ⟨o1, ⟨ds, ⟨m, ⟨ds', e1, top, r', e2, e3, r0, r1, r2⟩, rfl⟩, hp⟩, rfl⟩ := s3
  have e1 : some [PyData.int 6] = some ds' := e1
  cases e1
  cases e2
  cases e3
  have hlen := (paired_get hp).1
  rw [range_len] at hlen
  obtain ⟨rows, rfl, k⟩ := rows_pairs (hs := hs) (paired_imp (fun a o h => by
    obtain ⟨ds, e1, h2⟩ := h
    have e5 : some [iT hs] = some ds := e1
    cases e5
    exact h2 hs rfl) hp)
  rw [List.length_map] at hlen
  obtain ⟨bu, e, b1, b2, b3⟩ := srt_nub (f := iT) (fun _ _ => iT_inj) rows
  rw [e] at d3
  have R3 := (R2.gb g3 bx3).setNt 4 (by decide) d3
  obtain ⟨ts, t1, t2⟩ := ok.teeth hs hd
  have hc := ok.case_ hs ch bu hd.wide c1 c2 c4 (by omega) b1 fun r hr => k r ((b2 r).mp hr)
  refine ⟨F3, _, false, R3.rep, ?_, fun F4 H4 g4 => ?_⟩
  · show (((((onD φ_L_teeth [iT hs]).bind fun x => some [x]).bind lenD).bind fun x => ltD x (.int 97)).bind asB).bind (fun b => if b = true then ((φ_L_case_right [.dat (iT hs), .dat (.tuple (ch.map iT)), .nt (bu.map iT)]).bind asB).map (fun b => !b) else some false) = some false
    rw [t1, hc]
    show (if decide ((ts.length : Int) < 97) = true then some false else some false) = some false
    rw [ite_self]
  · refine q F4 H4 _ (((g1.trans g2).trans g3).trans (Gb.of g4 (R3.bx.free g4 R3.fb))) ?_
    exact (R3.grow g4).forget
section
variable {P : Program} {w : World} {K : PySem.W.Frag} {mg : Str → Option Value} {base : Heap}
theorem right_pure (ok : CaseOk) {vs : List V} {H : Hp} {Q : VK} {E : XK} (w : spB 234 (fun ds => ds = []) (fun _ d => d = .bool true) vs H Q E) : tRi { nx := fun _ H' => Q .non H', rt := Q } (L2.start ["_law_box_here", "_law_turn", "_law_deep_here", "_law_chief_here", "_law_bunch", "_law_lap"] vs) H := by
  obtain ⟨F, b, n, ws, ds, rfl, ef, fb, da, bx, rfl, hn, q⟩ := w
  cases da
  have R0 : RB F H _ [none, none, none, none, none, none] b n := rb_start (x := "_law_box_here") (N := ["_law_turn", "_law_deep_here", "_law_chief_here", "_law_bunch", "_law_lap"]) ef fb .nil bx
  refine ⟨F, _, rangeOf 6, R0.rep, rfl, fun J F1 H1 g1 wk => ?_⟩
  obtain ⟨G, Y, w, hG, hY⟩ := wk
  have h6 : (rangeOf 6).length = 6 := by rw [range_len]; rfl
  rw [h6] at w hY
  refine for_it w (fun i σ' H' => ∃ F', Gb b F1 H1 F' H' ∧ RB F' H' σ' [none, none, none, none, none, none] b (n + 39 * i)) ⟨F1, Gb.of (Grow.refl g1.fh) (bx.free g1 fb), R0.grow g1⟩ (fun i σ' H' hi p => ?_) (fun i x σ' H' H'' hi p y => ?_) (fun σ' H' p => ?_)
  · obtain ⟨F', g, R⟩ := p
    exact hG F' H' g.ff g.fh
  · obtain ⟨F', g, R⟩ := p
    obtain ⟨F2, d, g2, hdi, dx⟩ := hY i F' H' x H'' hi g.ff g.fh y
    have R2 := R.grow g2
    refine ⟨F2, _, d, _, R2.rep, dx, rfl, fun σ2 Rr hl hk on => ?_⟩
    have R3 : RB F2 H'' σ2 [none, none, none, none, none, none] b (n + 39 * i) := (RB.forget (ρ := [none, some (.dat d), none, none, none, none]) ⟨Rr, R2.fb, R2.bx, fun j xs e => by
      rcases j with _ | _ | _ | _ | _ | _ | j <;> first | cases e | (exact absurd e (by simp)), by rw [hk 0 (by decide)]; exact R2.at0⟩)
    refine right_turn ok R3 (by omega) fun F4 H4 σ4 g4 R4 => ⟨F4, (g.trans (Gb.of g2 R2.fb)).trans g4, R4.mono (by omega)⟩
  · obtain ⟨F', g, R⟩ := p
    refine ⟨F', _, _, R.rep, rfl, fun v F2 H2 g2 dv => ?_⟩
    have fb1 : F1 b = none := bx.free g1 fb
    refine q v _ F2 H2 (((Gb.of g1 fb1).trans g).trans (Gb.of g2 (R.bx.free g2 R.fb))) (R.bx.grow g2.hh |>.mono (by omega)) dv rfl
theorem ok_L_right (ok : CaseOk) (T : Txt P w K mg base) : HasR P w K mg base 15 "_law_right" (spB 234 (fun ds => ds = []) (fun _ d => d = .bool true)) := by
  obtain ⟨fa, fd, F, hm⟩ := T.def_ 52 52 (x := "_law_right")
  have HT := okB_take T
  have HO := ok_L_tooth T
  have HD := ok_L_deep T
  have HC := ok_L_chief T
  have H_L_teeth := ok_L_teeth T
  have H_L_case_right := ok_L_case_right T
  refine HasR.of F hm sc_L_right (fun _ _ _ _ _ _ us hl => match us, hl with | [_], _ => rfl) (fun vs H Q E w => ?_) tRi (fun vs H Q E w => right_pure ok w) fun cdv A outer s H E hr => ?_
  · obtain ⟨F, b, n, ws, ds, rfl, ef, fb, da, bx, rfl, hn, q⟩ := w
    cases da
    rfl
  · refine pss_cons (ps_for PassesOwn.never rfl (di_range (by rfl) (T.free 64) de_int) (dg_name sc_L_right.nd (i := 1) rfl (.inl rfl)) ?_) (pss_one (ps_ret de_bl))
    refine pss_cons (ps_set sc_L_right.nd (i := 2) rfl (.inr rfl) (pe_callBx (HD.mono (by omega)) hr (by rfl) (da_cons de_int (da_cons de_int da_nil)))) ?_
    refine pss_cons (ps_set sc_L_right.nd (i := 3) rfl (.inl rfl) (pe_callBx (HC.mono (by omega)) hr (by rfl) (da_cons (de_var 2) (da_cons de_int da_nil)))) ?_
    refine pss_cons (ps_set sc_L_right.nd (i := 4) rfl (.inl rfl) (pe_tupBN (by rfl) (T.free 70) (pe_sortedSetB hr rfl (by rfl) (T.free 67) (by rfl) (T.free 66) (pe_lcB (i := 5) (NI := 1) (NE := 4) (L := 5) rfl sc_L_right.nd
      (pi_rangeB (by rfl) (T.free 64) ?_ (pe_callBx (HT.mono (by omega)) hr (by rfl) (da_cons de_int da_nil))) (blkOk_by (own := [("_law_lap", 5)]) (by kernel_rfl)) (fun s H C cl fp => dg_name sc_L_right.nd (i := 5) rfl (.inl rfl))
      (fun s H C cl fp => pe_callBx (HO.mono (by omega)) hr (by rfl) (da_cons (de_var 2) da_nil)) (by decide) (by decide) (by decide)) ?_))) ?_
    · rintro ρ d ⟨ds, _, top, r, _, e, r0, r1, r2⟩
      exact ⟨r, e, by omega, by omega⟩
    · rintro ρ out ⟨-, hp⟩ ⟨ds, h1, h2⟩
      obtain ⟨hl, h3⟩ := hp ds h1
      obtain ⟨rows, rfl, hne⟩ := some_rows h3 h2
      have hlen := (paired_get h2).1
      rw [List.length_map] at hlen
      exact setOk_keys hne (by omega)
    · exact pss_one (ps_if (dw_and (dt_c c_lt (de_len (by rfl) (T.free 61) (da_cons (de_callH (H_L_teeth.mono (by omega)) hr (by rfl) (da_cons (de_var 2) da_nil)) da_nil)) de_int) (dw_and1 (dt_not (dt_val (de_callC (H_L_case_right.mono (by omega)) hr (by rfl) (dac_dat (de_var 2) (dac_dat (de_var 3) (dac_nt (dn_var 4) dac_nil)))))))).pt (pss_one (ps_ret de_bl)) pss_nil)
end
end U
set_option maxHeartbeats 4000000
/-! _law_cells, _law_box, the hand cases, the law. -/
namespace U
open PySem PySem.Spec PyProof.Rows L2 Hd
/-! ### own lists read and written -/
def ixO (n : Nat) (g : SE) : SE := fun ρ => match ρ[n]? with
  | some (some (.own xs)) => (g ρ).bind fun i => ixD (.list xs) i
  | _ => none
def setixS (n : Nat) (fi f : SE) : SS := fun ρ => match ρ[n]? with
  | some (some (.own xs)) => (f ρ).bind fun d => (fi ρ).bind fun i => (asI i).bind fun z => (ixN xs.length z).map fun j => .nx (ρ.set n (some (.own (xs.set j d))))
  | _ => none
theorem DaAll.set {F : Hp} : ∀ {vs : List V} {ds : List PyData} {v : V} {d : PyData} (j : Nat), DaAll F vs ds → Da F v d → DaAll F (vs.set j v) (ds.set j d)
  | _, _, _, _, _, .nil, _ => .nil
  | _, _, _, _, 0, .cons _ k, hv => .cons hv k
  | _, _, _, _, j + 1, .cons h k, hv => .cons h (k.set j hv)
section
variable {X : Cx} {a b e : Expr} {f g : SE} {pos p p1 p2 : Pos} {k n : Nat} {x : Str}
theorem de_ixO (n : Nat) (hb : DE X b g) (hN : X.N[n]? = some x := by rfl) (hv : Vis X.env.scope x := by first | exact Or.inl rfl | exact Or.inr (Or.inl rfl) | exact Or.inr (Or.inr rfl)) (hd : (x == ("__debug__" : Str)) = false := by decide)
    (hcd : (x == ("__classdict__" : Str)) = false := by decide) (hs : PlainIx b := by intro _ _; rfl) : DE X (.Subscript (.Name x p1) b pos) (ixO n g) := weakE (pe_ix ix_seq (pe_var (i := n) hN hv hd hcd) hb hs) fun σ H Q w => by
  obtain ⟨F, ρ, d, R, e, q⟩ := w
  unfold ixO at e
  split at e
  · rename_i xs hi
    obtain ⟨i, e1, e2⟩ := bnd e
    obtain ⟨pp, vs, h1, h2, h3, h4⟩ := R.own n xs hi
    refine ⟨.ref pp, h1, F, ρ, i, R, e1, fun v F1 H1 g1 dv => ?_⟩
    cases i with
    | int z =>
      cases dv
      obtain ⟨u, e3, du⟩ := atI_da (h4.ex g1.ff) e2
      exact .inl ⟨pp, vs, z, u, rfl, rfl, SqL.of (g1.hh _ _ h2), e3, q u F1 H1 g1 du⟩
    | _ => cases e2
  · cases e
theorem ds_setix (n : Nat) (hi : DE X b g) (he : DE X e f) (hN : X.N[n]? = some x := by rfl) (hv : Vis X.env.scope x := by first | exact Or.inl rfl | exact Or.inr (Or.inl rfl) | exact Or.inr (Or.inr rfl)) (hd : (x == ("__debug__" : Str)) = false := by decide)
    (hcd : (x == ("__classdict__" : Str)) = false := by decide) (hs : swapsWithSole [.Subscript (.Name x p1) b p2] e pos.line X.env = pure false := by rfl) (hw : swappedStores [.Subscript (.Name x p1) b p2] e X.env = pure none := by rfl)
    (h1 : (assignEach [.Subscript (.Name x p1) b p2] X.env).map (·.2) = [assign (.Subscript (.Name x p1) b p2) X.env] := by rfl)
    (ha : ∀ v, assign (.Subscript (.Name x p1) b p2) X.env v = (do
      let ov ← holding [v] (eval (.Name x p1) X.env)
      let iv ← holding [v, ov] (eval b X.env)
      standAt p2
      holding [v, ov, iv] (setItem ov iv v)
      release [v, ov, iv] []) := by intro _; rfl) : DS X (.Assign [.Subscript (.Name x p1) b p2] e pos) (setixS n g f) :=
  weakS (ps_asg he (pg_sub (pe_var (i := n) hN hv hd hcd) hi set_list ha) hs hw h1) fun E σ H w => by
    obtain ⟨F0, H0, F, ρ, r, gr, o, R, e, q⟩ := w
    unfold setixS at e
    split at e
    · rename_i xs hi
      obtain ⟨d, e1, e'⟩ := bnd e
      obtain ⟨i, e2, e''⟩ := bnd e'
      obtain ⟨z, e3, e4⟩ := bnd e''
      obtain ⟨j, e5, e6⟩ := mpd e4
      subst e6
      obtain ⟨pp, vs, h1, h2, h3, h4⟩ := R.own n xs hi
      refine ⟨F, ρ, d, R, e1, fun v F1 H1 g1 dv => ⟨.ref pp, h1, F1, ρ, i, R.grow g1, e2, fun iv F2 H2 g2 div => ?_⟩⟩
      cases i <;> first | cases e3
      cases div
      have g := g1.trans g2
      have h2' := g.hh _ _ h2
      have h3' := g.free h3 h2
      have n0 : H0 pp = none := o n xs pp hi h1
      refine ⟨pp, vs, _, j, rfl, rfl, h2', by rw [h4.length]; exact e5, ?_⟩
      exact q F2 _ σ ((gr.trans g).mut n0 h3') (o.mutOwn hi) ((R.grow g).mutOwn hi h1 h2' h3' ((h4.ex g.ff).set j (dv.ex g2.ff)))
    · cases e
/-- a for whose iterable is read otherwise -/
def tForW (ti : TI) (gg : SG) (f : SS) : TS := fun E σ H => ∃ F0 H0 F ρ ds r, Grow F0 H0 F H ∧ OwnNew H0 σ ρ ∧ Rep F H σ ρ ∧ forR gg f ds ρ = some r ∧ PostR F0 H0 E r ∧ ∀ R', (∀ J F1 H1, Grow F H F1 H1 → Wk J F1 ds → R' J H1) → ti σ H R'
theorem ds_forW {tg iter : Expr} {body : List Stmt} {ti : TI} {gg : SG} {ix : List Nat} {f : SS} (hp : PassesOwn (model X.prog X.w) X.A X.env X.xe) (hc : X.calm = true) (hi : PI X tg iter ti) (hg : DG X tg gg ix) (hb : DSs X body f)
    (hs : ∀ x, foldedSetIterable iter X.env x = pure x := by intro _; rfl) : PS X (.For tg iter body [] pos) (tForW ti gg f) := weakS (ps_for hp hc hi hg hb hs) fun E σ H w => by
  obtain ⟨F0, H0, F, ρ, ds, r, gr, o, R, e2, q, ht⟩ := w
  refine ht _ fun J F1 H1 g1 wk => ?_
  obtain ⟨G, Y, w, hG, hY⟩ := wk
  refine for_it w (fun i σ' H' => ∃ F' ρ', Grow F0 H0 F' H' ∧ OwnNew H0 σ' ρ' ∧ Rep F' H' σ' ρ' ∧ Ex F1 F' ∧ forR gg f (ds.drop i) ρ' = some r) ⟨F1, ρ, gr.trans g1, o, R.grow g1, Ex.refl _, by rw [List.drop_zero]; exact e2⟩
    (fun i σ' H' hi p => ?_) (fun i x σ' H' H'' hi p y => ?_) (fun σ' H' p => ?_)
  · obtain ⟨F', ρ', a1, a2, a3, a4, a5⟩ := p
    exact hG F' H' a4 a3.fh
  · obtain ⟨F', ρ', a1, a2, a3, a4, a5⟩ := p
    obtain ⟨F2, d, g2, hdi, dx⟩ := hY i F' H' x H'' hi a4 a3.fh y
    rw [drop_at hdi] at a5
    obtain ⟨ρ1, b1, b2⟩ := bnd a5
    obtain ⟨r1, b3, b4⟩ := bnd b2
    refine ⟨F2, ρ', d, ρ1, a3.grow g2, dx, b1, fun σ2 R2 _ _ on => ?_⟩
    have gr2 : Grow F0 H0 F2 H'' := a1.trans g2
    refine ⟨F2, H0, F2, ρ1, r1, gr2.here, on H0 a2, R2, b3, ?_⟩
    cases r1 with
    | nx ρ2 => exact fun F3 H3 σ3 g3 o3 R3 => ⟨F3, ρ2, gr2.join g3, o3, R3, (a4.trans g2.ff).trans g3.ff, b4⟩
    | rt d => cases b4; exact fun F3 H3 v g3 dv => q F3 H3 v (gr2.join g3) dv
    | bk ρ2 => cases b4; exact fun F3 H3 σ3 g3 o3 R3 => q F3 H3 σ3 (gr2.join g3) o3 R3
  · obtain ⟨F', ρ', a1, a2, a3, a4, a5⟩ := p
    rw [List.drop_length] at a5
    cases a5
    exact q F' H' σ' a1 a2 a3
end
/-! ### cells -/
theorem sc_L_cells : FnScope ["_law_script", "_law_most", "_law_cells_here", "_law_k", "_law_great_so", "_law_at_so"] ["_law_script", "_law_most"] (defScope s_L_cells) := ⟨rfl, rfl, rfl, by decide +kernel, rfl, by decide +kernel, by decide +kernel⟩
def bCe : SS := seqS (setS 5 (op2 modD (calE intD (aCons (vE 3) aNil)) (vE 1))) (setixS 2 (vE 5) (op2 addD (ixO 2 (vE 5)) (op2 mulD (vE 4) (op2 addD (vE 3) (cE (.int 2))))))
def rhoC (a b c : Option Cell) (cs : List Int) : Rho := [none, some (.dat (.int 3)), some (.own (cs.map .int)), a, b, c]
theorem seq_nx {f g : SS} {ρ ρ' : Rho} (h : f ρ = some (.nx ρ')) : seqS f g ρ = g ρ' := by
  unfold seqS
  rw [h]
  rfl
theorem for_nx {g : SG} {b : SS} {d : PyData} {ds : List PyData} {ρ ρ1 ρ2 : Rho} {r : Option Res} (h1 : g d ρ = some ρ1) (h2 : b ρ1 = some (.nx ρ2)) (h3 : forR g b ds ρ2 = r) : forR g b (d :: ds) ρ = r := by
  unfold forR
  rw [h1]
  show (b ρ1).bind _ = _
  rw [h2]
  exact h3
theorem bCe_run {k m x y z t v : Int} {c : Option Cell} {j j' : Nat} (hat : modD (.int k) (.int 3) = some (.int (j : Nat))) (hm : mulD (.int m) (.int (k + 2)) = some (.int t)) (hv : ixD (.list [.int x, .int y, .int z]) (.int (j : Nat)) = some (.int v)) (hj : ixN 3 (j : Nat) = some j') :
    bCe (rhoC (some (.dat (.int k))) (some (.dat (.int m))) c [x, y, z]) = some (.nx [none, some (.dat (.int 3)), some (.own (([x, y, z].map PyData.int).set j' (.int (v + t)))), some (.dat (.int k)), some (.dat (.int m)), some (.dat (.int (j : Nat)))]) := by
  have s1 : setS 5 (op2 modD (calE intD (aCons (vE 3) aNil)) (vE 1)) (rhoC (some (.dat (.int k))) (some (.dat (.int m))) c [x, y, z]) = some (.nx (rhoC (some (.dat (.int k))) (some (.dat (.int m))) (some (.dat (.int (j : Nat)))) [x, y, z])) := by
    show (modD (.int k) (.int 3)).map _ = _
    rw [hat]
    rfl
  refine (seq_nx s1).trans ?_
  have s2 : op2 addD (ixO 2 (vE 5)) (op2 mulD (vE 4) (op2 addD (vE 3) (cE (.int 2)))) (rhoC (some (.dat (.int k))) (some (.dat (.int m))) (some (.dat (.int (j : Nat)))) [x, y, z]) = some (.int (v + t)) := by
    have q1 : ixO 2 (vE 5) (rhoC (some (.dat (.int k))) (some (.dat (.int m))) (some (.dat (.int (j : Nat)))) [x, y, z]) = some (.int v) := hv
    have q2 : op2 mulD (vE 4) (op2 addD (vE 3) (cE (.int 2))) (rhoC (some (.dat (.int k))) (some (.dat (.int m))) (some (.dat (.int (j : Nat)))) [x, y, z]) = some (.int t) := hm
    unfold op2 at q2 ⊢
    rw [q1, q2]
    rfl
  show ((op2 addD (ixO 2 (vE 5)) (op2 mulD (vE 4) (op2 addD (vE 3) (cE (.int 2)))) (rhoC (some (.dat (.int k))) (some (.dat (.int m))) (some (.dat (.int (j : Nat)))) [x, y, z])).bind fun d => (ixN 3 (j : Int)).map fun j' => Res.nx ((rhoC (some (.dat (.int k))) (some (.dat (.int m))) (some (.dat (.int (j : Nat)))) [x, y, z]).set 2 (some (.own (([x, y, z].map PyData.int).set j' d))))) = _
  rw [s2, hj]
  rfl
theorem cells_loop : ∀ (ns : List Int) (k : Nat) (x y z : Int) (a b c : Option Cell), k + ns.length ≤ 100 → ∃ cs a' b' c', cs.length = 3 ∧ forR (gT2 3 4) bCe ((ns.map PyData.int).zipIdx k |>.map fun p => .tuple [.int (p.2 : Nat), p.1]) (rhoC a b c [x, y, z]) = some (.nx (rhoC a' b' c' cs))
  | [], k, x, y, z, a, b, c, _ => ⟨[x, y, z], a, b, c, rfl, rfl⟩
  | m :: ns, k, x, y, z, a, b, c, h => by
    rw [List.length_cons] at h
    have h3 : k % 3 = 0 ∨ k % 3 = 1 ∨ k % 3 = 2 := by omega
    have hm : mulD (.int m) (.int ((k : Int) + 2)) = some (.int (m * ((k : Int) + 2))) := mul_run (by omega)
    have hat : ∀ j : Nat, k % 3 = j → modD (.int (k : Int)) (.int 3) = some (.int (j : Int)) := fun j hj => by
      rw [mod_run (by decide)]
      congr 2
      omega
    have go : ∀ (j : Nat) (x' y' z' : Int), bCe (rhoC (some (.dat (.int (k : Nat)))) (some (.dat (.int m))) c [x, y, z]) = some (.nx (rhoC (some (.dat (.int (k : Nat)))) (some (.dat (.int m))) (some (.dat (.int (j : Nat)))) [x', y', z'])) →
        ∃ cs a' b' c', cs.length = 3 ∧ forR (gT2 3 4) bCe (((m :: ns).map PyData.int).zipIdx k |>.map fun p => .tuple [.int (p.2 : Nat), p.1]) (rhoC a b c [x, y, z]) = some (.nx (rhoC a' b' c' cs)) := by
      intro j x' y' z' e
      obtain ⟨cs, a', b', c', hl, hr⟩ := cells_loop ns (k + 1) x' y' z' (some (.dat (.int (k : Nat)))) (some (.dat (.int m))) (some (.dat (.int (j : Nat)))) (by omega)
      refine ⟨cs, a', b', c', hl, ?_⟩
      rw [List.map_cons, List.zipIdx_cons, List.map_cons]
      exact for_nx rfl e hr
    rcases h3 with e | e | e
    · exact go 0 (x + m * ((k : Int) + 2)) y z (bCe_run (hat 0 e) hm rfl rfl)
    · exact go 1 x (y + m * ((k : Int) + 2)) z (bCe_run (hat 1 e) hm rfl rfl)
    · exact go 2 x y (z + m * ((k : Int) + 2)) (bCe_run (hat 2 e) hm rfl rfl)

def spCells (K : PySem.W.Frag) : Sp := fun vs H Q _ => ∃ (a : Addr) (ns : List Int), vs = [.ref a, .int 3] ∧ SqL K H a (ns.map V.int) ∧ ns.length ≤ 63 ∧ ∀ (p : Addr) (cs : List Int) H', Ex H H' → H p = none → H' p = some (.lst (cs.map V.int)) → cs.length ≤ 3 → Q (.ref p) H'
def rListOf (K : PySem.W.Frag) : List V → Hp → VK → Prop := fun xs H Q => ∃ p ys, xs = [.ref p] ∧ (SqL K H p ys ∨ SqT K H p ys) ∧ ∀ l, H l = none → Q (.ref l) (upd H l (.lst ys))
def tCe1 (K : PySem.W.Frag) : TE := tOrT K (tCB (rListOf K) (tCons (tSl (rSlL K) (tVar 0) tNoPart (tDO (someO (vE 1)))) tNil)) (tDL (lstL (aCons (cE (.int 0)) aNil)))
def tCe2 (K : PySem.W.Frag) : TI := fun σ H R => (tSl (rSlL K) (tVar 0) (tDO (someO (vE 1))) (tDO (someO (cE (.int 63))))) σ H fun x H1 => rEn x H1 R
def tCe (K : PySem.W.Frag) : TS := tSeq (tAsg (tCe1 K) (gName 2)) (tSeq (tForW (tCe2 K) (gT2 3 4) bCe) (tRet (tVar 2)))
theorem sql_ex {K : PySem.W.Frag} {H H' : Hp} {a : Addr} {xs : List V} (h : SqL K H a xs) (e : Ex H H') : SqL K H' a xs := by
  rcases h with h | h
  · rcases h with h | ⟨o, h⟩
    · exact .inl (.inl (e _ _ h))
    · exact .inl (.inr ⟨o, e _ _ h⟩)
  · exact .inr h
def noH : Hp := fun _ => none
theorem ex_no {H : Hp} : Ex noH H := fun _ _ e => by cases e
theorem cut_head (ns : List Int) : cutV (ns.map V.int) none (some 3) = (ns.take 3).map V.int := by
  unfold cutV
  have e : HT.sIx (ns.map V.int).length (ns.map V.int).length (some 3) = min 3 ns.length := by
    rw [List.length_map]; exact HT.sIx_nat _ _ 3
  rw [e, HT.sIx_none, List.drop_zero, Nat.sub_zero, List.map_take]
  rw [List.take_eq_take_iff, List.length_map]
  omega
theorem cut_tail (ns : List Int) (h : ns.length ≤ 63) : cutV (ns.map V.int) (some 3) (some 63) = (ns.drop 3).map V.int := by
  unfold cutV
  have e : HT.sIx (ns.map V.int).length 0 (some 3) = min 3 ns.length := by
    rw [List.length_map]; exact HT.sIx_nat _ _ 3
  have e2 : HT.sIx (ns.map V.int).length (ns.map V.int).length (some 63) = min 63 ns.length := by
    rw [List.length_map]; exact HT.sIx_nat _ _ 63
  rw [e, e2, List.map_drop]
  rw [List.take_of_length_le (by rw [List.length_drop, List.length_map]; omega)]
  by_cases hl : 3 ≤ ns.length
  · rw [Nat.min_eq_left hl]
  · rw [Nat.min_eq_right (by omega), List.drop_of_length_le (by rw [List.length_map]; exact Nat.le_refl _), List.drop_of_length_le (by rw [List.length_map]; omega)]
theorem mapO_ints : ∀ cs : List Int, mapO asI (cs.map .int) = some cs
  | [] => rfl
  | x :: xs => by
    show ((mapO asI (xs.map .int)).map fun ys => x :: ys) = _
    rw [mapO_ints xs]
    rfl
theorem rep_cells {F H : Hp} {σ : L2.St} {p : Addr} {cs : List Int} {v0 : Option V} (ef : Ex F H) (hp : H p = some (.lst (cs.map V.int))) (hf : F p = none) :
    Rep F H [v0, some (.int 3), some (.ref p), none, none, none] (rhoC none none none cs) := by
  have R0 : Rep F H [v0, some (.int 3), none, none, none, none] [none, some (.dat (.int 3)), none, none, none, none] := by
    have R1 : Rep F H (List.replicate 6 none) (List.replicate 6 none) := by
      have hno : ∀ (i : Nat) (c : Cell), (List.replicate 6 (none : Option Cell))[i]? ≠ some (some c) := by
        intro i c e
        rw [List.getElem?_replicate] at e
        split at e <;> cases e
      exact ⟨ef, by simp, fun i d e => absurd e (hno _ _), fun i d e => absurd e (hno _ _), fun i d e => absurd e (hno _ _), fun i j xs ys p e => absurd e (hno _ _)⟩
    have R2 := (R1.setDat 1 (v := .int 3) (d := .int 3) (.int 3))
    refine ⟨ef, rfl, fun i d e => ?_, fun i d e => ?_, fun i d e => ?_, fun i j xs ys p e => ?_⟩
    · cases i with
      | zero => cases e
      | succ i => exact R2.dat (i + 1) d e
    · cases i with
      | zero => cases e
      | succ i => exact R2.nt (i + 1) d e
    · cases i with
      | zero => cases e
      | succ i => exact R2.own (i + 1) d e
    · rcases i with _ | _ | _ | _ | _ | _ | i <;> first | cases e | (exact absurd e (by simp))
  exact R0.setOwn 2 hp hf (da_intMap cs) fun j ys hj _ => by
    rcases j with _ | _ | _ | _ | _ | _ | j <;> first | cases hj | (exact absurd hj (by simp))
theorem cells_pure {K : PySem.W.Frag} {vs : List V} {H : Hp} {Q : VK} {E : XK} (w : spCells K vs H Q E) : tCe K { nx := fun _ H' => Q .non H', rt := Q } (L2.start ["_law_script", "_law_most", "_law_cells_here", "_law_k", "_law_great_so", "_law_at_so"] vs) H := by
  obtain ⟨a, ns, rfl, hS, hl, q⟩ := w
  -- what comes behind the first statement
  have fin : ∀ (p : Addr) (cs : List Int) (H1 : Hp), Ex H H1 → H p = none → H1 p = some (.lst (cs.map V.int)) → cs.length ≤ 3 → (3 < ns.length → cs.length = 3) →
      (tSeq (tForW (tCe2 K) (gT2 3 4) bCe) (tRet (tVar 2))) { nx := fun _ H' => Q .non H', rt := Q } [some (.ref a), some (.int 3), some (.ref p), none, none, none] H1 := by
    intro p cs H1 e1 n1 h1 c1 c2
    have R := rep_cells (F := noH) (v0 := some (.ref a)) (σ := []) ex_no h1 rfl
    have on : OwnNew H [some (.ref a), some (.int 3), some (.ref p), none, none, none] (rhoC none none none cs) := by
      intro j ys p' hj hs
      rcases j with _ | _ | _ | _ | _ | _ | j <;> first | cases hj | (exact absurd hj (by simp [rhoC]))
      cases hs
      exact n1
    obtain ⟨cs', a', b', c', hr, hlen⟩ : ∃ cs' a' b' c', forR (gT2 3 4) bCe (enumOf ((ns.drop 3).map .int)) (rhoC none none none cs) = some (.nx (rhoC a' b' c' cs')) ∧ cs'.length ≤ 3 := by
      by_cases h3 : 3 < ns.length
      · have := c2 h3
        match cs, this with
        | [x, y, z], _ =>
          obtain ⟨cs', a', b', c', k1, k2⟩ := cells_loop (ns.drop 3) 0 x y z none none none (by rw [List.length_drop]; omega)
          exact ⟨cs', a', b', c', k2, by omega⟩
      · have : ns.drop 3 = [] := List.drop_of_length_le (by omega)
        rw [this]
        exact ⟨cs, none, none, none, rfl, c1⟩
    refine ⟨noH, H, noH, _, _, _, ⟨Ex.refl _, ex_no, e1, fun _ _ e => by cases e⟩, on, R, hr, ?_, fun R' hR => ?_⟩
    · intro F' H' σ' g o' R'
      obtain ⟨p', vs, s1, s2, s3, s4⟩ := R'.own 2 _ rfl
      have ev := da_ints s4 (bs := cs') (mapO_ints cs')
      subst ev
      exact ⟨_, s1, q p' cs' H' g.hh (o' 2 _ p' rfl s1) s2 hlen⟩
    · refine ⟨.ref a, rfl, noH, _, some 3, R, rfl, fun F2 H2 g2 => ⟨F2, _, some 63, R.grow g2, rfl, fun F3 H3 g3 => ?_⟩⟩
      have g23 := g2.trans g3
      refine ⟨a, _, rfl, sql_ex (sql_ex hS e1) g23.hh, fun l hl' => ?_⟩
      rw [cut_tail ns hl]
      have g4 := Grow.laid (o := .lst ((ns.drop 3).map V.int)) g3.fh hl'
      exact ⟨_, .list ((ns.drop 3).map .int), _, g4.fh, .lst upd_same (da_intMap _), rfl, fun J F5 H5 g5 wk => hR J F5 H5 ((g23.trans g4).trans g5) wk⟩
  refine ⟨.ref a, rfl, ?_⟩
  have R0 : Rep noH H [some (.ref a), some (.int 3), none, none, none, none] [none, some (.dat (.int 3)), none, none, none, none] := by
    have R1 : Rep noH H (L2.start ["_law_most", "_law_cells_here", "_law_k", "_law_great_so", "_law_at_so"] [.int 3]) (startC 5 ([.int 3].map .dat)) := start_rep ex_no (DaCs.of (.cons (.int 3) .nil))
    exact Rep.consNone (o := some (.ref a)) R1
  refine ⟨noH, _, some 3, R0, rfl, fun F1 H1 g1 => ?_⟩
  refine ⟨a, _, rfl, sql_ex hS g1.hh, fun l1 n1 => ?_⟩
  rw [cut_head ns]
  have g2 := Grow.laid (o := .lst ((ns.take 3).map V.int)) g1.fh n1
  refine ⟨l1, _, rfl, .inl (SqL.of upd_same), fun l2 n2 => ?_⟩
  have e2 : Ex H (upd (upd H1 l1 (.lst ((ns.take 3).map V.int))) l2 (.lst ((ns.take 3).map V.int))) := (g1.hh.trans (Ex.new n1)).trans (Ex.new n2)
  refine ⟨!((ns.take 3).map V.int).isEmpty, .inl ⟨_, SqL.of upd_same, rfl⟩, ?_⟩
  have nl : H l2 = none := g1.hh.back (by
    cases z : H1 l2 with
    | none => rfl
    | some o => rw [Ex.new n1 _ _ z] at n2; cases n2)
  by_cases hz : ns = []
  · subst hz
    rw [if_neg (by simp)]
    have g3 := g2.trans (Grow.side g2.fh n2 (o := .lst []))
    refine ⟨_, _, [.int 0], R0.grow (g1.trans g3), rfl, fun p vs F' H' g m1 m2 hp dv => ?_⟩
    have ev := da_ints dv (bs := [0]) rfl
    subst ev
    refine fin p [0] H' (e2.trans g.hh) ((g1.trans g3).hh.back m1) hp (by decide) (fun h => absurd h (by decide))
  · have : (!((ns.take 3).map V.int).isEmpty) = true := by
      cases ns with
      | nil => exact absurd rfl hz
      | cons x xs => rfl
    rw [this, if_pos rfl]
    exact fin l2 (ns.take 3) _ e2 nl upd_same (by rw [List.length_take]; omega) (fun h => by rw [List.length_take]; omega)
section
variable {P : Program} {w : World} {K : PySem.W.Frag} {mg : Str → Option Value} {base : Heap}
theorem ok_L_cells (T : Txt P w K mg base) : HasR P w K mg base 1 "_law_cells" (spCells K) := by
  obtain ⟨fa, fd, F, hm⟩ := T.def_ 40 40 (x := "_law_cells")
  refine HasR.of F hm sc_L_cells (fun _ _ _ _ _ _ us hl => match us, hl with | [_, _], _ => rfl) (fun vs H Q E w => ?_) (tCe K) (fun vs H Q E w => cells_pure w) fun cdv A outer s H E hr => ?_
  · obtain ⟨a, ns, rfl, _⟩ := w
    rfl
  · refine pss_cons (ps_set sc_L_cells.nd (i := 2) rfl (.inl rfl) (pe_orT (pe_callTy call_list_of (by rfl) (T.free 62) (by decide +kernel) (pa_cons (pe_slice sl_list (pe_var (i := 0) rfl (.inl rfl)) po_none (do_some (de_var 1))) pa_nil)) (pe_one (dl_lst (da_cons de_int da_nil))))) ?_
    refine pss_cons (ds_forW PassesOwn.never rfl (pi_enumR rfl (by rfl) (T.free 58) (pe_slice sl_list (pe_var (i := 0) rfl (.inl rfl)) (do_some (de_var 1)) (do_some de_int))) (dg_tup2 rfl sc_L_cells.nd (i := 3) rfl (.inl rfl) (j := 4) rfl (.inl rfl)) ?_) (pss_one (ps_ret (pe_var (i := 2) rfl (.inl rfl))))
    exact dss_cons (ds_set sc_L_cells.nd (i := 5) rfl (.inl rfl) (de_mod (de_int1 (by rfl) (T.free 59) (da_cons (de_var 3) da_nil)) (de_var 1))) (dss_one (ds_setix 2 (de_var 5) (de_add (de_ixO 2 (de_var 5)) (de_mul (de_var 4) (de_add (de_var 3) de_int)))))
end
end U
set_option maxHeartbeats 4000000
/-! The law. -/
namespace U
open PySem PySem.Spec PyProof.Rows L2 Hd
theorem sc_L_box : FnScope ["_law_script", "_law_k", "_law_great_so"] ["_law_script", "_law_k"] (defScope s_L_box) := ⟨rfl, rfl, rfl, by decide +kernel, rfl, by decide +kernel, by decide +kernel⟩
def fBx1 : SE := ifE (tstE (op2 ltD (vE 1) (calE lenD (aCons (vE 0) aNil)))) (op2 ixD (vE 0) (vE 1)) (cE (.int 0))
def fBx2 : SA := lstL (aCons (op2 mulD (calE absD (aCons (vE 2) aNil)) (calE intD (aCons (op2 geD (calE absD (aCons (vE 2) aNil)) (op2 powD (cE (.int 10)) (cE (.int 18)))) aNil))) (aCons (op2 addD (op2 addD (op2 modD (calE intD (aCons (vE 2) aNil)) (cE (.int 2305843009213693951))) (op2 mulD (cE (.int 39373)) (vE 1))) (cE (.int 1038))) (aCons (cE (.int 0)) aNil)))
def tBx : TS := tSeq (tAsg (tD fBx1) (gName 2)) (tRet (tDL fBx2))
def spBox : Sp := fun vs H Q _ => ∃ (F : Hp) (cs : List Int) (k : Int), Ex F H ∧ DaAll F vs [.list (cs.map .int), .int k] ∧ 0 ≤ k ∧ k ≤ 1000 ∧ ∀ p F' H', Grow F H F' H' → H p = none → F' p = none → Bx H' p 0 → Q (.ref p) H'
theorem op2_run {h : PyData → PyData → Option PyData} {f g : SE} {ρ : Rho} {x y : PyData} (hf : f ρ = some x) (hg : g ρ = some y) : op2 h f g ρ = h x y := by
  unfold op2; rw [hf, hg] <;> rfl
theorem calE_run {φ : List PyData → Option PyData} {a : SA} {ρ : Rho} {ds : List PyData} (h : a ρ = some ds) : calE φ a ρ = φ ds := by
  unfold calE; rw [h] <;> rfl
theorem cal1_run {φ : List PyData → Option PyData} {f : SE} {ρ : Rho} {d : PyData} (h : f ρ = some d) : calE φ (aCons f aNil) ρ = φ [d] := by
  unfold calE aCons; rw [h] <;> rfl
theorem aCons_run {f : SE} {r : SA} {ρ : Rho} {d : PyData} {ds : List PyData} (h : f ρ = some d) (k : r ρ = some ds) : aCons f r ρ = some (d :: ds) := by
  unfold aCons; rw [h, k] <;> rfl
theorem lstL_run {a : SA} {ρ : Rho} {ds : List PyData} (h : a ρ = some ds) : lstL a ρ = lim ds := by
  unfold lstL; rw [h] <;> rfl
theorem box_great (cs : List Int) (k : Int) (k0 : 0 ≤ k) : ∃ g : Int, fBx1 [some (.dat (.list (cs.map .int))), some (.dat (.int k)), none] = some (.int g) := by
  have e : fBx1 [some (.dat (.list (cs.map .int))), some (.dat (.int k)), none] = if decide (k < ((cs.map PyData.int).length : Nat)) = true then ixD (.list (cs.map .int)) (.int k) else some (.int 0) := rfl
  rw [e]
  by_cases h : k < ((cs.map PyData.int).length : Nat)
  · rw [if_pos (decide_eq_true h)]
    have hk : k.toNat < cs.length := by rw [List.length_map] at h; omega
    refine ⟨cs[k.toNat], ?_⟩
    show atI (cs.map PyData.int) k = _
    unfold atI ixN
    rw [if_pos k0, if_pos h]
    show (cs.map PyData.int)[k.toNat]? = _
    rw [List.getElem?_map, List.getElem?_eq_getElem hk] <;> rfl
  · rw [if_neg (by simpa using h)]
    exact ⟨0, rfl⟩
theorem box_nums (d : PyData) (g k : Int) (k0 : 0 ≤ k) (k1 : k ≤ 1000) : ∃ a m : Int, fBx2 [some (.dat d), some (.dat (.int k)), some (.dat (.int g))] = some [.int a, .int m, .int 0] ∧ 0 ≤ a ∧ 0 ≤ m ∧ m < 2 ^ 62 := by
  generalize hρ : [some (Cell.dat d), some (.dat (.int k)), some (.dat (.int g))] = ρ
  have v1 : vE 1 ρ = some (.int k) := by rw [← hρ]; rfl
  have v2 : vE 2 ρ = some (.int g) := by rw [← hρ]; rfl
  have hg : (if g < 0 then -g else g) = (g.natAbs : Int) := by split <;> omega
  have e1 : calE absD (aCons (vE 2) aNil) ρ = some (.int (g.natAbs : Int)) := by
    rw [cal1_run v2, ← hg]
    rfl
  have e2 : op2 powD (cE (.int 10)) (cE (.int 18)) ρ = some (.int (10 ^ 18)) := by
    rw [op2_run (x := .int 10) (y := .int 18) rfl rfl]
    show (if (0 : Int) ≤ 18 ∧ (18 : Int) ≤ 1000000 ∧ (10 : Int).natAbs < 2 ^ 64 then some (PyData.int (10 ^ (18 : Int).toNat)) else none) = _
    rw [if_pos (by decide)]
    rfl
  have e3 : ∃ t : Int, (t = 0 ∨ t = 1) ∧ calE intD (aCons (op2 geD (calE absD (aCons (vE 2) aNil)) (op2 powD (cE (.int 10)) (cE (.int 18)))) aNil) ρ = some (.int t) := by
    refine ⟨if decide ((10 : Int) ^ 18 ≤ (g.natAbs : Int)) = true then 1 else 0, by split <;> simp, ?_⟩
    generalize (10 : Int) ^ 18 = B at *
    rw [cal1_run (d := .bool (decide (B ≤ (g.natAbs : Int)))) (by rw [op2_run e1 e2]; rfl)]
    rfl
  obtain ⟨t, ht, e3⟩ := e3
  have e4 := (op2_run (h := mulD) e1 e3).trans (mul_run (.inr (by omega)))
  have e5 : op2 addD (op2 addD (op2 modD (calE intD (aCons (vE 2) aNil)) (cE (.int 2305843009213693951))) (op2 mulD (cE (.int 39373)) (vE 1))) (cE (.int 1038)) ρ = some (.int (g % 2305843009213693951 + 39373 * k + 1038)) := by
    rw [op2_run (x := .int (g % 2305843009213693951 + 39373 * k)) (y := .int 1038) ?_ rfl]
    · rfl
    · rw [op2_run (x := .int (g % 2305843009213693951)) (y := .int (39373 * k)) ?_ ?_]
      · rfl
      · exact (op2_run (cal1_run v2) rfl).trans (mod_run (by decide))
      · exact (op2_run rfl v1).trans (mul_run (by omega))
  refine ⟨(g.natAbs : Int) * t, g % 2305843009213693951 + 39373 * k + 1038, ?_, ?_, ?_, ?_⟩
  · exact (lstL_run (aCons_run e4 (aCons_run e5 (aCons_run rfl rfl)))).trans rfl
  · rcases ht with e | e <;> rw [e] <;> omega
  · omega
  · omega
theorem box_pure {vs : List V} {H : Hp} {Q : VK} {E : XK} (w : spBox vs H Q E) : tBx { nx := fun _ H' => Q .non H', rt := Q } (L2.start ["_law_script", "_law_k", "_law_great_so"] vs) H := by
  obtain ⟨F, cs, k, ef, dv, k0, k1, q⟩ := w
  obtain ⟨g, hg⟩ := box_great cs k k0
  have R0 : Rep F H (L2.start ["_law_script", "_law_k", "_law_great_so"] vs) [some (.dat (.list (cs.map .int))), some (.dat (.int k)), none] := start_rep (N := ["_law_script", "_law_k", "_law_great_so"]) ef (DaCs.of dv)
  refine ⟨F, _, _, R0, hg, fun v F1 H1 g1 d1 => ?_⟩
  have R1 := (R0.grow g1).setDat 2 d1
  obtain ⟨a, m, e, a0, m0, m1⟩ := box_nums (.list (cs.map .int)) g k k0 k1
  refine ⟨F1, _, _, R1, e, fun p ws F' H' g2 n1 n2 hp dd => ?_⟩
  have ev := da_ints dd (bs := [a, m, 0]) rfl
  subst ev
  exact q p F' H' (g1.trans g2) (g1.hh.back n1) n2 ⟨a, m, 0, hp, a0, m0, m1, by omega, by omega⟩
open Classical in
noncomputable def rightD : List PyData → Option PyData
  | [.list ds, .int k] => if (∃ cs : List Int, ds = cs.map .int) ∧ 0 ≤ k ∧ k ≤ 1000 then some (.bool true) else none
  | _ => none
section
variable {P : Program} {w : World} {K : PySem.W.Frag} {mg : Str → Option Value} {base : Heap}
theorem ok_L_box (T : Txt P w K mg base) : HasR P w K mg base 1 "_law_box" spBox := by
  obtain ⟨fa, fd, F, hm⟩ := T.def_ 38 38 (x := "_law_box")
  refine HasR.of F hm sc_L_box (fun _ _ _ _ _ _ us hl => match us, hl with | [_, _], _ => rfl) (fun vs H Q E w => ?_) tBx (fun vs H Q E w => box_pure w) fun cdv A outer s H E hr => ?_
  · obtain ⟨F, cs, k, ef, dv, _⟩ := w
    exact dv.length
  · exact pss_cons (ps_set sc_L_box.nd (i := 2) rfl (.inl rfl) (de_if (dt_c c_lt (de_var 1) (de_len (by rfl) (T.free 61) (da_cons (de_var 0) da_nil))) (de_ixs (de_var 0) (de_var 1)) de_int))
      (pss_one (ps_ret (dl_lst (da_cons (de_mul (de_abs (by rfl) (T.free 54) (da_cons (de_var 2) da_nil)) (de_int1 (by rfl) (T.free 59) (da_cons (de_c c_ge (de_abs (by rfl) (T.free 54) (da_cons (de_var 2) da_nil)) (de_pow de_int de_int)) da_nil))) (da_cons (de_add (de_add (de_mod (de_int1 (by rfl) (T.free 59) (da_cons (de_var 2) da_nil)) de_int) (de_mul de_int (de_var 1))) de_int) (da_cons de_int da_nil))))))
end
section
variable {X : Cx} {k : Nat} {p p2 pos pos2 : Pos} {e : Expr} {es : List Expr} {u : SA}
theorem de_right (HR : HasR X.prog X.w X.K X.mg X.base k "_law_right" (spB 234 (fun ds => ds = []) (fun _ d => d = .bool true))) (HB : HasR X.prog X.w X.K X.mg X.base k "_law_box" spBox) (hr : Room k X.A) (hg : Gl X "_law_right") (hg2 : Gl X "_law_box") (ha : DA X (e :: es) u)
    (hs : starEach (e :: es) X.env = (false, eval e X.env) :: starEach es X.env := by rfl) (hp : (backTo pos2 (starEach es X.env)).any (·.1) = false := by rfl) (hs2 : starEach [.Call (.Name "_law_box" p2) (e :: es) [] pos2] X.env = (false, eval (.Call (.Name "_law_box" p2) (e :: es) [] pos2) X.env) :: starEach [] X.env := by rfl) :
    DE X (.Call (.Name "_law_right" p) [.Call (.Name "_law_box" p2) (e :: es) [] pos2] [] pos) (calE rightD u) :=
  weakE (pe_callR HR hr hg (pa_cons (pe_callR HB hr hg2 ha (by decide) hs hp) pa_nil hs2) (by decide) hs2) fun σ H Q w => by
    obtain ⟨F, ρ, d, R, e, q⟩ := w
    obtain ⟨ds, e1, e2⟩ := bnd e
    refine ⟨F, ρ, ds, R, e1, fun vs F1 H1 g1 dv => ?_⟩
    unfold rightD at e2
    split at e2
    · split at e2
      · rename_i c
        cases e2
        obtain ⟨⟨cs, rfl⟩, k0, k1⟩ := c
        refine ⟨F1, cs, _, g1.fh, by rw [List.append_nil]; exact dv, k0, k1, fun pb F2 H2 g2 n1 n2 bx => ?_⟩
        refine ⟨F2, pb, 0, [], [], rfl, g2.fh, n2, .nil, bx, rfl, by decide, fun v d F3 H3 g3 bx3 dd hd => ?_⟩
        subst hd
        refine q v F3 H3 (g1.trans ⟨g2.ff.trans g3.ff, g3.fh, fun a o e => g3.hh a o (fun z => by subst z; rw [n1] at e; cases e) (g2.hh a o e), fun a o e => ?_⟩) dd
        rcases g3.nw a o e with z | z
        · exact g2.nw a o z
        · refine .inr ?_
          cases y : H1 a with
          | none => rfl
          | some o => rw [g2.hh a o y] at z; cases z
      · cases e2
    · cases e2
end

theorem lcR_map {g : SG} {t : ST} {e : SE} {ρ : Rho} {f : PyData → PyData} : ∀ {ds : List PyData}, (∀ d ∈ ds, ∃ ρ1, g d ρ = some ρ1 ∧ t ρ1 = some true ∧ e ρ1 = some (f d)) → lcR g t e ρ ds = some (ds.map f)
  | [], _ => rfl
  | d :: ds, h => by
    obtain ⟨ρ1, h1, h2, h3⟩ := h d List.mem_cons_self
    have ih := lcR_map (ds := ds) fun x hx => h x (List.mem_cons_of_mem _ hx)
    unfold lcR
    rw [h1]
    show (t ρ1).bind _ = _
    rw [h2]
    show (e ρ1).bind (fun y => (lcR g t e ρ ds).map fun ys => y :: ys) = _
    rw [h3, ih]
    rfl
def spLaw (K : PySem.W.Frag) : Sp := fun vs H Q _ => ∃ (a : Addr) (ns : List Int), vs = [.ref a] ∧ SqL K H a (ns.map V.int) ∧ ns.length ≤ 63 ∧ ∀ H', Q (.bl true) H'
theorem sc_law : FnScope ["_law_script", "_law_cells_here", "_law_k"] ["_law_script"] (defScope s_law) := ⟨rfl, rfl, rfl, by decide +kernel, rfl, by decide +kernel, by decide +kernel⟩
noncomputable def fLaw : SE := calE allD (aCons (frzE (lcL (rngL (calE lenD (aCons (vE 1) aNil))) (gN 2) yesT (calE rightD (aCons (vE 1) (aCons (vE 2) aNil))) [2])) aNil)
noncomputable def tLaw (K : PySem.W.Frag) : TS := tSeq (tIfS (tDT (notT (tstE (fun _ => φ_L_hand_right [])))) (tRet (tD (cE (.bool false)))) tNext) (tSeq (tAsg (tCall (spCells K) [] E0 (tCons (tVar 0) (tCons (tC (.int 3)) tNil))) (gName 1)) (tRet (tD fLaw)))
theorem law_all (cs : List Int) (h : cs.length ≤ 3) (o : Option Cell) : fLaw [o, some (.dat (.list (cs.map .int))), none] = some (.bool true) := by
  have e1 : rngL (calE lenD (aCons (vE 1) aNil)) [o, some (.dat (.list (cs.map .int))), none] = some (rangeOf (cs.length : Int)) := by
    unfold rngL
    rw [cal1_run (f := vE 1) (d := .list (cs.map .int)) rfl]
    show (if -100000 ≤ ((cs.map PyData.int).length : Int) ∧ ((cs.map PyData.int).length : Int) ≤ 100000 then some (rangeOf ((cs.map PyData.int).length : Int)) else none) = _
    rw [List.length_map, if_pos (by omega)]
  have e2 : lcR (gN 2) yesT (calE rightD (aCons (vE 1) (aCons (vE 2) aNil))) [o, some (.dat (.list (cs.map .int))), none] (rangeOf (cs.length : Int)) = some ((rangeOf (cs.length : Int)).map fun _ => .bool true) := by
    refine lcR_map fun d hd => ⟨_, rfl, rfl, ?_⟩
    unfold rangeOf at hd
    obtain ⟨i, hi, rfl⟩ := List.mem_map.mp hd
    rw [List.mem_range] at hi
    rw [calE_run (ds := [.list (cs.map .int), .int (i : Nat)]) rfl]
    unfold rightD
    exact if_pos ⟨⟨cs, rfl⟩, by omega, by omega⟩
  have e3 : frzE (lcL (rngL (calE lenD (aCons (vE 1) aNil))) (gN 2) yesT (calE rightD (aCons (vE 1) (aCons (vE 2) aNil))) [2]) [o, some (.dat (.list (cs.map .int))), none] = some (.list ((rangeOf (cs.length : Int)).map fun _ => .bool true)) := by
    unfold frzE lcL
    rw [e1]
    show (((lim (rangeOf (cs.length : Int))).bind fun ds => lcR (gN 2) yesT (calE rightD (aCons (vE 1) (aCons (vE 2) aNil))) [o, some (.dat (.list (cs.map .int))), none] ds).map PyData.list) = _
    unfold lim
    rw [if_pos (by rw [range_len]; omega)]
    show ((lcR (gN 2) yesT (calE rightD (aCons (vE 1) (aCons (vE 2) aNil))) [o, some (.dat (.list (cs.map .int))), none] (rangeOf (cs.length : Int))).map PyData.list) = _
    rw [e2]
    rfl
  unfold fLaw
  rw [cal1_run e3]
  have key : ∀ l : List PyData, mapO asB (l.map fun _ => PyData.bool true) = some (l.map fun _ => true) := by
    intro l
    induction l with
    | nil => rfl
    | cons x xs ih =>
      show ((mapO asB (xs.map fun _ => PyData.bool true)).map fun ys => true :: ys) = _
      rw [ih]
      rfl
  show (mapO asB ((rangeOf (cs.length : Int)).map fun _ => PyData.bool true)).map (fun bs => PyData.bool (bs.all id)) = _
  rw [key]
  show some (PyData.bool (((rangeOf (cs.length : Int)).map fun _ => true).all id)) = _
  congr 2
  rw [List.all_eq_true]
  intro x hx
  obtain ⟨_, _, rfl⟩ := List.mem_map.mp hx
  rfl
theorem hand_true (ok : CaseOk) : φ_L_hand_right [] = some (.bool true) := by
  have c1 := ok.case_ [3, 3, 2] [[0, 0, 0]] [[1, 0, 0], [1, 2, 0], [2, 0, 1]] ⟨by decide, by decide, by decide⟩ (by decide) (by decide) (fun r hr => by
    simp only [List.mem_cons, List.not_mem_nil, or_false] at hr
    subst hr
    exact .cons (by decide) (.cons (by decide) (.cons (by decide) .nil))) (by decide) (by decide) (fun r hr => by
    simp only [List.mem_cons, List.not_mem_nil, or_false] at hr
    rcases hr with rfl | rfl | rfl <;> exact .cons (by decide) (.cons (by decide) (.cons (by decide) .nil)))
  have c2 := ok.case_ [2, 2] [[0, 0]] [] ⟨by decide, by decide, by decide⟩ (by decide) (by decide) (fun r hr => by
    simp only [List.mem_cons, List.not_mem_nil, or_false] at hr
    subst hr
    exact .cons (by decide) (.cons (by decide) .nil)) (by decide) (by decide) (fun r hr => by cases hr)
  have c3 := ok.case_ [4, 3] [[0, 0], [3, 1]] [[1, 2], [2, 1], [2, 2]] ⟨by decide, by decide, by decide⟩ (by decide) (by decide) (fun r hr => by
    simp only [List.mem_cons, List.not_mem_nil, or_false] at hr
    rcases hr with rfl | rfl <;> exact .cons (by decide) (.cons (by decide) .nil)) (by decide) (by decide) (fun r hr => by
    simp only [List.mem_cons, List.not_mem_nil, or_false] at hr
    rcases hr with rfl | rfl | rfl <;> exact .cons (by decide) (.cons (by decide) .nil))
  have ifF : ∀ {c : SAC} {f : SS} {ρ : Rho}, calC φ_L_case_right c ρ = some (.bool true) → seqS (ifS (notT (tstE (calC φ_L_case_right c))) (retS (cE (.bool false))) nxS) f ρ = f ρ := by
    intro c f ρ h
    unfold seqS ifS notT tstE
    rw [h]
    rfl
  show endF (F_L_hand_right (startC 0 [])) = _
  unfold F_L_hand_right
  refine Eq.trans (congrArg endF (ifF ?_)) ?_
  · exact c1
  refine Eq.trans (congrArg endF (ifF ?_)) ?_
  · exact c2
  show endF ((calC φ_L_case_right _ (startC 0 [])).map Res.rt) = _
  have e : ∀ {o : Option PyData}, o = some (.bool true) → endF (o.map Res.rt) = some (.bool true) := by
    intro o h; rw [h]; rfl
  exact e c3
end U
set_option maxHeartbeats 4000000
/-! M2: running the shallow functions, plain. -/
namespace U
open PySem PySem.Spec PyProof.Rows L2
/-! ### data that compare plainly -/
mutual
def pl : PyData → Bool
  | .none => true
  | .int _ => true
  | .str _ => true
  | .list xs => plAll xs
  | .tuple xs => plAll xs
  | _ => false
def plAll : List PyData → Bool
  | [] => true
  | x :: xs => pl x && plAll xs
end
theorem iff_and {a b c d : Bool} {p q : Prop} (h1 : a = true ↔ p) (h2 : b = true ↔ q) : (a && b) = true ↔ p ∧ q := by rw [Bool.and_eq_true, h1, h2]
mutual
theorem eqv_pl : ∀ x y : PyData, pl x = true → pl y = true → (PyData.eqv x y = true ↔ x = y)
  | .none, y, _, hy => by cases y <;> simp [PyData.eqv, pl] at hy ⊢
  | .int i, y, _, hy => by cases y <;> simp [PyData.eqv, pl] at hy ⊢
  | .str i, y, _, hy => by cases y <;> simp [PyData.eqv, pl] at hy ⊢
  | .list xs, y, hx, hy => by
    cases y <;> simp [PyData.eqv, pl] at hx hy ⊢
    exact eqvAll_pl xs _ hx hy
  | .tuple xs, y, hx, hy => by
    cases y <;> simp [PyData.eqv, pl] at hx hy ⊢
    exact eqvAll_pl xs _ hx hy
  | .bool b, y, hx, _ => by simp [pl] at hx
  | .dict b, y, hx, _ => by simp [pl] at hx
theorem eqvAll_pl : ∀ x y : List PyData, plAll x = true → plAll y = true → (PyData.eqvAll x y = true ↔ x = y)
  | [], [], _, _ => by simp [PyData.eqvAll]
  | [], _ :: _, _, _ => by simp [PyData.eqvAll]
  | _ :: _, [], _, _ => by simp [PyData.eqvAll]
  | x :: xs, y :: ys, hx, hy => by
    simp [plAll] at hx hy
    rw [PyData.eqvAll, Bool.and_eq_true, eqv_pl x y hx.1 hy.1, eqvAll_pl xs ys hx.2 hy.2]
    simp
end
/-- plain and to be compared -/
structure Pn (d : PyData) : Prop where
  sh : SeqAt.shaped d = true
  pl : pl d = true
theorem pn_mk {d : PyData} (h1 : d.canLay0 = true) (h2 : d.depth ≤ 64) (h3 : pl d = true) : Pn d := ⟨by unfold SeqAt.shaped; rw [h1, decide_eq_true h2]; rfl, h3⟩
theorem pn_int (i : Int) : Pn (.int i) := pn_mk rfl (by simp [PyData.depth]) rfl
theorem pn_none : Pn .none := pn_mk rfl (by simp [PyData.depth]) rfl
theorem pl_all {l : List PyData} : plAll l = true ↔ ∀ d ∈ l, pl d = true := by
  induction l with
  | nil => simp [plAll]
  | cons x xs ih => simp [plAll, ih]
theorem lay_all {l : List PyData} : PyData.canLayAll0 l = true ↔ ∀ d ∈ l, d.canLay0 = true := by
  induction l with
  | nil => simp [PyData.canLayAll0]
  | cons x xs ih => simp [PyData.canLayAll0, ih]
theorem depth_all {l : List PyData} {n : Nat} : PyData.depthAll l ≤ n ↔ ∀ d ∈ l, d.depth ≤ n := by
  induction l with
  | nil => simp [PyData.depthAll]
  | cons x xs ih => simp only [PyData.depthAll, List.mem_cons, forall_eq_or_imp, Nat.max_le, ih]
/-- of a depth -/
structure PnN (n : Nat) (d : PyData) : Prop where
  lay : d.canLay0 = true
  dep : d.depth ≤ n
  pl : pl d = true
theorem PnN.pn {n : Nat} {d : PyData} (h : PnN n d) (hn : n ≤ 64) : Pn d := pn_mk h.lay (by have := h.dep; omega) h.pl
theorem PnN.mono {n m : Nat} {d : PyData} (h : PnN n d) (hn : n ≤ m) : PnN m d := ⟨h.lay, by have := h.dep; omega, h.pl⟩
theorem pnn_int (i : Int) : PnN 0 (.int i) := ⟨rfl, by simp [PyData.depth], rfl⟩
theorem pnn_tup {n : Nat} {l : List PyData} (h : ∀ d ∈ l, PnN n d) : PnN (n + 1) (.tuple l) := by
  refine ⟨?_, ?_, ?_⟩
  · rw [PyData.canLay0]; exact lay_all.mpr fun d hd => (h d hd).lay
  · rw [PyData.depth]; have := depth_all.mpr fun d hd => (h d hd).dep; omega
  · rw [U.pl]; exact pl_all.mpr fun d hd => (h d hd).pl
theorem pnn_lst {n : Nat} {l : List PyData} (h : ∀ d ∈ l, PnN n d) : PnN (n + 1) (.list l) := by
  refine ⟨?_, ?_, ?_⟩
  · rw [PyData.canLay0]; exact lay_all.mpr fun d hd => (h d hd).lay
  · rw [PyData.depth]; have := depth_all.mpr fun d hd => (h d hd).dep; omega
  · rw [U.pl]; exact pl_all.mpr fun d hd => (h d hd).pl
theorem pnn_iT (xs : List Int) : PnN 1 (iT xs) := pnn_tup fun d hd => by
  obtain ⟨i, _, rfl⟩ := List.mem_map.mp hd
  exact pnn_int i
/-! comparisons -/
theorem eqD_run {x y : PyData} {b : Bool} (hx : Pn x) (hy : Pn y) (h : b = true ↔ x = y) : eqD x y = some (.bool b) := by
  unfold eqD
  rw [if_pos ⟨hx.sh, hy.sh⟩]
  congr 2
  rw [Bool.eq_iff_iff, eqv_pl x y hx.pl hy.pl, h]
theorem neD_run {x y : PyData} {b : Bool} (hx : Pn x) (hy : Pn y) (h : b = true ↔ x ≠ y) : neD x y = some (.bool b) := by
  unfold neD
  rw [if_pos ⟨hx.sh, hy.sh⟩]
  congr 2
  rw [Bool.eq_iff_iff, Bool.not_eq_true', ← Bool.not_eq_true, eqv_pl x y hx.pl hy.pl, h]
theorem eqD_int (i j : Int) : eqD (.int i) (.int j) = some (.bool (decide (i = j))) := eqD_run (pn_int i) (pn_int j) (by simp)
theorem neD_int (i j : Int) : neD (.int i) (.int j) = some (.bool (decide (i ≠ j))) := neD_run (pn_int i) (pn_int j) (by simp)
theorem eqD_bool (a b : Bool) : eqD (.bool a) (.bool b) = some (.bool (a == b)) := by cases a <;> cases b <;> rfl
theorem neD_bool (a b : Bool) : neD (.bool a) (.bool b) = some (.bool (a != b)) := by cases a <;> cases b <;> rfl
theorem any_eqv {ds : List PyData} {x : PyData} (hx : pl x = true) (h : ∀ d ∈ ds, pl d = true) : (ds.any fun z => PyData.eqv z x) = true ↔ x ∈ ds := by
  rw [List.any_eq_true]
  constructor
  · rintro ⟨z, hz, e⟩
    rw [← (eqv_pl z x (h z hz) hx).mp e]; exact hz
  · intro hx'
    exact ⟨x, hx', (eqv_pl x x hx hx).mpr rfl⟩
theorem inD_tup {x : PyData} {ds : List PyData} {b : Bool} (hx : Pn x) (hy : Pn (.tuple ds)) (h : b = true ↔ x ∈ ds) : inD x (.tuple ds) = some (.bool b) := by
  have hp : ∀ d ∈ ds, pl d = true := pl_all.mp (by have := hy.pl; rwa [U.pl] at this)
  show (if SeqAt.shaped x = true ∧ SeqAt.shaped (.tuple ds) = true then some (ds.any fun z => PyData.eqv z x) else none).map PyData.bool = _
  rw [if_pos ⟨hx.sh, hy.sh⟩]
  show some (PyData.bool _) = _
  congr 2
  rw [Bool.eq_iff_iff, any_eqv hx.pl hp, h]
theorem inD_lst {x : PyData} {ds : List PyData} {b : Bool} (hx : Pn x) (hy : Pn (.list ds)) (h : b = true ↔ x ∈ ds) : inD x (.list ds) = some (.bool b) := by
  have hp : ∀ d ∈ ds, pl d = true := pl_all.mp (by have := hy.pl; rwa [U.pl] at this)
  show (if SeqAt.shaped x = true ∧ SeqAt.shaped (.list ds) = true then some (ds.any fun z => PyData.eqv z x) else none).map PyData.bool = _
  rw [if_pos ⟨hx.sh, hy.sh⟩]
  show some (PyData.bool _) = _
  congr 2
  rw [Bool.eq_iff_iff, any_eqv hx.pl hp, h]
theorem notInD_tup {x : PyData} {ds : List PyData} {b : Bool} (hx : Pn x) (hy : Pn (.tuple ds)) (h : b = true ↔ x ∉ ds) : notInD x (.tuple ds) = some (.bool b) := by
  have hp : ∀ d ∈ ds, pl d = true := pl_all.mp (by have := hy.pl; rwa [U.pl] at this)
  show (if SeqAt.shaped x = true ∧ SeqAt.shaped (.tuple ds) = true then some (ds.any fun z => PyData.eqv z x) else none).map (fun b => PyData.bool (!b)) = _
  rw [if_pos ⟨hx.sh, hy.sh⟩]
  show some (PyData.bool _) = _
  congr 2
  rw [Bool.eq_iff_iff, Bool.not_eq_true', ← Bool.not_eq_true, any_eqv hx.pl hp, h]
/-! index -/
theorem atI_nat {α : Type} {xs : List α} {k : Nat} {x : α} (h : xs[k]? = some x) : atI xs (k : Int) = some x := by
  have hk : k < xs.length := (List.getElem?_eq_some_iff.mp h).1
  unfold atI ixN
  rw [if_pos (by omega), if_pos (by omega)]
  show xs[(k : Int).toNat]? = _
  rw [Int.toNat_natCast]
  exact h
theorem ixD_tup {xs : List PyData} {k : Nat} {x : PyData} (h : xs[k]? = some x) : ixD (.tuple xs) (.int (k : Int)) = some x := atI_nat h
theorem ixD_lst {xs : List PyData} {k : Nat} {x : PyData} (h : xs[k]? = some x) : ixD (.list xs) (.int (k : Int)) = some x := atI_nat h
/-! running -/
theorem op1_run {h : PyData → Option PyData} {f : SE} {ρ : Rho} {x : PyData} (hf : f ρ = some x) : op1 h f ρ = h x := by unfold op1; rw [hf] <;> rfl
theorem tst_runB {f : SE} {ρ : Rho} {b : Bool} (h : f ρ = some (.bool b)) : tstE f ρ = some b := by unfold tstE; rw [h] <;> rfl
theorem notT_run {s : ST} {ρ : Rho} {b : Bool} (h : s ρ = some b) : notT s ρ = some (!b) := by unfold notT; rw [h] <;> rfl
theorem notE_run {f : SE} {ρ : Rho} {b : Bool} (h : f ρ = some (.bool b)) : notE f ρ = some (.bool (!b)) := by unfold notE; rw [tst_runB h] <;> rfl
theorem andE_run {f g : SE} {ρ : Rho} {a b : Bool} (h : f ρ = some (.bool a)) (k : a = true → g ρ = some (.bool b)) : andE f g ρ = some (.bool (a && b)) := by
  unfold andE; rw [tst_runB h]
  cases a with
  | true => exact k rfl
  | false => rfl
theorem orE_run {f g : SE} {ρ : Rho} {a b : Bool} (h : f ρ = some (.bool a)) (k : a = false → g ρ = some (.bool b)) : orE f g ρ = some (.bool (a || b)) := by
  unfold orE; rw [tst_runB h]
  cases a with
  | false => exact k rfl
  | true => rfl
theorem andT_run {s t : ST} {ρ : Rho} {a b : Bool} (h : s ρ = some a) (k : a = true → t ρ = some b) : andT s t ρ = some (a && b) := by
  unfold andT; rw [h]
  cases a with
  | true => exact k rfl
  | false => rfl
theorem orT_run {s t : ST} {ρ : Rho} {a b : Bool} (h : s ρ = some a) (k : a = false → t ρ = some b) : orT s t ρ = some (a || b) := by
  unfold orT; rw [h]
  cases a with
  | false => exact k rfl
  | true => rfl
theorem ifE_t {t : ST} {f g : SE} {ρ : Rho} (h : t ρ = some true) : ifE t f g ρ = f ρ := by unfold ifE; rw [h] <;> rfl
theorem ifE_f {t : ST} {f g : SE} {ρ : Rho} (h : t ρ = some false) : ifE t f g ρ = g ρ := by unfold ifE; rw [h] <;> rfl
theorem ifS_t {t : ST} {f g : SS} {ρ : Rho} (h : t ρ = some true) : ifS t f g ρ = f ρ := by unfold ifS; rw [h] <;> rfl
theorem ifS_f {t : ST} {f g : SS} {ρ : Rho} (h : t ρ = some false) : ifS t f g ρ = g ρ := by unfold ifS; rw [h] <;> rfl
theorem tupE_run {a : SA} {ρ : Rho} {ds : List PyData} (h : a ρ = some ds) (hl : ds.length ≤ 100000) : tupE a ρ = some (.tuple ds) := by
  unfold tupE lim; rw [h]
  show (if ds.length ≤ 100000 then some ds else none).map PyData.tuple = _
  rw [if_pos hl] <;> rfl
theorem lst_runL {a : SA} {ρ : Rho} {ds : List PyData} (h : a ρ = some ds) (hl : ds.length ≤ 100000) : lstL a ρ = some ds := by
  unfold lstL lim; rw [h]
  show (if ds.length ≤ 100000 then some ds else none) = _
  rw [if_pos hl]
theorem frzE_run {l : SA} {ρ : Rho} {ds : List PyData} (h : l ρ = some ds) : frzE l ρ = some (.list ds) := by unfold frzE; rw [h] <;> rfl
theorem retS_run {f : SE} {ρ : Rho} {d : PyData} (h : f ρ = some d) : retS f ρ = some (.rt d) := by unfold retS; rw [h] <;> rfl
theorem setS_run {i : Nat} {f : SE} {ρ : Rho} {d : PyData} (h : f ρ = some d) : setS i f ρ = some (.nx (ρ.set i (some (.dat d)))) := by unfold setS; rw [h] <;> rfl
theorem setO_run {i : Nat} {l : SA} {ρ : Rho} {ds : List PyData} (h : l ρ = some ds) : setO i l ρ = some (.nx (ρ.set i (some (.own ds)))) := by unfold setO; rw [h] <;> rfl
theorem seq_rt {f g : SS} {ρ : Rho} {d : PyData} (h : f ρ = some (.rt d)) : seqS f g ρ = some (.rt d) := by unfold seqS; rw [h] <;> rfl
theorem seq_bk {f g : SS} {ρ ρ' : Rho} (h : f ρ = some (.bk ρ')) : seqS f g ρ = some (.bk ρ') := by unfold seqS; rw [h] <;> rfl
theorem for_rt {g : SG} {b : SS} {d r : PyData} {ds : List PyData} {ρ ρ1 : Rho} (h1 : g d ρ = some ρ1) (h2 : b ρ1 = some (.rt r)) : forR g b (d :: ds) ρ = some (.rt r) := by
  unfold forR; rw [h1]; show (b ρ1).bind _ = _; rw [h2] <;> rfl
theorem for_bk {g : SG} {b : SS} {d : PyData} {ds : List PyData} {ρ ρ1 ρ2 : Rho} (h1 : g d ρ = some ρ1) (h2 : b ρ1 = some (.bk ρ2)) : forR g b (d :: ds) ρ = some (.nx ρ2) := by
  unfold forR; rw [h1]; show (b ρ1).bind _ = _; rw [h2] <;> rfl
theorem forS_run {it : SA} {g : SG} {b : SS} {ρ : Rho} {ds : List PyData} (h : it ρ = some ds) : forS it g b ρ = forR g b ds ρ := by unfold forS; rw [h] <;> rfl
theorem itE_tup {f : SE} {ρ : Rho} {ds : List PyData} (h : f ρ = some (.tuple ds)) : itE f ρ = some ds := by unfold itE; rw [h] <;> rfl
theorem itE_lst {f : SE} {ρ : Rho} {ds : List PyData} (h : f ρ = some (.list ds)) : itE f ρ = some ds := by unfold itE; rw [h] <;> rfl
/-! comprehensions -/
theorem lcR_run {α : Type} {enc : α → PyData} {p : α → Bool} {f : α → PyData} {g : SG} {t : ST} {e : SE} {ρ : Rho} : ∀ {xs : List α}, (∀ x ∈ xs, ∃ ρ1, g (enc x) ρ = some ρ1 ∧ t ρ1 = some (p x) ∧ (p x = true → e ρ1 = some (f x))) → lcR g t e ρ (xs.map enc) = some ((xs.filter p).map f)
  | [], _ => rfl
  | x :: xs, h => by
    obtain ⟨ρ1, h1, h2, h3⟩ := h x List.mem_cons_self
    have ih := lcR_run (xs := xs) fun y hy => h y (List.mem_cons_of_mem _ hy)
    rw [List.map_cons]
    unfold lcR
    rw [h1]
    show (t ρ1).bind _ = _
    rw [h2, ih]
    cases hp : p x with
    | true =>
      rw [List.filter_cons_of_pos hp, List.map_cons]
      show (e ρ1).bind _ = _
      rw [h3 hp]
      rfl
    | false =>
      rw [List.filter_cons_of_neg (by simp [hp])]
      rfl
theorem lc_run {α : Type} {xs : List α} {enc : α → PyData} {p : α → Bool} {f : α → PyData} {it : SA} {g : SG} {t : ST} {e : SE} {vs : List Nat} {ρ : Rho} (hit : it ρ = some (xs.map enc)) (hl : xs.length ≤ 100000)
    (h : ∀ x ∈ xs, ∃ ρ1, g (enc x) (wipeR ρ vs) = some ρ1 ∧ t ρ1 = some (p x) ∧ (p x = true → e ρ1 = some (f x))) : lcL it g t e vs ρ = some ((xs.filter p).map f) := by
  unfold lcL lim
  rw [hit]
  show ((if (xs.map enc).length ≤ 100000 then some (xs.map enc) else none).bind fun ds => lcR g t e (wipeR ρ vs) ds) = _
  rw [List.length_map, if_pos hl]
  exact lcR_run h
theorem lc_runM {α : Type} {xs : List α} {enc : α → PyData} {f : α → PyData} {it : SA} {g : SG} {e : SE} {vs : List Nat} {ρ : Rho} (hit : it ρ = some (xs.map enc)) (hl : xs.length ≤ 100000)
    (h : ∀ x ∈ xs, ∃ ρ1, g (enc x) (wipeR ρ vs) = some ρ1 ∧ e ρ1 = some (f x)) : lcL it g yesT e vs ρ = some (xs.map f) := by
  have := lc_run (p := fun _ => true) (t := yesT) (f := f) hit hl fun x hx => by
    obtain ⟨ρ1, h1, h2⟩ := h x hx
    exact ⟨ρ1, h1, rfl, fun _ => h2⟩
  rw [List.filter_eq_self.mpr fun _ _ => rfl] at this
  exact this
theorem all_bools {α : Type} {p : α → Bool} : ∀ xs : List α, mapO asB (xs.map fun x => PyData.bool (p x)) = some (xs.map p)
  | [] => rfl
  | x :: xs => by
    show ((mapO asB (xs.map fun x => PyData.bool (p x))).map fun ys => p x :: ys) = _
    rw [all_bools xs] <;> rfl
theorem all_lc {α : Type} {xs : List α} {enc : α → PyData} {p : α → Bool} {it : SA} {g : SG} {e : SE} {vs : List Nat} {ρ : Rho} (hit : it ρ = some (xs.map enc)) (hl : xs.length ≤ 100000)
    (h : ∀ x ∈ xs, ∃ ρ1, g (enc x) (wipeR ρ vs) = some ρ1 ∧ e ρ1 = some (.bool (p x))) : calE allD (aCons (frzE (lcL it g yesT e vs)) aNil) ρ = some (.bool (xs.all p)) := by
  rw [cal1_run (frzE_run (lc_runM (f := fun x => PyData.bool (p x)) hit hl h))]
  show (mapO asB (xs.map fun x => PyData.bool (p x))).map (fun bs => PyData.bool (bs.all id)) = _
  rw [all_bools]
  show some (PyData.bool ((xs.map p).all id)) = _
  rw [List.all_map]
  rfl
theorem tup_lc {α : Type} {xs : List α} {enc : α → PyData} {p : α → Bool} {f : α → PyData} {it : SA} {g : SG} {t : ST} {e : SE} {vs : List Nat} {ρ : Rho} (hit : it ρ = some (xs.map enc)) (hl : xs.length ≤ 100000)
    (h : ∀ x ∈ xs, ∃ ρ1, g (enc x) (wipeR ρ vs) = some ρ1 ∧ t ρ1 = some (p x) ∧ (p x = true → e ρ1 = some (f x))) : calE tupOfD (aCons (frzE (lcL it g t e vs)) aNil) ρ = some (.tuple ((xs.filter p).map f)) := by
  rw [cal1_run (frzE_run (lc_run hit hl h))] <;> rfl
theorem tup_lcM {α : Type} {xs : List α} {enc : α → PyData} {f : α → PyData} {it : SA} {g : SG} {e : SE} {vs : List Nat} {ρ : Rho} (hit : it ρ = some (xs.map enc)) (hl : xs.length ≤ 100000)
    (h : ∀ x ∈ xs, ∃ ρ1, g (enc x) (wipeR ρ vs) = some ρ1 ∧ e ρ1 = some (f x)) : calE tupOfD (aCons (frzE (lcL it g yesT e vs)) aNil) ρ = some (.tuple (xs.map f)) := by
  rw [cal1_run (frzE_run (lc_runM hit hl h))] <;> rfl
theorem zip_tup {f g : SE} {ρ : Rho} {xs ys : List PyData} (hf : f ρ = some (.tuple xs)) (hg : g ρ = some (.tuple ys)) : zipL f g ρ = some ((xs.zip ys).map fun p => .tuple [p.1, p.2]) := by
  unfold zipL; rw [hf, hg] <;> rfl
theorem zip_lst {f g : SE} {ρ : Rho} {xs ys : List PyData} (hf : f ρ = some (.list xs)) (hg : g ρ = some (.list ys)) : zipL f g ρ = some ((xs.zip ys).map fun p => .tuple [p.1, p.2]) := by
  unfold zipL; rw [hf, hg] <;> rfl
/-- a def's end -/
theorem run_ret {n np : Nat} {F : SS} {cs : List Cell} {d : PyData} (hl : cs.length = np) (h : F (startC n cs) = some (.rt d)) : runC n np F cs = some d := by
  unfold runC; rw [if_pos hl, h] <;> rfl
end U
set_option maxHeartbeats 4000000
/-! M3: the small functions. -/
namespace U
open PySem PySem.Spec PyProof.Rows L2
theorem φ1_is_number (i : Int) : onD φ_is_number [.int i] = some (.bool true) := rfl
/-! ### tupled -/
mutual
def tu : PyData → PyData
  | .list xs => .tuple (tuAll xs)
  | .tuple xs => .tuple (tuAll xs)
  | d => d
def tuAll : List PyData → List PyData
  | [] => []
  | x :: xs => tu x :: tuAll xs
end
theorem tuAll_map : ∀ xs : List PyData, tuAll xs = xs.map tu
  | [] => rfl
  | x :: xs => by rw [tuAll, tuAll_map xs]; rfl
/-- of a depth, with lists that are not too long -/
inductive TuOk : Nat → PyData → Prop
  | int {n : Nat} (i : Int) : TuOk n (.int i)
  | str {n : Nat} (x : Str) : TuOk n (.str x)
  | tup {n : Nat} {xs : List PyData} : xs.length ≤ 100000 → (∀ x ∈ xs, TuOk n x) → TuOk (n + 1) (.tuple xs)
  | lst {n : Nat} {xs : List PyData} : xs.length ≤ 100000 → (∀ x ∈ xs, TuOk n x) → TuOk (n + 1) (.list xs)
theorem tupled_run : ∀ (m n : Nat) (d : PyData), n < m → TuOk n d → onD (φ_tupled m) [d] = some (tu d)
  | 0, _, _, h, _ => absurd h (Nat.not_lt_zero _)
  | m + 1, n, d, h, k => by
    show runC 2 1 (F_tupled (φ_tupled m)) [.dat d] = _
    refine run_ret rfl (retS_run ?_)
    have go : ∀ xs : List PyData, xs.length ≤ 100000 → (∀ x ∈ xs, onD (φ_tupled m) [x] = some (tu x)) → itE (vE 0) [some (.dat d), none] = some xs → calE tupOfD (aCons (frzE (lcL (itE (vE 0)) (gN 1) yesT (calE (onD (φ_tupled m)) (aCons (vE 1) aNil)) [1])) aNil) [some (.dat d), none] = some (.tuple (xs.map tu)) := by
      intro xs hl hx hi
      refine tup_lcM (enc := id) (by rw [List.map_id]; exact hi) hl fun x hx' => ⟨_, rfl, ?_⟩
      rw [cal1_run (d := x) rfl]
      exact hx x hx'
    cases k with
    | int i => exact (ifE_f rfl).trans rfl
    | str i => exact (ifE_f rfl).trans rfl
    | @tup n' xs hl hx =>
      rw [tu, tuAll_map]
      refine (ifE_t rfl).trans (go xs hl (fun x hx' => tupled_run m n' x (by omega) (hx x hx')) rfl)
    | @lst n' xs hl hx =>
      rw [tu, tuAll_map]
      refine (ifE_t rfl).trans (go xs hl (fun x hx' => tupled_run m n' x (by omega) (hx x hx')) rfl)
/-! ### rises, over texts -/
def risB : List Str → Bool
  | x :: y :: r => decide (x.cps.toList < y.cps.toList) && risB (y :: r)
  | _ => true
theorem rises_all : ∀ l : List Str, ((l.zip (l.drop 1)).all fun p => decide (p.1.cps.toList < p.2.cps.toList)) = risB l
  | [] => rfl
  | [x] => rfl
  | x :: y :: r => by
    have ih := rises_all (y :: r)
    rw [risB, ← ih]
    rfl
theorem zip_strs (l m : List Str) : ((l.map PyData.str).zip (m.map PyData.str)).map (fun p => PyData.tuple [p.1, p.2]) = (l.zip m).map fun p => .tuple [.str p.1, .str p.2] := by
  rw [List.zip_map, List.map_map]
  rfl
theorem cut1 (ds : List PyData) : cutD ds (some 1) none = ds.drop 1 := by
  unfold cutD
  have e : HT.sIx ds.length 0 (some 1) = min 1 ds.length := HT.sIx_nat _ _ 1
  rw [e, HT.sIx_none]
  cases ds with
  | nil => rfl
  | cons x xs =>
    rw [List.length_cons, Nat.min_eq_left (by omega)]
    rw [List.take_of_length_le (by rw [List.length_drop, List.length_cons]; omega)]
theorem rises_tup (l : List Str) (hl : l.length ≤ 100000) : onD φ_rises [.tuple (l.map .str)] = some (.bool (risB l)) := by
  rw [← rises_all]
  show runC 3 1 F_rises [.dat (.tuple (l.map .str))] = _
  refine run_ret rfl (retS_run (all_lc (xs := l.zip (l.drop 1)) (enc := fun p => .tuple [.str p.1, .str p.2]) ?_ (by rw [List.length_zip]; omega) ?_))
  case refine_2 => exact fun x _ => ⟨_, rfl, rfl⟩
  rw [zip_tup (xs := l.map .str) (ys := (l.drop 1).map .str) rfl ?_, zip_strs]
  show some (PyData.tuple (cutD (l.map PyData.str) (some 1) none)) = _
  rw [cut1, List.map_drop]
theorem rises_lst (l : List Str) (hl : l.length ≤ 100000) : onD φ_rises [.list (l.map .str)] = some (.bool (risB l)) := by
  rw [← rises_all]
  show runC 3 1 F_rises [.dat (.list (l.map .str))] = _
  refine run_ret rfl (retS_run (all_lc (xs := l.zip (l.drop 1)) (enc := fun p => .tuple [.str p.1, .str p.2]) ?_ (by rw [List.length_zip]; omega) ?_))
  case refine_2 => exact fun x _ => ⟨_, rfl, rfl⟩
  rw [zip_lst (xs := l.map .str) (ys := (l.drop 1).map .str) rfl ?_, zip_strs]
  show some (PyData.list (cutD (l.map PyData.str) (some 1) none)) = _
  rw [cut1, List.map_drop]
/-! ### product -/
def pro (l : List Int) : Int := l.foldl (· * ·) 1
theorem product_run (l : List Int) (h : ∀ i ∈ l, 0 ≤ i ∧ i ≤ 1000) : ∀ d, itemsOf d = some (l.map .int) → onD φ_product [d] = some (.int (pro l)) := by
  intro d hd
  have go : ∀ (l : List Int) (x : Int) (o : Option Cell), (∀ i ∈ l, 0 ≤ i ∧ i ≤ 1000) → ∃ o', forR (gN 2) (setS 1 (op2 mulD (vE 1) (vE 2))) (l.map .int) [some (.dat d), some (.dat (.int x)), o] = some (.nx [some (.dat d), some (.dat (.int (l.foldl (· * ·) x))), o']) := by
    intro l
    induction l with
    | nil => intro x o _; exact ⟨o, rfl⟩
    | cons i l ih =>
      intro x o h
      obtain ⟨o', e⟩ := ih (x * i) (some (.dat (.int i))) fun j hj => h j (List.mem_cons_of_mem _ hj)
      have hi := h i List.mem_cons_self
      refine ⟨o', for_nx rfl (setS_run ?_) e⟩
      exact (op2_run rfl rfl).trans (mul_run (.inr (by omega)))
  obtain ⟨o', e⟩ := go l 1 none h
  show runC 3 1 F_product [.dat d] = _
  refine run_ret rfl ?_
  refine (seq_nx (setS_run rfl)).trans ?_
  have hi : itE (vE 0) [some (.dat d), some (.dat (.int 1)), none] = some (l.map .int) := by
    cases d <;> first | cases hd
    · rfl
    · rfl
  refine (seq_nx ((forS_run hi).trans e)).trans ?_
  rfl
end U
set_option maxHeartbeats 4000000
/-! M4: sorted lists of data. -/
namespace U
open PySem PySem.Spec PyProof.Rows L2
theorem dle_int (i j : Int) : dle (.int i) (.int j) = decide (i ≤ j) := by
  rw [dle_eq, PySem.W.keyToks, PySem.W.keyToks]
  rw [PyProof.Rows.lex_cons]
  show (!(decide (j < i) || (!decide (i < j) && false))) = _
  rw [Bool.and_false, Bool.or_false]
  by_cases h : j < i
  · rw [decide_eq_true h, decide_eq_false (by omega)]; rfl
  · rw [decide_eq_false h, decide_eq_true (by omega)]; rfl
def R4 : List Int := [0, 1, 2, 3]
/-- a set of small ints, in order -/
def ust (l : List Int) : List Int := R4.filter fun c => decide (c ∈ l)
theorem R4_pw : R4.Pairwise (· < ·) := by decide
theorem ust_pw (l : List Int) : (ust l).Pairwise (· < ·) := R4_pw.filter _
theorem ust_nd (l : List Int) : (ust l).Nodup := (ust_pw l).imp fun h => by omega
theorem mem_ust {l : List Int} (h : ∀ c ∈ l, c ∈ R4) {c : Int} : c ∈ ust l ↔ c ∈ l := by
  unfold ust
  rw [List.mem_filter, decide_eq_true_iff]
  exact ⟨fun h => h.2, fun k => ⟨h c k, k⟩⟩
theorem nd_map {α : Type} {f : α → PyData} (hf : ∀ a b, f a = f b → a = b) {l : List α} (h : l.Nodup) : (l.map f).Nodup := List.Pairwise.map f (fun a b hab z => hab (hf a b z)) h
theorem set_ints {l : List Int} (h : ∀ c ∈ l, c ∈ R4) : srt (nub (l.map .int)) = (ust l).map .int := by
  have p : (nub (l.map .int)).Perm ((ust l).map .int) := by
    rw [List.perm_ext_iff_of_nodup (nub_nodup _) (nd_map (fun _ _ => PyData.int.inj) (ust_nd l))]
    intro d
    rw [mem_nub]
    constructor
    · intro hd
      obtain ⟨c, hc, rfl⟩ := List.mem_map.mp hd
      exact List.mem_map_of_mem ((mem_ust h).mpr hc)
    · intro hd
      obtain ⟨c, hc, rfl⟩ := List.mem_map.mp hd
      exact List.mem_map_of_mem ((mem_ust h).mp hc)
  rw [srt_one p fun a ha b hb e => ?_]
  · refine srt_self (List.Pairwise.map _ (fun a b hab => ?_) (ust_pw l))
    rw [dle_int, decide_eq_true_iff]
    omega
  · obtain ⟨i, _, rfl⟩ := List.mem_map.mp (mem_nub.mp ha)
    obtain ⟨j, _, rfl⟩ := List.mem_map.mp (mem_nub.mp hb)
    rw [toks_int e]
theorem setOk_ints {l : List Int} (hl : l.length < 64) : SetOk (l.map .int) := by
  refine ⟨⟨?_, .inr ?_, ?_, by rw [List.length_map]; omega⟩, by rw [List.length_map]; exact hl, .inl ?_⟩
  · intro d hd d' hd'
    obtain ⟨r, _, rfl⟩ := List.mem_map.mp hd
    obtain ⟨r', _, rfl⟩ := List.mem_map.mp hd'
    rfl
  · intro d hd
    obtain ⟨r, hr, rfl⟩ := List.mem_map.mp hd
    exact ⟨(fun e => by cases e), (fun xs e => by cases e)⟩
  · intro d hd
    obtain ⟨r, hr, rfl⟩ := List.mem_map.mp hd
    exact ⟨rfl, by simp [PyData.depth]⟩
  · intro d hd
    obtain ⟨r, hr, rfl⟩ := List.mem_map.mp hd
    exact ⟨r, rfl⟩
theorem setL_run {f : SE} {ρ : Rho} {d : PyData} {ds : List PyData} (h : f ρ = some d) (hi : itemsOf d = some ds) (ok : SetOk ds) : setL f ρ = some (srt (nub ds)) := by
  unfold setL
  rw [h]
  show (itemsOf d).bind _ = _
  rw [hi]
  exact if_pos ok
theorem set_of_run {d : PyData} {ds : List PyData} (hi : itemsOf d = some ds) (ok : SetOk ds) : onD φ_set_of [d] = some (.tuple (srt (nub ds))) := by
  show runC 1 1 F_set_of [.dat d] = _
  refine run_ret rfl (retS_run ?_)
  exact (cal1_run (frzE_run (setL_run rfl hi ok))).trans rfl
theorem set_of_ints {l : List Int} (h : ∀ c ∈ l, c ∈ R4) (hl : l.length < 64) {d : PyData} (hd : itemsOf d = some (l.map .int)) : onD φ_set_of [d] = some (iT (ust l)) := by
  rw [set_of_run hd (setOk_ints hl), set_ints h]
  rfl
/-! pairs of texts -/
def s2 (p : Str × Str) : PyData := .tuple [.str p.1, .str p.2]
theorem s2_inj {p q : Str × Str} (h : s2 p = s2 q) : p = q := by
  injection h with h
  injection h with h1 h2
  injection h2 with h2 _
  exact Prod.ext (PyData.str.inj h1) (PyData.str.inj h2)
theorem toks_s2 {p q : Str × Str} (h : PySem.W.keyToks (s2 p) = PySem.W.keyToks (s2 q)) : p = q := by
  have e : ∀ p : Str × Str, PySem.W.keyToks (s2 p) = [.inl 1, .inr p.1.cps.toList, .inl 1, .inr p.2.cps.toList, .inl 0] := fun p => by
    simp [s2, PySem.W.keyToks, PySem.W.keyToksAll]
  rw [e, e] at h
  injection h with _ h
  injection h with h1 h
  injection h with _ h
  injection h with h2 _
  exact Prod.ext (str_ext (Sum.inr.inj h1)) (str_ext (Sum.inr.inj h2))
theorem srt_nub_one {α : Type} {f : α → PyData} (hf : ∀ a b, PySem.W.keyToks (f a) = PySem.W.keyToks (f b) → a = b) {l m : List α} (nd : m.Nodup) (h : ∀ x, x ∈ l ↔ x ∈ m) : srt (nub (l.map f)) = srt (m.map f) := by
  have hi : ∀ a b, f a = f b → a = b := fun a b e => hf a b (by rw [e])
  refine srt_one ?_ fun a ha b hb e => ?_
  · rw [List.perm_ext_iff_of_nodup (nub_nodup _) (nd_map hi nd)]
    intro d
    rw [mem_nub]
    constructor
    · intro hd
      obtain ⟨c, hc, rfl⟩ := List.mem_map.mp hd
      exact List.mem_map_of_mem ((h c).mp hc)
    · intro hd
      obtain ⟨c, hc, rfl⟩ := List.mem_map.mp hd
      exact List.mem_map_of_mem ((h c).mpr hc)
  · obtain ⟨i, _, rfl⟩ := List.mem_map.mp (mem_nub.mp ha)
    obtain ⟨j, _, rfl⟩ := List.mem_map.mp (mem_nub.mp hb)
    rw [hf _ _ e]
end U
set_option maxHeartbeats 4000000
/-! M5: doors. -/
namespace U
open PySem PySem.Spec PyProof.Rows L2
def dT (d : List (List Int)) : PyData := .tuple (d.map iT)
theorem dT_inj {a b : List (List Int)} (h : dT a = dT b) : a = b := (List.map_inj_right fun a b e => iT_inj e).mp (PyData.tuple.inj h)
theorem pnn_dT (d : List (List Int)) : PnN 2 (dT d) := pnn_tup fun x hx => by
  obtain ⟨i, _, rfl⟩ := List.mem_map.mp hx
  exact pnn_iT i
theorem pn_iT (t : List Int) : Pn (iT t) := (pnn_iT t).pn (by decide)
theorem pn_dT (t : List (List Int)) : Pn (dT t) := (pnn_dT t).pn (by decide)
/-- keys of length n over 0..3 -/
def KOk (n : Nat) (t : List Int) : Prop := t.length = n ∧ ∀ c ∈ t, c ∈ R4
def colI (keys : List (List Int)) (i : Nat) : List Int := keys.map fun k => k.getD i 0
def doorOf (n : Nat) (keys : List (List Int)) : List (List Int) := (List.range n).map fun i => ust (colI keys i)
theorem rowsT (keys : List (List Int)) : mapO asT (keys.map iT) = some (keys.map fun k => k.map .int) := by
  induction keys with
  | nil => rfl
  | cons k keys ih =>
    show ((mapO asT (keys.map iT)).map fun ys => k.map PyData.int :: ys) = _
    rw [ih] <;> rfl
theorem col_data {n : Nat} {keys : List (List Int)} (h : ∀ k ∈ keys, k.length = n) {i : Nat} (hi : i < n) : (keys.map fun k => k.map PyData.int).map (fun r => r.getD i .none) = (colI keys i).map .int := by
  unfold colI
  rw [List.map_map, List.map_map]
  refine List.map_congr_left fun k hk => ?_
  have hl : i < k.length := by rw [h k hk]; exact hi
  simp [List.getD_eq_getElem?_getD, hl]
theorem colI_R4 {n : Nat} {keys : List (List Int)} (h : ∀ k ∈ keys, KOk n k) {i : Nat} (hi : i < n) : ∀ c ∈ colI keys i, c ∈ R4 := by
  intro c hc
  obtain ⟨k, hk, rfl⟩ := List.mem_map.mp hc
  have hl : i < k.length := by rw [(h k hk).1]; exact hi
  rw [List.getD_eq_getElem?_getD, List.getElem?_eq_getElem hl]
  exact (h k hk).2 _ (List.getElem_mem hl)
theorem door_for_run {n : Nat} {keys : List (List Int)} (h : ∀ k ∈ keys, KOk n k) (hn : n ≤ 10) (h1 : keys ≠ []) (hl : keys.length < 64) {d : PyData} (hd : itemsOf d = some (keys.map iT)) : onD φ_door_for [d] = some (dT (doorOf n keys)) := by
  show runC 2 1 F_door_for [.dat d] = _
  have e : dT (doorOf n keys) = .tuple ((List.range n).map fun i => iT (ust (colI keys i))) := by
    unfold dT doorOf; rw [List.map_map] <;> rfl
  rw [e]
  refine run_ret rfl (retS_run (tup_lcM (xs := List.range n) (enc := fun i => iT (colI keys i)) ?_ (by rw [List.length_range]; omega) ?_))
  · unfold zipNL
    show (itemsOf d).bind _ = _
    rw [hd]
    show (mapO asT (keys.map iT)).bind _ = _
    rw [rowsT]
    cases keys with
    | nil => exact absurd rfl h1
    | cons k ks =>
      have hk : k.length = n := (h k List.mem_cons_self).1
      have hlen : ∀ q ∈ ks.map (fun k => k.map PyData.int), q.length = (k.map PyData.int).length := by
        intro q hq
        obtain ⟨z, hz, rfl⟩ := List.mem_map.mp hq
        rw [List.length_map, List.length_map, hk]
        exact (h z (List.mem_cons_of_mem _ hz)).1
      show (if (∀ q ∈ ks.map (fun k => k.map PyData.int), q.length = (k.map PyData.int).length) ∧ (ks.map (fun k => k.map PyData.int)).length ≤ 1000 then some (colsOf (k.map PyData.int).length ((k :: ks).map fun k => k.map PyData.int)) else none) = _
      rw [if_pos ⟨hlen, by rw [List.length_map]; rw [List.length_cons] at hl; omega⟩]
      unfold colsOf
      rw [List.length_map, hk]
      congr 1
      refine List.map_congr_left fun i hi => ?_
      rw [col_data (fun k hk => (h k hk).1) (List.mem_range.mp hi)]
      rfl
  · intro i hi
    refine ⟨_, rfl, ?_⟩
    rw [cal1_run (d := iT (colI keys i)) rfl]
    exact set_of_ints (colI_R4 h (List.mem_range.mp hi)) (by unfold colI; rw [List.length_map]; exact hl) rfl
/-! ### opens -/
def opensB : List (List Int) → List Int → Bool
  | [], [] => true
  | p :: ps, c :: cs => decide (c ∈ p) && opensB ps cs
  | _, _ => false
theorem mem_iT {x : Int} {p : List Int} : PyData.int x ∈ p.map PyData.int ↔ x ∈ p := mem_mapI (fun _ _ => PyData.int.inj)
theorem pin_loop (door : List (List Int)) (key : PyData) : ∀ (cs : List Int) (ps : List (List Int)) (k : Nat) (o1 o2 : Option Cell), door.drop k = ps → cs.length = ps.length →
    ∃ r, forR (gT2 2 3) (ifS (tstE (op2 notInD (vE 3) (op2 ixD (vE 0) (vE 2)))) (retS (vE 2)) nxS) ((cs.map PyData.int).zipIdx k |>.map fun p => .tuple [.int (p.2 : Nat), p.1]) [some (.dat (dT door)), some (.dat key), o1, o2] = some r ∧
      (if opensB ps cs = true then ∃ o1' o2', r = .nx [some (.dat (dT door)), some (.dat key), o1', o2'] else ∃ i : Int, r = .rt (.int i))
  | [], [], k, o1, o2, _, _ => ⟨_, rfl, by rw [opensB, if_pos rfl]; exact ⟨o1, o2, rfl⟩⟩
  | [], _ :: _, _, _, _, _, h => by cases h
  | _ :: _, [], _, _, _, _, h => by cases h
  | c :: cs, p :: ps, k, o1, o2, hd, hl => by
    have hp : door[k]? = some p := by
      have := congrArg List.head? hd
      rw [List.head?_drop] at this
      exact this
    have hd2 : door.drop (k + 1) = ps := by
      have := congrArg List.tail hd
      rw [List.tail_drop] at this
      exact this
    have e1 : op2 ixD (vE 0) (vE 2) [some (.dat (dT door)), some (.dat key), some (.dat (.int (k : Nat))), some (.dat (.int c))] = some (iT p) := by
      rw [op2_run (x := dT door) (y := .int (k : Nat)) rfl rfl]
      refine ixD_tup ?_
      rw [List.getElem?_map, hp] <;> rfl
    have e2 : op2 notInD (vE 3) (op2 ixD (vE 0) (vE 2)) [some (.dat (dT door)), some (.dat key), some (.dat (.int (k : Nat))), some (.dat (.int c))] = some (.bool (decide (c ∉ p))) := by
      rw [op2_run (x := .int c) rfl e1]
      exact notInD_tup (pn_int c) (pn_iT p) (by rw [decide_eq_true_iff, mem_iT])
    rw [List.map_cons, List.zipIdx_cons, List.map_cons]
    by_cases hc : c ∈ p
    · obtain ⟨r, h1, h2⟩ := pin_loop door key cs ps (k + 1) (some (.dat (.int (k : Nat)))) (some (.dat (.int c))) hd2 (by simpa using hl)
      refine ⟨r, for_nx rfl ((ifS_f (tst_runB (e2.trans (by rw [decide_eq_false (by simpa using hc)])))).trans rfl) h1, ?_⟩
      rw [opensB, decide_eq_true hc, Bool.true_and]
      exact h2
    · refine ⟨_, for_rt rfl ((ifS_t (tst_runB (e2.trans (by rw [decide_eq_true hc])))).trans rfl), ?_⟩
      rw [opensB, decide_eq_false hc, Bool.false_and, if_neg Bool.false_ne_true]
      exact ⟨k, rfl⟩
theorem pin_run {door : List (List Int)} {key : List Int} (h : key.length = door.length) : ∃ r, onD φ_pin_that_bars [dT door, iT key] = some r ∧ isNoneD r = opensB door key := by
  obtain ⟨r, h1, h2⟩ := pin_loop door (iT key) key door 0 none none rfl h
  have e : φ_pin_that_bars = runC 4 2 F_pin_that_bars := rfl
  have e1 : enumL (vE 1) [some (.dat (dT door)), some (.dat (iT key)), none, none] = some ((key.map PyData.int).zipIdx 0 |>.map fun p => .tuple [.int (p.2 : Nat), p.1]) := rfl
  by_cases ho : opensB door key = true
  · rw [if_pos ho] at h2
    obtain ⟨o1, o2, rfl⟩ := h2
    refine ⟨.none, ?_, by rw [ho]; rfl⟩
    show runC 4 2 F_pin_that_bars [.dat (dT door), .dat (iT key)] = _
    exact run_ret rfl ((seq_nx ((forS_run e1).trans h1)).trans rfl)
  · rw [if_neg ho] at h2
    obtain ⟨i, rfl⟩ := h2
    refine ⟨.int i, ?_, by rw [Bool.not_eq_true] at ho; rw [ho]; rfl⟩
    show runC 4 2 F_pin_that_bars [.dat (dT door), .dat (iT key)] = _
    exact run_ret rfl (seq_rt ((forS_run e1).trans h1))
theorem opens_run {door : List (List Int)} {key : List Int} (h : key.length = door.length) : onD φ_opens [dT door, iT key] = some (.bool (opensB door key)) := by
  obtain ⟨r, h1, h2⟩ := pin_run h
  show runC 2 2 F_opens [.dat (dT door), .dat (iT key)] = _
  refine run_ret rfl (retS_run ?_)
  rw [op2_run (x := r) (y := .none) ((calE_run (ds := [dT door, iT key]) rfl).trans h1) rfl, ← h2]
  rfl
/-! ### both -/
def bothB (d o : List (List Int)) : List (List Int) := (d.zip o).map fun p => p.1.filter fun c => decide (c ∈ p.2)
theorem both_run {d o : List (List Int)} (hd : ∀ p ∈ d, p.length ≤ 100) (hl : d.length ≤ 100) : onD φ_both [dT d, dT o] = some (if [] ∈ bothB d o then .none else dT (bothB d o)) := by
  show runC 6 2 F_both [.dat (dT d), .dat (dT o)] = _
  have e : dT (bothB d o) = .tuple ((d.zip o).map fun p => iT (p.1.filter fun c => decide (c ∈ p.2))) := by
    unfold dT bothB; rw [List.map_map] <;> rfl
  have h1 : calE tupOfD (aCons (frzE (lcL (zipL (vE 0) (vE 1)) (gT2 3 4) yesT (calE tupOfD (aCons (frzE (lcL (itE (vE 3)) (gN 5) (tstE (op2 inD (vE 5) (vE 4))) (vE 5) [5])) aNil)) [3, 4])) aNil) [some (.dat (dT d)), some (.dat (dT o)), none, none, none, none] = some (dT (bothB d o)) := by
    rw [e]
    refine tup_lcM (xs := d.zip o) (enc := fun p => .tuple [iT p.1, iT p.2]) ?_ (by rw [List.length_zip]; omega) ?_
    · rw [zip_tup (xs := d.map iT) (ys := o.map iT) rfl rfl, List.zip_map, List.map_map] <;> rfl
    · intro p hp
      refine ⟨_, rfl, ?_⟩
      have := tup_lc (xs := p.1) (enc := .int) (p := fun c => decide (c ∈ p.2)) (f := .int) (it := itE (vE 3)) (g := gN 5) (t := tstE (op2 inD (vE 5) (vE 4))) (e := vE 5) (vs := [5])
        (ρ := [some (.dat (dT d)), some (.dat (dT o)), none, some (.dat (iT p.1)), some (.dat (iT p.2)), none]) rfl (by have := hd p.1 (List.of_mem_zip hp).1; omega) fun c hc => ⟨_, rfl, tst_runB (by
          rw [op2_run (x := .int c) (y := iT p.2) rfl rfl]
          exact inD_tup (pn_int c) (pn_iT _) (by rw [decide_eq_true_iff, mem_iT])), fun _ => rfl⟩
      exact this
  refine run_ret rfl ((seq_nx (setS_run h1)).trans (retS_run ?_))
  have e2 : op2 inD (tupE aNil) (vE 2) ((startC 6 [.dat (dT d), .dat (dT o)]).set 2 (some (.dat (dT (bothB d o))))) = some (.bool (decide ([] ∈ bothB d o))) := by
    rw [op2_run (x := iT []) (y := dT (bothB d o)) rfl rfl]
    exact inD_tup (pn_iT []) (pn_dT _) (by rw [decide_eq_true_iff, mem_mapI (fun _ _ => iT_inj)])
  by_cases h : [] ∈ bothB d o
  · rw [if_pos h]
    exact (ifE_t (tst_runB (e2.trans (by rw [decide_eq_true h])))).trans rfl
  · rw [if_neg h]
    exact (ifE_f (tst_runB (e2.trans (by rw [decide_eq_false h])))).trans rfl
/-! ### how many open -/
def hmo (d : List (List Int)) : Int := pro (d.map fun p => (p.length : Int))
theorem hmo_run {d : List (List Int)} (hd : ∀ p ∈ d, p.length ≤ 100) (hl : d.length ≤ 100) : onD φ_how_many_open [dT d] = some (.int (hmo d)) := by
  show runC 2 1 F_how_many_open [.dat (dT d)] = _
  refine run_ret rfl (retS_run ?_)
  rw [cal1_run (frzE_run (lc_runM (xs := d) (enc := iT) (f := fun p => .int (p.length : Int)) rfl (by omega) ?_))]
  · rw [product_run (d.map fun p => (p.length : Int)) ?_ _ (by rw [List.map_map] <;> rfl)]
    · rfl
    · intro i hi
      obtain ⟨p, hp, rfl⟩ := List.mem_map.mp hi
      have := hd p hp
      omega
  · intro p hp
    refine ⟨_, rfl, ?_⟩
    rw [cal1_run (d := iT p) rfl]
    show some (PyData.int ((p.map PyData.int).length : Int)) = _
    rw [List.length_map]
end U
set_option maxHeartbeats 4000000
/-! M6: meetings. -/
namespace U
open PySem PySem.Spec PyProof.Rows L2
theorem tu_iT (t : List Int) : tu (iT t) = iT t := by
  show tu (.tuple (t.map .int)) = .tuple (t.map .int)
  rw [tu, tuAll_map, List.map_map]
  congr 1
theorem tu_dT (t : List (List Int)) : tu (dT t) = dT t := by
  show tu (.tuple (t.map iT)) = .tuple (t.map iT)
  rw [tu, tuAll_map, List.map_map]
  congr 1
  exact List.map_congr_left fun x _ => tu_iT x
theorem tuOk_iT {t : List Int} (h : t.length ≤ 100000) : TuOk 1 (iT t) := .tup (by rw [List.length_map]; exact h) fun x hx => by
  obtain ⟨i, _, rfl⟩ := List.mem_map.mp hx
  exact .int i
/-- a door of no great size -/
def Dk (d : List (List Int)) : Prop := (∀ p ∈ d, p.length ≤ 100) ∧ d.length ≤ 100
theorem tuOk_dT {t : List (List Int)} (h : Dk t) : TuOk 2 (dT t) := .tup (by rw [List.length_map]; have := h.2; omega) fun x hx => by
  obtain ⟨i, hi, rfl⟩ := List.mem_map.mp hx
  exact tuOk_iT (by have := h.1 i hi; omega)
theorem Dk.both {d o : List (List Int)} (h : Dk d) : Dk (bothB d o) := by
  refine ⟨fun p hp => ?_, ?_⟩
  · obtain ⟨q, hq, rfl⟩ := List.mem_map.mp hp
    have h1 := h.1 q.1 (List.of_mem_zip hq).1
    have h2 := List.length_filter_le (fun c => decide (c ∈ q.2)) q.1
    omega
  · unfold bothB
    rw [List.length_map, List.length_zip]
    have := h.2
    omega
/-- doors as a list or a tuple -/
def Doors (D : PyData) (doors : List (List (List Int))) : Prop := D = .list (doors.map dT) ∨ D = .tuple (doors.map dT)
theorem tu_doors {D : PyData} {doors : List (List (List Int))} (h : Doors D doors) (hk : ∀ d ∈ doors, Dk d) (hl : doors.length ≤ 100000) : onD (φ_tupled 6) [D] = some (.tuple (doors.map dT)) := by
  have e : tu D = .tuple (doors.map dT) := by
    rcases h with rfl | rfl <;> rw [tu, tuAll_map, List.map_map] <;> congr 1 <;> exact List.map_congr_left fun x _ => tu_dT x
  have k : TuOk 3 D := by
    rcases h with rfl | rfl
    · exact .lst (by rw [List.length_map]; exact hl) fun x hx => by
        obtain ⟨i, hi, rfl⟩ := List.mem_map.mp hx
        exact tuOk_dT (hk i hi)
    · exact .tup (by rw [List.length_map]; exact hl) fun x hx => by
        obtain ⟨i, hi, rfl⟩ := List.mem_map.mp hx
        exact tuOk_dT (hk i hi)
  rw [tupled_run 6 3 D (by decide) k, e]
/-! the meetings -/
def meetF (door : List (List Int)) (q : Int × List (List Int)) : Option (Int × List (List Int)) := if [] ∈ bothB door q.2 then none else some (q.1 + 1, bothB door q.2)
def meetStep (found : List (Int × List (List Int))) (door : List (List Int)) : List (Int × List (List Int)) := found ++ ((1, door) :: found.filterMap (meetF door))
def meets (doors : List (List (List Int))) : List (Int × List (List Int)) := doors.foldl meetStep []
def mD (q : Int × List (List Int)) : PyData := .tuple [.int q.1, dT q.2]
theorem meetStep_len {found : List (Int × List (List Int))} {door : List (List Int)} : (meetStep found door).length ≤ 2 * found.length + 1 := by
  unfold meetStep
  rw [List.length_append, List.length_cons]
  have := List.length_filterMap_le (meetF door) found
  omega
theorem meetStep_dk {found : List (Int × List (List Int))} {door : List (List Int)} (h : ∀ q ∈ found, Dk q.2) (hd : Dk door) : ∀ q ∈ meetStep found door, Dk q.2 := by
  intro q hq
  unfold meetStep at hq
  rcases List.mem_append.mp hq with hq | hq
  · exact h q hq
  · rcases List.mem_cons.mp hq with rfl | hq
    · exact hd
    · obtain ⟨r, hr, e⟩ := List.mem_filterMap.mp hq
      unfold meetF at e
      split at e
      · cases e
      · cases e; exact hd.both
noncomputable def inMeet : SS := seqS (setS 6 (calE (onD φ_both) (aCons (vE 2) (aCons (vE 5) aNil)))) (ifS (tstE (op2 notND (vE 6) (cE .none))) (appS 3 (tupE (aCons (op2 addD (vE 4) (cE (.int 1))) (aCons (vE 6) aNil)))) nxS)
theorem app_run {i : Nat} {f : SE} {ρ : Rho} {d : PyData} {xs : List PyData} (h : ρ[i]? = some (some (.own xs))) (hf : f ρ = some d) (hl : xs.length < 100000) : appS i f ρ = some (.nx (ρ.set i (some (.own (xs ++ [d]))))) := by
  unfold appS
  rw [h]
  show (f ρ).bind _ = _
  rw [hf]
  show (if (xs ++ [d]).length ≤ 100000 then some (xs ++ [d]) else none).map _ = _
  rw [if_pos (by rw [List.length_append]; exact hl)] <;> rfl
theorem meet_inner {D F : Option Cell} {door : List (List Int)} (hd : Dk door) : ∀ (qs : List (Int × List (List Int))) (later : List PyData) (a b c : Option Cell), later.length + qs.length ≤ 1000 →
    ∃ a' b' c', forR (gT2 4 5) inMeet (qs.map mD) [D, F, some (.dat (dT door)), some (.own later), a, b, c] = some (.nx [D, F, some (.dat (dT door)), some (.own (later ++ (qs.filterMap (meetF door)).map mD)), a', b', c'])
  | [], later, a, b, c, _ => ⟨a, b, c, by simp [forR]⟩
  | q :: qs, later, a, b, c, hl => by
    rw [List.length_cons] at hl
    have hb : calE (onD φ_both) (aCons (vE 2) (aCons (vE 5) aNil)) [D, F, some (.dat (dT door)), some (.own later), some (.dat (.int q.1)), some (.dat (dT q.2)), c] = some (if [] ∈ bothB door q.2 then .none else dT (bothB door q.2)) :=
      (calE_run (ds := [dT door, dT q.2]) rfl).trans (both_run hd.1 hd.2)
    by_cases h : [] ∈ bothB door q.2
    · rw [if_pos h] at hb
      have e : meetF door q = none := if_pos h
      obtain ⟨a', b', c', ih⟩ := meet_inner hd qs later (some (.dat (.int q.1))) (some (.dat (dT q.2))) (some (.dat .none)) (by omega)
      refine ⟨a', b', c', ?_⟩
      rw [List.filterMap_cons, e]
      refine for_nx rfl ?_ ih
      exact (seq_nx (setS_run hb)).trans ((ifS_f rfl).trans rfl)
    · rw [if_neg h] at hb
      have e : meetF door q = some (q.1 + 1, bothB door q.2) := if_neg h
      obtain ⟨a', b', c', ih⟩ := meet_inner hd qs (later ++ [mD (q.1 + 1, bothB door q.2)]) (some (.dat (.int q.1))) (some (.dat (dT q.2))) (some (.dat (dT (bothB door q.2)))) (by rw [List.length_append, List.length_singleton]; omega)
      refine ⟨a', b', c', ?_⟩
      rw [List.filterMap_cons, e, List.map_cons]
      rw [List.append_assoc] at ih
      refine for_nx rfl ?_ ih
      refine (seq_nx (setS_run hb)).trans ((ifS_t rfl).trans ?_)
      exact app_run (d := mD (q.1 + 1, bothB door q.2)) rfl rfl (by omega)
noncomputable def outMeet : SS := seqS (setO 3 (lstL (aCons (tupE (aCons (cE (.int 1)) (aCons (vE 2) aNil))) aNil))) (seqS (forS (itE (vE 1)) (gT2 4 5) inMeet) (frzS 3 (setS 1 (op2 addD (vE 1) (vE 3)))))
theorem frz_run {i : Nat} {f : SS} {ρ : Rho} {xs : List PyData} {r : Option Res} (h : ρ[i]? = some (some (.own xs))) (k : f (ρ.set i (some (.dat (.list xs)))) = r) : frzS i f ρ = r := by
  unfold frzS frz
  rw [h]
  exact k
theorem addD_lst {xs ys : List PyData} (h : xs.length + ys.length ≤ 100000) : addD (.list xs) (.list ys) = some (.list (xs ++ ys)) := by
  show (if xs.length + ys.length ≤ 100000 then some (PyData.list (xs ++ ys)) else none) = _
  rw [if_pos h]
theorem meet_outer {D : Option Cell} : ∀ (doors : List (List (List Int))) (found : List (Int × List (List Int))) (o a b c d : Option Cell), (∀ d ∈ doors, Dk d) → (found.length + 1) * 2 ^ doors.length ≤ 500 →
    ∃ o' a' b' c' d', forR (gN 2) outMeet (doors.map dT) [D, some (.dat (.list (found.map mD))), o, a, b, c, d] = some (.nx [D, some (.dat (.list ((doors.foldl meetStep found).map mD))), o', a', b', c', d'])
  | [], found, o, a, b, c, d, _, _ => ⟨o, a, b, c, d, rfl⟩
  | door :: doors, found, o, a, b, c, d, hd, hl => by
    have h1 := hd door List.mem_cons_self
    have hp : 1 ≤ 2 ^ doors.length := Nat.one_le_two_pow
    rw [List.length_cons, Nat.pow_succ] at hl
    have hf : found.length + 1 ≤ 500 := by
      have : (found.length + 1) * 1 ≤ (found.length + 1) * (2 ^ doors.length * 2) := Nat.mul_le_mul_left _ (by omega)
      omega
    obtain ⟨a', b', c', e⟩ := meet_inner (D := D) (F := some (.dat (.list (found.map mD)))) h1 found [mD (1, door)] b c d (by rw [List.length_singleton]; omega)
    have hlen := meetStep_len (found := found) (door := door)
    obtain ⟨o2, a2, b2, c2, d2, ih⟩ := meet_outer (D := D) doors (meetStep found door) (some (.dat (dT door))) (some (.dat (.list ([mD (1, door)] ++ (found.filterMap (meetF door)).map mD)))) a' b' c' (fun x hx => hd x (List.mem_cons_of_mem _ hx)) (by
      have : ((meetStep found door).length + 1) * 2 ^ doors.length ≤ ((found.length + 1) * 2) * 2 ^ doors.length := Nat.mul_le_mul_right _ (by omega)
      have e2 : ((found.length + 1) * 2) * 2 ^ doors.length = (found.length + 1) * (2 ^ doors.length * 2) := by rw [Nat.mul_assoc, Nat.mul_comm 2]
      omega)
    refine ⟨o2, a2, b2, c2, d2, for_nx rfl ?_ ih⟩
    refine (seq_nx (setO_run (ds := [mD (1, door)]) (lst_runL rfl (by simp)))).trans ?_
    refine (seq_nx ((forS_run rfl).trans e)).trans ?_
    refine frz_run rfl ?_
    have es : meetStep found door = found ++ ((1, door) :: found.filterMap (meetF door)) := rfl
    refine (setS_run (d := .list ((meetStep found door).map mD)) ?_).trans rfl
    refine (op2_run rfl rfl).trans ((addD_lst ?_).trans ?_)
    · have := List.length_filterMap_le (meetF door) found
      simp only [List.length_map, List.length_append, List.length_singleton]
      omega
    · rw [es, List.map_append] <;> rfl
theorem meets_dk : ∀ (doors : List (List (List Int))) (found : List (Int × List (List Int))), (∀ d ∈ doors, Dk d) → (∀ q ∈ found, Dk q.2) → ∀ q ∈ doors.foldl meetStep found, Dk q.2
  | [], found, _, h => h
  | d :: ds, found, hd, h => meets_dk ds (meetStep found d) (fun x hx => hd x (List.mem_cons_of_mem _ hx)) (meetStep_dk h (hd d List.mem_cons_self))
theorem meets_len : ∀ (doors : List (List (List Int))) (found : List (Int × List (List Int))), (doors.foldl meetStep found).length + 1 ≤ (found.length + 1) * 2 ^ doors.length
  | [], found => by simp
  | d :: ds, found => by
    have h1 := meets_len ds (meetStep found d)
    have h2 := meetStep_len (found := found) (door := d)
    have : ((meetStep found d).length + 1) * 2 ^ ds.length ≤ ((found.length + 1) * 2) * 2 ^ ds.length := Nat.mul_le_mul_right _ (by omega)
    rw [List.foldl_cons, List.length_cons, Nat.pow_succ]
    have e2 : ((found.length + 1) * 2) * 2 ^ ds.length = (found.length + 1) * (2 ^ ds.length * 2) := by rw [Nat.mul_assoc, Nat.mul_comm 2]
    omega
def mH (q : Int × List (List Int)) : PyData := .tuple [.int q.1, .int (hmo q.2)]
theorem meetings_run {D : PyData} {doors : List (List (List Int))} (h : Doors D doors) (hk : ∀ d ∈ doors, Dk d) (hl : doors.length ≤ 8) : onD φ_meetings [D] = some (.list ((meets doors).map mH)) := by
  have hp : 2 ^ doors.length ≤ 2 ^ 8 := Nat.pow_le_pow_right (by decide) hl
  show runC 7 1 F_meetings [.dat D] = _
  refine run_ret rfl ?_
  refine (seq_nx (setS_run (frzE_run (ds := []) rfl))).trans ?_
  obtain ⟨o, a, b, c, d, e⟩ := meet_outer (D := some (.dat D)) doors [] none none none none none hk (by rw [List.length_nil]; omega)
  refine (seq_nx ((forS_run (itE_tup ((cal1_run (d := D) rfl).trans (tu_doors h hk (by omega))))).trans e)).trans ?_
  have hlen := meets_len doors []
  rw [List.length_nil] at hlen
  refine retS_run (frzE_run (lc_runM (xs := meets doors) (enc := mD) (f := mH) rfl (by show (doors.foldl meetStep []).length ≤ _; omega) ?_))
  intro q hq
  have hq2 := meets_dk doors [] hk (fun _ h => nomatch h) q hq
  refine ⟨_, rfl, tupE_run (ds := [.int q.1, .int (hmo q.2)]) (aCons_run rfl (aCons_run ?_ rfl)) (by simp)⟩
  exact (cal1_run (d := dT q.2) rfl).trans (hmo_run hq2.1 hq2.2)
end U
set_option maxHeartbeats 4000000
/-! M7: how many. -/
namespace U
open PySem PySem.Spec PyProof.Rows L2
theorem sumD_run (l : List Int) : sumD [.list (l.map .int)] = some (.int l.sum) := by
  show (mapO asI (l.map .int)).map (fun ns => PyData.int ns.sum) = _
  have : mapO asI (l.map .int) = some l := mapO_ints l
  rw [this] <;> rfl
/-! some, all -/
def sgn (m : Int) : Int := if m % 2 = 1 then 1 else -1
def hms (doors : List (List (List Int))) : Int := ((meets doors).map fun q => sgn q.1 * hmo q.2).sum
def hma (doors : List (List (List Int))) : Int := ((meets doors).map fun q => (if q.1 = (doors.length : Int) then 1 else 0) * hmo q.2).sum
theorem hms_run {D : PyData} {doors : List (List (List Int))} (h : Doors D doors) (hk : ∀ d ∈ doors, Dk d) (hl : doors.length ≤ 8) : onD φ_how_many_some [D] = some (.int (hms doors)) := by
  have hp : 2 ^ doors.length ≤ 2 ^ 8 := Nat.pow_le_pow_right (by decide) hl
  have hlen := meets_len doors []
  rw [List.length_nil] at hlen
  show runC 3 1 F_how_many_some [.dat D] = _
  refine run_ret rfl (retS_run ?_)
  rw [cal1_run (frzE_run (lc_runM (xs := meets doors) (enc := mH) (f := fun q => .int (sgn q.1 * hmo q.2)) (itE_lst ((cal1_run (d := D) rfl).trans (meetings_run h hk hl))) (by show (doors.foldl meetStep []).length ≤ _; omega) ?_))]
  · have e : (meets doors).map (fun q => PyData.int (sgn q.1 * hmo q.2)) = ((meets doors).map fun q => sgn q.1 * hmo q.2).map .int := by rw [List.map_map] <;> rfl
    rw [e]
    exact sumD_run _
  · intro q _
    refine ⟨[some (.dat D), some (.dat (.int q.1)), some (.dat (.int (hmo q.2)))], rfl, ?_⟩
    have ht : tstE (op2 eqD (op2 modD (vE 1) (cE (.int 2))) (cE (.int 1))) [some (.dat D), some (.dat (.int q.1)), some (.dat (.int (hmo q.2)))] = some (decide (q.1 % 2 = 1)) := by
      refine tst_runB ?_
      rw [op2_run (x := .int (q.1 % 2)) (y := .int 1) ((op2_run rfl rfl).trans (mod_run (by decide))) rfl]
      exact eqD_int _ _
    unfold sgn
    by_cases c : q.1 % 2 = 1
    · rw [decide_eq_true c] at ht
      rw [if_pos c, Int.one_mul]
      exact (ifE_t ht).trans rfl
    · rw [decide_eq_false c] at ht
      rw [if_neg c, Int.neg_mul, Int.one_mul]
      exact (ifE_f ht).trans rfl
theorem sum_filter {α : Type} (f : α → Int) (p : α → Bool) : ∀ l : List α, ((l.filter p).map f).sum = (l.map fun x => (if p x = true then 1 else 0) * f x).sum
  | [] => rfl
  | x :: xs => by
    rw [List.map_cons, List.sum_cons, ← sum_filter f p xs]
    cases h : p x with
    | true => rw [List.filter_cons_of_pos h, List.map_cons, List.sum_cons, if_pos rfl, Int.one_mul]
    | false => rw [List.filter_cons_of_neg (by simp [h]), if_neg Bool.false_ne_true, Int.zero_mul, Int.zero_add]
theorem hma_run {doors : List (List (List Int))} (hk : ∀ d ∈ doors, Dk d) (hl : doors.length ≤ 8) : onD φ_how_many_all [.tuple (doors.map dT)] = some (.int (hma doors)) := by
  have hp : 2 ^ doors.length ≤ 2 ^ 8 := Nat.pow_le_pow_right (by decide) hl
  have hlen := meets_len doors []
  rw [List.length_nil] at hlen
  show runC 3 1 F_how_many_all [.dat (.tuple (doors.map dT))] = _
  refine run_ret rfl (retS_run ?_)
  rw [cal1_run (frzE_run (lc_run (xs := meets doors) (enc := mH) (p := fun q => decide (q.1 = (doors.length : Int))) (f := fun q => .int (hmo q.2)) (itE_lst ((cal1_run rfl).trans (meetings_run (.inr rfl) hk hl))) (by show (doors.foldl meetStep []).length ≤ _; omega) ?_))]
  · have e : ((meets doors).filter fun q => decide (q.1 = (doors.length : Int))).map (fun q => PyData.int (hmo q.2)) = (((meets doors).filter fun q => decide (q.1 = (doors.length : Int))).map fun q => hmo q.2).map .int := by rw [List.map_map] <;> rfl
    rw [e, sumD_run]
    unfold hma
    rw [sum_filter]
    simp only [decide_eq_true_eq]
  · intro q _
    refine ⟨_, rfl, tst_runB ?_, fun _ => rfl⟩
    rw [op2_run (x := .int q.1) (y := .int (doors.length : Int)) rfl ((cal1_run (d := .tuple (doors.map dT)) rfl).trans (by show some (PyData.int ((doors.map dT).length : Int)) = _; rw [List.length_map]))]
    exact eqD_int _ _
/-! choose -/
def pc : Nat → Nat → Int
  | _, 0 => 1
  | 0, _ + 1 => 0
  | m + 1, k + 1 => pc m k + pc m (k + 1)
theorem choose_run (m k : Nat) (hm : m ≤ 5) (hk : k ≤ m) : onD φ_choose [.int (m : Int), .int (k : Int)] = some (.int (pc m k)) := by
  rcases m with _ | _ | _ | _ | _ | _ | m
  all_goals first | (exfalso; omega) | skip
  all_goals rcases k with _ | _ | _ | _ | _ | _ | k
  all_goals first | (exfalso; omega) | rfl
/-! just -/
def fJ (k : Nat) (m : Int) : Int := if (k : Int) ≤ m then pc m.toNat k * (if (m - k) % 2 = 0 then 1 else -1) else 0
noncomputable def jBody : SS := ifS (tstE (op2 geD (vE 4) (vE 2))) (setS 3 (op2 addD (vE 3) (op2 mulD (calE (onD φ_choose) (aCons (vE 4) (aCons (vE 2) aNil))) (ifE (tstE (op2 eqD (op2 modD (op2 subD (vE 4) (vE 2)) (cE (.int 2))) (cE (.int 0)))) (vE 5) (op1 negD (vE 5)))))) nxS
theorem pc_small (m k : Nat) (hm : m ≤ 5) (hk : k ≤ m) : 0 ≤ pc m k ∧ pc m k ≤ 10 := by
  rcases m with _ | _ | _ | _ | _ | _ | m
  all_goals first | (exfalso; omega) | skip
  all_goals rcases k with _ | _ | _ | _ | _ | _ | k
  all_goals first | (exfalso; omega) | decide
theorem just_loop {A B : Option Cell} (k : Nat) : ∀ (qs : List (Int × Int)) (x : Int) (o1 o2 : Option Cell), (∀ q ∈ qs, 0 ≤ q.1 ∧ q.1 ≤ 5) →
    ∃ o1' o2', forR (gT2 4 5) jBody (qs.map fun q => .tuple [.int q.1, .int q.2]) [A, B, some (.dat (.int (k : Int))), some (.dat (.int x)), o1, o2] = some (.nx [A, B, some (.dat (.int (k : Int))), some (.dat (.int (x + (qs.map fun q => fJ k q.1 * q.2).sum))), o1', o2'])
  | [], x, o1, o2, _ => ⟨o1, o2, by rw [List.map_nil, List.map_nil, List.sum_nil, Int.add_zero]; rfl⟩
  | q :: qs, x, o1, o2, h => by
    obtain ⟨q0, q5⟩ := h q List.mem_cons_self
    obtain ⟨o1', o2', ih⟩ := just_loop (A := A) (B := B) k qs (x + fJ k q.1 * q.2) (some (.dat (.int q.1))) (some (.dat (.int q.2))) fun y hy => h y (List.mem_cons_of_mem _ hy)
    refine ⟨o1', o2', ?_⟩
    rw [List.map_cons, List.map_cons, List.sum_cons, ← Int.add_assoc]
    refine for_nx rfl ?_ ih
    have ht : tstE (op2 geD (vE 4) (vE 2)) [A, B, some (.dat (.int (k : Int))), some (.dat (.int x)), some (.dat (.int q.1)), some (.dat (.int q.2))] = some (decide ((k : Int) ≤ q.1)) := rfl
    by_cases c : (k : Int) ≤ q.1
    · rw [decide_eq_true c] at ht
      refine (ifS_t ht).trans ?_
      have hk : k ≤ q.1.toNat := by omega
      have hm : q.1.toNat ≤ 5 := by omega
      have e0 : ((q.1.toNat : Nat) : Int) = q.1 := by omega
      have e1 : calE (onD φ_choose) (aCons (vE 4) (aCons (vE 2) aNil)) [A, B, some (.dat (.int (k : Int))), some (.dat (.int x)), some (.dat (.int q.1)), some (.dat (.int q.2))] = some (.int (pc q.1.toNat k)) := by
        refine (calE_run (ds := [.int q.1, .int (k : Int)]) rfl).trans ?_
        have := choose_run q.1.toNat k hm hk
        rwa [e0] at this
      have ht2 : tstE (op2 eqD (op2 modD (op2 subD (vE 4) (vE 2)) (cE (.int 2))) (cE (.int 0))) [A, B, some (.dat (.int (k : Int))), some (.dat (.int x)), some (.dat (.int q.1)), some (.dat (.int q.2))] = some (decide ((q.1 - k) % 2 = 0)) := by
        refine tst_runB ?_
        rw [op2_run (x := .int ((q.1 - k) % 2)) (y := .int 0) ((op2_run (x := .int (q.1 - k)) rfl rfl).trans (mod_run (by decide))) rfl]
        exact eqD_int _ _
      have e2 : ifE (tstE (op2 eqD (op2 modD (op2 subD (vE 4) (vE 2)) (cE (.int 2))) (cE (.int 0)))) (vE 5) (op1 negD (vE 5)) [A, B, some (.dat (.int (k : Int))), some (.dat (.int x)), some (.dat (.int q.1)), some (.dat (.int q.2))] = some (.int ((if (q.1 - k) % 2 = 0 then 1 else -1) * q.2)) := by
        by_cases c2 : (q.1 - k) % 2 = 0
        · rw [decide_eq_true c2] at ht2
          rw [if_pos c2, Int.one_mul]
          exact (ifE_t ht2).trans rfl
        · rw [decide_eq_false c2] at ht2
          rw [if_neg c2, Int.neg_mul, Int.one_mul]
          exact (ifE_f ht2).trans rfl
      have hs := pc_small q.1.toNat k hm hk
      have e3 := (op2_run (h := mulD) e1 e2).trans (mul_run (.inl (by omega)))
      refine (setS_run (d := .int (x + fJ k q.1 * q.2)) ((op2_run rfl e3).trans ?_)).trans rfl
      unfold fJ
      rw [if_pos c, Int.mul_assoc]
      rfl
    · rw [decide_eq_false c] at ht
      have : fJ k q.1 = 0 := if_neg c
      rw [this, Int.zero_mul, Int.add_zero]
      exact (ifS_f ht).trans rfl
def hmj (hs : List Int) (doors : List (List (List Int))) (k : Nat) : Int := if k ≤ doors.length then fJ k 0 * pro hs + ((meets doors).map fun q => fJ k q.1 * hmo q.2).sum else 0
theorem meets_m : ∀ (doors : List (List (List Int))) (found : List (Int × List (List Int))) (n : Nat), (∀ q ∈ found, 1 ≤ q.1 ∧ q.1 ≤ (n : Int)) → ∀ q ∈ doors.foldl meetStep found, 1 ≤ q.1 ∧ q.1 ≤ ((n + doors.length : Nat) : Int)
  | [], found, n, h => by simpa using h
  | d :: ds, found, n, h => by
    have := meets_m ds (meetStep found d) (n + 1) fun q hq => by
      unfold meetStep at hq
      rcases List.mem_append.mp hq with hq | hq
      · have := h q hq; omega
      · rcases List.mem_cons.mp hq with rfl | hq
        · exact ⟨Int.le_refl 1, by show (1 : Int) ≤ _; omega⟩
        · obtain ⟨r, hr, e⟩ := List.mem_filterMap.mp hq
          have := h r hr
          unfold meetF at e
          split at e
          · cases e
          · cases e; show 1 ≤ r.1 + 1 ∧ r.1 + 1 ≤ _; omega
    intro q hq
    have := this q hq
    rw [List.length_cons]
    omega
theorem hmj_run {hs : List Int} {D : PyData} {doors : List (List (List Int))} (hh : ∀ i ∈ hs, 0 ≤ i ∧ i ≤ 1000) (h : Doors D doors) (hk : ∀ d ∈ doors, Dk d) (hl : doors.length ≤ 5) (k : Nat) : onD φ_how_many_just [iT hs, D, .int (k : Int)] = some (.int (hmj hs doors k)) := by
  have hp : 2 ^ doors.length ≤ 2 ^ 5 := Nat.pow_le_pow_right (by decide) hl
  have hlen := meets_len doors []
  rw [List.length_nil] at hlen
  have hlen2 : (meets doors).length ≤ 40 := by show (doors.foldl meetStep []).length ≤ _; omega
  show runC 6 3 F_how_many_just [.dat (iT hs), .dat D, .dat (.int (k : Int))] = _
  have eD : lenD [D] = some (.int (doors.length : Int)) := by
    rcases h with rfl | rfl
    · show some (PyData.int ((doors.map dT).length : Int)) = _; rw [List.length_map]
    · show some (PyData.int ((doors.map dT).length : Int)) = _; rw [List.length_map]
  have hc : tstE (chE leD leD (cE (.int 0)) (vE 2) (calE lenD (aCons (vE 1) aNil))) (startC 6 [.dat (iT hs), .dat D, .dat (.int (k : Int))]) = some (decide (k ≤ doors.length)) := by
    have e1 : calE lenD (aCons (vE 1) aNil) (startC 6 [.dat (iT hs), .dat D, .dat (.int (k : Int))]) = some (.int (doors.length : Int)) := (cal1_run (d := D) rfl).trans eD
    refine tst_runB ?_
    unfold chE
    show ((some (decide ((0 : Int) ≤ (k : Int)))).bind fun b => if b = true then (calE lenD (aCons (vE 1) aNil) (startC 6 [.dat (iT hs), .dat D, .dat (.int (k : Int))])).bind fun w => leD (.int (k : Int)) w else some (.bool false)) = _
    rw [e1, decide_eq_true (by omega)]
    show some (PyData.bool (decide ((k : Int) ≤ (doors.length : Int)))) = _
    congr 2
    exact decide_eq_decide.mpr (by omega)
  unfold hmj
  by_cases c : k ≤ doors.length
  · rw [decide_eq_true c] at hc
    rw [if_pos c]
    refine run_ret rfl ((seq_nx ((ifS_f (notT_run hc)).trans rfl)).trans ?_)
    refine (seq_nx (setS_run rfl)).trans ?_
    obtain ⟨o1, o2, e⟩ := just_loop (A := some (.dat (iT hs))) (B := some (.dat D)) k ((0, pro hs) :: (meets doors).map fun q => (q.1, hmo q.2)) 0 none none fun q hq => by
      rcases List.mem_cons.mp hq with rfl | hq
      · exact ⟨Int.le_refl 0, by show (0 : Int) ≤ 5; decide⟩
      · obtain ⟨r, hr, rfl⟩ := List.mem_map.mp hq
        have := meets_m doors [] 0 (fun _ h => nomatch h) r hr
        show 0 ≤ r.1 ∧ r.1 ≤ 5
        omega
    have ei : itE (frzE (lstL (aCons (tupE (aCons (cE (.int 0)) (aCons (calE (onD φ_product) (aCons (vE 0) aNil)) aNil))) (aStar (calE (onD φ_meetings) (aCons (vE 1) aNil)) aNil)))) [some (.dat (iT hs)), some (.dat D), some (.dat (.int (k : Int))), some (.dat (.int 0)), none, none] =
        some (((0, pro hs) :: (meets doors).map fun q => (q.1, hmo q.2)).map fun q => .tuple [.int q.1, .int q.2]) := by
      refine itE_lst (frzE_run (lst_runL ?_ ?_))
      · refine aCons_run (tupE_run (ds := [.int 0, .int (pro hs)]) (aCons_run rfl (aCons_run ((cal1_run (d := iT hs) rfl).trans (product_run hs hh _ rfl)) rfl)) (by simp)) ?_
        unfold aStar
        rw [cal1_run (d := D) (φ := onD φ_meetings) rfl, meetings_run h hk (by omega)]
        show some ((meets doors).map mH ++ []) = _
        rw [List.append_nil, List.map_map]
        rfl
      · simp only [List.map_cons, List.length_cons, List.length_map]
        omega
    refine (seq_nx ((forS_run ei).trans e)).trans ?_
    refine retS_run ?_
    show some (PyData.int _) = _
    rw [List.map_cons, List.sum_cons, List.map_map, Int.zero_add]
    rfl
  · rw [decide_eq_false c] at hc
    rw [if_neg c]
    exact run_ret rfl (seq_rt ((ifS_t (notT_run hc)).trans rfl))
end U
set_option maxHeartbeats 4000000
/-! M8: counting, with no program in sight. -/
namespace U
open PySem PySem.Spec PyProof.Rows L2
def ind (b : Bool) : Int := if b = true then 1 else 0
theorem sum_zero {α : Type} : ∀ l : List α, (l.map fun _ => (0 : Int)).sum = 0
  | [] => rfl
  | _ :: xs => by rw [List.map_cons, List.sum_cons, sum_zero xs]; rfl
theorem sum_add {α : Type} (f g : α → Int) : ∀ l : List α, (l.map fun x => f x + g x).sum = (l.map f).sum + (l.map g).sum
  | [] => rfl
  | x :: xs => by simp only [List.map_cons, List.sum_cons, sum_add f g xs]; omega
theorem sum_mul {α : Type} (k : Int) (f : α → Int) : ∀ l : List α, (l.map fun x => k * f x).sum = k * (l.map f).sum
  | [] => by simp
  | x :: xs => by rw [List.map_cons, List.sum_cons, List.map_cons, List.sum_cons, sum_mul k f xs, Int.mul_add]
theorem sum_mulR {α : Type} (k : Int) (f : α → Int) (l : List α) : (l.map fun x => f x * k).sum = (l.map f).sum * k := by
  rw [Int.mul_comm, ← sum_mul]
  congr 1
  exact List.map_congr_left fun x _ => Int.mul_comm _ _
theorem sum_swap {α β : Type} (F : α → β → Int) (ys : List β) : ∀ xs : List α, (xs.map fun x => (ys.map fun y => F x y).sum).sum = (ys.map fun y => (xs.map fun x => F x y).sum).sum
  | [] => by rw [List.map_nil, List.sum_nil]; exact (sum_zero ys).symm
  | x :: xs => by
    rw [List.map_cons, List.sum_cons, sum_swap F ys xs, ← sum_add]
    rfl
theorem sum_app {α : Type} (f : α → Int) (l m : List α) : ((l ++ m).map f).sum = (l.map f).sum + (m.map f).sum := by rw [List.map_append, List.sum_append]
theorem sum_flat {α β : Type} (f : β → Int) (g : α → List β) : ∀ l : List α, ((l.flatMap g).map f).sum = (l.map fun x => ((g x).map f).sum).sum
  | [] => rfl
  | x :: xs => by rw [List.flatMap_cons, sum_app, sum_flat f g xs]; rfl
theorem sum_len {α : Type} (p : α → Bool) : ∀ l : List α, (l.map fun x => ind (p x)).sum = ((l.filter p).length : Int)
  | [] => rfl
  | x :: xs => by
    rw [List.map_cons, List.sum_cons, sum_len p xs]
    cases h : p x with
    | true => rw [List.filter_cons_of_pos h, List.length_cons]; unfold ind; rw [if_pos rfl]; omega
    | false => rw [List.filter_cons_of_neg (by simp [h])]; unfold ind; rw [if_neg Bool.false_ne_true]; omega
theorem sum_cong {α : Type} {f g : α → Int} {l : List α} (h : ∀ x ∈ l, f x = g x) : (l.map f).sum = (l.map g).sum := by rw [List.map_congr_left h]
theorem ind_and (a b : Bool) : ind (a && b) = ind a * ind b := by cases a <;> cases b <;> rfl
/-! keys -/
def rng (h : Int) : List Int := (List.range h.toNat).map fun (i : Nat) => (i : Int)
theorem mem_rng {h c : Int} : c ∈ rng h ↔ 0 ≤ c ∧ c < h := by
  unfold rng
  rw [List.mem_map]
  constructor
  · rintro ⟨i, hi, rfl⟩
    rw [List.mem_range] at hi
    omega
  · intro k
    exact ⟨c.toNat, by rw [List.mem_range]; omega, by omega⟩
theorem rng_pw (h : Int) : (rng h).Pairwise (· < ·) := by
  unfold rng
  exact List.Pairwise.map _ (fun a b hab => by omega) List.pairwise_lt_range
theorem rng_nd (h : Int) : (rng h).Nodup := (rng_pw h).imp fun h => by omega
def teethC : List Int → List (List Int)
  | [] => [[]]
  | h :: hs => (rng h).flatMap fun c => (teethC hs).map (c :: ·)
/-- a door of the depths hs -/
def GD : List Int → List (List Int) → Prop
  | [], [] => True
  | h :: hs, p :: ps => (p.Nodup ∧ ∀ c ∈ p, 0 ≤ c ∧ c < h) ∧ GD hs ps
  | _, _ => False
theorem GD.len : ∀ {hs : List Int} {d : List (List Int)}, GD hs d → d.length = hs.length
  | [], [], _ => rfl
  | _ :: _, _ :: _, h => by rw [List.length_cons, List.length_cons, h.2.len]
  | [], _ :: _, h => h.elim
  | _ :: _, [], h => h.elim
theorem pro_mul (x : Int) : ∀ l : List Int, l.foldl (· * ·) x = x * pro l
  | [] => by show x = x * 1; omega
  | y :: ys => by
    show ys.foldl (· * ·) (x * y) = x * (ys.foldl (· * ·) (1 * y))
    rw [pro_mul (x * y) ys, pro_mul (1 * y) ys, Int.one_mul, Int.mul_assoc]
theorem pro_cons (x : Int) (l : List Int) : pro (x :: l) = x * pro l := by
  show l.foldl (· * ·) (1 * x) = _
  rw [pro_mul, Int.one_mul]
theorem count_in {h : Int} {p : List Int} (nd : p.Nodup) (hp : ∀ c ∈ p, 0 ≤ c ∧ c < h) : ((rng h).map fun c => ind (decide (c ∈ p))).sum = (p.length : Int) := by
  rw [sum_len]
  have : ((rng h).filter fun c => decide (c ∈ p)).Perm p := by
    rw [List.perm_ext_iff_of_nodup ((rng_nd h).filter _) nd]
    intro c
    rw [List.mem_filter, decide_eq_true_iff, mem_rng]
    exact ⟨fun h => h.2, fun k => ⟨hp c k, k⟩⟩
  rw [this.length_eq]
/-- how many keys a door lets in -/
theorem count_door : ∀ {hs : List Int} {d : List (List Int)}, GD hs d → ((teethC hs).map fun t => ind (opensB d t)).sum = hmo d
  | [], [], _ => rfl
  | h :: hs, p :: ps, k => by
    have ih := count_door k.2
    have e : hmo (p :: ps) = (p.length : Int) * hmo ps := by
      unfold hmo; rw [List.map_cons, pro_cons]
    rw [e, ← ih, ← count_in k.1.1 k.1.2]
    show ((((rng h).flatMap fun c => (teethC hs).map (c :: ·))).map fun t => ind (opensB (p :: ps) t)).sum = _
    rw [sum_flat, ← sum_mulR]
    refine sum_cong fun c _ => ?_
    rw [List.map_map, ← sum_mul]
    refine sum_cong fun t _ => ?_
    show ind (opensB (p :: ps) (c :: t)) = _
    rw [opensB, ind_and]
  | [], _ :: _, h => h.elim
  | _ :: _, [], h => h.elim
theorem count_all : ∀ (hs : List Int), (∀ h ∈ hs, 0 ≤ h) → ((teethC hs).length : Int) = pro hs
  | [], _ => rfl
  | h :: hs, k => by
    have ih := count_all hs fun x hx => k x (List.mem_cons_of_mem _ hx)
    have h0 := k h List.mem_cons_self
    rw [pro_cons, ← ih]
    show (((rng h).flatMap fun c => (teethC hs).map (c :: ·)).length : Int) = _
    have : ∀ l : List Int, (l.flatMap fun c => (teethC hs).map (c :: ·)).length = l.length * (teethC hs).length := by
      intro l
      induction l with
      | nil => simp
      | cons x xs ih => rw [List.flatMap_cons, List.length_append, ih, List.length_map, List.length_cons, Nat.succ_mul]; omega
    rw [this]
    have : (rng h).length = h.toNat := by unfold rng; simp
    rw [this, Int.natCast_mul]
    congr 1
    omega
/-! the meetings, key by key -/
theorem opens_both : ∀ (d o : List (List Int)) (t : List Int), d.length = o.length → opensB (bothB d o) t = (opensB d t && opensB o t)
  | [], [], [], _ => rfl
  | [], [], _ :: _, _ => rfl
  | [], _ :: _, _, h => by cases h
  | _ :: _, [], _, h => by cases h
  | p :: ps, q :: qs, [], _ => rfl
  | p :: ps, q :: qs, c :: cs, h => by
    have ih := opens_both ps qs cs (by simpa using h)
    show (decide (c ∈ p.filter fun c => decide (c ∈ q)) && opensB (bothB ps qs) cs) = (decide (c ∈ p) && opensB ps cs && (decide (c ∈ q) && opensB qs cs))
    rw [ih]
    have : decide (c ∈ p.filter fun c => decide (c ∈ q)) = (decide (c ∈ p) && decide (c ∈ q)) := by
      rw [Bool.eq_iff_iff, decide_eq_true_iff, List.mem_filter, Bool.and_eq_true, decide_eq_true_iff, decide_eq_true_iff]
    rw [this]
    cases decide (c ∈ p) <;> cases decide (c ∈ q) <;> cases opensB ps cs <;> cases opensB qs cs <;> rfl
theorem opens_empty : ∀ (d : List (List Int)) (t : List Int), [] ∈ d → opensB d t = false
  | [], t, h => by cases h
  | p :: ps, [], _ => rfl
  | p :: ps, c :: cs, h => by
    show (decide (c ∈ p) && opensB ps cs) = false
    rcases List.mem_cons.mp h with e | h
    · rw [← e]; rfl
    · rw [opens_empty ps cs h, Bool.and_false]
def gS : Nat → (Int → Int) → Int
  | 0, _ => 0
  | c + 1, f => gS c f + f 1 + gS c fun m => f (m + 1)
def sM (found : List (Int × List (List Int))) (t : List Int) (f : Int → Int) : Int := (found.map fun q => f q.1 * ind (opensB q.2 t)).sum
theorem sM_step {n : Nat} {found : List (Int × List (List Int))} {d : List (List Int)} (hd : d.length = n) (hf : ∀ q ∈ found, q.2.length = n) (t : List Int) (f : Int → Int) :
    sM (meetStep found d) t f = if opensB d t = true then sM found t f + f 1 + sM found t (fun m => f (m + 1)) else sM found t f := by
  have key : ∀ l : List (Int × List (List Int)), (∀ q ∈ l, q.2.length = n) → ((l.filterMap (meetF d)).map fun q => f q.1 * ind (opensB q.2 t)).sum = if opensB d t = true then sM l t (fun m => f (m + 1)) else 0 := by
    intro l
    induction l with
    | nil => intro _; unfold sM; simp
    | cons q l ih =>
      intro h
      have ih := ih fun x hx => h x (List.mem_cons_of_mem _ hx)
      have hq := h q List.mem_cons_self
      have ob := opens_both d q.2 t (by rw [hd, hq])
      rw [List.filterMap_cons]
      by_cases c : [] ∈ bothB d q.2
      · have e : meetF d q = none := if_pos c
        rw [e]
        show ((l.filterMap (meetF d)).map fun q => f q.1 * ind (opensB q.2 t)).sum = _
        rw [ih]
        have : (opensB d t && opensB q.2 t) = false := by rw [← ob]; exact opens_empty _ _ c
        by_cases o : opensB d t = true
        · rw [if_pos o, if_pos o]
          rw [o, Bool.true_and] at this
          unfold sM
          rw [List.map_cons, List.sum_cons, this]
          show _ = f (q.1 + 1) * 0 + _
          omega
        · rw [if_neg o, if_neg o]
      · have e : meetF d q = some (q.1 + 1, bothB d q.2) := if_neg c
        rw [e]
        show (((q.1 + 1, bothB d q.2) :: l.filterMap (meetF d)).map fun q => f q.1 * ind (opensB q.2 t)).sum = _
        rw [List.map_cons, List.sum_cons, ih, ob]
        by_cases o : opensB d t = true
        · rw [if_pos o, if_pos o, o, Bool.true_and]
          rfl
        · rw [if_neg o, if_neg o]
          rw [Bool.not_eq_true] at o
          rw [o, Bool.false_and]
          show f (q.1 + 1) * 0 + 0 = 0
          omega
  unfold sM meetStep
  rw [sum_app, List.map_cons, List.sum_cons, key found hf]
  by_cases o : opensB d t = true
  · rw [if_pos o, if_pos o, o]
    show _ + (f 1 * 1 + sM found t _) = _
    unfold sM
    omega
  · rw [if_neg o, if_neg o]
    rw [Bool.not_eq_true] at o
    rw [o]
    show _ + (f 1 * 0 + 0) = _
    omega
def cntD' (doors : List (List (List Int))) (t : List Int) : Nat := (doors.filter fun d => opensB d t).length
theorem meetStep_len2 {n : Nat} {found : List (Int × List (List Int))} {d : List (List Int)} (hd : d.length = n) (hf : ∀ q ∈ found, q.2.length = n) : ∀ q ∈ meetStep found d, q.2.length = n := by
  intro q hq
  unfold meetStep at hq
  rcases List.mem_append.mp hq with hq | hq
  · exact hf q hq
  · rcases List.mem_cons.mp hq with rfl | hq
    · exact hd
    · obtain ⟨r, hr, e⟩ := List.mem_filterMap.mp hq
      unfold meetF at e
      split at e
      · cases e
      · cases e
        show (bothB d r.2).length = n
        unfold bothB
        rw [List.length_map, List.length_zip, hd, hf r hr, Nat.min_self]
theorem sM_fold {n : Nat} (t : List Int) : ∀ (doors : List (List (List Int))) (found : List (Int × List (List Int))) (c : Nat), (∀ d ∈ doors, d.length = n) → (∀ q ∈ found, q.2.length = n) → (∀ f, sM found t f = gS c f) → ∀ f, sM (doors.foldl meetStep found) t f = gS (c + cntD' doors t) f
  | [], found, c, _, _, h, f => h f
  | d :: ds, found, c, hd, hf, h, f => by
    have hd1 := hd d List.mem_cons_self
    have hd2 : ∀ x ∈ ds, x.length = n := fun x hx => hd x (List.mem_cons_of_mem _ hx)
    rw [List.foldl_cons]
    by_cases o : opensB d t = true
    · have e : c + cntD' (d :: ds) t = (c + 1) + cntD' ds t := by
        unfold cntD'
        rw [List.filter_cons_of_pos (p := fun d => opensB d t) o, List.length_cons]
        omega
      rw [e]
      refine sM_fold t ds (meetStep found d) (c + 1) hd2 (meetStep_len2 hd1 hf) (fun f => ?_) f
      rw [sM_step hd1 hf, if_pos o, h, h]
      rfl
    · have e : c + cntD' (d :: ds) t = c + cntD' ds t := by
        unfold cntD'
        rw [List.filter_cons_of_neg (p := fun d => opensB d t) o]
      rw [e]
      refine sM_fold t ds (meetStep found d) c hd2 (meetStep_len2 hd1 hf) (fun f => ?_) f
      rw [sM_step hd1 hf, if_neg o, h]
theorem sM_meets {n : Nat} {doors : List (List (List Int))} (h : ∀ d ∈ doors, d.length = n) (t : List Int) (f : Int → Int) : sM (meets doors) t f = gS (cntD' doors t) f := by
  have := sM_fold (n := n) t doors [] 0 h (fun _ h => nomatch h) (fun f => rfl) f
  rw [Nat.zero_add] at this
  exact this
/-- over all keys -/
theorem GD.both : ∀ {hs : List Int} {d o : List (List Int)}, GD hs d → GD hs o → GD hs (bothB d o)
  | [], [], [], _, _ => trivial
  | h :: hs, p :: ps, q :: qs, a, b => by
    refine ⟨⟨a.1.1.filter _, fun c hc => a.1.2 c (List.mem_filter.mp hc).1⟩, a.2.both b.2⟩
  | [], _ :: _, _, h, _ => h.elim
  | [], [], _ :: _, _, h => h.elim
  | _ :: _, [], _, h, _ => h.elim
  | _ :: _, _ :: _, [], _, h => h.elim
theorem meets_gd {hs : List Int} : ∀ (doors : List (List (List Int))) (found : List (Int × List (List Int))), (∀ d ∈ doors, GD hs d) → (∀ q ∈ found, GD hs q.2) → ∀ q ∈ doors.foldl meetStep found, GD hs q.2
  | [], found, _, h => h
  | d :: ds, found, hd, h => meets_gd ds (meetStep found d) (fun x hx => hd x (List.mem_cons_of_mem _ hx)) fun q hq => by
    unfold meetStep at hq
    rcases List.mem_append.mp hq with hq | hq
    · exact h q hq
    · rcases List.mem_cons.mp hq with rfl | hq
      · exact hd _ List.mem_cons_self
      · obtain ⟨r, hr, e⟩ := List.mem_filterMap.mp hq
        unfold meetF at e
        split at e
        · cases e
        · cases e; exact (hd d List.mem_cons_self).both (h r hr)
theorem sum_meets {hs : List Int} {doors : List (List (List Int))} (h : ∀ d ∈ doors, GD hs d) (f : Int → Int) : ((meets doors).map fun q => f q.1 * hmo q.2).sum = ((teethC hs).map fun t => gS (cntD' doors t) f).sum := by
  have e : ((meets doors).map fun q => f q.1 * hmo q.2).sum = ((meets doors).map fun q => ((teethC hs).map fun t => f q.1 * ind (opensB q.2 t)).sum).sum := by
    refine sum_cong fun q hq => ?_
    rw [sum_mul, count_door (meets_gd doors [] h (fun _ h => nomatch h) q hq)]
  rw [e, sum_swap]
  refine sum_cong fun t _ => ?_
  exact sM_meets (n := hs.length) (fun d hd => (h d hd).len) t f
theorem cnt_le (doors : List (List (List Int))) (t : List Int) : cntD' doors t ≤ doors.length := List.length_filter_le _ _
theorem hms_count {hs : List Int} {doors : List (List (List Int))} (h : ∀ d ∈ doors, GD hs d) (hl : doors.length ≤ 5) : hms doors = (((teethC hs).filter fun t => decide (0 < cntD' doors t)).length : Int) := by
  unfold hms
  rw [sum_meets h, ← sum_len]
  refine sum_cong fun t _ => ?_
  have := cnt_le doors t
  generalize cntD' doors t = c at *
  have hc : c ≤ 5 := by omega
  rcases c with _ | _ | _ | _ | _ | _ | c
  all_goals first | (exfalso; omega) | decide
theorem hma_count {hs : List Int} {doors : List (List (List Int))} (h : ∀ d ∈ doors, GD hs d) (hl : doors.length ≤ 5) (h1 : 1 ≤ doors.length) : hma doors = (((teethC hs).filter fun t => decide (cntD' doors t = doors.length)).length : Int) := by
  unfold hma
  rw [sum_meets h (fun m => if m = (doors.length : Int) then 1 else 0), ← sum_len]
  refine sum_cong fun t _ => ?_
  have hc := cnt_le doors t
  generalize cntD' doors t = c at *
  generalize doors.length = n at *
  rcases n with _ | _ | _ | _ | _ | _ | n
  all_goals first | (exfalso; omega) | skip
  all_goals rcases c with _ | _ | _ | _ | _ | _ | c
  all_goals first | (exfalso; omega) | decide
theorem hmj_count {hs : List Int} {doors : List (List (List Int))} (hh : ∀ i ∈ hs, 0 ≤ i) (h : ∀ d ∈ doors, GD hs d) (hl : doors.length ≤ 5) (k : Nat) : hmj hs doors k = (((teethC hs).filter fun t => decide (cntD' doors t = k)).length : Int) := by
  unfold hmj
  by_cases c : k ≤ doors.length
  · rw [if_pos c, sum_meets h (fJ k), ← count_all hs hh, ← sum_len]
    have e : fJ k 0 * ((teethC hs).length : Int) = ((teethC hs).map fun _ => fJ k 0).sum := by
      have : ∀ l : List (List Int), fJ k 0 * (l.length : Int) = (l.map fun _ => fJ k 0).sum := by
        intro l
        induction l with
        | nil => simp
        | cons x xs ih => rw [List.map_cons, List.sum_cons, ← ih, List.length_cons, Int.natCast_add, Int.mul_add]; omega
      exact this _
    rw [e, ← sum_add]
    refine sum_cong fun t _ => ?_
    have hc := cnt_le doors t
    generalize cntD' doors t = m at *
    have h5 : m ≤ 5 := by omega
    have k5 : k ≤ 5 := by omega
    clear hc c h
    rcases k with _ | _ | _ | _ | _ | _ | k
    all_goals first | (exfalso; omega) | skip
    all_goals rcases m with _ | _ | _ | _ | _ | _ | m
    all_goals first | (exfalso; omega) | decide
  · rw [if_neg c]
    have : (teethC hs).filter (fun t => decide (cntD' doors t = k)) = [] := by
      rw [List.filter_eq_nil_iff]
      intro t _
      have := cnt_le doors t
      rw [decide_eq_true_iff]
      omega
    rw [this]
    rfl
end U
set_option maxHeartbeats 4000000
/-! M9: nth_opener, nth_of_some. -/
namespace U
open PySem PySem.Spec PyProof.Rows L2
theorem sorted_ext {l m : List Int} (hl : l.Pairwise (· < ·)) (hm : m.Pairwise (· < ·)) (h : ∀ x, x ∈ l ↔ x ∈ m) : l = m := by
  have p : l.Perm m := (List.perm_ext_iff_of_nodup (hl.imp fun h => by omega) (hm.imp fun h => by omega)).mpr h
  exact List.Perm.eq_of_pairwise (le := fun a b : Int => a < b) (fun a b _ _ h1 h2 => by omega) hl hm p
/-- doors with parts in order -/
def GS : List Int → List (List Int) → Prop
  | [], [] => True
  | h :: hs, p :: ps => (p.Pairwise (· < ·) ∧ ∀ c ∈ p, 0 ≤ c ∧ c < h) ∧ GS hs ps
  | _, _ => False
theorem GS.gd : ∀ {hs : List Int} {d : List (List Int)}, GS hs d → GD hs d
  | [], [], _ => trivial
  | _ :: _, _ :: _, h => ⟨⟨h.1.1.imp fun h => by omega, h.1.2⟩, h.2.gd⟩
  | [], _ :: _, h => h.elim
  | _ :: _, [], h => h.elim
theorem rng_filter {h : Int} {p : List Int} (hp : p.Pairwise (· < ·)) (hr : ∀ c ∈ p, 0 ≤ c ∧ c < h) : (rng h).filter (fun c => decide (c ∈ p)) = p := by
  refine sorted_ext ((rng_pw h).filter _) hp fun x => ?_
  rw [List.mem_filter, decide_eq_true_iff, mem_rng]
  exact ⟨fun h => h.2, fun k => ⟨hr x k, k⟩⟩
theorem flat_congr {α β : Type} {f g : α → List β} : ∀ {l : List α}, (∀ x ∈ l, f x = g x) → l.flatMap f = l.flatMap g
  | [], _ => rfl
  | x :: xs, h => by rw [List.flatMap_cons, List.flatMap_cons, h x List.mem_cons_self, flat_congr fun y hy => h y (List.mem_cons_of_mem _ hy)]
theorem flat_filter {β : Type} (q : Int → Bool) (g : Int → List β) (h0 : ∀ c, q c = false → g c = []) : ∀ l : List Int, l.flatMap g = (l.filter q).flatMap g
  | [] => rfl
  | x :: xs => by
    rw [List.flatMap_cons, flat_filter q g h0 xs]
    cases h : q x with
    | true => rw [List.filter_cons_of_pos h, List.flatMap_cons]
    | false => rw [List.filter_cons_of_neg (by simp [h]), h0 x h, List.nil_append]
theorem map_filter {α β : Type} (f : α → β) (q : β → Bool) (l : List α) : (l.map f).filter q = (l.filter fun x => q (f x)).map f := by rw [List.filter_map]; rfl
theorem filt_cons {h : Int} {hs p : List Int} {ps : List (List Int)} (hp : p.Pairwise (· < ·)) (hr : ∀ c ∈ p, 0 ≤ c ∧ c < h) :
    (teethC (h :: hs)).filter (opensB (p :: ps)) = p.flatMap fun c => ((teethC hs).filter (opensB ps)).map (c :: ·) := by
  show (((rng h).flatMap fun c => (teethC hs).map (c :: ·))).filter (opensB (p :: ps)) = _
  rw [List.filter_flatMap]
  have e : ∀ c, ((teethC hs).map (c :: ·)).filter (opensB (p :: ps)) = if c ∈ p then ((teethC hs).filter (opensB ps)).map (c :: ·) else [] := by
    intro c
    rw [map_filter]
    by_cases hc : c ∈ p
    · rw [if_pos hc]
      congr 1
      refine List.filter_congr fun t _ => ?_
      show (decide (c ∈ p) && opensB ps t) = _
      rw [decide_eq_true hc, Bool.true_and]
    · rw [if_neg hc]
      have : (teethC hs).filter (fun x => opensB (p :: ps) (c :: x)) = [] := by
        rw [List.filter_eq_nil_iff]
        intro t _
        show ¬ (decide (c ∈ p) && opensB ps t) = true
        rw [decide_eq_false hc, Bool.false_and]
        exact Bool.false_ne_true
      rw [this]
      rfl
  rw [flat_filter (fun c => decide (c ∈ p)) _ (fun c hc => by rw [e, if_neg (by simpa using hc)]), rng_filter hp hr]
  refine flat_congr fun c hc => ?_
  rw [e, if_pos hc]
theorem filt_nil : (teethC []).filter (opensB []) = [[]] := rfl
/-! the last one -/
def lastI (p : List Int) : Int := p.getLast?.getD 0
theorem last_one : ∀ {hs : List Int} {d : List (List Int)}, GS hs d → (∀ p ∈ d, p ≠ []) → ((teethC hs).filter (opensB d)).getLast? = some (d.map lastI)
  | [], [], _, _ => rfl
  | h :: hs, p :: ps, k, ne => by
    have ih := last_one k.2 fun q hq => ne q (List.mem_cons_of_mem _ hq)
    rw [filt_cons k.1.1 k.1.2]
    have hp := ne p List.mem_cons_self
    obtain ⟨init, l, rfl⟩ : ∃ init l, p = init ++ [l] := ⟨p.dropLast, p.getLast hp, (List.dropLast_concat_getLast hp).symm⟩
    rw [List.flatMap_append, List.flatMap_cons, List.flatMap_nil, List.append_nil, List.getLast?_append, List.getLast?_map, ih]
    have : lastI (init ++ [l]) = l := by unfold lastI; rw [List.getLast?_concat]; rfl
    rw [List.map_cons, this]
    rfl
  | [], _ :: _, h, _ => h.elim
  | _ :: _, [], h, _ => h.elim
def bOp : SS := seqS (appS 3 (op2 ixD (vE 2) (op2 modD (vE 4) (calE lenD (aCons (vE 2) aNil))))) (setS 4 (op2 fdivD (vE 4) (calE lenD (aCons (vE 2) aNil))))
theorem op_loop {D N : Option Cell} : ∀ (qs : List (List Int)) (found : List PyData) (o : Option Cell), (∀ p ∈ qs, p ≠ [] ∧ p.length ≤ 100) → found.length + qs.length ≤ 1000 →
    ∃ o' r', forR (gN 2) bOp (qs.map iT) [D, N, o, some (.own found), some (.dat (.int (hmo qs - 1)))] = some (.nx [D, N, o', some (.own (found ++ (qs.map lastI).map .int)), r'])
  | [], found, o, _, _ => ⟨o, _, by rw [List.map_nil, List.map_nil, List.map_nil, List.append_nil]; rfl⟩
  | p :: qs, found, o, h, hl => by
    obtain ⟨hne, hp⟩ := h p List.mem_cons_self
    rw [List.length_cons] at hl
    obtain ⟨o', r', ih⟩ := op_loop (D := D) (N := N) qs (found ++ [.int (lastI p)]) (some (.dat (iT p))) (fun q hq => h q (List.mem_cons_of_mem _ hq)) (by rw [List.length_append, List.length_singleton]; omega)
    refine ⟨o', r', ?_⟩
    rw [List.append_assoc] at ih
    have e : hmo (p :: qs) = (p.length : Int) * hmo qs := by unfold hmo; rw [List.map_cons, pro_cons]
    have hpos : 0 < (p.length : Int) := by
      have := List.length_pos_iff.mpr hne
      omega
    have em : (hmo (p :: qs) - 1) % (p.length : Int) = (p.length : Int) - 1 := by
      rw [e]
      have : (p.length : Int) * hmo qs - 1 = ((p.length : Int) - 1) + (p.length : Int) * (hmo qs - 1) := by rw [Int.mul_sub]; omega
      rw [this, Int.add_mul_emod_self_left]
      exact Int.emod_eq_of_lt (by omega) (by omega)
    have ed : (hmo (p :: qs) - 1) / (p.length : Int) = hmo qs - 1 := by
      rw [e]
      have : (p.length : Int) * hmo qs - 1 = ((p.length : Int) - 1) + (p.length : Int) * (hmo qs - 1) := by rw [Int.mul_sub]; omega
      rw [this, Int.add_mul_ediv_left _ _ (by omega), Int.ediv_eq_zero_of_lt (by omega) (by omega), Int.zero_add]
    have el : ∀ x : Cell, calE lenD (aCons (vE 2) aNil) [D, N, some (.dat (iT p)), some x, some (.dat (.int (hmo (p :: qs) - 1)))] = some (.int (p.length : Int)) := fun x => by
      rw [cal1_run (d := iT p) rfl]
      show some (PyData.int ((p.map PyData.int).length : Int)) = _
      rw [List.length_map]
    refine for_nx rfl ?_ ih
    refine (seq_nx (app_run (d := .int (lastI p)) rfl ?_ (by omega))).trans ?_
    · have e4 : op2 modD (vE 4) (calE lenD (aCons (vE 2) aNil)) [D, N, some (.dat (iT p)), some (.own found), some (.dat (.int (hmo (p :: qs) - 1)))] = some (.int ((p.length : Int) - 1)) :=
        (op2_run (x := .int (hmo (p :: qs) - 1)) rfl (el _)).trans ((mod_run hpos).trans (by rw [em]))
      refine (op2_run (x := iT p) (y := .int ((p.length : Int) - 1)) rfl e4).trans ?_
      have hh : ((p.length : Int) - 1) = ((p.length - 1 : Nat) : Int) := by have := List.length_pos_iff.mpr hne; omega
      rw [hh]
      refine ixD_tup ?_
      rw [List.getElem?_map]
      have : p[p.length - 1]? = some (lastI p) := by
        unfold lastI
        rw [← List.getLast?_eq_getElem?]
        cases z : p.getLast? with
        | none => exact absurd (List.getLast?_eq_none_iff.mp z) hne
        | some v => rfl
      rw [this]
      rfl
    · refine (setS_run (d := .int (hmo qs - 1)) ?_).trans rfl
      refine (op2_run (x := .int (hmo (p :: qs) - 1)) rfl (el _)).trans ((div_run ⟨hpos, by omega⟩).trans ?_)
      rw [ed]
theorem hmo_rev (d : List (List Int)) : hmo d.reverse = hmo d := by
  have key : ∀ (l : List Int) (x : Int), pro (l ++ [x]) = pro l * x := fun l x => by
    show (l ++ [x]).foldl (· * ·) 1 = _
    rw [List.foldl_append]
    rfl
  induction d with
  | nil => rfl
  | cons p ps ih =>
    unfold hmo at *
    rw [List.reverse_cons, List.map_append, List.map_cons, List.map_nil, key, ih, List.map_cons, pro_cons, Int.mul_comm]
theorem hmo_pos : ∀ {d : List (List Int)}, (∀ p ∈ d, p ≠ []) → 1 ≤ hmo d
  | [], _ => by decide
  | p :: ps, h => by
    have ih := hmo_pos (d := ps) fun q hq => h q (List.mem_cons_of_mem _ hq)
    have hp := List.length_pos_iff.mpr (h p List.mem_cons_self)
    have e : hmo (p :: ps) = (p.length : Int) * hmo ps := by unfold hmo; rw [List.map_cons, pro_cons]
    rw [e]
    have : 1 * 1 ≤ (p.length : Int) * hmo ps := Int.mul_le_mul (by omega) ih (by omega) (by omega)
    omega
theorem nth_opener_run {d : List (List Int)} (h : ∀ p ∈ d, p ≠ [] ∧ p.length ≤ 100) (hl : d.length ≤ 100) : onD φ_nth_opener [dT d, .int (hmo d - 1)] = some (iT (d.map lastI)) := by
  show runC 5 2 F_nth_opener [.dat (dT d), .dat (.int (hmo d - 1))] = _
  have hpos := hmo_pos fun p hp => (h p hp).1
  have hc : tstE (chE leD ltD (cE (.int 0)) (vE 1) (calE (onD φ_how_many_open) (aCons (vE 0) aNil))) (startC 5 [.dat (dT d), .dat (.int (hmo d - 1))]) = some true := by
    have e1 : calE (onD φ_how_many_open) (aCons (vE 0) aNil) (startC 5 [.dat (dT d), .dat (.int (hmo d - 1))]) = some (.int (hmo d)) := (cal1_run (d := dT d) rfl).trans (hmo_run (fun p hp => (h p hp).2) hl)
    refine tst_runB ?_
    unfold chE
    show ((some (decide ((0 : Int) ≤ hmo d - 1))).bind fun b => if b = true then (calE (onD φ_how_many_open) (aCons (vE 0) aNil) (startC 5 [.dat (dT d), .dat (.int (hmo d - 1))])).bind fun w => ltD (.int (hmo d - 1)) w else some (.bool false)) = _
    rw [e1, decide_eq_true (by omega)]
    show some (PyData.bool (decide (hmo d - 1 < hmo d))) = _
    rw [decide_eq_true (by omega)]
  refine run_ret rfl ((seq_nx ((ifS_f (notT_run hc)).trans rfl)).trans ?_)
  have hp : parO 3 4 (lstL aNil) (vE 1) (startC 5 [.dat (dT d), .dat (.int (hmo d - 1))]) = some (.nx [some (.dat (dT d)), some (.dat (.int (hmo d - 1))), none, some (.own []), some (.dat (.int (hmo d - 1)))]) := rfl
  refine (seq_nx hp).trans ?_
  obtain ⟨o', r', e⟩ := op_loop (D := some (.dat (dT d))) (N := some (.dat (.int (hmo d - 1)))) d.reverse [] none (fun p hp => h p (List.mem_reverse.mp hp)) (by rw [List.length_reverse, List.length_nil]; omega)
  rw [hmo_rev] at e
  have hr : revL (vE 0) [some (.dat (dT d)), some (.dat (.int (hmo d - 1))), none, some (.own []), some (.dat (.int (hmo d - 1)))] = some (d.reverse.map iT) := by
    show some ((d.map iT).reverse) = _
    rw [List.map_reverse]
  refine (seq_nx ((forS_run hr).trans e)).trans ?_
  refine frz_run rfl (retS_run ?_)
  rw [cal1_run (d := .list ((d.map lastI).map .int)) ?_]
  · rfl
  · rw [op1_run (x := .list ([] ++ (d.reverse.map lastI).map .int)) rfl]
    show some (PyData.list (([] ++ (d.reverse.map lastI).map PyData.int).reverse)) = _
    rw [List.nil_append, ← List.map_reverse, ← List.map_reverse, List.reverse_reverse]
end U
set_option maxHeartbeats 4000000
/-! M10: nth_of_some. -/
namespace U
open PySem PySem.Spec PyProof.Rows L2
theorem lcR2_run {α β : Type} {enc : α → PyData} {enc1 : β → PyData} {ys : α → List β} {p : α → β → Bool} {f : α → β → PyData} {g g1 : SG} {t1 : ST} {it1 : SA} {e : SE} {vs1 : List Nat} {ρ : Rho} : ∀ {xs : List α},
    (∀ x ∈ xs, ∃ ρ1, g (enc x) ρ = some ρ1 ∧ it1 ρ1 = some ((ys x).map enc1) ∧ (ys x).length ≤ 100000 ∧ ∀ y ∈ ys x, ∃ ρ2, g1 (enc1 y) (wipeR ρ1 vs1) = some ρ2 ∧ t1 ρ2 = some (p x y) ∧ (p x y = true → e ρ2 = some (f x y))) →
    lcR2 g yesT it1 g1 t1 e vs1 ρ (xs.map enc) = some (xs.flatMap fun x => ((ys x).filter (p x)).map (f x))
  | [], _ => rfl
  | x :: xs, h => by
    obtain ⟨ρ1, h1, h2, h3, h4⟩ := h x List.mem_cons_self
    have ih := lcR2_run (xs := xs) fun y hy => h y (List.mem_cons_of_mem _ hy)
    rw [List.map_cons]
    unfold lcR2
    rw [h1]
    show (it1 ρ1).bind _ = _
    rw [h2]
    show ((if ((ys x).map enc1).length ≤ 100000 then some ((ys x).map enc1) else none).bind fun ds => (lcR g1 t1 e (wipeR ρ1 vs1) ds).bind fun ys => (lcR2 g yesT it1 g1 t1 e vs1 ρ (xs.map enc)).map fun zs => ys ++ zs) = _
    rw [List.length_map, if_pos h3]
    show (lcR g1 t1 e (wipeR ρ1 vs1) ((ys x).map enc1)).bind _ = _
    rw [lcR_run h4, ih]
    rfl
theorem lc2_run {α β : Type} {xs : List α} {enc : α → PyData} {enc1 : β → PyData} {ys : α → List β} {p : α → β → Bool} {f : α → β → PyData} {it : SA} {g g1 : SG} {t1 : ST} {it1 : SA} {e : SE} {vs vs1 : List Nat} {ρ : Rho} (hit : it ρ = some (xs.map enc)) (hl : xs.length ≤ 100000)
    (hl2 : (xs.flatMap fun x => ((ys x).filter (p x)).map (f x)).length ≤ 100000)
    (h : ∀ x ∈ xs, ∃ ρ1, g (enc x) (wipeR ρ vs) = some ρ1 ∧ it1 ρ1 = some ((ys x).map enc1) ∧ (ys x).length ≤ 100000 ∧ ∀ y ∈ ys x, ∃ ρ2, g1 (enc1 y) (wipeR ρ1 vs1) = some ρ2 ∧ t1 ρ2 = some (p x y) ∧ (p x y = true → e ρ2 = some (f x y))) :
    lcL2 it g yesT it1 g1 t1 e vs vs1 ρ = some (xs.flatMap fun x => ((ys x).filter (p x)).map (f x)) := by
  unfold lcL2
  rw [hit]
  show ((if (xs.map enc).length ≤ 100000 then some (xs.map enc) else none).bind fun ds => (lcR2 g yesT it1 g1 t1 e vs1 (wipeR ρ vs) ds).bind lim) = _
  rw [List.length_map, if_pos hl]
  show (lcR2 g yesT it1 g1 t1 e vs1 (wipeR ρ vs) (xs.map enc)).bind lim = _
  rw [lcR2_run h]
  show (if _ then _ else _) = _
  rw [if_pos hl2]
theorem flat_len {α β : Type} (f : α → List β) (n : Nat) : ∀ l : List α, (∀ x ∈ l, (f x).length ≤ n) → (l.flatMap f).length ≤ l.length * n
  | [], _ => by simp
  | x :: xs, h => by
    have := flat_len f n xs fun y hy => h y (List.mem_cons_of_mem _ hy)
    have := h x List.mem_cons_self
    rw [List.flatMap_cons, List.length_append, List.length_cons, Nat.succ_mul]
    omega
/-! the keys that some door lets in -/
def someK (hs : List Int) (left : List (List (List Int))) : List (List Int) := (teethC hs).filter fun t => decide (0 < cntD' left t)
def fresh (c : Int) (left : List (List (List Int))) : List (List (List Int)) := (left.filter fun d => decide (c ∈ d.headD [])).map List.tail
def heads (left : List (List (List Int))) : List Int := left.flatMap fun d => d.headD []
theorem cnt_cons {h : Int} {hs : List Int} (c : Int) (u : List Int) : ∀ left : List (List (List Int)), (∀ d ∈ left, GS (h :: hs) d) → cntD' left (c :: u) = cntD' (fresh c left) u
  | [], _ => rfl
  | d :: ds, k => by
    have ih := cnt_cons c u ds fun x hx => k x (List.mem_cons_of_mem _ hx)
    have hd := k d List.mem_cons_self
    cases d with
    | nil => exact hd.elim
    | cons p ps =>
      unfold cntD' fresh at *
      have e : opensB (p :: ps) (c :: u) = (decide (c ∈ p) && opensB ps u) := rfl
      by_cases hc : c ∈ p
      · rw [List.filter_cons_of_pos (p := fun (d : List (List Int)) => decide (c ∈ d.headD [])) (by simpa using hc), List.map_cons, List.tail_cons]
        rw [decide_eq_true hc, Bool.true_and] at e
        by_cases o : opensB ps u = true
        · rw [List.filter_cons_of_pos (p := fun d => opensB d (c :: u)) (by rw [e]; exact o), List.filter_cons_of_pos (p := fun d => opensB d u) o, List.length_cons, List.length_cons, ih]
        · rw [List.filter_cons_of_neg (p := fun d => opensB d (c :: u)) (by rw [e]; exact o), List.filter_cons_of_neg (p := fun d => opensB d u) o, ih]
      · rw [List.filter_cons_of_neg (p := fun (d : List (List Int)) => decide (c ∈ d.headD [])) (by simpa using hc)]
        rw [decide_eq_false hc, Bool.false_and] at e
        rw [List.filter_cons_of_neg (p := fun d => opensB d (c :: u)) (by rw [e]; exact Bool.false_ne_true), ih]
theorem fresh_nil {c : Int} {left : List (List (List Int))} (h : c ∉ heads left) : fresh c left = [] := by
  unfold fresh
  rw [List.map_eq_nil_iff, List.filter_eq_nil_iff]
  intro d hd
  rw [decide_eq_true_iff]
  exact fun hc => h (List.mem_flatMap.mpr ⟨d, hd, hc⟩)
theorem some_nil (hs : List Int) : someK hs [] = [] := by
  unfold someK
  rw [List.filter_eq_nil_iff]
  intro t _
  rw [decide_eq_true_iff]
  exact Nat.lt_irrefl 0
theorem heads_in {h : Int} {hs : List Int} {left : List (List (List Int))} (k : ∀ d ∈ left, GS (h :: hs) d) : ∀ c ∈ heads left, 0 ≤ c ∧ c < h := by
  intro c hc
  obtain ⟨d, hd, hc⟩ := List.mem_flatMap.mp hc
  have := k d hd
  cases d with
  | nil => exact this.elim
  | cons p ps => exact this.1.2 c hc
theorem in_R4 {c h : Int} (h0 : 0 ≤ c ∧ c < h) (h4 : h ≤ 4) : c ∈ R4 := by
  have : c = 0 ∨ c = 1 ∨ c = 2 ∨ c = 3 := by omega
  rcases this with rfl | rfl | rfl | rfl <;> decide
theorem some_cons {h : Int} {hs : List Int} {left : List (List (List Int))} (h4 : h ≤ 4) (k : ∀ d ∈ left, GS (h :: hs) d) : someK (h :: hs) left = (ust (heads left)).flatMap fun c => (someK hs (fresh c left)).map (c :: ·) := by
  show (((rng h).flatMap fun c => (teethC hs).map (c :: ·))).filter (fun t => decide (0 < cntD' left t)) = _
  rw [List.filter_flatMap]
  have e : ∀ c, ((teethC hs).map (c :: ·)).filter (fun t => decide (0 < cntD' left t)) = (someK hs (fresh c left)).map (c :: ·) := by
    intro c
    rw [map_filter]
    congr 1
    refine List.filter_congr fun t _ => ?_
    rw [cnt_cons c t left k]
  have hh := heads_in k
  rw [flat_filter (fun c => decide (c ∈ heads left)) _ (fun c hc => by rw [e, fresh_nil (by simpa using hc), some_nil]; rfl)]
  have e2 : (rng h).filter (fun c => decide (c ∈ heads left)) = ust (heads left) := by
    refine sorted_ext ((rng_pw h).filter _) (ust_pw _) fun x => ?_
    rw [List.mem_filter, decide_eq_true_iff, mem_rng, mem_ust fun c hc => in_R4 (hh c hc) h4]
    exact ⟨fun h => h.2, fun k => ⟨hh x k, k⟩⟩
  rw [e2]
  exact flat_congr fun c _ => e c
theorem ix0 {x : PyData} {xs : List PyData} : ixD (.tuple (x :: xs)) (.int 0) = some x := ixD_tup (k := 0) rfl
theorem ix1 {x y : PyData} {xs : List PyData} : ixD (.tuple (x :: y :: xs)) (.int 1) = some y := ixD_tup (k := 1) rfl
/-! the walk's turns -/
noncomputable def fr6 : SE := calE tupOfD (aCons (frzE (lcL (itE (vE 2)) (gN 8) (tstE (op2 inD (vE 5) (op2 ixD (vE 8) (cE (.int 0))))) (slE (vE 8) (someO (cE (.int 1))) noO) [8])) aNil)
noncomputable def bCut : SS := seqS (setS 6 fr6) (seqS (setS 7 (calE (onD φ_how_many_some) (aCons (vE 6) aNil))) (seqS (ifS (tstE (op2 ltD (vE 4) (vE 7))) brkS nxS) (setS 4 (op2 subD (vE 4) (vE 7)))))
theorem fresh_run {A B C D E F G I J : Option Cell} {c : Int} {left : List (List (List Int))} (h : ∀ d ∈ left, d ≠ []) (hl : left.length ≤ 1000) :
    fr6 [A, B, some (.dat (.tuple (left.map dT))), C, D, some (.dat (.int c)), E, F, G, I] = some (.tuple ((fresh c left).map dT)) := by
  have e : (fresh c left).map dT = (left.filter fun d => decide (c ∈ d.headD [])).map fun d => dT d.tail := by unfold fresh; rw [List.map_map] <;> rfl
  rw [e]
  refine tup_lc (xs := left) (enc := dT) (p := fun (d : List (List Int)) => decide (c ∈ d.headD [])) (f := fun d => dT d.tail) rfl (by omega) fun d hd => ?_
  refine ⟨[A, B, some (.dat (.tuple (left.map dT))), C, D, some (.dat (.int c)), E, F, some (.dat (dT d)), I], rfl, tst_runB ?_, fun _ => ?_⟩
  · cases d with
    | nil => exact absurd rfl (h _ hd)
    | cons p ps =>
      rw [op2_run (x := .int c) (y := iT p) rfl ((op2_run (x := dT (p :: ps)) (y := .int 0) rfl rfl).trans ix0)]
      exact inD_tup (pn_int c) (pn_iT p) (by rw [decide_eq_true_iff, mem_iT]; rfl)
  · show some (PyData.tuple (cutD (d.map iT) (some 1) none)) = _
    rw [cut1]
    unfold dT
    rw [← List.map_drop, List.drop_one]
theorem fresh_gs {h : Int} {hs : List Int} {c : Int} {left : List (List (List Int))} (k : ∀ d ∈ left, GS (h :: hs) d ∧ Dk d) : ∀ d ∈ fresh c left, GS hs d ∧ Dk d := by
  intro d hd
  obtain ⟨q, hq, rfl⟩ := List.mem_map.mp hd
  have hq := (List.mem_filter.mp hq).1
  obtain ⟨k1, k2⟩ := k q hq
  cases q with
  | nil => exact k1.elim
  | cons p ps =>
    refine ⟨k1.2, fun x hx => k2.1 x (List.mem_cons_of_mem _ hx), ?_⟩
    have := k2.2
    rw [List.length_cons] at this
    show ps.length ≤ 100
    omega
theorem fresh_len {c : Int} {left : List (List (List Int))} : (fresh c left).length ≤ left.length := by
  unfold fresh
  rw [List.length_map]
  exact List.length_filter_le _ _
theorem cut_loop {D N : Option Cell} {F : List PyData} {h : Int} {hs : List Int} {left : List (List (List Int))} (k : ∀ d ∈ left, GS (h :: hs) d ∧ Dk d) (hl : left.length ≤ 5) : ∀ (cs : List Int) (rest : Int) (a b c d e : Option Cell), 0 ≤ rest → rest < ((cs.flatMap fun c => (someK hs (fresh c left)).map (c :: ·)).length : Int) →
    ∃ (x rest' : Int) (d' : Option Cell), 0 ≤ rest' ∧ rest' < ((someK hs (fresh x left)).length : Int) ∧ (cs.flatMap fun c => (someK hs (fresh c left)).map (c :: ·))[rest.toNat]? = ((someK hs (fresh x left)).map (x :: ·))[rest'.toNat]? ∧
      forR (gN 5) bCut (cs.map .int) [D, N, some (.dat (.tuple (left.map dT))), some (.own F), some (.dat (.int rest)), a, b, c, d, e] = some (.nx [D, N, some (.dat (.tuple (left.map dT))), some (.own F), some (.dat (.int rest')), some (.dat (.int x)), some (.dat (.tuple ((fresh x left).map dT))), d', d, e])
  | [], rest, a, b, c, d, e, h0, h1 => by
    rw [List.flatMap_nil, List.length_nil] at h1
    omega
  | y :: cs, rest, a, b, c, d, e, h0, h1 => by
    have hne : ∀ d ∈ left, d ≠ [] := fun d hd z => by
      have := (k d hd).1
      rw [z] at this
      exact this.elim
    have hf := fresh_gs (c := y) k
    have hfl : (fresh y left).length ≤ 5 := Nat.le_trans fresh_len hl
    have hm : hms (fresh y left) = ((someK hs (fresh y left)).length : Int) := hms_count (fun d hd => (hf d hd).1.gd) hfl
    have s1 : setS 6 fr6 [D, N, some (.dat (.tuple (left.map dT))), some (.own F), some (.dat (.int rest)), some (.dat (.int y)), b, c, d, e] = some (.nx [D, N, some (.dat (.tuple (left.map dT))), some (.own F), some (.dat (.int rest)), some (.dat (.int y)), some (.dat (.tuple ((fresh y left).map dT))), c, d, e]) :=
      setS_run (fresh_run (J := none) hne (by omega))
    have s2 : setS 7 (calE (onD φ_how_many_some) (aCons (vE 6) aNil)) [D, N, some (.dat (.tuple (left.map dT))), some (.own F), some (.dat (.int rest)), some (.dat (.int y)), some (.dat (.tuple ((fresh y left).map dT))), c, d, e] = some (.nx [D, N, some (.dat (.tuple (left.map dT))), some (.own F), some (.dat (.int rest)), some (.dat (.int y)), some (.dat (.tuple ((fresh y left).map dT))), some (.dat (.int (hms (fresh y left)))), d, e]) :=
      setS_run ((cal1_run (d := .tuple ((fresh y left).map dT)) rfl).trans (hms_run (.inr rfl) (fun d hd => (hf d hd).2) (by omega)))
    have ht : tstE (op2 ltD (vE 4) (vE 7)) [D, N, some (.dat (.tuple (left.map dT))), some (.own F), some (.dat (.int rest)), some (.dat (.int y)), some (.dat (.tuple ((fresh y left).map dT))), some (.dat (.int (hms (fresh y left)))), d, e] = some (decide (rest < hms (fresh y left))) := rfl
    rw [List.flatMap_cons, List.length_append, List.length_map] at h1
    rw [List.map_cons, List.flatMap_cons]
    by_cases hr : rest < hms (fresh y left)
    · rw [decide_eq_true hr] at ht
      rw [hm] at hr
      refine ⟨y, rest, _, h0, hr, ?_, for_bk rfl ((seq_nx s1).trans ((seq_nx s2).trans (seq_bk ((ifS_t ht).trans rfl))))⟩
      rw [List.getElem?_append_left (by rw [List.length_map]; omega)]
    · rw [decide_eq_false hr] at ht
      rw [hm] at hr
      obtain ⟨x, rest', d', q0, q1, q2, q3⟩ := cut_loop (D := D) (N := N) (F := F) k hl cs (rest - hms (fresh y left)) (some (.dat (.int y))) (some (.dat (.tuple ((fresh y left).map dT)))) (some (.dat (.int (hms (fresh y left))))) d e (by rw [hm]; omega) (by rw [hm]; omega)
      have s3 : bCut [D, N, some (.dat (.tuple (left.map dT))), some (.own F), some (.dat (.int rest)), some (.dat (.int y)), b, c, d, e] = some (.nx [D, N, some (.dat (.tuple (left.map dT))), some (.own F), some (.dat (.int (rest - hms (fresh y left)))), some (.dat (.int y)), some (.dat (.tuple ((fresh y left).map dT))), some (.dat (.int (hms (fresh y left)))), d, e]) :=
        (seq_nx s1).trans ((seq_nx s2).trans ((seq_nx ((ifS_f ht).trans rfl)).trans (setS_run (d := .int (rest - hms (fresh y left))) rfl)))
      refine ⟨x, rest', d', q0, q1, ?_, for_nx rfl s3 q3⟩
      rw [List.getElem?_append_right (by rw [List.length_map]; omega), List.length_map, ← q2]
      congr 1
      rw [hm]
      omega
noncomputable def cu5 : SE := calE (onD φ_set_of) (aCons (frzE (lcL2 (itE (vE 2)) (gN 8) yesT (itE (op2 ixD (vE 8) (cE (.int 0)))) (gN 9) yesT (vE 9) [8, 9] [9])) aNil)
theorem cuts_run {A B C D E F G I J : Option Cell} {h : Int} {hs : List Int} {left : List (List (List Int))} (h4 : h ≤ 4) (k : ∀ d ∈ left, GS (h :: hs) d) (hl : left.length ≤ 5) :
    cu5 [A, B, some (.dat (.tuple (left.map dT))), C, D, E, F, G, I, J] = some (iT (ust (heads left))) := by
  have hp : ∀ d ∈ left, (d.headD []).length ≤ 4 := by
    intro d hd
    have := k d hd
    cases d with
    | nil => exact this.elim
    | cons p ps =>
      have e := rng_filter this.1.1 this.1.2
      have h1 : ((rng h).filter fun c => decide (c ∈ p)).length ≤ (rng h).length := List.length_filter_le _ _
      rw [e] at h1
      have h2 : (rng h).length = h.toNat := by unfold rng; simp
      show p.length ≤ 4
      omega
  have hlen : (heads left).length ≤ left.length * 4 := flat_len _ 4 left hp
  have e : lcL2 (itE (vE 2)) (gN 8) yesT (itE (op2 ixD (vE 8) (cE (.int 0)))) (gN 9) yesT (vE 9) [8, 9] [9] [A, B, some (.dat (.tuple (left.map dT))), C, D, E, F, G, I, J] = some ((heads left).map .int) := by
    have e1 : (left.flatMap fun d => ((d.headD []).filter fun _ => true).map PyData.int) = (heads left).map .int := by
      unfold heads
      rw [List.map_flatMap]
      refine flat_congr fun d _ => ?_
      rw [List.filter_eq_self.mpr fun _ _ => rfl]
    rw [← e1]
    refine lc2_run (xs := left) (enc := dT) (enc1 := .int) (ys := fun d => d.headD []) (p := fun _ _ => true) (f := fun _ c => .int c) rfl (by omega) (by rw [e1, List.length_map]; omega) fun d hd => ?_
    refine ⟨[A, B, some (.dat (.tuple (left.map dT))), C, D, E, F, G, some (.dat (dT d)), none], rfl, ?_, by have := hp d hd; omega, fun y _ => ⟨_, rfl, rfl, fun _ => rfl⟩⟩
    cases d with
    | nil => exact (k _ hd).elim
    | cons p ps => exact itE_tup ((op2_run (x := dT (p :: ps)) (y := .int 0) rfl rfl).trans ix0)
  exact (cal1_run (frzE_run e)).trans (set_of_ints (fun c hc => in_R4 (heads_in k c hc) h4) (by omega) rfl)
noncomputable def bWh : SS := seqS (forS (itE cu5) (gN 5) bCut) (seqS (appS 3 (vE 5)) (setS 2 (vE 6)))
def tWh : ST := tstE (op2 gtD (calE lenD (aCons (op2 ixD (vE 2) (cE (.int 0))) aNil)) (cE (.int 0)))
theorem wh_t {t : ST} {b : SS} {n : Nat} {ρ ρ2 : Rho} {r : Option Res} (ht : t ρ = some true) (hb : b ρ = some (.nx ρ2)) (hr : whR t b n ρ2 = r) : whR t b (n + 1) ρ = r := by
  unfold whR
  rw [ht]
  show (b ρ).bind _ = _
  rw [hb]
  exact hr
theorem wh_f {t : ST} {b : SS} {n : Nat} {ρ : Rho} (ht : t ρ = some false) : whR t b (n + 1) ρ = some (.nx ρ) := by
  unfold whR
  rw [ht]
  rfl
theorem tWh_run {A B C D E F G I J : Option Cell} {d0 : List (List Int)} {left : List (List (List Int))} : tWh [A, B, some (.dat (.tuple ((d0 :: left).map dT))), C, D, E, F, G, I, J] = some (decide (0 < d0.length)) := by
  have e : op2 ixD (vE 2) (cE (.int 0)) [A, B, some (.dat (.tuple ((d0 :: left).map dT))), C, D, E, F, G, I, J] = some (dT d0) := (op2_run (x := .tuple ((d0 :: left).map dT)) (y := .int 0) rfl rfl).trans ix0
  have e2 : calE lenD (aCons (op2 ixD (vE 2) (cE (.int 0))) aNil) [A, B, some (.dat (.tuple ((d0 :: left).map dT))), C, D, E, F, G, I, J] = some (.int (d0.length : Int)) := by
    rw [cal1_run e]
    show some (PyData.int ((d0.map iT).length : Int)) = _
    rw [List.length_map]
  refine (tst_runB (b := decide ((0 : Int) < (d0.length : Int))) ((op2_run (h := gtD) (y := .int 0) e2 rfl).trans rfl)).trans ?_
  congr 1
  exact decide_eq_decide.mpr (by omega)
theorem while_loop {D N : Option Cell} : ∀ (hs : List Int) (left : List (List (List Int))) (n : Nat) (rest : Int) (F : List PyData) (a b c d e : Option Cell), hs.length + 1 ≤ n → (∀ h ∈ hs, h ≤ 4) → (∀ d ∈ left, GS hs d ∧ Dk d) → left.length ≤ 5 → 0 ≤ rest → rest < ((someK hs left).length : Int) → F.length + hs.length ≤ 100 →
    ∃ (key : List Int) (L r a' b' c' : Option Cell), (someK hs left)[rest.toNat]? = some key ∧ whR tWh bWh n [D, N, some (.dat (.tuple (left.map dT))), some (.own F), some (.dat (.int rest)), a, b, c, d, e] = some (.nx [D, N, L, some (.own (F ++ key.map .int)), r, a', b', c', d, e])
  | hs, [], n, rest, F, a, b, c, d, e, _, _, _, _, h0, h1, _ => by
    rw [some_nil, List.length_nil] at h1
    omega
  | [], d0 :: left, 0, rest, F, a, b, c, d, e, h, _, _, _, _, _, _ => by cases h
  | [], d0 :: left, n + 1, rest, F, a, b, c, d, e, _, _, k, hl, h0, h1, _ => by
    have hd : d0 = [] := by
      have := (k d0 List.mem_cons_self).1
      cases d0 with
      | nil => rfl
      | cons _ _ => exact this.elim
    have hs1 : someK [] (d0 :: left) = [[]] := by
      unfold someK
      have : decide (0 < cntD' (d0 :: left) []) = true := by
        rw [decide_eq_true_iff]
        unfold cntD'
        rw [hd, List.filter_cons_of_pos (p := fun d => opensB d []) rfl, List.length_cons]
        omega
      show ([[]] : List (List Int)).filter _ = _
      rw [List.filter_cons_of_pos (by simpa using this)]
      rfl
    rw [hs1] at h1 ⊢
    have hr : rest = 0 := by
      have : (([[]] : List (List Int)).length : Int) = 1 := rfl
      omega
    subst hr
    refine ⟨[], some (.dat (.tuple ((d0 :: left).map dT))), some (.dat (.int 0)), a, b, c, rfl, ?_⟩
    rw [List.map_nil, List.append_nil]
    exact wh_f (by rw [tWh_run, hd]; rfl)
  | h :: hs, d0 :: left, 0, rest, F, a, b, c, d, e, hn, _, _, _, _, _, _ => by cases hn
  | h :: hs, d0 :: left, n + 1, rest, F, a, b, c, d, e, hn, hh, k, hl, h0, h1, hF => by
    have h4 := hh h List.mem_cons_self
    have k1 : ∀ d ∈ d0 :: left, GS (h :: hs) d := fun d hd => (k d hd).1
    rw [some_cons h4 k1] at h1 ⊢
    obtain ⟨x, rest', d', q0, q1, q2, q3⟩ := cut_loop (D := D) (N := N) (F := F) k hl (ust (heads (d0 :: left))) rest a b c d e h0 h1
    rw [List.length_cons] at hn hF
    obtain ⟨key, L, r, a', b', c', r1, r2⟩ := while_loop hs (fresh x (d0 :: left)) n rest' (F ++ [.int x]) (some (.dat (.int x))) (some (.dat (.tuple ((fresh x (d0 :: left)).map dT)))) d' d e (by omega) (fun y hy => hh y (List.mem_cons_of_mem _ hy)) (fresh_gs k) (Nat.le_trans fresh_len hl) q0 q1 (by rw [List.length_append, List.length_singleton]; omega)
    refine ⟨x :: key, L, r, a', b', c', ?_, ?_⟩
    · rw [q2, List.getElem?_map, r1] <;> rfl
    · rw [List.append_assoc] at r2
      refine wh_t ?_ ?_ r2
      · rw [tWh_run]
        have := (k d0 List.mem_cons_self).1.gd.len
        rw [decide_eq_true (by rw [this, List.length_cons]; omega)]
      · refine (seq_nx ((forS_run (itE_tup (cuts_run h4 k1 hl))).trans q3)).trans ?_
        exact (seq_nx (app_run (d := .int x) rfl rfl (by omega))).trans (setS_run rfl)
theorem nth_some_run {hs : List Int} {Dd : PyData} {left : List (List (List Int))} (hD : Doors Dd left) (hh : ∀ h ∈ hs, h ≤ 4) (h5 : hs.length ≤ 5) (k : ∀ d ∈ left, GS hs d ∧ Dk d) (hl : left.length ≤ 5) {n : Nat} (hn : n < (someK hs left).length) :
    ∃ key, (someK hs left)[n]? = some key ∧ onD φ_nth_of_some [Dd, .int (n : Int)] = some (iT key) := by
  have hm : hms left = ((someK hs left).length : Int) := hms_count (fun d hd => (k d hd).1.gd) hl
  obtain ⟨key, L, r, a', b', c', r1, r2⟩ := while_loop (D := some (.dat Dd)) (N := some (.dat (.int (n : Int)))) hs left 6 (n : Int) [] none none none none none (by omega) hh k hl (by omega) (by omega) (by rw [List.length_nil]; omega)
  refine ⟨key, by simpa using r1, ?_⟩
  show runC 10 2 F_nth_of_some [.dat Dd, .dat (.int (n : Int))] = _
  refine run_ret rfl ?_
  refine (seq_nx (setS_run ((cal1_run (d := Dd) rfl).trans (tu_doors hD (fun d hd => (k d hd).2) (by omega))))).trans ?_
  have hc : tstE (chE leD ltD (cE (.int 0)) (vE 1) (calE (onD φ_how_many_some) (aCons (vE 2) aNil))) [some (.dat Dd), some (.dat (.int (n : Int))), some (.dat (.tuple (left.map dT))), none, none, none, none, none, none, none] = some true := by
    have e1 : calE (onD φ_how_many_some) (aCons (vE 2) aNil) [some (.dat Dd), some (.dat (.int (n : Int))), some (.dat (.tuple (left.map dT))), none, none, none, none, none, none, none] = some (.int (hms left)) := (cal1_run (d := .tuple (left.map dT)) rfl).trans (hms_run (.inr rfl) (fun d hd => (k d hd).2) (by omega))
    refine tst_runB ?_
    unfold chE
    show ((some (decide ((0 : Int) ≤ (n : Int)))).bind fun b => if b = true then (calE (onD φ_how_many_some) (aCons (vE 2) aNil) [some (.dat Dd), some (.dat (.int (n : Int))), some (.dat (.tuple (left.map dT))), none, none, none, none, none, none, none]).bind fun w => ltD (.int (n : Int)) w else some (.bool false)) = _
    rw [e1, decide_eq_true (by omega)]
    show some (PyData.bool (decide ((n : Int) < hms left))) = _
    rw [decide_eq_true (by omega)]
  refine (seq_nx ((ifS_f (notT_run hc)).trans rfl)).trans ?_
  have hp : parO 3 4 (lstL aNil) (vE 1) [some (.dat Dd), some (.dat (.int (n : Int))), some (.dat (.tuple (left.map dT))), none, none, none, none, none, none, none] = some (.nx [some (.dat Dd), some (.dat (.int (n : Int))), some (.dat (.tuple (left.map dT))), some (.own []), some (.dat (.int (n : Int))), none, none, none, none, none]) := rfl
  refine (seq_nx hp).trans ((seq_nx (show whS 6 tWh bWh _ = _ from r2)).trans ?_)
  exact frz_run rfl (retS_run rfl)
end U
set_option maxHeartbeats 4000000
/-! M11: lets, rooms, teeth, same. -/
namespace U
open PySem PySem.Spec PyProof.Rows L2
theorem pn_nilL : Pn (.list []) := pn_mk rfl (by simp [PyData.depth, PyData.depthAll]) rfl
def kT (ch : List (List Int)) : PyData := .tuple (ch.map iT)
theorem enum_ints (l : List Int) : enumOf (l.map .int) = (List.range l.length).map fun k => .tuple [.int (k : Nat), .int (l.getD k 0)] := by
  unfold enumOf
  apply List.ext_getElem
  · simp
  · intro i h1 h2
    simp at h1
    simp [List.getD_eq_getElem?_getD, h1]
theorem ix_iT {t : List Int} {k : Nat} (h : k < t.length) : ixD (iT t) (.int (k : Nat)) = some (.int (t.getD k 0)) := by
  refine ixD_tup ?_
  rw [List.getElem?_map, List.getElem?_eq_getElem h, List.getD_eq_getElem?_getD, List.getElem?_eq_getElem h] <;> rfl
def letsB (n : Nat) (ch : List (List Int)) (one two : List Int) : Bool := (List.range n).all fun k => decide (one.getD k 0 ∈ colI ch k) || decide (one.getD k 0 = two.getD k 0)
def starsK (n : Nat) (ch : List (List Int)) (t : List Int) : List Nat := (List.range n).filter fun k => decide (t.getD k 0 ∉ colI ch k)
theorem stars_run {n : Nat} {ch : List (List Int)} {t : List Int} (hn : n ≤ 100) (hc : ∀ m ∈ ch, m.length = n) (hl : ch.length ≤ 1000) (ht : t.length = n) :
    onD φ_L_stars [kT ch, iT t] = some (.list ((starsK n ch t).map fun k => .tuple [.int (k : Nat), .int (t.getD k 0)])) := by
  show runC 5 2 F_L_stars [.dat (kT ch), .dat (iT t)] = _
  refine run_ret rfl (retS_run (frzE_run ?_))
  refine lc_run (xs := List.range n) (enc := fun k => .tuple [.int (k : Nat), .int (t.getD k 0)]) (p := fun k => decide (t.getD k 0 ∉ colI ch k)) (f := fun k => .tuple [.int (k : Nat), .int (t.getD k 0)]) ?_ (by rw [List.length_range]; omega) ?_
  · show some (enumOf (t.map .int)) = _
    rw [enum_ints, ht]
  · intro k hk
    rw [List.mem_range] at hk
    refine ⟨[some (.dat (kT ch)), some (.dat (iT t)), some (.dat (.int (k : Nat))), some (.dat (.int (t.getD k 0))), none], rfl, ?_, fun _ => rfl⟩
    have e1 : frzE (lcL (itE (vE 0)) (gN 4) (tstE (op2 eqD (op2 ixD (vE 4) (vE 2)) (vE 3))) (vE 4) [4]) [some (.dat (kT ch)), some (.dat (iT t)), some (.dat (.int (k : Nat))), some (.dat (.int (t.getD k 0))), none] = some (.list ((ch.filter fun m => decide (m.getD k 0 = t.getD k 0)).map iT)) := by
      refine frzE_run (lc_run (xs := ch) (enc := iT) (p := fun m => decide (m.getD k 0 = t.getD k 0)) (f := iT) rfl (by omega) fun m hm => ?_)
      refine ⟨[some (.dat (kT ch)), some (.dat (iT t)), some (.dat (.int (k : Nat))), some (.dat (.int (t.getD k 0))), some (.dat (iT m))], rfl, tst_runB ?_, fun _ => rfl⟩
      rw [op2_run (x := .int (m.getD k 0)) (y := .int (t.getD k 0)) ((op2_run (x := iT m) (y := .int (k : Nat)) rfl rfl).trans (ix_iT (by rw [hc m hm]; exact hk))) rfl]
      exact eqD_int _ _
    refine tst_runB ?_
    rw [op2_run (y := .list []) e1 rfl]
    refine eqD_run ((pnn_lst fun d hd => ?_).pn (n := 2) (by decide)) pn_nilL ?_
    · obtain ⟨m, _, rfl⟩ := List.mem_map.mp hd
      exact pnn_iT m
    · rw [decide_eq_true_iff]
      have : (PyData.list ((ch.filter fun m => decide (m.getD k 0 = t.getD k 0)).map iT) = .list []) ↔ ch.filter (fun m => decide (m.getD k 0 = t.getD k 0)) = [] := by
        constructor
        · intro h
          injection h with h
          exact List.map_eq_nil_iff.mp h
        · intro h; rw [h]; rfl
      rw [this, List.filter_eq_nil_iff]
      constructor
      · intro h m hm hd
        rw [decide_eq_true_iff] at hd
        exact h (List.mem_map.mpr ⟨m, hm, hd⟩)
      · intro h hc'
        obtain ⟨m, hm, e⟩ := List.mem_map.mp hc'
        exact h m hm (by rw [decide_eq_true_iff]; exact e)
theorem lets_iff {n : Nat} {ch : List (List Int)} {one two : List Int} : letsB n ch one two = true ↔ (starsK n ch one).filter (fun k => decide (two.getD k 0 ≠ one.getD k 0)) = [] := by
  unfold letsB starsK
  rw [List.all_eq_true, List.filter_eq_nil_iff]
  constructor
  · intro h k hk hd
    obtain ⟨h1, h2⟩ := List.mem_filter.mp hk
    rw [decide_eq_true_iff] at hd h2
    have := h k h1
    rw [Bool.or_eq_true, decide_eq_true_iff, decide_eq_true_iff] at this
    rcases this with z | z
    · exact h2 z
    · exact hd z.symm
  · intro h k hk
    rw [Bool.or_eq_true, decide_eq_true_iff, decide_eq_true_iff]
    by_cases c : one.getD k 0 ∈ colI ch k
    · exact .inl c
    · refine .inr ?_
      have := h k (List.mem_filter.mpr ⟨hk, by rw [decide_eq_true_iff]; exact c⟩)
      rw [decide_eq_true_iff] at this
      exact (Decidable.not_not.mp this).symm
theorem lets_run {n : Nat} {ch : List (List Int)} {one two : List Int} (hn : n ≤ 100) (hc : ∀ m ∈ ch, m.length = n) (hl : ch.length ≤ 1000) (h1 : one.length = n) (h2 : two.length = n) :
    onD φ_L_lets [kT ch, iT one, iT two] = some (.bool (letsB n ch one two)) := by
  show runC 4 3 F_L_lets [.dat (kT ch), .dat (iT one), .dat (iT two)] = _
  refine run_ret rfl (retS_run ?_)
  have hsl : (starsK n ch one).length ≤ 100000 := by
    have := List.length_filter_le (fun k => decide (one.getD k 0 ∉ colI ch k)) (List.range n)
    rw [List.length_range] at this
    unfold starsK
    omega
  have e1 : frzE (lcL (itE (calE (onD φ_L_stars) (aCons (vE 0) (aCons (vE 1) aNil)))) (gN 3) (tstE (op2 neD (op2 ixD (vE 2) (op2 ixD (vE 3) (cE (.int 0)))) (op2 ixD (vE 3) (cE (.int 1))))) (vE 3) [3]) [some (.dat (kT ch)), some (.dat (iT one)), some (.dat (iT two)), none] = some (.list (((starsK n ch one).filter fun k => decide (two.getD k 0 ≠ one.getD k 0)).map fun k => .tuple [.int (k : Nat), .int (one.getD k 0)])) := by
    refine frzE_run (lc_run (xs := starsK n ch one) (enc := fun k => .tuple [.int (k : Nat), .int (one.getD k 0)]) (p := fun k => decide (two.getD k 0 ≠ one.getD k 0)) (f := fun k => .tuple [.int (k : Nat), .int (one.getD k 0)]) ?_ hsl fun k hk => ?_)
    · exact itE_lst ((calE_run (ds := [kT ch, iT one]) rfl).trans (stars_run hn hc hl h1))
    · have hk2 : k < n := by
        have := (List.mem_filter.mp hk).1
        rwa [List.mem_range] at this
      refine ⟨[some (.dat (kT ch)), some (.dat (iT one)), some (.dat (iT two)), some (.dat (.tuple [.int (k : Nat), .int (one.getD k 0)]))], rfl, tst_runB ?_, fun _ => rfl⟩
      have a1 := (op2_run (h := ixD) (f := vE 3) (g := cE (.int 0)) (ρ := [some (.dat (kT ch)), some (.dat (iT one)), some (.dat (iT two)), some (.dat (.tuple [.int (k : Nat), .int (one.getD k 0)]))]) (x := .tuple [.int (k : Nat), .int (one.getD k 0)]) (y := .int 0) rfl rfl).trans ix0
      have a2 := (op2_run (h := ixD) (f := vE 3) (g := cE (.int 1)) (ρ := [some (.dat (kT ch)), some (.dat (iT one)), some (.dat (iT two)), some (.dat (.tuple [.int (k : Nat), .int (one.getD k 0)]))]) (x := .tuple [.int (k : Nat), .int (one.getD k 0)]) (y := .int 1) rfl rfl).trans ix1
      rw [op2_run ((op2_run (x := iT two) rfl a1).trans (ix_iT (by rw [h2]; exact hk2))) a2]
      exact neD_int _ _
  refine (op2_run (y := .list []) e1 rfl).trans ?_
  refine eqD_run ((pnn_lst fun d hd => ?_).pn (n := 2) (by decide)) pn_nilL ?_
  · obtain ⟨m, _, rfl⟩ := List.mem_map.mp hd
    exact pnn_tup fun d hd => by
      simp only [List.mem_cons, List.not_mem_nil, or_false] at hd
      rcases hd with rfl | rfl <;> exact pnn_int _
  · rw [lets_iff]
    constructor
    · intro h; rw [h]; rfl
    · intro h
      injection h with h
      exact List.map_eq_nil_iff.mp h
/-! rooms -/
theorem free_run {n : Nat} {ch : List (List Int)} {t : List Int} {k : Nat} (hc : ∀ m ∈ ch, m.length = n) (hl : ch.length ≤ 1000) (ht : t.length = n) (hk : k < n) : onD φ_is_free [kT ch, iT t, .int (k : Nat)] = some (.bool (decide (t.getD k 0 ∉ colI ch k))) := by
  show runC 4 3 F_is_free [.dat (kT ch), .dat (iT t), .dat (.int (k : Nat))] = _
  have e : decide (t.getD k 0 ∉ colI ch k) = ch.all fun m => decide (m.getD k 0 ≠ t.getD k 0) := by
    rw [Bool.eq_iff_iff, decide_eq_true_iff, List.all_eq_true]
    constructor
    · intro h m hm
      rw [decide_eq_true_iff]
      exact fun e => h (List.mem_map.mpr ⟨m, hm, e⟩)
    · intro h hd
      obtain ⟨m, hm, e⟩ := List.mem_map.mp hd
      have := h m hm
      rw [decide_eq_true_iff] at this
      exact this e
  rw [e]
  refine run_ret rfl (retS_run (all_lc (xs := ch) (enc := iT) rfl (by omega) ?_))
  intro m hm
  refine ⟨[some (.dat (kT ch)), some (.dat (iT t)), some (.dat (.int (k : Nat))), some (.dat (iT m))], rfl, ?_⟩
  rw [op2_run ((op2_run (x := iT m) (y := .int (k : Nat)) rfl rfl).trans (ix_iT (by rw [hc m hm]; exact hk))) ((op2_run (x := iT t) (y := .int (k : Nat)) rfl rfl).trans (ix_iT (by rw [ht]; exact hk)))]
  exact neD_int _ _
theorem free_pins_run {n : Nat} {ch : List (List Int)} {t : List Int} (hn : n ≤ 100) (hc : ∀ m ∈ ch, m.length = n) (hl : ch.length ≤ 1000) (ht : t.length = n) : onD φ_free_pins [kT ch, iT t] = some (.tuple ((starsK n ch t).map fun k => .int (k : Nat))) := by
  show runC 3 2 F_free_pins [.dat (kT ch), .dat (iT t)] = _
  refine run_ret rfl (retS_run (tup_lc (xs := List.range n) (enc := fun k => .int (k : Nat)) (p := fun k => decide (t.getD k 0 ∉ colI ch k)) (f := fun k => .int (k : Nat)) ?_ (by rw [List.length_range]; omega) fun k hk => ?_))
  · unfold rngL
    rw [cal1_run (f := vE 1) (d := iT t) rfl]
    show (if -100000 ≤ ((t.map PyData.int).length : Int) ∧ ((t.map PyData.int).length : Int) ≤ 100000 then some (rangeOf ((t.map PyData.int).length : Int)) else none) = _
    rw [List.length_map, ht, if_pos (by omega)]
    unfold rangeOf
    rw [Int.toNat_natCast]
  · rw [List.mem_range] at hk
    refine ⟨[some (.dat (kT ch)), some (.dat (iT t)), some (.dat (.int (k : Nat)))], rfl, tst_runB ?_, fun _ => rfl⟩
    exact (calE_run (ds := [kT ch, iT t, .int (k : Nat)]) rfl).trans (free_run hc hl ht hk)
theorem bar_loop {A B C : Option Cell} {one two : List Int} (hA : B = some (.dat (iT one)) ∧ C = some (.dat (iT two))) : ∀ (ks : List Nat) (o : Option Cell), (∀ k ∈ ks, k < one.length ∧ k < two.length) →
    ∃ r, forR (gN 3) (ifS (tstE (op2 neD (op2 ixD (vE 1) (vE 3)) (op2 ixD (vE 2) (vE 3)))) (retS (vE 3)) nxS) (ks.map fun k => .int (k : Nat)) [A, B, C, o] = some r ∧
      (if ks.filter (fun k => decide (two.getD k 0 ≠ one.getD k 0)) = [] then ∃ o', r = .nx [A, B, C, o'] else ∃ i : Int, r = .rt (.int i))
  | [], o, _ => ⟨_, rfl, by rw [List.filter_nil, if_pos rfl]; exact ⟨o, rfl⟩⟩
  | k :: ks, o, h => by
    obtain ⟨k1, k2⟩ := h k List.mem_cons_self
    obtain ⟨rfl, rfl⟩ := hA
    have ht : tstE (op2 neD (op2 ixD (vE 1) (vE 3)) (op2 ixD (vE 2) (vE 3))) [A, some (.dat (iT one)), some (.dat (iT two)), some (.dat (.int (k : Nat)))] = some (decide (one.getD k 0 ≠ two.getD k 0)) := by
      refine tst_runB ?_
      rw [op2_run ((op2_run (x := iT one) (y := .int (k : Nat)) rfl rfl).trans (ix_iT k1)) ((op2_run (x := iT two) (y := .int (k : Nat)) rfl rfl).trans (ix_iT k2))]
      exact neD_int _ _
    by_cases c : one.getD k 0 ≠ two.getD k 0
    · rw [decide_eq_true c] at ht
      refine ⟨_, for_rt rfl ((ifS_t ht).trans rfl), ?_⟩
      rw [List.filter_cons_of_pos (by rw [decide_eq_true_iff]; exact fun e => c e.symm), if_neg (by simp)]
      exact ⟨k, rfl⟩
    · rw [decide_eq_false c] at ht
      obtain ⟨r, r1, r2⟩ := bar_loop (A := A) (one := one) (two := two) ⟨rfl, rfl⟩ ks (some (.dat (.int (k : Nat)))) fun x hx => h x (List.mem_cons_of_mem _ hx)
      refine ⟨r, for_nx rfl ((ifS_f ht).trans rfl) r1, ?_⟩
      rw [List.filter_cons_of_neg (by rw [decide_eq_true_iff]; exact fun e => c fun z => e z.symm)]
      exact r2
theorem opens_room_run {n : Nat} {ch : List (List Int)} {one two : List Int} (hn : n ≤ 100) (hc : ∀ m ∈ ch, m.length = n) (hl : ch.length ≤ 1000) (h1 : one.length = n) (h2 : two.length = n) :
    onD φ_opens_room [kT ch, iT one, iT two] = some (.bool (letsB n ch one two)) := by
  have hk : ∀ k ∈ starsK n ch one, k < one.length ∧ k < two.length := fun k hk => by
    have := (List.mem_filter.mp hk).1
    rw [List.mem_range] at this
    omega
  obtain ⟨r, r1, r2⟩ := bar_loop (A := some (.dat (kT ch))) (one := one) (two := two) ⟨rfl, rfl⟩ (starsK n ch one) none hk
  have eit : itE (calE (onD φ_free_pins) (aCons (vE 0) (aCons (vE 1) aNil))) [some (.dat (kT ch)), some (.dat (iT one)), some (.dat (iT two)), none] = some ((starsK n ch one).map fun k => .int (k : Nat)) :=
    itE_tup ((calE_run (ds := [kT ch, iT one]) rfl).trans (free_pins_run hn hc hl h1))
  have e : ∃ d, onD φ_barring_pin [kT ch, iT one, iT two] = some d ∧ isNoneD d = letsB n ch one two := by
    by_cases c : letsB n ch one two = true
    · rw [if_pos (lets_iff.mp c)] at r2
      obtain ⟨o', rfl⟩ := r2
      refine ⟨.none, ?_, by rw [c]; rfl⟩
      show runC 4 3 F_barring_pin [.dat (kT ch), .dat (iT one), .dat (iT two)] = _
      exact run_ret rfl ((seq_nx ((forS_run eit).trans r1)).trans rfl)
    · rw [if_neg fun z => c (lets_iff.mpr z)] at r2
      obtain ⟨i, rfl⟩ := r2
      refine ⟨.int i, ?_, by rw [Bool.not_eq_true] at c; rw [c]; rfl⟩
      show runC 4 3 F_barring_pin [.dat (kT ch), .dat (iT one), .dat (iT two)] = _
      exact run_ret rfl (seq_rt ((forS_run eit).trans r1))
  obtain ⟨d, d1, d2⟩ := e
  show runC 3 3 F_opens_room [.dat (kT ch), .dat (iT one), .dat (iT two)] = _
  refine run_ret rfl (retS_run ?_)
  rw [op2_run (x := d) (y := .none) ((calE_run (ds := [kT ch, iT one, iT two]) rfl).trans d1) rfl, ← d2]
  rfl
/-! doors for a room -/
theorem opens_all : ∀ (g : Nat → List Int) (t : List Int) (s : Nat), opensB ((List.range t.length).map fun i => g (s + i)) t = (List.range t.length).all fun k => decide (t.getD k 0 ∈ g (s + k))
  | g, [], s => rfl
  | g, c :: cs, s => by
    have ih := opens_all g cs (s + 1)
    rw [List.length_cons, List.range_succ_eq_map, List.map_cons, List.map_map]
    show (decide (c ∈ g (s + 0)) && opensB ((List.range cs.length).map fun i => g (s + (i + 1))) cs) = _
    rw [List.all_cons, List.all_map]
    have e : (fun i => g (s + (i + 1))) = fun i => g (s + 1 + i) := by
      funext i; congr 1; omega
    rw [e, ih]
    congr 1
    congr 1
    funext k
    show decide (cs.getD k 0 ∈ g (s + 1 + k)) = decide ((c :: cs).getD (k + 1) 0 ∈ g (s + (k + 1)))
    rw [show s + 1 + k = s + (k + 1) from by omega]
    rfl
theorem opens_door {n : Nat} {keys : List (List Int)} {t : List Int} (hk : ∀ k ∈ keys, KOk n k) (ht : t.length = n) : opensB (doorOf n keys) t = (List.range n).all fun k => decide (t.getD k 0 ∈ colI keys k) := by
  have := opens_all (fun i => ust (colI keys i)) t 0
  rw [ht] at this
  simp only [Nat.zero_add] at this
  show opensB ((List.range n).map fun i => ust (colI keys i)) t = _
  rw [this, Bool.eq_iff_iff, List.all_eq_true, List.all_eq_true]
  refine forall_congr' fun k => ?_
  refine imp_congr_right fun hk2 => ?_
  rw [List.mem_range] at hk2
  rw [decide_eq_true_iff, decide_eq_true_iff, mem_ust (colI_R4 hk hk2)]
theorem opens_lets {n : Nat} {ch : List (List Int)} {one two : List Int} (hc : ∀ k ∈ ch, KOk n k) (h1 : one.length = n) (h2 : KOk n two) : opensB (doorOf n (ch ++ [two])) one = letsB n ch one two := by
  rw [opens_door (fun k hk => by
    rcases List.mem_append.mp hk with hk | hk
    · exact hc k hk
    · rw [List.mem_singleton] at hk; rw [hk]; exact h2) h1]
  unfold letsB
  congr 1
  funext k
  have : colI (ch ++ [two]) k = colI ch k ++ [two.getD k 0] := by unfold colI; rw [List.map_append] <;> rfl
  rw [this, Bool.eq_iff_iff, decide_eq_true_iff, List.mem_append, List.mem_singleton, Bool.or_eq_true, decide_eq_true_iff, decide_eq_true_iff]
theorem doorOf_congr {n : Nat} {a b : List (List Int)} (h : ∀ r, r ∈ a ↔ r ∈ b) : doorOf n a = doorOf n b := by
  unfold doorOf
  refine List.map_congr_left fun i _ => ?_
  unfold ust
  refine List.filter_congr fun c _ => ?_
  refine decide_eq_decide.mpr ?_
  unfold colI
  rw [List.mem_map, List.mem_map]
  exact exists_congr fun r => and_congr_left' (h r)
end U
set_option maxHeartbeats 4000000
/-! M12: teeth, same, keys. -/
namespace U
open PySem PySem.Spec PyProof.Rows L2
/-! ### teeth -/
def ext (h : Int) (t : List Int) : List (List Int) := (rng h).map fun c => t ++ [c]
def bT1 : SS := setS 3 (op2 addD (vE 3) (frzE (lcL (rngL (vE 2)) (gN 5) yesT (op2 addD (vE 4) (tupE (aCons (vE 5) aNil))) [5])))
theorem rng_data (h : Int) : rangeOf h = (rng h).map .int := by unfold rangeOf rng; rw [List.map_map] <;> rfl
theorem rng_len (h : Int) : (rng h).length = h.toNat := by unfold rng; simp
theorem addD_tup {xs ys : List PyData} (h : xs.length + ys.length ≤ 100000) : addD (.tuple xs) (.tuple ys) = some (.tuple (xs ++ ys)) := by
  show (if xs.length + ys.length ≤ 100000 then some (PyData.tuple (xs ++ ys)) else none) = _
  rw [if_pos h]
theorem teeth_in {D F : Option Cell} {h : Int} (h0 : 0 ≤ h) (h4 : h ≤ 4) : ∀ (ts rows : List (List Int)) (a b : Option Cell), (∀ t ∈ ts, t.length ≤ 100) → rows.length + ts.length * 4 ≤ 10000 →
    ∃ a', forR (gN 4) bT1 (ts.map iT) [D, F, some (.dat (.int h)), some (.dat (.list (rows.map iT))), a, b] = some (.nx [D, F, some (.dat (.int h)), some (.dat (.list ((rows ++ ts.flatMap (ext h)).map iT))), a', b])
  | [], rows, a, b, _, _ => ⟨a, by rw [List.flatMap_nil, List.append_nil]; rfl⟩
  | t :: ts, rows, a, b, ht, hl => by
    rw [List.length_cons] at hl
    have hx : (ext h t).length ≤ 4 := by unfold ext; rw [List.length_map, rng_len]; omega
    obtain ⟨a', ih⟩ := teeth_in (D := D) (F := F) h0 h4 ts (rows ++ ext h t) (some (.dat (iT t))) b (fun x hx => ht x (List.mem_cons_of_mem _ hx)) (by rw [List.length_append]; omega)
    refine ⟨a', ?_⟩
    rw [List.flatMap_cons, ← List.append_assoc]
    refine for_nx rfl ?_ ih
    have e1 : frzE (lcL (rngL (vE 2)) (gN 5) yesT (op2 addD (vE 4) (tupE (aCons (vE 5) aNil))) [5]) [D, F, some (.dat (.int h)), some (.dat (.list (rows.map iT))), some (.dat (iT t)), b] = some (.list ((ext h t).map iT)) := by
      have e : (ext h t).map iT = (rng h).map fun c => iT (t ++ [c]) := by unfold ext; rw [List.map_map] <;> rfl
      rw [e]
      refine frzE_run (lc_runM (xs := rng h) (enc := .int) (f := fun c => iT (t ++ [c])) ?_ (by rw [rng_len]; omega) fun c _ => ?_)
      · show (if -100000 ≤ h ∧ h ≤ 100000 then some (rangeOf h) else none) = _
        rw [if_pos (by omega), rng_data]
      · refine ⟨[D, F, some (.dat (.int h)), some (.dat (.list (rows.map iT))), some (.dat (iT t)), some (.dat (.int c))], rfl, ?_⟩
        rw [op2_run (x := iT t) (y := iT [c]) rfl (tupE_run (ds := [.int c]) rfl (by simp))]
        show addD (.tuple (t.map .int)) (.tuple ([c].map .int)) = _
        rw [addD_tup (by have := ht t List.mem_cons_self; simp only [List.length_map, List.length_singleton]; omega), ← List.map_append]
        rfl
    refine (setS_run (d := .list ((rows ++ ext h t).map iT)) ((op2_run (x := .list (rows.map iT)) rfl e1).trans ?_)).trans rfl
    rw [addD_lst (by simp only [List.length_map]; omega), List.map_append]
noncomputable def bT2 : SS := seqS (setS 3 (frzE (lstL aNil))) (seqS (forS (itE (vE 1)) (gN 4) bT1) (setS 1 (vE 3)))
theorem ext_len {h : Int} {ts : List (List Int)} {n : Nat} (ht : ∀ t ∈ ts, t.length ≤ n) : ∀ t ∈ ts.flatMap (ext h), t.length ≤ n + 1 := by
  intro t h1
  obtain ⟨u, hu, h2⟩ := List.mem_flatMap.mp h1
  obtain ⟨c, _, rfl⟩ := List.mem_map.mp h2
  rw [List.length_append, List.length_singleton]
  have := ht u hu
  omega
theorem ext_count {h : Int} (h4 : h ≤ 4) : ∀ ts : List (List Int), (ts.flatMap (ext h)).length ≤ ts.length * 4
  | ts => flat_len _ 4 ts fun t _ => by unfold ext; rw [List.length_map, rng_len]; omega
theorem teeth_out {D : Option Cell} : ∀ (hs : List Int) (found : List (List Int)) (m : Nat) (a b c d : Option Cell), (∀ h ∈ hs, 0 ≤ h ∧ h ≤ 4) → (∀ t ∈ found, t.length ≤ m) → m + hs.length ≤ 100 → found.length * 4 ^ hs.length ≤ 1000 →
    ∃ a' b' c', forR (gN 2) bT2 (hs.map .int) [D, some (.dat (.list (found.map iT))), a, b, c, d] = some (.nx [D, some (.dat (.list ((hs.foldl (fun f h => f.flatMap (ext h)) found).map iT))), a', b', c', d])
  | [], found, m, a, b, c, d, _, _, _, _ => ⟨a, b, c, rfl⟩
  | h :: hs, found, m, a, b, c, d, hh, hf, hm, hl => by
    obtain ⟨h0, h4⟩ := hh h List.mem_cons_self
    rw [List.length_cons] at hm hl
    rw [Nat.pow_succ] at hl
    have hp : 1 ≤ 4 ^ hs.length := Nat.one_le_pow _ _ (by decide)
    have hcount := ext_count h4 found
    have hf4 : found.length * 4 ≤ 1000 := by
      have : found.length * 4 * 1 ≤ found.length * 4 * 4 ^ hs.length := Nat.mul_le_mul_left _ hp
      rw [Nat.mul_assoc, Nat.mul_assoc, Nat.mul_comm 4 (4 ^ hs.length)] at this
      omega
    obtain ⟨a1, e1⟩ := teeth_in (D := D) (F := some (.dat (.list (found.map iT)))) h0 h4 found [] c d (fun t ht => by have := hf t ht; omega) (by rw [List.length_nil]; omega)
    obtain ⟨a', b', c', ih⟩ := teeth_out (D := D) hs (found.flatMap (ext h)) (m + 1) (some (.dat (.int h))) (some (.dat (.list (([] ++ found.flatMap (ext h)).map iT)))) a1 d (fun x hx => hh x (List.mem_cons_of_mem _ hx)) (ext_len hf) (by omega) (by
      have : (found.flatMap (ext h)).length * 4 ^ hs.length ≤ found.length * 4 * 4 ^ hs.length := Nat.mul_le_mul_right _ hcount
      rw [Nat.mul_assoc, Nat.mul_comm 4 (4 ^ hs.length)] at this
      omega)
    refine ⟨a', b', c', for_nx rfl ?_ ih⟩
    refine (seq_nx (setS_run (frzE_run (ds := []) rfl))).trans ?_
    exact (seq_nx ((forS_run rfl).trans e1)).trans (setS_run rfl)
theorem teeth_fold : ∀ (hs : List Int) (found : List (List Int)), hs.foldl (fun f h => f.flatMap (ext h)) found = found.flatMap fun t => (teethC hs).map (t ++ ·)
  | [], found => by
    show found = found.flatMap fun t => [t ++ []]
    induction found with
    | nil => rfl
    | cons t ts ih => rw [List.flatMap_cons, ← ih, List.append_nil]; rfl
  | h :: hs, found => by
    rw [List.foldl_cons, teeth_fold hs, List.flatMap_assoc]
    refine flat_congr fun t _ => ?_
    show ((rng h).map fun c => t ++ [c]).flatMap _ = ((rng h).flatMap fun c => (teethC hs).map (c :: ·)).map (t ++ ·)
    rw [List.flatMap_map, List.map_flatMap]
    refine flat_congr fun c _ => ?_
    rw [List.map_map]
    refine List.map_congr_left fun u _ => ?_
    show t ++ [c] ++ u = t ++ (c :: u)
    rw [List.append_assoc]
    rfl
theorem teeth_run {hs : List Int} (hh : ∀ h ∈ hs, 0 ≤ h ∧ h ≤ 4) (hl : hs.length ≤ 4) : onD φ_L_teeth [iT hs] = some (.list ((teethC hs).map iT)) := by
  have hp : 4 ^ hs.length ≤ 4 ^ 4 := Nat.pow_le_pow_right (by decide) hl
  obtain ⟨a, b, c, e⟩ := teeth_out (D := some (.dat (iT hs))) hs [[]] 0 none none none none hh (fun t ht => by rw [List.mem_singleton] at ht; rw [ht]; exact Nat.le_refl 0) (by omega) (by rw [List.length_singleton]; omega)
  rw [teeth_fold] at e
  have e2 : ([[]] : List (List Int)).flatMap (fun t => (teethC hs).map (t ++ ·)) = teethC hs := by
    rw [List.flatMap_cons, List.flatMap_nil, List.append_nil]
    simp
  rw [e2] at e
  show runC 6 1 F_L_teeth [.dat (iT hs)] = _
  refine run_ret rfl ?_
  refine (seq_nx (setS_run (frzE_run (ds := [iT []]) (lst_runL (aCons_run (tupE_run (ds := []) rfl (by simp)) rfl) (by simp))))).trans ?_
  exact (seq_nx ((forS_run rfl).trans e)).trans rfl
theorem teeth_len : ∀ {hs : List Int} {t : List Int}, t ∈ teethC hs → t.length = hs.length ∧ Paired (fun h r => 0 ≤ r ∧ r < h) hs t
  | [], t, h => by
    have : t = [] := by simpa [teethC] using h
    subst this
    exact ⟨rfl, .nil⟩
  | x :: hs, t, h => by
    obtain ⟨c, hc, h2⟩ := List.mem_flatMap.mp h
    obtain ⟨u, hu, rfl⟩ := List.mem_map.mp h2
    obtain ⟨k1, k2⟩ := teeth_len hu
    exact ⟨by rw [List.length_cons, List.length_cons, k1], .cons (mem_rng.mp hc) k2⟩
theorem teeth_count {hs : List Int} {b : Nat} (hh : ∀ h ∈ hs, h ≤ (b : Int)) : (teethC hs).length ≤ b ^ hs.length := by
  induction hs with
  | nil => exact Nat.le_refl 1
  | cons h hs ih =>
    have ih := ih fun x hx => hh x (List.mem_cons_of_mem _ hx)
    have h0 := hh h List.mem_cons_self
    have : (teethC (h :: hs)).length ≤ (rng h).length * b ^ hs.length := flat_len _ _ _ fun c _ => by rw [List.length_map]; exact ih
    rw [rng_len] at this
    rw [List.length_cons, Nat.pow_succ, Nat.mul_comm]
    exact Nat.le_trans this (Nat.mul_le_mul_right _ (by omega))
/-! ### keys -/
theorem key_kok {hs r : List Int} (h : KeyOf hs r) (hh : ∀ x ∈ hs, x ≤ 4) : KOk hs.length r := by
  induction h with
  | nil => exact ⟨rfl, fun c h => nomatch h⟩
  | cons q _ ih =>
    obtain ⟨i1, i2⟩ := ih fun x hx => hh x (List.mem_cons_of_mem _ hx)
    refine ⟨by rw [List.length_cons, List.length_cons, i1], fun c hc => ?_⟩
    rcases List.mem_cons.mp hc with rfl | hc
    · exact in_R4 q (hh _ List.mem_cons_self)
    · exact i2 c hc
theorem key_at {hs r : List Int} (h : KeyOf hs r) {i : Nat} (hi : i < hs.length) : 0 ≤ r.getD i 0 ∧ r.getD i 0 < hs.getD i 0 := by
  have hl := (paired_get h).1
  have := (paired_get h).2 i hs[i] (r[i]'(by omega)) (List.getElem?_eq_getElem hi) (List.getElem?_eq_getElem (by omega))
  rw [List.getD_eq_getElem?_getD, List.getD_eq_getElem?_getD, List.getElem?_eq_getElem hi, List.getElem?_eq_getElem (by omega)]
  exact this
theorem gs_mk : ∀ (hs : List Int) (g : Nat → List Int), (∀ i < hs.length, (g i).Pairwise (· < ·) ∧ ∀ c ∈ g i, 0 ≤ c ∧ c < hs.getD i 0) → GS hs ((List.range hs.length).map g)
  | [], g, _ => trivial
  | h :: hs, g, k => by
    rw [List.length_cons, List.range_succ_eq_map, List.map_cons, List.map_map]
    refine ⟨k 0 (by rw [List.length_cons]; omega), ?_⟩
    exact gs_mk hs (fun i => g (i + 1)) fun i hi => k (i + 1) (by rw [List.length_cons]; omega)
theorem door_gs {hs : List Int} {keys : List (List Int)} (hk : ∀ k ∈ keys, KeyOf hs k) (hh : ∀ x ∈ hs, x ≤ 4) : GS hs (doorOf hs.length keys) := by
  refine gs_mk hs _ fun i hi => ⟨ust_pw _, fun c hc => ?_⟩
  rw [mem_ust (colI_R4 (fun k h => key_kok (hk k h) hh) hi)] at hc
  obtain ⟨k, h, rfl⟩ := List.mem_map.mp hc
  exact key_at (hk k h) hi
theorem ust_len (l : List Int) : (ust l).length ≤ 4 := List.length_filter_le _ R4
theorem door_dk {n : Nat} {keys : List (List Int)} (hn : n ≤ 100) : Dk (doorOf n keys) := by
  refine ⟨fun p hp => ?_, ?_⟩
  · obtain ⟨i, _, rfl⟩ := List.mem_map.mp hp
    have := ust_len (colI keys i)
    omega
  · unfold doorOf; rw [List.length_map, List.length_range]; exact hn
theorem door_ne {hs : List Int} {keys : List (List Int)} (hk : ∀ k ∈ keys, KeyOf hs k) (hh : ∀ x ∈ hs, x ≤ 4) (h1 : keys ≠ []) : ∀ p ∈ doorOf hs.length keys, p ≠ [] := by
  intro p hp e
  obtain ⟨i, hi, rfl⟩ := List.mem_map.mp hp
  rw [List.mem_range] at hi
  cases keys with
  | nil => exact h1 rfl
  | cons k ks =>
    have : k.getD i 0 ∈ ust (colI (k :: ks) i) := (mem_ust (colI_R4 (fun k h => key_kok (hk k h) hh) hi)).mpr List.mem_cons_self
    rw [e] at this
    cases this
/-! ### same -/
inductive SOk : Nat → PyData → Prop
  | int {n : Nat} (i : Int) : SOk n (.int i)
  | bool {n : Nat} (b : Bool) : SOk n (.bool b)
  | str {n : Nat} (x : Str) : (PyData.str x).canLay0 = true → SOk n (.str x)
  | tup {n : Nat} {xs : List PyData} : xs.length ≤ 100000 → (∀ x ∈ xs, SOk n x) → SOk (n + 1) (.tuple xs)
  | lst {n : Nat} {xs : List PyData} : xs.length ≤ 100000 → (∀ x ∈ xs, SOk n x) → SOk (n + 1) (.list xs)
theorem zip_self {α : Type} : ∀ l : List α, l.zip l = l.map fun x => (x, x)
  | [] => rfl
  | x :: xs => by rw [List.zip_cons_cons, zip_self xs]; rfl
theorem all_true {α : Type} : ∀ l : List α, (l.all fun _ => true) = true
  | [] => rfl
  | _ :: xs => by rw [List.all_cons, all_true xs]; rfl
theorem same_run : ∀ (m n : Nat) (d : PyData), n < m → SOk n d → onD (φ_L_same m) [d, d] = some (.bool true)
  | 0, _, _, h, _ => absurd h (Nat.not_lt_zero _)
  | m + 1, n, d, h, k => by
    show runC 5 2 (F_L_same (φ_L_same m)) [.dat d, .dat d] = _
    have seq : ∀ (xs : List PyData), xs.length ≤ 100000 → (∀ x ∈ xs, onD (φ_L_same m) [x, x] = some (.bool true)) → zipL (vE 0) (vE 1) [some (.dat d), some (.dat d), none, none, none] = some (xs.map fun x => .tuple [x, x]) → lenD [d] = some (.int (xs.length : Int)) →
        andE (op2 eqD (calE lenD (aCons (vE 0) aNil)) (calE lenD (aCons (vE 1) aNil))) (calE allD (aCons (frzE (lcL (zipL (vE 0) (vE 1)) (gT2 3 4) yesT (calE (onD (φ_L_same m)) (aCons (vE 3) (aCons (vE 4) aNil))) [3, 4])) aNil)) [some (.dat d), some (.dat d), none, none, none] = some (.bool true) := by
      intro xs hl hx hz hn
      have e := andE_run (a := true) (b := true) (f := op2 eqD (calE lenD (aCons (vE 0) aNil)) (calE lenD (aCons (vE 1) aNil))) (ρ := [some (.dat d), some (.dat d), none, none, none]) (g := calE allD (aCons (frzE (lcL (zipL (vE 0) (vE 1)) (gT2 3 4) yesT (calE (onD (φ_L_same m)) (aCons (vE 3) (aCons (vE 4) aNil))) [3, 4])) aNil)) ?_ fun _ => ?_
      · exact e
      · rw [op2_run ((cal1_run (d := d) rfl).trans hn) ((cal1_run (d := d) rfl).trans hn)]
        rw [eqD_int, decide_eq_true rfl]
      · rw [all_lc (xs := xs) (enc := fun x => .tuple [x, x]) (p := fun _ => true) hz hl fun x hx' => ⟨[some (.dat d), some (.dat d), none, some (.dat x), some (.dat x)], rfl, (calE_run (ds := [x, x]) rfl).trans (hx x hx')⟩, all_true]
    cases k with
    | int i =>
      refine run_ret rfl ((seq_nx ((ifS_f rfl).trans rfl)).trans ((seq_nx ((ifS_f rfl).trans rfl)).trans ((seq_nx ((ifS_f rfl).trans rfl)).trans (retS_run ?_))))
      refine andE_run (a := true) (b := true) rfl fun _ => andE_run (a := true) (b := true) rfl fun _ => ?_
      rw [op2_run (x := .int i) (y := .int i) rfl rfl, eqD_int, decide_eq_true rfl]
    | bool b =>
      refine run_ret rfl ((seq_nx ((ifS_f rfl).trans rfl)).trans ((seq_nx ((ifS_f rfl).trans rfl)).trans (seq_rt ((ifS_t rfl).trans (retS_run ?_)))))
      cases b <;> rfl
    | str x hx =>
      refine run_ret rfl ((seq_nx ((ifS_f rfl).trans rfl)).trans ((seq_nx ((ifS_f rfl).trans rfl)).trans (seq_rt ((ifS_t rfl).trans (retS_run ?_)))))
      have hp : Pn (.str x) := pn_mk hx (by simp [PyData.depth]) rfl
      refine andE_run (a := true) (b := true) ?_ fun _ => andE_run (a := true) (b := true) rfl fun _ => rfl
      rw [op2_run (x := .str x) (y := .str x) rfl rfl]
      exact eqD_run hp hp (by simp)
    | @tup n' xs hl hx =>
      refine run_ret rfl (seq_rt ((ifS_t rfl).trans ((seq_nx ((ifS_f rfl).trans rfl)).trans (retS_run ?_))))
      refine seq xs hl (fun x hx' => same_run m n' x (by omega) (hx x hx')) ?_ rfl
      rw [zip_tup (xs := xs) (ys := xs) rfl rfl, zip_self, List.map_map] <;> rfl
    | @lst n' xs hl hx =>
      refine run_ret rfl (seq_rt ((ifS_t rfl).trans ((seq_nx ((ifS_f rfl).trans rfl)).trans (retS_run ?_))))
      refine seq xs hl (fun x hx' => same_run m n' x (by omega) (hx x hx')) ?_ rfl
      rw [zip_lst (xs := xs) (ys := xs) rfl rfl, zip_self, List.map_map] <;> rfl
end U
set_option maxHeartbeats 4000000
/-! M13: the case, but for the hall. -/
namespace U
open PySem PySem.Spec PyProof.Rows L2
/-- a house -/
structure Case (hs : List Int) (ch bu : List (List Int)) : Prop where
  d : DpW hs
  c1 : 1 ≤ ch.length
  c3 : ch.length ≤ 3
  ck : Keys hs ch
  b5 : bu.length ≤ 5
  bn : bu.Nodup
  bk : Keys hs bu
section
variable {hs : List Int} {ch bu : List (List Int)}
theorem Case.h4 (c : Case hs ch bu) : ∀ x ∈ hs, x ≤ 4 := fun x hx => (c.d.2.2 x hx).2
theorem Case.ckk (c : Case hs ch bu) : ∀ k ∈ ch, KOk hs.length k := fun k hk => key_kok (c.ck k hk) c.h4
theorem Case.bkk (c : Case hs ch bu) : ∀ k ∈ bu, KOk hs.length k := fun k hk => key_kok (c.bk k hk) c.h4
theorem Case.n4 (c : Case hs ch bu) : hs.length ≤ 4 := c.d.2.1
theorem Case.cl (c : Case hs ch bu) : ∀ k ∈ ch, k.length = hs.length := fun k hk => (c.ckk k hk).1
theorem Case.bl (c : Case hs ch bu) : ∀ k ∈ bu, k.length = hs.length := fun k hk => (c.bkk k hk).1
def doorB (hs : List Int) (ch : List (List Int)) (b : List Int) : List (List Int) := doorOf hs.length (ch ++ [b])
def doorsB (hs : List Int) (ch bu : List (List Int)) : List (List (List Int)) := bu.map (doorB hs ch)
theorem Case.dk (c : Case hs ch bu) : ∀ d ∈ doorsB hs ch bu, Dk d := fun d hd => by
  obtain ⟨b, _, rfl⟩ := List.mem_map.mp hd
  exact door_dk (by have := c.n4; omega)
theorem Case.keysB (c : Case hs ch bu) {b : List Int} (hb : b ∈ bu) : ∀ k ∈ ch ++ [b], KeyOf hs k := fun k hk => by
  rcases List.mem_append.mp hk with hk | hk
  · exact c.ck k hk
  · rw [List.mem_singleton] at hk; rw [hk]; exact c.bk b hb
theorem Case.gs (c : Case hs ch bu) : ∀ d ∈ doorsB hs ch bu, GS hs d := fun d hd => by
  obtain ⟨b, hb, rfl⟩ := List.mem_map.mp hd
  exact door_gs (c.keysB hb) c.h4
def lb (hs : List Int) (ch : List (List Int)) (t b : List Int) : Bool := letsB hs.length ch t b
theorem Case.opens (c : Case hs ch bu) {b t : List Int} (hb : b ∈ bu) (ht : t.length = hs.length) : opensB (doorB hs ch b) t = lb hs ch t b := opens_lets c.ckk ht (c.bkk b hb)
theorem Case.cnt (c : Case hs ch bu) {t : List Int} (ht : t.length = hs.length) : cntD' (doorsB hs ch bu) t = (bu.filter fun b => lb hs ch t b).length := by
  unfold cntD' doorsB
  rw [List.filter_map, List.length_map]
  congr 1
  exact List.filter_congr fun b hb => c.opens hb ht
theorem Case.doorRun (c : Case hs ch bu) {b : List Int} (hb : b ∈ bu) {ρ : Rho} (h1 : vE 1 ρ = some (kT ch)) (h4 : vE 4 ρ = some (iT b)) :
    calE (onD φ_door_for) (aCons (calE tupOfD (aCons (frzE (setL (op2 addD (vE 1) (tupE (aCons (vE 4) aNil))))) aNil)) aNil) ρ = some (dT (doorB hs ch b)) := by
  have e1 : op2 addD (vE 1) (tupE (aCons (vE 4) aNil)) ρ = some (.tuple ((ch ++ [b]).map iT)) := by
    rw [op2_run (x := kT ch) (y := .tuple ([b].map iT)) h1 (tupE_run (aCons_run h4 rfl) (by simp))]
    show addD (.tuple (ch.map iT)) (.tuple ([b].map iT)) = _
    rw [addD_tup (by have := c.c3; simp only [List.length_map, List.length_singleton]; omega), ← List.map_append]
  have hne : ∀ r ∈ ch ++ [b], r ≠ [] := fun r hr e => by
    have := (paired_get (c.keysB hb r hr)).1
    rw [e] at this
    have h1 := c.d.1
    rw [List.length_nil] at this
    omega
  have hlen : (ch ++ [b]).length < 64 := by have := c.c3; rw [List.length_append, List.length_singleton]; omega
  obtain ⟨ks, k1, k2, k3, k4⟩ := srt_nub (f := iT) (fun _ _ => iT_inj) (ch ++ [b])
  have e2 := setL_run e1 rfl (setOk_keys hne hlen)
  rw [k1] at e2
  have e3 : calE tupOfD (aCons (frzE (setL (op2 addD (vE 1) (tupE (aCons (vE 4) aNil))))) aNil) ρ = some (.tuple (ks.map iT)) := (cal1_run (frzE_run e2)).trans rfl
  rw [cal1_run e3]
  have hd : doorB hs ch b = doorOf hs.length ks := doorOf_congr fun r => (k3 r).symm
  rw [hd]
  refine door_for_run (fun k hk => key_kok (c.keysB hb k ((k3 k).mp hk)) c.h4) (by have := c.n4; omega) (fun e => ?_) (by omega) rfl
  have : b ∈ ks := (k3 b).mpr (List.mem_append.mpr (.inr (List.mem_singleton.mpr rfl)))
  rw [e] at this
  cases this
/-! the loop over the teeth -/
def mineD (hs : List Int) (ch bu : List (List Int)) (t : List Int) : List PyData := bu.map fun b => .bool (lb hs ch t b)
noncomputable def bTe : SS := seqS (setS 11 (frzE (lcL (itE (vE 2)) (gN 12) yesT (calE (onD φ_L_lets) (aCons (vE 1) (aCons (vE 4) (aCons (vE 12) aNil)))) [12])))
  (seqS (setO 7 (lstL (aCons (frzE (lcL (itE (vE 10)) (gN 14) yesT (calE (onD φ_opens) (aCons (vE 14) (aCons (vE 4) aNil))) [14])) (aCons (frzE (lcL (itE (vE 10)) (gN 14) yesT (op2 isND (calE (onD φ_pin_that_bars) (aCons (vE 14) (aCons (vE 4) aNil))) (cE .none)) [14])) aNil))))
  (seqS (appS 7 (frzE (lcL (itE (vE 2)) (gN 12) yesT (calE (onD φ_opens_room) (aCons (vE 1) (aCons (vE 4) (aCons (vE 12) aNil)))) [12])))
  (frzS 7 (seqS (ifS (notT (tstE (calE (onD (φ_L_same 7)) (aCons (vE 7) (aCons (frzE (lstL (aCons (vE 11) (aCons (vE 11) (aCons (vE 11) aNil))))) aNil))))) (retS (cE (.bool false))) nxS)
    (appS 3 (calE lenD (aCons (frzE (lcL (itE (vE 11)) (gN 4) (tstE (vE 4)) (vE 4) [4])) aNil)))))))
def stT (hs : List Int) (ch bu : List (List Int)) (TS : List (List Int)) (co : Option Cell) (o4 o7 o11 : Option Cell) : Rho :=
  [some (.dat (iT hs)), some (.dat (kT ch)), some (.nt (bu.map iT)), co, o4, none, none, o7, none, some (.dat (.list (TS.map iT))), some (.dat (.list ((doorsB hs ch bu).map dT))), o11, none, none, none]
theorem teeth_turn (c : Case hs ch bu) {TS : List (List Int)} {t : List Int} (ht : t.length = hs.length) (xs : List PyData) (hx : xs.length < 1000) (o7 o11 : Option Cell) :
    ∃ o7' o11', bTe (stT hs ch bu TS (some (.own xs)) (some (.dat (iT t))) o7 o11) = some (.nx (stT hs ch bu TS (some (.own (xs ++ [.int (cntD' (doorsB hs ch bu) t : Nat)]))) (some (.dat (iT t))) o7' o11')) := by
  have n4 := c.n4
  have b5 := c.b5
  have c3 := c.c3
  have e1 : ∀ o7 o11, frzE (lcL (itE (vE 2)) (gN 12) yesT (calE (onD φ_L_lets) (aCons (vE 1) (aCons (vE 4) (aCons (vE 12) aNil)))) [12]) (stT hs ch bu TS (some (.own xs)) (some (.dat (iT t))) o7 o11) = some (.list (mineD hs ch bu t)) := fun o7 o11 => by
    refine frzE_run (lc_runM (xs := bu) (enc := iT) (f := fun b => .bool (lb hs ch t b)) rfl (by omega) fun b hb => ⟨_, rfl, ?_⟩)
    exact (calE_run (ds := [kT ch, iT t, iT b]) rfl).trans (lets_run (by omega) c.cl (by omega) ht (c.bl b hb))
  have e2 : ∀ o7 o11, frzE (lcL (itE (vE 10)) (gN 14) yesT (calE (onD φ_opens) (aCons (vE 14) (aCons (vE 4) aNil))) [14]) (stT hs ch bu TS (some (.own xs)) (some (.dat (iT t))) o7 o11) = some (.list (mineD hs ch bu t)) := fun o7 o11 => by
    refine frzE_run (lc_runM (xs := bu) (enc := fun b => dT (doorB hs ch b)) (f := fun b => .bool (lb hs ch t b)) ?_ (by omega) fun b hb => ⟨_, rfl, ?_⟩)
    · show some ((doorsB hs ch bu).map dT) = _
      unfold doorsB; rw [List.map_map] <;> rfl
    · rw [← c.opens hb ht]
      exact (calE_run (ds := [dT (doorB hs ch b), iT t]) rfl).trans (opens_run (by rw [ht]; unfold doorB doorOf; rw [List.length_map, List.length_range]))
  have e3 : ∀ o7 o11, frzE (lcL (itE (vE 10)) (gN 14) yesT (op2 isND (calE (onD φ_pin_that_bars) (aCons (vE 14) (aCons (vE 4) aNil))) (cE .none)) [14]) (stT hs ch bu TS (some (.own xs)) (some (.dat (iT t))) o7 o11) = some (.list (mineD hs ch bu t)) := fun o7 o11 => by
    refine frzE_run (lc_runM (xs := bu) (enc := fun b => dT (doorB hs ch b)) (f := fun b => .bool (lb hs ch t b)) ?_ (by omega) fun b hb => ⟨_, rfl, ?_⟩)
    · show some ((doorsB hs ch bu).map dT) = _
      unfold doorsB; rw [List.map_map] <;> rfl
    · obtain ⟨r, r1, r2⟩ := pin_run (door := doorB hs ch b) (key := t) (by rw [ht]; unfold doorB doorOf; rw [List.length_map, List.length_range])
      rw [← c.opens hb ht, ← r2]
      exact (op2_run (x := r) (y := .none) ((calE_run (ds := [dT (doorB hs ch b), iT t]) rfl).trans r1) rfl).trans rfl
  have e4 : ∀ o7 o11, frzE (lcL (itE (vE 2)) (gN 12) yesT (calE (onD φ_opens_room) (aCons (vE 1) (aCons (vE 4) (aCons (vE 12) aNil)))) [12]) (stT hs ch bu TS (some (.own xs)) (some (.dat (iT t))) o7 o11) = some (.list (mineD hs ch bu t)) := fun o7 o11 => by
    refine frzE_run (lc_runM (xs := bu) (enc := iT) (f := fun b => .bool (lb hs ch t b)) rfl (by omega) fun b hb => ⟨_, rfl, ?_⟩)
    exact (calE_run (ds := [kT ch, iT t, iT b]) rfl).trans (opens_room_run (by omega) c.cl (by omega) ht (c.bl b hb))
  have e5 : ∀ o7, calE lenD (aCons (frzE (lcL (itE (vE 11)) (gN 4) (tstE (vE 4)) (vE 4) [4])) aNil) (stT hs ch bu TS (some (.own xs)) (some (.dat (iT t))) o7 (some (.dat (.list (mineD hs ch bu t))))) = some (.int (cntD' (doorsB hs ch bu) t : Nat)) := fun o7 => by
    rw [cal1_run (frzE_run (lc_run (xs := bu) (enc := fun b => .bool (lb hs ch t b)) (p := fun b => lb hs ch t b) (f := fun b => .bool (lb hs ch t b)) rfl (by omega) fun b hb => ⟨_, rfl, tst_runB rfl, fun _ => rfl⟩))]
    rw [c.cnt ht]
    show some (PyData.int ((((bu.filter fun b => lb hs ch t b).map fun b => PyData.bool (lb hs ch t b)).length : Nat) : Int)) = _
    rw [List.length_map]
  have hs1 : onD (φ_L_same 7) [.list [.list (mineD hs ch bu t), .list (mineD hs ch bu t), .list (mineD hs ch bu t)], .list [.list (mineD hs ch bu t), .list (mineD hs ch bu t), .list (mineD hs ch bu t)]] = some (.bool true) := by
    refine same_run 7 2 _ (by decide) (.lst (by simp) fun x hx => ?_)
    have hm : SOk 1 (.list (mineD hs ch bu t)) := .lst (by unfold mineD; rw [List.length_map]; omega) fun y hy => by
      obtain ⟨b, _, rfl⟩ := List.mem_map.mp hy
      exact .bool _
    simp only [List.mem_cons, List.not_mem_nil, or_false] at hx
    rcases hx with rfl | rfl | rfl <;> exact hm
  refine ⟨some (.dat (.list [.list (mineD hs ch bu t), .list (mineD hs ch bu t), .list (mineD hs ch bu t)])), some (.dat (.list (mineD hs ch bu t))), ?_⟩
  refine (seq_nx (setS_run (e1 _ _))).trans ?_
  refine (seq_nx (setO_run (ds := [.list (mineD hs ch bu t), .list (mineD hs ch bu t)]) (lst_runL (aCons_run (e2 _ _) (aCons_run (e3 _ _) rfl)) (by simp)))).trans ?_
  refine (seq_nx (app_run rfl (e4 _ _) (by simp))).trans ?_
  refine frz_run rfl ?_
  have ht : notT (tstE (calE (onD (φ_L_same 7)) (aCons (vE 7) (aCons (frzE (lstL (aCons (vE 11) (aCons (vE 11) (aCons (vE 11) aNil))))) aNil)))) (stT hs ch bu TS (some (.own xs)) (some (.dat (iT t))) (some (.dat (.list [.list (mineD hs ch bu t), .list (mineD hs ch bu t), .list (mineD hs ch bu t)]))) (some (.dat (.list (mineD hs ch bu t))))) = some false := by
    refine notT_run (b := true) (tst_runB ?_)
    refine (calE_run (ds := [.list [.list (mineD hs ch bu t), .list (mineD hs ch bu t), .list (mineD hs ch bu t)], .list [.list (mineD hs ch bu t), .list (mineD hs ch bu t), .list (mineD hs ch bu t)]]) ?_).trans hs1
    exact aCons_run rfl (aCons_run (frzE_run (lst_runL (aCons_run rfl (aCons_run rfl (aCons_run rfl rfl))) (by simp))) rfl)
  refine (seq_nx ((ifS_f ht).trans rfl)).trans ?_
  exact app_run rfl (e5 _) (by omega)
theorem teeth_loop (c : Case hs ch bu) {TS : List (List Int)} : ∀ (ts : List (List Int)) (xs : List PyData) (o4 o7 o11 : Option Cell), (∀ t ∈ ts, t.length = hs.length) → xs.length + ts.length ≤ 1000 →
    ∃ o4' o7' o11', forR (gN 4) bTe (ts.map iT) (stT hs ch bu TS (some (.own xs)) o4 o7 o11) = some (.nx (stT hs ch bu TS (some (.own (xs ++ ts.map fun t => .int (cntD' (doorsB hs ch bu) t : Nat)))) o4' o7' o11'))
  | [], xs, o4, o7, o11, _, _ => ⟨o4, o7, o11, by rw [List.map_nil, List.map_nil, List.append_nil]; rfl⟩
  | t :: ts, xs, o4, o7, o11, h, hl => by
    rw [List.length_cons] at hl
    obtain ⟨o7', o11', e⟩ := teeth_turn c (TS := TS) (h t List.mem_cons_self) xs (by omega) o7 o11
    obtain ⟨p4, p7, p11, ih⟩ := teeth_loop c (TS := TS) ts (xs ++ [.int (cntD' (doorsB hs ch bu) t : Nat)]) (some (.dat (iT t))) o7' o11' (fun x hx => h x (List.mem_cons_of_mem _ hx)) (by rw [List.length_append, List.length_singleton]; omega)
    refine ⟨p4, p7, p11, ?_⟩
    rw [List.append_assoc] at ih
    exact for_nx rfl e ih
end
end U
set_option maxHeartbeats 4000000
/-! M14: the case, but for the hall: the end. -/
namespace U
open PySem PySem.Spec PyProof.Rows L2
theorem calC_run {φ : List Cell → Option PyData} {a : SAC} {ρ : Rho} {cs : List Cell} (h : a ρ = some cs) : calC φ a ρ = φ cs := by unfold calC; rw [h] <;> rfl
section
variable {hs : List Int} {ch bu : List (List Int)}
def stU (hs : List Int) (ch bu : List (List Int)) (co o4 m5 s6 g7 d8 o11 : Option Cell) : Rho :=
  [some (.dat (iT hs)), some (.dat (kT ch)), some (.nt (bu.map iT)), co, o4, m5, s6, g7, d8, some (.dat (.list ((teethC hs).map iT))), some (.dat (.list ((doorsB hs ch bu).map dT))), o11, none, none, none]
def manyI (hs : List Int) (ch : List (List Int)) (b : List Int) : Int := (((teethC hs).filter fun t => lb hs ch t b).length : Int)
def cntI (hs : List Int) (ch bu : List (List Int)) : List Int := (teethC hs).map fun t => (cntD' (doorsB hs ch bu) t : Int)
theorem Case.tl (c : Case hs ch bu) {t : List Int} (ht : t ∈ teethC hs) : t.length = hs.length := (teeth_len ht).1
theorem Case.tn (c : Case hs ch bu) : (teethC hs).length ≤ 256 := by
  have h1 := teeth_count (b := 4) (hs := hs) c.h4
  have h2 : 4 ^ hs.length ≤ 4 ^ 4 := Nat.pow_le_pow_right (by decide) c.n4
  omega
theorem Case.many (c : Case hs ch bu) {b : List Int} (hb : b ∈ bu) : hmo (doorB hs ch b) = manyI hs ch b := by
  have hg := (c.gs _ (List.mem_map_of_mem hb)).gd
  rw [← count_door hg, sum_len]
  unfold manyI
  rw [List.filter_congr fun t ht => c.opens hb (c.tl ht)]
theorem filt_count {α : Type} (f : α → Int) (k : Int) : ∀ l : List α, ((l.map f).count k : Int) = ((l.filter fun t => decide (f t = k)).length : Int)
  | [] => rfl
  | x :: xs => by
    have ih := filt_count f k xs
    rw [List.map_cons, List.count_cons]
    by_cases h : f x = k
    · rw [List.filter_cons_of_pos (by rw [decide_eq_true_iff]; exact h), List.length_cons, h]
      simp only [BEq.rfl, if_true]
      omega
    · rw [List.filter_cons_of_neg (by rw [decide_eq_true_iff]; exact h)]
      have : (f x == k) = false := by simpa using h
      rw [this]
      simp only [Bool.false_eq_true, if_false]
      omega
theorem cnt_run {l : List Int} {k : Int} : cntD (.list (l.map .int)) (.int k) = some (.int (l.count k : Nat)) := by
  show (mapO asI (l.map .int)).bind (fun ns => (some k).map fun k => PyData.int (ns.count k : Nat)) = _
  have : mapO asI (l.map .int) = some l := mapO_ints l
  rw [this] <;> rfl
theorem Case.all (c : Case hs ch bu) (hb : bu ≠ []) : hma (doorsB hs ch bu) = ((cntI hs ch bu).count (bu.length : Int) : Int) := by
  have hl : (doorsB hs ch bu).length = bu.length := List.length_map ..
  rw [hma_count (hs := hs) (fun d hd => (c.gs d hd).gd) (by rw [hl]; exact c.b5) (by rw [hl]; exact List.length_pos_iff.mpr hb), hl]
  unfold cntI
  rw [filt_count]
  congr 1
  congr 1
  refine List.filter_congr fun t _ => decide_eq_decide.mpr (by omega)
theorem Case.just (c : Case hs ch bu) (k : Nat) : hmj hs (doorsB hs ch bu) k = ((cntI hs ch bu).count (k : Int) : Int) := by
  have hl : (doorsB hs ch bu).length = bu.length := List.length_map ..
  rw [hmj_count (fun i hi => by have := c.d.2.2 i hi; omega) (fun d hd => (c.gs d hd).gd) (by rw [hl]; exact c.b5)]
  unfold cntI
  rw [filt_count]
  congr 1
  congr 1
  refine List.filter_congr fun t _ => decide_eq_decide.mpr (by omega)
theorem zipIdx_filter {α : Type} (q : α → Bool) (f : α → PyData) : ∀ (l : List α) (s : Nat), ((l.zipIdx s).filter fun p => q p.1).map (fun p => f p.1) = (l.filter q).map f
  | [], s => rfl
  | x :: xs, s => by
    have ih := zipIdx_filter q f xs (s + 1)
    rw [List.zipIdx_cons]
    cases h : q x with
    | true => rw [List.filter_cons_of_pos (by exact h), List.filter_cons_of_pos h, List.map_cons, List.map_cons, ih]
    | false => rw [List.filter_cons_of_neg (by rw [h]; exact Bool.false_ne_true), List.filter_cons_of_neg (by rw [h]; exact Bool.false_ne_true), ih]
theorem enum_map {α : Type} (f : α → PyData) (l : List α) : enumOf (l.map f) = l.zipIdx.map fun p => .tuple [.int (p.2 : Nat), f p.1] := by
  unfold enumOf
  rw [List.zipIdx_map, List.map_map]
  rfl
theorem take_cut (ds : List PyData) (n : Nat) : cutD ds none (some (n : Int)) = ds.take n := by
  unfold cutD
  rw [HT.sIx_none, HT.sIx_nat, List.drop_zero, Nat.sub_zero]
  rw [List.take_eq_take_iff]
  omega
theorem rng_nat (n : Nat) : rangeOf (n : Int) = (List.range n).map fun k => .int (k : Nat) := by unfold rangeOf; rw [Int.toNat_natCast]
theorem rngL_run {f : SE} {ρ : Rho} {n : Nat} (h : f ρ = some (.int (n : Int))) (hn : n ≤ 100000) : rngL f ρ = some ((List.range n).map fun k => .int (k : Nat)) := by
  unfold rngL
  rw [h]
  show (if -100000 ≤ (n : Int) ∧ (n : Int) ≤ 100000 then some (rangeOf (n : Int)) else none) = _
  rw [if_pos (by omega), rng_nat]
/-- the two sides of the law's comparison -/
def sideD (hs : List Int) (ch bu : List (List Int)) (last : List Int) : List PyData :=
  [.list ((bu.map (manyI hs ch)).map .int), .int ((someK hs (doorsB hs ch bu)).length : Int), .int ((cntI hs ch bu).count (bu.length : Int) : Nat), .list ((List.range (bu.length + 2)).map fun (k : Nat) => .int ((cntI hs ch bu).count (k : Int) : Nat)), .list (((someK hs (doorsB hs ch bu)).take 5).map iT), iT last]
theorem side_ok {last : List Int} (c : Case hs ch bu) (hl : last.length ≤ 100) : onD (φ_L_same 7) [.list (sideD hs ch bu last), .list (sideD hs ch bu last)] = some (.bool true) := by
  have b5 := c.b5
  have intsOk : ∀ l : List Int, l.length ≤ 100000 → SOk 2 (.list (l.map .int)) := fun l h => .lst (by rw [List.length_map]; exact h) fun x hx => by
    obtain ⟨i, _, rfl⟩ := List.mem_map.mp hx
    exact .int i
  have key : ∀ (n : Nat) (t : List Int), t.length ≤ 100000 → SOk (n + 1) (iT t) := fun n t h => .tup (by rw [List.length_map]; exact h) fun x hx => by
    obtain ⟨i, _, rfl⟩ := List.mem_map.mp hx
    exact .int i
  refine same_run 7 3 _ (by decide) (.lst (by unfold sideD; simp) fun x hx => ?_)
  unfold sideD at hx
  simp only [List.mem_cons, List.not_mem_nil, or_false] at hx
  rcases hx with rfl | rfl | rfl | rfl | rfl | rfl
  · exact intsOk _ (by rw [List.length_map]; omega)
  · exact .int _
  · exact .int _
  · have := intsOk ((List.range (bu.length + 2)).map fun (k : Nat) => ((cntI hs ch bu).count (k : Int) : Int)) (by rw [List.length_map, List.length_range]; omega)
    rw [List.map_map] at this
    exact this
  · refine .lst (by rw [List.length_map, List.length_take]; omega) fun x hx => ?_
    obtain ⟨t, ht, rfl⟩ := List.mem_map.mp hx
    have h1 := (List.mem_filter.mp (List.mem_of_mem_take ht)).1
    exact key 0 t (by rw [c.tl h1]; have := c.n4; omega)
  · exact key 1 last (by omega)
theorem case_right (c : Case hs ch bu) (hall : φ_L_hall_right [.dat (iT hs), .dat (kT ch), .nt (bu.map iT)] = some (.bool true) ∨ bu = []) : φ_L_case_right [.dat (iT hs), .dat (kT ch), .nt (bu.map iT)] = some (.bool true) := by
  have n4 := c.n4
  have b5 := c.b5
  have c3 := c.c3
  have tn := c.tn
  have dl : (doorsB hs ch bu).length = bu.length := List.length_map ..
  have hh04 : ∀ h ∈ hs, 0 ≤ h ∧ h ≤ 4 := fun h hh => by have := c.d.2.2 h hh; omega
  show runC 15 3 F_L_case_right [.dat (iT hs), .dat (kT ch), .nt (bu.map iT)] = _
  refine run_ret rfl ?_
  -- the teeth, the doors
  have s1 : asgS (tupE (aCons (calE (onD φ_L_teeth) (aCons (vE 0) aNil)) (aCons (frzE (lcL (itE (vE 2)) (gN 4) yesT (calE (onD φ_door_for) (aCons (calE tupOfD (aCons (frzE (setL (op2 addD (vE 1) (tupE (aCons (vE 4) aNil))))) aNil)) aNil)) [4])) aNil))) (gT2 9 10) (startC 15 [.dat (iT hs), .dat (kT ch), .nt (bu.map iT)]) = some (.nx (stU hs ch bu none none none none none none none)) := by
    have e1 : calE (onD φ_L_teeth) (aCons (vE 0) aNil) (startC 15 [.dat (iT hs), .dat (kT ch), .nt (bu.map iT)]) = some (.list ((teethC hs).map iT)) := (cal1_run (d := iT hs) rfl).trans (teeth_run hh04 n4)
    have e2 : frzE (lcL (itE (vE 2)) (gN 4) yesT (calE (onD φ_door_for) (aCons (calE tupOfD (aCons (frzE (setL (op2 addD (vE 1) (tupE (aCons (vE 4) aNil))))) aNil)) aNil)) [4]) (startC 15 [.dat (iT hs), .dat (kT ch), .nt (bu.map iT)]) = some (.list ((doorsB hs ch bu).map dT)) := by
      have e : (doorsB hs ch bu).map dT = bu.map fun b => dT (doorB hs ch b) := by unfold doorsB; rw [List.map_map] <;> rfl
      rw [e]
      exact frzE_run (lc_runM (xs := bu) (enc := iT) (f := fun b => dT (doorB hs ch b)) rfl (by omega) fun b hb => ⟨_, rfl, c.doorRun hb rfl rfl⟩)
    unfold asgS
    rw [tupE_run (aCons_run e1 (aCons_run e2 rfl)) (by simp)]
    rfl
  refine (seq_nx s1).trans ?_
  refine (seq_nx (setO_run (ds := []) rfl)).trans ?_
  obtain ⟨o4, o7, o11, lp⟩ := teeth_loop c (TS := teethC hs) (teethC hs) [] none none none (fun t ht => c.tl ht) (by rw [List.length_nil]; omega)
  refine (seq_nx ((forS_run rfl).trans lp)).trans ?_
  rw [List.nil_append]
  have ec : ((teethC hs).map fun t => PyData.int (cntD' (doorsB hs ch bu) t : Nat)) = (cntI hs ch bu).map .int := by unfold cntI; rw [List.map_map] <;> rfl
  rw [ec]
  have eb : ∀ ρ, vE 2 ρ = some (kT bu) → tstE (op2 eqD (vE 2) (tupE aNil)) ρ = some (decide (bu = [])) := fun ρ h => by
    refine tst_runB ?_
    rw [op2_run (x := kT bu) (y := .tuple []) h (tupE_run (ds := []) rfl (by simp))]
    refine eqD_run ((pnn_tup fun d hd => ?_).pn (n := 2) (by decide)) ((pnn_tup (n := 0) fun d hd => by cases hd).pn (by decide)) ?_
    · obtain ⟨m, _, rfl⟩ := List.mem_map.mp hd
      exact pnn_iT m
    · rw [decide_eq_true_iff]
      constructor
      · intro h; rw [h]; rfl
      · intro h
        injection h with h
        exact List.map_eq_nil_iff.mp h
  by_cases hb : bu = []
  · refine seq_rt ((ifS_t ((eb _ rfl).trans (by rw [decide_eq_true hb]))).trans rfl)
  refine (seq_nx ((ifS_f ((eb _ rfl).trans (by rw [decide_eq_false hb]))).trans rfl)).trans ?_
  -- many
  have s5 : frzE (lcL (itE (vE 2)) (gN 12) yesT (calE lenD (aCons (frzE (lcL (itE (vE 9)) (gN 4) (tstE (calE (onD φ_L_lets) (aCons (vE 1) (aCons (vE 4) (aCons (vE 12) aNil))))) (vE 4) [4])) aNil)) [12]) (stU hs ch bu (some (.own ((cntI hs ch bu).map .int))) o4 none none o7 none o11) = some (.list ((bu.map (manyI hs ch)).map .int)) := by
    have e : (bu.map (manyI hs ch)).map PyData.int = bu.map fun b => .int (manyI hs ch b) := by rw [List.map_map] <;> rfl
    rw [e]
    refine frzE_run (lc_runM (xs := bu) (enc := iT) (f := fun b => .int (manyI hs ch b)) rfl (by omega) fun b hb => ?_)
    refine ⟨[some (.dat (iT hs)), some (.dat (kT ch)), some (.nt (bu.map iT)), some (.own ((cntI hs ch bu).map .int)), o4, none, none, o7, none, some (.dat (.list ((teethC hs).map iT))), some (.dat (.list ((doorsB hs ch bu).map dT))), o11, some (.dat (iT b)), none, none], rfl, ?_⟩
    rw [cal1_run (frzE_run (lc_run (xs := teethC hs) (enc := iT) (p := fun t => lb hs ch t b) (f := iT) rfl (by omega) fun t ht => ⟨_, rfl, tst_runB ((calE_run (ds := [kT ch, iT t, iT b]) rfl).trans (lets_run (by omega) c.cl (by omega) (c.tl ht) (c.bl b hb))), fun _ => rfl⟩))]
    show some (PyData.int (((((teethC hs).filter fun t => lb hs ch t b).map iT).length : Nat) : Int)) = _
    rw [List.length_map]
    rfl
  refine (seq_nx (setS_run s5)).trans ?_
  refine frz_run rfl ?_
  -- some
  have s6 : frzE (lcL (enumL (vE 9)) (gT2 13 4) (tstE (op2 gtD (op2 ixD (vE 3) (vE 13)) (cE (.int 0)))) (vE 4) [13, 4]) (stU hs ch bu (some (.dat (.list ((cntI hs ch bu).map .int)))) o4 (some (.dat (.list ((bu.map (manyI hs ch)).map .int)))) none o7 none o11) = some (.list ((someK hs (doorsB hs ch bu)).map iT)) := by
    unfold someK
    rw [← zipIdx_filter (fun t => decide (0 < cntD' (doorsB hs ch bu) t)) iT (teethC hs) 0]
    refine frzE_run (lc_run (xs := (teethC hs).zipIdx) (enc := fun p => .tuple [.int (p.2 : Nat), iT p.1]) (p := fun p => decide (0 < cntD' (doorsB hs ch bu) p.1)) (f := fun p => iT p.1) ?_ (by rw [List.length_zipIdx]; omega) fun p hp => ?_)
    · show some (enumOf ((teethC hs).map iT)) = _
      rw [enum_map]
    · obtain ⟨t, k⟩ := p
      have hk : (teethC hs)[k]? = some t := List.mem_zipIdx_iff_getElem?.mp hp
      refine ⟨[some (.dat (iT hs)), some (.dat (kT ch)), some (.nt (bu.map iT)), some (.dat (.list ((cntI hs ch bu).map .int))), some (.dat (iT t)), some (.dat (.list ((bu.map (manyI hs ch)).map .int))), none, o7, none, some (.dat (.list ((teethC hs).map iT))), some (.dat (.list ((doorsB hs ch bu).map dT))), o11, none, some (.dat (.int (k : Nat))), none], rfl, tst_runB ?_, fun _ => rfl⟩
      refine (op2_run (h := gtD) (x := .int (cntD' (doorsB hs ch bu) t : Nat)) (y := .int 0) ((op2_run (x := .list ((cntI hs ch bu).map .int)) (y := .int (k : Nat)) rfl rfl).trans (ixD_lst ?_)) rfl).trans ?_
      · unfold cntI
        rw [List.getElem?_map, List.getElem?_map, hk] <;> rfl
      · show some (PyData.bool (decide ((0 : Int) < (cntD' (doorsB hs ch bu) t : Nat)))) = some (PyData.bool (decide (0 < cntD' (doorsB hs ch bu) t)))
        rw [show decide ((0 : Int) < (cntD' (doorsB hs ch bu) t : Nat)) = decide (0 < cntD' (doorsB hs ch bu) t) from decide_eq_decide.mpr (by omega)]
  refine (seq_nx (setS_run s6)).trans ?_
  -- got
  generalize hρ : stU hs ch bu (some (.dat (.list ((cntI hs ch bu).map .int)))) o4 (some (.dat (.list ((bu.map (manyI hs ch)).map .int)))) (some (.dat (.list ((someK hs (doorsB hs ch bu)).map iT)))) o7 none o11 = ρ6
  have s7a : frzE (lcL (itE (vE 10)) (gN 14) yesT (calE (onD φ_how_many_open) (aCons (vE 14) aNil)) [14]) ρ6 = some (.list ((bu.map (manyI hs ch)).map .int)) := by
    have e : (bu.map (manyI hs ch)).map PyData.int = bu.map fun b => .int (manyI hs ch b) := by rw [List.map_map] <;> rfl
    rw [e, ← hρ]
    refine frzE_run (lc_runM (xs := bu) (enc := fun b => dT (doorB hs ch b)) (f := fun b => .int (manyI hs ch b)) ?_ (by omega) fun b hb => ⟨_, rfl, ?_⟩)
    · show some ((doorsB hs ch bu).map dT) = _
      unfold doorsB; rw [List.map_map] <;> rfl
    · have hk := c.dk _ (List.mem_map_of_mem hb)
      rw [← c.many hb]
      exact (cal1_run (d := dT (doorB hs ch b)) rfl).trans (hmo_run hk.1 hk.2)
  have s7b : calE (onD φ_how_many_some) (aCons (vE 10) aNil) ρ6 = some (.int ((someK hs (doorsB hs ch bu)).length : Int)) := by
    have hm : hms (doorsB hs ch bu) = ((someK hs (doorsB hs ch bu)).length : Int) := hms_count (fun d hd => (c.gs d hd).gd) (by omega)
    rw [← hρ, ← hm]
    exact (cal1_run (d := .list ((doorsB hs ch bu).map dT)) rfl).trans (hms_run (.inl rfl) c.dk (by omega))
  have s7c : calE (onD φ_how_many_all) (aCons (calE tupOfD (aCons (vE 10) aNil)) aNil) ρ6 = some (.int ((cntI hs ch bu).count (bu.length : Int) : Nat)) := by
    rw [← hρ, ← c.all hb]
    exact (cal1_run (d := .tuple ((doorsB hs ch bu).map dT)) ((cal1_run (d := .list ((doorsB hs ch bu).map dT)) rfl).trans rfl)).trans (hma_run c.dk (by omega))
  have s7 : lstL (aCons (frzE (lcL (itE (vE 10)) (gN 14) yesT (calE (onD φ_how_many_open) (aCons (vE 14) aNil)) [14])) (aCons (calE (onD φ_how_many_some) (aCons (vE 10) aNil)) (aCons (calE (onD φ_how_many_all) (aCons (calE tupOfD (aCons (vE 10) aNil)) aNil)) aNil))) ρ6 =
      some [.list ((bu.map (manyI hs ch)).map .int), .int ((someK hs (doorsB hs ch bu)).length : Int), .int ((cntI hs ch bu).count (bu.length : Int) : Nat)] := lst_runL (aCons_run s7a (aCons_run s7b (aCons_run s7c rfl))) (by simp)
  rw [← hρ] at s7
  refine (seq_nx (setO_run s7)).trans ?_
  have el : ∀ {ρ}, vE 2 ρ = some (kT bu) → calE lenD (aCons (vE 2) aNil) ρ = some (.int (bu.length : Int)) := fun h => by
    rw [cal1_run h]
    show some (PyData.int ((bu.map iT).length : Int)) = _
    rw [List.length_map]
  have er : ∀ {ρ}, vE 2 ρ = some (kT bu) → rngL (op2 addD (calE lenD (aCons (vE 2) aNil)) (cE (.int 2))) ρ = some ((List.range (bu.length + 2)).map fun k => .int (k : Nat)) := fun {ρ} h => by
    refine rngL_run ?_ (by omega)
    rw [op2_run (x := .int (bu.length : Int)) (y := .int 2) (el h) rfl]
    rfl
  have s8 : ∀ o7 : Option Cell, frzE (lcL (rngL (op2 addD (calE lenD (aCons (vE 2) aNil)) (cE (.int 2)))) (gN 13) yesT (calE (onD φ_how_many_just) (aCons (vE 0) (aCons (vE 10) (aCons (vE 13) aNil)))) [13]) (stU hs ch bu (some (.dat (.list ((cntI hs ch bu).map .int)))) o4 (some (.dat (.list ((bu.map (manyI hs ch)).map .int)))) (some (.dat (.list ((someK hs (doorsB hs ch bu)).map iT)))) o7 none o11) =
      some (.list ((List.range (bu.length + 2)).map fun (k : Nat) => .int ((cntI hs ch bu).count (k : Int) : Nat))) := fun o7 => by
    refine frzE_run (lc_runM (xs := List.range (bu.length + 2)) (enc := fun k => .int (k : Nat)) (f := fun k => .int ((cntI hs ch bu).count (k : Int) : Nat)) (er rfl) (by rw [List.length_range]; omega) fun k _ => ⟨_, rfl, ?_⟩)
    rw [← c.just k]
    exact (calE_run (ds := [iT hs, .list ((doorsB hs ch bu).map dT), .int (k : Int)]) rfl).trans (hmj_run (fun i hi => by have := hh04 i hi; omega) (.inl rfl) c.dk (by omega) k)
  refine (seq_nx (app_run rfl (s8 _) (by simp))).trans ?_
  refine frz_run rfl ?_
  -- the first of the bunch
  obtain ⟨b0, bs, rfl⟩ : ∃ b0 bs, bu = b0 :: bs := by
    cases bu with
    | nil => exact absurd rfl hb
    | cons b0 bs => exact ⟨b0, bs, rfl⟩
  have hb0 : b0 ∈ b0 :: bs := List.mem_cons_self
  have hne := door_ne (c.keysB hb0) c.h4 (by simp)
  have hk0 := c.dk _ (List.mem_map_of_mem hb0)
  -- what is added to got
  generalize hL : (doorB hs ch b0).map lastI = last
  have hlast : ((teethC hs).filter fun t => lb hs ch t b0).getLast? = some last := by
    have := last_one (c.gs _ (List.mem_map_of_mem hb0)) hne
    rw [hL] at this
    rw [← this]
    congr 1
    exact (List.filter_congr fun t ht => c.opens hb0 (c.tl ht)).symm
  have hll : last.length ≤ 100 := by
    rw [← hL, List.length_map]
    exact hk0.2
  have s9 : ∀ g7 : List PyData, g7.length ≤ 100 → op2 addD (vE 7) (frzE (lstL (aCons (frzE (lcL (rngL (calE minD (aCons (cE (.int 5)) (aCons (calE lenD (aCons (vE 6) aNil)) aNil)))) (gN 13) yesT (calE (onD φ_nth_of_some) (aCons (vE 10) (aCons (vE 13) aNil))) [13])) (aCons (calE (onD φ_nth_opener) (aCons (op2 ixD (vE 10) (cE (.int 0))) (aCons (op2 subD (op2 ixD (vE 5) (cE (.int 0))) (cE (.int 1))) aNil))) aNil))))
      (stU hs ch (b0 :: bs) (some (.dat (.list ((cntI hs ch (b0 :: bs)).map .int)))) o4 (some (.dat (.list (((b0 :: bs).map (manyI hs ch)).map .int)))) (some (.dat (.list ((someK hs (doorsB hs ch (b0 :: bs))).map iT)))) (some (.dat (.list g7))) none o11) = some (.list (g7 ++ [.list (((someK hs (doorsB hs ch (b0 :: bs))).take 5).map iT), iT last])) := by
    intro g7 hg7
    generalize hS : someK hs (doorsB hs ch (b0 :: bs)) = S
    have eS : ∀ {ρ}, vE 6 ρ = some (.list (S.map iT)) → calE minD (aCons (cE (.int 5)) (aCons (calE lenD (aCons (vE 6) aNil)) aNil)) ρ = some (.int ((min 5 S.length : Nat) : Int)) := fun {ρ} h => by
      have e1 : calE lenD (aCons (vE 6) aNil) ρ = some (.int (S.length : Int)) := by
        rw [cal1_run h]
        show some (PyData.int ((S.map iT).length : Int)) = _
        rw [List.length_map]
      rw [calE_run (ds := [.int 5, .int (S.length : Int)]) (aCons_run rfl (aCons_run e1 rfl))]
      show some (PyData.int (if (S.length : Int) < 5 then (S.length : Int) else 5)) = _
      congr 2
      split <;> omega
    have e1 : frzE (lcL (rngL (calE minD (aCons (cE (.int 5)) (aCons (calE lenD (aCons (vE 6) aNil)) aNil)))) (gN 13) yesT (calE (onD φ_nth_of_some) (aCons (vE 10) (aCons (vE 13) aNil))) [13]) (stU hs ch (b0 :: bs) (some (.dat (.list ((cntI hs ch (b0 :: bs)).map .int)))) o4 (some (.dat (.list (((b0 :: bs).map (manyI hs ch)).map .int)))) (some (.dat (.list (S.map iT)))) (some (.dat (.list g7))) none o11) = some (.list ((S.take 5).map iT)) := by
      have e : (S.take 5).map iT = (List.range (min 5 S.length)).map fun k => iT (S.getD k []) := by
        apply List.ext_getElem
        · simp
        · intro i h1 h2
          simp at h1
          simp [List.getD_eq_getElem?_getD, show i < S.length by omega]
      rw [e]
      refine frzE_run (lc_runM (xs := List.range (min 5 S.length)) (enc := fun k => .int (k : Nat)) (f := fun k => iT (S.getD k [])) (rngL_run (eS rfl) (by omega)) (by rw [List.length_range]; omega) fun k hk => ⟨_, rfl, ?_⟩)
      rw [List.mem_range] at hk
      obtain ⟨key, k1, k2⟩ := nth_some_run (hs := hs) (left := doorsB hs ch (b0 :: bs)) (Dd := .list ((doorsB hs ch (b0 :: bs)).map dT)) (.inl rfl) c.h4 (by omega) (fun d hd => ⟨c.gs d hd, c.dk d hd⟩) (by omega) (n := k) (by rw [hS]; omega)
      rw [hS] at k1
      have : S.getD k [] = key := by rw [List.getD_eq_getElem?_getD, k1]; rfl
      rw [this]
      exact (calE_run (ds := [.list ((doorsB hs ch (b0 :: bs)).map dT), .int (k : Int)]) rfl).trans k2
    have e2 : calE (onD φ_nth_opener) (aCons (op2 ixD (vE 10) (cE (.int 0))) (aCons (op2 subD (op2 ixD (vE 5) (cE (.int 0))) (cE (.int 1))) aNil)) (stU hs ch (b0 :: bs) (some (.dat (.list ((cntI hs ch (b0 :: bs)).map .int)))) o4 (some (.dat (.list (((b0 :: bs).map (manyI hs ch)).map .int)))) (some (.dat (.list (S.map iT)))) (some (.dat (.list g7))) none o11) = some (iT last) := by
      have a1 := (op2_run (h := ixD) (f := vE 10) (g := cE (.int 0)) (ρ := stU hs ch (b0 :: bs) (some (.dat (.list ((cntI hs ch (b0 :: bs)).map .int)))) o4 (some (.dat (.list (((b0 :: bs).map (manyI hs ch)).map .int)))) (some (.dat (.list (S.map iT)))) (some (.dat (.list g7))) none o11) (x := .list ((doorsB hs ch (b0 :: bs)).map dT)) (y := .int 0) rfl rfl).trans (ixD_lst (k := 0) (x := dT (doorB hs ch b0)) rfl)
      have a2 := (op2_run (h := ixD) (f := vE 5) (g := cE (.int 0)) (ρ := stU hs ch (b0 :: bs) (some (.dat (.list ((cntI hs ch (b0 :: bs)).map .int)))) o4 (some (.dat (.list (((b0 :: bs).map (manyI hs ch)).map .int)))) (some (.dat (.list (S.map iT)))) (some (.dat (.list g7))) none o11) (x := .list (((b0 :: bs).map (manyI hs ch)).map .int)) (y := .int 0) rfl rfl).trans (ixD_lst (k := 0) (x := .int (manyI hs ch b0)) rfl)
      have a3 := (op2_run (h := subD) (g := cE (.int 1)) (y := .int 1) a2 rfl).trans (show subD (.int (manyI hs ch b0)) (.int 1) = some (.int (manyI hs ch b0 - 1)) from rfl)
      rw [calE_run (aCons_run a1 (aCons_run a3 rfl)), ← c.many hb0, nth_opener_run (d := doorB hs ch b0) (fun p hp => ⟨hne p hp, hk0.1 p hp⟩) hk0.2, hL]
    refine (op2_run (x := .list g7) rfl (frzE_run (lst_runL (aCons_run e1 (aCons_run e2 rfl)) (by simp)))).trans ?_
    exact addD_lst (by simp only [List.length_cons, List.length_nil]; omega)
  refine (seq_nx (setS_run (s9 _ (by simp)))).trans ?_
  -- due
  have hsl : ∀ {ρ}, vE 6 ρ = some (.list ((someK hs (doorsB hs ch (b0 :: bs))).map iT)) → calE lenD (aCons (vE 6) aNil) ρ = some (.int ((someK hs (doorsB hs ch (b0 :: bs))).length : Int)) := fun h => by
    rw [cal1_run h]
    show some (PyData.int (((someK hs (doorsB hs ch (b0 :: bs))).map iT).length : Int)) = _
    rw [List.length_map]
  have s10 : ∀ g7 : Option Cell, lstL (aCons (vE 5) (aCons (calE lenD (aCons (vE 6) aNil)) (aCons (op2 cntD (vE 3) (calE lenD (aCons (vE 2) aNil))) (aCons (frzE (lcL (rngL (op2 addD (calE lenD (aCons (vE 2) aNil)) (cE (.int 2)))) (gN 13) yesT (op2 cntD (vE 3) (vE 13)) [13])) (aCons (slE (vE 6) noO (someO (cE (.int 5)))) aNil)))))
      (stU hs ch (b0 :: bs) (some (.dat (.list ((cntI hs ch (b0 :: bs)).map .int)))) o4 (some (.dat (.list (((b0 :: bs).map (manyI hs ch)).map .int)))) (some (.dat (.list ((someK hs (doorsB hs ch (b0 :: bs))).map iT)))) g7 none o11) =
      some [.list (((b0 :: bs).map (manyI hs ch)).map .int), .int ((someK hs (doorsB hs ch (b0 :: bs))).length : Int), .int ((cntI hs ch (b0 :: bs)).count ((b0 :: bs).length : Int) : Nat), .list ((List.range ((b0 :: bs).length + 2)).map fun (k : Nat) => .int ((cntI hs ch (b0 :: bs)).count (k : Int) : Nat)), .list (((someK hs (doorsB hs ch (b0 :: bs))).take 5).map iT)] := fun g7 => by
    refine lst_runL (aCons_run rfl (aCons_run (hsl rfl) (aCons_run ((op2_run (x := .list ((cntI hs ch (b0 :: bs)).map .int)) rfl (el rfl)).trans cnt_run) (aCons_run (frzE_run (lc_runM (xs := List.range ((b0 :: bs).length + 2)) (enc := fun k => .int (k : Nat)) (f := fun k => .int ((cntI hs ch (b0 :: bs)).count (k : Int) : Nat)) (er rfl) (by rw [List.length_range]; omega) fun k _ => ⟨_, rfl, (op2_run (x := .list ((cntI hs ch (b0 :: bs)).map .int)) (y := .int (k : Int)) rfl rfl).trans cnt_run⟩)) (aCons_run ?_ rfl))))) (by simp)
    show some (PyData.list (cutD ((someK hs (doorsB hs ch (b0 :: bs))).map iT) none (some 5))) = _
    have := take_cut ((someK hs (doorsB hs ch (b0 :: bs))).map iT) 5
    rw [show ((5 : Nat) : Int) = 5 from rfl] at this
    rw [this, List.map_take]
  refine (seq_nx (setO_run (s10 _))).trans ?_
  have s11 : ∀ g7 d8 : Option Cell, op2 ixD (frzE (lcL (itE (vE 9)) (gN 4) (tstE (calE (onD φ_L_lets) (aCons (vE 1) (aCons (vE 4) (aCons (op2 ixD (vE 2) (cE (.int 0))) aNil))))) (vE 4) [4])) (op1 negD (cE (.int 1))) (stU hs ch (b0 :: bs) (some (.dat (.list ((cntI hs ch (b0 :: bs)).map .int)))) o4 (some (.dat (.list (((b0 :: bs).map (manyI hs ch)).map .int)))) (some (.dat (.list ((someK hs (doorsB hs ch (b0 :: bs))).map iT)))) g7 d8 o11) = some (iT last) := fun g7 d8 => by
    have e1 : frzE (lcL (itE (vE 9)) (gN 4) (tstE (calE (onD φ_L_lets) (aCons (vE 1) (aCons (vE 4) (aCons (op2 ixD (vE 2) (cE (.int 0))) aNil))))) (vE 4) [4]) (stU hs ch (b0 :: bs) (some (.dat (.list ((cntI hs ch (b0 :: bs)).map .int)))) o4 (some (.dat (.list (((b0 :: bs).map (manyI hs ch)).map .int)))) (some (.dat (.list ((someK hs (doorsB hs ch (b0 :: bs))).map iT)))) g7 d8 o11) = some (.list (((teethC hs).filter fun t => lb hs ch t b0).map iT)) := by
      refine frzE_run (lc_run (xs := teethC hs) (enc := iT) (p := fun t => lb hs ch t b0) (f := iT) rfl (by omega) fun t ht => ?_)
      refine ⟨[some (.dat (iT hs)), some (.dat (kT ch)), some (.nt ((b0 :: bs).map iT)), some (.dat (.list ((cntI hs ch (b0 :: bs)).map .int))), some (.dat (iT t)), some (.dat (.list (((b0 :: bs).map (manyI hs ch)).map .int))), some (.dat (.list ((someK hs (doorsB hs ch (b0 :: bs))).map iT))), g7, d8, some (.dat (.list ((teethC hs).map iT))), some (.dat (.list ((doorsB hs ch (b0 :: bs)).map dT))), o11, none, none, none], rfl, tst_runB ?_, fun _ => rfl⟩
      exact (calE_run (ds := [kT ch, iT t, iT b0]) (aCons_run rfl (aCons_run rfl (aCons_run ((op2_run (x := kT (b0 :: bs)) (y := .int 0) rfl rfl).trans ix0) rfl)))).trans (lets_run (by omega) c.cl (by omega) (c.tl ht) (c.bl b0 hb0))
    refine (op2_run (y := .int (-1)) e1 rfl).trans ?_
    show atI (((teethC hs).filter fun t => lb hs ch t b0).map iT) (-1) = _
    generalize (teethC hs).filter (fun t => lb hs ch t b0) = l at hlast
    cases l with
    | nil => cases hlast
    | cons x xs =>
      unfold atI ixN
      rw [if_neg (by decide), if_pos (by simp only [List.length_map, List.length_cons]; omega)]
      show ((x :: xs).map iT)[_]? = _
      rw [List.getElem?_map]
      have : (((x :: xs).map iT).length + (-1 : Int)).toNat = (x :: xs).length - 1 := by simp only [List.length_map, List.length_cons]; omega
      have h2 : (-1 + (((x :: xs).map iT).length : Int)).toNat = (x :: xs).length - 1 := by simp only [List.length_map, List.length_cons]; omega
      first | rw [this, ← List.getLast?_eq_getElem?, hlast] | rw [h2, ← List.getLast?_eq_getElem?, hlast]
      rfl
  refine (seq_nx (app_run rfl (s11 _ _) (by simp))).trans ?_
  refine frz_run rfl (retS_run ?_)
  have hsame := side_ok c hll
  have hallT := hall.resolve_right hb
  refine andE_run (a := true) (b := true) ((calE_run (aCons_run (d := .list (sideD hs ch (b0 :: bs) last)) ?_ (aCons_run (d := .list (sideD hs ch (b0 :: bs) last)) ?_ rfl))).trans hsame) fun _ => (calC_run (cs := [.dat (iT hs), .dat (kT ch), .nt ((b0 :: bs).map iT)]) ?_).trans hallT
  · rfl
  · rfl
  · rfl
end
end U
set_option maxHeartbeats 4000000
/-! M15: the hall: names, people, rooms, is_hall. -/
namespace U
open PySem PySem.Spec PyProof.Rows L2
def matesL : List Str := ["ha", "hb", "hc"]
def tagsL : List Str := ["ra", "rb", "rc", "rd", "re"]
def ltS (x y : Str) : Prop := x.cps.toList < y.cps.toList
instance (x y : Str) : Decidable (ltS x y) := inferInstanceAs (Decidable (x.cps.toList < y.cps.toList))
theorem names_all : (matesL ++ tagsL).Pairwise ltS := by decide
def mts (ch : List (List Int)) : List Str := matesL.take ch.length
def tgs (bu : List (List Int)) : List Str := tagsL.take bu.length
def nms (ch bu : List (List Int)) : List Str := mts ch ++ tgs bu
theorem names_pw (ch bu : List (List Int)) : (nms ch bu).Pairwise ltS := names_all.sublist ((List.take_sublist _ _).append (List.take_sublist _ _))
theorem ltS_ne {x y : Str} (h : ltS x y) : x ≠ y := fun e => by subst e; exact List.lt_irrefl _ h
theorem names_nd (ch bu : List (List Int)) : (nms ch bu).Nodup := (names_pw ch bu).imp ltS_ne
theorem names_mem {ch bu : List (List Int)} {x : Str} (h : x ∈ nms ch bu) : x ∈ matesL ++ tagsL := ((List.take_sublist _ _).append (List.take_sublist _ _)).subset h
theorem name_ok {x : Str} (h : x ∈ matesL ++ tagsL) : onD φ_is_name [.str x] = some (.bool true) ∧ (PyData.str x).canLay0 = true := by
  have e : matesL ++ tagsL = (["ha", "hb", "hc", "ra", "rb", "rc", "rd", "re"] : List Str) := rfl
  rw [e] at h
  simp only [List.mem_cons, List.not_mem_nil, or_false] at h
  rcases h with rfl | rfl | rfl | rfl | rfl | rfl | rfl | rfl <;> exact ⟨rfl, by decide +kernel⟩
theorem pn_str {x : Str} (h : (PyData.str x).canLay0 = true) : PnN 0 (.str x) := ⟨h, by simp [PyData.depth], rfl⟩
theorem str_inj {x y : Str} (h : PyData.str x = .str y) : x = y := PyData.str.inj h
/-! people, rooms -/
def pD (p : Str × List Int) : PyData := .tuple [.str p.1, iT p.2]
def rD (r : Str × List Str) : PyData := .tuple [.str r.1, .tuple (r.2.map .str)]
def ppl (ch bu : List (List Int)) : List (Str × List Int) := (mts ch).zip ch ++ (tgs bu).zip bu
def rms (ch bu : List (List Int)) : List (Str × List Str) := (tgs bu).map fun t => (t, mts ch ++ [t])
def hallD (hs : List Int) (ch bu : List (List Int)) : PyData := .tuple [iT hs, .tuple ((ppl ch bu).map pD), .tuple ((rms ch bu).map rD)]
section
variable {hs : List Int} {ch bu : List (List Int)}
theorem mts_len (c : Case hs ch bu) : (mts ch).length = ch.length := by
  unfold mts
  rw [List.length_take]
  have : matesL.length = 3 := rfl
  have := c.c3
  omega
theorem tgs_len (c : Case hs ch bu) : (tgs bu).length = bu.length := by
  unfold tgs
  rw [List.length_take]
  have : tagsL.length = 5 := rfl
  have := c.b5
  omega
theorem ppl_names (c : Case hs ch bu) : (ppl ch bu).map (·.1) = nms ch bu := by
  unfold ppl nms
  rw [List.map_append, List.map_fst_zip (by rw [mts_len c]; exact Nat.le_refl _), List.map_fst_zip (by rw [tgs_len c]; exact Nat.le_refl _)]
theorem ppl_keys (c : Case hs ch bu) : (ppl ch bu).map (·.2) = ch ++ bu := by
  unfold ppl
  rw [List.map_append, List.map_snd_zip (by rw [mts_len c]; exact Nat.le_refl _), List.map_snd_zip (by rw [tgs_len c]; exact Nat.le_refl _)]
theorem ppl_key (c : Case hs ch bu) {p : Str × List Int} (hp : p ∈ ppl ch bu) : KeyOf hs p.2 := by
  have : p.2 ∈ ch ++ bu := by rw [← ppl_keys c]; exact List.mem_map_of_mem hp
  rcases List.mem_append.mp this with h | h
  · exact c.ck _ h
  · exact c.bk _ h
theorem ppl_name (c : Case hs ch bu) {p : Str × List Int} (hp : p ∈ ppl ch bu) : p.1 ∈ nms ch bu := by
  rw [← ppl_names c]; exact List.mem_map_of_mem hp
theorem ppl_len (c : Case hs ch bu) : (ppl ch bu).length = ch.length + bu.length := by
  have := congrArg List.length (ppl_keys c)
  rw [List.length_map, List.length_append] at this
  exact this
/-! order -/
theorem dle_str {x y : Str} (h : ltS x y) : dle (.str x) (.str y) = true := by
  rw [dle_eq, PySem.W.keyToks, PySem.W.keyToks, PyProof.Rows.lex_cons]
  show (!(decide (y.cps.toList < x.cps.toList) || (!decide (x.cps.toList < y.cps.toList) && false))) = true
  rw [decide_eq_false (List.lt_asymm h), Bool.and_false]
  rfl
theorem dle_pD {p q : Str × List Int} (h : ltS p.1 q.1) : dle (pD p) (pD q) = true := by
  have e : ∀ p : Str × List Int, PySem.W.keyToks (pD p) = Sum.inl 1 :: Sum.inr p.1.cps.toList :: PySem.W.keyToksAll [iT p.2] := fun p => by
    unfold pD
    rw [PySem.W.keyToks, PySem.W.keyToksAll, PySem.W.keyToks]
    rfl
  rw [dle_eq, e, e, PyProof.Rows.lex_self, PyProof.Rows.lex_cons]
  show (!(decide (q.1.cps.toList < p.1.cps.toList) || (!decide (p.1.cps.toList < q.1.cps.toList) && _))) = true
  rw [decide_eq_false (List.lt_asymm h), decide_eq_true (show p.1.cps.toList < q.1.cps.toList from h)]
  rfl
theorem ppl_pw (c : Case hs ch bu) : (ppl ch bu).Pairwise (fun p q => ltS p.1 q.1) := by
  have := names_pw ch bu
  rw [← ppl_names c] at this
  exact List.pairwise_map.mp this
theorem srt_ppl (c : Case hs ch bu) : srt ((ppl ch bu).map pD) = (ppl ch bu).map pD := srt_self (List.Pairwise.map _ (fun _ _ h => dle_pD h) (ppl_pw c))
theorem srt_strs {l : List Str} (h : l.Pairwise ltS) : srt (l.map .str) = l.map .str := srt_self (List.Pairwise.map _ (fun _ _ h => dle_str h) h)
theorem srtOk_strs {l : List Str} (h : ∀ x ∈ l, (PyData.str x).canLay0 = true) (hl : l.length ≤ 100000) : SrtOk (l.map .str) := by
  refine ⟨?_, .inr ?_, ?_, by rw [List.length_map]; exact hl⟩
  · intro d hd d' hd'
    obtain ⟨r, _, rfl⟩ := List.mem_map.mp hd
    obtain ⟨r', _, rfl⟩ := List.mem_map.mp hd'
    rfl
  · intro d hd
    obtain ⟨r, hr, rfl⟩ := List.mem_map.mp hd
    exact ⟨(fun e => by cases e), (fun xs e => by cases e)⟩
  · intro d hd
    obtain ⟨r, hr, rfl⟩ := List.mem_map.mp hd
    exact ⟨h r hr, by simp [PyData.depth]⟩
theorem pnn_pD {p : Str × List Int} (h : (PyData.str p.1).canLay0 = true) : PnN 2 (pD p) := pnn_tup fun d hd => by
  simp only [List.mem_cons, List.not_mem_nil, or_false] at hd
  rcases hd with rfl | rfl
  · exact (pn_str h).mono (by decide)
  · exact pnn_iT _
theorem srtOk_ppl {l : List (Str × List Int)} (h : ∀ x ∈ l, (PyData.str x.1).canLay0 = true) (hl : l.length ≤ 100000) : SrtOk (l.map pD) := by
  refine ⟨?_, .inl ?_, ?_, by rw [List.length_map]; exact hl⟩
  · intro d hd d' hd'
    obtain ⟨r, _, rfl⟩ := List.mem_map.mp hd
    obtain ⟨r', _, rfl⟩ := List.mem_map.mp hd'
    show PySem.W.alike (.tuple [.str r.1, iT r.2]) (.tuple [.str r'.1, iT r'.2]) = true
    rw [PySem.W.alike, PySem.W.alikeAll, PySem.W.alikeAll, PySem.W.alikeAll, PySem.W.alike]
    show (true && (PySem.W.alike (.tuple (r.2.map .int)) (.tuple (r'.2.map .int)) && true)) = true
    rw [PySem.W.alike, alike_ints]
    rfl
  · intro d hd
    obtain ⟨r, hr, rfl⟩ := List.mem_map.mp hd
    exact ⟨_, _, rfl⟩
  · intro d hd
    obtain ⟨r, hr, rfl⟩ := List.mem_map.mp hd
    have := pnn_pD (h r hr)
    exact ⟨this.lay, by have := this.dep; omega⟩
theorem sortA_run {ds : List PyData} (h : SrtOk ds) : sortAD [.list ds] = some (srt ds) := by
  have e : sortD [.list ds] = some (srt ds) := if_pos h
  unfold sortAD
  rw [e]
theorem sorted_run {f : SE} {ρ : Rho} {ds : List PyData} (hf : f ρ = some (.list ds)) (h : SrtOk ds) : calL sortAD (aCons f aNil) ρ = some (srt ds) := by
  unfold calL aCons
  rw [hf]
  exact sortA_run h
/-! is_hall -/
theorem is_depths_run (h1 : 1 ≤ hs.length) (hl : hs.length ≤ 100) (h : ∀ x ∈ hs, 2 ≤ x) : onD φ_is_depths [iT hs] = some (.bool true) := by
  show runC 2 1 F_is_depths [.dat (iT hs)] = _
  refine run_ret rfl (retS_run ?_)
  refine andE_run (a := true) (b := true) rfl fun _ => andE_run (a := true) (b := true) ?_ fun _ => ?_
  · have e : calE lenD (aCons (vE 0) aNil) (startC 2 [.dat (iT hs)]) = some (.int (hs.length : Int)) := by
      rw [cal1_run (d := iT hs) rfl]
      show some (PyData.int ((hs.map PyData.int).length : Int)) = _
      rw [List.length_map]
    rw [op2_run (y := .int 0) e rfl]
    show some (PyData.bool (decide ((0 : Int) < (hs.length : Int)))) = _
    rw [decide_eq_true (by omega)]
  · rw [all_lc (xs := hs) (enc := .int) (p := fun _ => true) rfl (by omega) fun x hx => ?_, all_true]
    refine ⟨[some (.dat (iT hs)), some (.dat (.int x))], rfl, ?_⟩
    refine andE_run (a := true) (b := true) ((cal1_run (d := .int x) rfl).trans (φ1_is_number x)) fun _ => ?_
    rw [op2_run (x := .int x) (y := .int 2) rfl rfl]
    show some (PyData.bool (decide ((2 : Int) ≤ x))) = _
    rw [decide_eq_true (h x hx)]
theorem zip_key {hs r : List Int} (k : KeyOf hs r) : ∀ p ∈ r.zip hs, 0 ≤ p.1 ∧ p.1 < p.2 := by
  induction k with
  | nil => intro p hp; cases hp
  | cons q _ ih =>
    intro p hp
    rw [List.zip_cons_cons] at hp
    rcases List.mem_cons.mp hp with rfl | hp
    · exact q
    · exact ih p hp
theorem is_key_run {r : List Int} (k : KeyOf hs r) (hl : hs.length ≤ 100) : onD φ_is_key [iT hs, iT r] = some (.bool true) := by
  have hlen := (paired_get k).1
  show runC 4 2 F_is_key [.dat (iT hs), .dat (iT r)] = _
  refine run_ret rfl ?_
  have e1 : ∀ {ρ}, vE 1 ρ = some (iT r) → calE lenD (aCons (vE 1) aNil) ρ = some (.int (r.length : Int)) := fun h => by
    rw [cal1_run h]
    show some (PyData.int ((r.map PyData.int).length : Int)) = _
    rw [List.length_map]
  have e0 : ∀ {ρ}, vE 0 ρ = some (iT hs) → calE lenD (aCons (vE 0) aNil) ρ = some (.int (hs.length : Int)) := fun h => by
    rw [cal1_run h]
    show some (PyData.int ((hs.map PyData.int).length : Int)) = _
    rw [List.length_map]
  refine (seq_nx ((ifS_f (orT_run (a := false) (b := false) (notT_run (b := true) rfl) fun _ => tst_runB ?_)).trans rfl)).trans (retS_run ?_)
  · rw [op2_run (e1 rfl) (e0 rfl), neD_int, decide_eq_false (by omega)]
  · rw [all_lc (xs := r.zip hs) (enc := fun p => .tuple [.int p.1, .int p.2]) (p := fun _ => true) ?_ (by rw [List.length_zip]; omega) fun p hp => ?_, all_true]
    · rw [zip_tup (xs := r.map .int) (ys := hs.map .int) rfl rfl, List.zip_map, List.map_map] <;> rfl
    · obtain ⟨p0, p1⟩ := zip_key k p hp
      refine ⟨[some (.dat (iT hs)), some (.dat (iT r)), some (.dat (.int p.1)), some (.dat (.int p.2))], rfl, ?_⟩
      refine andE_run (a := true) (b := true) ((cal1_run (d := .int p.1) rfl).trans (φ1_is_number p.1)) fun _ => ?_
      show ((some (decide ((0 : Int) ≤ p.1))).bind fun b => if b = true then some (PyData.bool (decide (p.1 < p.2))) else some (.bool false)) = _
      rw [decide_eq_true p0, decide_eq_true p1]
      rfl
theorem is_person_run {p : Str × List Int} (k : KeyOf hs p.2) (hn : p.1 ∈ matesL ++ tagsL) (hl : hs.length ≤ 100) : onD φ_is_person [iT hs, pD p] = some (.bool true) := by
  show runC 2 2 F_is_person [.dat (iT hs), .dat (pD p)] = _
  refine run_ret rfl ?_
  refine (seq_nx ((ifS_f (orT_run (a := false) (b := false) (notT_run (b := true) rfl) fun _ => rfl)).trans rfl)).trans (retS_run ?_)
  refine andE_run (a := true) (b := true) ((cal1_run ((op2_run (x := pD p) (y := .int 0) rfl rfl).trans ix0)).trans (name_ok hn).1) fun _ => ?_
  exact (calE_run (aCons_run (d := iT hs) rfl (aCons_run ((op2_run (x := pD p) (y := .int 1) rfl rfl).trans ix1) rfl))).trans (is_key_run k hl)
theorem risB_of : ∀ {l : List Str}, l.Pairwise ltS → risB l = true
  | [], _ => rfl
  | [_], _ => rfl
  | x :: y :: r, h => by
    obtain ⟨h1, h2⟩ := List.pairwise_cons.mp h
    rw [risB, decide_eq_true (show x.cps.toList < y.cps.toList from h1 y List.mem_cons_self), risB_of h2]
    rfl
theorem is_room_run {N : List Str} {r : Str × List Str} (hN : ∀ x ∈ N, x ∈ matesL ++ tagsL) (hNl : N.length ≤ 100) (hn : r.1 ∈ matesL ++ tagsL) (h1 : r.2 ≠ []) (hl : r.2.length ≤ 100) (hm : ∀ x ∈ r.2, x ∈ N) (hp : r.2.Pairwise ltS) : onD φ_is_room [.list (N.map .str), rD r] = some (.bool true) := by
  show runC 3 2 F_is_room [.dat (.list (N.map .str)), .dat (rD r)] = _
  have i0 : ∀ {ρ}, vE 1 ρ = some (rD r) → op2 ixD (vE 1) (cE (.int 0)) ρ = some (.str r.1) := fun h => (op2_run h rfl).trans ix0
  have i1 : ∀ {ρ}, vE 1 ρ = some (rD r) → op2 ixD (vE 1) (cE (.int 1)) ρ = some (.tuple (r.2.map .str)) := fun h => (op2_run h rfl).trans ix1
  refine run_ret rfl ?_
  refine (seq_nx ((ifS_f (orT_run (a := false) (b := false) (notT_run (b := true) rfl) fun _ => orT_run (a := false) (b := false) rfl fun _ => notT_run (b := true) (tst_runB ((cal1_run (i0 rfl)).trans (name_ok hn).1)))).trans rfl)).trans ?_
  refine (seq_nx ((ifS_f (orT_run (a := false) (b := false) (notT_run (b := true) (tst_runB ((op1_run (i1 rfl)).trans rfl))) fun _ => tst_runB ?_)).trans rfl)).trans (retS_run ?_)
  · have e : calE lenD (aCons (op2 ixD (vE 1) (cE (.int 1))) aNil) (startC 3 [.dat (.list (N.map .str)), .dat (rD r)]) = some (.int (r.2.length : Int)) := by
      rw [cal1_run (i1 rfl)]
      show some (PyData.int ((r.2.map PyData.str).length : Int)) = _
      rw [List.length_map]
    have := List.length_pos_iff.mpr h1
    refine (op2_run e rfl).trans ?_
    rw [eqD_int, decide_eq_false (by omega)]
  · refine andE_run (a := true) (b := true) ?_ fun _ => ?_
    · rw [all_lc (xs := r.2) (enc := .str) (p := fun _ => true) (itE_tup (i1 rfl)) (by omega) fun x hx => ?_, all_true]
      refine ⟨[some (.dat (.list (N.map .str))), some (.dat (rD r)), some (.dat (.str x))], rfl, andE_run (a := true) (b := true) rfl fun _ => ?_⟩
      rw [op2_run (x := .str x) (y := .list (N.map .str)) rfl rfl]
      refine inD_lst ((pn_str (name_ok (hN x (hm x hx))).2).pn (by decide)) ((pnn_lst (n := 0) fun d hd => ?_).pn (by decide)) ?_
      · obtain ⟨y, hy, rfl⟩ := List.mem_map.mp hd
        exact pn_str (name_ok (hN y hy)).2
      · exact ⟨fun _ => List.mem_map_of_mem (hm x hx), fun _ => rfl⟩
    · rw [cal1_run (i1 rfl), rises_tup _ (by omega), risB_of hp]
theorem rms_room (c : Case hs ch bu) {r : Str × List Str} (hr : r ∈ rms ch bu) : r.1 ∈ tgs bu ∧ r.2 = mts ch ++ [r.1] ∧ r.2.Pairwise ltS ∧ (∀ x ∈ r.2, x ∈ nms ch bu) ∧ r.2.length ≤ 4 := by
  obtain ⟨t, ht, rfl⟩ := List.mem_map.mp hr
  have hsub : (mts ch ++ [t]).Sublist (nms ch bu) := (List.Sublist.refl _).append (List.singleton_sublist.mpr ht)
  refine ⟨ht, rfl, (names_pw ch bu).sublist hsub, fun x hx => hsub.subset hx, ?_⟩
  show (mts ch ++ [t]).length ≤ 4
  rw [List.length_append, List.length_singleton, mts_len c]
  have := c.c3
  omega
theorem tgs_pw (bu : List (List Int)) : (tgs bu).Pairwise ltS := (names_pw [] bu).sublist (by unfold nms; exact List.sublist_append_right _ _)
theorem is_hall_run (c : Case hs ch bu) (hb : bu ≠ []) : onD φ_is_hall [hallD hs ch bu] = some (.bool true) := by
  have n4 := c.n4
  have c3 := c.c3
  have b5 := c.b5
  have pl := ppl_len c
  have c1 := c.c1
  have nl : (nms ch bu).length ≤ 8 := by unfold nms; rw [List.length_append, mts_len c, tgs_len c]; omega
  show runC 6 1 F_is_hall [.dat (hallD hs ch bu)] = _
  refine run_ret rfl ?_
  have i0 : ∀ {ρ}, vE 0 ρ = some (hallD hs ch bu) → op2 ixD (vE 0) (cE (.int 0)) ρ = some (iT hs) := fun h => (op2_run h rfl).trans ix0
  refine (seq_nx ((ifS_f (orT_run (a := false) (b := false) (notT_run (b := true) rfl) fun _ => orT_run (a := false) (b := false) rfl fun _ => notT_run (b := true) (tst_runB ((cal1_run (i0 rfl)).trans (is_depths_run c.d.1 (by omega) fun x hx => (c.d.2.2 x hx).1))))).trans rfl)).trans ?_
  have s2 : asgS (vE 0) (gT3 2 3 4) (startC 6 [.dat (hallD hs ch bu)]) = some (.nx [some (.dat (hallD hs ch bu)), none, some (.dat (iT hs)), some (.dat (.tuple ((ppl ch bu).map pD))), some (.dat (.tuple ((rms ch bu).map rD))), none]) := rfl
  refine (seq_nx s2).trans ?_
  have e1 : ∀ {ρ}, vE 3 ρ = some (.tuple ((ppl ch bu).map pD)) → calE lenD (aCons (vE 3) aNil) ρ = some (.int ((ppl ch bu).length : Int)) := fun h => by
    rw [cal1_run h]
    show some (PyData.int (((ppl ch bu).map pD).length : Int)) = _
    rw [List.length_map]
  refine (seq_nx ((ifS_f (orT_run (a := false) (b := false) (notT_run (b := true) rfl) fun _ => orT_run (a := false) (b := false) (tst_runB ?_) fun _ => notT_run (b := true) (tst_runB ?_))).trans rfl)).trans ?_
  · refine (op2_run (e1 rfl) rfl).trans ?_
    rw [eqD_int, decide_eq_false (by omega)]
  · rw [all_lc (xs := ppl ch bu) (enc := pD) (p := fun _ => true) rfl (by omega) fun p hp => ?_, all_true]
    exact ⟨[some (.dat (hallD hs ch bu)), none, some (.dat (iT hs)), some (.dat (.tuple ((ppl ch bu).map pD))), some (.dat (.tuple ((rms ch bu).map rD))), some (.dat (pD p))], rfl, (calE_run (ds := [iT hs, pD p]) rfl).trans (is_person_run (ppl_key c hp) (names_mem (ppl_name c hp)) (by omega))⟩
  have s3 : frzE (lcL (itE (vE 3)) (gN 5) yesT (op2 ixD (vE 5) (cE (.int 0))) [5]) [some (.dat (hallD hs ch bu)), none, some (.dat (iT hs)), some (.dat (.tuple ((ppl ch bu).map pD))), some (.dat (.tuple ((rms ch bu).map rD))), none] = some (.list ((nms ch bu).map .str)) := by
    rw [← ppl_names c, List.map_map]
    exact frzE_run (lc_runM (xs := ppl ch bu) (enc := pD) (f := fun p => .str p.1) rfl (by omega) fun p hp => ⟨[some (.dat (hallD hs ch bu)), none, some (.dat (iT hs)), some (.dat (.tuple ((ppl ch bu).map pD))), some (.dat (.tuple ((rms ch bu).map rD))), some (.dat (pD p))], rfl, (op2_run (x := pD p) (y := .int 0) rfl rfl).trans ix0⟩)
  refine (seq_nx (setS_run s3)).trans ?_
  refine (seq_nx ((ifS_f (orT_run (a := false) (b := false) (notT_run (b := true) (tst_runB ?_)) fun _ => notT_run (b := true) rfl)).trans rfl)).trans (retS_run ?_)
  · refine (cal1_run (d := .list ((nms ch bu).map .str)) rfl).trans ?_
    rw [rises_lst _ (by omega), risB_of (names_pw ch bu)]
  have rl : (rms ch bu).length ≤ 5 := by unfold rms; rw [List.length_map, tgs_len c]; omega
  refine andE_run (a := true) (b := true) ?_ fun _ => ?_
  · rw [all_lc (xs := rms ch bu) (enc := rD) (p := fun _ => true) rfl (by omega) fun r hr => ?_, all_true]
    obtain ⟨r1, r2, r3, r4, r5⟩ := rms_room c hr
    refine ⟨[some (.dat (hallD hs ch bu)), some (.dat (.list ((nms ch bu).map .str))), some (.dat (iT hs)), some (.dat (.tuple ((ppl ch bu).map pD))), some (.dat (.tuple ((rms ch bu).map rD))), some (.dat (rD r))], rfl, ?_⟩
    exact (calE_run (ds := [.list ((nms ch bu).map .str), rD r]) rfl).trans (is_room_run (fun x hx => names_mem hx) (by omega) (names_mem (List.mem_append.mpr (.inr r1) : r.1 ∈ nms ch bu)) (by rw [r2]; simp) (by omega) r4 r3)
  · have e : frzE (lcL (itE (vE 4)) (gN 5) yesT (op2 ixD (vE 5) (cE (.int 0))) [5]) [some (.dat (hallD hs ch bu)), some (.dat (.list ((nms ch bu).map .str))), some (.dat (iT hs)), some (.dat (.tuple ((ppl ch bu).map pD))), some (.dat (.tuple ((rms ch bu).map rD))), none] = some (.list ((tgs bu).map .str)) := by
      have e : (tgs bu).map PyData.str = (rms ch bu).map fun r => .str r.1 := by unfold rms; rw [List.map_map] <;> rfl
      rw [e]
      exact frzE_run (lc_runM (xs := rms ch bu) (enc := rD) (f := fun r => .str r.1) rfl (by omega) fun r hr => ⟨[some (.dat (hallD hs ch bu)), some (.dat (.list ((nms ch bu).map .str))), some (.dat (iT hs)), some (.dat (.tuple ((ppl ch bu).map pD))), some (.dat (.tuple ((rms ch bu).map rD))), some (.dat (rD r))], rfl, (op2_run (x := rD r) (y := .int 0) rfl rfl).trans ix0⟩)
    refine (cal1_run e).trans ?_
    rw [rises_lst _ (by rw [tgs_len c]; omega), risB_of (tgs_pw bu)]
end
end U
set_option maxHeartbeats 4000000
/-! M16: the hall: who opens, strangers. -/
namespace U
open PySem PySem.Spec PyProof.Rows L2
/-! dicts -/
def kvF {X : Type} (f : X → PyData) (l : List (Str × X)) : List (PyData × PyData) := l.map fun p => (.str p.1, f p.2)
def prF {X : Type} (f : X → PyData) (p : Str × X) : PyData := .tuple [.str p.1, f p.2]
theorem dict_run {X : Type} {f : X → PyData} {l : List (Str × X)} (h : (l.map (·.1)).Nodup) : dictD [.list (l.map (prF f))] = some (.dict (kvF f l)) := by
  have e : ∀ l : List (Str × X), mapO pairKv (l.map (prF f)) = some (kvF f l) := by
    intro l
    induction l with
    | nil => rfl
    | cons p l ih =>
      show ((mapO pairKv (l.map (prF f))).map fun ys => (PyData.str p.1, f p.2) :: ys) = _
      rw [ih] <;> rfl
  show ((mapO pairKv (l.map (prF f))).bind fun kvs => if (kvs.map fun p => asS p.1).Nodup then some (PyData.dict kvs) else none) = _
  rw [e]
  show (if ((kvF f l).map fun p => asS p.1).Nodup then some (PyData.dict (kvF f l)) else none) = _
  rw [if_pos]
  unfold kvF
  rw [List.map_map]
  have : ((fun p : PyData × PyData => asS p.1) ∘ fun p : Str × X => (PyData.str p.1, f p.2)) = fun p => some p.1 := rfl
  rw [this]
  have := List.Pairwise.map (S := fun a b : Option Str => a ≠ b) some (fun a b hab z => hab (Option.some.inj z)) h
  rw [List.map_map] at this
  exact this
theorem look_run {X : Type} {f : X → PyData} : ∀ {l : List (Str × X)} {p : Str × X}, (l.map (·.1)).Nodup → p ∈ l → lookKv (kvF f l) p.1 = some (f p.2)
  | [], _, _, h => by cases h
  | q :: l, p, nd, h => by
    rw [List.map_cons, List.nodup_cons] at nd
    unfold lookKv kvF
    rw [List.map_cons, List.find?_cons]
    by_cases e : q.1 = p.1
    · have : q = p := by
        rcases List.mem_cons.mp h with rfl | h
        · rfl
        · exact absurd (List.mem_map_of_mem h) (e ▸ nd.1)
      subst this
      have : decide (asS (PyData.str q.1) = some q.1) = true := decide_eq_true rfl
      rw [this]
      rfl
    · have hp : p ∈ l := by
        rcases List.mem_cons.mp h with rfl | h
        · exact absurd rfl e
        · exact h
      have : decide (asS (PyData.str q.1) = some p.1) = false := decide_eq_false fun z => e (Option.some.inj z)
      rw [this]
      exact look_run nd.2 hp
theorem sortK_run {X : Type} {f : X → PyData} {l : List (Str × X)} (h : (l.map (·.1)).Pairwise ltS) (hl : l.length < 64) : sortAD [.dict (kvF f l)] = some ((l.map (·.1)).map .str) := by
  have e : ∀ l : List (Str × X), keysKv (kvF f l) = some (l.map (·.1)) := by
    intro l
    induction l with
    | nil => rfl
    | cons p l ih =>
      show ((keysKv (kvF f l)).map fun ys => p.1 :: ys) = _
      rw [ih] <;> rfl
  have e2 : sortKD [.dict (kvF f l)] = some ((l.map (·.1)).map .str) := by
    show ((keysKv (kvF f l)).bind fun ks => if ks.length < 64 then some ((ks.mergeSort leSt).map PyData.str) else none) = _
    rw [e]
    show (if (l.map (·.1)).length < 64 then some (((l.map (·.1)).mergeSort leSt).map PyData.str) else none) = _
    rw [if_pos (by rw [List.length_map]; exact hl), List.mergeSort_of_pairwise]
    refine h.imp fun {a b} hab => ?_
    unfold leSt
    rw [Bool.not_eq_true']
    exact decide_eq_false (List.lt_asymm hab)
  have e1 : sortD [.dict (kvF f l)] = none := rfl
  unfold sortAD
  rw [e1]
  exact e2
section
variable {hs : List Int} {ch bu : List (List Int)}
def MB (ch : List (List Int)) : List (Str × List Int) := (mts ch).zip ch
def TB (bu : List (List Int)) : List (Str × List Int) := (tgs bu).zip bu
theorem ppl_eq : ppl ch bu = MB ch ++ TB bu := rfl
theorem ppl_nd (c : Case hs ch bu) : ((ppl ch bu).map (·.1)).Nodup := by rw [ppl_names c]; exact names_nd ch bu
theorem MB_names (c : Case hs ch bu) : (MB ch).map (·.1) = mts ch := List.map_fst_zip (by rw [mts_len c]; exact Nat.le_refl _)
theorem MB_keys (c : Case hs ch bu) : (MB ch).map (·.2) = ch := List.map_snd_zip (by rw [mts_len c]; exact Nat.le_refl _)
theorem TB_names (c : Case hs ch bu) : (TB bu).map (·.1) = tgs bu := List.map_fst_zip (by rw [tgs_len c]; exact Nat.le_refl _)
theorem TB_keys (c : Case hs ch bu) : (TB bu).map (·.2) = bu := List.map_snd_zip (by rw [tgs_len c]; exact Nat.le_refl _)
theorem TB_len (c : Case hs ch bu) : (TB bu).length = bu.length := by
  have := congrArg List.length (TB_keys c)
  rwa [List.length_map] at this
theorem TB_key (c : Case hs ch bu) {p : Str × List Int} (hp : p ∈ TB bu) : p.2 ∈ bu := by rw [← TB_keys c]; exact List.mem_map_of_mem hp
theorem TB_name (c : Case hs ch bu) {p : Str × List Int} (hp : p ∈ TB bu) : p.1 ∈ tgs bu := by rw [← TB_names c]; exact List.mem_map_of_mem hp
theorem MB_key (c : Case hs ch bu) {p : Str × List Int} (hp : p ∈ MB ch) : p.2 ∈ ch := by rw [← MB_keys c]; exact List.mem_map_of_mem hp
theorem MB_name (c : Case hs ch bu) {p : Str × List Int} (hp : p ∈ MB ch) : p.1 ∈ mts ch := by rw [← MB_names c]; exact List.mem_map_of_mem hp
/-- rooms, by their owner -/
def roomOf (ch : List (List Int)) (p : Str × List Int) : Str × List Str := (p.1, mts ch ++ [p.1])
theorem rms_eq (c : Case hs ch bu) : rms ch bu = (TB bu).map (roomOf ch) := by
  unfold rms
  rw [← TB_names c, List.map_map]
  rfl
def sT (l : List Str) : PyData := .tuple (l.map .str)
theorem rD_eq (r : Str × List Str) : rD r = prF sT r := rfl
theorem pD_eq (p : Str × List Int) : pD p = prF iT p := rfl
theorem tu_pD (p : Str × List Int) : tu (pD p) = pD p := by
  unfold pD
  rw [tu, tuAll, tuAll, tuAll, tu_iT]
  rfl
theorem tu_sT (l : List Str) : tu (sT l) = sT l := by
  unfold sT
  rw [tu, tuAll_map, List.map_map]
  congr 1
theorem tu_rD (r : Str × List Str) : tu (rD r) = rD r := by
  show tu (.tuple [.str r.1, sT r.2]) = .tuple [.str r.1, sT r.2]
  rw [tu, tuAll, tuAll, tuAll, tu_sT]
  rfl
theorem tu_tup {X : Type} {f : X → PyData} (h : ∀ x, tu (f x) = f x) (l : List X) : tu (.tuple (l.map f)) = .tuple (l.map f) := by
  rw [tu, tuAll_map, List.map_map]
  congr 1
  exact List.map_congr_left fun x _ => h x
theorem ok_pD {p : Str × List Int} (h : p.2.length ≤ 100) : TuOk 2 (pD p) := .tup (by simp) fun x hx => by
  simp only [List.mem_cons, List.not_mem_nil, or_false] at hx
  rcases hx with rfl | rfl
  · exact .str _
  · exact tuOk_iT (by omega)
theorem ok_rD {r : Str × List Str} (h : r.2.length ≤ 100) : TuOk 2 (rD r) := .tup (by simp) fun x hx => by
  simp only [List.mem_cons, List.not_mem_nil, or_false] at hx
  rcases hx with rfl | rfl
  · exact .str _
  · exact .tup (by rw [List.length_map]; omega) fun y hy => by
      obtain ⟨z, _, rfl⟩ := List.mem_map.mp hy
      exact .str z
theorem key_len (c : Case hs ch bu) {p : Str × List Int} (hp : p ∈ ppl ch bu) : p.2.length = hs.length := ((paired_get (ppl_key c hp)).1).symm
theorem rms_names (c : Case hs ch bu) : ((rms ch bu).map (·.1)) = tgs bu := by unfold rms; rw [List.map_map]; exact List.map_id _
theorem rms_nd (c : Case hs ch bu) : ((rms ch bu).map (·.1)).Nodup := by
  rw [rms_names c]
  exact (tgs_pw bu).imp ltS_ne
theorem hall_i1 {f : SE} {ρ : Rho} (h : f ρ = some (hallD hs ch bu)) : op2 ixD f (cE (.int 1)) ρ = some (.tuple ((ppl ch bu).map pD)) := (op2_run h rfl).trans ix1
theorem hall_i2 {f : SE} {ρ : Rho} (h : f ρ = some (hallD hs ch bu)) : op2 ixD f (cE (.int 2)) ρ = some (.tuple ((rms ch bu).map rD)) := (op2_run (y := .int 2) h rfl).trans (ixD_tup (k := 2) rfl)
theorem tup_id {X : Type} {f : X → PyData} {xs : List X} (hf : ∀ x, ∃ l, f x = .tuple l) {it : SA} {o : Option Cell} (hit : it [o, none] = some (xs.map f)) (hl : xs.length ≤ 1000) : frzE (lcL it (gN 1) yesT (calE tupOfD (aCons (vE 1) aNil)) [1]) [o, none] = some (.list (xs.map f)) :=
  frzE_run (lc_runM (xs := xs) (enc := f) (f := f) hit (by omega) fun x _ => ⟨[o, some (.dat (f x))], rfl, by
    obtain ⟨l, e⟩ := hf x
    rw [cal1_run (d := f x) rfl, e]
    rfl⟩)
theorem keys_in_run (c : Case hs ch bu) : onD φ_keys_in [hallD hs ch bu] = some (.dict (kvF iT (ppl ch bu))) := by
  have pl := ppl_len c
  have c3 := c.c3
  have b5 := c.b5
  show runC 2 1 F_keys_in [.dat (hallD hs ch bu)] = _
  refine run_ret rfl (retS_run ?_)
  have e : calE (onD (φ_tupled 6)) (aCons (op2 ixD (vE 0) (cE (.int 1))) aNil) [some (.dat (hallD hs ch bu)), none] = some (.tuple ((ppl ch bu).map pD)) := by
    refine (cal1_run (hall_i1 rfl)).trans ?_
    rw [tupled_run 6 3 _ (by decide) (.tup (by rw [List.length_map]; omega) fun x hx => by
      obtain ⟨p, hp, rfl⟩ := List.mem_map.mp hx
      exact ok_pD (by rw [key_len c hp]; have := c.n4; omega)), tu_tup tu_pD]
  exact (cal1_run (tup_id (f := pD) (fun x => ⟨_, rfl⟩) (itE_tup e) (by omega))).trans (dict_run (f := iT) (ppl_nd c))
theorem sets_list (c : Case hs ch bu) : frzE (lcL (itE (calE (onD (φ_tupled 6)) (aCons (op2 ixD (vE 0) (cE (.int 2))) aNil))) (gN 1) yesT (calE tupOfD (aCons (vE 1) aNil)) [1]) [some (.dat (hallD hs ch bu)), none] = some (.list ((rms ch bu).map rD)) := by
  have rl : (rms ch bu).length ≤ 5 := by unfold rms; rw [List.length_map, tgs_len c]; exact c.b5
  have e : calE (onD (φ_tupled 6)) (aCons (op2 ixD (vE 0) (cE (.int 2))) aNil) [some (.dat (hallD hs ch bu)), none] = some (.tuple ((rms ch bu).map rD)) := by
    refine (cal1_run (hall_i2 rfl)).trans ?_
    rw [tupled_run 6 3 _ (by decide) (.tup (by rw [List.length_map]; omega) fun x hx => by
      obtain ⟨p, hp, rfl⟩ := List.mem_map.mp hx
      exact ok_rD (by have := (rms_room c hp).2.2.2.2; omega)), tu_tup tu_rD]
  exact tup_id (f := rD) (fun x => ⟨_, rfl⟩) (itE_tup e) (by omega)
theorem sets_in_run (c : Case hs ch bu) : onD φ_sets_in [hallD hs ch bu] = some (.dict (kvF sT (rms ch bu))) := by
  show runC 2 1 F_sets_in [.dat (hallD hs ch bu)] = _
  refine run_ret rfl (retS_run ?_)
  exact (cal1_run (sets_list c)).trans (dict_run (f := sT) (rms_nd c))
theorem setsK_run (c : Case hs ch bu) : ψ_sets_in [.dat (hallD hs ch bu)] = some (kvF sT (rms ch bu)) := by
  have h := dict_run (f := sT) (rms_nd c)
  have e : dictK [.list ((rms ch bu).map rD)] = some (kvF sT (rms ch bu)) := by
    have h2 : dictD [.list ((rms ch bu).map rD)] = some (.dict (kvF sT (rms ch bu))) := h
    unfold dictK
    rw [h2]
  show dicE (aCons (frzE (lcL (itE (calE (onD (φ_tupled 6)) (aCons (op2 ixD (vE 0) (cE (.int 2))) aNil))) (gN 1) yesT (calE tupOfD (aCons (vE 1) aNil)) [1])) aNil) [some (.dat (hallD hs ch bu)), none] = _
  unfold dicE
  rw [aCons_run (sets_list c) (rfl : aNil _ = some [])]
  exact e
/-- who opens p's room -/
def whoL (hs : List Int) (ch bu : List (List Int)) (b : List Int) : List (Str × List Int) := (ppl ch bu).filter fun q => opensB (doorB hs ch b) q.2
theorem dget_run {X : Type} {f : X → PyData} {l : List (Str × X)} {p : Str × X} (h : (l.map (·.1)).Nodup) (hp : p ∈ l) : dgetD (.dict (kvF f l)) (.str p.1) = some (f p.2) := look_run h hp
theorem openers_run (c : Case hs ch bu) {p : Str × List Int} (hp : p ∈ TB bu) : onD φ_openers [.dict (kvF iT (ppl ch bu)), sT (mts ch ++ [p.1])] = some (sT ((whoL hs ch bu p.2).map (·.1))) := by
  have pl := ppl_len c
  have c3 := c.c3
  have b5 := c.b5
  have n4 := c.n4
  have hb := TB_key c hp
  show runC 4 2 F_openers [.dat (.dict (kvF iT (ppl ch bu))), .dat (sT (mts ch ++ [p.1]))] = _
  have en : mts ch ++ [p.1] = (MB ch ++ [p]).map (·.1) := by rw [List.map_append, MB_names c]; rfl
  have ek : (MB ch ++ [p]).map (·.2) = ch ++ [p.2] := by rw [List.map_append, MB_keys c]; rfl
  have hin : ∀ q ∈ MB ch ++ [p], q ∈ ppl ch bu := fun q hq => by
    rw [ppl_eq]
    rcases List.mem_append.mp hq with h | h
    · exact List.mem_append.mpr (.inl h)
    · rw [List.mem_singleton] at h; rw [h]; exact List.mem_append.mpr (.inr hp)
  have ml : (MB ch ++ [p]).length = ch.length + 1 := by
    have := congrArg List.length ek
    rw [List.length_map] at this
    rw [this, List.length_append, List.length_singleton]
  have s1 : calE (onD φ_door_for) (aCons (frzE (lcL (itE (vE 1)) (gN 3) yesT (op2 dgetD (vE 0) (vE 3)) [3])) aNil) (startC 4 [.dat (.dict (kvF iT (ppl ch bu))), .dat (sT (mts ch ++ [p.1]))]) = some (dT (doorB hs ch p.2)) := by
    have e : frzE (lcL (itE (vE 1)) (gN 3) yesT (op2 dgetD (vE 0) (vE 3)) [3]) (startC 4 [.dat (.dict (kvF iT (ppl ch bu))), .dat (sT (mts ch ++ [p.1]))]) = some (.list ((ch ++ [p.2]).map iT)) := by
      rw [← ek, List.map_map]
      refine frzE_run (lc_runM (xs := MB ch ++ [p]) (enc := fun q => .str q.1) (f := fun q => iT q.2) ?_ (by omega) fun q hq => ⟨_, rfl, ?_⟩)
      · show some ((mts ch ++ [p.1]).map PyData.str) = _
        rw [en, List.map_map] <;> rfl
      · exact (op2_run (x := .dict (kvF iT (ppl ch bu))) (y := .str q.1) rfl rfl).trans (dget_run (ppl_nd c) (hin q hq))
    exact (cal1_run e).trans (door_for_run (fun k hk => key_kok (c.keysB hb k hk) c.h4) (by omega) (by simp) (by rw [List.length_append, List.length_singleton]; omega) rfl)
  refine run_ret rfl ((seq_nx (setS_run s1)).trans (retS_run ?_))
  have e2 : sT ((whoL hs ch bu p.2).map (·.1)) = .tuple ((whoL hs ch bu p.2).map fun q => .str q.1) := by unfold sT; rw [List.map_map] <;> rfl
  rw [e2]
  refine tup_lc (xs := ppl ch bu) (enc := fun q => .str q.1) (p := fun q => opensB (doorB hs ch p.2) q.2) (f := fun q => .str q.1) ?_ (by omega) fun q hq => ?_
  · refine itE_lst (frzE_run ?_)
    unfold calL
    rw [aCons_run (d := .dict (kvF iT (ppl ch bu))) rfl (rfl : aNil _ = some [])]
    show sortAD [.dict (kvF iT (ppl ch bu))] = _
    rw [sortK_run (by rw [ppl_names c]; exact names_pw ch bu) (by omega), List.map_map] <;> rfl
  · refine ⟨[some (.dat (.dict (kvF iT (ppl ch bu)))), some (.dat (sT (mts ch ++ [p.1]))), some (.dat (dT (doorB hs ch p.2))), some (.dat (.str q.1))], rfl, tst_runB ?_, fun _ => rfl⟩
    have a1 := (op2_run (h := dgetD) (f := vE 0) (g := vE 3) (ρ := [some (.dat (.dict (kvF iT (ppl ch bu)))), some (.dat (sT (mts ch ++ [p.1]))), some (.dat (dT (doorB hs ch p.2))), some (.dat (.str q.1))]) (x := .dict (kvF iT (ppl ch bu))) (y := .str q.1) rfl rfl).trans (dget_run (ppl_nd c) hq)
    exact (calE_run (aCons_run (d := dT (doorB hs ch p.2)) rfl (aCons_run a1 rfl))).trans (opens_run (by rw [key_len c hq]; unfold doorB doorOf; rw [List.length_map, List.length_range]))
theorem room_in (c : Case hs ch bu) {p : Str × List Int} (hp : p ∈ TB bu) : roomOf ch p ∈ rms ch bu := by rw [rms_eq c]; exact List.mem_map_of_mem hp
theorem who_opens_run (c : Case hs ch bu) {p : Str × List Int} (hp : p ∈ TB bu) : onD φ_who_opens [hallD hs ch bu, .str p.1] = some (sT ((whoL hs ch bu p.2).map (·.1))) := by
  show runC 3 2 F_who_opens [.dat (hallD hs ch bu), .dat (.str p.1)] = _
  have hl := look_run (f := sT) (rms_nd c) (room_in c hp)
  refine run_ret rfl ((seq_nx (setS_run ((cal1_run (d := hallD hs ch bu) rfl).trans (sets_in_run c)))).trans ?_)
  have hck : onD φ_check [.dict (kvF sT (rms ch bu)), .str p.1] = some .none := by
    show runC 2 2 F_check [.dat (.dict (kvF sT (rms ch bu))), .dat (.str p.1)] = _
    have ht : tstE (op2 dniD (vE 1) (vE 0)) (startC 2 [.dat (.dict (kvF sT (rms ch bu))), .dat (.str p.1)]) = some false := by
      refine tst_runB ?_
      rw [op2_run (x := .str p.1) (y := .dict (kvF sT (rms ch bu))) rfl rfl]
      show some (PyData.bool (!(lookKv (kvF sT (rms ch bu)) p.1).isSome)) = _
      rw [show p.1 = (roomOf ch p).1 from rfl, hl]
      rfl
    show endF (ifS (tstE (op2 dniD (vE 1) (vE 0))) nevS nxS (startC 2 [.dat (.dict (kvF sT (rms ch bu))), .dat (.str p.1)])) = _
    rw [ifS_f ht]
    rfl
  have hx : exprS (calE (onD φ_check) (aCons (vE 2) (aCons (vE 1) aNil))) [some (.dat (hallD hs ch bu)), some (.dat (.str p.1)), some (.dat (.dict (kvF sT (rms ch bu))))] = some (.nx [some (.dat (hallD hs ch bu)), some (.dat (.str p.1)), some (.dat (.dict (kvF sT (rms ch bu))))]) := by
    unfold exprS
    rw [calE_run (ds := [.dict (kvF sT (rms ch bu)), .str p.1]) rfl, hck]
    rfl
  refine (seq_nx hx).trans (retS_run ?_)
  have a1 : calE (onD φ_keys_in) (aCons (vE 0) aNil) [some (.dat (hallD hs ch bu)), some (.dat (.str p.1)), some (.dat (.dict (kvF sT (rms ch bu))))] = some (.dict (kvF iT (ppl ch bu))) := (cal1_run (d := hallD hs ch bu) rfl).trans (keys_in_run c)
  have a2 : op2 dgetD (vE 2) (vE 1) [some (.dat (hallD hs ch bu)), some (.dat (.str p.1)), some (.dat (.dict (kvF sT (rms ch bu))))] = some (sT (mts ch ++ [p.1])) := (op2_run (x := .dict (kvF sT (rms ch bu))) (y := .str p.1) rfl rfl).trans hl
  exact (calE_run (aCons_run a1 (aCons_run a2 rfl))).trans (openers_run c hp)
def strL (hs : List Int) (ch bu : List (List Int)) (p : Str × List Int) : List Str := ((whoL hs ch bu p.2).map (·.1)).filter fun x => decide (x ∉ mts ch ++ [p.1])
theorem pnn_sT {l : List Str} (h : ∀ x ∈ l, x ∈ matesL ++ tagsL) : PnN 1 (sT l) := pnn_tup fun d hd => by
  obtain ⟨x, hx, rfl⟩ := List.mem_map.mp hd
  exact pn_str (name_ok (h x hx)).2
theorem who_names (c : Case hs ch bu) {b : List Int} : ∀ x ∈ (whoL hs ch bu b).map (·.1), x ∈ nms ch bu := fun x hx => by
  obtain ⟨q, hq, rfl⟩ := List.mem_map.mp hx
  exact ppl_name c (List.mem_filter.mp hq).1
theorem who_len (c : Case hs ch bu) {b : List Int} : (whoL hs ch bu b).length ≤ 8 := by
  have h1 := List.length_filter_le (fun q => opensB (doorB hs ch b) q.2) (ppl ch bu)
  have h2 := ppl_len c
  have := c.c3
  have := c.b5
  unfold whoL
  omega
theorem room_names (c : Case hs ch bu) {p : Str × List Int} (hp : p ∈ TB bu) : ∀ x ∈ mts ch ++ [p.1], x ∈ nms ch bu := (rms_room c (room_in c hp)).2.2.2.1
theorem strangers_run (c : Case hs ch bu) {p : Str × List Int} (hp : p ∈ TB bu) : onD φ_strangers [hallD hs ch bu, .str p.1] = some (sT (strL hs ch bu p)) := by
  have hl := look_run (f := sT) (rms_nd c) (room_in c hp)
  show runC 5 2 F_strangers [.dat (hallD hs ch bu), .dat (.str p.1)] = _
  have s1 : asgS (tupE (aCons (calE (onD φ_who_opens) (aCons (vE 0) (aCons (vE 1) aNil))) (aCons (op2 dgetD (calE (onD φ_sets_in) (aCons (vE 0) aNil)) (vE 1)) aNil))) (gT2 2 3) (startC 5 [.dat (hallD hs ch bu), .dat (.str p.1)]) =
      some (.nx [some (.dat (hallD hs ch bu)), some (.dat (.str p.1)), some (.dat (sT ((whoL hs ch bu p.2).map (·.1)))), some (.dat (sT (mts ch ++ [p.1]))), none]) := by
    have a1 : calE (onD φ_who_opens) (aCons (vE 0) (aCons (vE 1) aNil)) (startC 5 [.dat (hallD hs ch bu), .dat (.str p.1)]) = some (sT ((whoL hs ch bu p.2).map (·.1))) := (calE_run (ds := [hallD hs ch bu, .str p.1]) rfl).trans (who_opens_run c hp)
    have a2 : op2 dgetD (calE (onD φ_sets_in) (aCons (vE 0) aNil)) (vE 1) (startC 5 [.dat (hallD hs ch bu), .dat (.str p.1)]) = some (sT (mts ch ++ [p.1])) := (op2_run (y := .str p.1) ((cal1_run (d := hallD hs ch bu) rfl).trans (sets_in_run c)) rfl).trans hl
    unfold asgS
    rw [tupE_run (aCons_run a1 (aCons_run a2 rfl)) (by simp)]
    rfl
  refine run_ret rfl ((seq_nx s1).trans (retS_run ?_))
  refine tup_lc (xs := (whoL hs ch bu p.2).map (·.1)) (enc := .str) (p := fun x => decide (x ∉ mts ch ++ [p.1])) (f := .str) rfl (by rw [List.length_map]; have := who_len c (b := p.2); omega) fun x hx => ?_
  refine ⟨[some (.dat (hallD hs ch bu)), some (.dat (.str p.1)), some (.dat (sT ((whoL hs ch bu p.2).map (·.1)))), some (.dat (sT (mts ch ++ [p.1]))), some (.dat (.str x))], rfl, tst_runB ?_, fun _ => rfl⟩
  rw [op2_run (x := .str x) (y := sT (mts ch ++ [p.1])) rfl rfl]
  refine notInD_tup ((pn_str (name_ok (names_mem (who_names c x hx))).2).pn (by decide)) ((pnn_sT fun y hy => names_mem (room_names c hp y hy)).pn (by decide)) ?_
  rw [decide_eq_true_iff, mem_mapI fun _ _ => str_inj]
/-! strange -/
def strangeL (hs : List Int) (ch bu : List (List Int)) : List (Str × Str) := (TB bu).flatMap fun p => (strL hs ch bu p).map fun x => (x, p.1)
theorem setOk_s2 {l : List (Str × Str)} (h : ∀ p ∈ l, (PyData.str p.1).canLay0 = true ∧ (PyData.str p.2).canLay0 = true) (hl : l.length < 64) : SetOk (l.map s2) := by
  refine ⟨⟨?_, .inl ?_, ?_, by rw [List.length_map]; omega⟩, by rw [List.length_map]; exact hl, .inr ?_⟩
  · intro d hd d' hd'
    obtain ⟨r, _, rfl⟩ := List.mem_map.mp hd
    obtain ⟨r', _, rfl⟩ := List.mem_map.mp hd'
    rfl
  · intro d hd
    obtain ⟨r, hr, rfl⟩ := List.mem_map.mp hd
    exact ⟨_, _, rfl⟩
  · intro d hd
    obtain ⟨r, hr, rfl⟩ := List.mem_map.mp hd
    have := pnn_tup (n := 0) (l := [.str r.1, .str r.2]) fun d hd => by
      simp only [List.mem_cons, List.not_mem_nil, or_false] at hd
      rcases hd with rfl | rfl
      · exact pn_str (h r hr).1
      · exact pn_str (h r hr).2
    exact ⟨this.lay, by have h2 : (s2 r).depth ≤ 1 := this.dep; omega⟩
  · intro d hd
    obtain ⟨r, hr, rfl⟩ := List.mem_map.mp hd
    refine ⟨_, _, rfl, fun z hz => ?_⟩
    simp only [List.mem_cons, List.not_mem_nil, or_false] at hz
    rcases hz with rfl | rfl <;> rfl
theorem str_len (c : Case hs ch bu) (p : Str × List Int) : (strL hs ch bu p).length ≤ 8 := by
  have h1 := List.length_filter_le (fun x => decide (x ∉ mts ch ++ [p.1])) ((whoL hs ch bu p.2).map (·.1))
  have h2 := who_len c (b := p.2)
  rw [List.length_map] at h1
  unfold strL
  omega
theorem strange_len (c : Case hs ch bu) : (strangeL hs ch bu).length ≤ 40 := by
  have h : (strangeL hs ch bu).length ≤ (TB bu).length * 8 := flat_len _ 8 _ fun p _ => by rw [List.length_map]; exact str_len c p
  rw [TB_len c] at h
  have := c.b5
  omega
theorem strange_names (c : Case hs ch bu) : ∀ p ∈ strangeL hs ch bu, p.1 ∈ nms ch bu ∧ p.2 ∈ nms ch bu := fun p hp => by
  obtain ⟨q, hq, h⟩ := List.mem_flatMap.mp hp
  obtain ⟨x, hx, rfl⟩ := List.mem_map.mp h
  exact ⟨who_names c x (List.mem_filter.mp hx).1, List.mem_append.mpr (.inr (TB_name c hq))⟩
theorem strange_run (c : Case hs ch bu) : onD φ_strange [hallD hs ch bu] = some (.tuple (srt (nub ((strangeL hs ch bu).map s2)))) := by
  have b5 := c.b5
  show runC 3 1 F_strange [.dat (hallD hs ch bu)] = _
  refine run_ret rfl (retS_run ?_)
  have e1 : (strangeL hs ch bu).map s2 = (TB bu).flatMap fun p => ((strL hs ch bu p).filter fun _ => true).map fun x => s2 (x, p.1) := by
    unfold strangeL
    rw [List.map_flatMap]
    refine flat_congr fun p _ => ?_
    rw [List.map_map, List.filter_eq_self.mpr fun _ _ => rfl]
    rfl
  have ek : kyL ψ_sets_in (aCons (vE 0) aNil) (startC 3 [.dat (hallD hs ch bu)]) = some ((TB bu).map fun p => .str p.1) := by
    have h1 : ddE ψ_sets_in (aCons (vE 0) aNil) (startC 3 [.dat (hallD hs ch bu)]) = some (kvF sT (rms ch bu)) := setsK_run c
    unfold kyL
    rw [h1, rms_eq c]
    show some (keysOf (kvF sT ((TB bu).map (roomOf ch)))) = _
    unfold keysOf kvF
    rw [List.map_map, List.map_map]
    rfl
  have e2 : lcL2 (kyL ψ_sets_in (aCons (vE 0) aNil)) (gN 1) yesT (itE (calE (onD φ_strangers) (aCons (vE 0) (aCons (vE 1) aNil)))) (gN 2) yesT (tupE (aCons (vE 2) (aCons (vE 1) aNil))) [1, 2] [2] (startC 3 [.dat (hallD hs ch bu)]) = some ((strangeL hs ch bu).map s2) := by
    rw [e1]
    refine lc2_run (xs := TB bu) (enc := fun p => .str p.1) (enc1 := .str) (ys := strL hs ch bu) (p := fun _ _ => true) (f := fun p x => s2 (x, p.1)) ek (by rw [TB_len c]; omega) (by rw [← e1, List.length_map]; have := strange_len c; omega) fun p hp => ?_
    refine ⟨[some (.dat (hallD hs ch bu)), some (.dat (.str p.1)), none], rfl, itE_tup ((calE_run (ds := [hallD hs ch bu, .str p.1]) rfl).trans (strangers_run c hp)), by have := str_len c p; omega, fun x hx => ⟨[some (.dat (hallD hs ch bu)), some (.dat (.str p.1)), some (.dat (.str x))], rfl, rfl, fun _ => tupE_run (ds := [.str x, .str p.1]) rfl (by simp)⟩⟩
  exact (cal1_run (frzE_run e2)).trans (set_of_run rfl (setOk_s2 (fun p hp => ⟨(name_ok (names_mem (strange_names c p hp).1)).2, (name_ok (names_mem (strange_names c p hp).2)).2⟩) (by have := strange_len c; omega)))
end
end U
set_option maxHeartbeats 4000000
/-! M17: loud, clash, quiet. -/
namespace U
open PySem PySem.Spec PyProof.Rows L2
def ppD (p : List Int × List Int) : PyData := .tuple [iT p.1, iT p.2]
theorem ppD_inj {p q : List Int × List Int} (h : ppD p = ppD q) : p = q := by
  injection h with h
  injection h with h1 h2
  injection h2 with h2 _
  exact Prod.ext (iT_inj h1) (iT_inj h2)
section
variable {hs : List Int} {ch bu : List (List Int)}
def loudT (hs : List Int) (ch bu : List (List Int)) (t : List Int) : List (List Int × List Int) := (bu.filter fun m => decide (m ≠ t) && lb hs ch t m).map fun m => (t, m)
def loudL (hs : List Int) (ch bu : List (List Int)) : List (List Int × List Int) := bu.flatMap (loudT hs ch bu)
theorem loudT_len (c : Case hs ch bu) (t : List Int) : (loudT hs ch bu t).length ≤ 5 := by
  unfold loudT
  rw [List.length_map]
  exact Nat.le_trans (List.length_filter_le _ _) c.b5
theorem loud_len (c : Case hs ch bu) : (loudL hs ch bu).length ≤ 25 := by
  have h : (loudL hs ch bu).length ≤ bu.length * 5 := flat_len _ 5 _ fun t _ => loudT_len c t
  have := c.b5
  omega
theorem mem_loud {a b : List Int} : (a, b) ∈ loudL hs ch bu ↔ a ∈ bu ∧ b ∈ bu ∧ b ≠ a ∧ lb hs ch a b = true := by
  unfold loudL loudT
  rw [List.mem_flatMap]
  constructor
  · rintro ⟨t, ht, h⟩
    obtain ⟨m, hm, e⟩ := List.mem_map.mp h
    cases e
    obtain ⟨h1, h2⟩ := List.mem_filter.mp hm
    rw [Bool.and_eq_true, decide_eq_true_iff] at h2
    exact ⟨ht, h1, h2.1, h2.2⟩
  · rintro ⟨ha, hb, hne, hl⟩
    exact ⟨a, ha, List.mem_map.mpr ⟨b, List.mem_filter.mpr ⟨hb, by rw [Bool.and_eq_true, decide_eq_true_iff]; exact ⟨hne, hl⟩⟩, rfl⟩⟩
theorem nodup_flat {α β : Type} {f : α → List β} : ∀ {l : List α}, l.Nodup → (∀ x ∈ l, (f x).Nodup) → (∀ x ∈ l, ∀ y ∈ l, x ≠ y → ∀ z ∈ f x, z ∉ f y) → (l.flatMap f).Nodup
  | [], _, _, _ => List.nodup_nil
  | x :: xs, nd, h1, h2 => by
    rw [List.nodup_cons] at nd
    rw [List.flatMap_cons]
    refine List.nodup_append.mpr ⟨h1 x List.mem_cons_self, nodup_flat nd.2 (fun y hy => h1 y (List.mem_cons_of_mem _ hy)) (fun a ha b hb => h2 a (List.mem_cons_of_mem _ ha) b (List.mem_cons_of_mem _ hb)), fun a ha b hb e => ?_⟩
    subst e
    obtain ⟨y, hy, hz⟩ := List.mem_flatMap.mp hb
    exact h2 x List.mem_cons_self y (List.mem_cons_of_mem _ hy) (fun e => nd.1 (e ▸ hy)) a ha hz
theorem loud_nd (c : Case hs ch bu) : (loudL hs ch bu).Nodup := by
  refine nodup_flat c.bn (fun t _ => ?_) fun x _ y _ hne z hz hz' => ?_
  · unfold loudT
    exact List.Pairwise.map _ (fun a b hab z => hab (Prod.ext_iff.mp z).2) (c.bn.filter _)
  · obtain ⟨m, _, rfl⟩ := List.mem_map.mp hz
    obtain ⟨m', _, e⟩ := List.mem_map.mp hz'
    exact hne (Prod.ext_iff.mp e).1.symm
theorem lb_run (c : Case hs ch bu) {a b : List Int} (ha : a.length = hs.length) (hb : b.length = hs.length) : onD φ_L_lets [kT ch, iT a, iT b] = some (.bool (lb hs ch a b)) := lets_run (by have := c.n4; omega) c.cl (by have := c.c3; omega) ha hb
theorem room_run (c : Case hs ch bu) {a b : List Int} (ha : a.length = hs.length) (hb : b.length = hs.length) : onD φ_opens_room [kT ch, iT a, iT b] = some (.bool (lb hs ch a b)) := opens_room_run (by have := c.n4; omega) c.cl (by have := c.c3; omega) ha hb
theorem ne_key (a b : List Int) : neD (iT a) (iT b) = some (.bool (decide (a ≠ b))) := neD_run (pn_iT a) (pn_iT b) (by rw [decide_eq_true_iff]; exact not_congr ⟨fun e => by rw [e], iT_inj⟩)
noncomputable def bLo : SS := setS 2 (op2 addD (vE 2) (frzE (lcL (itE (vE 1)) (gN 4) (andT (tstE (op2 neD (vE 4) (vE 3))) (tstE (calE (onD φ_L_lets) (aCons (vE 0) (aCons (vE 3) (aCons (vE 4) aNil)))))) (tupE (aCons (vE 3) (aCons (vE 4) aNil))) [4])))
theorem loud_loop (c : Case hs ch bu) : ∀ (ts : List (List Int)) (found : List (List Int × List Int)) (a b : Option Cell), (∀ t ∈ ts, t.length = hs.length) → found.length + ts.length * 5 ≤ 1000 →
    ∃ a', forR (gN 3) bLo (ts.map iT) [some (.dat (kT ch)), some (.dat (kT bu)), some (.dat (.list (found.map ppD))), a, b] = some (.nx [some (.dat (kT ch)), some (.dat (kT bu)), some (.dat (.list ((found ++ ts.flatMap (loudT hs ch bu)).map ppD))), a', b])
  | [], found, a, b, _, _ => ⟨a, by rw [List.flatMap_nil, List.append_nil]; rfl⟩
  | t :: ts, found, a, b, ht, hl => by
    rw [List.length_cons] at hl
    have h5 := loudT_len c t
    have tl := ht t List.mem_cons_self
    obtain ⟨a', ih⟩ := loud_loop c ts (found ++ loudT hs ch bu t) (some (.dat (iT t))) b (fun x hx => ht x (List.mem_cons_of_mem _ hx)) (by rw [List.length_append]; omega)
    refine ⟨a', ?_⟩
    rw [List.flatMap_cons, ← List.append_assoc]
    refine for_nx rfl ?_ ih
    have e1 : frzE (lcL (itE (vE 1)) (gN 4) (andT (tstE (op2 neD (vE 4) (vE 3))) (tstE (calE (onD φ_L_lets) (aCons (vE 0) (aCons (vE 3) (aCons (vE 4) aNil)))))) (tupE (aCons (vE 3) (aCons (vE 4) aNil))) [4]) [some (.dat (kT ch)), some (.dat (kT bu)), some (.dat (.list (found.map ppD))), some (.dat (iT t)), b] = some (.list ((loudT hs ch bu t).map ppD)) := by
      unfold loudT
      rw [List.map_map]
      refine frzE_run (lc_run (xs := bu) (enc := iT) (p := fun m => decide (m ≠ t) && lb hs ch t m) (f := fun m => ppD (t, m)) rfl (by have := c.b5; omega) fun m hm => ?_)
      refine ⟨[some (.dat (kT ch)), some (.dat (kT bu)), some (.dat (.list (found.map ppD))), some (.dat (iT t)), some (.dat (iT m))], rfl, andT_run (tst_runB ((op2_run (x := iT m) (y := iT t) rfl rfl).trans (ne_key m t))) fun _ => tst_runB ((calE_run (ds := [kT ch, iT t, iT m]) rfl).trans (lb_run c tl (c.bl m hm))), fun _ => tupE_run (ds := [iT t, iT m]) rfl (by simp)⟩
    refine (setS_run (d := .list ((found ++ loudT hs ch bu t).map ppD)) ((op2_run (x := .list (found.map ppD)) rfl e1).trans ?_)).trans rfl
    rw [addD_lst (by simp only [List.length_map]; omega), List.map_append]
theorem srtOk_pp {l : List (List Int × List Int)} (hl : l.length ≤ 100000) : SrtOk (l.map ppD) := by
  refine ⟨?_, .inl ?_, ?_, by rw [List.length_map]; exact hl⟩
  · intro d hd d' hd'
    obtain ⟨r, _, rfl⟩ := List.mem_map.mp hd
    obtain ⟨r', _, rfl⟩ := List.mem_map.mp hd'
    show PySem.W.alike (.tuple [iT r.1, iT r.2]) (.tuple [iT r'.1, iT r'.2]) = true
    have e : ∀ a b : List Int, PySem.W.alike (iT a) (iT b) = true := fun a b => by
      show PySem.W.alike (.tuple (a.map .int)) (.tuple (b.map .int)) = true
      rw [PySem.W.alike, alike_ints]
    rw [PySem.W.alike, PySem.W.alikeAll, PySem.W.alikeAll, PySem.W.alikeAll, e, e]
    rfl
  · intro d hd
    obtain ⟨r, hr, rfl⟩ := List.mem_map.mp hd
    exact ⟨_, _, rfl⟩
  · intro d hd
    obtain ⟨r, hr, rfl⟩ := List.mem_map.mp hd
    have := pnn_tup (n := 1) (l := [iT r.1, iT r.2]) fun d hd => by
      simp only [List.mem_cons, List.not_mem_nil, or_false] at hd
      rcases hd with rfl | rfl <;> exact pnn_iT _
    exact ⟨this.lay, by have h2 : (ppD r).depth ≤ 2 := this.dep; omega⟩
theorem loud_run (c : Case hs ch bu) : ∃ lo : List (List Int × List Int), lo.Perm (loudL hs ch bu) ∧ onD φ_L_loud [kT ch, kT bu] = some (.list (lo.map ppD)) := by
  obtain ⟨lo, e⟩ := map_back (f := ppD) (l := srt ((loudL hs ch bu).map ppD)) fun d hd => by
    obtain ⟨r, _, e⟩ := List.mem_map.mp (mem_srt.mp hd)
    exact ⟨r, e.symm⟩
  have hp : (lo.map ppD).Perm ((loudL hs ch bu).map ppD) := by rw [← e]; exact srt_perm _
  refine ⟨lo, ?_, ?_⟩
  · have nd1 : lo.Nodup := by
      have : (lo.map ppD).Nodup := hp.nodup_iff.mpr (nd_map (fun _ _ => ppD_inj) (loud_nd c))
      exact List.Pairwise.of_map ppD (fun a b h z => h (congrArg ppD z)) this
    rw [List.perm_ext_iff_of_nodup nd1 (loud_nd c)]
    intro x
    rw [← mem_mapI (f := ppD) (fun _ _ => ppD_inj), hp.mem_iff, mem_mapI (fun _ _ => ppD_inj)]
  · obtain ⟨a', l⟩ := loud_loop c bu [] none none c.bl (by rw [List.length_nil]; have := c.b5; omega)
    rw [List.nil_append] at l
    show runC 5 2 F_L_loud [.dat (kT ch), .dat (kT bu)] = _
    refine run_ret rfl ((seq_nx (setS_run (frzE_run (ds := []) rfl))).trans ((seq_nx ((forS_run (itE_tup rfl)).trans l)).trans (retS_run ?_)))
    rw [← e]
    exact frzE_run (sorted_run rfl (srtOk_pp (by have := loud_len c; show (loudL hs ch bu).length ≤ 100000; omega)))
/-! quiet -/
theorem bu_dk (c : Case hs ch bu) : Dk bu := ⟨fun p hp => by rw [c.bl p hp]; have := c.n4; omega, by have := c.b5; omega⟩
theorem tup_bu (c : Case hs ch bu) : onD (φ_tupled 6) [kT bu] = some (kT bu) := by
  have h := tupled_run 6 2 (dT bu) (by decide) (tuOk_dT (bu_dk c))
  rw [tu_dT] at h
  exact h
def clL (hs : List Int) (ch bu : List (List Int)) : List PyData := bu.flatMap fun one => (bu.filter fun other => decide (one ≠ other) && lb hs ch one other).map fun other => ppD (one, other)
theorem cl_eq : (clL hs ch bu) = (loudL hs ch bu).map ppD := by
  unfold clL loudL
  rw [List.map_flatMap]
  refine flat_congr fun t _ => ?_
  unfold loudT
  rw [List.map_map]
  have : (bu.filter fun other => decide (t ≠ other) && lb hs ch t other) = bu.filter fun m => decide (m ≠ t) && lb hs ch t m := List.filter_congr fun m _ => by
    congr 1
    exact decide_eq_decide.mpr ⟨fun h e => h e.symm, fun h e => h e.symm⟩
  rw [this]
  rfl
theorem quiet_run (c : Case hs ch bu) : onD φ_is_quiet [iT hs, kT ch, kT bu] = some (.bool (decide (loudL hs ch bu = []))) := by
  have b5 := c.b5
  have ll := loud_len c
  have e1 : onD φ_clashes [iT hs, kT ch, kT bu] = some (.list (clL hs ch bu)) := by
    show runC 6 3 F_clashes [.dat (iT hs), .dat (kT ch), .dat (kT bu)] = _
    refine run_ret rfl ((seq_nx (setS_run ((cal1_run (d := kT bu) rfl).trans (tup_bu c)))).trans (retS_run (frzE_run ?_)))
    refine lc2_run (xs := bu) (enc := iT) (enc1 := iT) (ys := fun _ => bu) (p := fun one other => decide (one ≠ other) && lb hs ch one other) (f := fun one other => ppD (one, other)) (itE_tup rfl) (by omega) (by show (clL hs ch bu).length ≤ _; rw [cl_eq, List.length_map]; omega) fun one ho => ?_
    refine ⟨[some (.dat (iT hs)), some (.dat (kT ch)), some (.dat (kT bu)), some (.dat (kT bu)), some (.dat (iT one)), none], rfl, itE_tup rfl, by omega, fun other h => ⟨[some (.dat (iT hs)), some (.dat (kT ch)), some (.dat (kT bu)), some (.dat (kT bu)), some (.dat (iT one)), some (.dat (iT other))], rfl, ?_, fun _ => tupE_run (ds := [iT one, iT other]) rfl (by simp)⟩⟩
    exact andT_run (tst_runB ((op2_run (x := iT one) (y := iT other) rfl rfl).trans (ne_key one other))) fun _ => tst_runB ((calE_run (ds := [kT ch, iT one, iT other]) rfl).trans (room_run c (c.bl one ho) (c.bl other h)))
  show runC 3 3 F_is_quiet [.dat (iT hs), .dat (kT ch), .dat (kT bu)] = _
  refine run_ret rfl (retS_run ?_)
  have e2 : calE lenD (aCons (calE (onD φ_clashes) (aCons (vE 0) (aCons (vE 1) (aCons (vE 2) aNil)))) aNil) (startC 3 [.dat (iT hs), .dat (kT ch), .dat (kT bu)]) = some (.int ((loudL hs ch bu).length : Int)) := by
    rw [cal1_run ((calE_run (ds := [iT hs, kT ch, kT bu]) rfl).trans e1)]
    show some (PyData.int ((clL hs ch bu).length : Int)) = _
    rw [cl_eq, List.length_map]
  rw [op2_run (y := .int 0) e2 rfl, eqD_int]
  congr 2
  refine decide_eq_decide.mpr ?_
  rw [← List.length_eq_zero_iff]
  omega
/-! clash -/
noncomputable def bC1 : SS := ifS (andT (tstE (op2 neD (vE 3) (vE 4))) (tstE (calE (onD φ_opens_room) (aCons (vE 0) (aCons (vE 3) (aCons (vE 4) aNil)))))) (retS (tupE (aCons (vE 3) (aCons (vE 4) aNil)))) nxS
theorem clash_in (c : Case hs ch bu) {one : List Int} (h1 : one.length = hs.length) : ∀ (os : List (List Int)) (b : Option Cell), (∀ o ∈ os, o.length = hs.length) →
    ∃ r, forR (gN 4) bC1 (os.map iT) [some (.dat (kT ch)), some (.dat (kT bu)), some (.dat (kT bu)), some (.dat (iT one)), b] = some r ∧
      ((∃ b', r = .nx [some (.dat (kT ch)), some (.dat (kT bu)), some (.dat (kT bu)), some (.dat (iT one)), b'] ∧ os.filter (fun m => decide (m ≠ one) && lb hs ch one m) = []) ∨ (∃ l, r = .rt (.tuple l) ∧ os.filter (fun m => decide (m ≠ one) && lb hs ch one m) ≠ []))
  | [], b, _ => ⟨_, rfl, .inl ⟨b, rfl, rfl⟩⟩
  | o :: os, b, h => by
    have ho := h o List.mem_cons_self
    have ht : andT (tstE (op2 neD (vE 3) (vE 4))) (tstE (calE (onD φ_opens_room) (aCons (vE 0) (aCons (vE 3) (aCons (vE 4) aNil))))) [some (.dat (kT ch)), some (.dat (kT bu)), some (.dat (kT bu)), some (.dat (iT one)), some (.dat (iT o))] = some (decide (o ≠ one) && lb hs ch one o) := by
      have : decide (o ≠ one) = decide (one ≠ o) := decide_eq_decide.mpr ⟨fun h e => h e.symm, fun h e => h e.symm⟩
      rw [this]
      exact andT_run (tst_runB ((op2_run (x := iT one) (y := iT o) rfl rfl).trans (ne_key one o))) fun _ => tst_runB ((calE_run (ds := [kT ch, iT one, iT o]) rfl).trans (room_run c h1 ho))
    by_cases hc : (decide (o ≠ one) && lb hs ch one o) = true
    · rw [hc] at ht
      refine ⟨_, for_rt rfl ((ifS_t ht).trans (retS_run (tupE_run (ds := [iT one, iT o]) rfl (by simp)))), .inr ⟨_, rfl, ?_⟩⟩
      rw [List.filter_cons_of_pos (p := fun m => decide (m ≠ one) && lb hs ch one m) hc]
      simp
    · obtain ⟨r, r1, r2⟩ := clash_in c h1 os (some (.dat (iT o))) fun x hx => h x (List.mem_cons_of_mem _ hx)
      rw [Bool.not_eq_true] at hc
      rw [hc] at ht
      refine ⟨r, for_nx rfl ((ifS_f ht).trans rfl) r1, ?_⟩
      rw [List.filter_cons_of_neg (by rw [hc]; exact Bool.false_ne_true)]
      exact r2
theorem clash_out (c : Case hs ch bu) : ∀ (ts : List (List Int)) (a b : Option Cell), (∀ t ∈ ts, t.length = hs.length) →
    ∃ r, forR (gN 3) (forS (itE (vE 2)) (gN 4) bC1) (ts.map iT) [some (.dat (kT ch)), some (.dat (kT bu)), some (.dat (kT bu)), a, b] = some r ∧
      ((∃ a' b', r = .nx [some (.dat (kT ch)), some (.dat (kT bu)), some (.dat (kT bu)), a', b'] ∧ ts.flatMap (loudT hs ch bu) = []) ∨ (∃ l, r = .rt (.tuple l) ∧ ts.flatMap (loudT hs ch bu) ≠ []))
  | [], a, b, _ => ⟨_, rfl, .inl ⟨a, b, rfl, rfl⟩⟩
  | t :: ts, a, b, h => by
    obtain ⟨r, r1, r2⟩ := clash_in c (h t List.mem_cons_self) bu b c.bl
    have hb : forS (itE (vE 2)) (gN 4) bC1 [some (.dat (kT ch)), some (.dat (kT bu)), some (.dat (kT bu)), some (.dat (iT t)), b] = some r := (forS_run (itE_tup rfl)).trans r1
    rw [List.flatMap_cons]
    rcases r2 with ⟨b', rfl, hf⟩ | ⟨l, rfl, hf⟩
    · obtain ⟨q, q1, q2⟩ := clash_out c ts (some (.dat (iT t))) b' fun x hx => h x (List.mem_cons_of_mem _ hx)
      refine ⟨q, for_nx rfl hb q1, ?_⟩
      have : loudT hs ch bu t = [] := by unfold loudT; rw [hf]; rfl
      rw [this, List.nil_append]
      exact q2
    · refine ⟨_, for_rt rfl hb, .inr ⟨l, rfl, fun e => hf ?_⟩⟩
      have := (List.append_eq_nil_iff.mp e).1
      unfold loudT at this
      exact List.map_eq_nil_iff.mp this
theorem clash_run (c : Case hs ch bu) : ∃ d, onD φ_clash [kT ch, kT bu] = some d ∧ isNoneD d = decide (loudL hs ch bu = []) := by
  obtain ⟨r, r1, r2⟩ := clash_out c bu none none c.bl
  have hf : forS (itE (vE 2)) (gN 3) (forS (itE (vE 2)) (gN 4) bC1) [some (.dat (kT ch)), some (.dat (kT bu)), some (.dat (kT bu)), none, none] = some r := (forS_run (itE_tup rfl)).trans r1
  have e0 : onD φ_clash [kT ch, kT bu] = runC 5 2 F_clash [.dat (kT ch), .dat (kT bu)] := rfl
  have s0 : setS 2 (calE (onD (φ_tupled 6)) (aCons (vE 1) aNil)) (startC 5 [.dat (kT ch), .dat (kT bu)]) = some (.nx [some (.dat (kT ch)), some (.dat (kT bu)), some (.dat (kT bu)), none, none]) := setS_run ((cal1_run (d := kT bu) rfl).trans (tup_bu c))
  rcases r2 with ⟨a, b, rfl, e⟩ | ⟨l, rfl, e⟩
  · refine ⟨.none, ?_, by rw [decide_eq_true (show loudL hs ch bu = [] from e)]; rfl⟩
    rw [e0]
    exact run_ret rfl ((seq_nx s0).trans ((seq_nx hf).trans rfl))
  · refine ⟨.tuple l, ?_, by rw [decide_eq_false (show ¬ loudL hs ch bu = [] from e)]; rfl⟩
    rw [e0]
    exact run_ret rfl ((seq_nx s0).trans (seq_rt hf))
/-! tags -/
theorem map_inj_mem {α β : Type} {f : α → β} : ∀ {l : List α}, (l.map f).Nodup → ∀ p ∈ l, ∀ q ∈ l, f p = f q → p = q
  | [], _, p, hp, _, _, _ => by cases hp
  | x :: xs, nd, p, hp, q, hq, e => by
    rw [List.map_cons, List.nodup_cons] at nd
    rcases List.mem_cons.mp hp with h1 | h1 <;> rcases List.mem_cons.mp hq with h2 | h2
    · rw [h1, h2]
    · exact absurd (List.mem_map.mpr ⟨q, h2, by rw [← e, h1]⟩) nd.1
    · exact absurd (List.mem_map.mpr ⟨p, h1, by rw [e, h2]⟩) nd.1
    · exact map_inj_mem nd.2 p h1 q h2 e
theorem TB_one (c : Case hs ch bu) {p q : Str × List Int} (hp : p ∈ TB bu) (hq : q ∈ TB bu) (e : p.2 = q.2) : p = q := map_inj_mem (by rw [TB_keys c]; exact c.bn) p hp q hq e
theorem TB_two (c : Case hs ch bu) {p q : Str × List Int} (hp : p ∈ TB bu) (hq : q ∈ TB bu) (e : p.1 = q.1) : p = q := map_inj_mem (by rw [TB_names c]; exact (tgs_pw bu).imp ltS_ne) p hp q hq e
def tagAt (bu : List (List Int)) (b : List Int) : Str := ((TB bu).find? fun p => decide (p.2 = b)).elim "" (·.1)
theorem tagAt_mem (c : Case hs ch bu) {b : List Int} (hb : b ∈ bu) : (tagAt bu b, b) ∈ TB bu := by
  unfold tagAt
  have hb2 : b ∈ (TB bu).map (·.2) := by rw [TB_keys c]; exact hb
  obtain ⟨p, hp, e⟩ := List.mem_map.mp hb2
  cases h : (TB bu).find? fun p => decide (p.2 = b) with
  | none =>
    have := List.find?_eq_none.mp h p hp
    exact absurd (decide_eq_true e) this
  | some q =>
    have h1 := List.find?_some h
    have h2 := List.mem_of_find?_eq_some h
    rw [decide_eq_true_iff] at h1
    show (q.1, b) ∈ TB bu
    rw [← h1]
    exact h2
theorem tagAt_eq (c : Case hs ch bu) {p : Str × List Int} (hp : p ∈ TB bu) : tagAt bu p.2 = p.1 := by
  have := TB_one c (tagAt_mem c (TB_key c hp)) hp rfl
  exact congrArg Prod.fst this
theorem idx_ex (c : Case hs ch bu) {b : List Int} (hb : b ∈ bu) : ∃ j : Nat, idxD (kT bu) (iT b) = some (.int (j : Nat)) ∧ ixD (.list ((tgs bu).map .str)) (.int (j : Nat)) = some (.str (tagAt bu b)) := by
  have key : ∀ l : List (List Int), b ∈ l → ∃ j : Nat, (l.map iT).findIdx? (fun z => PyData.eqv z (iT b)) = some j ∧ l[j]? = some b := by
    intro l
    induction l with
    | nil => intro h; cases h
    | cons x xs ih =>
      intro h
      rw [List.map_cons, List.findIdx?_cons]
      by_cases e : x = b
      · subst e
        refine ⟨0, ?_, rfl⟩
        rw [(eqv_pl _ _ (pn_iT x).pl (pn_iT x).pl).mpr rfl]
        rfl
      · have hx : b ∈ xs := by
          rcases List.mem_cons.mp h with h | h
          · exact absurd h.symm e
          · exact h
        obtain ⟨j, j1, j2⟩ := ih hx
        refine ⟨j + 1, ?_, j2⟩
        have : PyData.eqv (iT x) (iT b) = false := by
          rw [← Bool.not_eq_true, eqv_pl _ _ (pn_iT x).pl (pn_iT b).pl]
          exact fun z => e (iT_inj z)
        rw [this, j1]
        rfl
  obtain ⟨j, j1, j2⟩ := key bu hb
  refine ⟨j, ?_, ?_⟩
  · show (if SeqAt.shaped (.tuple (bu.map iT)) = true ∧ SeqAt.shaped (iT b) = true then ((bu.map iT).findIdx? fun z => PyData.eqv z (iT b)).map fun j => PyData.int (j : Nat) else none) = _
    rw [if_pos ⟨(pn_dT bu).sh, (pn_iT b).sh⟩, j1] <;> rfl
  · have hj : j < bu.length := (List.getElem?_eq_some_iff.mp j2).1
    have hj2 : j < (tgs bu).length := by rw [tgs_len c]; exact hj
    have hm : ((tgs bu)[j], b) ∈ TB bu := by
      have : (TB bu)[j]? = some ((tgs bu)[j], b) := List.getElem?_zip_eq_some.mpr ⟨List.getElem?_eq_getElem hj2, j2⟩
      exact List.mem_of_getElem? this
    rw [show tagAt bu b = (tgs bu)[j] from tagAt_eq c hm]
    refine ixD_lst ?_
    rw [List.getElem?_map, List.getElem?_eq_getElem hj2] <;> rfl
/-- the loud pairs by their tags are the strangers -/
theorem strange_iff (c : Case hs ch bu) (x : Str × Str) : x ∈ strangeL hs ch bu ↔ ∃ a b, (a, b) ∈ loudL hs ch bu ∧ x = (tagAt bu a, tagAt bu b) := by
  constructor
  · intro h
    obtain ⟨p, hp, h⟩ := List.mem_flatMap.mp h
    obtain ⟨y, hy, rfl⟩ := List.mem_map.mp h
    obtain ⟨hy1, hy2⟩ := List.mem_filter.mp hy
    rw [decide_eq_true_iff, List.mem_append, not_or, List.mem_singleton] at hy2
    obtain ⟨q, hq, rfl⟩ := List.mem_map.mp hy1
    obtain ⟨hq1, hq2⟩ := List.mem_filter.mp hq
    rw [ppl_eq] at hq1
    rcases List.mem_append.mp hq1 with h1 | h1
    · exact absurd (MB_name c h1) hy2.1
    · have hqb := TB_key c h1
      have hpb := TB_key c hp
      rw [c.opens hpb (c.bl _ hqb)] at hq2
      refine ⟨q.2, p.2, mem_loud.mpr ⟨hqb, hpb, fun e => hy2.2 ?_, hq2⟩, ?_⟩
      · rw [TB_one c hp h1 e]
      · rw [tagAt_eq c h1, tagAt_eq c hp]
  · rintro ⟨a, b, h, rfl⟩
    obtain ⟨ha, hb, hne, hl⟩ := mem_loud.mp h
    have pa := tagAt_mem c ha
    have pb := tagAt_mem c hb
    refine List.mem_flatMap.mpr ⟨(tagAt bu b, b), pb, List.mem_map.mpr ⟨tagAt bu a, List.mem_filter.mpr ⟨List.mem_map.mpr ⟨(tagAt bu a, a), List.mem_filter.mpr ⟨List.mem_append.mpr (.inr pa), ?_⟩, rfl⟩, ?_⟩, rfl⟩⟩
    · show opensB (doorB hs ch b) a = true
      rw [c.opens hb (c.bl _ ha)]
      exact hl
    · rw [decide_eq_true_iff, List.mem_append, not_or, List.mem_singleton]
      refine ⟨fun hm => ?_, fun e => hne ?_⟩
      · have hd := names_nd ch bu
        unfold nms at hd
        exact (List.nodup_append.mp hd).2.2 _ hm _ (TB_name c pa) rfl
      · have := TB_two c pa pb e
        exact (congrArg Prod.snd this).symm
end
end U
set_option maxHeartbeats 4000000
/-! M18: the hall of a case; CaseOk. -/
namespace U
open PySem PySem.Spec PyProof.Rows L2
section
variable {hs : List Int} {ch bu : List (List Int)}
theorem kept_run (c : Case hs ch bu) : onD φ_is_kept [hallD hs ch bu] = some (.bool (decide (loudL hs ch bu = []))) := by
  show runC 1 1 F_is_kept [.dat (hallD hs ch bu)] = _
  refine run_ret rfl (retS_run ?_)
  rw [op2_run (y := .tuple []) ((cal1_run (d := hallD hs ch bu) rfl).trans (strange_run c)) (tupE_run (ds := []) rfl (by simp))]
  have hmem : ∀ d, d ∈ srt (nub ((strangeL hs ch bu).map s2)) ↔ d ∈ (strangeL hs ch bu).map s2 := fun d => by rw [mem_srt, mem_nub]
  refine eqD_run ((pnn_tup (n := 1) fun d hd => ?_).pn (by decide)) ((pnn_tup (n := 0) fun d hd => by cases hd).pn (by decide)) ?_
  · obtain ⟨p, hp, rfl⟩ := List.mem_map.mp ((hmem d).mp hd)
    obtain ⟨h1, h2⟩ := strange_names c p hp
    exact pnn_tup fun d hd => by
      simp only [List.mem_cons, List.not_mem_nil, or_false] at hd
      rcases hd with rfl | rfl
      · exact pn_str (name_ok (names_mem h1)).2
      · exact pn_str (name_ok (names_mem h2)).2
  · rw [decide_eq_true_iff]
    constructor
    · intro h
      have : srt (nub ((strangeL hs ch bu).map s2)) = [] := by
        rw [List.eq_nil_iff_forall_not_mem]
        intro d hd
        obtain ⟨p, hp, _⟩ := List.mem_map.mp ((hmem d).mp hd)
        obtain ⟨a, b, hab, _⟩ := (strange_iff c p).mp hp
        rw [h] at hab
        cases hab
      rw [this]
    · intro h
      injection h with h
      rw [List.eq_nil_iff_forall_not_mem]
      rintro ⟨a, b⟩ hab
      have hx := (strange_iff c (tagAt bu a, tagAt bu b)).mpr ⟨a, b, hab, rfl⟩
      have : s2 (tagAt bu a, tagAt bu b) ∈ srt (nub ((strangeL hs ch bu).map s2)) := (hmem _).mpr (List.mem_map_of_mem hx)
      rw [h] at this
      cases this
theorem tag_at (k : Nat) (h : k < 5) {ρ : Rho} (hv : vE 12 ρ = some (.int (k : Nat))) : op2 addD (cE (.str "r")) (op2 ixD (cE (.str "abcdefghij")) (vE 12)) ρ = some (.str (tagsL.getD k "")) := by
  have e := op2_run (h := ixD) (f := cE (.str "abcdefghij")) (x := .str "abcdefghij") rfl hv
  unfold op2 at e ⊢
  rw [e]
  rcases k with _ | _ | _ | _ | _ | k
  all_goals first | (exfalso; omega) | rfl
theorem mate_at (k : Nat) (h : k < 3) {ρ : Rho} (hv : vE 12 ρ = some (.int (k : Nat))) : op2 addD (cE (.str "h")) (op2 ixD (cE (.str "abcdef")) (vE 12)) ρ = some (.str (matesL.getD k "")) := by
  have e := op2_run (h := ixD) (f := cE (.str "abcdef")) (x := .str "abcdef") rfl hv
  unfold op2 at e ⊢
  rw [e]
  rcases k with _ | _ | _ | k
  all_goals first | (exfalso; omega) | rfl
theorem take_range (l : List Str) (n : Nat) (h : n ≤ l.length) : (List.range n).map (fun k => PyData.str (l.getD k "")) = (l.take n).map .str := by
  apply List.ext_getElem
  · simp; omega
  · intro i h1 h2
    simp at h1
    simp [List.getD_eq_getElem?_getD, show i < l.length by omega]
theorem zip_enum (l : List Str) (ks : List (List Int)) (s : Nat) (h : ks.length + s ≤ l.length) : (ks.zipIdx s).map (fun p => pD (l.getD p.2 "", p.1)) = (((l.drop s).take ks.length).zip ks).map pD := by
  induction ks generalizing s with
  | nil => simp
  | cons k ks ih =>
    rw [List.length_cons] at h
    have hs : s < l.length := by omega
    rw [List.zipIdx_cons, List.map_cons, ih (s + 1) (by omega), List.drop_eq_getElem_cons hs, List.length_cons, List.take_succ_cons, List.zip_cons_cons, List.map_cons]
    congr 1
    show pD (l.getD s "", k) = pD (l[s], k)
    rw [List.getD_eq_getElem?_getD, List.getElem?_eq_getElem hs] <;> rfl
def stH (hs : List Int) (ch bu : List (List Int)) (p3 p4 p5 p6 p7 p8 p9 : Option Cell) : Rho :=
  [some (.dat (iT hs)), some (.dat (kT ch)), some (.nt (bu.map iT)), p3, p4, p5, p6, p7, p8, p9, some (.dat (.list ((tgs bu).map .str))), some (.dat (.list ((mts ch).map .str))), none, none, none, none, none]
theorem ixs_run {l : List Str} {k : Nat} (h : k < l.length) : ixD (.list (l.map .str)) (.int (k : Nat)) = some (.str (l.getD k "")) := by
  refine ixD_lst ?_
  rw [List.getElem?_map, List.getElem?_eq_getElem h, List.getD_eq_getElem?_getD, List.getElem?_eq_getElem h] <;> rfl
theorem people_run (c : Case hs ch bu) {l : List Str} {ks : List (List Int)} (hk : ks.length = l.length) {n : Nat} {it : SA} {ρ : Rho} {g : Rho → Rho} (hit : it ρ = some (enumOf (ks.map iT))) (hl : ks.length ≤ 100) {i : Nat} (e : SE)
    (h : ∀ (k : Nat) (t : List Int), k < l.length → ∃ ρ1, gT2 12 13 (.tuple [.int (k : Nat), iT t]) (wipeR ρ [12, 13]) = some ρ1 ∧ e ρ1 = some (pD (l.getD k "", t))) : frzE (lcL it (gT2 12 13) yesT e [12, 13]) ρ = some (.list ((l.zip ks).map pD)) := by
  have e2 := zip_enum l ks 0 (by omega)
  rw [List.drop_zero, hk, List.take_length] at e2
  rw [← e2]
  rw [enum_map] at hit
  refine frzE_run (lc_runM (xs := ks.zipIdx) (enc := fun p => .tuple [.int (p.2 : Nat), iT p.1]) (f := fun p => pD (l.getD p.2 "", p.1)) hit (by rw [List.length_zipIdx]; omega) fun p hp => ?_)
  obtain ⟨t, k⟩ := p
  have hk2 : ks[k]? = some t := List.mem_zipIdx_iff_getElem?.mp hp
  exact h k t (by rw [← hk]; exact (List.getElem?_eq_some_iff.mp hk2).1)
theorem hall_right (c : Case hs ch bu) (hb : bu ≠ []) : φ_L_hall_right [.dat (iT hs), .dat (kT ch), .nt (bu.map iT)] = some (.bool true) := by
  have n4 := c.n4
  have b5 := c.b5
  have c3 := c.c3
  have pl := ppl_len c
  show runC 17 3 F_L_hall_right [.dat (iT hs), .dat (kT ch), .nt (bu.map iT)] = _
  refine run_ret rfl ?_
  -- tags, mates
  have s1 : asgS (tupE (aCons (frzE (lcL (rngL (calE lenD (aCons (vE 2) aNil))) (gN 12) yesT (op2 addD (cE (.str "r")) (op2 ixD (cE (.str "abcdefghij")) (vE 12))) [12])) (aCons (frzE (lcL (rngL (calE lenD (aCons (vE 1) aNil))) (gN 12) yesT (op2 addD (cE (.str "h")) (op2 ixD (cE (.str "abcdef")) (vE 12))) [12])) aNil))) (gT2 10 11) (startC 17 [.dat (iT hs), .dat (kT ch), .nt (bu.map iT)]) = some (.nx (stH hs ch bu none none none none none none none)) := by
    have el : ∀ {f : SE} {ρ : Rho} {ks : List (List Int)}, f ρ = some (kT ks) → calE lenD (aCons f aNil) ρ = some (.int (ks.length : Int)) := fun {f ρ ks} h => by
      rw [cal1_run h]
      show some (PyData.int ((ks.map iT).length : Int)) = _
      rw [List.length_map]
    have e1 : frzE (lcL (rngL (calE lenD (aCons (vE 2) aNil))) (gN 12) yesT (op2 addD (cE (.str "r")) (op2 ixD (cE (.str "abcdefghij")) (vE 12))) [12]) (startC 17 [.dat (iT hs), .dat (kT ch), .nt (bu.map iT)]) = some (.list ((tgs bu).map .str)) := by
      unfold tgs
      rw [← take_range tagsL bu.length (by show bu.length ≤ 5; exact b5)]
      refine frzE_run (lc_runM (xs := List.range bu.length) (enc := fun k => .int (k : Nat)) (f := fun k => .str (tagsL.getD k "")) (rngL_run (el (ks := bu) rfl) (by omega)) (by rw [List.length_range]; omega) fun k hk => ⟨_, rfl, tag_at k (by rw [List.mem_range] at hk; omega) rfl⟩)
    have e2 : frzE (lcL (rngL (calE lenD (aCons (vE 1) aNil))) (gN 12) yesT (op2 addD (cE (.str "h")) (op2 ixD (cE (.str "abcdef")) (vE 12))) [12]) (startC 17 [.dat (iT hs), .dat (kT ch), .nt (bu.map iT)]) = some (.list ((mts ch).map .str)) := by
      unfold mts
      rw [← take_range matesL ch.length (by show ch.length ≤ 3; exact c3)]
      refine frzE_run (lc_runM (xs := List.range ch.length) (enc := fun k => .int (k : Nat)) (f := fun k => .str (matesL.getD k "")) (rngL_run (el (ks := ch) rfl) (by omega)) (by rw [List.length_range]; omega) fun k hk => ⟨_, rfl, mate_at k (by rw [List.mem_range] at hk; omega) rfl⟩)
    unfold asgS
    rw [tupE_run (aCons_run e1 (aCons_run e2 rfl)) (by simp)]
    rfl
  refine (seq_nx s1).trans ?_
  -- people
  have s2a : frzE (lcL (enumL (vE 1)) (gT2 12 13) yesT (tupE (aCons (op2 ixD (vE 11) (vE 12)) (aCons (vE 13) aNil))) [12, 13]) (stH hs ch bu none none none none none none none) = some (.list ((MB ch).map pD)) := by
    refine people_run c (l := mts ch) (ks := ch) (mts_len c).symm (n := 0) (g := id) (i := 0) rfl (by omega) _ fun k t hk => ?_
    refine ⟨[some (.dat (iT hs)), some (.dat (kT ch)), some (.nt (bu.map iT)), none, none, none, none, none, none, none, some (.dat (.list ((tgs bu).map .str))), some (.dat (.list ((mts ch).map .str))), some (.dat (.int (k : Nat))), some (.dat (iT t)), none, none, none], rfl, ?_⟩
    exact tupE_run (ds := [.str ((mts ch).getD k ""), iT t]) (aCons_run ((op2_run (x := .list ((mts ch).map .str)) (y := .int (k : Nat)) rfl rfl).trans (ixs_run hk)) rfl) (by simp)
  refine (seq_nx (setS_run s2a)).trans ?_
  have s2b : frzE (lcL (enumL (vE 2)) (gT2 12 13) yesT (tupE (aCons (op2 ixD (vE 10) (vE 12)) (aCons (vE 13) aNil))) [12, 13]) (stH hs ch bu (some (.dat (.list ((MB ch).map pD)))) none none none none none none) = some (.list ((TB bu).map pD)) := by
    refine people_run c (l := tgs bu) (ks := bu) (tgs_len c).symm (n := 0) (g := id) (i := 0) rfl (by omega) _ fun k t hk => ?_
    refine ⟨[some (.dat (iT hs)), some (.dat (kT ch)), some (.nt (bu.map iT)), some (.dat (.list ((MB ch).map pD))), none, none, none, none, none, none, some (.dat (.list ((tgs bu).map .str))), some (.dat (.list ((mts ch).map .str))), some (.dat (.int (k : Nat))), some (.dat (iT t)), none, none, none], rfl, ?_⟩
    exact tupE_run (ds := [.str ((tgs bu).getD k ""), iT t]) (aCons_run ((op2_run (x := .list ((tgs bu).map .str)) (y := .int (k : Nat)) rfl rfl).trans (ixs_run hk)) rfl) (by simp)
  have s3 : frzE (calL sortAD (aCons (op2 addD (vE 3) (frzE (lcL (enumL (vE 2)) (gT2 12 13) yesT (tupE (aCons (op2 ixD (vE 10) (vE 12)) (aCons (vE 13) aNil))) [12, 13]))) aNil)) (stH hs ch bu (some (.dat (.list ((MB ch).map pD)))) none none none none none none) = some (.list ((ppl ch bu).map pD)) := by
    have ml : (MB ch).length + (TB bu).length = ch.length + bu.length := by rw [← pl, ppl_eq, List.length_append]
    have e : op2 addD (vE 3) (frzE (lcL (enumL (vE 2)) (gT2 12 13) yesT (tupE (aCons (op2 ixD (vE 10) (vE 12)) (aCons (vE 13) aNil))) [12, 13])) (stH hs ch bu (some (.dat (.list ((MB ch).map pD)))) none none none none none none) = some (.list ((ppl ch bu).map pD)) := by
      refine (op2_run (x := .list ((MB ch).map pD)) rfl s2b).trans ?_
      rw [addD_lst (by simp only [List.length_map]; omega), ← List.map_append] <;> rfl
    have := sorted_run e (srtOk_ppl (fun x hx => (name_ok (names_mem (ppl_name c hx))).2) (by omega))
    rw [srt_ppl c] at this
    exact frzE_run this
  refine (seq_nx (setS_run s3)).trans ?_
  -- the hall
  have s4 : tupE (aCons (vE 0) (aCons (calE tupOfD (aCons (vE 3) aNil)) (aCons (calE tupOfD (aCons (frzE (lcL (itE (vE 10)) (gN 16) yesT (tupE (aCons (vE 16) (aCons (calE tupOfD (aCons (frzE (calL sortAD (aCons (op2 addD (vE 11) (frzE (lstL (aCons (vE 16) aNil)))) aNil))) aNil)) aNil))) [16])) aNil)) aNil))) (stH hs ch bu (some (.dat (.list ((ppl ch bu).map pD)))) none none none none none none) = some (hallD hs ch bu) := by
    have e : calE tupOfD (aCons (frzE (lcL (itE (vE 10)) (gN 16) yesT (tupE (aCons (vE 16) (aCons (calE tupOfD (aCons (frzE (calL sortAD (aCons (op2 addD (vE 11) (frzE (lstL (aCons (vE 16) aNil)))) aNil))) aNil)) aNil))) [16])) aNil) (stH hs ch bu (some (.dat (.list ((ppl ch bu).map pD)))) none none none none none none) = some (.tuple ((rms ch bu).map rD)) := by
      have e0 : (rms ch bu).map rD = (tgs bu).map fun t => rD (t, mts ch ++ [t]) := by unfold rms; rw [List.map_map] <;> rfl
      rw [e0]
      refine tup_lcM (xs := tgs bu) (enc := .str) (f := fun t => rD (t, mts ch ++ [t])) rfl (by rw [tgs_len c]; omega) fun t ht => ?_
      have hr : (t, mts ch ++ [t]) ∈ rms ch bu := List.mem_map_of_mem ht
      obtain ⟨_, _, r3, r4, r5⟩ := rms_room c hr
      refine ⟨[some (.dat (iT hs)), some (.dat (kT ch)), some (.nt (bu.map iT)), some (.dat (.list ((ppl ch bu).map pD))), none, none, none, none, none, none, some (.dat (.list ((tgs bu).map .str))), some (.dat (.list ((mts ch).map .str))), none, none, none, none, some (.dat (.str t))], rfl, ?_⟩
      generalize hρ : [some (Cell.dat (iT hs)), some (.dat (kT ch)), some (.nt (bu.map iT)), some (.dat (.list ((ppl ch bu).map pD))), none, none, none, none, none, none, some (.dat (.list ((tgs bu).map .str))), some (.dat (.list ((mts ch).map .str))), none, none, none, none, some (.dat (.str t))] = ρ
      have v11 : vE 11 ρ = some (.list ((mts ch).map .str)) := by rw [← hρ]; rfl
      have v16 : vE 16 ρ = some (.str t) := by rw [← hρ]; rfl
      have a1 : op2 addD (vE 11) (frzE (lstL (aCons (vE 16) aNil))) ρ = some (.list ((mts ch ++ [t]).map .str)) := by
        rw [op2_run v11 (frzE_run (lst_runL (aCons_run v16 rfl) (by simp)))]
        rw [addD_lst (by simp only [List.length_map, List.length_singleton, mts_len c]; omega), List.map_append] <;> rfl
      have a2 := sorted_run a1 (srtOk_strs (fun x hx => (name_ok (names_mem (r4 x hx))).2) (by have : (mts ch ++ [t]).length ≤ 4 := r5; omega))
      rw [srt_strs (show (mts ch ++ [t]).Pairwise ltS from r3)] at a2
      exact tupE_run (ds := [.str t, sT (mts ch ++ [t])]) (aCons_run v16 (aCons_run ((cal1_run (frzE_run a2)).trans rfl) rfl)) (by simp)
    exact tupE_run (ds := [iT hs, .tuple ((ppl ch bu).map pD), .tuple ((rms ch bu).map rD)]) (aCons_run rfl (aCons_run ((cal1_run (d := .list ((ppl ch bu).map pD)) rfl).trans rfl) (aCons_run e rfl))) (by simp)
  refine (seq_nx (setS_run s4)).trans ?_
  -- loud
  obtain ⟨lo, lp, lr⟩ := loud_run c
  have ll : lo.length ≤ 25 := by rw [lp.length_eq]; exact loud_len c
  have lmem : ∀ p ∈ lo, p.1 ∈ bu ∧ p.2 ∈ bu := fun p hp => by
    have := mem_loud.mp (show (p.1, p.2) ∈ loudL hs ch bu from lp.mem_iff.mp hp)
    exact ⟨this.1, this.2.1⟩
  have s5 : frzE (lcL (itE (calE (onD φ_L_loud) (aCons (vE 1) (aCons (vE 2) aNil)))) (gT2 14 15) yesT (tupE (aCons (op2 ixD (vE 10) (idxE (vN 2) (vE 14))) (aCons (op2 ixD (vE 10) (idxE (vN 2) (vE 15))) aNil))) [14, 15]) (stH hs ch bu (some (.dat (.list ((ppl ch bu).map pD)))) (some (.dat (hallD hs ch bu))) none none none none none) = some (.list ((lo.map fun p => (tagAt bu p.1, tagAt bu p.2)).map s2)) := by
    rw [List.map_map]
    refine frzE_run (lc_runM (xs := lo) (enc := ppD) (f := fun p => s2 (tagAt bu p.1, tagAt bu p.2)) (itE_lst ((calE_run (ds := [kT ch, kT bu]) rfl).trans lr)) (by omega) fun p hp => ?_)
    obtain ⟨p1, p2⟩ := lmem p hp
    obtain ⟨j1, i1, x1⟩ := idx_ex c p1
    obtain ⟨j2, i2, x2⟩ := idx_ex c p2
    refine ⟨[some (.dat (iT hs)), some (.dat (kT ch)), some (.nt (bu.map iT)), some (.dat (.list ((ppl ch bu).map pD))), some (.dat (hallD hs ch bu)), none, none, none, none, none, some (.dat (.list ((tgs bu).map .str))), some (.dat (.list ((mts ch).map .str))), none, none, some (.dat (iT p.1)), some (.dat (iT p.2)), none], rfl, ?_⟩
    have a1 : idxE (vN 2) (vE 14) [some (.dat (iT hs)), some (.dat (kT ch)), some (.nt (bu.map iT)), some (.dat (.list ((ppl ch bu).map pD))), some (.dat (hallD hs ch bu)), none, none, none, none, none, some (.dat (.list ((tgs bu).map .str))), some (.dat (.list ((mts ch).map .str))), none, none, some (.dat (iT p.1)), some (.dat (iT p.2)), none] = some (.int (j1 : Nat)) := i1
    have a2 : idxE (vN 2) (vE 15) [some (.dat (iT hs)), some (.dat (kT ch)), some (.nt (bu.map iT)), some (.dat (.list ((ppl ch bu).map pD))), some (.dat (hallD hs ch bu)), none, none, none, none, none, some (.dat (.list ((tgs bu).map .str))), some (.dat (.list ((mts ch).map .str))), none, none, some (.dat (iT p.1)), some (.dat (iT p.2)), none] = some (.int (j2 : Nat)) := i2
    exact tupE_run (ds := [.str (tagAt bu p.1), .str (tagAt bu p.2)]) (aCons_run ((op2_run (x := .list ((tgs bu).map .str)) rfl a1).trans x1) (aCons_run ((op2_run (x := .list ((tgs bu).map .str)) rfl a2).trans x2) rfl)) (by simp)
  refine (seq_nx (setS_run s5)).trans ?_
  generalize hT : lo.map (fun p => (tagAt bu p.1, tagAt bu p.2)) = tl
  have tlen : tl.length ≤ 25 := by rw [← hT, List.length_map]; exact ll
  have hnil : loudL hs ch bu = [] ↔ tl = [] := by
    rw [← hT, List.map_eq_nil_iff, ← List.length_eq_zero_iff, ← List.length_eq_zero_iff, lp.length_eq]
  generalize hc0 : decide (loudL hs ch bu = []) = calm
  have tmem : ∀ x, x ∈ tl ↔ x ∈ strangeL hs ch bu := fun x => by
    rw [strange_iff c x, ← hT, List.mem_map]
    constructor
    · rintro ⟨p, hp, rfl⟩
      exact ⟨p.1, p.2, lp.mem_iff.mp hp, rfl⟩
    · rintro ⟨a, b, h, rfl⟩
      exact ⟨(a, b), lp.mem_iff.mpr h, rfl⟩
  have tnd : tl.Nodup := by
    rw [← hT]
    have nd : lo.Nodup := lp.nodup_iff.mpr (loud_nd c)
    refine List.pairwise_map.mpr (nd.imp_of_mem fun {a b} ha hb hab e => hab ?_)
    obtain ⟨a1, a2⟩ := lmem a ha
    obtain ⟨b1, b2⟩ := lmem b hb
    have e1 := TB_two c (tagAt_mem c a1) (tagAt_mem c b1) (Prod.ext_iff.mp e).1
    have e2 := TB_two c (tagAt_mem c a2) (tagAt_mem c b2) (Prod.ext_iff.mp e).2
    exact Prod.ext (Prod.ext_iff.mp e1).2 (Prod.ext_iff.mp e2).2
  have hstr : srt (nub ((strangeL hs ch bu).map s2)) = srt (tl.map s2) := srt_nub_one (f := s2) (fun _ _ => toks_s2) tnd fun x => (tmem x).symm
  have tok : ∀ p ∈ tl, p.1 ∈ nms ch bu ∧ p.2 ∈ nms ch bu := fun p hp => strange_names c p ((tmem p).mp hp)
  have tset : SetOk (tl.map s2) := setOk_s2 (fun p hp => ⟨(name_ok (names_mem (tok p hp).1)).2, (name_ok (names_mem (tok p hp).2)).2⟩) (by omega)
  -- got
  obtain ⟨cd, cr, cn⟩ := clash_run c
  have s6 : ∀ p5, lstL (aCons (calE (onD φ_is_hall) (aCons (vE 4) aNil)) (aCons (calE (onD φ_is_kept) (aCons (vE 4) aNil)) (aCons (calE (onD φ_is_quiet) (aCons (vE 0) (aCons (vE 1) (aCons (vE 2) aNil)))) (aCons (op2 isND (calE (onD φ_clash) (aCons (vE 1) (aCons (vE 2) aNil))) (cE .none)) aNil)))) (stH hs ch bu (some (.dat (.list ((ppl ch bu).map pD)))) (some (.dat (hallD hs ch bu))) p5 none none none none) = some [.bool true, .bool calm, .bool calm, .bool calm] := fun p5 => by
    have a2 := (cal1_run (φ := onD φ_is_kept) (f := vE 4) (ρ := stH hs ch bu (some (.dat (.list ((ppl ch bu).map pD)))) (some (.dat (hallD hs ch bu))) p5 none none none none) (d := hallD hs ch bu) rfl).trans (kept_run c)
    have a3 := (calE_run (φ := onD φ_is_quiet) (a := aCons (vE 0) (aCons (vE 1) (aCons (vE 2) aNil))) (ρ := stH hs ch bu (some (.dat (.list ((ppl ch bu).map pD)))) (some (.dat (hallD hs ch bu))) p5 none none none none) (ds := [iT hs, kT ch, kT bu]) rfl).trans (quiet_run c)
    have a4 : op2 isND (calE (onD φ_clash) (aCons (vE 1) (aCons (vE 2) aNil))) (cE .none) (stH hs ch bu (some (.dat (.list ((ppl ch bu).map pD)))) (some (.dat (hallD hs ch bu))) p5 none none none none) = some (.bool calm) := by
      rw [op2_run (x := cd) (y := .none) ((calE_run (ds := [kT ch, kT bu]) rfl).trans cr) rfl, ← hc0, ← cn]
      rfl
    rw [hc0] at a2 a3
    exact lst_runL (aCons_run ((cal1_run (d := hallD hs ch bu) rfl).trans (is_hall_run c hb)) (aCons_run a2 (aCons_run a3 (aCons_run a4 rfl)))) (by simp)
  refine (seq_nx (setO_run (s6 _))).trans ?_
  have s7 : ∀ p5 p6, calE (onD φ_strange) (aCons (vE 4) aNil) (stH hs ch bu (some (.dat (.list ((ppl ch bu).map pD)))) (some (.dat (hallD hs ch bu))) p5 p6 none none none) = some (.tuple (srt (tl.map s2))) := fun p5 p6 => by
    rw [← hstr]
    exact (cal1_run (d := hallD hs ch bu) rfl).trans (strange_run c)
  refine (seq_nx (app_run rfl (s7 _ _) (by simp))).trans ?_
  -- who opens
  obtain ⟨b0, bs, rfl⟩ : ∃ b0 bs, bu = b0 :: bs := by
    cases bu with
    | nil => exact absurd rfl hb
    | cons b0 bs => exact ⟨b0, bs, rfl⟩
  have hb0 : b0 ∈ b0 :: bs := List.mem_cons_self
  have hra : (("ra" : Str), b0) ∈ TB (b0 :: bs) := List.mem_cons_self
  have wl := who_len c (b := b0)
  have s8 : ∀ p5 p6, frzE (lcL (itE (vE 3)) (gN 13) (orT (tstE (op2 inD (op2 ixD (vE 13) (cE (.int 0))) (vE 11))) (tstE (calE (onD φ_L_lets) (aCons (vE 1) (aCons (op2 ixD (vE 13) (cE (.int 1))) (aCons (op2 ixD (vE 2) (cE (.int 0))) aNil)))))) (op2 ixD (vE 13) (cE (.int 0))) [13]) (stH hs ch (b0 :: bs) (some (.dat (.list ((ppl ch (b0 :: bs)).map pD)))) (some (.dat (hallD hs ch (b0 :: bs)))) p5 p6 none none none) = some (.list (((whoL hs ch (b0 :: bs) b0).map (·.1)).map .str)) := fun p5 p6 => by
    rw [List.map_map]
    have ew : whoL hs ch (b0 :: bs) b0 = (ppl ch (b0 :: bs)).filter fun q => decide (q.1 ∈ mts ch) || lb hs ch q.2 b0 := by
      unfold whoL
      refine List.filter_congr fun q hq => ?_
      rw [c.opens hb0 (key_len c hq)]
      by_cases hm : q.1 ∈ mts ch
      · rw [decide_eq_true hm, Bool.true_or]
        have hq2 : q.2 ∈ ch := by
          rw [ppl_eq] at hq
          rcases List.mem_append.mp hq with h | h
          · exact MB_key c h
          · have hd := names_nd ch (b0 :: bs)
            unfold nms at hd
            exact absurd rfl ((List.nodup_append.mp hd).2.2 _ hm _ (TB_name c h))
        unfold lb letsB
        rw [List.all_eq_true]
        intro k _
        rw [Bool.or_eq_true, decide_eq_true_iff]
        exact .inl (List.mem_map_of_mem (f := fun x : List Int => x.getD k 0) hq2)
      · rw [decide_eq_false hm, Bool.false_or]
    rw [ew]
    refine frzE_run (lc_run (xs := ppl ch (b0 :: bs)) (enc := pD) (p := fun q => decide (q.1 ∈ mts ch) || lb hs ch q.2 b0) (f := fun q => .str q.1) (itE_lst rfl) (by omega) fun q hq => ?_)
    generalize hρ : [some (Cell.dat (iT hs)), some (.dat (kT ch)), some (.nt ((b0 :: bs).map iT)), some (.dat (.list ((ppl ch (b0 :: bs)).map pD))), some (.dat (hallD hs ch (b0 :: bs))), p5, p6, none, none, none, some (.dat (.list ((tgs (b0 :: bs)).map .str))), some (.dat (.list ((mts ch).map .str))), none, some (.dat (pD q)), none, none, none] = ρ
    have v1 : vE 1 ρ = some (kT ch) := by rw [← hρ]; rfl
    have v2 : vE 2 ρ = some (kT (b0 :: bs)) := by rw [← hρ]; rfl
    have v11 : vE 11 ρ = some (.list ((mts ch).map .str)) := by rw [← hρ]; rfl
    have v13 : vE 13 ρ = some (pD q) := by rw [← hρ]; rfl
    have a0 : op2 ixD (vE 13) (cE (.int 0)) ρ = some (.str q.1) := (op2_run v13 rfl).trans ix0
    have a1 : op2 ixD (vE 13) (cE (.int 1)) ρ = some (iT q.2) := (op2_run v13 rfl).trans ix1
    have a2 : op2 ixD (vE 2) (cE (.int 0)) ρ = some (iT b0) := (op2_run v2 rfl).trans ix0
    refine ⟨ρ, by rw [← hρ]; rfl, orT_run (tst_runB ?_) fun _ => tst_runB ?_, fun _ => a0⟩
    · rw [op2_run a0 v11]
      refine inD_lst ((pn_str (name_ok (names_mem (ppl_name c hq))).2).pn (by decide)) ((pnn_lst (n := 0) fun d hd => ?_).pn (by decide)) ?_
      · obtain ⟨y, hy, rfl⟩ := List.mem_map.mp hd
        exact pn_str (name_ok (names_mem (List.mem_append.mpr (.inl hy) : y ∈ nms ch (b0 :: bs)))).2
      · rw [decide_eq_true_iff, mem_mapI fun _ _ => str_inj]
    · exact (calE_run (aCons_run v1 (aCons_run a1 (aCons_run a2 rfl)))).trans (lb_run c (key_len c hq) (c.bl b0 hb0))
  refine (seq_nx (setS_run (s8 _ _))).trans ?_
  have s9 : ∀ p6 p7, op2 eqD (vE 5) (frzE (lstL aNil)) (stH hs ch (b0 :: bs) (some (.dat (.list ((ppl ch (b0 :: bs)).map pD)))) (some (.dat (hallD hs ch (b0 :: bs)))) (some (.dat (.list (tl.map s2)))) p6 p7 none none) = some (.bool calm) := fun p6 p7 => by
    rw [op2_run (x := .list (tl.map s2)) (y := .list []) rfl (frzE_run (ds := []) rfl)]
    refine eqD_run ((pnn_lst (n := 1) fun d hd => ?_).pn (by decide)) pn_nilL ?_
    · obtain ⟨p, hp, rfl⟩ := List.mem_map.mp hd
      exact pnn_tup fun d hd => by
        simp only [List.mem_cons, List.not_mem_nil, or_false] at hd
        rcases hd with rfl | rfl
        · exact pn_str (name_ok (names_mem (tok p hp).1)).2
        · exact pn_str (name_ok (names_mem (tok p hp).2)).2
    · rw [← hc0, decide_eq_true_iff, hnil]
      constructor
      · intro h; rw [h]; rfl
      · intro h
        exact List.map_eq_nil_iff.mp (PyData.list.inj h)
  refine (seq_nx (setS_run (s9 _ _))).trans ?_
  have s10 : ∀ p6, frzE (lstL (aCons (cE (.bool true)) (aCons (vE 8) (aCons (vE 8) (aCons (vE 8) (aCons (calE tupOfD (aCons (frzE (calL sortAD (aCons (vE 5) aNil))) aNil)) (aCons (calE tupOfD (aCons (vE 7) aNil)) aNil))))))) (stH hs ch (b0 :: bs) (some (.dat (.list ((ppl ch (b0 :: bs)).map pD)))) (some (.dat (hallD hs ch (b0 :: bs)))) (some (.dat (.list (tl.map s2)))) p6 (some (.dat (.list (((whoL hs ch (b0 :: bs) b0).map (·.1)).map .str)))) (some (.dat (.bool calm))) none) =
      some (.list [.bool true, .bool calm, .bool calm, .bool calm, .tuple (srt (tl.map s2)), sT ((whoL hs ch (b0 :: bs) b0).map (·.1))]) := fun p6 => by
    refine frzE_run (lst_runL (aCons_run rfl (aCons_run rfl (aCons_run rfl (aCons_run rfl (aCons_run ((cal1_run (frzE_run (sorted_run rfl tset.1))).trans rfl) (aCons_run ((cal1_run (d := .list (((whoL hs ch (b0 :: bs) b0).map (·.1)).map .str)) rfl).trans rfl) rfl)))))) (by simp))
  refine (seq_nx (setS_run (s10 _))).trans ?_
  refine frz_run rfl (retS_run ?_)
  have hfin : onD (φ_L_same 7) [.list [.bool true, .bool calm, .bool calm, .bool calm, .tuple (srt (tl.map s2)), sT ((whoL hs ch (b0 :: bs) b0).map (·.1))], .list [.bool true, .bool calm, .bool calm, .bool calm, .tuple (srt (tl.map s2)), sT ((whoL hs ch (b0 :: bs) b0).map (·.1))]] = some (.bool true) := by
    refine same_run 7 3 _ (by decide) (.lst (by simp) fun x hx => ?_)
    simp only [List.mem_cons, List.not_mem_nil, or_false] at hx
    rcases hx with rfl | rfl | rfl | rfl | rfl | rfl
    · exact .bool _
    · exact .bool _
    · exact .bool _
    · exact .bool _
    · refine .tup (by rw [(srt_perm _).length_eq, List.length_map]; omega) fun y hy => ?_
      obtain ⟨p, hp, rfl⟩ := List.mem_map.mp (mem_srt.mp hy)
      refine .tup (by simp) fun z hz => ?_
      simp only [List.mem_cons, List.not_mem_nil, or_false] at hz
      rcases hz with rfl | rfl
      · exact .str _ (name_ok (names_mem (tok p hp).1)).2
      · exact .str _ (name_ok (names_mem (tok p hp).2)).2
    · refine .tup (by rw [List.length_map, List.length_map]; omega) fun y hy => ?_
      obtain ⟨x, hx, rfl⟩ := List.mem_map.mp hy
      exact .str _ (name_ok (names_mem (who_names c x hx))).2
  have s11 : ∀ p7 p8 p9, op2 addD (vE 6) (frzE (lstL (aCons (calE (onD φ_who_opens) (aCons (vE 4) (aCons (cE (.str "ra")) aNil))) aNil))) (stH hs ch (b0 :: bs) (some (.dat (.list ((ppl ch (b0 :: bs)).map pD)))) (some (.dat (hallD hs ch (b0 :: bs)))) (some (.dat (.list (tl.map s2)))) (some (.dat (.list [.bool true, .bool calm, .bool calm, .bool calm, .tuple (srt (tl.map s2))]))) p7 p8 p9) = some (.list [.bool true, .bool calm, .bool calm, .bool calm, .tuple (srt (tl.map s2)), sT ((whoL hs ch (b0 :: bs) b0).map (·.1))]) := fun p7 p8 p9 => by
    refine (op2_run (x := .list [.bool true, .bool calm, .bool calm, .bool calm, .tuple (srt (tl.map s2))]) rfl (frzE_run (lst_runL (aCons_run ((calE_run (ds := [hallD hs ch (b0 :: bs), .str "ra"]) rfl).trans (who_opens_run c hra)) rfl) (by simp)))).trans ?_
    rw [addD_lst (by simp)] <;> rfl
  generalize onD (φ_L_same 7) = S at hfin ⊢
  refine (calE_run (φ := S) (ds := [.list [.bool true, .bool calm, .bool calm, .bool calm, .tuple (srt (tl.map s2)), sT ((whoL hs ch (b0 :: bs) b0).map (·.1))], .list [.bool true, .bool calm, .bool calm, .bool calm, .tuple (srt (tl.map s2)), sT ((whoL hs ch (b0 :: bs) b0).map (·.1))]]) ?_).trans hfin
  refine aCons_run ?_ (aCons_run ?_ ?_)
  · exact s11 _ _ _
  · rfl
  · rfl
end
theorem caseOk : CaseOk := by
  refine ⟨fun hs hd => ⟨(teethC hs).map iT, teeth_run (fun h hh => by have := hd.2.2 h hh; omega) hd.2.1, ?_⟩, fun hs ch bu d c1 c3 ck b5 bn bk => ?_⟩
  · have h1 := teeth_count (b := 3) (hs := hs) fun h hh => (hd.2.2 h hh).2
    have h2 : 3 ^ hs.length ≤ 3 ^ 4 := Nat.pow_le_pow_right (by decide) hd.2.1
    rw [List.length_map]
    omega
  · have c : Case hs ch bu := ⟨d, c1, c3, ck, b5, bn, bk⟩
    by_cases hb : bu = []
    · exact case_right c (.inr hb)
    · exact case_right c (.inl (hall_right c hb))
end U
set_option maxHeartbeats 0
/-! The law's def and the row. -/
namespace U
open PySem PySem.Spec PyProof.Rows L2 Hd
theorem law_pure (ok : CaseOk) {K : PySem.W.Frag} {vs : List V} {H : Hp} {Q : VK} {E : XK} (w : spLaw K vs H Q E) : tLaw K { nx := fun _ H' => Q .non H', rt := Q } (L2.start ["_law_script", "_law_cells_here", "_law_k"] vs) H := by
  obtain ⟨a, ns, rfl, hS, hl, q⟩ := w
  have R0 : Rep noH H [some (.ref a), none, none] [none, none, none] := Rep.consNone (o := some (.ref a)) (start_rep (N := ["_law_cells_here", "_law_k"]) (vs := []) (cs := []) ex_no .nil)
  refine ⟨noH, _, false, R0, ?_, fun F1 H1 g1 => ?_⟩
  · show ((φ_L_hand_right []).bind asB).map (fun b => !b) = _
    rw [hand_true ok]
    rfl
  dsimp only
  rw [if_neg Bool.false_ne_true]
  refine ⟨.ref a, rfl, a, ns, rfl, sql_ex hS g1.hh, hl, fun p cs H' e1 n1 h1 c1 => ?_⟩
  have R1 : Rep (boxF p (cs.map V.int)) H' [some (.ref a), some (.ref p), none] [none, some (.dat (.list (cs.map .int))), none] := Rep.consNone (o := some (.ref a)) (rep_box (l := [none]) h1)
  exact ⟨_, _, _, R1, law_all cs c1 none, fun v F' H2 g dv => by cases dv; exact q H2⟩
section
variable {P : Program} {w : World} {K : PySem.W.Frag} {mg : Str → Option Value} {base : Heap}
theorem ok_law (ok : CaseOk) (T : Txt P w K mg base) {fa : Addr} {fd : FuncData} (F : FunD K "law" "law" (defArgs s_law) (defBody s_law) (defScope s_law) [] [] fa fd) : FnOk P w K mg base CX0 16 fa fd ["_law_script"] (spLaw K) := by
  have HR := ok_L_right ok T
  have HB := ok_L_box T
  have HC := ok_L_cells T
  have H_L_hand_right := ok_L_hand_right T
  refine F.ok sc_law (fun vs H Q E w => ?_) fun cdv A outer s H vs Q E hr w => ⟨tLaw K, PSs.nox ?_, law_pure ok w⟩
  · obtain ⟨a, ns, rfl, _⟩ := w
    rfl
  · refine pss_cons (ps_if (dt_not (dt_val (de_call0H (H_L_hand_right.mono (by omega)) hr (by rfl)))) (pss_one (ps_ret de_bl)) pss_nil) ?_
    refine pss_cons (ps_set sc_law.nd (i := 1) rfl (.inr rfl) (pe_callR (HC.mono (by omega)) hr (by rfl) (pa_cons (pe_var (i := 0) rfl (.inl rfl)) (pa_cons pe_int pa_nil)))) ?_
    exact pss_one (ps_ret (de_all rfl (by rfl) (T.free 55) (da_cons (de_frz (dl_lc rfl sc_law.nd (di_range (by rfl) (T.free 64) (de_len (by rfl) (T.free 61) (da_cons (de_var 1) da_nil))) (blkOk_by (own := [("_law_k", 2)]) (by kernel_rfl)) (fun s H C cl fp => (dg_name sc_law.nd (i := 2) rfl (.inl rfl))) (fun s H C cl fp => dts_nil)
      (fun s H C cl fp => de_right (HR.mono (by omega)) (HB.mono (by omega)) hr (by rfl) (by rfl) (da_cons (de_var 1) (da_cons (de_var 2) da_nil))) (by decide))) da_nil)))
end
theorem facts (ok : CaseOk) {P : Program} {w : World} {K : PySem.W.Frag} {h : Heap} {mg : Str → Option Value} {f : Addr} (X : K.In h) (G : h.Ns mainGlobals mg) (hfa : mg ("law" : Str) = some (.ref f)) (c : He.SaysD Hd.fa Hd.fn K) :
    ∃ fd : FuncData, (∀ (s : Shared) (v : Value), BindsTo s fd ⟨[v], []⟩ [("_law_script", v)]) ∧ ∀ base : Heap, K.In base → base.Ns mainGlobals mg → FnOk P w K mg base CX0 16 f fd ["_law_script"] (spLaw K) := by
  obtain ⟨fd, F⟩ := c.def_ 53 (d := d_law) rfl
  have e := hfa.symm.trans (He.glo_ok X G (c.fact 53 (f := .glo "law") rfl))
  cases e
  have b := FunD.bindsA (ps := ["_law_script"]) F fun _ _ _ _ _ _ us hl => match us, hl with | [_], _ => rfl
  exact ⟨fd, fun s v => b s [v] rfl, fun base _ _ => ok_law ok ⟨h, X, G, c⟩ F⟩
end U
open PySem PySem.W PySem.Calls PyProof.Rows
theorem row_of (ok : U.CaseOk) : PySem.Challenge.rw_undermasters_k09_whole_doors_and_rooms.Holds := by
  w_on; o_law
  refine HandSHeadRun.head_any (r := OpenLaw.row PySem.Challenge.rw_undermasters_k09_whole_doors_and_rooms) (q := view (OpenLaw.row PySem.Challenge.rw_undermasters_k09_whole_doors_and_rooms).prog [65]) (H := Hd.hk) (ob := Hd.ob) (M := 4000) (loose := Hd.names) (d := HandSHeadRun.topDef (OpenLaw.row PySem.Challenge.rw_undermasters_k09_whole_doors_and_rooms).prog 65) (kwd := []) Hd.ob_eq
    (by kernel_rfl) (fun s => by kernel_rfl) Hd.run (by kernel_rfl) (by kernel_rfl) (by kernel_rfl) (by rfl) (by first | assumption | decide +kernel) (by decide +kernel) ⟨rfl, rfl, rfl, rfl, rfl, by decide +kernel⟩ ?hw ?hc
  case hw => w_witness2
  case hc =>
    refine L2.walk_ofE (l := PySem.Challenge.rw_undermasters_k09_whole_doors_and_rooms) (n := 63) (k := 16) (x := "_law_script") (CX := L2.CX0) rfl (by decide) (by kernel_rfl) ⟨rfl, by decide, by decide⟩ ?F (fun _ _ _ _ z => z)
    intro w mg fa h Y G hmg0
    obtain ⟨K, KX, c⟩ := Y
    have hmg : mg ("law" : PySem.Str) = some (.ref fa) := by
      have e : (HandSHeadRun.topDef (OpenLaw.row PySem.Challenge.rw_undermasters_k09_whole_doors_and_rooms).prog 65).name = ("law" : PySem.Str) := by kernel_rfl
      rw [← e]
      exact hmg0
    obtain ⟨fd, hb, hF⟩ := U.facts (P := (PySem.Challenge.rw_undermasters_k09_whole_doors_and_rooms).prog) (w := w) ok KX G hmg c
    exact ⟨K, fd, U.spLaw K, KX, hb, fun H a ns hl _ hS => ⟨a, ns, rfl, hS, hl, fun _ => rfl⟩, hF⟩
theorem PySem.Challenge.cw_undermasters_k09_whole_doors_and_rooms_holds : PySem.Challenge.rw_undermasters_k09_whole_doors_and_rooms.Holds := by
  exact row_of U.caseOk
