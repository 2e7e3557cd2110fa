import PyProof.Rows.All
import Wide.All
import OpenK.AllK
import Wide.FinOn
import KE.KStateDown
import HandS.ForExc
import HandS.More
import HandS.Defaults
import HandS.Head0
import HandS.Head1
import HandS.Head2
import HandS.HeadEnd
import HandS.HeadHook1
import HandS.HeadHook2
import Lean
import HandS.Comp
import HandS.Dict
import HandS.Iter
import HandS.Zip
import HandS.TupAny
import HandS.Conv
import HandS.Flow
import HandS.IsInst
import HandS.Deep
import HandS.Style
import KE.KIndexOf
import KE.DataMinMax
import KE.GoesEnum
import KE.KDictKeyed
import KE.KDictCopyH
import KE.KDictLaws
import PyProof.Rows.SeqRoads
import KE.KDictItemsList
import KE.KDictZip
import HandS.ExcOwn
import HandS.TryOnly
import HandS.WordsExc
import PySem.Challenge.RW_placehues_k45_whole_coarsest_foldings
set_option Elab.async false
set_option linter.all false
set_option maxRecDepth 100000
set_option maxHeartbeats 0
namespace HeadL
open PySem PySem.Spec PyProof.Rows L2
def top (i : Nat) : Stmt := PySem.Challenge.pw_placehues_k45_whole_coarsest_foldings.main.body.getD i (.Pass ⟨0, 0, 0, 0⟩)
abbrev s_is_number : Stmt := top 3
abbrev s_tuple_of : Stmt := top 4
abbrev s_is_tuple_of : Stmt := top 5
abbrev s_are_lots : Stmt := top 7
abbrev s_as_they_come : Stmt := top 8
abbrev s_row_by : Stmt := top 9
abbrev s_flag_names : Stmt := top 10
abbrev s_hue_names : Stmt := top 11
abbrev s_finer : Stmt := top 12
abbrev s_is_folding : Stmt := top 13
abbrev s_folding : Stmt := top 14
abbrev s_folded : Stmt := top 15
abbrev s_row_folded : Stmt := top 16
abbrev s__law_box : Stmt := top 18
abbrev s__law_take : Stmt := top 19
abbrev s__law_cells : Stmt := top 20
abbrev s__law_same : Stmt := top 21
abbrev s__law_lists : Stmt := top 22
abbrev s__law_of : Stmt := top 23
abbrev s__law_parity : Stmt := top 24
abbrev s__law_marked : Stmt := top 25
abbrev s__law_answer : Stmt := top 26
abbrev s__law_history : Stmt := top 27
abbrev s__law_book : Stmt := top 28
abbrev s__law_hue : Stmt := top 29
abbrev s__law_filled : Stmt := top 30
abbrev s__law_come : Stmt := top 31
abbrev s__law_blown : Stmt := top 32
abbrev s__law_one : Stmt := top 33
abbrev s__law_meet : Stmt := top 34
abbrev s__law_is_one : Stmt := top 35
abbrev s__law_coarsest : Stmt := top 36
abbrev s__law_seen : Stmt := top 37
abbrev s__law_folded : Stmt := top 38
abbrev s__law_heard : Stmt := top 39
abbrev s__law_right : Stmt := top 40
abbrev s__law_by_hand_right : Stmt := top 41
abbrev s_law : Stmt := top 42
end HeadL

set_option Elab.async false
set_option linter.all false
set_option maxRecDepth 100000
set_option maxHeartbeats 0
namespace HeadL
open PySem PySem.Spec PyProof.Rows L2
def d_is_number : He.DefD := ⟨("is_number", none), "is_number", "is_number", defArgs s_is_number, defBody s_is_number, defScope s_is_number, [], []⟩
def d_tuple_of : He.DefD := ⟨("tuple_of", none), "tuple_of", "tuple_of", defArgs s_tuple_of, defBody s_tuple_of, defScope s_tuple_of, [], []⟩
def d_is_tuple_of : He.DefD := ⟨("is_tuple_of", none), "is_tuple_of", "is_tuple_of", defArgs s_is_tuple_of, defBody s_is_tuple_of, defScope s_is_tuple_of, [], []⟩
def d_are_lots : He.DefD := ⟨("are_lots", none), "are_lots", "are_lots", defArgs s_are_lots, defBody s_are_lots, defScope s_are_lots, [], []⟩
def d_as_they_come : He.DefD := ⟨("as_they_come", none), "as_they_come", "as_they_come", defArgs s_as_they_come, defBody s_as_they_come, defScope s_as_they_come, [], []⟩
def d_row_by : He.DefD := ⟨("row_by", none), "row_by", "row_by", defArgs s_row_by, defBody s_row_by, defScope s_row_by, [], []⟩
def d_flag_names : He.DefD := ⟨("flag_names", none), "flag_names", "flag_names", defArgs s_flag_names, defBody s_flag_names, defScope s_flag_names, [], []⟩
def d_hue_names : He.DefD := ⟨("hue_names", none), "hue_names", "hue_names", defArgs s_hue_names, defBody s_hue_names, defScope s_hue_names, [], []⟩
def d_finer : He.DefD := ⟨("finer", none), "finer", "finer", defArgs s_finer, defBody s_finer, defScope s_finer, [], []⟩
def d_is_folding : He.DefD := ⟨("is_folding", none), "is_folding", "is_folding", defArgs s_is_folding, defBody s_is_folding, defScope s_is_folding, [], []⟩
def d_folding : He.DefD := ⟨("folding", none), "folding", "folding", defArgs s_folding, defBody s_folding, defScope s_folding, [], []⟩
def d_folded : He.DefD := ⟨("folded", none), "folded", "folded", defArgs s_folded, defBody s_folded, defScope s_folded, [], []⟩
def d_row_folded : He.DefD := ⟨("row_folded", none), "row_folded", "row_folded", defArgs s_row_folded, defBody s_row_folded, defScope s_row_folded, [], []⟩
def d__law_box : He.DefD := ⟨("_law_box", none), "_law_box", "_law_box", defArgs s__law_box, defBody s__law_box, defScope s__law_box, [], []⟩
def d__law_take : He.DefD := ⟨("_law_take", none), "_law_take", "_law_take", defArgs s__law_take, defBody s__law_take, defScope s__law_take, [], []⟩
def d__law_cells : He.DefD := ⟨("_law_cells", none), "_law_cells", "_law_cells", defArgs s__law_cells, defBody s__law_cells, defScope s__law_cells, [], []⟩
def d__law_same : He.DefD := ⟨("_law_same", none), "_law_same", "_law_same", defArgs s__law_same, defBody s__law_same, defScope s__law_same, [], []⟩
def d__law_lists : He.DefD := ⟨("_law_lists", none), "_law_lists", "_law_lists", defArgs s__law_lists, defBody s__law_lists, defScope s__law_lists, [], []⟩
def d__law_of : He.DefD := ⟨("_law_of", none), "_law_of", "_law_of", defArgs s__law_of, defBody s__law_of, defScope s__law_of, [], []⟩
def d__law_parity : He.DefD := ⟨("_law_parity", none), "_law_parity", "_law_parity", defArgs s__law_parity, defBody s__law_parity, defScope s__law_parity, [], []⟩
def d__law_marked : He.DefD := ⟨("_law_marked", none), "_law_marked", "_law_marked", defArgs s__law_marked, defBody s__law_marked, defScope s__law_marked, [], []⟩
def d__law_answer : He.DefD := ⟨("_law_answer", none), "_law_answer", "_law_answer", defArgs s__law_answer, defBody s__law_answer, defScope s__law_answer, [], []⟩
def d__law_history : He.DefD := ⟨("_law_history", none), "_law_history", "_law_history", defArgs s__law_history, defBody s__law_history, defScope s__law_history, [], []⟩
def d__law_book : He.DefD := ⟨("_law_book", none), "_law_book", "_law_book", defArgs s__law_book, defBody s__law_book, defScope s__law_book, [], []⟩
def d__law_hue : He.DefD := ⟨("_law_hue", none), "_law_hue", "_law_hue", defArgs s__law_hue, defBody s__law_hue, defScope s__law_hue, [], []⟩
def d__law_filled : He.DefD := ⟨("_law_filled", none), "_law_filled", "_law_filled", defArgs s__law_filled, defBody s__law_filled, defScope s__law_filled, [], []⟩
def d__law_come : He.DefD := ⟨("_law_come", none), "_law_come", "_law_come", defArgs s__law_come, defBody s__law_come, defScope s__law_come, [], []⟩
def d__law_blown : He.DefD := ⟨("_law_blown", none), "_law_blown", "_law_blown", defArgs s__law_blown, defBody s__law_blown, defScope s__law_blown, [], []⟩
def d__law_one : He.DefD := ⟨("_law_one", none), "_law_one", "_law_one", defArgs s__law_one, defBody s__law_one, defScope s__law_one, [], []⟩
def d__law_meet : He.DefD := ⟨("_law_meet", none), "_law_meet", "_law_meet", defArgs s__law_meet, defBody s__law_meet, defScope s__law_meet, [], []⟩
def d__law_is_one : He.DefD := ⟨("_law_is_one", none), "_law_is_one", "_law_is_one", defArgs s__law_is_one, defBody s__law_is_one, defScope s__law_is_one, [], []⟩
def d__law_coarsest : He.DefD := ⟨("_law_coarsest", none), "_law_coarsest", "_law_coarsest", defArgs s__law_coarsest, defBody s__law_coarsest, defScope s__law_coarsest, [], []⟩
def d__law_seen : He.DefD := ⟨("_law_seen", none), "_law_seen", "_law_seen", defArgs s__law_seen, defBody s__law_seen, defScope s__law_seen, [], []⟩
def d__law_folded : He.DefD := ⟨("_law_folded", none), "_law_folded", "_law_folded", defArgs s__law_folded, defBody s__law_folded, defScope s__law_folded, [], []⟩
def d__law_heard : He.DefD := ⟨("_law_heard", none), "_law_heard", "_law_heard", defArgs s__law_heard, defBody s__law_heard, defScope s__law_heard, [], []⟩
def d__law_right : He.DefD := ⟨("_law_right", none), "_law_right", "_law_right", defArgs s__law_right, defBody s__law_right, defScope s__law_right, [], []⟩
def d__law_by_hand_right : He.DefD := ⟨("_law_by_hand_right", none), "_law_by_hand_right", "_law_by_hand_right", defArgs s__law_by_hand_right, defBody s__law_by_hand_right, defScope s__law_by_hand_right, [], []⟩
def d_law : He.DefD := ⟨("law", none), "law", "law", defArgs s_law, defBody s_law, defScope s_law, [], []⟩
def fn : List He.DefD := [d_is_number, d_tuple_of, d_is_tuple_of, d_are_lots, d_as_they_come, d_row_by, d_flag_names, d_hue_names, d_finer, d_is_folding, d_folding, d_folded, d_row_folded, d__law_box, d__law_take, d__law_cells, d__law_same, d__law_lists, d__law_of, d__law_parity, d__law_marked, d__law_answer, d__law_history, d__law_book, d__law_hue, d__law_filled, d__law_come, d__law_blown, d__law_one, d__law_meet, d__law_is_one, d__law_coarsest, d__law_seen, d__law_folded, d__law_heard, d__law_right, d__law_by_hand_right, d_law]
def fa1 : List He.Fa := [.glo "is_number", .glo "tuple_of", .glo "is_tuple_of", .glo "are_lots", .glo "as_they_come", .glo "row_by", .glo "flag_names", .glo "hue_names", .glo "finer", .glo "is_folding", .glo "folding", .glo "folded", .glo "row_folded", .glo "_law_box", .glo "_law_take", .glo "_law_cells", .glo "_law_same", .glo "_law_lists", .glo "_law_of"]
def fa2 : List He.Fa := [.glo "_law_parity", .glo "_law_marked", .glo "_law_answer", .glo "_law_history", .glo "_law_book", .glo "_law_hue", .glo "_law_filled", .glo "_law_come", .glo "_law_blown", .glo "_law_one", .glo "_law_meet", .glo "_law_is_one", .glo "_law_coarsest", .glo "_law_seen", .glo "_law_folded", .glo "_law_heard", .glo "_law_right", .glo "_law_by_hand_right", .glo "law"]
def fa3 : List He.Fa := [.free "isinstance", .free "int", .free "bool", .free "list", .free "tuple", .free "len", .free "all", .free "any", .free "range", .free "max", .free "zip", .free "enumerate", .free "abs", .free "str", .glo "Unfit", .exc "Unfit", .exm "Unfit" "Unfit" true]
def fa : List He.Fa := fa1 ++ fa2 ++ fa3
def lo1 : List Str := ["Unfit", "is_number", "tuple_of", "is_tuple_of", "are_lots", "as_they_come", "row_by", "flag_names", "hue_names", "finer", "is_folding", "folding", "folded", "row_folded", "_law_box", "_law_take", "_law_cells", "_law_same", "_law_lists", "_law_of"]
def lo2 : List Str := ["_law_parity", "_law_marked", "_law_answer", "_law_history", "_law_book", "_law_hue", "_law_filled", "_law_come", "_law_blown", "_law_one", "_law_meet", "_law_is_one", "_law_coarsest", "_law_seen", "_law_folded", "_law_heard", "_law_right", "_law_by_hand_right"]
abbrev loose : List Str := lo1 ++ lo2
abbrev R : PySem.W.OpenRow := PySem.W.OpenLaw.row PySem.Challenge.rw_placehues_k45_whole_coarsest_foldings
abbrev hk : PySem.W.Hook := He.hookD 4 fa fn
def ob (s : PySem.W.SharedT) : He.AlD := He.obsDG 4 fa fn (HandSHeadRun.getT s)
theorem ob_eq (s : PySem.W.SharedT) : ob s = hk.obs s.abs := He.obsDG_eq (HandSHeadRun.getT_eq s)
theorem run (w : World) : HandSHeadRun.RunEq R (PySem.W.view R.prog [42]) hk ob 4000 loose w := by
  intro os
  kernel_rfl
end HeadL

set_option Elab.async false
set_option linter.all false
set_option maxRecDepth 100000
set_option maxHeartbeats 4000000
/-! DL1: data over HandS: immutable data (tuples, locked lists), the denotations' monad, the environment of slots, the judgements for expressions. -/
namespace DL
open PySem PySem.Spec PyProof.Rows L2

/-! ### what a slot holds -/
inductive Sl where
  | d (x : PyData)
  | m (xs : List PyData)
  | u
  | b (xs : List PyData)

abbrev DEnv := List (Option Sl)
abbrev US := List Int
abbrev M (α : Type) := US → Option (α × US)
def bnd {α β : Type} (x : M α) (f : α → M β) : M β := fun s => match x s with
  | some (a, s') => f a s'
  | none => none
def rt {α : Type} (a : α) : M α := fun s => some (a, s)
def lf {α : Type} (a : Option α) : M α := fun s => match a with
  | some x => some (x, s)
  | none => none
theorem bnd_some {α β : Type} {x : M α} {f : α → M β} {s : US} {r : β × US} (h : bnd x f s = some r) : ∃ a s', x s = some (a, s') ∧ f a s' = some r := by
  unfold bnd at h
  cases q : x s with
  | none => rw [q] at h; cases h
  | some p => obtain ⟨a, s'⟩ := p; rw [q] at h; exact ⟨a, s', rfl, h⟩
theorem lf_some {α : Type} {a : Option α} {s : US} {x : α} {s' : US} (h : lf a s = some (x, s')) : a = some x ∧ s' = s := by
  unfold lf at h
  cases a with
  | none => cases h
  | some y => cases h; exact ⟨rfl, rfl⟩
theorem rt_some {α : Type} {a x : α} {s s' : US} (h : rt a s = some (x, s')) : x = a ∧ s' = s := by
  unfold rt at h; cases h; exact ⟨rfl, rfl⟩

/-! ### heaps that go on -/
structure Pers (H H' : Hp) : Prop where
  tup : ∀ b xs, H b = some (.tup xs) → H' b = some (.tup xs)
  frz : ∀ b o w, H b = some (.frz o w) → H' b = some (.frz o w)
theorem Pers.refl (H : Hp) : Pers H H := ⟨fun _ _ h => h, fun _ _ _ h => h⟩
theorem Pers.trans {H H1 H2 : Hp} (a : Pers H H1) (b : Pers H1 H2) : Pers H H2 := ⟨fun c xs h => b.tup c xs (a.tup c xs h), fun c o w h => b.frz c o w (a.frz c o w h)⟩
def Ext (u : Option Addr) (H H' : Hp) : Prop := ∀ b o, H b = some o → u ≠ some b → H' b = some o
def UrnAt (u : Option Addr) (H : Hp) (U : US) : Prop := ∀ a, u = some a → H a = some (.lst (U.map V.int))
theorem Ext.refl (u : Option Addr) (H : Hp) : Ext u H H := fun _ _ h _ => h
theorem Ext.trans {u : Option Addr} {H H1 H2 : Hp} (a : Ext u H H1) (b : Ext u H1 H2) : Ext u H H2 := fun c o h n => b c o (a c o h n) n
theorem Ext.pers {u : Option Addr} {H H' : Hp} {U : US} (e : Ext u H H') (un : UrnAt u H U) : Pers H H' := by
  refine ⟨fun b xs h => e b _ h fun q => ?_, fun b o w h => e b _ h fun q => ?_⟩
  · rw [un b q] at h; cases h
  · rw [un b q] at h; cases h
theorem Ext.new {u : Option Addr} {H : Hp} {p : Addr} {o : HO} (h : H p = none) : Ext u H (upd H p o) := fun a w e _ => by
  rw [upd_ne (ne_of_none e h)]; exact e
theorem Ext.free {u : Option Addr} {H H' : Hp} {U : US} {p : Addr} (e : Ext u H H') (un' : UrnAt u H' U) (h : H' p = none) : H p = none := by
  cases q : H p with
  | none => rfl
  | some o =>
    have n : u ≠ some p := fun z => by rw [un' p z] at h; cases h
    rw [e p o q n] at h; cases h
theorem UrnAt.ne {u : Option Addr} {H : Hp} {U : US} {p : Addr} (un : UrnAt u H U) (h : H p = none) : u ≠ some p := fun z => by rw [un p z] at h; cases h
theorem UrnAt.new {u : Option Addr} {H : Hp} {U : US} {p : Addr} {o : HO} (un : UrnAt u H U) (h : H p = none) : UrnAt u (upd H p o) U := fun a z => by
  have n : a ≠ p := fun q => un.ne h (by rw [← q]; exact z)
  rw [upd_ne n]; exact un a z
theorem UrnAt.ext {u : Option Addr} {H H' : Hp} {U : US} (un : UrnAt u H U) (e : ∀ b o, H b = some o → H' b = some o) : UrnAt u H' U := fun a z => e a _ (un a z)

/-! ### immutable data -/
def SqF (H : Hp) (a : Addr) (xs : List V) : Prop := ∃ o, H a = some (.frz o (.lst xs))
/-- the script: locked, or an object of the module -/
def SqW (K : PySem.W.Frag) (H : Hp) (a : Addr) (xs : List V) : Prop :=
  (∃ o, H a = some (.frz o (.lst xs))) ∨
    ∃ (o : Obj) (its : Array Value) (n : Nat), K.lookup a = some o ∧ o.cls = .type "list" ∧ o.dict = none ∧ o.data = .seq its n ∧ its.size ≤ sizeLine ∧ Vals xs its.toList
theorem SqF.l {K : PySem.W.Frag} {H : Hp} {a : Addr} {xs : List V} (h : SqF H a xs) : SqL K H a xs := .inl (.inr h)
theorem SqF.w {K : PySem.W.Frag} {H : Hp} {a : Addr} {xs : List V} (h : SqF H a xs) : SqW K H a xs := .inl h
theorem SqF.mono {H H' : Hp} {a : Addr} {xs : List V} (p : Pers H H') (h : SqF H a xs) : SqF H' a xs := let ⟨o, h⟩ := h; ⟨o, p.frz _ _ _ h⟩
theorem SqW.l {K : PySem.W.Frag} {H : Hp} {a : Addr} {xs : List V} (h : SqW K H a xs) : SqL K H a xs := by
  rcases h with h | h
  · exact .inl (.inr h)
  · exact .inr h
theorem SqW.mono {K : PySem.W.Frag} {H H' : Hp} {a : Addr} {xs : List V} (p : Pers H H') (h : SqW K H a xs) : SqW K H' a xs := by
  rcases h with ⟨o, h⟩ | h
  · exact .inl ⟨o, p.frz _ _ _ h⟩
  · exact .inr h
/-- a plain tuple object, told whole -/
def TpF (H : Hp) (a : Addr) (xs : List V) : Prop := ∃ o, H a = some (.frz o (.tup xs)) ∧ o.cls = .type "tuple" ∧ o.dict = none
theorem TpF.t {K : PySem.W.Frag} {H : Hp} {a : Addr} {xs : List V} (h : TpF H a xs) : SqT K H a xs := let ⟨o, h, _⟩ := h; .inl (.inr ⟨o, h⟩)
theorem TpF.mono {H H' : Hp} {a : Addr} {xs : List V} (p : Pers H H') (h : TpF H a xs) : TpF H' a xs := let ⟨o, h, h2⟩ := h; ⟨o, p.frz _ _ _ h, h2⟩
theorem sqT_mono {K : PySem.W.Frag} {H H' : Hp} {a : Addr} {xs : List V} (p : Pers H H') (h : SqT K H a xs) : SqT K H' a xs := by
  rcases h with (h | ⟨o, h⟩) | h
  · exact .inl (.inl (p.tup _ _ h))
  · exact .inl (.inr ⟨o, p.frz _ _ _ h⟩)
  · exact .inr h
mutual
inductive Fz (K : PySem.W.Frag) (H : Hp) : V → PyData → Prop
  | non : Fz K H .non .none
  | bl (b : Bool) : Fz K H (.bl b) (.bool b)
  | int (i : Int) : Fz K H (.int i) (.int i)
  | str (x : Str) : Fz K H (.str x) (.str x)
  | lst {a : Addr} {xs : List V} {ds : List PyData} : SqF H a xs → FzA K H xs ds → Fz K H (.ref a) (.list ds)
  | tup {a : Addr} {xs : List V} {ds : List PyData} : TpF H a xs → FzA K H xs ds → Fz K H (.ref a) (.tuple ds)
inductive FzA (K : PySem.W.Frag) (H : Hp) : List V → List PyData → Prop
  | nil : FzA K H [] []
  | cons {v : V} {vs : List V} {d : PyData} {ds : List PyData} : Fz K H v d → FzA K H vs ds → FzA K H (v :: vs) (d :: ds)
end
section
variable {K : PySem.W.Frag} {H H' : Hp}
mutual
theorem Fz.mono (p : Pers H H') : ∀ (d : PyData) (v : V), Fz K H v d → Fz K H' v d
  | .none, _, h => by cases h; exact .non
  | .bool b, _, h => by cases h; exact .bl b
  | .int i, _, h => by cases h; exact .int i
  | .str x, _, h => by cases h; exact .str x
  | .list ds, _, h => by
    cases h with
    | lst hs ha => exact .lst (hs.mono p) (FzA.mono p ds _ ha)
  | .tuple ds, _, h => by
    cases h with
    | tup hs ha => exact .tup (hs.mono p) (FzA.mono p ds _ ha)
  | .dict _, _, h => by cases h
theorem FzA.mono (p : Pers H H') : ∀ (ds : List PyData) (vs : List V), FzA K H vs ds → FzA K H' vs ds
  | [], _, h => by cases h; exact .nil
  | d :: ds, _, h => by
    cases h with
    | cons h1 h2 => exact .cons (Fz.mono p d _ h1) (FzA.mono p ds _ h2)
end
mutual
theorem Fz.dp : ∀ (d : PyData) (v : V), Fz K H v d → Dp K H v d
  | .none, _, h => by cases h; exact .non
  | .bool b, _, h => by cases h; exact .bl b
  | .int i, _, h => by cases h; exact .int i
  | .str x, _, h => by cases h; exact .str x
  | .list ds, _, h => by
    cases h with
    | lst hs ha => exact .lst hs.l (FzA.dp ds _ ha)
  | .tuple ds, _, h => by
    cases h with
    | tup hs ha => exact .tup hs.t (FzA.dp ds _ ha)
  | .dict _, _, h => by cases h
theorem FzA.dp : ∀ (ds : List PyData) (vs : List V), FzA K H vs ds → DpAll K H vs ds
  | [], _, h => by cases h; exact .nil
  | d :: ds, _, h => by
    cases h with
    | cons h1 h2 => exact .cons (Fz.dp d _ h1) (FzA.dp ds _ h2)
end
theorem FzA.len : ∀ {vs : List V} {ds : List PyData}, FzA K H vs ds → vs.length = ds.length
  | _, [], h => by cases h; rfl
  | _, d :: ds, h => by cases h with | cons h1 h2 => simp [FzA.len h2]
theorem FzA.get : ∀ {ds : List PyData} {vs : List V} {i : Nat} {d : PyData}, FzA K H vs ds → ds[i]? = some d → ∃ v, vs[i]? = some v ∧ Fz K H v d
  | [], _, _, _, _, e => by simp at e
  | c :: ds, _, 0, d, h, e => by
    cases h with
    | cons h1 h2 => simp at e; subst e; exact ⟨_, rfl, h1⟩
  | c :: ds, _, i + 1, d, h, e => by
    cases h with
    | cons h1 h2 =>
      obtain ⟨v, q, r⟩ := FzA.get (i := i) h2 (by simpa using e)
      exact ⟨v, by simpa using q, r⟩
theorem FzA.get2 {ds : List PyData} {vs : List V} {i : Nat} {d : PyData} {v : V} (h : FzA K H vs ds) (e : ds[i]? = some d) (e2 : vs[i]? = some v) : Fz K H v d := by
  obtain ⟨w, q, r⟩ := h.get e
  rw [e2] at q; cases q; exact r
theorem FzA.app : ∀ {ds es : List PyData} {vs ws : List V}, FzA K H vs ds → FzA K H ws es → FzA K H (vs ++ ws) (ds ++ es)
  | [], _, _, _, h, g => by cases h; exact g
  | d :: ds, _, _, _, h, g => by
    cases h with
    | cons h1 h2 => exact .cons h1 (FzA.app h2 g)
theorem FzA.take : ∀ {ds : List PyData} {vs : List V} (n : Nat), FzA K H vs ds → FzA K H (vs.take n) (ds.take n)
  | _, _, 0, _ => by simp only [List.take_zero]; exact .nil
  | [], _, n + 1, h => by cases h; exact .nil
  | d :: ds, _, n + 1, h => by
    cases h with
    | cons h1 h2 => exact .cons h1 (FzA.take n h2)
theorem FzA.drop : ∀ {ds : List PyData} {vs : List V} (n : Nat), FzA K H vs ds → FzA K H (vs.drop n) (ds.drop n)
  | _, _, 0, h => h
  | [], _, n + 1, h => by cases h; exact .nil
  | d :: ds, _, n + 1, h => by
    cases h with
    | cons h1 h2 => exact FzA.drop n h2
theorem FzA.set {v : V} {d : PyData} (q : Fz K H v d) : ∀ {ds : List PyData} {vs : List V} (n : Nat), FzA K H vs ds → FzA K H (vs.set n v) (ds.set n d)
  | [], _, _, h => by cases h; exact .nil
  | c :: ds, _, 0, h => by cases h with | cons h1 h2 => exact .cons q h2
  | c :: ds, _, n + 1, h => by cases h with | cons h1 h2 => exact .cons h1 (FzA.set q n h2)
theorem FzA.erase : ∀ {ds : List PyData} {vs : List V} (n : Nat), FzA K H vs ds → FzA K H (vs.eraseIdx n) (ds.eraseIdx n)
  | [], _, _, h => by cases h; exact .nil
  | c :: ds, _, 0, h => by cases h with | cons h1 h2 => exact h2
  | c :: ds, _, n + 1, h => by cases h with | cons h1 h2 => exact .cons h1 (FzA.erase n h2)
theorem FzA.rep {vs : List V} {ds : List PyData} (h : FzA K H vs ds) : ∀ k : Nat, FzA K H (List.replicate k vs).flatten (List.replicate k ds).flatten
  | 0 => .nil
  | k + 1 => by
    simp only [List.replicate_succ, List.flatten_cons]
    exact h.app (FzA.rep h k)
theorem FzA.ints : ∀ (ns : List Int), FzA K H (ns.map V.int) (ns.map PyData.int)
  | [] => .nil
  | n :: ns => .cons (.int n) (FzA.ints ns)
theorem FzA.ints_inv : ∀ {ns : List Int} {vs : List V}, FzA K H vs (ns.map PyData.int) → vs = ns.map V.int
  | [], _, h => by cases h; rfl
  | n :: ns, _, h => by
    cases h with
    | cons h1 h2 => cases h1; rw [FzA.ints_inv h2]; rfl
theorem FzA.bools_inv : ∀ {ns : List Bool} {vs : List V}, FzA K H vs (ns.map PyData.bool) → vs = ns.map V.bl
  | [], _, h => by cases h; rfl
  | n :: ns, _, h => by
    cases h with
    | cons h1 h2 => cases h1; rw [FzA.bools_inv h2]; rfl
/-- data as it is read: immutable, or a list of one's own -/
def Bz (K : PySem.W.Frag) (u : Option Addr) (H : Hp) (v : V) (d : PyData) : Prop :=
  Fz K H v d ∨ (∃ a vs ds, v = .ref a ∧ d = .list ds ∧ u ≠ some a ∧ H a = some (.lst vs) ∧ FzA K H vs ds) ∨ ∃ a vs ds, v = .ref a ∧ d = .list ds ∧ SqW K H a vs ∧ FzA K H vs ds
theorem Bz.ext {u : Option Addr} {U : US} {v : V} {d : PyData} (e : Ext u H H') (un : UrnAt u H U) (h : Bz K u H v d) : Bz K u H' v d := by
  rcases h with h | ⟨a, vs, ds, rfl, rfl, n, h1, h2⟩ | ⟨a, vs, ds, rfl, rfl, h1, h2⟩
  · exact .inl (h.mono (e.pers un))
  · exact .inr (.inl ⟨a, vs, ds, rfl, rfl, n, e a _ h1 n, h2.mono (e.pers un)⟩)
  · exact .inr (.inr ⟨a, vs, ds, rfl, rfl, h1.mono (e.pers un), h2.mono (e.pers un)⟩)
theorem Bz.dp {u : Option Addr} {v : V} {d : PyData} (h : Bz K u H v d) : Dp K H v d := by
  rcases h with h | ⟨a, vs, ds, rfl, rfl, n, h1, h2⟩ | ⟨a, vs, ds, rfl, rfl, h1, h2⟩
  · exact h.dp
  · exact .lst (SqL.of h1) (h2.dp)
  · exact .lst h1.l (h2.dp)
theorem Bz.list {u : Option Addr} {v : V} {ds : List PyData} (h : Bz K u H v (.list ds)) : ∃ a vs, v = .ref a ∧ SqL K H a vs ∧ FzA K H vs ds := by
  rcases h with h | ⟨a, vs, ds', rfl, e, n, h1, h2⟩ | ⟨a, vs, ds', rfl, e, h1, h2⟩
  · cases h with
    | lst hs ha => exact ⟨_, _, rfl, hs.l, ha⟩
  · cases e; exact ⟨a, vs, rfl, SqL.of h1, h2⟩
  · cases e; exact ⟨a, vs, rfl, h1.l, h2⟩
theorem Bz.tuple {u : Option Addr} {v : V} {ds : List PyData} (h : Bz K u H v (.tuple ds)) : ∃ a vs, v = .ref a ∧ TpF H a vs ∧ FzA K H vs ds := by
  rcases h with h | ⟨a, vs, ds', rfl, e, n, h1, h2⟩ | ⟨a, vs, ds', rfl, e, h1, h2⟩
  · cases h with
    | tup hs ha => exact ⟨_, _, rfl, hs, ha⟩
  · cases e
  · cases e
theorem Bz.flat {u : Option Addr} {v : V} {d : PyData} (h : Bz K u H v d) (n : ∀ ds, d ≠ .list ds) : Fz K H v d := by
  rcases h with h | ⟨a, vs, ds', rfl, e, _, h1, h2⟩ | ⟨a, vs, ds', rfl, e, h1, h2⟩
  · exact h
  · exact absurd e (n _)
  · exact absurd e (n _)
theorem Bz.int {u : Option Addr} {v : V} {i : Int} (h : Bz K u H v (.int i)) : v = .int i := by
  cases h.flat (fun _ e => by cases e); rfl
theorem Bz.bool {u : Option Addr} {v : V} {i : Bool} (h : Bz K u H v (.bool i)) : v = .bl i := by
  cases h.flat (fun _ e => by cases e); rfl
end

/-! ### the environment -/
section
variable (K : PySem.W.Frag)
def SlOk (u : Option Addr) (H0 H : Hp) (v : V) : Sl → Prop
  | .d x => Fz K H v x
  | .m xs => ∃ a vs, v = .ref a ∧ H a = some (.lst vs) ∧ FzA K H vs xs ∧ H0 a = none ∧ u ≠ some a
  | .u => ∃ a, u = some a ∧ v = .ref a
  | .b xs => ∃ a vs, v = .ref a ∧ SqW K H a vs ∧ FzA K H vs xs
structure EOk (u : Option Addr) (H0 : Hp) (σ : L2.St) (H : Hp) (ρ : DEnv) (U : US) : Prop where
  urn : UrnAt u H U
  ext : Ext u H0 H
  get : ∀ (i : Nat) s, ρ[i]? = some (some s) → ∃ v, σ[i]? = some (some v) ∧ SlOk K u H0 H v s
  apart : ∀ (i j : Nat) xs ys a, ρ[i]? = some (some (.m xs)) → ρ[j]? = some (some (.m ys)) → σ[i]? = some (some (.ref a)) → σ[j]? = some (some (.ref a)) → i = j
  len : ρ.length = σ.length
structure AOk (u : Option Addr) (Hs H : Hp) (vs : List V) (sls : List Sl) : Prop where
  len : vs.length = sls.length
  get : ∀ (i : Nat) s, sls[i]? = some s → ∃ v, vs[i]? = some v ∧ SlOk K u Hs H v s
  apart : ∀ (i j : Nat) xs ys a, sls[i]? = some (.m xs) → sls[j]? = some (.m ys) → vs[i]? = some (.ref a) → vs[j]? = some (.ref a) → i = j
end
section
variable {K : PySem.W.Frag} {u : Option Addr} {H0 H H' : Hp} {σ : L2.St} {ρ : DEnv} {U U' : US}
theorem SlOk.ext {v : V} {s : Sl} (h : SlOk K u H0 H v s) (e : Ext u H H') (un : UrnAt u H U) : SlOk K u H0 H' v s := by
  cases s with
  | d x => exact Fz.mono (e.pers un) _ _ h
  | m xs =>
    obtain ⟨a, vs, h1, h2, h3, h4, h5⟩ := h
    exact ⟨a, vs, h1, e a _ h2 h5, h3.mono (e.pers un), h4, h5⟩
  | u => exact h
  | b xs =>
    obtain ⟨a, vs, h1, h2, h3⟩ := h
    exact ⟨a, vs, h1, h2.mono (e.pers un), h3.mono (e.pers un)⟩
theorem EOk.exts (h : EOk K u H0 σ H ρ U) (e : Ext u H H') (un : UrnAt u H' U') : EOk K u H0 σ H' ρ U' :=
  ⟨un, h.ext.trans e, fun i s q => let ⟨v, h1, h2⟩ := h.get i s q; ⟨v, h1, h2.ext e h.urn⟩, h.apart, h.len⟩
theorem EOk.pers (h : EOk K u H0 σ H ρ U) (e : Ext u H H') : Pers H H' := e.pers h.urn
/-- a slot is set -/
theorem EOk.set (h : EOk K u H0 σ H ρ U) {i : Nat} {v : V} {s : Sl} (hs : SlOk K u H0 H v s)
    (ap : ∀ xs a, s = .m xs → v = .ref a → ∀ (j : Nat) ys, j ≠ i → ρ[j]? = some (some (.m ys)) → σ[j]? ≠ some (some (.ref a))) : EOk K u H0 (σ.set i (some v)) H (ρ.set i (some s)) U := by
  refine ⟨h.urn, h.ext, fun j t q => ?_, fun j k xs ys a h1 h2 h3 h4 => ?_, by simp [h.len]⟩
  · by_cases e : i = j
    · subst e
      have hl : i < ρ.length := by
        by_cases c : i < ρ.length
        · exact c
        · rw [List.getElem?_eq_none (by simp; omega)] at q; cases q
      rw [List.getElem?_set_self hl] at q
      cases q
      exact ⟨v, List.getElem?_set_self (by rw [← h.len]; exact hl), hs⟩
    · rw [List.getElem?_set_ne e] at q ⊢
      exact h.get j t q
  · by_cases e1 : i = j
    · by_cases e2 : i = k
      · exact e1.symm.trans e2
      · subst e1
        rw [List.getElem?_set_ne e2] at h2 h4
        have hl : i < ρ.length := by
          by_cases c : i < ρ.length
          · exact c
          · rw [List.getElem?_eq_none (by simp; omega)] at h1; cases h1
        rw [List.getElem?_set_self hl] at h1
        rw [List.getElem?_set_self (by rw [← h.len]; exact hl)] at h3
        cases h1; cases h3
        exact absurd h4 (ap xs a rfl rfl k ys (fun z => e2 z.symm) h2)
    · by_cases e2 : i = k
      · subst e2
        rw [List.getElem?_set_ne e1] at h1 h3
        have hl : i < ρ.length := by
          by_cases c : i < ρ.length
          · exact c
          · rw [List.getElem?_eq_none (by simp; omega)] at h2; cases h2
        rw [List.getElem?_set_self hl] at h2
        rw [List.getElem?_set_self (by rw [← h.len]; exact hl)] at h4
        cases h2; cases h4
        exact absurd h3 (ap ys a rfl rfl j xs (fun z => e1 z.symm) h1)
      · rw [List.getElem?_set_ne e1] at h1 h3
        rw [List.getElem?_set_ne e2] at h2 h4
        exact h.apart j k xs ys a h1 h2 h3 h4
theorem EOk.setd (h : EOk K u H0 σ H ρ U) {i : Nat} {v : V} {x : PyData} (hs : Fz K H v x) : EOk K u H0 (σ.set i (some v)) H (ρ.set i (some (.d x))) U :=
  h.set (s := .d x) hs fun xs a e => by cases e
/-- the m slots stand at tracked lists -/
theorem EOk.mAt (h : EOk K u H0 σ H ρ U) {j : Nat} {ys : List PyData} {a : Addr} (q : ρ[j]? = some (some (.m ys))) (e : σ[j]? = some (some (.ref a))) : ∃ vs, H a = some (.lst vs) := by
  obtain ⟨v, h1, b, vs, h2, h3, _⟩ := h.get j _ q
  rw [e] at h1; cases h1; cases h2
  exact ⟨vs, h3⟩
def wipeD (ρ : DEnv) : List Nat → DEnv
  | [] => ρ
  | v :: vs => (wipeD ρ vs).set v none
theorem EOk.unset (h : EOk K u H0 σ H ρ U) (i : Nat) : EOk K u H0 (σ.set i none) H (ρ.set i none) U := by
  have nn : ∀ j s, (ρ.set i none)[j]? = some (some s) → i ≠ j ∧ ρ[j]? = some (some s) := fun j s q => by
    by_cases e : i = j
    · subst e
      by_cases c : i < ρ.length
      · rw [List.getElem?_set_self c] at q; cases q
      · rw [List.getElem?_eq_none (by simp; omega)] at q; cases q
    · rw [List.getElem?_set_ne e] at q
      exact ⟨e, q⟩
  refine ⟨h.urn, h.ext, fun j t q => ?_, fun j k xs ys a h1 h2 h3 h4 => ?_, by simp [h.len]⟩
  · obtain ⟨e, q'⟩ := nn j t q
    rw [List.getElem?_set_ne e]
    exact h.get j t q'
  · obtain ⟨e1, q1⟩ := nn j _ h1
    obtain ⟨e2, q2⟩ := nn k _ h2
    rw [List.getElem?_set_ne e1] at h3
    rw [List.getElem?_set_ne e2] at h4
    exact h.apart j k xs ys a q1 q2 h3 h4
theorem EOk.wipe (h : EOk K u H0 σ H ρ U) : ∀ vs : List Nat, EOk K u H0 (L2.wipe σ vs) H (wipeD ρ vs) U
  | [] => h
  | v :: vs => (EOk.wipe h vs).unset v
/-- a m slot's list becomes immutable -/
theorem EOk.froze (h : EOk K u H0 σ H ρ U) {i : Nat} {xs : List PyData} (q : ρ[i]? = some (some (.m xs))) :
    ∃ a vs, σ[i]? = some (some (.ref a)) ∧ H a = some (.lst vs) ∧ ∀ od, EOk K u H0 σ (upd H a (.frz od (.lst vs))) (ρ.set i (some (.d (.list xs)))) U ∧ Pers H (upd H a (.frz od (.lst vs))) := by
  obtain ⟨v, h1, a, vs, rfl, h3, h4, h5, h6⟩ := h.get i _ q
  refine ⟨a, vs, h1, h3, fun od => ?_⟩
  have p : Pers H (upd H a (.frz od (.lst vs))) := by
    refine ⟨fun b xs z => ?_, fun b o w z => ?_⟩
    · rw [upd_ne (ne_of z h3 (by intro c; cases c))]; exact z
    · rw [upd_ne (ne_of z h3 (by intro c; cases c))]; exact z
  refine ⟨⟨fun b z => ?_, fun b o z n => ?_, fun j s z => ?_, fun j k ys zs b g1 g2 g3 g4 => ?_, by simp [h.len]⟩, p⟩
  · have n : b ≠ a := fun e => h6 (by rw [← e]; exact z)
    rw [upd_ne n]; exact h.urn b z
  · rw [upd_ne (ne_of_none z h5)]; exact h.ext b o z n
  · by_cases e : i = j
    · subst e
      have hl : i < ρ.length := (List.getElem?_eq_some_iff.mp q).1
      rw [List.getElem?_set_self hl] at z
      cases z
      exact ⟨_, h1, Fz.lst ⟨od, upd_same⟩ (h4.mono p)⟩
    · rw [List.getElem?_set_ne e] at z
      obtain ⟨w, g1, g2⟩ := h.get j s z
      refine ⟨w, g1, ?_⟩
      cases s with
      | d x => exact Fz.mono p _ _ g2
      | m ys =>
        obtain ⟨b, ws, rfl, k2, k3, k4, k5⟩ := g2
        have n : b ≠ a := fun e' => by
          subst e'
          exact e (h.apart i j xs ys b q z h1 g1)
        exact ⟨b, ws, rfl, by rw [upd_ne n]; exact k2, k3.mono p, k4, k5⟩
      | u => exact g2
      | b ys =>
        obtain ⟨b, ws, k1, k2, k3⟩ := g2
        exact ⟨b, ws, k1, k2.mono p, k3.mono p⟩
  · have f : ∀ l s, (ρ.set i (some (.d (.list xs))))[l]? = some (some (.m s)) → i ≠ l ∧ ρ[l]? = some (some (.m s)) := fun l s z => by
      by_cases e : i = l
      · subst e
        have hl : i < ρ.length := (List.getElem?_eq_some_iff.mp q).1
        rw [List.getElem?_set_self hl] at z; cases z
      · rw [List.getElem?_set_ne e] at z; exact ⟨e, z⟩
    exact h.apart j k ys zs b (f j ys g1).2 (f k zs g2).2 g3 g4
/-- a m slot's list is changed -/
theorem EOk.putm (h : EOk K u H0 σ H ρ U) {i : Nat} {xs ys : List PyData} {a : Addr} {ws : List V} (q : ρ[i]? = some (some (.m xs))) (ha : σ[i]? = some (some (.ref a))) (hw : FzA K H ws ys) :
    EOk K u H0 σ (upd H a (.lst ws)) (ρ.set i (some (.m ys))) U ∧ Pers H (upd H a (.lst ws)) := by
  obtain ⟨v, h1, a', vs, rfl, h3, h4, h5, h6⟩ := h.get i _ q
  rw [ha] at h1; cases h1
  have p : Pers H (upd H a (.lst ws)) := by
    refine ⟨fun b xs z => ?_, fun b o w z => ?_⟩
    · rw [upd_ne (ne_of z h3 (by intro c; cases c))]; exact z
    · rw [upd_ne (ne_of z h3 (by intro c; cases c))]; exact z
  have hl : i < ρ.length := (List.getElem?_eq_some_iff.mp q).1
  refine ⟨⟨fun b z => ?_, fun b o z n => ?_, fun j s z => ?_, fun j k ys' zs b g1 g2 g3 g4 => ?_, by simp [h.len]⟩, p⟩
  · have n : b ≠ a := fun e => h6 (by rw [← e]; exact z)
    rw [upd_ne n]; exact h.urn b z
  · rw [upd_ne (ne_of_none z h5)]; exact h.ext b o z n
  · by_cases e : i = j
    · subst e
      rw [List.getElem?_set_self hl] at z
      cases z
      exact ⟨_, ha, a, ws, rfl, upd_same, hw.mono p, h5, h6⟩
    · rw [List.getElem?_set_ne e] at z
      obtain ⟨w, g1, g2⟩ := h.get j s z
      refine ⟨w, g1, ?_⟩
      cases s with
      | d x => exact Fz.mono p _ _ g2
      | m ys =>
        obtain ⟨b, ws', rfl, k2, k3, k4, k5⟩ := g2
        have n : b ≠ a := fun e' => by
          subst e'
          exact e (h.apart i j xs ys b q z ha g1)
        exact ⟨b, ws', rfl, by rw [upd_ne n]; exact k2, k3.mono p, k4, k5⟩
      | u => exact g2
      | b ys =>
        obtain ⟨b, ws, k1, k2, k3⟩ := g2
        exact ⟨b, ws, k1, k2.mono p, k3.mono p⟩
  · have f : ∀ l (s : List PyData), (ρ.set i (some (Sl.m ys)))[l]? = some (some (Sl.m s)) → ∃ s', ρ[l]? = some (some (Sl.m s')) := fun l s z => by
      by_cases e : i = l
      · subst e; exact ⟨xs, q⟩
      · rw [List.getElem?_set_ne e] at z; exact ⟨s, z⟩
    obtain ⟨_, q1⟩ := f j _ g1
    obtain ⟨_, q2⟩ := f k _ g2
    exact h.apart j k _ _ b q1 q2 g3 g4
/-- the urn is changed -/
theorem EOk.putu (h : EOk K u H0 σ H ρ U) {a : Addr} (e : u = some a) (V' : US) : EOk K u H0 σ (upd H a (.lst (V'.map V.int))) ρ V' ∧ Ext u H (upd H a (.lst (V'.map V.int))) ∧ UrnAt u (upd H a (.lst (V'.map V.int))) V' := by
  have x : Ext u H (upd H a (.lst (V'.map V.int))) := fun b o z n => by
    rw [upd_ne (fun q => n (by rw [q]; exact e))]; exact z
  have un : UrnAt u (upd H a (.lst (V'.map V.int))) V' := fun b z => by
    rw [e] at z; cases z; exact upd_same
  exact ⟨h.exts x un, x, un⟩
end
end DL

set_option Elab.async false
set_option linter.all false
set_option maxRecDepth 100000
set_option maxHeartbeats 4000000
/-! DL2: judgements for expressions and tests, operators by data. -/
namespace DL
open PySem PySem.Spec PyProof.Rows L2

abbrev PR := PySem.W.Frag → Hp → Hp → Option Addr → V → PyData → Prop
/-- immutable | as it is read | a new list -/
def pF : PR := fun K _ H' _ v d => Fz K H' v d
def pB : PR := fun K _ H' u v d => Bz K u H' v d
def pN : PR := fun K H H' u v d => ∃ a vs ds, v = .ref a ∧ d = .list ds ∧ H a = none ∧ u ≠ some a ∧ H' a = some (.lst vs) ∧ FzA K H' vs ds
class Bk (P : PR) : Prop where
  back : ∀ {K H H1 H2 u U v d}, Ext u H H1 → UrnAt u H1 U → P K H1 H2 u v d → P K H H2 u v d
instance : Bk pF := ⟨fun _ _ h => h⟩
instance : Bk pB := ⟨fun _ _ h => h⟩
instance : Bk pN := ⟨fun e un ⟨a, vs, ds, h1, h2, h3, h4, h5⟩ => ⟨a, vs, ds, h1, h2, e.free un h3, h4, h5⟩⟩

def Sg (K : PySem.W.Frag) (P : PR) (te : TE) (f : DEnv → M PyData) : Prop :=
  ∀ (u : Option Addr) (H0 : Hp) (σ : L2.St) (H : Hp) (ρ : DEnv) (U : US) (d : PyData) (U' : US), EOk K u H0 σ H ρ U → f ρ U = some (d, U') →
    ∀ Q : VK, (∀ v H', Ext u H H' → UrnAt u H' U' → P K H H' u v d → Q v H') → te σ H Q
structure DG (P : PR) (X : Cx) (e : Expr) (te : TE) (f : DEnv → M PyData) : Prop where
  pe : PE X e te
  sm : Sg X.K P te f
abbrev DF := DG pF
abbrev DB := DG pB
abbrev DN := DG pN
def St (K : PySem.W.Frag) (tt : TT) (f : DEnv → M Bool) : Prop :=
  ∀ (u : Option Addr) (H0 : Hp) (σ : L2.St) (H : Hp) (ρ : DEnv) (U : US) (b : Bool) (U' : US), EOk K u H0 σ H ρ U → f ρ U = some (b, U') →
    ∀ Q : Bool → Hp → Prop, (∀ H', Ext u H H' → UrnAt u H' U' → Q b H') → tt σ H Q
structure DT (X : Cx) (e : Expr) (tt : TT) (f : DEnv → M Bool) : Prop where
  pt : PT X e tt
  sm : St X.K tt f
structure DW (X : Cx) (e : Expr) (tt : TT) (f : DEnv → M Bool) : Prop where
  pw : PW X e tt
  sm : St X.K tt f
def Sa (K : PySem.W.Frag) (ta : TA) (f : DEnv → M (List Sl)) : Prop :=
  ∀ (u : Option Addr) (H0 : Hp) (σ : L2.St) (H : Hp) (ρ : DEnv) (U : US) (sls : List Sl) (U' : US), EOk K u H0 σ H ρ U → f ρ U = some (sls, U') →
    ∀ Q : List V → Hp → Prop, (∀ vs H', Ext u H H' → UrnAt u H' U' → AOk K u H H' vs sls → Q vs H') → ta σ H Q
structure DA (X : Cx) (es : List Expr) (ta : TA) (f : DEnv → M (List Sl)) : Prop where
  pa : PA X es ta
  sm : Sa X.K ta f

/-! ### coercions -/
def tFz (te : TE) : TE := fun σ H Q => te σ H fun v H1 => ∃ a xs, v = .ref a ∧ H1 a = some (.lst xs) ∧ ∀ od, Q v (upd H1 a (.frz od (.lst xs)))
theorem pe_frz {X : Cx} {e : Expr} {te : TE} (h : PE X e te) : PE X e (tFz te) := by
  refine ⟨fun pins s σ H Q I hw => ?_⟩
  refine thn (h.run pins s σ H _ I hw) fun u s1 ⟨v, H1, I1, r, a, xs, e, ha, q⟩ => ?_
  subst e
  obtain ⟨od, I2⟩ := I1.lock ha (show Mut (some (.lst xs)) from trivial)
  exact ⟨_, _, I2, r, q od⟩
section
variable {X : Cx} {e : Expr} {te : TE} {f : DEnv → M PyData}
theorem fb (h : DF X e te f) : DB X e te f := ⟨h.pe, fun u H0 σ H ρ U d U' E hf Q q => h.sm u H0 σ H ρ U d U' E hf Q fun v H' e un p => q v H' e un (.inl p)⟩
theorem nb (h : DN X e te f) : DB X e te f := ⟨h.pe, fun u H0 σ H ρ U d U' E hf Q q => h.sm u H0 σ H ρ U d U' E hf Q fun v H' e un ⟨a, vs, ds, h1, h2, h3, h4, h5, h6⟩ => q v H' e un (.inr (.inl ⟨a, vs, ds, h1, h2, h4, h5, h6⟩))⟩
theorem fz (h : DN X e te f) : DF X e (tFz te) f := ⟨pe_frz h.pe, fun u H0 σ H ρ U d U' E hf Q q => h.sm u H0 σ H ρ U d U' E hf _ fun v H' e un ⟨a, vs, ds, h1, h2, h3, h4, h5, h6⟩ => by
  subst h1; subst h2
  refine ⟨a, vs, rfl, h5, fun od => ?_⟩
  have p : Pers H' (upd H' a (.frz od (.lst vs))) := ⟨fun b xs z => by rw [upd_ne (ne_of z h5 (by intro c; cases c))]; exact z, fun b o w z => by rw [upd_ne (ne_of z h5 (by intro c; cases c))]; exact z⟩
  refine q _ _ (fun b o z n => ?_) (fun b z => ?_) (Fz.lst ⟨od, upd_same⟩ (h6.mono p))
  · rw [upd_ne (ne_of_none z h3)]; exact e b o z n
  · have n : b ≠ a := fun c => h4 (by rw [← c]; exact z)
    rw [upd_ne n]; exact un b z⟩
end

/-! ### names, constants -/
def eVar (i : Nat) : DEnv → M PyData := fun ρ U => match ρ[i]? with
  | some (some (.d x)) => some (x, U)
  | _ => none
def eBor (i : Nat) : DEnv → M PyData := fun ρ U => match ρ[i]? with
  | some (some (.d x)) => some (x, U)
  | some (some (.m xs)) => some (.list xs, U)
  | some (some (.b xs)) => some (.list xs, U)
  | _ => none
def eC (d : PyData) : DEnv → M PyData := fun _ => rt d
section
variable {X : Cx} {x : Str} {pos : Pos}
theorem sg_var {K : PySem.W.Frag} (i : Nat) : Sg K pF (tVar i) (eVar i) := fun u H0 σ H ρ U d U' E hf Q q => by
  unfold eVar at hf
  split at hf
  · rename_i y e
    cases hf
    obtain ⟨v, h1, h2⟩ := E.get i _ e
    exact ⟨v, h1, q v H (Ext.refl _ _) E.urn h2⟩
  · cases hf
theorem df_var (i : Nat) (h : PE X (.Name x pos) (tVar i)) : DF X (.Name x pos) (tVar i) (eVar i) := ⟨h, sg_var i⟩
theorem db_var (i : Nat) (h : PE X (.Name x pos) (tVar i)) : DB X (.Name x pos) (tVar i) (eBor i) := ⟨h, fun u H0 σ H ρ U d U' E hf Q q => by
  unfold eBor at hf
  split at hf
  · rename_i y e
    cases hf
    obtain ⟨v, h1, h2⟩ := E.get i _ e
    exact ⟨v, h1, q v H (Ext.refl _ _) E.urn (.inl h2)⟩
  · rename_i y e
    cases hf
    obtain ⟨v, h1, a, vs, h2, h3, h4, h5, h6⟩ := E.get i _ e
    exact ⟨v, h1, q v H (Ext.refl _ _) E.urn (.inr (.inl ⟨a, vs, _, h2, rfl, h6, h3, h4⟩))⟩
  · rename_i y e
    cases hf
    obtain ⟨v, h1, a, vs, h2, h3, h4⟩ := E.get i _ e
    exact ⟨v, h1, q v H (Ext.refl _ _) E.urn (.inr (.inr ⟨a, vs, _, h2, rfl, h3, h4⟩))⟩
  · cases hf⟩
theorem sg_c {K : PySem.W.Frag} {v : V} {d : PyData} (r : ∀ H, Fz K H v d) : Sg K pF (tC v) (eC d) := fun u H0 σ H ρ U e U' E hf Q q => by
  obtain ⟨rfl, rfl⟩ := rt_some hf
  exact q v H (Ext.refl _ _) E.urn (r H)
theorem df_int {i j} : DF X (.Constant (.int i) j pos) (tC (.int i)) (eC (.int i)) := ⟨pe_int, sg_c fun _ => .int i⟩
theorem df_bl {b j} : DF X (.Constant (.bool b) j pos) (tC (.bl b)) (eC (.bool b)) := ⟨pe_bl, sg_c fun _ => .bl b⟩
theorem df_non {j} : DF X (.Constant .none j pos) (tC .non) (eC .none) := ⟨pe_non, sg_c fun _ => .non⟩
theorem df_str {y j} : DF X (.Constant (.str y) j pos) (tC (.str y)) (eC (.str y)) := ⟨pe_str, sg_c fun _ => .str y⟩
end

/-! ### argument lists, displays -/
def aNil : DEnv → M (List Sl) := fun _ => rt []
def aCons (f : DEnv → M PyData) (g : DEnv → M (List Sl)) : DEnv → M (List Sl) := fun ρ => bnd (f ρ) fun d => bnd (g ρ) fun r => rt (.d d :: r)
/-- a new list -/
def aConsN (f : DEnv → M PyData) (g : DEnv → M (List Sl)) : DEnv → M (List Sl) := fun ρ => bnd (f ρ) fun d => match d with
  | .list xs => bnd (g ρ) fun r => rt (.m xs :: r)
  | _ => fun _ => none
/-- the urn, the script -/
def aConsV (i : Nat) (g : DEnv → M (List Sl)) : DEnv → M (List Sl) := fun ρ U => match ρ[i]? with
  | some (some .u) => bnd (g ρ) (fun r => rt (.u :: r)) U
  | some (some (.b xs)) => bnd (g ρ) (fun r => rt (.b xs :: r)) U
  | _ => none
section
variable {K : PySem.W.Frag} {u : Option Addr} {Hs H1 H : Hp} {U U1 : US} {v : V} {s : Sl} {vs : List V} {sls : List Sl}
theorem SlOk.base (h : SlOk K u H1 H v s) (e : Ext u Hs H1) (un : UrnAt u H1 U) : SlOk K u Hs H v s := by
  cases s with
  | d x => exact h
  | m xs =>
    obtain ⟨a, ws, h1, h2, h3, h4, h5⟩ := h
    exact ⟨a, ws, h1, h2, h3, e.free un h4, h5⟩
  | u => exact h
  | b xs => exact h
theorem AOk.nil : AOk K u Hs H [] [] := ⟨rfl, fun i s q => by simp at q, fun i j xs ys a q => by simp at q⟩
theorem AOk.cons (h : SlOk K u Hs H1 v s) (t : AOk K u H1 H vs sls) (e1 : Ext u Hs H1) (un1 : UrnAt u H1 U1) (e : Ext u H1 H) : AOk K u Hs H (v :: vs) (s :: sls) := by
  have key : ∀ (xs : List PyData) (a : Addr), s = .m xs → v = .ref a → ∀ (j : Nat) ys, sls[j]? = some (.m ys) → vs[j]? = some (.ref a) → False := fun xs a hs hv j ys q1 q2 => by
    subst hs; subst hv
    obtain ⟨a', ws, h1, h2, _⟩ := h
    cases h1
    obtain ⟨w, g1, b, ws', g2, g3, g4, g5, g6⟩ := t.get j _ q1
    rw [q2] at g1; cases g1; cases g2
    rw [h2] at g5; cases g5
  refine ⟨by simp [t.len], fun i r q => ?_, fun i j xs ys a q1 q2 q3 q4 => ?_⟩
  · cases i with
    | zero => simp at q; subst q; exact ⟨v, rfl, h.ext e un1⟩
    | succ i =>
      obtain ⟨w, g1, g2⟩ := t.get i r (by simpa using q)
      exact ⟨w, by simpa using g1, g2.base e1 un1⟩
  · cases i with
    | zero =>
      cases j with
      | zero => rfl
      | succ j =>
        simp at q1 q2 q3 q4
        exact (key xs a q1 q3 j ys q2 q4).elim
    | succ i =>
      cases j with
      | zero =>
        simp at q1 q2 q3 q4
        exact (key ys a q2 q4 i xs q1 q3).elim
      | succ j =>
        rw [t.apart i j xs ys a (by simpa using q1) (by simpa using q2) (by simpa using q3) (by simpa using q4)]
/-- all are data -/
theorem AOk.fza : ∀ {ds : List PyData} {vs : List V}, AOk K u Hs H vs (ds.map .d) → FzA K H vs ds
  | [], vs, h => by
    have e := h.len
    cases vs with
    | nil => exact .nil
    | cons a b => simp at e
  | d :: ds, vs, h => by
    have e := h.len
    cases vs with
    | nil => simp at e
    | cons w ws =>
      obtain ⟨w', g1, g2⟩ := h.get 0 _ rfl
      simp at g1; subst g1
      refine .cons g2 (AOk.fza ⟨by simpa using e, fun i s q => ?_, fun i j xs ys a q1 q2 q3 q4 => ?_⟩)
      · obtain ⟨x, k1, k2⟩ := h.get (i + 1) s (by simpa using q)
        exact ⟨x, by simpa using k1, k2⟩
      · have := h.apart (i + 1) (j + 1) xs ys a (by simpa using q1) (by simpa using q2) (by simpa using q3) (by simpa using q4)
        omega
end
section
variable {X : Cx} {e : Expr} {es : List Expr} {te : TE} {ta : TA} {f : DEnv → M PyData} {g : DEnv → M (List Sl)} {pos : Pos}
theorem da_nil : DA X [] tNil aNil := ⟨pa_nil, fun u H0 σ H ρ U sls U' E hf Q q => by
  obtain ⟨rfl, rfl⟩ := rt_some hf
  exact q [] H (Ext.refl _ _) E.urn .nil⟩
theorem da_cons (ha : DF X e te f) (hr : DA X es ta g) (hs : starEach (e :: es) X.env = (false, eval e X.env) :: starEach es X.env := by rfl) : DA X (e :: es) (tCons te ta) (aCons f g) := ⟨pa_cons ha.pe hr.pa hs, fun u H0 σ H ρ U sls U' E hf Q q => by
  obtain ⟨d, U1, h1, hf⟩ := bnd_some hf
  obtain ⟨r, U2, h2, hf⟩ := bnd_some hf
  obtain ⟨rfl, rfl⟩ := rt_some hf
  refine ha.sm u H0 σ H ρ U d U1 E h1 _ fun v H1 e1 un1 p1 => ?_
  refine hr.sm u H0 σ H1 ρ U1 r U' (E.exts e1 un1) h2 _ fun vs H2 e2 un2 p2 => ?_
  exact q _ _ (e1.trans e2) un2 (AOk.cons (s := .d d) p1 p2 e1 un1 e2)⟩
theorem da_consN (ha : DN X e te f) (hr : DA X es ta g) (hs : starEach (e :: es) X.env = (false, eval e X.env) :: starEach es X.env := by rfl) : DA X (e :: es) (tCons te ta) (aConsN f g) := ⟨pa_cons ha.pe hr.pa hs, fun u H0 σ H ρ U sls U' E hf Q q => by
  obtain ⟨d, U1, h1, hf⟩ := bnd_some hf
  refine ha.sm u H0 σ H ρ U d U1 E h1 _ fun v H1 e1 un1 p1 => ?_
  obtain ⟨a, vs, ds, rfl, rfl, n1, n2, n3, n4⟩ := p1
  obtain ⟨r, U2, h2, hf⟩ := bnd_some hf
  obtain ⟨rfl, rfl⟩ := rt_some hf
  refine hr.sm u H0 σ H1 ρ U1 r U' (E.exts e1 un1) h2 _ fun vs H2 e2 un2 p2 => ?_
  exact q _ _ (e1.trans e2) un2 (AOk.cons (s := .m ds) ⟨a, _, rfl, n3, n4, n1, n2⟩ p2 e1 un1 e2)⟩
theorem da_consV {x : Str} {p : Pos} (i : Nat) (h : PE X (.Name x p) (tVar i)) (hr : DA X es ta g) (hs : starEach (.Name x p :: es) X.env = (false, eval (.Name x p) X.env) :: starEach es X.env := by rfl) : DA X (.Name x p :: es) (tCons (tVar i) ta) (aConsV i g) := ⟨pa_cons h hr.pa hs, fun u H0 σ H ρ U sls U' E hf Q q => by
  have go : ∀ (s : Sl), ρ[i]? = some (some s) → bnd (g ρ) (fun r => rt (s :: r)) U = some (sls, U') → (∀ xs, s ≠ .m xs) → tCons (tVar i) ta σ H Q := fun s e hf nm => by
    obtain ⟨r, U2, h2, hf⟩ := bnd_some hf
    obtain ⟨rfl, rfl⟩ := rt_some hf
    obtain ⟨v, g1, g2⟩ := E.get i _ e
    refine ⟨v, g1, ?_⟩
    refine hr.sm u H0 σ H ρ U r U' E h2 _ fun vs H2 e2 un2 p2 => ?_
    refine q _ _ e2 un2 (AOk.cons (U1 := U) ?_ p2 (Ext.refl _ _) E.urn e2)
    cases s with
    | d x => exact g2
    | m xs => exact absurd rfl (nm xs)
    | u => exact g2
    | b xs => exact g2
  unfold aConsV at hf
  split at hf
  · rename_i e; exact go _ e hf (fun _ z => nomatch z)
  · rename_i e; exact go _ e hf (fun _ z => nomatch z)
  · cases hf⟩
/-- a tuple display, a list display -/
def lim : Nat := 100000
theorem lim_le {n : Nat} (h : n ≤ lim) : n ≤ sizeLine := Nat.le_trans h (by decide)
def toDs : List Sl → Option (List PyData)
  | [] => some []
  | .d x :: r => (toDs r).map (x :: ·)
  | _ :: _ => none
theorem toDs_eq : ∀ {sls : List Sl} {ds : List PyData}, toDs sls = some ds → sls = ds.map .d
  | [], ds, h => by simp [toDs] at h; subst h; rfl
  | .d x :: r, ds, h => by
    simp only [toDs, Option.map_eq_some_iff] at h
    obtain ⟨es, h1, rfl⟩ := h
    rw [toDs_eq h1]; rfl
  | .m _ :: _, ds, h => by simp [toDs] at h
  | .u :: _, ds, h => by simp [toDs] at h
  | .b _ :: _, ds, h => by simp [toDs] at h
def dsOf (sls : List Sl) : Option (List PyData) := if sls.length ≤ lim then toDs sls else none
theorem dsOf_eq {sls : List Sl} {ds : List PyData} (h : dsOf sls = some ds) : sls = ds.map .d ∧ ds.length ≤ lim := by
  unfold dsOf at h
  split at h
  · rename_i c
    have e := toDs_eq h
    exact ⟨e, by rw [e, List.length_map] at c; exact c⟩
  · cases h
def tTupF (t : TA) : TE := fun σ H Q => t σ H fun xs H1 => xs.length ≤ sizeLine ∧ ∀ p od, H1 p = none → od.cls = .type "tuple" → od.dict = none → Q (.ref p) (upd H1 p (.frz od (.tup xs)))
theorem pe_tupF {x1} (h : PA X es ta) : PE X (.Tuple es x1 pos) (tTupF ta) := by
  refine ⟨fun pins s σ H Q I hq => ?_⟩
  refine wpAny_Tuple_spliced (thn (h.run pos pins s σ H _ I hq) fun us s1 ⟨xs, H1, I1, r, z, q⟩ => ⟨by rw [← r.length]; exact z, ?_⟩)
  have hf : H1 s1.heap.objs.size = none := I1.hok.fresh (Nat.le_refl _)
  refine ⟨.ref s1.heap.objs.size, upd H1 s1.heap.objs.size (.frz { cls := .type "tuple", data := .seq us.toArray } (.tup xs)), I1.laid (t' := s1.toks) (fun b u e => Heap.get?_push_of_some _ e) (Nat.le_refl _) ?_, rfl, q _ _ hf rfl rfl⟩
  exact ⟨Heap.get?_push_size _ rfl, z, us, r, ⟨_, Heap.get?_push_size _ rfl, rfl, _, rfl⟩⟩
def eTup (g : DEnv → M (List Sl)) : DEnv → M PyData := fun ρ => bnd (g ρ) fun sls => bnd (lf (dsOf sls)) fun ds => rt (.tuple ds)
def eLst (g : DEnv → M (List Sl)) : DEnv → M PyData := fun ρ => bnd (g ρ) fun sls => bnd (lf (dsOf sls)) fun ds => rt (.list ds)
theorem df_tup {x1} (h : DA X es ta g) : DF X (.Tuple es x1 pos) (tTupF ta) (eTup g) := ⟨pe_tupF h.pa, fun u H0 σ H ρ U d U' E hf Q q => by
  obtain ⟨sls, U1, h1, hf⟩ := bnd_some hf
  obtain ⟨ds, U2, h2, hf⟩ := bnd_some hf
  obtain ⟨rfl, rfl⟩ := rt_some hf
  obtain ⟨h2', rfl⟩ := lf_some h2
  obtain ⟨rfl, hl⟩ := dsOf_eq h2'
  refine h.sm u H0 σ H ρ U _ _ E h1 _ fun vs H1 e1 un1 p1 => ?_
  have fa := p1.fza
  refine ⟨by rw [fa.len]; exact lim_le hl, fun p od hp c1 c2 => ?_⟩
  have un2 := un1.new (o := .frz od (.tup vs)) hp
  refine q _ _ (e1.trans (Ext.new hp)) un2 (Fz.tup ⟨od, upd_same, c1, c2⟩ (fa.mono (Ext.pers (Ext.new hp) un1)))⟩
theorem dn_lst (h : DA X es ta g) : DN X (.List es pos) (tLst ta) (eLst g) := ⟨pe_lst h.pa, fun u H0 σ H ρ U d U' E hf Q q => by
  obtain ⟨sls, U1, h1, hf⟩ := bnd_some hf
  obtain ⟨ds, U2, h2, hf⟩ := bnd_some hf
  obtain ⟨rfl, rfl⟩ := rt_some hf
  obtain ⟨h2', rfl⟩ := lf_some h2
  obtain ⟨rfl, hl⟩ := dsOf_eq h2'
  refine h.sm u H0 σ H ρ U _ _ E h1 _ fun vs H1 e1 un1 p1 => ?_
  have fa := p1.fza
  refine ⟨by rw [fa.len]; exact lim_le hl, fun p hp => ?_⟩
  have un2 := un1.new (o := .lst vs) hp
  exact q _ _ (e1.trans (Ext.new hp)) un2 ⟨p, vs, ds, rfl, rfl, e1.free un1 hp, un1.ne hp, upd_same, fa.mono (Ext.pers (Ext.new hp) un1)⟩⟩
end

/-! ### operators by data -/
def Rz1 (K : PySem.W.Frag) (P : PR) (r : V → Hp → VK → Prop) (g : PyData → Option PyData) : Prop :=
  ∀ (u : Option Addr) (H : Hp) (U : US) (v : V) (d z : PyData), UrnAt u H U → Bz K u H v d → g d = some z → ∀ Q : VK, (∀ v' H', Ext u H H' → UrnAt u H' U → P K H H' u v' z → Q v' H') → r v H Q
def Rz2 (K : PySem.W.Frag) (P : PR) (r : R2) (g : PyData → PyData → Option PyData) : Prop :=
  ∀ (u : Option Addr) (H : Hp) (U : US) (x y : V) (d e z : PyData), UrnAt u H U → Bz K u H x d → Bz K u H y e → g d e = some z → ∀ Q : VK, (∀ v' H', Ext u H H' → UrnAt u H' U → P K H H' u v' z → Q v' H') → r x y H Q
def op1 (g : PyData → Option PyData) (f : DEnv → M PyData) : DEnv → M PyData := fun ρ => bnd (f ρ) fun d => lf (g d)
def op2 (g : PyData → PyData → Option PyData) (f1 f2 : DEnv → M PyData) : DEnv → M PyData := fun ρ => bnd (f1 ρ) fun d => bnd (f2 ρ) fun e => lf (g d e)
theorem sg_op2 {K : PySem.W.Frag} {P : PR} [Bk P] {r : R2} {g : PyData → PyData → Option PyData} {ta tb : TE} {f1 f2 : DEnv → M PyData} (hr : Rz2 K P r g) (ha : Sg K pB ta f1) (hb : Sg K pB tb f2) : Sg K P (tOp r ta tb) (op2 g f1 f2) := fun u H0 σ H ρ U d U' E hf Q q => by
  obtain ⟨d1, U1, h1, hf⟩ := bnd_some hf
  obtain ⟨d2, U2, h2, hf⟩ := bnd_some hf
  obtain ⟨h3, rfl⟩ := lf_some hf
  refine ha u H0 σ H ρ U d1 U1 E h1 _ fun v1 H1 e1 un1 p1 => ?_
  refine hb u H0 σ H1 ρ U1 d2 U' (E.exts e1 un1) h2 _ fun v2 H2 e2 un2 p2 => ?_
  exact hr u H2 U' v1 v2 d1 d2 d un2 (Bz.ext e2 un1 p1) p2 h3 Q fun v' H' e3 un3 p3 => q v' H' ((e1.trans e2).trans e3) un3 (Bk.back (e1.trans e2) un2 p3)
theorem sg_op1 {K : PySem.W.Frag} {P : PR} [Bk P] {r : V → Hp → VK → Prop} {g : PyData → Option PyData} {ta : TE} {f1 : DEnv → M PyData} (hr : Rz1 K P r g) (ha : Sg K pB ta f1) : Sg K P (fun σ H Q => ta σ H fun v H1 => r v H1 Q) (op1 g f1) := fun u H0 σ H ρ U d U' E hf Q q => by
  obtain ⟨d1, U1, h1, hf⟩ := bnd_some hf
  obtain ⟨h3, rfl⟩ := lf_some hf
  refine ha u H0 σ H ρ U d1 U' E h1 _ fun v1 H1 e1 un1 p1 => ?_
  exact hr u H1 U' v1 d1 d un1 p1 h3 Q fun v' H' e3 un3 p3 => q v' H' (e1.trans e3) un3 (Bk.back e1 un1 p3)
section
variable {X : Cx} {a b e : Expr} {ta tb te : TE} {f1 f2 f : DEnv → M PyData} {pos p : Pos} {P : PR} [Bk P] {r : R2} {g : PyData → PyData → Option PyData}
theorem dg_op {op : Operator} (ho : OpR X (binaryOp op) r) (hr : Rz2 X.K P r g) (ha : DB X a ta f1) (hb : DB X b tb f2) : DG P X (.BinOp a op b pos) (tOp r ta tb) (op2 g f1 f2) :=
  ⟨pe_op ho ha.pe hb.pe, sg_op2 hr ha.sm hb.sm⟩
theorem dg_cmp {op : CmpOp} (ho : OpR X (compareOp op) r) (hr : Rz2 X.K P r g) (ha : DB X a ta f1) (hb : DB X b tb f2) (hm : behindInMarks op b = false := by rfl) : DG P X (.Compare a [op] [b] pos) (tOp r ta tb) (op2 g f1 f2) :=
  ⟨pe_cmpR ho ha.pe hb.pe hm, sg_op2 hr ha.sm hb.sm⟩
theorem dg_ix (ho : IxR X r) (hr : Rz2 X.K P r g) (ha : DB X a ta f1) (hb : DB X b tb f2) (hs : PlainIx b := by exact fun _ _ => rfl) : DG P X (.Subscript a b pos) (tOp r ta tb) (op2 g f1 f2) :=
  ⟨pe_ix ho ha.pe hb.pe hs, sg_op2 hr ha.sm hb.sm⟩
variable {x : Str} {id T : String} {r1 : V → Hp → VK → Prop} {rl : List V → Hp → VK → Prop} {g1 : PyData → Option PyData}
theorem dg_cB (hc : CallR X (.builtin id) rl) (hr : Rz1 X.K P (fun v => rl [v]) g1) (hg : Gl X x) (hm : X.mg x = none) (hv : bootBuiltins x = some (.builtin id)) (ha : DB X e te f) (hn : x ≠ "__name__" := by decide) (hdb : (x == ("__debug__" : Str)) = false := by decide)
    (he : starEach [e] X.env = (false, eval e X.env) :: starEach [] X.env := by rfl) (hpl : (backTo pos (starEach [] X.env)).any (·.1) = false := by rfl) : DG P X (.Call (.Name x p) [e] [] pos) (tCB rl (tCons te tNil)) (op1 g1 f) :=
  ⟨pe_callB hc hg hm hv (pa_cons ha.pe pa_nil he) hn hdb he hpl, sg_op1 (ta := te) hr ha.sm⟩
theorem dg_cT (hc : CallR X (.type T) rl) (hr : Rz1 X.K P (fun v => rl [v]) g1) (hg : Gl X x) (hm : X.mg x = none) (hv : bootBuiltins x = some (.type T)) (ha : DB X e te f) (hn : x ≠ "__name__" := by decide) (hdb : (x == ("__debug__" : Str)) = false := by decide)
    (he : starEach [e] X.env = (false, eval e X.env) :: starEach [] X.env := by rfl) (hpl : (backTo pos (starEach [] X.env)).any (·.1) = false := by rfl) : DG P X (.Call (.Name x p) [e] [] pos) (tCB rl (tCons te tNil)) (op1 g1 f) :=
  ⟨pe_callTy hc hg hm hv (pa_cons ha.pe pa_nil he) hn hdb he hpl, sg_op1 (ta := te) hr ha.sm⟩
end

/-! ### tests -/
def tst (f : DEnv → M PyData) : DEnv → M Bool := fun ρ => bnd (f ρ) fun d => match d with
  | .bool b => rt b
  | _ => fun _ => none
def tNotD (f : DEnv → M Bool) : DEnv → M Bool := fun ρ => bnd (f ρ) fun b => rt (!b)
def tAndD (f g : DEnv → M Bool) : DEnv → M Bool := fun ρ => bnd (f ρ) fun b => if b = true then g ρ else rt false
def tOrD (f g : DEnv → M Bool) : DEnv → M Bool := fun ρ => bnd (f ρ) fun b => if b = true then rt true else g ρ
def yes : DEnv → M Bool := fun _ => rt true
section
variable {X : Cx} {a b e : Expr} {ta tb te : TE} {tt tu : TT} {f1 f2 f : DEnv → M PyData} {t u : DEnv → M Bool} {pos p : Pos} {r : R2} {g : PyData → PyData → Option PyData} {rest : List Expr}
theorem st_tst (h : Sg X.K pF te f) : St X.K (tTest te) (tst f) := fun u H0 σ H ρ U b U' E hf Q q => by
  obtain ⟨d, U1, h1, hf⟩ := bnd_some hf
  refine h u H0 σ H ρ U d U1 E h1 _ fun v H1 e1 un1 p1 => ?_
  split at hf
  · obtain ⟨rfl, rfl⟩ := rt_some hf
    cases p1
    exact ⟨_, rfl, q _ e1 un1⟩
  · cases hf
theorem dt_cmp {op : CmpOp} (ho : OpR X (compareOp op) r) (hr : Rz2 X.K pF r g) (ha : DB X a ta f1) (hb : DB X b tb f2) (hm : behindInMarks op b = false := by rfl) : DT X (.Compare a [op] [b] pos) (tTest (tOp r ta tb)) (tst (op2 g f1 f2)) :=
  ⟨pt_cmpR ho ha.pe hb.pe hm, st_tst (sg_op2 hr ha.sm hb.sm)⟩
theorem dt_val (h : DF X e te f) (he : ∀ whole, isTrue e X.env whole = (do let v ← whole; standAt e.pos; holding [v] (truthy v)) := by intro _; rfl) : DT X e (tB te) (tst f) :=
  ⟨pt_val h.pe he, st_tst h.sm⟩
theorem dt_not (h : DT X a tt t) : DT X (.UnaryOp .Not a pos) (tNot tt) (tNotD t) := ⟨pt_not h.pt, fun u H0 σ H ρ U b U' E hf Q q => by
  obtain ⟨d, U1, h1, hf⟩ := bnd_some hf
  obtain ⟨rfl, rfl⟩ := rt_some hf
  exact h.sm u H0 σ H ρ U d _ E h1 _ fun H1 e1 un1 => q H1 e1 un1⟩
theorem dw_and1 (h : DT X a tt t) : DW X (.BoolOp .And [a] pos) tt t := ⟨pw_and1 h.pt, h.sm⟩
theorem dw_or1 (h : DT X a tt t) : DW X (.BoolOp .Or [a] pos) tt t := ⟨pw_or1 h.pt, h.sm⟩
theorem dw_and (h1 : DT X a tt t) (h2 : DW X (.BoolOp .And (b :: rest) pos) tu u) : DW X (.BoolOp .And (a :: b :: rest) pos) (tAnd tt tu) (tAndD t u) := ⟨pw_and h1.pt h2.pw, fun u H0 σ H ρ U b U' E hf Q q => by
  obtain ⟨d, U1, g1, hf⟩ := bnd_some hf
  refine h1.sm u H0 σ H ρ U d U1 E g1 _ fun H1 e1 un1 => ?_
  cases d with
  | true => exact h2.sm u H0 σ H1 ρ U1 b U' (E.exts e1 un1) hf _ fun H2 e2 un2 => q H2 (e1.trans e2) un2
  | false =>
    obtain ⟨rfl, rfl⟩ := rt_some hf
    exact q H1 e1 un1⟩
theorem dw_or (h1 : DT X a tt t) (h2 : DW X (.BoolOp .Or (b :: rest) pos) tu u) : DW X (.BoolOp .Or (a :: b :: rest) pos) (tOr tt tu) (tOrD t u) := ⟨pw_or h1.pt h2.pw, fun u H0 σ H ρ U b U' E hf Q q => by
  obtain ⟨d, U1, g1, hf⟩ := bnd_some hf
  refine h1.sm u H0 σ H ρ U d U1 E g1 _ fun H1 e1 un1 => ?_
  cases d with
  | false => exact h2.sm u H0 σ H1 ρ U1 b U' (E.exts e1 un1) hf _ fun H2 e2 un2 => q H2 (e1.trans e2) un2
  | true =>
    obtain ⟨rfl, rfl⟩ := rt_some hf
    exact q H1 e1 un1⟩
theorem dw_t (h : DW X e tt t) : DT X e tt t := ⟨h.pw.pt, h.sm⟩
end
/-- bools as values -/
def vAnd (f g : DEnv → M PyData) : DEnv → M PyData := fun ρ => bnd (f ρ) fun d => match d with
  | .bool b => if b = true then g ρ else rt (.bool false)
  | _ => fun _ => none
def vOr (f g : DEnv → M PyData) : DEnv → M PyData := fun ρ => bnd (f ρ) fun d => match d with
  | .bool b => if b = true then rt (.bool true) else g ρ
  | _ => fun _ => none
def vNot (f : DEnv → M PyData) : DEnv → M PyData := fun ρ => bnd (f ρ) fun d => match d with
  | .bool b => rt (.bool (!b))
  | _ => fun _ => none
def eIf (t : DEnv → M Bool) (f g : DEnv → M PyData) : DEnv → M PyData := fun ρ => bnd (t ρ) fun b => if b = true then f ρ else g ρ
section
variable {X : Cx} {a b c e : Expr} {ta tb te : TE} {tt tu : TT} {f g : DEnv → M PyData} {t : DEnv → M Bool} {pos p : Pos} {rest : List Expr}
theorem df_one {op} (h : DF X a ta f) : DF X (.BoolOp op [a] pos) ta f := ⟨pe_one h.pe, h.sm⟩
theorem df_and (h1 : DF X a ta f) (h2 : DF X (.BoolOp .And (b :: rest) pos) tb g) : DF X (.BoolOp .And (a :: b :: rest) pos) (tAndV ta tb) (vAnd f g) := ⟨pe_and h1.pe h2.pe, fun u H0 σ H ρ U z U' E hf Q q => by
  obtain ⟨d, U1, g1, hf⟩ := bnd_some hf
  refine h1.sm u H0 σ H ρ U d U1 E g1 _ fun v H1 e1 un1 p1 => ?_
  split at hf
  · cases p1
    rename_i k
    refine ⟨k, rfl, ?_⟩
    cases k with
    | true => exact h2.sm u H0 σ H1 ρ U1 z U' (E.exts e1 un1) hf _ fun v H2 e2 un2 p2 => q v H2 (e1.trans e2) un2 p2
    | false =>
      obtain ⟨rfl, rfl⟩ := rt_some hf
      exact q _ H1 e1 un1 (.bl false)
  · cases hf⟩
theorem df_or (h1 : DF X a ta f) (h2 : DF X (.BoolOp .Or (b :: rest) pos) tb g) : DF X (.BoolOp .Or (a :: b :: rest) pos) (tOrV ta tb) (vOr f g) := ⟨pe_or h1.pe h2.pe, fun u H0 σ H ρ U z U' E hf Q q => by
  obtain ⟨d, U1, g1, hf⟩ := bnd_some hf
  refine h1.sm u H0 σ H ρ U d U1 E g1 _ fun v H1 e1 un1 p1 => ?_
  split at hf
  · cases p1
    rename_i k
    refine ⟨k, rfl, ?_⟩
    cases k with
    | false => exact h2.sm u H0 σ H1 ρ U1 z U' (E.exts e1 un1) hf _ fun v H2 e2 un2 p2 => q v H2 (e1.trans e2) un2 p2
    | true =>
      obtain ⟨rfl, rfl⟩ := rt_some hf
      exact q _ H1 e1 un1 (.bl true)
  · cases hf⟩
theorem df_not (h1 : DF X a ta f) : DF X (.UnaryOp .Not a pos) (tNotV ta) (vNot f) := ⟨pe_not h1.pe, fun u H0 σ H ρ U z U' E hf Q q => by
  obtain ⟨d, U1, g1, hf⟩ := bnd_some hf
  refine h1.sm u H0 σ H ρ U d U1 E g1 _ fun v H1 e1 un1 p1 => ?_
  split at hf
  · cases p1
    rename_i k
    obtain ⟨rfl, rfl⟩ := rt_some hf
    exact ⟨k, rfl, q _ H1 e1 un1 (.bl _)⟩
  · cases hf⟩
theorem dg_if {P : PR} [Bk P] (hc : DT X c tt t) (h1 : DG P X a ta f) (h2 : DG P X b tb g) : DG P X (.IfExp c a b pos) (tIf tt ta tb) (eIf t f g) := ⟨pe_ifExp hc.pt h1.pe h2.pe, fun u H0 σ H ρ U z U' E hf Q q => by
  obtain ⟨d, U1, g1, hf⟩ := bnd_some hf
  refine hc.sm u H0 σ H ρ U d U1 E g1 _ fun H1 e1 un1 => ?_
  cases d with
  | true => exact h1.sm u H0 σ H1 ρ U1 z U' (E.exts e1 un1) hf _ fun v H2 e2 un2 p2 => q v H2 (e1.trans e2) un2 (Bk.back e1 un1 p2)
  | false => exact h2.sm u H0 σ H1 ρ U1 z U' (E.exts e1 un1) hf _ fun v H2 e2 un2 p2 => q v H2 (e1.trans e2) un2 (Bk.back e1 un1 p2)⟩
end
end DL

set_option Elab.async false
set_option linter.all false
set_option maxRecDepth 100000
set_option maxHeartbeats 4000000
/-! DL3: operators, subscripts, built-ins by data. -/
namespace DL
open PySem PySem.Spec PyProof.Rows L2

/-! ### ints -/
def gAdd : PyData → PyData → Option PyData
  | .int i, .int j => some (.int (i + j))
  | _, _ => none
def cMul (i j : Int) : Bool := (decide (-(2 ^ 64) < i) && decide (i < 2 ^ 64)) || (decide (-(2 ^ 64) < j) && decide (j < 2 ^ 64))
def gMul : PyData → PyData → Option PyData
  | .int i, .int j => if cMul i j = true then some (.int (i * j)) else none
  | _, _ => none
def gMod : PyData → PyData → Option PyData
  | .int i, .int j => if 0 < j then some (.int (i % j)) else none
  | _, _ => none
def gFdiv : PyData → PyData → Option PyData
  | .int i, .int j => if 0 < j ∧ j < 1073741824 then some (.int (i / j)) else none
  | _, _ => none
def gPow : PyData → PyData → Option PyData
  | .int i, .int j => if 0 ≤ j ∧ j ≤ 1000000 ∧ i.natAbs < 2 ^ 64 then some (.int (i ^ j.toNat)) else none
  | _, _ => none
def gLt : PyData → PyData → Option PyData
  | .int i, .int j => some (.bool (decide (i < j)))
  | _, _ => none
def gGt : PyData → PyData → Option PyData
  | .int i, .int j => some (.bool (decide (j < i)))
  | _, _ => none
def gGe : PyData → PyData → Option PyData
  | .int i, .int j => some (.bool (decide (j ≤ i)))
  | _, _ => none
section
variable {K : PySem.W.Frag}
theorem rz_I0 {g : Int → Int → V} {gd : PyData → PyData → Option PyData} (hg : ∀ d e z, gd d e = some z → ∃ i j, d = .int i ∧ e = .int j ∧ ∀ H, Fz K H (g i j) z) : Rz2 K pF (rI0 g) gd := fun u H U x y d e z un h1 h2 h Q q => by
  obtain ⟨i, j, rfl, rfl, r⟩ := hg d e z h
  exact ⟨i, j, h1.int, h2.int, q _ H (Ext.refl _ _) un (r H)⟩
theorem rz_I {C : Int → Int → Prop} {g : Int → Int → V} {gd : PyData → PyData → Option PyData} (hg : ∀ d e z, gd d e = some z → ∃ i j, d = .int i ∧ e = .int j ∧ C i j ∧ ∀ H, Fz K H (g i j) z) : Rz2 K pF (rI C g) gd := fun u H U x y d e z un h1 h2 h Q q => by
  obtain ⟨i, j, rfl, rfl, c, r⟩ := hg d e z h
  exact ⟨i, j, h1.int, h2.int, c, q _ H (Ext.refl _ _) un (r H)⟩
theorem rz_add : Rz2 K pF (rI0 fun i j => .int (i + j)) gAdd := rz_I0 fun d e z h => by
  unfold gAdd at h
  split at h
  · cases h; exact ⟨_, _, rfl, rfl, fun _ => .int _⟩
  · cases h
theorem rz_mul : Rz2 K pF (rI CMul fun i j => .int (i * j)) gMul := rz_I fun d e z h => by
  unfold gMul at h
  split at h
  · split at h
    · rename_i c
      cases h
      refine ⟨_, _, rfl, rfl, ?_, fun _ => .int _⟩
      unfold cMul at c
      simp only [Bool.or_eq_true, Bool.and_eq_true, decide_eq_true_eq] at c
      exact c
    · cases h
  · cases h
theorem rz_mod : Rz2 K pF (rI (fun _ j => 0 < j) fun i j => .int (i % j)) gMod := rz_I fun d e z h => by
  unfold gMod at h
  split at h
  · split at h
    · rename_i c; cases h; exact ⟨_, _, rfl, rfl, c, fun _ => .int _⟩
    · cases h
  · cases h
theorem rz_fdiv : Rz2 K pF (rI CDiv fun i j => .int (i / j)) gFdiv := rz_I fun d e z h => by
  unfold gFdiv at h
  split at h
  · split at h
    · rename_i c; cases h; exact ⟨_, _, rfl, rfl, c, fun _ => .int _⟩
    · cases h
  · cases h
theorem rz_pow : Rz2 K pF (rI CPow fun i j => .int (i ^ j.toNat)) gPow := rz_I fun d e z h => by
  unfold gPow at h
  split at h
  · split at h
    · rename_i c; cases h; exact ⟨_, _, rfl, rfl, c, fun _ => .int _⟩
    · cases h
  · cases h
theorem rz_lt : Rz2 K pF (rI0 fun i j => .bl (decide (i < j))) gLt := rz_I0 fun d e z h => by
  unfold gLt at h
  split at h
  · cases h; exact ⟨_, _, rfl, rfl, fun _ => .bl _⟩
  · cases h
theorem rz_gt : Rz2 K pF (rI0 fun i j => .bl (decide (j < i))) gGt := rz_I0 fun d e z h => by
  unfold gGt at h
  split at h
  · cases h; exact ⟨_, _, rfl, rfl, fun _ => .bl _⟩
  · cases h
theorem rz_ge : Rz2 K pF (rI0 fun i j => .bl (decide (j ≤ i))) gGe := rz_I0 fun d e z h => by
  unfold gGe at h
  split at h
  · cases h; exact ⟨_, _, rfl, rfl, fun _ => .bl _⟩
  · cases h
end

/-! ### == of data, in -/
def gEq (d e : PyData) : Option PyData := if SeqAt.shaped d = true ∧ SeqAt.shaped e = true then some (.bool (PyData.eqv d e)) else none
def gNe (d e : PyData) : Option PyData := if SeqAt.shaped d = true ∧ SeqAt.shaped e = true then some (.bool (!PyData.eqv d e)) else none
def gIn (d e : PyData) : Option PyData := match e with
  | .list ds => if SeqAt.shaped d = true ∧ SeqAt.shaped (.list ds) = true then some (.bool (ds.any fun z => PyData.eqv z d)) else none
  | _ => none
def gNotIn (d e : PyData) : Option PyData := match e with
  | .list ds => if SeqAt.shaped d = true ∧ SeqAt.shaped (.list ds) = true then some (.bool (!ds.any fun z => PyData.eqv z d)) else none
  | _ => none
def isNon : PyData → Bool
  | .none => true
  | _ => false
def gIs (d e : PyData) : Option PyData := match e with
  | .none => some (.bool (isNon d))
  | _ => none
section
variable {K : PySem.W.Frag}
theorem rz_eq : Rz2 K pF (rEqD K) gEq := fun u H U x y d e z un h1 h2 h Q q => by
  unfold gEq at h
  split at h
  · rename_i c; cases h
    exact ⟨d, e, h1.dp, h2.dp, c.1, c.2, q _ H (Ext.refl _ _) un (.bl _)⟩
  · cases h
theorem rz_ne : Rz2 K pF (rNeD K) gNe := fun u H U x y d e z un h1 h2 h Q q => by
  unfold gNe at h
  split at h
  · rename_i c; cases h
    exact ⟨d, e, h1.dp, h2.dp, c.1, c.2, q _ H (Ext.refl _ _) un (.bl _)⟩
  · cases h
theorem rz_in : Rz2 K pF (rInD K) gIn := fun u H U x y d e z un h1 h2 h Q q => by
  unfold gIn at h
  split at h
  · split at h
    · rename_i c; cases h
      exact ⟨d, _, h1.dp, h2.dp, c.1, c.2, q _ H (Ext.refl _ _) un (.bl _)⟩
    · cases h
  · cases h
theorem rz_notIn : Rz2 K pF (rNotInD K) gNotIn := fun u H U x y d e z un h1 h2 h Q q => by
  unfold gNotIn at h
  split at h
  · split at h
    · rename_i c; cases h
      exact ⟨d, _, h1.dp, h2.dp, c.1, c.2, q _ H (Ext.refl _ _) un (.bl _)⟩
    · cases h
  · cases h
theorem Bz.isNon {u : Option Addr} {H : Hp} {v : V} {d : PyData} (h : Bz K u H v d) : decide (v = .non) = DL.isNon d := by
  rcases h with h | ⟨a, vs, ds, rfl, rfl, n, h1, h2⟩ | ⟨a, vs, ds, rfl, rfl, h1, h2⟩
  · cases h <;> rfl
  · rfl
  · rfl
theorem rz_is : Rz2 K pF (fun x y H Q => y = .non ∧ Q (.bl (decide (x = .non))) H) gIs := fun u H U x y d e z un h1 h2 h Q q => by
  unfold gIs at h
  split at h
  · cases h
    have e := h2.flat (fun ds w => nomatch w)
    cases e
    exact ⟨rfl, q _ H (Ext.refl _ _) un (by rw [h1.isNon]; exact .bl _)⟩
  · cases h
end

/-! ### subscripts -/
def seqOf : PyData → Option (List PyData)
  | .list xs => some xs
  | .tuple xs => some xs
  | _ => none
def gIx (d e : PyData) : Option PyData := match e with
  | .int i => (seqOf d).bind fun xs => atI xs i
  | _ => none
theorem fza_at {K : PySem.W.Frag} {H : Hp} {vs : List V} {ds : List PyData} {i : Int} {z : PyData} (h : FzA K H vs ds) (e : atI ds i = some z) : ∃ v, atI vs i = some v ∧ Fz K H v z := by
  unfold atI at e ⊢
  rw [h.len]
  cases q : ixN ds.length i with
  | none => rw [q] at e; cases e
  | some j =>
    rw [q] at e
    exact h.get e
section
variable {K : PySem.W.Frag}
theorem rz_ix : Rz2 K pF (rIx K) gIx := fun u H U x y d e z un h1 h2 h Q q => by
  unfold gIx at h
  split at h
  · rename_i i
    have hy := h2.int
    subst hy
    cases d with
    | list xs =>
      obtain ⟨a, vs, rfl, h3, h4⟩ := h1.list
      obtain ⟨v, h5, h6⟩ := fza_at h4 (show atI xs i = some z from h)
      exact .inl ⟨a, vs, i, v, rfl, rfl, h3, h5, q _ H (Ext.refl _ _) un h6⟩
    | tuple xs =>
      obtain ⟨a, vs, rfl, h3, h4⟩ := h1.tuple
      obtain ⟨v, h5, h6⟩ := fza_at h4 (show atI xs i = some z from h)
      exact .inr (.inl ⟨a, vs, i, v, rfl, rfl, h3.t, h5, q _ H (Ext.refl _ _) un h6⟩)
    | _ => cases h
  · cases h
end
/-- slices -/
def oNo : DEnv → M (Option Int) := fun _ => rt none
def oSo (f : DEnv → M PyData) : DEnv → M (Option Int) := fun ρ => bnd (f ρ) fun d => match d with
  | .int i => rt (some i)
  | _ => fun _ => none
def So (K : PySem.W.Frag) (to : TO) (f : DEnv → M (Option Int)) : Prop :=
  ∀ (u : Option Addr) (H0 : Hp) (σ : L2.St) (H : Hp) (ρ : DEnv) (U : US) (o : Option Int) (U' : US), EOk K u H0 σ H ρ U → f ρ U = some (o, U') →
    ∀ Q : Option Int → Hp → Prop, (∀ H', Ext u H H' → UrnAt u H' U' → Q o H') → to σ H Q
structure DO (X : Cx) (e : Option Expr) (to : TO) (f : DEnv → M (Option Int)) : Prop where
  po : PO X e to
  sm : So X.K to f
theorem do_no {X : Cx} : DO X none tNoPart oNo := ⟨po_none, fun u H0 σ H ρ U o U' E hf Q q => by
  obtain ⟨rfl, rfl⟩ := rt_some hf
  exact q H (Ext.refl _ _) E.urn⟩
theorem do_so {X : Cx} {e : Expr} {te : TE} {f : DEnv → M PyData} (h : DF X e te f) : DO X (some e) (tPart te) (oSo f) := ⟨po_some h.pe, fun u H0 σ H ρ U o U' E hf Q q => by
  obtain ⟨d, U1, h1, hf⟩ := bnd_some hf
  refine h.sm u H0 σ H ρ U d U1 E h1 _ fun v H1 e1 un1 p1 => ?_
  split at hf
  · obtain ⟨rfl, rfl⟩ := rt_some hf
    cases p1
    exact ⟨_, rfl, q H1 e1 un1⟩
  · cases hf⟩
def cutD (xs : List PyData) (lo hi : Option Int) : List PyData := (xs.drop (HT.sIx xs.length 0 lo)).take (HT.sIx xs.length xs.length hi - HT.sIx xs.length 0 lo)
theorem FzA.cut {K : PySem.W.Frag} {H : Hp} {vs : List V} {ds : List PyData} (h : FzA K H vs ds) (lo hi : Option Int) : FzA K H (cutV vs lo hi) (cutD ds lo hi) := by
  unfold cutV cutD
  rw [h.len]
  exact (h.drop _).take _
def eSlL (f : DEnv → M PyData) (lo hi : DEnv → M (Option Int)) : DEnv → M PyData := fun ρ => bnd (f ρ) fun d => bnd (lo ρ) fun l => bnd (hi ρ) fun h => match d with
  | .list xs => rt (.list (cutD xs l h))
  | _ => fun _ => none
def eSlT (f : DEnv → M PyData) (lo hi : DEnv → M (Option Int)) : DEnv → M PyData := fun ρ => bnd (f ρ) fun d => bnd (lo ρ) fun l => bnd (hi ρ) fun h => match d with
  | .tuple xs => rt (.tuple (cutD xs l h))
  | _ => fun _ => none
def rSlF : V → Option Int → Option Int → Hp → VK → Prop := fun x lo hi H Q => ∃ a xs, x = .ref a ∧ TpF H a xs ∧
  (HT.sIx xs.length 0 lo = 0 ∧ HT.sIx xs.length xs.length hi = xs.length → Q (.ref a) H) ∧
  (¬ (HT.sIx xs.length 0 lo = 0 ∧ HT.sIx xs.length xs.length hi = xs.length) → ∀ p od, H p = none → od.cls = .type "tuple" → od.dict = none → Q (.ref p) (upd H p (.frz od (.tup (cutV xs lo hi)))))
theorem sl_tupF {X : Cx} : SlR X rSlF := by
  intro pins s σ H x v vl vu lo hi sl Q I rx hs pl pu h
  obtain ⟨a, xs, rfl, hx, q1, q2⟩ := h
  cases rx
  obtain ⟨its, r, ht, hz⟩ := I.tuple (hx.t (K := X.K))
  have hlen : its.toArray.size = xs.length := by rw [List.size_toArray]; exact r.length.symm
  refine ⟨"tuple", _, PyProof.Rows.slot_tuple_getitem.lookup, ht.typeIs, ?_⟩
  by_cases hw : HT.sIx xs.length 0 lo = 0 ∧ HT.sIx xs.length xs.length hi = xs.length
  · exact getItem_tuple_whole ht hs pl pu (by rw [hlen]; exact hw) ⟨.ref a, H, I, rfl, q1 hw⟩
  · refine HT.getItem_tuple_cut ht hs pl pu (by rw [hlen]; exact hw) ?_ (by rw [hlen]; exact hz)
    rw [hlen]
    refine ⟨.ref s.heap.objs.size, _, I.laid (t' := s.toks) (o := .frz { cls := .type "tuple", data := .seq ((its.toArray.toList.drop (HT.sIx xs.length 0 lo)).take (HT.sIx xs.length xs.length hi - HT.sIx xs.length 0 lo)).toArray } (.tup (cutV xs lo hi))) (fun b ob q => Heap.get?_push_of_some _ q) (Nat.le_refl _) ?_, rfl, q2 hw _ _ (I.hok.fresh (Nat.le_refl _)) rfl rfl⟩
    exact ⟨Heap.get?_push_size _ rfl, Nat.le_trans (cutV_length xs lo hi) hz, _, (r.drop (HT.sIx xs.length 0 lo)).take (HT.sIx xs.length xs.length hi - HT.sIx xs.length 0 lo), IsTup.new _ _⟩
section
variable {X : Cx} {e : Expr} {te : TE} {f : DEnv → M PyData} {lo hi : Option Expr} {tl th : TO} {fl fh : DEnv → M (Option Int)} {pos p2 : Pos}
theorem dn_sl (h : DB X e te f) (hl : DO X lo tl fl) (hh : DO X hi th fh) : DN X (.Subscript e (.Slice lo hi none p2) pos) (tSl (rSlL X.K) te tl th) (eSlL f fl fh) := ⟨pe_slice sl_list h.pe hl.po hh.po, fun u H0 σ H ρ U d U' E hf Q q => by
  obtain ⟨d1, U1, h1, hf⟩ := bnd_some hf
  obtain ⟨l, U2, h2, hf⟩ := bnd_some hf
  obtain ⟨r, U3, h3, hf⟩ := bnd_some hf
  refine h.sm u H0 σ H ρ U d1 U1 E h1 _ fun v1 H1 e1 un1 p1 => ?_
  have E1 := E.exts e1 un1
  refine hl.sm u H0 σ H1 ρ U1 l U2 E1 h2 _ fun H2 e2 un2 => ?_
  have E2 := E1.exts e2 un2
  refine hh.sm u H0 σ H2 ρ U2 r U3 E2 h3 _ fun H3 e3 un3 => ?_
  split at hf
  · obtain ⟨rfl, rfl⟩ := rt_some hf
    obtain ⟨a, vs, rfl, h5, h6⟩ := (Bz.ext e3 un2 (Bz.ext e2 un1 p1)).list
    refine ⟨a, vs, rfl, h5, fun p hp => ?_⟩
    have e4 := (e1.trans e2).trans e3
    have un4 := un3.new (o := .lst (cutV vs l r)) hp
    exact q _ _ (e4.trans (Ext.new hp)) un4 ⟨p, _, _, rfl, rfl, e4.free un3 hp, un3.ne hp, upd_same, (h6.cut l r).mono (Ext.pers (Ext.new hp) un3)⟩
  · cases hf⟩
theorem df_slT (h : DB X e te f) (hl : DO X lo tl fl) (hh : DO X hi th fh) : DF X (.Subscript e (.Slice lo hi none p2) pos) (tSl rSlF te tl th) (eSlT f fl fh) := ⟨pe_slice sl_tupF h.pe hl.po hh.po, fun u H0 σ H ρ U d U' E hf Q q => by
  obtain ⟨d1, U1, h1, hf⟩ := bnd_some hf
  obtain ⟨l, U2, h2, hf⟩ := bnd_some hf
  obtain ⟨r, U3, h3, hf⟩ := bnd_some hf
  refine h.sm u H0 σ H ρ U d1 U1 E h1 _ fun v1 H1 e1 un1 p1 => ?_
  have E1 := E.exts e1 un1
  refine hl.sm u H0 σ H1 ρ U1 l U2 E1 h2 _ fun H2 e2 un2 => ?_
  have E2 := E1.exts e2 un2
  refine hh.sm u H0 σ H2 ρ U2 r U3 E2 h3 _ fun H3 e3 un3 => ?_
  split at hf
  · obtain ⟨rfl, rfl⟩ := rt_some hf
    have e4 := (e1.trans e2).trans e3
    obtain ⟨a, vs, rfl, h5, h6⟩ := (Bz.ext e3 un2 (Bz.ext e2 un1 p1)).tuple
    refine ⟨a, vs, rfl, h5, fun hw => ?_, fun hw p od hp c1 c2 => ?_⟩
    · refine q _ _ e4 un3 (Fz.tup h5 ?_)
      have z : cutV vs l r = vs := by
        unfold cutV
        rw [hw.1, hw.2]
        simp
      have z2 := h6.cut l r
      rw [z] at z2
      exact z2
    · have un4 := un3.new (o := .frz od (.tup (cutV vs l r))) hp
      exact q _ _ (e4.trans (Ext.new hp)) un4 (Fz.tup ⟨od, upd_same, c1, c2⟩ ((h6.cut l r).mono (Ext.pers (Ext.new hp) un3)))
  · cases hf⟩
end

/-! ### t + u, xs + ys, [x] * n -/
def gCatT : PyData → PyData → Option PyData
  | .tuple xs, .tuple ys => if xs.length + ys.length ≤ lim then some (.tuple (xs ++ ys)) else none
  | _, _ => none
def gCatL : PyData → PyData → Option PyData
  | .list xs, .list ys => if xs.length + ys.length ≤ lim then some (.list (xs ++ ys)) else none
  | _, _ => none
def gRep : PyData → PyData → Option PyData
  | .list xs, .int k => if 0 ≤ k ∧ k ≤ 100000 ∧ xs.length * k.toNat ≤ lim then some (.list (List.replicate k.toNat xs).flatten) else none
  | _, _ => none
def rCatF : R2 := fun x y H Q => ∃ a b xs ys, x = .ref a ∧ y = .ref b ∧ TpF H a xs ∧ TpF H b ys ∧ xs.length + ys.length ≤ sizeLine ∧
  (xs = [] → Q (.ref b) H) ∧ (xs ≠ [] → ys = [] → Q (.ref a) H) ∧ (xs ≠ [] → ys ≠ [] → ∀ p od, H p = none → od.cls = .type "tuple" → od.dict = none → Q (.ref p) (upd H p (.frz od (.tup (xs ++ ys)))))
theorem op_catF {X : Cx} : OpR X (binaryOp .Add) rCatF := by
  intro pins s σ H x y v u Q I rx ry h
  obtain ⟨a, b, xs, ys, rfl, rfl, ha, hb, hz, q0, q1, q2⟩ := h
  cases rx
  cases ry
  obtain ⟨its, r1, p1, _⟩ := I.tuple (ha.t (K := X.K))
  obtain ⟨its2, r2, p2, _⟩ := I.tuple (hb.t (K := X.K))
  by_cases hx : xs = []
  · subst hx
    cases r1
    exact cat_tup0 p1 p2 ⟨.ref b, H, I, rfl, q0 rfl⟩
  · refine HT.cat_tup p1 p2 (fun z => hx (r1.nil_iff.mp z)) (fun z => ⟨.ref a, H, I, rfl, q1 hx (r2.nil_iff.mp z)⟩) (fun z => ?_) (by rw [← r1.length, ← r2.length]; exact hz)
    refine ⟨.ref s.heap.objs.size, _, I.laid (t' := s.toks) (o := .frz { cls := .type "tuple", data := .seq (its ++ its2).toArray } (.tup (xs ++ ys))) (fun b ob q => Heap.get?_push_of_some _ q) (Nat.le_refl _) ?_, rfl, q2 hx (fun w => z (r2.nil_iff.mpr w)) _ _ (I.hok.fresh (Nat.le_refl _)) rfl rfl⟩
    exact ⟨Heap.get?_push_size _ rfl, by rw [List.length_append]; exact hz, _, r1.append r2, IsTup.new _ _⟩
/-- a list that stands at a plain object -/
def LsT (H : Hp) (a : Addr) (xs : List V) : Prop := H a = some (.lst xs) ∨ ∃ o, H a = some (.frz o (.lst xs))
theorem inv_lsT {X : Cx} {pins : List (Addr × Obj)} {σ : L2.St} {H : Hp} {s : Shared} {l : Addr} {xs : List V} (I : Inv X pins σ H s) (h : LsT H l xs) :
    xs.length ≤ sizeLine ∧ ∃ (its : List Value) (n : Nat), Vals xs its ∧ xs.length = its.length ∧ s.heap.get? l = some { cls := .type "list", data := .seq its.toArray n } := by
  rcases h with h | ⟨o, h⟩
  · exact I.lstM h
  · obtain ⟨_, z, its, n, r, e⟩ := (show ObjOk X.prog X.w H s.heap l (.frz o (.lst xs)) from I.hok l _ h)
    exact ⟨z, its, n, r, r.length, e⟩
def rCatL : R2 := fun x y H Q => ∃ l b xs zs, x = .ref l ∧ y = .ref b ∧ LsT H l xs ∧ LsT H b zs ∧ xs.length + zs.length ≤ sizeLine ∧ ∀ p, H p = none → Q (.ref p) (upd H p (.lst (xs ++ zs)))
theorem op_catL {X : Cx} : OpR X (binaryOp .Add) rCatL := by
  intro pins s σ H x y v u Q I rx ry h
  obtain ⟨l, b, xs, zs, rfl, rfl, hH, hB, hz, q⟩ := h
  cases rx
  cases ry
  obtain ⟨z, its, n, r, hl, e⟩ := inv_lsT I hH
  obtain ⟨z2, its2, n2, r2, hl2, e2⟩ := inv_lsT I hB
  refine PySem.P.add_list e e2 ?_ (by rw [List.size_toArray, List.size_toArray]; omega)
  have ea : its.toArray ++ its2.toArray = (its ++ its2).toArray := by simp
  rw [ea]
  exact ⟨.ref _, _, I.lnew (t' := s.toks) (r.append r2) (by rw [List.length_append]; omega), rfl, q _ I.fresh⟩
section
variable {K : PySem.W.Frag}
theorem rz_catT : Rz2 K pF rCatF gCatT := fun u H U x y d e z un h1 h2 h Q q => by
  unfold gCatT at h
  split at h
  · split at h
    · rename_i c; cases h
      obtain ⟨a, vs, rfl, h3, h4⟩ := h1.tuple
      obtain ⟨b, ws, rfl, h5, h6⟩ := h2.tuple
      have hz : vs.length + ws.length ≤ lim := by rw [h4.len, h6.len]; exact c
      refine ⟨a, b, vs, ws, rfl, rfl, h3, h5, lim_le hz, fun e => ?_, fun _ e => ?_, fun _ _ p od hp c1 c2 => ?_⟩
      · subst e; cases h4
        exact q _ H (Ext.refl _ _) un (Fz.tup h5 h6)
      · subst e; cases h6
        rw [List.append_nil] at *
        exact q _ H (Ext.refl _ _) un (Fz.tup h3 h4)
      · exact q _ _ (Ext.new hp) (un.new hp) (Fz.tup ⟨od, upd_same, c1, c2⟩ ((h4.app h6).mono (Ext.pers (Ext.new hp) un)))
    · cases h
  · cases h
end
/-- immutable, or a list of one's own (not the script) -/
def pG : PR := fun K _ H' u v d => Fz K H' v d ∨ ∃ a vs ds, v = .ref a ∧ d = .list ds ∧ u ≠ some a ∧ H' a = some (.lst vs) ∧ FzA K H' vs ds
instance : Bk pG := ⟨fun _ _ h => h⟩
abbrev DGl := DG pG
def eBorG (i : Nat) : DEnv → M PyData := fun ρ U => match ρ[i]? with
  | some (some (.d x)) => some (x, U)
  | some (some (.m xs)) => some (.list xs, U)
  | _ => none
section
variable {X : Cx} {e a b : Expr} {te ta tb : TE} {f f1 f2 : DEnv → M PyData} {x : Str} {pos : Pos}
theorem fg (h : DF X e te f) : DGl X e te f := ⟨h.pe, fun u H0 σ H ρ U d U' E hf Q q => h.sm u H0 σ H ρ U d U' E hf Q fun v H' e un p => q v H' e un (.inl p)⟩
theorem ng (h : DN X e te f) : DGl X e te f := ⟨h.pe, fun u H0 σ H ρ U d U' E hf Q q => h.sm u H0 σ H ρ U d U' E hf Q fun v H' e un ⟨a, vs, ds, h1, h2, h3, h4, h5, h6⟩ => q v H' e un (.inr ⟨a, vs, ds, h1, h2, h4, h5, h6⟩)⟩
theorem dg_var (i : Nat) (h : PE X (.Name x pos) (tVar i)) : DGl X (.Name x pos) (tVar i) (eBorG i) := ⟨h, fun u H0 σ H ρ U d U' E hf Q q => by
  unfold eBorG at hf
  split at hf
  · rename_i y e
    cases hf
    obtain ⟨v, h1, h2⟩ := E.get i _ e
    exact ⟨v, h1, q v H (Ext.refl _ _) E.urn (.inl h2)⟩
  · rename_i y e
    cases hf
    obtain ⟨v, h1, a, vs, h2, h3, h4, h5, h6⟩ := E.get i _ e
    exact ⟨v, h1, q v H (Ext.refl _ _) E.urn (.inr ⟨a, vs, _, h2, rfl, h6, h3, h4⟩)⟩
  · cases hf⟩
theorem pG_ls {K : PySem.W.Frag} {H H' : Hp} {u : Option Addr} {v : V} {ds : List PyData} (h : pG K H H' u v (.list ds)) : ∃ a vs, v = .ref a ∧ LsT H' a vs ∧ FzA K H' vs ds := by
  rcases h with h | ⟨a, vs, ds', rfl, e, n, h1, h2⟩
  · cases h with
    | lst hs ha => exact ⟨_, _, rfl, .inr hs, ha⟩
  · cases e; exact ⟨a, vs, rfl, .inl h1, h2⟩
theorem pG_ext {K : PySem.W.Frag} {H H1 H2 : Hp} {u : Option Addr} {U : US} {v : V} {d : PyData} (h : pG K H H1 u v d) (e : Ext u H1 H2) (un : UrnAt u H1 U) : pG K H H2 u v d := by
  rcases h with h | ⟨a, vs, ds, rfl, rfl, n, h1, h2⟩
  · exact .inl (h.mono (e.pers un))
  · exact .inr ⟨a, vs, ds, rfl, rfl, n, e a _ h1 n, h2.mono (e.pers un)⟩
theorem dn_cat (ha : DGl X a ta f1) (hb : DGl X b tb f2) : DN X (.BinOp a .Add b pos) (tOp rCatL ta tb) (op2 gCatL f1 f2) := ⟨pe_op op_catL ha.pe hb.pe, fun u H0 σ H ρ U d U' E hf Q q => by
  obtain ⟨d1, U1, h1, hf⟩ := bnd_some hf
  obtain ⟨d2, U2, h2, hf⟩ := bnd_some hf
  obtain ⟨h3, rfl⟩ := lf_some hf
  refine ha.sm u H0 σ H ρ U d1 U1 E h1 _ fun v1 H1 e1 un1 p1 => ?_
  refine hb.sm u H0 σ H1 ρ U1 d2 U' (E.exts e1 un1) h2 _ fun v2 H2 e2 un2 p2 => ?_
  unfold gCatL at h3
  split at h3
  · split at h3
    · rename_i c; cases h3
      obtain ⟨a1, vs, rfl, h5, h6⟩ := pG_ls (pG_ext p1 e2 un1)
      obtain ⟨b1, ws, rfl, h7, h8⟩ := pG_ls p2
      have hz : vs.length + ws.length ≤ lim := by rw [h6.len, h8.len]; exact c
      refine ⟨a1, b1, vs, ws, rfl, rfl, h5, h7, lim_le hz, fun p hp => ?_⟩
      have e4 := e1.trans e2
      exact q _ _ (e4.trans (Ext.new hp)) (un2.new hp) ⟨p, _, _, rfl, rfl, e4.free un2 hp, un2.ne hp, upd_same, (h6.app h8).mono (Ext.pers (Ext.new hp) un2)⟩
    · cases h3
  · cases h3⟩
theorem dn_rep (ha : DN X a ta f1) (hb : DF X b tb f2) : DN X (.BinOp a .Mult b pos) (tOp rRep ta tb) (op2 gRep f1 f2) := ⟨pe_op op_rep ha.pe hb.pe, fun u H0 σ H ρ U d U' E hf Q q => by
  obtain ⟨d1, U1, h1, hf⟩ := bnd_some hf
  obtain ⟨d2, U2, h2, hf⟩ := bnd_some hf
  obtain ⟨h3, rfl⟩ := lf_some hf
  refine ha.sm u H0 σ H ρ U d1 U1 E h1 _ fun v1 H1 e1 un1 p1 => ?_
  refine hb.sm u H0 σ H1 ρ U1 d2 U' (E.exts e1 un1) h2 _ fun v2 H2 e2 un2 p2 => ?_
  unfold gRep at h3
  split at h3
  · split at h3
    · rename_i c; cases h3
      obtain ⟨a1, vs, ds, rfl, g0, g1, g2, g3, g4⟩ := p1
      cases g0
      cases p2
      obtain ⟨c0, c1, c2⟩ := c
      rw [← g4.len] at c2
      refine ⟨a1, _, vs, rfl, rfl, e2 a1 _ g3 g2, by omega, by omega, lim_le c2, fun p hp => ?_⟩
      have e4 := e1.trans e2
      exact q _ _ (e4.trans (Ext.new hp)) (un2.new hp) ⟨p, _, _, rfl, rfl, e4.free un2 hp, un2.ne hp, upd_same, ((g4.mono (e2.pers un1)).rep _).mono (Ext.pers (Ext.new hp) un2)⟩
    · cases h3
  · cases h3⟩
end

/-! ### built-ins of one argument -/
def gLen (d : PyData) : Option PyData := (seqOf d).map fun xs => .int (xs.length : Nat)
def gTuple (d : PyData) : Option PyData := (seqOf d).map fun xs => .tuple xs
def gList (d : PyData) : Option PyData := (seqOf d).map fun xs => .list xs
def toBs : List PyData → Option (List Bool)
  | [] => some []
  | .bool b :: r => (toBs r).map (b :: ·)
  | _ :: _ => none
def toIs : List PyData → Option (List Int)
  | [] => some []
  | .int b :: r => (toIs r).map (b :: ·)
  | _ :: _ => none
theorem toBs_eq : ∀ {ds : List PyData} {bs : List Bool}, toBs ds = some bs → ds = bs.map .bool
  | [], bs, h => by simp [toBs] at h; subst h; rfl
  | .bool x :: r, ds, h => by
    simp only [toBs, Option.map_eq_some_iff] at h
    obtain ⟨es, h1, rfl⟩ := h
    rw [toBs_eq h1]; rfl
  | .none :: _, ds, h => by simp [toBs] at h
  | .int _ :: _, ds, h => by simp [toBs] at h
  | .str _ :: _, ds, h => by simp [toBs] at h
  | .list _ :: _, ds, h => by simp [toBs] at h
  | .tuple _ :: _, ds, h => by simp [toBs] at h
  | .dict _ :: _, ds, h => by simp [toBs] at h
theorem toIs_eq : ∀ {ds : List PyData} {bs : List Int}, toIs ds = some bs → ds = bs.map .int
  | [], bs, h => by simp [toIs] at h; subst h; rfl
  | .int x :: r, ds, h => by
    simp only [toIs, Option.map_eq_some_iff] at h
    obtain ⟨es, h1, rfl⟩ := h
    rw [toIs_eq h1]; rfl
  | .none :: _, ds, h => by simp [toIs] at h
  | .bool _ :: _, ds, h => by simp [toIs] at h
  | .str _ :: _, ds, h => by simp [toIs] at h
  | .list _ :: _, ds, h => by simp [toIs] at h
  | .tuple _ :: _, ds, h => by simp [toIs] at h
  | .dict _ :: _, ds, h => by simp [toIs] at h
theorem toBs_map : ∀ bs : List Bool, toBs (bs.map .bool) = some bs
  | [] => rfl
  | b :: r => by simp [toBs, toBs_map r]
theorem toIs_map : ∀ bs : List Int, toIs (bs.map .int) = some bs
  | [] => rfl
  | b :: r => by simp [toIs, toIs_map r]
def gAll (d : PyData) : Option PyData := match d with
  | .list ds => (toBs ds).map fun bs => .bool (bs.all id)
  | _ => none
def gAny (d : PyData) : Option PyData := match d with
  | .list ds => (toBs ds).map fun bs => .bool (bs.any id)
  | _ => none
def gMax (d : PyData) : Option PyData := ((seqOf d).bind toIs).bind fun ns => match ns with
  | [] => none
  | n :: r => if r.length ≤ 1000 then some (.int (r.foldl max n)) else none
def gAbs : PyData → Option PyData
  | .int i => some (.int (if i < 0 then -i else i))
  | _ => none
def gInt : PyData → Option PyData
  | .int i => some (.int i)
  | .bool b => some (.int (if b then 1 else 0))
  | _ => none
section
variable {K : PySem.W.Frag}
theorem rz_len : Rz1 K pF (fun v => (fun xs H Q => ∃ p ys, xs = [.ref p] ∧ (SqL K H p ys ∨ SqT K H p ys) ∧ Q (.int ys.length) H : List V → Hp → VK → Prop) [v]) gLen := fun u H U v d z un h1 h Q q => by
  cases d with
  | list ds =>
    cases h
    obtain ⟨a, vs, rfl, h3, h4⟩ := h1.list
    refine ⟨a, vs, rfl, .inl h3, ?_⟩
    rw [h4.len]
    exact q _ H (Ext.refl _ _) un (.int _)
  | tuple ds =>
    cases h
    obtain ⟨a, vs, rfl, h3, h4⟩ := h1.tuple
    refine ⟨a, vs, rfl, .inr h3.t, ?_⟩
    rw [h4.len]
    exact q _ H (Ext.refl _ _) un (.int _)
  | _ => cases h
def rTupF (K : PySem.W.Frag) : List V → Hp → VK → Prop := fun xs H Q => ∃ p ys, xs = [.ref p] ∧ ((SqL K H p ys ∧ ∀ l od, H l = none → od.cls = .type "tuple" → od.dict = none → Q (.ref l) (upd H l (.frz od (.tup ys)))) ∨ (SqT K H p ys ∧ Q (.ref p) H))
theorem call_tupF {X : Cx} : CallR X (.type "tuple") (rTupF X.K) := by
  intro pins s σ H xs us Q I r h
  obtain ⟨p, ys, rfl, h⟩ := h
  obtain ⟨u, rfl, rx⟩ := vals1 r
  cases rx
  rcases h with ⟨hq, q⟩ | ⟨hq, q⟩
  · obtain ⟨its, r', pl, hz⟩ := I.list hq
    have hlen := r'.length
    refine call_tuple_list pl.isList (fun h' kp => ?_) (by simp only [List.size_toArray] <;> omega)
    have I1 : Inv X pins σ H { s with heap := h' } := I.kept (t' := s.toks) kp
    have I2 : Inv X pins σ (upd H h'.objs.size (.frz { cls := .type "tuple", data := .seq its.toArray } (.tup ys))) { s with heap := h'.push { cls := .type "tuple", data := .seq its.toArray } } :=
      I1.laid (t' := s.toks) (fun b o e => Heap.get?_push_of_some _ e) (Nat.le_refl _) (show ObjOk X.prog X.w _ _ _ (.frz _ (.tup ys)) from ⟨Heap.get?_push_size _ rfl, hz, its, r', IsTup.new _ _⟩)
    exact ⟨.ref h'.objs.size, _, I2, rfl, q _ _ (I1.hok.fresh (Nat.le_refl _)) rfl rfl⟩
  · obtain ⟨its, r', pl, hz⟩ := I.tuple hq
    exact call_tuple_same pl ⟨.ref p, H, I, rfl, q⟩
theorem rz_tuple : Rz1 K pF (fun v => rTupF K [v]) gTuple := fun u H U v d z un h1 h Q q => by
  cases d with
  | list ds =>
    cases h
    obtain ⟨a, vs, rfl, h3, h4⟩ := h1.list
    exact ⟨a, vs, rfl, .inl ⟨h3, fun l od hl c1 c2 => q _ _ (Ext.new hl) (un.new hl) (Fz.tup ⟨od, upd_same, c1, c2⟩ (h4.mono (Ext.pers (Ext.new hl) un)))⟩⟩
  | tuple ds =>
    cases h
    obtain ⟨a, vs, rfl, h3, h4⟩ := h1.tuple
    exact ⟨a, vs, rfl, .inr ⟨h3.t, q _ H (Ext.refl _ _) un (Fz.tup h3 h4)⟩⟩
  | _ => cases h
theorem rz_list : Rz1 K pN (fun v => (fun xs H Q => ∃ p ys, xs = [.ref p] ∧ (SqL K H p ys ∨ SqT K H p ys) ∧ ∀ l, H l = none → Q (.ref l) (upd H l (.lst ys)) : List V → Hp → VK → Prop) [v]) gList := fun u H U v d z un h1 h Q q => by
  cases d with
  | list ds =>
    cases h
    obtain ⟨a, vs, rfl, h3, h4⟩ := h1.list
    exact ⟨a, vs, rfl, .inl h3, fun l hl => q _ _ (Ext.new hl) (un.new hl) ⟨l, vs, ds, rfl, rfl, hl, un.ne hl, upd_same, h4.mono (Ext.pers (Ext.new hl) un)⟩⟩
  | tuple ds =>
    cases h
    obtain ⟨a, vs, rfl, h3, h4⟩ := h1.tuple
    exact ⟨a, vs, rfl, .inr h3.t, fun l hl => q _ _ (Ext.new hl) (un.new hl) ⟨l, vs, ds, rfl, rfl, hl, un.ne hl, upd_same, h4.mono (Ext.pers (Ext.new hl) un)⟩⟩
  | _ => cases h
theorem rz_all : Rz1 K pF (fun v => rAll K [v]) gAll := fun u H U v d z un h1 h Q q => by
  unfold gAll at h
  split at h
  · obtain ⟨bs, e, rfl⟩ := Option.map_eq_some_iff.mp h
    obtain ⟨a, vs, rfl, h3, h4⟩ := h1.list
    rw [toBs_eq e] at h4
    have e2 := h4.bools_inv
    subst e2
    exact ⟨a, bs, rfl, h3, q _ H (Ext.refl _ _) un (.bl _)⟩
  · cases h
theorem rz_any : Rz1 K pF (fun v => rAny K [v]) gAny := fun u H U v d z un h1 h Q q => by
  unfold gAny at h
  split at h
  · obtain ⟨bs, e, rfl⟩ := Option.map_eq_some_iff.mp h
    obtain ⟨a, vs, rfl, h3, h4⟩ := h1.list
    rw [toBs_eq e] at h4
    have e2 := h4.bools_inv
    subst e2
    exact ⟨a, bs, rfl, h3, q _ H (Ext.refl _ _) un (.bl _)⟩
  · cases h
theorem foldl_max_mem : ∀ (r : List Int) (n : Int), r.foldl max n ∈ n :: r
  | [], n => by simp
  | y :: r, n => by
    have h := foldl_max_mem r (max n y)
    simp only [List.foldl_cons]
    rcases List.mem_cons.mp h with h | h
    · rw [h]
      by_cases c : n ≤ y
      · have : max n y = y := by omega
        rw [this]; simp
      · have : max n y = n := by omega
        rw [this]; simp
    · simp [h]
theorem foldl_max_ge : ∀ (r : List Int) (n : Int), n ≤ r.foldl max n ∧ ∀ y ∈ r, y ≤ r.foldl max n
  | [], n => by simp
  | y :: r, n => by
    obtain ⟨h1, h2⟩ := foldl_max_ge r (max n y)
    simp only [List.foldl_cons]
    refine ⟨by omega, fun z hz => ?_⟩
    rcases List.mem_cons.mp hz with rfl | hz
    · omega
    · exact h2 z hz
theorem max_one {r : List Int} {n m : Int} (h1 : m ∈ n :: r) (h2 : ∀ y ∈ n :: r, y ≤ m) : m = r.foldl max n := by
  have a := foldl_max_mem r n
  obtain ⟨b, c⟩ := foldl_max_ge r n
  have d := h2 _ a
  rcases List.mem_cons.mp h1 with rfl | h1
  · omega
  · have := c m h1; omega
def rMaxF (K : PySem.W.Frag) : List V → Hp → VK → Prop := fun vs H Q => ∃ (a : Addr) (n : Int) (r : List Int), vs = [V.ref a] ∧ (SqL K H a ((n :: r).map V.int) ∨ SqT K H a ((n :: r).map V.int)) ∧ r.length ≤ 1000 ∧ Q (.int (r.foldl max n)) H
theorem depthAll_ints : ∀ ns : List Int, PyData.depthAll (ns.map PyData.int) = 0
  | [] => rfl
  | n :: r => by simp [PyData.depthAll, PyData.depth, depthAll_ints r]
theorem cr_maxF {X : Cx} (hc : X.calm = true) (hu : X.A.units + 64 < cLine) : CallR X (.builtin "max") (rMaxF X.K) := by
  intro pins s σ H vs us Q I r h
  obtain ⟨a, n, ns, rfl, hs | hs, hl, q⟩ := h
  · exact cr_max hc pins s σ H _ us Q I r ⟨a, n :: ns, rfl, hs, by simp, fun m h1 h2 => by rw [max_one h1 h2]; exact q⟩
  · obtain ⟨its, rv, hlt, _⟩ := I.tuple hs
    rw [Vals.ref1 r]
    have fa : FzA X.K H ((n :: ns).map V.int) ((n :: ns).map PyData.int) := FzA.ints _
    obtain ⟨as, hr⟩ := Dp.readsAll I _ _ _ fa.dp rv
    refine PySem.W.max_tuple_data (x := .int n) (xs := ns.map .int) (as := as) (I.ok.hd hc) (show s.heap.IsTuple a its.toArray from hlt) (by simpa using hr) ⟨fun x hx y hy => ?_, fun x hx => ?_⟩ ?_ fun i v h' tk bs hi hrd hk => ?_
    · have hx' : x ∈ (n :: ns).map PyData.int := hx
      have hy' : y ∈ (n :: ns).map PyData.int := hy
      obtain ⟨i, _, rfl⟩ := List.mem_map.mp hx'
      obtain ⟨j, _, rfl⟩ := List.mem_map.mp hy'
      rfl
    · have hx' : x ∈ (n :: ns).map PyData.int := hx
      obtain ⟨i, _, rfl⟩ := List.mem_map.mp hx'
      exact fun z => nomatch z
    · have e := depthAll_ints (n :: ns)
      have e' : PyData.depthAll (PyData.int n :: ns.map PyData.int) = 0 := e
      rw [e']; omega
    · rw [PySem.W.maxD_ints] at hrd
      cases hrd
      exact ⟨.int _, H, I.kept hk, ⟨_, rfl⟩, q⟩
theorem rz_max : Rz1 K pF (fun v => rMaxF K [v]) gMax := fun u H U v d z un h1 h Q q => by
  unfold gMax at h
  obtain ⟨ns, e, h⟩ := Option.bind_eq_some_iff.mp h
  obtain ⟨ds, e1, e2⟩ := Option.bind_eq_some_iff.mp e
  cases ns with
  | nil => cases h
  | cons n r =>
    simp only at h
    split at h
    · rename_i c; cases h
      have e3 := toIs_eq e2
      subst e3
      cases d with
      | list xs =>
        cases e1
        obtain ⟨a, vs, rfl, h3, h4⟩ := h1.list
        have e4 := h4.ints_inv
        subst e4
        exact ⟨a, n, r, rfl, .inl h3, c, q _ H (Ext.refl _ _) un (.int _)⟩
      | tuple xs =>
        cases e1
        obtain ⟨a, vs, rfl, h3, h4⟩ := h1.tuple
        have e4 := h4.ints_inv
        subst e4
        exact ⟨a, n, r, rfl, .inr h3.t, c, q _ H (Ext.refl _ _) un (.int _)⟩
      | _ => cases e1
    · cases h
theorem rz_abs : Rz1 K pF (fun v => (fun xs H Q => ∃ i, xs = [.int i] ∧ Q (.int (if i < 0 then -i else i)) H : List V → Hp → VK → Prop) [v]) gAbs := fun u H U v d z un h1 h Q q => by
  unfold gAbs at h
  split at h
  · cases h
    exact ⟨_, by rw [h1.int], q _ H (Ext.refl _ _) un (.int _)⟩
  · cases h
theorem rz_int : Rz1 K pF (fun v => (fun xs H Q => (∃ i, xs = [.int i] ∧ Q (.int i) H) ∨ ∃ k, xs = [.bl k] ∧ Q (.int (if k then 1 else 0)) H : List V → Hp → VK → Prop) [v]) gInt := fun u H U v d z un h1 h Q q => by
  unfold gInt at h
  split at h
  · cases h
    exact .inl ⟨_, by rw [h1.int], q _ H (Ext.refl _ _) un (.int _)⟩
  · cases h
    exact .inr ⟨_, by rw [h1.bool], q _ H (Ext.refl _ _) un (.int _)⟩
  · cases h
end
end DL

set_option Elab.async false
set_option linter.all false
set_option maxRecDepth 100000
set_option maxHeartbeats 4000000
/-! DL4: what is walked, targets, comprehensions. -/
namespace DL
open PySem PySem.Spec PyProof.Rows L2

/-! ### items, targets -/
inductive Im where
  | one (x : PyData)
  | many (xs : List PyData)
def ImOk (K : PySem.W.Frag) (H : Hp) (v : V) : Im → Prop
  | .one x => Fz K H v x
  | .many xs => ∃ a vs, v = .ref a ∧ SqT K H a vs ∧ FzA K H vs xs
def Sgt (K : PySem.W.Frag) (g : TG) (asg : Im → DEnv → Option DEnv) (is : List Nat) : Prop :=
  ∀ (u : Option Addr) (H0 : Hp) (σ : L2.St) (H : Hp) (ρ : DEnv) (U : US) (v : V) (im : Im) (ρ' : DEnv), EOk K u H0 σ H ρ U → ImOk K H v im → asg im ρ = some ρ' →
    ∀ Q : L2.St → Hp → Prop, (∀ σ', EOk K u H0 σ' H ρ' U → (∀ vs : List Nat, (∀ i ∈ is, i ∈ vs) → L2.wipe σ' vs = L2.wipe σ vs) → Q σ' H) → g v σ H Q
structure DGt (X : Cx) (tg : Expr) (g : TG) (asg : Im → DEnv → Option DEnv) (is : List Nat) : Prop where
  pg : PG X tg g
  sm : Sgt X.K g asg is
theorem wipe_set_out {σ : L2.St} {i : Nat} {x : Option V} : ∀ {vs : List Nat}, i ∉ vs → L2.wipe (σ.set i x) vs = (L2.wipe σ vs).set i x
  | [], _ => rfl
  | v :: vs, h => by
    unfold L2.wipe
    rw [wipe_set_out (fun z => h (List.mem_cons_of_mem _ z))]
    exact List.set_comm _ _ (fun e => h (by rw [e]; exact List.mem_cons_self))
theorem wipe_set {σ : L2.St} {i : Nat} {x : Option V} : ∀ {vs : List Nat}, i ∈ vs → L2.wipe (σ.set i x) vs = L2.wipe σ vs
  | [], h => by cases h
  | v :: vs, h => by
    unfold L2.wipe
    by_cases hm : i ∈ vs
    · rw [wipe_set hm]
    · have e : i = v := by
        rcases List.mem_cons.mp h with e | e
        · exact e
        · exact absurd e hm
      rw [wipe_set_out hm, e, List.set_set]
def aName (i : Nat) : Im → DEnv → Option DEnv
  | .one x, ρ => some (ρ.set i (some (.d x)))
  | _, _ => none
def setMany : List Nat → List PyData → DEnv → Option DEnv
  | [], [], ρ => some ρ
  | i :: is, x :: xs, ρ => setMany is xs (ρ.set i (some (.d x)))
  | _, _, _ => none
def aTup (is : List Nat) : Im → DEnv → Option DEnv
  | .one (.tuple xs), ρ => setMany is xs ρ
  | .many xs, ρ => setMany is xs ρ
  | _, _ => none
theorem dg_name {X : Cx} {x : Str} {pos : Pos} (i : Nat) (h : PG X (.Name x pos) (gName i)) : DGt X (.Name x pos) (gName i) (aName i) [i] := ⟨h, fun u H0 σ H ρ U v im ρ' E io ha Q q => by
  cases im with
  | one x =>
    cases ha
    exact q _ (E.setd io) fun vs hv => wipe_set (hv i (by simp))
  | many xs => cases ha⟩
def gNames : List Nat → TGs
  | [] => gNil
  | i :: is => gCons (gName i) (gNames is)
theorem gNames_ok {K : PySem.W.Frag} {u : Option Addr} {H0 H : Hp} {U : US} : ∀ (is : List Nat) (xs : List PyData) (vs : List V) (σ : L2.St) (ρ ρ' : DEnv), EOk K u H0 σ H ρ U → FzA K H vs xs → setMany is xs ρ = some ρ' →
    ∀ Q : L2.St → Hp → Prop, (∀ σ', EOk K u H0 σ' H ρ' U → (∀ ws : List Nat, (∀ i ∈ is, i ∈ ws) → L2.wipe σ' ws = L2.wipe σ ws) → Q σ' H) → gNames is vs σ H Q
  | [], [], vs, σ, ρ, ρ', E, fa, hs, Q, q => by
    cases fa
    cases hs
    exact ⟨rfl, q σ E fun _ _ => rfl⟩
  | i :: is, x :: xs, vs, σ, ρ, ρ', E, fa, hs, Q, q => by
    cases fa with
    | cons h1 h2 =>
      refine ⟨_, _, rfl, ?_⟩
      refine gNames_ok is xs _ _ _ ρ' (E.setd h1) h2 hs Q fun σ' E' w => q σ' E' fun ws hw => ?_
      rw [w ws fun j hj => hw j (List.mem_cons_of_mem _ hj)]
      exact wipe_set (hw i List.mem_cons_self)
  | [], _ :: _, _, _, _, _, _, _, hs, _, _ => by simp [setMany] at hs
  | _ :: _, [], _, _, _, _, _, _, hs, _, _ => by simp [setMany] at hs
theorem setMany_len : ∀ {is : List Nat} {xs : List PyData} {ρ ρ' : DEnv}, setMany is xs ρ = some ρ' → xs.length = is.length
  | [], [], _, _, _ => rfl
  | _ :: is, _ :: xs, _, _, h => by simp [setMany_len (is := is) (xs := xs) h]
  | [], _ :: _, _, _, h => by simp [setMany] at h
  | _ :: _, [], _, _, h => by simp [setMany] at h
theorem dg_tup {X : Cx} {es : List Expr} {k : Nat} {pos : Pos} (is : List Nat) (h : PG X (.Tuple es k pos) (gTup X.K is.length (gNames is))) : DGt X (.Tuple es k pos) (gTup X.K is.length (gNames is)) (aTup is) is := ⟨h, fun u H0 σ H ρ U v im ρ' E io ha Q q => by
  have go : ∀ a vs xs, v = .ref a → SqT X.K H a vs → FzA X.K H vs xs → setMany is xs ρ = some ρ' → gTup X.K is.length (gNames is) v σ H Q := fun a vs xs e hs fa hm => by
    subst e
    exact ⟨a, vs, rfl, hs, by rw [fa.len, setMany_len hm], gNames_ok is xs vs σ ρ ρ' E fa hm Q q⟩
  cases im with
  | one x =>
    cases x with
    | tuple xs =>
      cases io with
      | tup h1 h2 => exact go _ _ xs rfl h1.t h2 ha
    | _ => cases ha
  | many xs =>
    obtain ⟨a, vs, e, h1, h2⟩ := io
    exact go a vs xs e h1 h2 ha⟩

/-! ### what is walked -/
structure Yl (K : PySem.W.Frag) (J : It) (xs : List Im) (H : Hp) : Prop where
  go : ∀ (i : Nat) x H2, xs[i]? = some x → Pers H H2 → J.go i H2
  yld : ∀ (i : Nat) x H2 v H3, xs[i]? = some x → Pers H H2 → J.yld i H2 v H3 → (∀ b o, H2 b = some o → H3 b = some o) ∧ ImOk K H3 v x
  stop : ∀ H2, Pers H H2 → J.stop xs.length H2
def Si (K : PySem.W.Frag) (wi : TI) (f : DEnv → M (List Im)) : Prop :=
  ∀ (u : Option Addr) (H0 : Hp) (σ : L2.St) (H : Hp) (ρ : DEnv) (U : US) (xs : List Im) (U' : US), EOk K u H0 σ H ρ U → f ρ U = some (xs, U') →
    ∀ R : It → Hp → Prop, (∀ J H', Ext u H H' → UrnAt u H' U' → Yl K J xs H' → R J H') → wi σ H R
structure DI (X : Cx) (tg iter : Expr) (wi : TI) (f : DEnv → M (List Im)) : Prop where
  pi : PI X tg iter wi
  sm : Si X.K wi f
theorem Pers.of {H H' : Hp} (e : ∀ b o, H b = some o → H' b = some o) : Pers H H' := ⟨fun b xs h => e b _ h, fun b o w h => e b _ h⟩
section
variable {X : Cx} {tg e : Expr} {te : TE} {f : DEnv → M PyData}
def iSeqA (K : PySem.W.Frag) (tl : TE) : TI := fun σ H R => tl σ H fun x H1 => ∃ a, x = .ref a ∧ (((∃ xs, SqL K H1 a xs) ∧ R (Itl K a) H1) ∨ ((∃ xs, SqT K H1 a xs) ∧ R (Itt K a) H1))
theorem pi_seqA (hl : PE X e te) : PI X tg e (iSeqA X.K te) := by
  refine ⟨fun pins s σ H R I h => ?_⟩
  refine thn (hl.run pins s σ H _ I h) fun v s1 ⟨x, H1, I1, r1, q1⟩ => ?_
  obtain ⟨a, e, ⟨⟨xs, hq⟩, q⟩ | ⟨⟨xs, hq⟩, q⟩⟩ := q1
  · subst e
    cases r1
    obtain ⟨its, rv, p, hz⟩ := I1.list hq
    refine wpAny_pyIter_list p.isList ?_
    refine ⟨s1.heap.objs.size, [s1.heap.objs.size], _, _, H1, rfl, I1.kept (t' := s1.toks) fun b o e => Heap.get?_push_of_some _ e, turn_list a _, ⟨_, Heap.get?_push_size _ rfl, rfl, rfl⟩, fun b hb => ?_, q⟩
    have e : b = s1.heap.objs.size := by simpa using hb
    subst e
    exact I1.fpOk (Nat.le_refl _) (I1.hok.fresh (Nat.le_refl _))
  · subst e
    cases r1
    obtain ⟨its, rv, p, hz⟩ := I1.tuple hq
    refine wpAny_pyIter_tuple (show s1.heap.IsTuple a its.toArray from p) ?_
    refine ⟨s1.heap.objs.size, [s1.heap.objs.size], _, _, H1, rfl, I1.kept (t' := s1.toks) fun b o e => Heap.get?_push_of_some _ e, turn_tuple a _, ⟨_, Heap.get?_push_size _ rfl, rfl, rfl⟩, fun b hb => ?_, q⟩
    have e : b = s1.heap.objs.size := by simpa using hb
    subst e
    exact I1.fpOk (Nat.le_refl _) (I1.hok.fresh (Nat.le_refl _))
def fSeq (f : DEnv → M PyData) : DEnv → M (List Im) := fun ρ => bnd (f ρ) fun d => bnd (lf (seqOf d)) fun xs => rt (xs.map .one)
theorem get_map_one {α β : Type} {f : α → β} {xs : List α} {i : Nat} {y : β} (h : (xs.map f)[i]? = some y) : ∃ x, xs[i]? = some x ∧ y = f x := by
  rw [List.getElem?_map, Option.map_eq_some_iff] at h
  obtain ⟨x, h1, h2⟩ := h
  exact ⟨x, h1, h2.symm⟩
theorem si_seq {K : PySem.W.Frag} (h : Sg K pF te f) : Si K (iSeqA K te) (fSeq f) := fun u H0 σ H ρ U xs U' E hf R q => by
  obtain ⟨d, U1, h1, hf⟩ := bnd_some hf
  obtain ⟨ds, U2, h2, hf⟩ := bnd_some hf
  obtain ⟨rfl, rfl⟩ := rt_some hf
  obtain ⟨h2', rfl⟩ := lf_some h2
  refine h u H0 σ H ρ U d _ E h1 _ fun v H1 e1 un1 p1 => ?_
  cases d with
  | list ys =>
    cases h2'
    cases p1 with
    | lst hs fa =>
      refine ⟨_, rfl, .inl ⟨⟨_, hs.l⟩, q _ H1 e1 un1 ⟨fun i x H2 hx p => ?_, fun i x H2 v H3 hx p hy => ?_, fun H2 p => ?_⟩⟩⟩
      · obtain ⟨y, g1, rfl⟩ := get_map_one hx
        obtain ⟨w, g2, _⟩ := fa.get g1
        exact ⟨_, w, (hs.mono p).l, g2⟩
      · obtain ⟨y, g1, rfl⟩ := get_map_one hx
        obtain ⟨rfl, g2⟩ := hy
        exact ⟨fun _ _ z => z, (fa.mono p).get2 g1 (g2 _ (hs.mono p).l)⟩
      · exact ⟨_, (hs.mono p).l, by rw [fa.len, List.length_map]; exact Nat.le_refl _⟩
  | tuple ys =>
    cases h2'
    cases p1 with
    | tup hs fa =>
      refine ⟨_, rfl, .inr ⟨⟨_, hs.t⟩, q _ H1 e1 un1 ⟨fun i x H2 hx p => ?_, fun i x H2 v H3 hx p hy => ?_, fun H2 p => ?_⟩⟩⟩
      · obtain ⟨y, g1, rfl⟩ := get_map_one hx
        obtain ⟨w, g2, _⟩ := fa.get g1
        exact ⟨_, w, (hs.mono p).t, g2⟩
      · obtain ⟨y, g1, rfl⟩ := get_map_one hx
        obtain ⟨rfl, g2⟩ := hy
        exact ⟨fun _ _ z => z, (fa.mono p).get2 g1 (g2 _ (hs.mono p).t)⟩
      · exact ⟨_, (hs.mono p).t, by rw [fa.len, List.length_map]; exact Nat.le_refl _⟩
  | _ => cases h2'
theorem di_seq (h : DF X e te f) : DI X tg e (iSeqA X.K te) (fSeq f) := ⟨pi_seqA h.pe, si_seq h.sm⟩

/-! range(n) -/
def fRng (f : DEnv → M PyData) : DEnv → M (List Im) := fun ρ => bnd (f ρ) fun d => match d with
  | .int n => if -100000 ≤ n ∧ n ≤ 100000 then rt ((List.range n.toNat).map fun i => .one (.int (i : Nat))) else fun _ => none
  | _ => fun _ => none
theorem sa_one {K : PySem.W.Frag} (h : Sg K pF te f) {u : Option Addr} {H0 H : Hp} {σ : L2.St} {ρ : DEnv} {U U' : US} {d : PyData} (E : EOk K u H0 σ H ρ U) (hf : f ρ U = some (d, U')) {Q : List V → Hp → Prop}
    (q : ∀ v H', Ext u H H' → UrnAt u H' U' → Fz K H' v d → Q [v] H') : tCons te tNil σ H Q := h u H0 σ H ρ U d U' E hf _ fun v H' e un p => q v H' e un p
theorem range_get {n i : Nat} {y : Im} (h : ((List.range n).map fun i => Im.one (.int (i : Nat)))[i]? = some y) : i < n ∧ y = .one (.int (i : Nat)) := by
  obtain ⟨x, h1, rfl⟩ := get_map_one h
  obtain ⟨h2, h3⟩ := List.getElem?_eq_some_iff.mp h1
  rw [List.getElem_range] at h3
  subst h3
  rw [List.length_range] at h2
  exact ⟨h2, rfl⟩
theorem di_range {p pos : Pos} (hg : Gl X "range") (hm : X.mg "range" = none) (h : DF X e te f) (hs : starEach [e] X.env = [(false, eval e X.env)] := by rfl) : DI X tg (.Call (.Name "range" p) [e] [] pos) (iRng1 (tCons te tNil)) (fRng f) := ⟨pi_range1 hg hm (pa_cons h.pe pa_nil hs) hs, fun u H0 σ H ρ U xs U' E hf R q => by
  obtain ⟨d, U1, h1, hf⟩ := bnd_some hf
  refine sa_one h.sm E h1 fun v H1 e1 un1 p1 => ?_
  split at hf
  · split at hf
    · rename_i n c
      obtain ⟨rfl, rfl⟩ := rt_some hf
      cases p1
      refine ⟨n, rfl, by omega, by omega, q _ H1 e1 un1 ⟨fun i x H2 hx p => ?_, fun i x H2 v H3 hx p hy => ?_, fun H2 p => ?_⟩⟩
      · exact (range_get hx).1
      · obtain ⟨g1, rfl⟩ := range_get hx
        obtain ⟨rfl, rfl⟩ := hy
        refine ⟨fun _ _ z => z, ?_⟩
        show Fz X.K _ _ _
        rw [Int.zero_add]
        exact .int _
      · show _ ≤ _
        rw [List.length_map, List.length_range]; exact Nat.le_refl _
    · cases hf
  · cases hf⟩
end

/-! ### enumerate of a list, of a tuple -/
def IteT (K : PySem.W.Frag) (a : Addr) : It :=
  ⟨fun i H => ∃ (xs : List V) (x : V), SqT K H a xs ∧ xs[i]? = some x, fun i H v H' => ∃ T x, v = .ref T ∧ H T = none ∧ H' = upd H T (.tup [.int (i : Nat), x]) ∧ ∀ xs, SqT K H a xs → xs[i]? = some x, fun i H => ∃ xs : List V, SqT K H a xs ∧ xs.length ≤ i⟩
theorem meets_enumerate_newT (l : Addr) (items : Array Value) (n : Nat) (dct : Option Addr) (sl : Array (Option Value)) :
    Meets (Builtin.«enumerate.__new__» ⟨[.type "enumerate", .ref l], []⟩) (fun _ R s => s.heap.get? l = some { cls := .type "tuple", dict := dct, data := .seq items n, slots := sl } ∧
      R (.ok (.ret (.ref (s.heap.push { cls := .type "tuple_iterator", data := .fields #[.ref l, .int 0 0] }).objs.size)))
        { s with heap := (s.heap.push { cls := .type "tuple_iterator", data := .fields #[.ref l, .int 0 0] }).push { cls := .type "enumerate", data := .fields #[.none, .bool false, .ref s.heap.objs.size, rawInt 0, .none, .none] } }) :=
  .of_wp fun prog w A R s h => by
    obtain ⟨hp, g, d, tk, os⟩ := s; obtain ⟨hl, h⟩ := h
    have hsub := sub_enumerate
    have hL : Heap.IsTuple (Shared.heap ⟨hp, g, d, tk, os⟩) l items := ⟨_, hl, rfl, n, rfl⟩
    wp_walk using PySem.AutoSeq1.wpAny_loadPart' hl
    refine wpAny_stack_any fun st => wpAny_pure ?_
    split
    · rename_i c _ _ _ _ _
      cases (c == Value.type "enumerate")
      · wp_walk using PySem.AutoSeq1.wpAny_loadPart' hl, wpAny_pyIter_tuple hL
        exact ⟨_, rfl, h⟩
      · wp_walk using PySem.AutoSeq1.wpAny_loadPart' hl, wpAny_pyIter_tuple hL
        exact ⟨_, rfl, h⟩
    · wp_walk using PySem.AutoSeq1.wpAny_loadPart' hl, wpAny_pyIter_tuple hL
      exact ⟨_, rfl, h⟩
theorem call_enumerate_tuple {prog : Program} {w : World} {A : Around} {E : Value → Shared → Prop} {s : Shared} {l : Addr} {items : Array Value} {Q : Value → Shared → Prop} (hL : s.heap.IsTuple l items)
    (h : ∀ h', IsEnum h' (s.heap.objs.size + 1) s.heap.objs.size 0 .none → h'.IsTupleIter s.heap.objs.size l 0 → h'.objs.size = s.heap.objs.size + 2 →
      (∀ b o, s.heap.get? b = some o → h'.get? b = some o) → Q (.ref (s.heap.objs.size + 1)) { s with heap := h' }) :
    wpAny (model prog w) A (call (.type "enumerate") [.ref l]) Q E s := by
  obtain ⟨⟨c, dct, dt, sl⟩, hl, hc, n, hd⟩ := hL
  replace hc : c = .type "tuple" := hc
  replace hd : dt = .seq items n := hd
  subst hc hd
  refine callType_new PySem.F.called_enumerate (by decide) (PySem.F.typeCall_enumerate_1 _) (PySem.F.newCall_enumerate_1 _) (fun obj => PySem.F.args_object_init_2 obj _) PySem.F.entry_enumerate_new
    (meets_enumerate_newT l items n dct sl) ⟨hl, ?_⟩
  have hz : (s.heap.push { cls := .type "tuple_iterator", data := .fields #[.ref l, .int 0 0] }).objs.size = s.heap.objs.size + 1 := Heap.size_push ..
  show _ ∧ _
  rw [hz]
  have he : IsEnum ((s.heap.push { cls := .type "tuple_iterator", data := .fields #[.ref l, .int 0 0] }).push
      { cls := .type "enumerate", data := .fields #[.none, .bool false, .ref s.heap.objs.size, rawInt 0, .none, .none] }) (s.heap.objs.size + 1) s.heap.objs.size 0 .none := by
    have := Heap.get?_push_size (s.heap.push { cls := .type "tuple_iterator", data := .fields #[.ref l, .int 0 0] })
      (o := { cls := .type "enumerate", data := .fields #[.none, .bool false, .ref s.heap.objs.size, rawInt 0, .none, .none] }) rfl
    rw [hz] at this; exact this
  refine ⟨⟨_, he, rfl⟩, h _ he ⟨_, Heap.get?_push_of_some _ (Heap.get?_push_size _ rfl), rfl, rfl⟩ (by rw [Heap.size_push, hz]) fun b o x => Heap.get?_push_of_some _ (Heap.get?_push_of_some _ x)⟩
theorem turn_enumT {P : Program} {w : World} {K : PySem.W.Frag} {elts : List Expr} {kk : Nat} {tpos : Pos} (a e it : Addr) :
    Turn P w K (.Tuple elts kk tpos) (IteT K a) [e, it] e (fun i h => (∃ old, IsEnum h e it ((i : Nat) : Int) old) ∧ h.IsTupleIter it a i ∧ e ≠ it) where
  mem := by simp
  obj := fun i h st b hb => by
    obtain ⟨⟨old, he⟩, ⟨o, ho, hc, hd⟩, _⟩ := st
    have e' : b = e ∨ b = it := by simpa using hb
    rcases e' with z | z
    · rw [z]; exact ⟨_, he, fun v q => nomatch q⟩
    · rw [z]; exact ⟨o, ho, fun v q => by rw [hd] at q; cases q⟩
  keep := fun i h h' st k => let ⟨⟨old, he⟩, hi, hne⟩ := st; ⟨⟨old, k e (by simp) _ he⟩, hi.at fun o q => k it (by simp) o q, hne⟩
  item := by
    intro X hP hw hK hc i pins s σ H E I hf st hg
    subst hP hw hK
    obtain ⟨⟨old, he⟩, hit, hne⟩ := st
    obtain ⟨xs, x, hq, hx⟩ := hg
    obtain ⟨its, rv, p, hz⟩ := I.tuple hq
    obtain ⟨u, hu, ru⟩ := rv.get hx
    have hel : e < s.heap.objs.size := Heap.lt_size he
    have hil : it < s.heap.objs.size := by obtain ⟨_, q, _⟩ := hit; exact Heap.lt_size q
    have hpt : s.heap.IsTuple a its.toArray := p
    have hat : a ≠ it := fun z => by
      obtain ⟨o1, g1, g2, _⟩ := hit
      obtain ⟨o2, g3, g4, _⟩ := hpt
      rw [z, g1] at g3
      cases g3
      rw [g2] at g4
      injection g4 with g5
      exact absurd g5 (by decide)
    have hae : e ≠ a := fun z => by
      obtain ⟨o2, g3, g4, _⟩ := hpt
      have g5 : s.heap.get? e = some _ := he
      rw [z, g3] at g5
      cases g5
      injection g4 with g6
      exact absurd g6 (by decide)
    have hu' : i < its.toArray.size := by
      obtain ⟨k, _⟩ := List.getElem?_eq_some_iff.mp hu
      simpa using k
    refine wpAny_pyNext_enum_itemD (Draws.tuple (A := X.A.in1) (I.ok.hd hc) it a hat its.toArray) he ⟨hit, hpt⟩ hu' hne (by simp [hne, hae]) fun x' h' tk hP' ho hst' hT hsz hk => ?_
    have ex : x' = u := by
      rw [List.getElem?_toArray, hu] at hP'
      exact (Option.some.inj hP').symm
    subst ex
    obtain ⟨hit', _⟩ := hst'
    refine ⟨_, rfl, wpAny_letOwnedTupleGo_enum (s := { s with heap := h', toks := tk + 1 }) ho fun h'' he' sb => ?_⟩
    have hT2 : h''.get? s.heap.objs.size = some { cls := .type "tuple", data := .seq #[.int i tk, x'] } := (sb.2 _ (Nat.ne_of_gt hel)).trans hT
    have new : ObjOk X.prog X.w (upd H s.heap.objs.size (.tup [.int (i : Nat), x])) h'' s.heap.objs.size (.tup [.int (i : Nat), x]) :=
      ⟨by show 2 ≤ sizeLine; decide, [.int i tk, x'], .cons ⟨_, rfl⟩ (.cons ru .nil), ⟨_, hT2, rfl, _, rfl⟩⟩
    have I1 : Inv X pins σ (upd H s.heap.objs.size (.tup [.int (i : Nat), x])) { s with heap := h'', toks := tk + 1 } :=
      I.turnedNew (ch := [e, it]) (fun b ob hb q => (sb.2 b (fun z => hb (by simp [z]))).trans (hk b ob (fun z => hb (by simp [z])) (fun z => hb (by simp [z])) q)) hf (Nat.le_refl _) new
    refine ⟨.ref s.heap.objs.size, _, I1, rfl, ⟨_, x, rfl, I.hok.fresh (Nat.le_refl _), rfl, fun ys hy => by rw [I.tuple_inj hy hq]; exact hx⟩, ⟨⟨x', ?_⟩, hit'.at fun o q => (sb.2 it (Ne.symm hne)).trans q, hne⟩, fun b hb => ?_⟩
    · have e1 : ((i + 1 : Nat) : Int) = (i : Int) + 1 := by omega
      rw [e1]; exact he'
    · have hb' : b < s.heap.objs.size := by
        have e' : b = e ∨ b = it := by simpa using hb
        rcases e' with z | z
        · rw [z]; exact hel
        · rw [z]; exact hil
      rw [upd_ne (Nat.ne_of_lt hb')]
      exact (hf b hb).1
  done := by
    intro X hP hw hK hc i pins s σ H E I hf st hg
    subst hP hw hK
    obtain ⟨⟨old, he⟩, hit, hne⟩ := st
    obtain ⟨xs, hq, hx⟩ := hg
    obtain ⟨its, rv, p, hz⟩ := I.tuple hq
    obtain ⟨f0, f1, f2, f3, f4, f5⟩ := hf it (by simp)
    have hl := rv.length
    have hpt : s.heap.IsTuple a its.toArray := p
    have hat : a ≠ it := fun z => by
      obtain ⟨o1, g1, g2, _⟩ := hit
      obtain ⟨o2, g3, g4, _⟩ := hpt
      rw [z, g1] at g3
      cases g3
      rw [g2] at g4
      injection g4 with g5
      exact absurd g5 (by decide)
    have hie : its.toArray[i]? = none := by simp; omega
    have hT : s.TypeIs (.ref e) "enumerate" := ⟨_, he, rfl⟩
    unfold pyNext
    refine wpAny_bind (wpAny_attempt (wpAny_callSpecial?_slot (name := Str.ofString "__next__") hT PySem.F.slot_enumerate_next
      (wpAny_call_entry PySem.F.slot_enumerate_next hT PySem.F.entry_enumerate_next ?_ (PySem.F.args_enumerate_next_1 _))))
    show wpAny _ _ (field (.ref e) 2 >>= _) _ _ _
    refine wpAny_bind (wpAny_field he rfl (x := .ref it) rfl ?_)
    refine wpAny_bind (wpAny_nextOf_tuple_end (I.ok.hd hc) hit hpt hie fun h' x he' hx' => ?_)
    obtain ⟨o, ho, hc'⟩ := hx'
    refine wpAny_bind (wpAny_isInstance (T := "StopIteration") (b := true) ⟨o, ho, hc'⟩ isSubtype_stop ?_)
    exact wpAny_pure ⟨rfl, I.turned (t' := s.toks) (fun b o hb q => he' b o hb q) f0 f1 f3 f4 f5⟩
  self := fun A i s Q E st h => let ⟨⟨_, he⟩, _⟩ := st; wpAny_pyIter_enum he h
def iEnumA (K : PySem.W.Frag) (ta : TA) : TI := fun σ H R => ta σ H fun vs H1 => ∃ a, vs = [.ref a] ∧ (((∃ xs, SqL K H1 a xs) ∧ R (Ite K a) H1) ∨ ((∃ xs, SqT K H1 a xs) ∧ R (IteT K a) H1))
theorem pi_enumA {X : Cx} {e : Expr} {ta : TA} {p pos tpos : Pos} {elts : List Expr} {kk : Nat} (hg : Gl X "enumerate") (hm : X.mg "enumerate" = none) (ha : PA X [e] ta) (hs : starEach [e] X.env = [(false, eval e X.env)] := by rfl) :
    PI X (.Tuple elts kk tpos) (.Call (.Name "enumerate" p) [e] [] pos) (iEnumA X.K ta) := by
  refine ⟨fun pins s σ H R I h => ?_⟩
  refine Call_ (ld_blt I hg hm boot_enumerate (PyProof.Rows.callWith_type1 (thn (ha.run pos pins s σ H _ I h) fun us s1 ⟨vs, H1, I1, r1, q1⟩ => ?_) hs rfl))
  obtain ⟨a, ex, q1⟩ := q1
  subst ex
  cases r1 with
  | cons r rr =>
    cases rr
    cases r
    have fp : ∀ b ∈ [s1.heap.objs.size + 1, s1.heap.objs.size], FpOk X pins H1 b := fun b hb => by
      have e' : b = s1.heap.objs.size + 1 ∨ b = s1.heap.objs.size := by simpa using hb
      have hle : s1.heap.objs.size ≤ b := by
        rcases e' with z | z
        · rw [z]; exact Nat.le_add_right _ _
        · rw [z]; exact Nat.le_refl _
      exact I1.fpOk hle (I1.hok.fresh hle)
    rcases q1 with ⟨⟨xs, hq⟩, q⟩ | ⟨⟨xs, hq⟩, q⟩
    · obtain ⟨its, rv, p', hz⟩ := I1.list hq
      refine call_enumerate_list p'.isList fun h' he hit hsz hk => wpAny_pyIter_enum he ?_
      have I2 : Inv X pins σ H1 { s1 with heap := h' } := I1.kept (t' := s1.toks) hk
      exact ⟨s1.heap.objs.size + 1, [s1.heap.objs.size + 1, s1.heap.objs.size], _, _, H1, rfl, I2, turn_enum a (s1.heap.objs.size + 1) s1.heap.objs.size, ⟨⟨.none, he⟩, hit, Nat.succ_ne_self _⟩, fp, q⟩
    · obtain ⟨its, rv, p', hz⟩ := I1.tuple hq
      refine call_enumerate_tuple (show s1.heap.IsTuple a its.toArray from p') fun h' he hit hsz hk => wpAny_pyIter_enum he ?_
      have I2 : Inv X pins σ H1 { s1 with heap := h' } := I1.kept (t' := s1.toks) hk
      exact ⟨s1.heap.objs.size + 1, [s1.heap.objs.size + 1, s1.heap.objs.size], _, _, H1, rfl, I2, turn_enumT a (s1.heap.objs.size + 1) s1.heap.objs.size, ⟨⟨.none, he⟩, hit, Nat.succ_ne_self _⟩, fp, q⟩
def enumIm : Nat → List PyData → List Im
  | _, [] => []
  | i, x :: xs => .many [.int (i : Nat), x] :: enumIm (i + 1) xs
theorem enumIm_len : ∀ (i : Nat) (xs : List PyData), (enumIm i xs).length = xs.length
  | _, [] => rfl
  | i, x :: xs => by simp [enumIm, enumIm_len (i + 1) xs]
theorem enumIm_get : ∀ (k : Nat) (xs : List PyData) (i : Nat) (y : Im), (enumIm k xs)[i]? = some y → ∃ x, xs[i]? = some x ∧ y = .many [.int ((k + i : Nat) : Int), x]
  | _, [], _, _, h => by simp [enumIm] at h
  | k, x :: xs, 0, y, h => by
    simp [enumIm] at h
    exact ⟨x, rfl, h.symm⟩
  | k, x :: xs, i + 1, y, h => by
    obtain ⟨z, h1, h2⟩ := enumIm_get (k + 1) xs i y (by simpa [enumIm] using h)
    exact ⟨z, by simpa using h1, by rw [h2]; congr 3; omega⟩
def fEnum (f : DEnv → M PyData) : DEnv → M (List Im) := fun ρ => bnd (f ρ) fun d => bnd (lf (seqOf d)) fun xs => rt (enumIm 0 xs)
theorem new_ext {H : Hp} {T : Addr} {o : HO} (h : H T = none) : ∀ b w, H b = some w → upd H T o b = some w := fun b w e => by rw [upd_ne (ne_of_none e h)]; exact e
theorem di_enum {X : Cx} {e : Expr} {te : TE} {f : DEnv → M PyData} {p pos tpos : Pos} {elts : List Expr} {kk : Nat} (hg : Gl X "enumerate") (hm : X.mg "enumerate" = none) (h : DF X e te f) (hs : starEach [e] X.env = [(false, eval e X.env)] := by rfl) :
    DI X (.Tuple elts kk tpos) (.Call (.Name "enumerate" p) [e] [] pos) (iEnumA X.K (tCons te tNil)) (fEnum f) := ⟨pi_enumA hg hm (pa_cons h.pe pa_nil hs) hs, fun u H0 σ H ρ U xs U' E hf R q => by
  obtain ⟨d, U1, h1, hf⟩ := bnd_some hf
  obtain ⟨ds, U2, h2, hf⟩ := bnd_some hf
  obtain ⟨rfl, rfl⟩ := rt_some hf
  obtain ⟨h2', rfl⟩ := lf_some h2
  refine sa_one h.sm E h1 fun v H1 e1 un1 p1 => ?_
  cases d with
  | list ys =>
    cases h2'
    cases p1 with
    | lst hs fa =>
      refine ⟨_, rfl, .inl ⟨⟨_, hs.l⟩, q _ H1 e1 un1 ⟨fun i x H2 hx p => ?_, fun i x H2 v H3 hx p hy => ?_, fun H2 p => ?_⟩⟩⟩
      · obtain ⟨y, g1, rfl⟩ := enumIm_get 0 _ i x hx
        obtain ⟨w, g2, _⟩ := fa.get g1
        exact ⟨_, w, (hs.mono p).l, g2⟩
      · obtain ⟨y, g1, rfl⟩ := enumIm_get 0 _ i x hx
        obtain ⟨T, w, rfl, g2, rfl, g3⟩ := hy
        refine ⟨new_ext g2, T, _, rfl, SqT.of upd_same, ?_⟩
        rw [Nat.zero_add]
        exact .cons (.int _) (.cons (Fz.mono (Pers.of (new_ext g2)) _ _ ((fa.mono p).get2 g1 (g3 _ (hs.mono p).l))) .nil)
      · exact ⟨_, (hs.mono p).l, by rw [fa.len, enumIm_len]; exact Nat.le_refl _⟩
  | tuple ys =>
    cases h2'
    cases p1 with
    | tup hs fa =>
      refine ⟨_, rfl, .inr ⟨⟨_, hs.t⟩, q _ H1 e1 un1 ⟨fun i x H2 hx p => ?_, fun i x H2 v H3 hx p hy => ?_, fun H2 p => ?_⟩⟩⟩
      · obtain ⟨y, g1, rfl⟩ := enumIm_get 0 _ i x hx
        obtain ⟨w, g2, _⟩ := fa.get g1
        exact ⟨_, w, (hs.mono p).t, g2⟩
      · obtain ⟨y, g1, rfl⟩ := enumIm_get 0 _ i x hx
        obtain ⟨T, w, rfl, g2, rfl, g3⟩ := hy
        refine ⟨new_ext g2, T, _, rfl, SqT.of upd_same, ?_⟩
        rw [Nat.zero_add]
        exact .cons (.int _) (.cons (Fz.mono (Pers.of (new_ext g2)) _ _ ((fa.mono p).get2 g1 (g3 _ (hs.mono p).t))) .nil)
      · exact ⟨_, (hs.mono p).t, by rw [fa.len, enumIm_len]; exact Nat.le_refl _⟩
  | _ => cases h2'⟩

/-! ### zip of two lists, of two tuples -/
def zipIm : List PyData → List PyData → List Im
  | x :: xs, y :: ys => .many [x, y] :: zipIm xs ys
  | _, _ => []
theorem zipIm_len : ∀ (xs ys : List PyData), (zipIm xs ys).length = min xs.length ys.length
  | [], _ => by simp [zipIm]
  | _ :: _, [] => by simp [zipIm]
  | x :: xs, y :: ys => by simp [zipIm, zipIm_len xs ys]
theorem zipIm_get : ∀ (xs ys : List PyData) (i : Nat) (z : Im), (zipIm xs ys)[i]? = some z → ∃ x y, xs[i]? = some x ∧ ys[i]? = some y ∧ z = .many [x, y]
  | [], _, _, _, h => by simp [zipIm] at h
  | _ :: _, [], _, _, h => by simp [zipIm] at h
  | x :: xs, y :: ys, 0, z, h => by
    simp [zipIm] at h
    exact ⟨x, y, rfl, rfl, h.symm⟩
  | x :: xs, y :: ys, i + 1, z, h => by
    obtain ⟨a, b, h1, h2, h3⟩ := zipIm_get xs ys i z (by simpa [zipIm] using h)
    exact ⟨a, b, by simpa using h1, by simpa using h2, h3⟩
def fZip (f g : DEnv → M PyData) : DEnv → M (List Im) := fun ρ => bnd (f ρ) fun d => bnd (g ρ) fun e => match d, e with
  | .list xs, .list ys => rt (zipIm xs ys)
  | .tuple xs, .tuple ys => rt (zipIm xs ys)
  | _, _ => fun _ => none
theorem di_zip {X : Cx} {e e2 : Expr} {te te2 : TE} {f g : DEnv → M PyData} {p pos tpos : Pos} {elts : List Expr} {kk : Nat} (hg : Gl X "zip") (hm : X.mg "zip" = none) (h : DF X e te f) (h2 : DF X e2 te2 g)
    (hs : starEach [e, e2] X.env = (false, eval e X.env) :: starEach [e2] X.env := by rfl) (hs2 : starEach [e2] X.env = (false, eval e2 X.env) :: starEach [] X.env := by rfl) (hpl : (backTo pos (starEach [e2] X.env)).any (·.1) = false := by rfl) :
    DI X (.Tuple elts kk tpos) (.Call (.Name "zip" p) [e, e2] [] pos) (RZ.iZipA X.K (tCons te (tCons te2 tNil))) (fZip f g) := ⟨RZ.pi_zipA hg hm (pa_cons h.pe (pa_cons h2.pe pa_nil hs2) hs) hs hpl, fun u H0 σ H ρ U xs U' E hf R q => by
  obtain ⟨d, U1, h1, hf⟩ := bnd_some hf
  obtain ⟨c, U2, h3, hf⟩ := bnd_some hf
  refine h.sm u H0 σ H ρ U d U1 E h1 _ fun v H1 e1 un1 p1 => ?_
  refine h2.sm u H0 σ H1 ρ U1 c U2 (E.exts e1 un1) h3 _ fun v2 H2 e2 un2 p2 => ?_
  have p1' := Fz.mono (e2.pers un1) _ _ p1
  split at hf
  · obtain ⟨rfl, rfl⟩ := rt_some hf
    cases p1' with
    | lst hs fa =>
      cases p2 with
      | lst hs2 fa2 =>
        refine ⟨_, _, _, _, rfl, .inl ⟨hs.l, hs2.l, q _ H2 (e1.trans e2) un2 ⟨fun i x H3 hx p => ?_, fun i x H3 v H4 hx p hy => ?_, fun H3 p => ?_⟩⟩⟩
        · obtain ⟨y, z, g1, g2, rfl⟩ := zipIm_get _ _ i x hx
          obtain ⟨w, k1, _⟩ := fa.get g1
          obtain ⟨w2, k2, _⟩ := fa2.get g2
          exact ⟨_, _, w, w2, (hs.mono p).l, (hs2.mono p).l, k1, k2⟩
        · obtain ⟨y, z, g1, g2, rfl⟩ := zipIm_get _ _ i x hx
          obtain ⟨T, w, w2, rfl, k1, rfl, k2, k3⟩ := hy
          refine ⟨new_ext k1, T, _, rfl, SqT.of upd_same, ?_⟩
          exact .cons (Fz.mono (Pers.of (new_ext k1)) _ _ ((fa.mono p).get2 g1 (k2 _ (hs.mono p).l))) (.cons (Fz.mono (Pers.of (new_ext k1)) _ _ ((fa2.mono p).get2 g2 (k3 _ (hs2.mono p).l))) .nil)
        · exact ⟨_, _, (hs.mono p).l, (hs2.mono p).l, by rw [fa.len, fa2.len, zipIm_len]; omega⟩
  · obtain ⟨rfl, rfl⟩ := rt_some hf
    cases p1' with
    | tup hs fa =>
      cases p2 with
      | tup hs2 fa2 =>
        refine ⟨_, _, _, _, rfl, .inr ⟨hs.t, hs2.t, q _ H2 (e1.trans e2) un2 ⟨fun i x H3 hx p => ?_, fun i x H3 v H4 hx p hy => ?_, fun H3 p => ?_⟩⟩⟩
        · obtain ⟨y, z, g1, g2, rfl⟩ := zipIm_get _ _ i x hx
          obtain ⟨w, k1, _⟩ := fa.get g1
          obtain ⟨w2, k2, _⟩ := fa2.get g2
          exact ⟨_, _, w, w2, (hs.mono p).t, (hs2.mono p).t, k1, k2⟩
        · obtain ⟨y, z, g1, g2, rfl⟩ := zipIm_get _ _ i x hx
          obtain ⟨T, w, w2, rfl, k1, rfl, k2, k3⟩ := hy
          refine ⟨new_ext k1, T, _, rfl, SqT.of upd_same, ?_⟩
          exact .cons (Fz.mono (Pers.of (new_ext k1)) _ _ ((fa.mono p).get2 g1 (k2 _ (hs.mono p).t))) (.cons (Fz.mono (Pers.of (new_ext k1)) _ _ ((fa2.mono p).get2 g2 (k3 _ (hs2.mono p).t))) .nil)
        · exact ⟨_, _, (hs.mono p).t, (hs2.mono p).t, by rw [fa.len, fa2.len, zipIm_len]; omega⟩
  · cases hf⟩

/-! ### comprehensions -/
def lcGo (asg : Im → DEnv → Option DEnv) (t : DEnv → M Bool) (g : DEnv → M PyData) (ρ : DEnv) : List Im → M (List PyData)
  | [] => rt []
  | x :: xs => bnd (lf (asg x ρ)) fun ρ1 => bnd (t ρ1) fun b => if b = true then bnd (g ρ1) fun y => bnd (lcGo asg t g ρ xs) fun ys => rt (y :: ys) else lcGo asg t g ρ xs
def eLc (f : DEnv → M (List Im)) (own : List Nat) (asg : Im → DEnv → Option DEnv) (t : DEnv → M Bool) (g : DEnv → M PyData) : DEnv → M PyData := fun ρ => bnd (f ρ) fun xs =>
  if xs.length ≤ lim then bnd (lcGo asg t g (wipeD ρ own) xs) fun ys => rt (.list ys) else fun _ => none
structure DTs (X : Cx) (ifs : List Expr) (tt : TT) (f : DEnv → M Bool) : Prop where
  pt : PTs X ifs tt
  sm : St X.K tt f
theorem dts_nil {X : Cx} : DTs X [] tYes yes := ⟨pts_nil, fun u H0 σ H ρ U b U' E hf Q q => by
  obtain ⟨rfl, rfl⟩ := rt_some hf
  exact q H (Ext.refl _ _) E.urn⟩
theorem dts_one {X : Cx} {c : Expr} {tt : TT} {f : DEnv → M Bool} (h : DT X c tt f) : DTs X [c] tt f := ⟨pts_one h.pt, h.sm⟩
theorem sg_lc {K : PySem.W.Frag} {wi : TI} {f : DEnv → M (List Im)} {gt : TG} {asg : Im → DEnv → Option DEnv} {is : List Nat} {tt : TT} {t : DEnv → M Bool} {te : TE} {g : DEnv → M PyData} {vs : List Nat}
    (hi : Si K wi f) (ha : Sgt K gt asg is) (his : ∀ i ∈ is, i ∈ vs) (ht : St K tt t) (hg : Sg K pF te g) : Sg K pN (tLc wi gt tt te vs) (eLc f vs asg t g) := fun u H0 σ H ρ U d U' E hf Q q => by
  obtain ⟨xs, U1, h1, hf⟩ := bnd_some hf
  split at hf
  rotate_left
  · cases hf
  rename_i hlim
  obtain ⟨ys, U2, h2, hf⟩ := bnd_some hf
  obtain ⟨rfl, rfl⟩ := rt_some hf
  refine hi u H0 σ H ρ U xs U1 E h1 _ fun J H1 e1 un1 yl => ?_
  intro D hD
  have hDu := un1.ne hD
  have hDH := e1.free un1 hD
  have E1 := E.exts e1 un1
  -- the loop
  refine ⟨fun i m H2 => m = xs.length - i ∧ i ≤ xs.length ∧ ∃ acc vacc Ui zs, Pers H1 H2 ∧ Ext u H1 H2 ∧ UrnAt u H2 Ui ∧ H2 D = some (.lst vacc) ∧ FzA K H2 vacc acc ∧ acc.length ≤ i ∧ lcGo asg t g (wipeD ρ vs) (xs.drop i) Ui = some (zs, U') ∧ ys = acc ++ zs, ⟨xs.length, rfl, Nat.zero_le _, [], [], U1, ys, Pers.of (new_ext hD), Ext.new hD, un1.new hD, upd_same, .nil, Nat.le_refl _, h2, rfl⟩, ?_⟩
  rintro i m H2 ⟨rfl, hi2, acc, vacc, Ui, zs, pe, ex, un2, hD2, fa, hacc, hgo, hys⟩
  by_cases hlt : i < xs.length
  · -- a turn
    obtain ⟨x, hx⟩ : ∃ x, xs[i]? = some x := ⟨xs[i], List.getElem?_eq_getElem hlt⟩
    have hdrop : xs.drop i = x :: xs.drop (i + 1) := by
      obtain ⟨k1, k2⟩ := List.getElem?_eq_some_iff.mp hx
      rw [← k2]; exact List.drop_eq_getElem_cons hlt
    rw [hdrop] at hgo
    refine .inr ⟨yl.go i x H2 hx pe, fun H3 => (i + 1) ≤ xs.length ∧ ∃ acc vacc Ui zs2, Pers H1 H3 ∧ Ext u H1 H3 ∧ UrnAt u H3 Ui ∧ H3 D = some (.lst vacc) ∧ FzA K H3 vacc acc ∧ acc.length ≤ i + 1 ∧ lcGo asg t g (wipeD ρ vs) (xs.drop (i + 1)) Ui = some (zs2, U') ∧ ys = acc ++ zs2, fun H3 h3 => ?_, fun v H3 hy => ?_⟩
    · obtain ⟨h4, acc', vacc', Ui', zs2, r1, r2, r3, r4, r5, r6, r7, r8⟩ := h3
      exact ⟨xs.length - (i + 1), by omega, rfl, h4, acc', vacc', Ui', zs2, r1, r2, r3, r4, r5, r6, r7, r8⟩
    · obtain ⟨x3, io⟩ := yl.yld i x H2 v H3 hx pe hy
      obtain ⟨ρ1, V1, g1, hgo1⟩ := bnd_some hgo
      obtain ⟨g1', rfl⟩ := lf_some g1
      have ex3 : Ext u H2 H3 := fun b o z _ => x3 b o z
      have un3 := un2.ext x3
      have E3 : EOk K u H0 (L2.wipe σ vs) H3 (wipeD ρ vs) V1 := ((E1.exts (ex.trans ex3) un3)).wipe vs
      refine ha u H0 _ H3 _ V1 v x ρ1 E3 io g1' _ fun σ4 E4 hw => ?_
      refine ⟨(hw vs his).trans ?_, ?_⟩
      · -- wipe of wipe
        have ww : ∀ (l m : List Nat), (∀ k ∈ l, k ∈ m) → L2.wipe (L2.wipe σ l) m = L2.wipe σ m := fun l => by
          induction l with
          | nil => intro m _; rfl
          | cons k l ih =>
            intro m hm
            show L2.wipe ((L2.wipe σ l).set k none) m = _
            rw [wipe_set (hm k List.mem_cons_self)]
            exact ih m fun z hz => hm z (List.mem_cons_of_mem _ hz)
        exact ww vs vs fun _ h => h
      · obtain ⟨b, V2, g2, hgo2⟩ := bnd_some hgo1
        refine ht u H0 σ4 H3 ρ1 V1 b V2 E4 g2 _ fun H5 e5 un5 => ?_
        have hDn : u ≠ some D := hDu
        cases b with
        | true =>
          simp only [if_true] at hgo2 ⊢
          obtain ⟨y, V3, g3, hgo3⟩ := bnd_some hgo2
          obtain ⟨zs2, V4, g4, hgo4⟩ := bnd_some hgo3
          obtain ⟨rfl, rfl⟩ := rt_some hgo4
          refine hg u H0 σ4 H5 ρ1 V2 y V3 (E4.exts e5 un5) g3 _ fun v6 H6 e6 un6 p6 => ?_
          have exD : Ext u H2 H6 := (ex3.trans e5).trans e6
          have hD6 : H6 D = some (.lst vacc) := exD D _ hD2 hDn
          have fa6 := fa.mono (exD.pers un2)
          have pnew : Pers H6 (upd H6 D (.lst (vacc ++ [v6]))) := ⟨fun b xs z => by rw [upd_ne (ne_of z hD6 (by intro c; cases c))]; exact z, fun b o w z => by rw [upd_ne (ne_of z hD6 (by intro c; cases c))]; exact z⟩
          refine ⟨vacc, hD6, ?_, by omega, acc ++ [y], vacc ++ [v6], V3, zs2, (pe.trans (exD.pers un2)).trans pnew, fun b o z n => ?_, fun b z => ?_, upd_same, (fa6.app (.cons p6 .nil)).mono pnew, by simp; omega, g4, by rw [hys]; simp⟩
          · exact Nat.lt_of_le_of_lt (by rw [fa.len]; exact hacc) (Nat.lt_of_lt_of_le hlt (lim_le hlim))
          · have nb : b ≠ D := fun c => by rw [c, hD] at z; cases z
            rw [upd_ne nb]; exact exD b o (ex b o z n) n
          · have nb : b ≠ D := fun c => hDn (by rw [← c]; exact z)
            rw [upd_ne nb]; exact un6 b z
        | false =>
          simp only [Bool.false_eq_true, if_false] at hgo2 ⊢
          have exD : Ext u H2 H5 := ex3.trans e5
          exact ⟨by omega, acc, vacc, V2, zs, pe.trans (exD.pers un2), ex.trans exD, un5, exD D _ hD2 hDn, fa.mono (exD.pers un2), by omega, hgo2, hys⟩
  · -- the end
    have hi3 : i = xs.length := by omega
    have hnil : xs.drop i = [] := by rw [hi3]; exact List.drop_length
    rw [hnil] at hgo
    obtain ⟨rfl, rfl⟩ := rt_some hgo
    refine .inl ⟨by rw [hi3]; exact yl.stop H2 pe, ?_⟩
    refine q _ _ (fun b o z n => ex b o (e1 b o z n) n) un2 ⟨D, vacc, _, rfl, rfl, hDH, hDu, hD2, by rw [hys, List.append_nil]; exact fa⟩
section
variable {X : Cx} {elt tg iter : Expr} {ifs : List Expr} {scope : Scope} {own : List (Str × Nat)} {pos : Pos} {wi : TI} {gt : TG} {tt : TT} {te : TE} {f : DEnv → M (List Im)} {asg : Im → DEnv → Option DEnv} {is : List Nat} {t : DEnv → M Bool} {g : DEnv → M PyData}
theorem dn_lc (hc : X.calm = true) (hN : X.N.Nodup) (hi : DI X tg iter wi f) (ok : BlkOk X.N X.env.scope scope own) (his : ∀ i ∈ is, i ∈ own.map (·.2))
    (hg : ∀ (s : Shared) (H : Hp) (C : Addr) (cl : List (Str × Addr)) (fp : List Addr), DGt (X.blk s H scope (compEnvC scope cl C X.env) fp) tg gt asg is) (ht : ∀ (s : Shared) (H : Hp) (C : Addr) (cl : List (Str × Addr)) (fp : List Addr), DTs (X.blk s H scope (compEnvC scope cl C X.env) fp) ifs tt t)
    (he : ∀ (s : Shared) (H : Hp) (C : Addr) (cl : List (Str × Addr)) (fp : List Addr), DF (X.blk s H scope (compEnvC scope cl C X.env) fp) elt te g) (hs : ∀ x, foldedSetIterable iter X.env x = pure x := by intro _; rfl) :
    DN X (.ListComp elt [⟨tg, iter, ifs, 0⟩] scope pos) (tLc wi gt tt te (own.map (·.2))) (eLc f (own.map (·.2)) asg t g) :=
  ⟨pe_lc hc hN hi.pi ok (fun s H C cl fp => (hg s H C cl fp).pg) (fun s H C cl fp => (ht s H C cl fp).pt) (fun s H C cl fp => (he s H C cl fp).pe) hs,
    sg_lc hi.sm (hg X.s_0 X.H_0 0 [] []).sm his (ht X.s_0 X.H_0 0 [] []).sm (he X.s_0 X.H_0 0 [] []).sm⟩
end
end DL

set_option Elab.async false
set_option linter.all false
set_option maxRecDepth 100000
set_option maxHeartbeats 4000000
/-! DL5: statements, defs, calls, methods. -/
namespace DL
open PySem PySem.Spec PyProof.Rows L2

inductive Out where
  | nx (ρ : DEnv)
  | rt (d : PyData)
def Ss (K : PySem.W.Frag) (ts : TS) (S : DEnv → M Out) : Prop :=
  ∀ (u : Option Addr) (H0 : Hp) (σ : L2.St) (H : Hp) (ρ : DEnv) (U : US) (out : Out) (U' : US), EOk K u H0 σ H ρ U → S ρ U = some (out, U') →
    ∀ D : Ends, (∀ ρ' σ' H', out = .nx ρ' → EOk K u H0 σ' H' ρ' U' → Pers H H' → D.nx σ' H') → (∀ d v H', out = .rt d → Ext u H0 H' → UrnAt u H' U' → Fz K H' v d → D.rt v H') → ts D σ H
structure DS (X : Cx) (st : Stmt) (ts : TS) (S : DEnv → M Out) : Prop where
  ps : PS X st ts
  sm : Ss X.K ts S
structure DSs (X : Cx) (st : List Stmt) (ts : TS) (S : DEnv → M Out) : Prop where
  ps : PSs X st ts
  sm : Ss X.K ts S
def sNil : DEnv → M Out := fun ρ => rt (.nx ρ)
def sSeq (s t : DEnv → M Out) : DEnv → M Out := fun ρ => bnd (s ρ) fun o => match o with
  | .nx ρ' => t ρ'
  | .rt d => rt (.rt d)
def sSet (i : Nat) (f : DEnv → M PyData) : DEnv → M Out := fun ρ => bnd (f ρ) fun d => rt (.nx (ρ.set i (some (.d d))))
/-- a new list of one's own -/
def sNew (i : Nat) (f : DEnv → M PyData) : DEnv → M Out := fun ρ => bnd (f ρ) fun d => match d with
  | .list xs => rt (.nx (ρ.set i (some (.m xs))))
  | _ => fun _ => none
def sUnp (asg : Im → DEnv → Option DEnv) (f : DEnv → M PyData) : DEnv → M Out := fun ρ => bnd (f ρ) fun d => bnd (lf (asg (.one d) ρ)) fun ρ' => rt (.nx ρ')
def sRet (f : DEnv → M PyData) : DEnv → M Out := fun ρ => bnd (f ρ) fun d => rt (.rt d)
def sIf (t : DEnv → M Bool) (a b : DEnv → M Out) : DEnv → M Out := fun ρ => bnd (t ρ) fun c => if c = true then a ρ else b ρ
/-- a list of one's own becomes immutable -/
def sFrz (i : Nat) (s : DEnv → M Out) : DEnv → M Out := fun ρ U => match ρ[i]? with
  | some (some (.m xs)) => s (ρ.set i (some (.d (.list xs)))) U
  | _ => none
def sApp (i : Nat) (f : DEnv → M PyData) : DEnv → M Out := fun ρ => bnd (f ρ) fun d U => match ρ[i]? with
  | some (some (.m xs)) => if xs.length < lim then some (.nx (ρ.set i (some (.m (xs ++ [d])))), U) else none
  | _ => none
def sExt (i : Nat) (f : DEnv → M PyData) : DEnv → M Out := fun ρ => bnd (f ρ) fun d U => match ρ[i]?, d with
  | some (some (.m xs)), .list ys => if xs.length + ys.length ≤ lim then some (.nx (ρ.set i (some (.m (xs ++ ys)))), U) else none
  | _, _ => none
/-- xs.append(ys.pop(k)) -/
def sAppPop (i j : Nat) (f : DEnv → M PyData) : DEnv → M Out := fun ρ => bnd (f ρ) fun d U => match ρ[i]?, ρ[j]?, d with
  | some (some (.m xs)), some (some (.m ys)), .int k => if xs.length < lim ∧ i ≠ j ∧ 0 ≤ k ∧ k < ys.length ∧ ys.length ≤ lim then
      (match ys[k.toNat]? with
      | some y => some (.nx ((ρ.set j (some (.m (ys.eraseIdx k.toNat)))).set i (some (.m (xs ++ [y])))), U)
      | none => none) else none
  | _, _, _ => none
/-- xs[k] = v -/
def sPut (i : Nat) (fv fk : DEnv → M PyData) : DEnv → M Out := fun ρ => bnd (fv ρ) fun d => bnd (fk ρ) fun k U => match ρ[i]?, k with
  | some (some (.m xs)), .int k => (match ixN xs.length k with
      | some j => some (.nx (ρ.set i (some (.m (xs.set j d)))), U)
      | none => none)
  | _, _ => none
/-- urn[k] = v -/
def sPutU (i : Nat) (fv : DEnv → M PyData) (k : Int) : DEnv → M Out := fun ρ => bnd (fv ρ) fun d U => match ρ[i]?, d with
  | some (some .u), .int n => (match ixN U.length k with
      | some j => some (.nx ρ, U.set j n)
      | none => none)
  | _, _ => none
def forGo (asg : Im → DEnv → Option DEnv) (b : DEnv → M Out) : List Im → DEnv → M Out
  | [], ρ => rt (.nx ρ)
  | x :: xs, ρ => bnd (lf (asg x ρ)) fun ρ1 => bnd (b ρ1) fun o => match o with
    | .nx ρ2 => forGo asg b xs ρ2
    | .rt d => rt (.rt d)
def sFor (f : DEnv → M (List Im)) (asg : Im → DEnv → Option DEnv) (b : DEnv → M Out) : DEnv → M Out := fun ρ => bnd (f ρ) fun xs => forGo asg b xs ρ
def whGo (t : DEnv → M Bool) (b : DEnv → M Out) : Nat → DEnv → M Out
  | 0, _ => fun _ => none
  | n + 1, ρ => bnd (t ρ) fun c => if c = true then bnd (b ρ) fun o => match o with
    | .nx ρ2 => whGo t b n ρ2
    | .rt d => rt (.rt d) else rt (.nx ρ)
section
variable {X : Cx} {st : Stmt} {sts : List Stmt} {ts tu : TS} {S T : DEnv → M Out} {te : TE} {f : DEnv → M PyData}
theorem dss_nil : DSs X [] tNext sNil := ⟨pss_nil, fun u H0 σ H ρ U out U' E hf D q1 q2 => by
  obtain ⟨rfl, rfl⟩ := rt_some hf
  exact q1 ρ σ H rfl E (Pers.refl H)⟩
theorem dss_cons (h1 : DS X st ts S) (h2 : DSs X sts tu T) : DSs X (st :: sts) (tSeq ts tu) (sSeq S T) := ⟨pss_cons h1.ps h2.ps, fun u H0 σ H ρ U out U' E hf D q1 q2 => by
  obtain ⟨o, U1, g1, hf⟩ := bnd_some hf
  refine h1.sm u H0 σ H ρ U o U1 E g1 _ (fun ρ1 σ1 H1 e E1 p1 => ?_) fun d v H1 e ex un p => ?_
  · subst e
    exact h2.sm u H0 σ1 H1 ρ1 U1 out U' E1 hf D (fun ρ2 σ2 H2 e2 E2 p2 => q1 ρ2 σ2 H2 e2 E2 (p1.trans p2)) q2
  · subst e
    obtain ⟨rfl, rfl⟩ := rt_some hf
    exact q2 d v H1 rfl ex un p⟩
theorem dss_one (h1 : DS X st ts S) : DSs X [st] ts S := ⟨pss_one h1.ps, h1.sm⟩
theorem ds_set {i : Nat} (h : PS X st (tAsg te (gName i))) (sm : Sg X.K pF te f) : DS X st (tAsg te (gName i)) (sSet i f) := ⟨h, fun u H0 σ H ρ U out U' E hf D q1 q2 => by
  obtain ⟨d, U1, g1, hf⟩ := bnd_some hf
  obtain ⟨rfl, rfl⟩ := rt_some hf
  exact sm u H0 σ H ρ U d _ E g1 _ fun v H1 e1 un1 p1 => q1 _ _ H1 rfl ((E.exts e1 un1).setd p1) (e1.pers E.urn)⟩
theorem setm_ok {K : PySem.W.Frag} {u : Option Addr} {H0 H H1 : Hp} {σ : L2.St} {ρ : DEnv} {U U1 : US} {i : Nat} {a : Addr} {vs : List V} {ds : List PyData} (E : EOk K u H0 σ H ρ U) (e1 : Ext u H H1) (un1 : UrnAt u H1 U1) (hn : H a = none) (ha : H1 a = some (.lst vs)) (fa : FzA K H1 vs ds) (hu : u ≠ some a) :
    EOk K u H0 (σ.set i (some (.ref a))) H1 (ρ.set i (some (.m ds))) U1 := by
  refine (E.exts e1 un1).set (s := .m ds) ⟨a, vs, rfl, ha, fa, E.ext.free E.urn hn, hu⟩ fun xs b e1 e2 j ys hj hm hs => ?_
  cases e2
  obtain ⟨ws, g⟩ := E.mAt hm hs
  rw [hn] at g; cases g
theorem ds_new {i : Nat} (h : PS X st (tAsg te (gName i))) (sm : Sg X.K pN te f) : DS X st (tAsg te (gName i)) (sNew i f) := ⟨h, fun u H0 σ H ρ U out U' E hf D q1 q2 => by
  obtain ⟨d, U1, g1, hf⟩ := bnd_some hf
  refine sm u H0 σ H ρ U d U1 E g1 _ fun v H1 e1 un1 p1 => ?_
  obtain ⟨a, vs, ds, rfl, rfl, k1, k2, k3, k4⟩ := p1
  obtain ⟨rfl, rfl⟩ := rt_some hf
  exact q1 _ _ H1 rfl (setm_ok E e1 un1 k1 k3 k4 k2) (e1.pers E.urn)⟩
theorem ds_unp {g : TG} {asg : Im → DEnv → Option DEnv} {is : List Nat} (h : PS X st (tAsg te g)) (sm : Sg X.K pF te f) (sg : Sgt X.K g asg is) : DS X st (tAsg te g) (sUnp asg f) := ⟨h, fun u H0 σ H ρ U out U' E hf D q1 q2 => by
  obtain ⟨d, U1, g1, hf⟩ := bnd_some hf
  obtain ⟨ρ', U2, g2, hf⟩ := bnd_some hf
  obtain ⟨rfl, rfl⟩ := rt_some hf
  obtain ⟨g2', rfl⟩ := lf_some g2
  refine sm u H0 σ H ρ U d _ E g1 _ fun v H1 e1 un1 p1 => ?_
  exact sg u H0 σ H1 ρ _ v (.one d) ρ' (E.exts e1 un1) p1 g2' _ fun σ' E' _ => q1 ρ' σ' H1 rfl E' (e1.pers E.urn)⟩
theorem ds_ret {e : Expr} {pos : Pos} (h : DF X e te f) : DS X (.Return (some e) pos) (tRet te) (sRet f) := ⟨ps_ret h.pe, fun u H0 σ H ρ U out U' E hf D q1 q2 => by
  obtain ⟨d, U1, g1, hf⟩ := bnd_some hf
  obtain ⟨rfl, rfl⟩ := rt_some hf
  exact h.sm u H0 σ H ρ U d _ E g1 _ fun v H1 e1 un1 p1 => q2 d v H1 rfl (E.ext.trans e1) un1 p1⟩
theorem ds_if {c : Expr} {a b : List Stmt} {pos : Pos} {tc : TT} {t : DEnv → M Bool} (hc : DT X c tc t) (ha : DSs X a ts S) (hb : DSs X b tu T) : DS X (.If c a b pos) (tIfS tc ts tu) (sIf t S T) := ⟨ps_if hc.pt ha.ps hb.ps, fun u H0 σ H ρ U out U' E hf D q1 q2 => by
  obtain ⟨d, U1, g1, hf⟩ := bnd_some hf
  refine hc.sm u H0 σ H ρ U d U1 E g1 _ fun H1 e1 un1 => ?_
  have p := e1.pers E.urn
  cases d with
  | true => exact ha.sm u H0 σ H1 ρ U1 out U' (E.exts e1 un1) hf D (fun ρ2 σ2 H2 e2 E2 p2 => q1 ρ2 σ2 H2 e2 E2 (p.trans p2)) q2
  | false => exact hb.sm u H0 σ H1 ρ U1 out U' (E.exts e1 un1) hf D (fun ρ2 σ2 H2 e2 E2 p2 => q1 ρ2 σ2 H2 e2 E2 (p.trans p2)) q2⟩
def tFrzS (i : Nat) (t : TS) : TS := fun D σ H => ∃ a xs, σ[i]? = some (some (.ref a)) ∧ H a = some (.lst xs) ∧ ∀ od, t D σ (upd H a (.frz od (.lst xs)))
theorem pss_frz {i : Nat} (h : PSs X sts ts) : PSs X sts (tFrzS i ts) := by
  refine ⟨fun pins s σ H D I hw => ?_⟩
  obtain ⟨a, xs, _, ha, q⟩ := hw
  obtain ⟨od, I2⟩ := I.lock ha (show Mut (some (.lst xs)) from trivial)
  exact h.run pins s σ _ D I2 (q od)
theorem dss_frz (i : Nat) (h : DSs X sts ts S) : DSs X sts (tFrzS i ts) (sFrz i S) := ⟨pss_frz h.ps, fun u H0 σ H ρ U out U' E hf D q1 q2 => by
  unfold sFrz at hf
  split at hf
  · rename_i xs e
    obtain ⟨a, vs, g1, g2, g3⟩ := E.froze e
    exact ⟨a, vs, g1, g2, fun od => h.sm u H0 σ _ _ U out U' (g3 od).1 hf D (fun ρ2 σ2 H2 e2 E2 p2 => q1 ρ2 σ2 H2 e2 E2 ((g3 od).2.trans p2)) q2⟩
  · cases hf⟩

/-! ### several names at once -/
def setSl : List Nat → List Sl → DEnv → Option DEnv
  | [], [], ρ => some ρ
  | i :: is, s :: ss, ρ => setSl is ss (ρ.set i (some s))
  | _, _, _ => none
def setVs : List Nat → List V → L2.St → L2.St
  | i :: is, v :: vs, σ => setVs is vs (σ.set i (some v))
  | _, _, σ => σ
theorem setSl_ok {K : PySem.W.Frag} {u : Option Addr} {Hs H0 H : Hp} {U : US} : ∀ (is : List Nat) (ss : List Sl) (vs : List V) (σ : L2.St) (ρ ρ' : DEnv), EOk K u H0 σ H ρ U →
    AOk K u Hs H vs ss → (∀ a, Hs a = none → H0 a = none) → (∀ (j : Nat) ys a, ρ[j]? = some (some (.m ys)) → σ[j]? = some (some (.ref a)) → ∀ (i : Nat) xs, ss[i]? = some (.m xs) → vs[i]? ≠ some (.ref a)) → setSl is ss ρ = some ρ' →
    EOk K u H0 (setVs is vs σ) H ρ' U
  | [], [], vs, σ, ρ, ρ', E, A, hb, ap, hs => by
    cases hs
    cases vs <;> exact E
  | i :: is, s :: ss, vs, σ, ρ, ρ', E, A, hb, ap, hs => by
    cases vs with
    | nil => have := A.len; simp at this
    | cons v vs =>
      obtain ⟨w, g1, g2⟩ := A.get 0 s rfl
      simp at g1; subst g1
      have E1 : EOk K u H0 (σ.set i (some v)) H (ρ.set i (some s)) U := by
        refine E.set (s := s) ?_ fun xs a e1 e2 j ys hj hm hsj => ?_
        · cases s with
          | d x => exact g2
          | m xs =>
            obtain ⟨a, ws, k1, k2, k3, k4, k5⟩ := g2
            exact ⟨a, ws, k1, k2, k3, hb a k4, k5⟩
          | u => exact g2
          | b xs => exact g2
        · subst e1; subst e2
          exact ap j ys a hm hsj 0 xs rfl rfl
      have A1 : AOk K u Hs H vs ss := ⟨by have := A.len; simpa using this, fun j r q => by
        obtain ⟨x, k1, k2⟩ := A.get (j + 1) r (by simpa using q)
        exact ⟨x, by simpa using k1, k2⟩, fun j k xs ys a q1 q2 q3 q4 => by
        have := A.apart (j + 1) (k + 1) xs ys a (by simpa using q1) (by simpa using q2) (by simpa using q3) (by simpa using q4)
        omega⟩
      refine setSl_ok is ss vs _ _ ρ' E1 A1 hb (fun j ys a hm hsj k xs hk hv => ?_) hs
      by_cases e : i = j
      · subst e
        have hl : i < ρ.length := by
          by_cases c : i < ρ.length
          · exact c
          · rw [List.getElem?_eq_none (by simp; omega)] at hm; cases hm
        rw [List.getElem?_set_self hl] at hm
        rw [List.getElem?_set_self (by rw [← E.len]; exact hl)] at hsj
        cases hm; cases hsj
        have := A.apart 0 (k + 1) ys xs a rfl (by simpa using hk) rfl (by simpa using hv)
        omega
      · rw [List.getElem?_set_ne e] at hm hsj
        exact ap j ys a hm hsj (k + 1) xs (by simpa using hk) (by simpa using hv)
  | [], _ :: _, _, _, _, _, _, _, _, _, hs => by simp [setSl] at hs
  | _ :: _, [], _, _, _, _, _, _, _, _, hs => by simp [setSl] at hs
def sPar (is : List Nat) (g : DEnv → M (List Sl)) : DEnv → M Out := fun ρ => bnd (g ρ) fun ss => bnd (lf (setSl is ss ρ)) fun ρ' => rt (.nx ρ')
theorem par_ok {K : PySem.W.Frag} {u : Option Addr} {H0 H H1 : Hp} {σ : L2.St} {ρ ρ' : DEnv} {U U1 : US} {is : List Nat} {ss : List Sl} {vs : List V} (E : EOk K u H0 σ H ρ U) (e1 : Ext u H H1) (un1 : UrnAt u H1 U1) (A : AOk K u H H1 vs ss) (hs : setSl is ss ρ = some ρ') :
    EOk K u H0 (setVs is vs σ) H1 ρ' U1 := by
  refine setSl_ok is ss vs σ ρ ρ' (E.exts e1 un1) A (fun a z => E.ext.free E.urn z) (fun j ys a hm hsj i xs hi hv => ?_) hs
  obtain ⟨w, k1, b, ws, k2, k3, k4, k5, k6⟩ := A.get i _ hi
  rw [hv] at k1; cases k1; cases k2
  obtain ⟨zs, g⟩ := E.mAt hm hsj
  rw [k5] at g; cases g
theorem setSl_len : ∀ {is : List Nat} {ss : List Sl} {ρ ρ' : DEnv}, setSl is ss ρ = some ρ' → ss.length = is.length
  | [], [], _, _, _ => rfl
  | _ :: is, _ :: ss, _, _, h => by simp [setSl_len (is := is) (ss := ss) h]
  | [], _ :: _, _, _, h => by simp [setSl] at h
  | _ :: _, [], _, _, h => by simp [setSl] at h
theorem len2 {α : Type} {l : List α} (h : l.length = 2) : ∃ a b, l = [a, b] := by
  match l, h with
  | [a, b], _ => exact ⟨a, b, rfl⟩
theorem len3 {α : Type} {l : List α} (h : l.length = 3) : ∃ a b c, l = [a, b, c] := by
  match l, h with
  | [a, b, c], _ => exact ⟨a, b, c, rfl⟩
theorem ds_par2 {i j : Nat} {ta : TA} {g : DEnv → M (List Sl)} (h : PS X st (tPar i j ta)) (sm : Sa X.K ta g) : DS X st (tPar i j ta) (sPar [i, j] g) := ⟨h, fun u H0 σ H ρ U out U' E hf D q1 q2 => by
  obtain ⟨ss, U1, g1, hf⟩ := bnd_some hf
  obtain ⟨ρ', U2, g2, hf⟩ := bnd_some hf
  obtain ⟨rfl, rfl⟩ := rt_some hf
  obtain ⟨g2', rfl⟩ := lf_some g2
  refine sm u H0 σ H ρ U ss _ E g1 _ fun vs H1 e1 un1 A => ?_
  obtain ⟨v, w, rfl⟩ := len2 (A.len.trans (setSl_len g2'))
  exact ⟨v, w, rfl, q1 ρ' _ H1 rfl (par_ok E e1 un1 A g2') (e1.pers E.urn)⟩⟩
theorem ds_par3 {i j l : Nat} {ta : TA} {g : DEnv → M (List Sl)} (h : PS X st (tPar3 i j l ta)) (sm : Sa X.K ta g) : DS X st (tPar3 i j l ta) (sPar [i, j, l] g) := ⟨h, fun u H0 σ H ρ U out U' E hf D q1 q2 => by
  obtain ⟨ss, U1, g1, hf⟩ := bnd_some hf
  obtain ⟨ρ', U2, g2, hf⟩ := bnd_some hf
  obtain ⟨rfl, rfl⟩ := rt_some hf
  obtain ⟨g2', rfl⟩ := lf_some g2
  refine sm u H0 σ H ρ U ss _ E g1 _ fun vs H1 e1 un1 A => ?_
  obtain ⟨v, w, z, rfl⟩ := len3 (A.len.trans (setSl_len g2'))
  exact ⟨v, w, z, rfl, q1 ρ' _ H1 rfl (par_ok E e1 un1 A g2') (e1.pers E.urn)⟩⟩
theorem gNames_vs : ∀ (is : List Nat) (vs : List V) (σ : L2.St) (H : Hp) (Q : L2.St → Hp → Prop), vs.length = is.length → Q (setVs is vs σ) H → gNames is vs σ H Q
  | [], [], σ, H, Q, _, q => ⟨rfl, q⟩
  | i :: is, v :: vs, σ, H, Q, h, q => ⟨v, vs, rfl, gNames_vs is vs _ H Q (by simpa using h) q⟩
  | [], _ :: _, _, _, _, h, _ => by simp at h
  | _ :: _, [], _, _, _, h, _ => by simp at h
/-- by a tuple that is laid and taken apart (some name is captured) -/
theorem ds_parT {is : List Nat} {ta : TA} {g : DEnv → M (List Sl)} (h : PS X st (tAsg (tTup ta) (gTup X.K is.length (gNames is)))) (hl : is.length ≤ 10) (sm : Sa X.K ta g) : DS X st (tAsg (tTup ta) (gTup X.K is.length (gNames is))) (sPar is g) := ⟨h, fun u H0 σ H ρ U out U' E hf D q1 q2 => by
  obtain ⟨ss, U1, g1, hf⟩ := bnd_some hf
  obtain ⟨ρ', U2, g2, hf⟩ := bnd_some hf
  obtain ⟨rfl, rfl⟩ := rt_some hf
  obtain ⟨g2', rfl⟩ := lf_some g2
  refine sm u H0 σ H ρ U ss _ E g1 _ fun vs H1 e1 un1 A => ?_
  have hv : vs.length = is.length := A.len.trans (setSl_len g2')
  refine ⟨by rw [hv]; exact lim_le (Nat.le_trans hl (by decide)), fun p hp => ⟨p, vs, rfl, SqT.of upd_same, hv, ?_⟩⟩
  refine gNames_vs is vs σ _ _ hv ?_
  have e2 : Ext u H1 (upd H1 p (.tup vs)) := Ext.new hp
  have un2 := un1.new (o := .tup vs) hp
  refine q1 ρ' _ _ rfl (par_ok E (e1.trans e2) un2 ⟨A.len, fun i s q => ?_, A.apart⟩ g2') ((e1.trans e2).pers E.urn)
  obtain ⟨w, k1, k2⟩ := A.get i s q
  exact ⟨w, k1, k2.ext e2 un1⟩⟩

/-! ### own lists -/
theorem ds_app {i : Nat} {K : PySem.W.Frag} {te : TE} {f : DEnv → M PyData} (h : PS X st (tDrop (tBM X.K "list" rAppend (tVar i) (tCons te tNil)))) (sm : Sg X.K pF te f) : DS X st (tDrop (tBM X.K "list" rAppend (tVar i) (tCons te tNil))) (sApp i f) := ⟨h, fun u H0 σ H ρ U out U' E hf D q1 q2 => by
  obtain ⟨d, U1, g1, hf⟩ := bnd_some hf
  split at hf
  · rename_i xs e
    split at hf
    · rename_i c
      cases hf
      obtain ⟨v, k1, a, vs, rfl, k3, k4, k5, k6⟩ := E.get i _ e
      refine ⟨_, k1, .inl ⟨rfl, vs, SqL.of k3⟩, ?_⟩
      refine sm u H0 σ H ρ U d _ E g1 _ fun v H1 e1 un1 p1 => ?_
      have E1 := E.exts e1 un1
      refine ⟨a, vs, v, rfl, rfl, e1 a _ k3 k6, Nat.lt_of_lt_of_le (by rw [k4.len]; exact c) (by decide : lim ≤ sizeLine), ?_⟩
      obtain ⟨E2, p2⟩ := E1.putm e k1 ((k4.mono (e1.pers E.urn)).app (.cons p1 .nil))
      exact q1 _ _ _ rfl E2 ((e1.pers E.urn).trans p2)
    · cases hf
  · cases hf⟩
theorem ds_ext {i : Nat} (h : PS X st (tDrop (tBM X.K "list" rExtend (tVar i) (tCons te tNil)))) (sm : Sg X.K pN te f) : DS X st (tDrop (tBM X.K "list" rExtend (tVar i) (tCons te tNil))) (sExt i f) := ⟨h, fun u H0 σ H ρ U out U' E hf D q1 q2 => by
  obtain ⟨d, U1, g1, hf⟩ := bnd_some hf
  split at hf
  · rename_i xs ys e
    split at hf
    · rename_i c
      cases hf
      obtain ⟨v, k1, a, vs, rfl, k3, k4, k5, k6⟩ := E.get i _ e
      refine ⟨_, k1, .inl ⟨rfl, vs, SqL.of k3⟩, ?_⟩
      refine sm u H0 σ H ρ U _ _ E g1 _ fun v H1 e1 un1 p1 => ?_
      obtain ⟨b, ws, ds, rfl, eq, j1, j2, j3, j4⟩ := p1
      cases eq
      have E1 := E.exts e1 un1
      refine ⟨a, b, vs, ws, rfl, rfl, e1 a _ k3 k6, j3, lim_le (by rw [k4.len, j4.len]; exact c), ?_⟩
      obtain ⟨E2, p2⟩ := E1.putm e k1 ((k4.mono (e1.pers E.urn)).app j4)
      exact q1 _ _ _ rfl E2 ((e1.pers E.urn).trans p2)
    · cases hf
  · cases hf⟩
theorem ds_appPop {i j : Nat} (h : PS X st (tDrop (tBM X.K "list" rAppend (tVar i) (tCons (tBM X.K "list" rPopAt (tVar j) (tCons te tNil)) tNil)))) (sm : Sg X.K pF te f) :
    DS X st (tDrop (tBM X.K "list" rAppend (tVar i) (tCons (tBM X.K "list" rPopAt (tVar j) (tCons te tNil)) tNil))) (sAppPop i j f) := ⟨h, fun u H0 σ H ρ U out U' E hf D q1 q2 => by
  obtain ⟨d, U1, g1, hf⟩ := bnd_some hf
  split at hf
  · rename_i xs ys k e ej
    split at hf
    · rename_i c
      obtain ⟨c1, c2, c3, c4, c5⟩ := c
      split at hf
      · rename_i y hy
        cases hf
        obtain ⟨v, k1, a, vs, rfl, k3, k4, k5, k6⟩ := E.get i _ e
        obtain ⟨v2, l1, b, ws, rfl, l3, l4, l5, l6⟩ := E.get j _ ej
        refine ⟨_, k1, .inl ⟨rfl, vs, SqL.of k3⟩, ⟨_, l1, .inl ⟨rfl, ws, SqL.of l3⟩, ?_⟩⟩
        refine sm u H0 σ H ρ U _ _ E g1 _ fun v H1 e1 un1 p1 => ?_
        cases p1
        have E1 := E.exts e1 un1
        have l4' := l4.mono (e1.pers E.urn)
        obtain ⟨y', hy', fy⟩ := l4'.get hy
        have hn : k.toNat < ws.length := by rw [l4.len]; omega
        have hix : seqIndex? k ws.length = some k.toNat := (ixN_seq (by unfold ixN; rw [if_pos c3, if_pos (by rw [l4.len]; exact c4)])).1
        have c5' : ys.length ≤ 100000 := c5
        refine ⟨b, ws, k, k.toNat, y', rfl, rfl, e1 b _ l3 l6, by omega, by omega, hix, hy', ?_⟩
        obtain ⟨E2, p2⟩ := E1.putm ej l1 (l4'.erase k.toNat)
        have ne : a ≠ b := fun z => by
          subst z
          exact c2 (E.apart i j xs ys a e ej k1 l1)
        have e' : (ρ.set j (some (.m (ys.eraseIdx k.toNat))))[i]? = some (some (.m xs)) := by rw [List.getElem?_set_ne (Ne.symm c2)]; exact e
        have vfz := (k4.mono (e1.pers E.urn)).mono p2
        refine ⟨a, vs, y', rfl, rfl, by rw [upd_ne ne]; exact e1 a _ k3 k6, Nat.lt_of_lt_of_le (by rw [k4.len]; exact c1) (by decide : lim ≤ sizeLine), ?_⟩
        obtain ⟨E3, p3⟩ := E2.putm e' k1 (vfz.app (.cons (Fz.mono p2 _ _ fy) .nil))
        exact q1 _ _ _ rfl E3 (((e1.pers E.urn).trans p2).trans p3)
      · cases hf
    · cases hf
  · cases hf⟩
theorem ds_put {i : Nat} {ti : TE} {fk : DEnv → M PyData} (h : PS X st (tAsg te (gSub (tVar i) ti rSetL))) (sm : Sg X.K pF te f) (si : Sg X.K pF ti fk) : DS X st (tAsg te (gSub (tVar i) ti rSetL)) (sPut i f fk) := ⟨h, fun u H0 σ H ρ U out U' E hf D q1 q2 => by
  obtain ⟨d, U1, g1, hf⟩ := bnd_some hf
  obtain ⟨k, U2, g2, hf⟩ := bnd_some hf
  split at hf
  · rename_i xs n e
    split at hf
    · rename_i j hj
      cases hf
      obtain ⟨v0, k1, a, vs, rfl, k3, k4, k5, k6⟩ := E.get i _ e
      refine sm u H0 σ H ρ U _ _ E g1 _ fun v H1 e1 un1 p1 => ?_
      refine ⟨_, k1, ?_⟩
      refine si u H0 σ H1 ρ U1 _ _ (E.exts e1 un1) g2 _ fun w H2 e2 un2 p2 => ?_
      cases p2
      have e3 := e1.trans e2
      have pe := e3.pers E.urn
      refine ⟨a, vs, n, j, rfl, rfl, e3 a _ k3 k6, by rw [k4.len]; exact hj, ?_⟩
      obtain ⟨E2, p2⟩ := (E.exts e3 un2).putm e k1 (FzA.set (Fz.mono (e2.pers un1) _ _ p1) j (k4.mono pe))
      exact q1 _ _ _ rfl E2 (pe.trans p2)
    · cases hf
  · cases hf⟩
theorem ds_putU {i : Nat} {k : Int} (h : PS X st (tAsg te (gSub (tVar i) (tC (.int k)) rSetL))) (sm : Sg X.K pF te f) : DS X st (tAsg te (gSub (tVar i) (tC (.int k)) rSetL)) (sPutU i f k) := ⟨h, fun u H0 σ H ρ U out U' E hf D q1 q2 => by
  obtain ⟨d, U1, g1, hf⟩ := bnd_some hf
  split at hf
  · rename_i n e
    split at hf
    · rename_i j hj
      cases hf
      obtain ⟨v0, k1, a, hu, rfl⟩ := E.get i _ e
      refine sm u H0 σ H ρ U _ _ E g1 _ fun v H1 e1 un1 p1 => ?_
      cases p1
      refine ⟨_, k1, a, _, k, j, rfl, rfl, un1 a hu, by rw [List.length_map]; exact hj, ?_⟩
      have em : (U1.map V.int).set j (V.int n) = (U1.set j n).map V.int := by rw [List.map_set]
      rw [em]
      obtain ⟨E2, x2, _⟩ := (E.exts e1 un1).putu hu (U1.set j n)
      refine q1 _ _ _ rfl E2 ((e1.pers E.urn).trans (x2.pers un1))
    · cases hf
  · cases hf⟩
/-! ### loops -/
theorem ds_for {tg iter : Expr} {body : List Stmt} {pos : Pos} {wi : TI} {gt : TG} {tb : TS} {fi : DEnv → M (List Im)} {asg : Im → DEnv → Option DEnv} {is : List Nat} {b : DEnv → M Out}
    (hp : PassesOwn (model X.prog X.w) X.A X.env X.xe) (hc : X.calm = true) (hi : DI X tg iter wi fi) (hg : DGt X tg gt asg is) (hb : DSs X body tb b) (hs : ∀ x, foldedSetIterable iter X.env x = pure x := by intro _; rfl) :
    DS X (.For tg iter body [] pos) (tFor wi gt tb) (sFor fi asg b) := ⟨ps_for hp hc hi.pi hg.pg hb.ps hs, fun u H0 σ H ρ U out U' E hf D q1 q2 => by
  obtain ⟨xs, U1, g1, hf⟩ := bnd_some hf
  refine hi.sm u H0 σ H ρ U xs U1 E g1 _ fun J H1 e1 un1 yl => ?_
  have p1 := e1.pers E.urn
  refine ⟨fun i m σ2 H2 => m = xs.length - i ∧ i ≤ xs.length ∧ ∃ ρ2 U2, EOk X.K u H0 σ2 H2 ρ2 U2 ∧ Pers H1 H2 ∧ forGo asg b (xs.drop i) ρ2 U2 = some (out, U'), ⟨xs.length, rfl, Nat.zero_le _, ρ, U1, E.exts e1 un1, Pers.refl _, hf⟩, ?_⟩
  rintro i m σ2 H2 ⟨rfl, hi2, ρ2, U2, E2, pe, hgo⟩
  by_cases hlt : i < xs.length
  · obtain ⟨x, hx⟩ : ∃ x, xs[i]? = some x := ⟨xs[i], List.getElem?_eq_getElem hlt⟩
    have hdrop : xs.drop i = x :: xs.drop (i + 1) := by
      obtain ⟨k1, k2⟩ := List.getElem?_eq_some_iff.mp hx
      rw [← k2]; exact List.drop_eq_getElem_cons hlt
    rw [hdrop] at hgo
    obtain ⟨ρ3, U3, g3, hgo1⟩ := bnd_some hgo
    obtain ⟨g3', rfl⟩ := lf_some g3
    obtain ⟨o, U4, g4, hgo2⟩ := bnd_some hgo1
    refine .inr ⟨yl.go i x H2 hx pe, fun σ3 H3 => ∃ ρ4 U5, EOk X.K u H0 σ3 H3 ρ4 U5 ∧ Pers H1 H3 ∧ forGo asg b (xs.drop (i + 1)) ρ4 U5 = some (out, U'), fun σ3 H3 h3 => ?_, fun v H3 hy => ?_⟩
    · exact ⟨xs.length - (i + 1), by omega, rfl, by omega, h3⟩
    · obtain ⟨x3, io⟩ := yl.yld i x H2 v H3 hx pe hy
      have ex3 : Ext u H2 H3 := fun b o z _ => x3 b o z
      have un3 := E2.urn.ext x3
      have pe3 := pe.trans (Pers.of x3)
      refine hg.sm u H0 σ2 H3 ρ2 _ v x ρ3 (E2.exts ex3 un3) io g3' _ fun σ4 E4 _ => ?_
      refine hb.sm u H0 σ4 H3 ρ3 _ o U4 E4 g4 _ (fun ρ5 σ5 H5 e5 E5 p5 => ?_) fun d v5 H5 e5 ex5 un5 p5 => ?_
      · subst e5
        exact ⟨ρ5, U4, E5, pe3.trans p5, hgo2⟩
      · subst e5
        obtain ⟨rfl, rfl⟩ := rt_some hgo2
        exact q2 d v5 H5 rfl ex5 un5 p5
  · have hi3 : i = xs.length := by omega
    have hnil : xs.drop i = [] := by rw [hi3]; exact List.drop_length
    rw [hnil] at hgo
    obtain ⟨rfl, rfl⟩ := rt_some hgo
    exact .inl ⟨by rw [hi3]; exact yl.stop H2 pe, q1 ρ2 σ2 H2 rfl E2 (p1.trans pe)⟩⟩
theorem ds_while {c : Expr} {body : List Stmt} {pos : Pos} {tc : TT} {tb : TS} {t : DEnv → M Bool} {b : DEnv → M Out} (n : Nat) (hp : PassesOwn (model X.prog X.w) X.A X.env X.xe) (hc : DT X c tc t) (hb : DSs X body tb b) :
    DS X (.While c body [] pos) (tWhile tc tb) (whGo t b n) := ⟨ps_while hp hc.pt hb.ps, fun u H0 σ H ρ U out U' E hf D q1 q2 => by
  refine ⟨fun m σ2 H2 => ∃ ρ2 U2, EOk X.K u H0 σ2 H2 ρ2 U2 ∧ Pers H H2 ∧ whGo t b m ρ2 U2 = some (out, U'), ⟨n, ρ, U, E, Pers.refl _, hf⟩, ?_⟩
  rintro m σ2 H2 ⟨ρ2, U2, E2, pe, hgo⟩
  cases m with
  | zero => cases hgo
  | succ m =>
    obtain ⟨d, U3, g1, hgo1⟩ := bnd_some hgo
    refine hc.sm u H0 σ2 H2 ρ2 U2 d U3 E2 g1 _ fun H3 e3 un3 => ?_
    have pe3 := pe.trans (e3.pers E2.urn)
    cases d with
    | true =>
      simp only [if_true] at hgo1 ⊢
      obtain ⟨o, U4, g4, hgo2⟩ := bnd_some hgo1
      refine ⟨fun σ5 H5 => ∃ ρ5 U5, EOk X.K u H0 σ5 H5 ρ5 U5 ∧ Pers H H5 ∧ whGo t b m ρ5 U5 = some (out, U'), fun σ5 H5 h5 => ⟨m, Nat.lt_succ_self m, h5⟩, ?_⟩
      refine hb.sm u H0 σ2 H3 ρ2 U3 o U4 (E2.exts e3 un3) g4 _ (fun ρ5 σ5 H5 e5 E5 p5 => ?_) fun d v5 H5 e5 ex5 un5 p5 => ?_
      · subst e5
        exact ⟨ρ5, U4, E5, pe3.trans p5, hgo2⟩
      · subst e5
        obtain ⟨rfl, rfl⟩ := rt_some hgo2
        exact q2 d v5 H5 rfl ex5 un5 p5
    | false =>
      simp only [Bool.false_eq_true, if_false] at hgo1 ⊢
      obtain ⟨rfl, rfl⟩ := rt_some hgo1
      exact q1 ρ2 σ2 H3 rfl (E2.exts e3 un3) pe3⟩
end
end DL

set_option Elab.async false
set_option linter.all false
set_option maxRecDepth 100000
set_option maxHeartbeats 4000000
/-! DL6: defs, calls, the urn's items, isinstance, index, list or list, ranges as lists. -/
namespace DL
open PySem PySem.Spec PyProof.Rows L2

/-! ### promises -/
def noM : List Sl → Bool
  | [] => true
  | .m _ :: _ => false
  | _ :: r => noM r
theorem noM_get : ∀ {ss : List Sl} {i : Nat} {xs : List PyData}, noM ss = true → ss[i]? ≠ some (.m xs)
  | [], i, xs, _ => by simp
  | .m _ :: _, _, _, h => by cases h
  | .d _ :: r, 0, _, _ => by simp
  | .u :: r, 0, _, _ => by simp
  | .b _ :: r, 0, _, _ => by simp
  | .d _ :: r, i + 1, xs, h => by simpa using noM_get (ss := r) (i := i) (xs := xs) h
  | .u :: r, i + 1, xs, h => by simpa using noM_get (ss := r) (i := i) (xs := xs) h
  | .b _ :: r, i + 1, xs, h => by simpa using noM_get (ss := r) (i := i) (xs := xs) h
def spF (K : PySem.W.Frag) (n : Nat) (F : List Sl → M PyData) : Sp := fun vs H Q _ => ∃ (u : Option Addr) (U : US) (ss : List Sl) (d : PyData) (U' : US),
  UrnAt u H U ∧ ss.length = n ∧ noM ss = true ∧ AOk K u H H vs ss ∧ F ss U = some (d, U') ∧ ∀ v H', Ext u H H' → UrnAt u H' U' → Fz K H' v d → Q v H'
theorem AOk.now {K : PySem.W.Frag} {u : Option Addr} {Hs H : Hp} {vs : List V} {ss : List Sl} (A : AOk K u Hs H vs ss) (nm : noM ss = true) : AOk K u H H vs ss :=
  ⟨A.len, fun i s q => by
    obtain ⟨v, h1, h2⟩ := A.get i s q
    refine ⟨v, h1, ?_⟩
    cases s with
    | d x => exact h2
    | m xs => exact absurd q (noM_get nm)
    | u => exact h2
    | b xs => exact h2, A.apart⟩
/-- the frame's slots at the entry -/
def ent (n : Nat) (ss : List Sl) : DEnv := ss.map some ++ List.replicate (n - ss.length) none
theorem ent_ok {K : PySem.W.Frag} {u : Option Addr} {H : Hp} {U : US} {N : List Str} {vs : List V} {ss : List Sl} (A : AOk K u H H vs ss) (nm : noM ss = true) (un : UrnAt u H U) : EOk K u H (L2.start N vs) H (ent N.length ss) U := by
  have nn : ∀ i s, (ent N.length ss)[i]? = some (some s) → ss[i]? = some s := fun i s q => by
    unfold ent at q
    by_cases hi : i < ss.length
    · rw [List.getElem?_append_left (by simpa using hi), List.getElem?_map] at q
      cases e : ss[i]? with
      | none => rw [e] at q; cases q
      | some a => rw [e] at q; cases q; rfl
    · rw [List.getElem?_append_right (by simpa using hi), List.getElem?_replicate] at q
      split at q <;> cases q
  refine ⟨un, Ext.refl _ _, fun i s q => ?_, fun i j xs ys a q1 q2 _ _ => absurd (nn i _ q1) (noM_get nm), ?_⟩
  · obtain ⟨v, h1, h2⟩ := A.get i s (nn i s q)
    refine ⟨v, ?_, h2⟩
    unfold L2.start
    have hi : i < vs.length := (List.getElem?_eq_some_iff.mp h1).1
    rw [List.getElem?_append_left (by simpa using hi), List.getElem?_map, h1]
    rfl
  · unfold ent L2.start
    simp [A.len]
def fnD (n : Nat) (S : DEnv → M Out) : List Sl → M PyData := fun ss => bnd (S (ent n ss)) fun o => match o with
  | .rt d => rt d
  | .nx _ => rt .none
section
variable {P : Program} {w : World} {K : PySem.W.Frag} {mg : Str → Option Value} {base : Heap} {f : Addr} {fd : FuncData}
theorem fn_ok {x : Str} {st : Stmt} {N ps : List Str} {k : Nat} {S : DEnv → M Out} (F : FunD K x x (defArgs st) (defBody st) (defScope st) [] [] f fd) (sc : FnScope N ps (defScope st))
    (body : ∀ (cdv : Value) (A : Around) (outer : List Env) (s : Shared) (H : Hp) (E : XK), Room k (A.deeper (envOfC x (defScope st) s.heap.objs.size f cdv)) →
      ∃ t, DSs (cxOf CX0 P w K mg base N x (defScope st) f cdv A outer s H E).nox (defBody st) t S) : FnOk P w K mg base CX0 (k + 1) f fd ps (spF K ps.length (fnD N.length S)) := by
  refine F.ok sc (fun vs H Q E h => ?_) (fun cdv A outer s H vs Q E hr h => ?_)
  · obtain ⟨u, U, ss, d, U', _, h1, _, h2, _⟩ := h
    rw [h2.len, h1]
  · obtain ⟨t, ht⟩ := body cdv A outer s H E hr
    refine ⟨t, ht.ps.nox, ?_⟩
    obtain ⟨u, U, ss, d, U', un, h1, nm, h2, h3, q⟩ := h
    obtain ⟨o, U1, g1, g2⟩ := bnd_some h3
    refine ht.sm u H _ H _ U o U1 (ent_ok h2 nm un) g1 _ (fun ρ' σ' H' e E' p => ?_) fun d' v H' e ex un' p => ?_
    · subst e
      obtain ⟨rfl, rfl⟩ := rt_some g2
      exact q .non H' E'.ext E'.urn .non
    · subst e
      obtain ⟨rfl, rfl⟩ := rt_some g2
      exact q v H' ex un' p
end
def eCall (n : Nat) (F : List Sl → M PyData) (g : DEnv → M (List Sl)) : DEnv → M PyData := fun ρ => bnd (g ρ) fun ss => if ss.length = n ∧ noM ss = true then F ss else fun _ => none
theorem df_call {X : Cx} {e : Expr} {n : Nat} {F : List Sl → M PyData} {E : XK} {ta : TA} {g : DEnv → M (List Sl)} (h : PE X e (tCall (spF X.K n F) [] E ta)) (sm : Sa X.K ta g) : DF X e (tCall (spF X.K n F) [] E ta) (eCall n F g) := ⟨h, fun u H0 σ H ρ U d U' E hf Q q => by
  obtain ⟨ss, U1, g1, hf⟩ := bnd_some hf
  split at hf
  · rename_i c
    refine sm u H0 σ H ρ U ss U1 E g1 _ fun vs H1 e1 un1 A => ?_
    show spF X.K n F (vs ++ []) H1 Q _
    rw [List.append_nil]
    exact ⟨u, U1, ss, d, U', un1, c.1, c.2, A.now c.2, hf, fun v H' e2 un2 p => q v H' (e1.trans e2) un2 p⟩
  · cases hf⟩

/-! ### the urn's items -/
def eUrn (i : Nat) (k : Int) : DEnv → M PyData := fun ρ U => match ρ[i]? with
  | some (some .u) => (atI U k).map fun n => (.int n, U)
  | _ => none
theorem df_urn {X : Cx} {x : Str} {p p2 pos : Pos} {j : Nat} {k : Int} (i : Nat) (h : PE X (.Name x p) (tVar i)) : DF X (.Subscript (.Name x p) (.Constant (.int k) j p2) pos) (tOp (rIxL X.K) (tVar i) (tC (.int k))) (eUrn i k) := ⟨pe_ix ix_list h pe_int (fun _ _ => rfl), fun u H0 σ H ρ U d U' E hf Q q => by
  unfold eUrn at hf
  split at hf
  · rename_i e
    obtain ⟨n, g1, g2⟩ := Option.map_eq_some_iff.mp hf
    cases g2
    obtain ⟨v, k1, a, hu, rfl⟩ := E.get i _ e
    refine ⟨_, k1, a, U.map V.int, k, .int n, rfl, rfl, SqL.of (E.urn a hu), ?_, q _ H (Ext.refl _ _) E.urn (.int n)⟩
    unfold atI at g1 ⊢
    rw [List.length_map]
    cases z : ixN U.length k with
    | none => rw [z] at g1; cases g1
    | some m =>
      rw [z] at g1
      show (U.map V.int)[m]? = _
      rw [List.getElem?_map, show U[m]? = some n from g1]; rfl
  · cases hf⟩

/-! ### isinstance -/
def dTy : PyData → String
  | .none => "NoneType"
  | .bool _ => "bool"
  | .int _ => "int"
  | .str _ => "str"
  | .list _ => "list"
  | .tuple _ => "tuple"
  | .dict _ => "dict"
inductive Ty1 where
  | int | bool | list | tuple | str
def Ty1.nm : Ty1 → String
  | .int => "int" | .bool => "bool" | .list => "list" | .tuple => "tuple" | .str => "str"
def isTy (T : Ty1) : PyData → Bool
  | .bool _ => match T with | .bool => true | .int => true | _ => false
  | .int _ => match T with | .int => true | _ => false
  | .str _ => match T with | .str => true | _ => false
  | .list _ => match T with | .list => true | _ => false
  | .tuple _ => match T with | .tuple => true | _ => false
  | _ => false
theorem isTy_kit {K : PySem.W.Frag} (T : Ty1) (d : PyData) (h : ∀ k, d ≠ .dict k) : PySem.W.kitOne K (.type (dTy d)) (.type T.nm) = some (isTy T d) := by
  cases d with
  | dict k => exact absurd rfl (h k)
  | _ => cases T <;> exact kit_ty (by kernel_rfl)
theorem fz_ty {K : PySem.W.Frag} {H : Hp} {v : V} {d : PyData} (h : Fz K H v d) : TyX K H v (.type (dTy d)) ∧ ∀ k, d ≠ .dict k := by
  cases h with
  | non => exact ⟨.base .non, fun _ z => nomatch z⟩
  | bl b => exact ⟨.base (.bl b), fun _ z => nomatch z⟩
  | int i => exact ⟨.base (.int i), fun _ z => nomatch z⟩
  | str x => exact ⟨.base (.str x), fun _ z => nomatch z⟩
  | lst hs _ =>
    obtain ⟨o, e⟩ := hs
    exact ⟨.base (.frz e), fun _ z => nomatch z⟩
  | tup hs _ =>
    obtain ⟨o, e, _⟩ := hs
    exact ⟨.fTuple e, fun _ z => nomatch z⟩
def eIs (T : Ty1) (f : DEnv → M PyData) : DEnv → M PyData := fun ρ => bnd (f ρ) fun d => rt (.bool (isTy T d))
def eIs2 (T1 T2 : Ty1) (f : DEnv → M PyData) : DEnv → M PyData := fun ρ => bnd (f ρ) fun d => rt (.bool (isTy T1 d || isTy T2 d))
section
variable {X : Cx} {e : Expr} {te : TE} {f : DEnv → M PyData} {x y z : Str} {p p2 p3 p4 pos : Pos} {j : Nat} {es : List Expr}
theorem df_is (T : Ty1) (h : PE X e (tCB (rIsi X.K) (tCons te (tCons (tC (.ty T.nm)) tNil)))) (sm : Sg X.K pF te f) : DF X e (tCB (rIsi X.K) (tCons te (tCons (tC (.ty T.nm)) tNil))) (eIs T f) := ⟨h, fun u H0 σ H ρ U d U' E hf Q q => by
  obtain ⟨c, U1, g1, hf⟩ := bnd_some hf
  obtain ⟨rfl, rfl⟩ := rt_some hf
  refine sm u H0 σ H ρ U c _ E g1 _ fun v H1 e1 un1 p1 => ?_
  obtain ⟨ty, nd⟩ := fz_ty p1
  exact ⟨v, .ty T.nm, _, _, _, rfl, .ty _, ty, isTy_kit T c nd, q _ H1 e1 un1 (.bl _)⟩⟩
theorem df_is2 (T1 T2 : Ty1) (h : PE X e (tCB (rIsiT X.K) (tCons te (tCons (tTup (tCons (tC (.ty T1.nm)) (tCons (tC (.ty T2.nm)) tNil))) tNil)))) (sm : Sg X.K pF te f) :
    DF X e (tCB (rIsiT X.K) (tCons te (tCons (tTup (tCons (tC (.ty T1.nm)) (tCons (tC (.ty T2.nm)) tNil))) tNil))) (eIs2 T1 T2 f) := ⟨h, fun u H0 σ H ρ U d U' E hf Q q => by
  obtain ⟨c, U1, g1, hf⟩ := bnd_some hf
  obtain ⟨rfl, rfl⟩ := rt_some hf
  refine sm u H0 σ H ρ U c _ E g1 _ fun v H1 e1 un1 p1 => ?_
  refine ⟨by show 2 ≤ sizeLine; decide, fun p hp => ?_⟩
  have e2 : Ext u H1 (upd H1 p (.tup [.ty T1.nm, .ty T2.nm])) := Ext.new hp
  have p2 := Fz.mono (e2.pers un1) _ _ p1
  obtain ⟨ty, nd⟩ := fz_ty p2
  refine ⟨v, p, _, _, _, _, rfl, upd_same, .cons (.ty _) (.cons (.ty _) .nil), ty, ?_, q _ _ (e1.trans e2) (un1.new hp) (.bl _)⟩
  refine kitAny_cons (isTy_kit T1 c nd) (fun hb => ?_) fun hb => by rw [hb]; rfl
  refine kitAny_cons (isTy_kit T2 c nd) (fun hb2 => ?_) fun hb2 => by rw [hb2, Bool.or_true]
  rw [hb, hb2]
  exact kitAny_nil⟩
end

/-! ### index -/
def findEq (d : PyData) : List PyData → Option Nat
  | [] => none
  | z :: zs => if PyData.eqv z d = true then some 0 else (findEq d zs).map (· + 1)
theorem findEq_some {d : PyData} : ∀ {ds : List PyData} {j : Nat}, findEq d ds = some j → ∃ z, ds[j]? = some z ∧ PyData.eqv z d = true ∧ ∀ (m : Nat) z', m < j → ds[m]? = some z' → PyData.eqv z' d = false
  | [], j, h => by simp [findEq] at h
  | z :: zs, j, h => by
    unfold findEq at h
    split at h
    · rename_i c
      cases h
      exact ⟨z, rfl, c, fun m z' hm => by omega⟩
    · rename_i c
      obtain ⟨k, h1, rfl⟩ := Option.map_eq_some_iff.mp h
      obtain ⟨y, g1, g2, g3⟩ := findEq_some h1
      refine ⟨y, by simpa using g1, g2, fun m z' hm e => ?_⟩
      cases m with
      | zero => simp at e; subst e; simpa using c
      | succ m => exact g3 m z' (by omega) (by simpa using e)
def gIndexL (d e : PyData) : Option PyData := match d with
  | .list ds => if SeqAt.shaped (.list ds) = true ∧ SeqAt.shaped e = true then (findEq e ds).map fun j => .int (j : Nat) else none
  | _ => none
def gIndexT (d e : PyData) : Option PyData := match d, e with
  | .tuple ds, .int k => (toIs ds).bind fun ns => if k ∈ ns then some (.int (ns.idxOf k : Nat)) else none
  | _, _ => none
section
variable {X : Cx} {o e : Expr} {to te : TE} {f g : DEnv → M PyData} {st : Expr}
theorem df_indexL (h : PE X st (tBM X.K "list" (rIndexD X.K) to (tCons te tNil))) (so : Sg X.K pB to f) (se : Sg X.K pF te g) : DF X st (tBM X.K "list" (rIndexD X.K) to (tCons te tNil)) (op2 gIndexL f g) := ⟨h, fun u H0 σ H ρ U d U' E hf Q q => by
  obtain ⟨d1, U1, h1, hf⟩ := bnd_some hf
  obtain ⟨d2, U2, h2, hf⟩ := bnd_some hf
  obtain ⟨h3, rfl⟩ := lf_some hf
  refine so u H0 σ H ρ U d1 U1 E h1 _ fun v1 H1 e1 un1 p1 => ?_
  unfold gIndexL at h3
  split at h3
  · split at h3
    · rename_i c
      obtain ⟨j, g1, rfl⟩ := Option.map_eq_some_iff.mp h3
      obtain ⟨a, vs, rfl, k1, k2⟩ := Bz.list p1
      refine ⟨.inl ⟨rfl, vs, k1⟩, ?_⟩
      refine se u H0 σ H1 ρ U1 d2 _ (E.exts e1 un1) h2 _ fun v2 H2 e2 un2 p2 => ?_
      obtain ⟨z, g2, g3, g4⟩ := findEq_some g1
      exact ⟨a, v2, d2, _, j, z, rfl, rfl, Bz.dp (Bz.ext e2 un1 p1), Fz.dp _ _ p2, c.1, c.2, g2, g3, g4, q _ H2 (e1.trans e2) un2 (.int _)⟩
    · cases h3
  · cases h3⟩
/-- t.index(k), a tuple of ints -/
def tTix (to : TE) (te : TE) : TE := fun σ H Q => to σ H fun x H1 => ∃ (p : Addr) (ns : List Int), x = .ref p ∧ TpF H1 p (ns.map V.int) ∧ te σ H1 fun y H2 => ∃ k : Int, y = .int k ∧ k ∈ ns ∧ TpF H2 p (ns.map V.int) ∧ Q (.int (ns.idxOf k : Nat)) H2
theorem pe_tix {apos cpos : Pos} (ho : PE X o to) (he : PE X e te)
    (hbase : attributeBase o "index" X.env (eval o X.env) = eval o X.env := by rfl)
    (hfew : ((backTo cpos (starEach [e] X.env)).all (fun x => !x.1) && (backToKw cpos (keywordEach [] X.env)).all (fun x => x.1.isSome)
      && decide ([e].length + ([] : List Keyword).length + (if ([] : List Keyword).isEmpty then 0 else 1) < 30)) = true := by rfl)
    (hline : (apos.endLine == cpos.line) = true := by rfl) (hs : starEach [e] X.env = (false, eval e X.env) :: starEach [] X.env := by rfl) (hplain : (backTo cpos (starEach [] X.env)).any (·.1) = false := by rfl) :
    PE X (.Call (.Attribute o "index" apos) [e] [] cpos) (tTix to te) := by
  refine ⟨fun pins s σ H Q I h => ?_⟩
  refine wpAny_Call_method_late hbase hfew hline rfl (thn (ho.run pins s σ H _ I h) fun v s1 ⟨x, H1, I1, r1, p, ns, ex, ht, q1⟩ => ?_)
  subst ex
  cases r1
  obtain ⟨ob, ht1, ht2, ht3⟩ := id ht
  obtain ⟨hg, _⟩ := (show ObjOk X.prog X.w H1 s1.heap p (.frz ob (.tup (ns.map V.int))) from I1.hok p _ ht1)
  refine ⟨"tuple", "tuple.index", PySem.F.plainAttrs_tuple, PySem.F.slot_tuple_index, PySem.F.type_tuple_index, ⟨ob, hg, ht2⟩, fun a ea => by cases ea; exact ⟨ob, hg, ht3⟩, ?_⟩
  have hA : wpAny (model X.prog X.w) X.A (spliced (backTo cpos (starEach [e] X.env))) (AP X pins σ fun vs H2 => ∃ y, vs = [y] ∧ ∃ k : Int, y = .int k ∧ k ∈ ns ∧ TpF H2 p (ns.map V.int) ∧ Q (.int (ns.idxOf k : Nat)) H2) X.xe s1 := by
    rw [hs]
    show wpAny _ _ (spliced ((false, eval e X.env) :: backTo cpos (starEach [] X.env))) _ _ s1
    refine Calls.spliced_cons (thn (he.run pins s1 σ H1 _ I1 q1) fun u s2 ⟨x, H2, I2, r2, q2⟩ => ?_)
    exact Calls.spliced_nil ⟨[x], H2, I2, .cons r2 .nil, x, rfl, q2⟩
  rw [hs] at hA ⊢
  refine Calls.callWith_builtin (by show (false || (backTo cpos (starEach [] X.env)).any (·.1)) = false; rw [hplain] <;> rfl) (Calls.evalArgs_plain ?_)
  refine thn hA fun us s2 ⟨vs, H2, I2, r2, y, ey, k, ek, hk, ht2, q2⟩ => ?_
  subst ey; subst ek
  obtain ⟨u1, eu, ru⟩ := vals1 r2
  subst eu
  obtain ⟨t, rfl⟩ := ru
  obtain ⟨its, rv, ptu, _⟩ := I2.tuple (ht2.t (K := X.K))
  exact SeqAt.tuple_index_ints (show s2.heap.IsTuple p its.toArray from ptu) rv.ints hk ⟨.int _, H2, I2.tok _, ⟨_, rfl⟩, q2⟩
theorem df_indexT (h : PE X st (tTix to te)) (so : Sg X.K pF to f) (se : Sg X.K pF te g) : DF X st (tTix to te) (op2 gIndexT f g) := ⟨h, fun u H0 σ H ρ U d U' E hf Q q => by
  obtain ⟨d1, U1, h1, hf⟩ := bnd_some hf
  obtain ⟨d2, U2, h2, hf⟩ := bnd_some hf
  obtain ⟨h3, rfl⟩ := lf_some hf
  refine so u H0 σ H ρ U d1 U1 E h1 _ fun v1 H1 e1 un1 p1 => ?_
  unfold gIndexT at h3
  split at h3
  · obtain ⟨ns, g1, h4⟩ := Option.bind_eq_some_iff.mp h3
    split at h4
    · rename_i c
      cases h4
      have e5 := toIs_eq g1
      subst e5
      cases p1 with
      | tup ht fa =>
        have e6 := fa.ints_inv
        subst e6
        refine ⟨_, ns, rfl, ht, ?_⟩
        refine se u H0 σ H1 ρ U1 _ _ (E.exts e1 un1) h2 _ fun v2 H2 e2 un2 p2 => ?_
        cases p2
        exact ⟨_, rfl, c, ht.mono (e2.pers un1), q _ H2 (e1.trans e2) un2 (.int _)⟩
    · cases h4
  · cases h3⟩
end

/-! ### list or list; ranges -/
def eOrN (f g : DEnv → M PyData) : DEnv → M PyData := fun ρ => bnd (f ρ) fun d => match d with
  | .list (x :: xs) => rt (.list (x :: xs))
  | .list [] => g ρ
  | _ => fun _ => none
section
variable {X : Cx} {a b e : Expr} {ta tb te : TE} {f g : DEnv → M PyData} {rest : List Expr} {pos p p2 pos2 : Pos}
theorem dn_one {op} (h : DN X a ta f) : DN X (.BoolOp op [a] pos) ta f := ⟨pe_one h.pe, h.sm⟩
theorem dn_or (h1 : DN X a ta f) (h2 : DN X (.BoolOp .Or (b :: rest) pos) tb g) : DN X (.BoolOp .Or (a :: b :: rest) pos) (tOrT X.K ta tb) (eOrN f g) := ⟨pe_orT h1.pe h2.pe, fun u H0 σ H ρ U z U' E hf Q q => by
  obtain ⟨d, U1, g1, hf⟩ := bnd_some hf
  refine h1.sm u H0 σ H ρ U d U1 E g1 _ fun v H1 e1 un1 p1 => ?_
  obtain ⟨c, vs, ds, rfl, rfl, k1, k2, k3, k4⟩ := p1
  cases ds with
  | nil =>
    cases k4
    refine ⟨false, .inl ⟨[], SqL.of k3, rfl⟩, ?_⟩
    rw [if_neg Bool.false_ne_true]
    exact h2.sm u H0 σ H1 ρ U1 z U' (E.exts e1 un1) hf _ fun v H2 e2 un2 p2 => q v H2 (e1.trans e2) un2 (Bk.back e1 un1 p2)
  | cons x xs =>
    obtain ⟨rfl, rfl⟩ := rt_some hf
    refine ⟨true, .inl ⟨vs, SqL.of k3, ?_⟩, ?_⟩
    · cases k4; rfl
    · rw [if_pos rfl]
      exact q _ H1 e1 un1 ⟨c, vs, _, rfl, rfl, k1, k2, k3, k4⟩⟩
def rgD (n : Int) : List PyData := (List.range n.toNat).map fun i => .int (i : Nat)
def gRgL : PyData → Option PyData
  | .int n => if 0 ≤ n ∧ n ≤ 100000 then some (.list (rgD n)) else none
  | _ => none
def gRgT : PyData → Option PyData
  | .int n => if 0 ≤ n ∧ n ≤ 100000 then some (.tuple (rgD n)) else none
  | _ => none
theorem fza_rg {K : PySem.W.Frag} {H : Hp} (n : Int) : FzA K H (rgV 0 n) (rgD n) := by
  unfold rgV rgD
  have e : (n - 0).toNat = n.toNat := by rw [Int.sub_zero]
  rw [e]
  have : ∀ l : List Nat, FzA K H (l.map fun i => V.int (0 + (i : Nat))) (l.map fun i => PyData.int (i : Nat)) := fun l => by
    induction l with
    | nil => exact .nil
    | cons i l ih =>
      refine .cons ?_ ih
      show Fz K H (V.int (0 + (i : Nat))) (PyData.int (i : Nat))
      rw [Int.zero_add]
      exact .int _
  exact this _
theorem dn_listRg (hg : Gl X "list") (hm : X.mg "list" = none) (hg2 : Gl X "range") (hm2 : X.mg "range" = none) (hc : X.calm = true) (h : DF X e te f) (na : starEach [e] X.env = (false, eval e X.env) :: starEach [] X.env := by rfl)
    (nb : starEach [Expr.Call (.Name "range" p2) [e] [] pos2] X.env = (false, eval (Expr.Call (.Name "range" p2) [e] [] pos2) X.env) :: starEach [] X.env := by rfl) :
    DN X (.Call (.Name "list" p) [Expr.Call (.Name "range" p2) [e] [] pos2] [] pos) (tLstRg (tRg1 te)) (op1 gRgL f) := ⟨pe_listRg hc hg hm (prg_1 hg2 hm2 h.pe na) nb, fun u H0 σ H ρ U d U' E hf Q q => by
  obtain ⟨d1, U1, h1, hf⟩ := bnd_some hf
  obtain ⟨h3, rfl⟩ := lf_some hf
  refine h.sm u H0 σ H ρ U d1 _ E h1 _ fun v1 H1 e1 un1 p1 => ?_
  unfold gRgL at h3
  split at h3
  · split at h3
    · rename_i n c
      cases h3
      cases p1
      refine ⟨n, rfl, RgOk.of_le (Int.le_refl 0) (by omega) (by decide) c.1, fun p hp => ?_⟩
      have e2 : Ext u H1 (upd H1 p (.lst (rgV 0 n))) := Ext.new hp
      exact q _ _ (e1.trans e2) (un1.new hp) ⟨p, _, _, rfl, rfl, e1.free un1 hp, un1.ne hp, upd_same, fza_rg n⟩
    · cases h3
  · cases h3⟩
def tTupRgF (te : L2.St → Hp → (Int → Int → Hp → Prop) → Prop) : TE := fun σ H Q => te σ H fun a b H1 => RgOk a b ∧ ∀ q od, H1 q = none → od.cls = .type "tuple" → od.dict = none → Q (.ref q) (upd H1 q (.frz od (.tup (rgV a b))))
theorem pe_tupRgF {e : Expr} {te : L2.St → Hp → (Int → Int → Hp → Prop) → Prop} (hc : X.calm = true) (hg : Gl X "tuple") (hm : X.mg "tuple" = none) (he : PRg X e te) (na : starEach [e] X.env = (false, eval e X.env) :: starEach [] X.env := by rfl) : PE X (.Call (.Name "tuple" p) [e] [] pos) (tTupRgF te) := by
  refine ⟨fun pins s σ H Q I h => ?_⟩
  refine Call_ (ld_blt I hg hm boot_tuple (PyProof.Rows.callWith_type1 (args_cons (thn (he pins s σ H _ I h) fun x s1 ⟨r, a, b, t, u, v, H1, ex, hr, I1, ok, q⟩ => args_nil ?_) na) na))
  subst ex
  obtain ⟨b1, b2, b3, b4, b5⟩ := ok
  refine call_tuple_range (n := (b - a).toNat) (I1.ok.hd hc) hr (small_one b1 b2 b3 b4) (rangeSize_nat a b) b5 fun h' tk acc hk hi => ?_
  have I2 : Inv X pins σ H1 { s1 with heap := h', toks := tk } := I1.kept hk
  refine ⟨.ref h'.objs.size, upd H1 h'.objs.size (.frz { cls := .type "tuple", data := .seq acc.toList.toArray } (.tup (rgV a b))), I2.laid (t' := tk) (fun c o e => Heap.get?_push_of_some _ e) (Nat.le_refl _) (show ObjOk X.prog X.w _ _ _ (.frz _ (.tup (rgV a b))) from ⟨?_, ?_, acc.toList, vals_rg hi, ?_⟩), rfl, q _ _ (I2.hok.fresh (Nat.le_refl _)) rfl rfl⟩
  · rw [Array.toArray_toList]; exact Heap.get?_push_size _ rfl
  · rw [rgV_length, sizeLine_eq]; omega
  · rw [Array.toArray_toList]; exact IsTup.new _ _
theorem df_tupRg (hg : Gl X "tuple") (hm : X.mg "tuple" = none) (hg2 : Gl X "range") (hm2 : X.mg "range" = none) (hc : X.calm = true) (h : DF X e te f) (na : starEach [e] X.env = (false, eval e X.env) :: starEach [] X.env := by rfl)
    (nb : starEach [Expr.Call (.Name "range" p2) [e] [] pos2] X.env = (false, eval (Expr.Call (.Name "range" p2) [e] [] pos2) X.env) :: starEach [] X.env := by rfl) :
    DF X (.Call (.Name "tuple" p) [Expr.Call (.Name "range" p2) [e] [] pos2] [] pos) (tTupRgF (tRg1 te)) (op1 gRgT f) := ⟨pe_tupRgF hc hg hm (prg_1 hg2 hm2 h.pe na) nb, fun u H0 σ H ρ U d U' E hf Q q => by
  obtain ⟨d1, U1, h1, hf⟩ := bnd_some hf
  obtain ⟨h3, rfl⟩ := lf_some hf
  refine h.sm u H0 σ H ρ U d1 _ E h1 _ fun v1 H1 e1 un1 p1 => ?_
  unfold gRgT at h3
  split at h3
  · split at h3
    · rename_i n c
      cases h3
      cases p1
      refine ⟨n, rfl, RgOk.of_le (Int.le_refl 0) (by omega) (by decide) c.1, fun p od hp c1 c2 => ?_⟩
      have e2 : Ext u H1 (upd H1 p (.frz od (.tup (rgV 0 n)))) := Ext.new hp
      exact q _ _ (e1.trans e2) (un1.new hp) (Fz.tup ⟨od, upd_same, c1, c2⟩ (fza_rg n))
    · cases h3
  · cases h3⟩
end
end DL

set_option Elab.async false
set_option linter.all false
set_option maxRecDepth 100000
set_option maxHeartbeats 4000000
/-! DL7: the rules in the form in which they are printed for a def. -/
namespace DL
open PySem PySem.Spec PyProof.Rows L2

abbrev rLenQ (K : PySem.W.Frag) : List V → Hp → VK → Prop := fun xs H Q => ∃ p ys, xs = [.ref p] ∧ (SqL K H p ys ∨ SqT K H p ys) ∧ Q (.int ys.length) H
abbrev rListQ (K : PySem.W.Frag) : List V → Hp → VK → Prop := fun xs H Q => ∃ p ys, xs = [.ref p] ∧ (SqL K H p ys ∨ SqT K H p ys) ∧ ∀ l, H l = none → Q (.ref l) (upd H l (.lst ys))
abbrev rAbsQ : List V → Hp → VK → Prop := fun xs H Q => ∃ i, xs = [.int i] ∧ Q (.int (if i < 0 then -i else i)) H
abbrev rIntQ : List V → Hp → VK → Prop := fun xs H Q => (∃ i, xs = [.int i] ∧ Q (.int i) H) ∨ ∃ k, xs = [.bl k] ∧ Q (.int (if k then 1 else 0)) H
abbrev qAdd : R2 := rI0 fun i j => .int (i + j)
abbrev qMul : R2 := rI CMul fun i j => .int (i * j)
abbrev qMod : R2 := rI (fun _ j => 0 < j) fun i j => .int (i % j)
abbrev qFdiv : R2 := rI CDiv fun i j => .int (i / j)
abbrev qPow : R2 := rI CPow fun i j => .int (i ^ j.toNat)
abbrev qLt : R2 := rI0 fun i j => .bl (decide (i < j))
abbrev qGt : R2 := rI0 fun i j => .bl (decide (j < i))
abbrev qGe : R2 := rI0 fun i j => .bl (decide (j ≤ i))
abbrev qIs : R2 := fun x y H Q => y = .non ∧ Q (.bl (decide (x = .non))) H
/-- a def of the text as it stands behind the top -/
def Def (K : PySem.W.Frag) (mg : Str → Option Value) (x : Str) (st : Stmt) : Prop := ∃ f fd, FunD K x x (defArgs st) (defBody st) (defScope st) [] [] f fd ∧ mg x = some (.ref f)
/-- a def that keeps a promise -/
def Cal (P : Program) (w : World) (K : PySem.W.Frag) (mg : Str → Option Value) (base : Heap) (CX : CXT) (k : Nat) (x : Str) (ps : List Str) (sp : Sp) : Prop :=
  ∃ f fd, FnOk P w K mg base CX k f fd ps sp ∧ mg x = some (.ref f) ∧ PySem.W.keepIn K (.ref f) = true ∧ Binds K fd ps []
theorem Cal.mono {P : Program} {w : World} {K : PySem.W.Frag} {mg : Str → Option Value} {base : Heap} {CX : CXT} {j k : Nat} {x : Str} {ps : List Str} {sp : Sp} (h : Cal P w K mg base CX j x ps sp) (hk : j ≤ k) : Cal P w K mg base CX k x ps sp :=
  let ⟨f, fd, a, b⟩ := h; ⟨f, fd, a.mono hk, b⟩
/-- the built-ins' names are free -/
structure Fre (mg : Str → Option Value) : Prop where
  isinstance : mg "isinstance" = none
  int : mg "int" = none
  bool : mg "bool" = none
  list : mg "list" = none
  tuple : mg "tuple" = none
  len : mg "len" = none
  all : mg "all" = none
  any : mg "any" = none
  range : mg "range" = none
  max : mg "max" = none
  zip : mg "zip" = none
  enumerate : mg "enumerate" = none
  abs : mg "abs" = none
  str : mg "str" = none
section
variable {P : Program} {w : World} {K : PySem.W.Frag} {mg : Str → Option Value} {base : Heap}
theorem cal_mk {x : Str} {st : Stmt} {N ps : List Str} {k : Nat} {S : DEnv → M Out} (D : Def K mg x st) (sc : FnScope N ps (defScope st))
    (b : ∀ (kV doc pm : Value) (an : Option Addr) (cdv ct : Value) (us : List Value), us.length = ps.length → bindArgs (PySem.W.fnOf x x (defArgs st) (defBody st) (defScope st) .none kV doc pm an cdv ct) ⟨us, []⟩ = pure (ps.zip us))
    (body : ∀ (f : Addr) (cdv : Value) (A : Around) (outer : List Env) (s : Shared) (H : Hp) (E : XK), Room k (A.deeper (envOfC x (defScope st) s.heap.objs.size f cdv)) → (A.deeper (envOfC x (defScope st) s.heap.objs.size f cdv)).units + 65 < cLine →
      ∃ t, DSs (cxOf CX0 P w K mg base N x (defScope st) f cdv A outer s H E).nox (defBody st) t S) : Cal P w K mg base CX0 (k + 1) x ps (spF K ps.length (fnD N.length S)) := by
  obtain ⟨f, fd, F, m⟩ := D
  exact ⟨f, fd, fn_ok F sc (fun cdv A outer s H E hr => body f cdv A outer s H E hr (by have := hr.un; omega)), m, F.kp, F.bindsN b⟩
end
section
variable {X : Cx} {x y : Str} {p p2 p3 p4 pos apos cpos : Pos} {e e2 : Expr} {es : List Expr} {te te2 to : TE} {ta : TA} {f f2 : DEnv → M PyData} {g : DEnv → M (List Sl)} {n k : Nat} {ps : List Str} {F : List Sl → M PyData}
theorem df_cal (C : Cal X.prog X.w X.K X.mg X.base CX0 k x ps (spF X.K n F)) (hr : Room k X.A) (ha : DA X (e :: es) ta g) (hg : Gl X x := by rfl) (hdb : (x == ("__debug__" : Str)) = false := by decide)
    (he : starEach (e :: es) X.env = (false, eval e X.env) :: starEach es X.env := by rfl) (hpl : (backTo pos (starEach es X.env)).any (·.1) = false := by rfl) {K : PySem.W.Frag} (hK : X.K = K := by rfl) :
    DF X (.Call (.Name x p) (e :: es) [] pos) (tCall (spF K n F) [] E0 ta) (eCall n F g) := by
  subst hK
  obtain ⟨fa, fd, h1, h2, h3, h4⟩ := C
  exact df_call (pe_call h1 hr hg h2 h3 h4 .nil pass0 ha.pa hdb he hpl) ha.sm
theorem df_cal0 (C : Cal X.prog X.w X.K X.mg X.base CX0 k x ps (spF X.K n F)) (hr : Room k X.A) (hg : Gl X x := by rfl) (hdb : (x == ("__debug__" : Str)) = false := by decide) {K : PySem.W.Frag} (hK : X.K = K := by rfl) :
    DF X (.Call (.Name x p) [] [] pos) (tCall (spF K n F) [] E0 tNil) (eCall n F aNil) := by
  subst hK
  obtain ⟨fa, fd, h1, h2, h3, h4⟩ := C
  exact df_call (pe_call0 h1 hr hg h2 h3 h4 .nil pass0 hdb) da_nil.sm
/-! built-ins -/
theorem df_len (m : X.mg "len" = none) (h : DB X e te f) (hg : Gl X "len" := by rfl) (he : starEach [e] X.env = (false, eval e X.env) :: starEach [] X.env := by rfl) (hpl : (backTo pos (starEach [] X.env)).any (·.1) = false := by rfl) {K : PySem.W.Frag} (hK : X.K = K := by rfl) :
    DF X (.Call (.Name "len" p) [e] [] pos) (tCB (rLenQ K) (tCons te tNil)) (op1 gLen f) := by
  subst hK
  exact dg_cB call_len_seq rz_len hg m (by decide +kernel) h (by decide) (by decide) he hpl
theorem df_tuple (m : X.mg "tuple" = none) (h : DB X e te f) (hg : Gl X "tuple" := by rfl) (he : starEach [e] X.env = (false, eval e X.env) :: starEach [] X.env := by rfl) (hpl : (backTo pos (starEach [] X.env)).any (·.1) = false := by rfl) {K : PySem.W.Frag} (hK : X.K = K := by rfl) :
    DF X (.Call (.Name "tuple" p) [e] [] pos) (tCB (rTupF K) (tCons te tNil)) (op1 gTuple f) := by
  subst hK
  exact dg_cT call_tupF rz_tuple hg m (by decide +kernel) h (by decide) (by decide) he hpl
theorem dn_list (m : X.mg "list" = none) (h : DB X e te f) (hg : Gl X "list" := by rfl) (he : starEach [e] X.env = (false, eval e X.env) :: starEach [] X.env := by rfl) (hpl : (backTo pos (starEach [] X.env)).any (·.1) = false := by rfl) {K : PySem.W.Frag} (hK : X.K = K := by rfl) :
    DN X (.Call (.Name "list" p) [e] [] pos) (tCB (rListQ K) (tCons te tNil)) (op1 gList f) := by
  subst hK
  exact dg_cT call_list_of rz_list hg m (by decide +kernel) h (by decide) (by decide) he hpl
theorem df_all (m : X.mg "all" = none) (h : DB X e te f) (hc : X.calm = true := by rfl) (hg : Gl X "all" := by rfl) (he : starEach [e] X.env = (false, eval e X.env) :: starEach [] X.env := by rfl) (hpl : (backTo pos (starEach [] X.env)).any (·.1) = false := by rfl) {K : PySem.W.Frag} (hK : X.K = K := by rfl) :
    DF X (.Call (.Name "all" p) [e] [] pos) (tCB (rAll K) (tCons te tNil)) (op1 gAll f) := by
  subst hK
  exact dg_cB (cr_all hc) rz_all hg m (by decide +kernel) h (by decide) (by decide) he hpl
theorem df_any (m : X.mg "any" = none) (h : DB X e te f) (hc : X.calm = true := by rfl) (hg : Gl X "any" := by rfl) (he : starEach [e] X.env = (false, eval e X.env) :: starEach [] X.env := by rfl) (hpl : (backTo pos (starEach [] X.env)).any (·.1) = false := by rfl) {K : PySem.W.Frag} (hK : X.K = K := by rfl) :
    DF X (.Call (.Name "any" p) [e] [] pos) (tCB (rAny K) (tCons te tNil)) (op1 gAny f) := by
  subst hK
  exact dg_cB (cr_any hc) rz_any hg m (by decide +kernel) h (by decide) (by decide) he hpl
theorem df_max (hu : X.A.units + 65 < cLine) (m : X.mg "max" = none) (h : DB X e te f) (hc : X.calm = true := by rfl) (hg : Gl X "max" := by rfl) (he : starEach [e] X.env = (false, eval e X.env) :: starEach [] X.env := by rfl) (hpl : (backTo pos (starEach [] X.env)).any (·.1) = false := by rfl) {K : PySem.W.Frag} (hK : X.K = K := by rfl) :
    DF X (.Call (.Name "max" p) [e] [] pos) (tCB (rMaxF K) (tCons te tNil)) (op1 gMax f) := by
  subst hK
  exact dg_cB (cr_maxF hc (by omega)) rz_max hg m (by decide +kernel) h (by decide) (by decide) he hpl
theorem df_abs (m : X.mg "abs" = none) (h : DB X e te f) (hg : Gl X "abs" := by rfl) (he : starEach [e] X.env = (false, eval e X.env) :: starEach [] X.env := by rfl) (hpl : (backTo pos (starEach [] X.env)).any (·.1) = false := by rfl) :
    DF X (.Call (.Name "abs" p) [e] [] pos) (tCB rAbsQ (tCons te tNil)) (op1 gAbs f) := dg_cB call_abs rz_abs hg m (by decide +kernel) h (by decide) (by decide) he hpl
theorem df_intc (m : X.mg "int" = none) (h : DB X e te f) (hg : Gl X "int" := by rfl) (he : starEach [e] X.env = (false, eval e X.env) :: starEach [] X.env := by rfl) (hpl : (backTo pos (starEach [] X.env)).any (·.1) = false := by rfl) :
    DF X (.Call (.Name "int" p) [e] [] pos) (tCB rIntQ (tCons te tNil)) (op1 gInt f) := dg_cT call_int1 rz_int hg m (by decide +kernel) h (by decide) (by decide) he hpl
theorem df_isC (T : Ty1) (mi : X.mg "isinstance" = none) (mt : X.mg y = none) (hv : bootBuiltins y = some (.type T.nm)) (h : DF X e te f) (hg : Gl X "isinstance" := by rfl) (hgt : Gl X y := by rfl) (hn : y ≠ "__name__" := by decide) (hd : (y == ("__debug__" : Str)) = false := by decide)
    (he : starEach [e, .Name y p2] X.env = (false, eval e X.env) :: starEach [.Name y p2] X.env := by rfl) (he2 : starEach [.Name y p2] X.env = (false, eval (.Name y p2) X.env) :: starEach [] X.env := by rfl) (hpl : (backTo pos (starEach [.Name y p2] X.env)).any (·.1) = false := by rfl) {K : PySem.W.Frag} (hK : X.K = K := by rfl) :
    DF X (.Call (.Name "isinstance" p) [e, .Name y p2] [] pos) (tCB (rIsi K) (tCons te (tCons (tC (.ty T.nm)) tNil))) (eIs T f) := by
  subst hK
  exact df_is T (pe_callB call_isi hg mi (by decide +kernel) (pa_cons h.pe (pa_cons (pe_bltn hgt mt hv rfl hn hd) pa_nil he2) he) (by decide) (by decide) he hpl) h.sm
theorem df_isC2 {y1 y2 : Str} {q1 q2 q3 : Pos} {kk : Nat} (T1 T2 : Ty1) (mi : X.mg "isinstance" = none) (mt1 : X.mg y1 = none) (mt2 : X.mg y2 = none) (hv1 : bootBuiltins y1 = some (.type T1.nm)) (hv2 : bootBuiltins y2 = some (.type T2.nm)) (h : DF X e te f) (hg : Gl X "isinstance" := by rfl) (hg1 : Gl X y1 := by rfl) (hg2 : Gl X y2 := by rfl)
    (hn1 : y1 ≠ "__name__" := by decide) (hd1 : (y1 == ("__debug__" : Str)) = false := by decide) (hn2 : y2 ≠ "__name__" := by decide) (hd2 : (y2 == ("__debug__" : Str)) = false := by decide)
    (he : starEach [e, .Tuple [.Name y1 q1, .Name y2 q2] kk q3] X.env = (false, eval e X.env) :: starEach [.Tuple [.Name y1 q1, .Name y2 q2] kk q3] X.env := by rfl) (he2 : starEach [.Tuple [.Name y1 q1, .Name y2 q2] kk q3] X.env = (false, eval (.Tuple [.Name y1 q1, .Name y2 q2] kk q3) X.env) :: starEach [] X.env := by rfl)
    (h3 : starEach [.Name y1 q1, .Name y2 q2] X.env = (false, eval (.Name y1 q1) X.env) :: starEach [.Name y2 q2] X.env := by rfl) (h4 : starEach [.Name y2 q2] X.env = (false, eval (.Name y2 q2) X.env) :: starEach [] X.env := by rfl)
    (hpl : (backTo pos (starEach [.Tuple [.Name y1 q1, .Name y2 q2] kk q3] X.env)).any (·.1) = false := by rfl) {K : PySem.W.Frag} (hK : X.K = K := by rfl) :
    DF X (.Call (.Name "isinstance" p) [e, .Tuple [.Name y1 q1, .Name y2 q2] kk q3] [] pos) (tCB (rIsiT K) (tCons te (tCons (tTup (tCons (tC (.ty T1.nm)) (tCons (tC (.ty T2.nm)) tNil))) tNil))) (eIs2 T1 T2 f) := by
  subst hK
  exact df_is2 T1 T2 (pe_callB call_isiT hg mi (by decide +kernel) (pa_cons h.pe (pa_cons (pe_tup (pa_cons (pe_bltn hg1 mt1 hv1 rfl hn1 hd1) (pa_cons (pe_bltn hg2 mt2 hv2 rfl hn2 hd2) pa_nil h4) h3)) pa_nil he2) he) (by decide) (by decide) he hpl) h.sm
/-! operators -/
variable {a b : Expr} {t1 t2 : TE} {g1 g2 : DEnv → M PyData}
theorem df_add (h1 : DB X a t1 g1) (h2 : DB X b t2 g2) : DF X (.BinOp a .Add b pos) (tOp qAdd t1 t2) (op2 gAdd g1 g2) := dg_op op_add rz_add h1 h2
theorem df_mul (h1 : DB X a t1 g1) (h2 : DB X b t2 g2) : DF X (.BinOp a .Mult b pos) (tOp qMul t1 t2) (op2 gMul g1 g2) := dg_op op_mul rz_mul h1 h2
theorem df_mod (h1 : DB X a t1 g1) (h2 : DB X b t2 g2) : DF X (.BinOp a .Mod b pos) (tOp qMod t1 t2) (op2 gMod g1 g2) := dg_op op_mod rz_mod h1 h2
theorem df_fdiv (h1 : DB X a t1 g1) (h2 : DB X b t2 g2) : DF X (.BinOp a .FloorDiv b pos) (tOp qFdiv t1 t2) (op2 gFdiv g1 g2) := dg_op op_fdiv rz_fdiv h1 h2
theorem df_pow (h1 : DB X a t1 g1) (h2 : DB X b t2 g2) : DF X (.BinOp a .Pow b pos) (tOp qPow t1 t2) (op2 gPow g1 g2) := dg_op op_pow rz_pow h1 h2
theorem df_catT (h1 : DB X a t1 g1) (h2 : DB X b t2 g2) : DF X (.BinOp a .Add b pos) (tOp rCatF t1 t2) (op2 gCatT g1 g2) := dg_op op_catF rz_catT h1 h2
theorem df_lt (h1 : DB X a t1 g1) (h2 : DB X b t2 g2) : DF X (.Compare a [.Lt] [b] pos) (tOp qLt t1 t2) (op2 gLt g1 g2) := dg_cmp op_lt rz_lt h1 h2 (nomark _)
theorem df_gt (h1 : DB X a t1 g1) (h2 : DB X b t2 g2) : DF X (.Compare a [.Gt] [b] pos) (tOp qGt t1 t2) (op2 gGt g1 g2) := dg_cmp op_gt rz_gt h1 h2 (nomark _)
theorem df_ge (h1 : DB X a t1 g1) (h2 : DB X b t2 g2) : DF X (.Compare a [.GtE] [b] pos) (tOp qGe t1 t2) (op2 gGe g1 g2) := dg_cmp op_ge rz_ge h1 h2 (nomark _)
theorem df_eq (hu : X.A.units + 65 < cLine) (h1 : DB X a t1 g1) (h2 : DB X b t2 g2) {K : PySem.W.Frag} (hK : X.K = K := by rfl) : DF X (.Compare a [.Eq] [b] pos) (tOp (rEqD K) t1 t2) (op2 gEq g1 g2) := by
  subst hK
  exact dg_cmp (op_eqD (by omega)) rz_eq h1 h2 (nomark _)
theorem df_ne (hu : X.A.units + 65 < cLine) (h1 : DB X a t1 g1) (h2 : DB X b t2 g2) {K : PySem.W.Frag} (hK : X.K = K := by rfl) : DF X (.Compare a [.NotEq] [b] pos) (tOp (rNeD K) t1 t2) (op2 gNe g1 g2) := by
  subst hK
  exact dg_cmp (op_neD (by omega)) rz_ne h1 h2 (nomark _)
theorem df_isNn (h1 : DB X a t1 g1) (h2 : DB X b t2 g2) : DF X (.Compare a [.Is] [b] pos) (tOp qIs t1 t2) (op2 gIs g1 g2) := dg_cmp op_isN rz_is h1 h2 (nomark _)
theorem df_notIn (hu : X.A.units + 65 < cLine) (h1 : DB X a t1 g1) (h2 : DB X b t2 g2) (hm : behindInMarks .NotIn b = false := by rfl) {K : PySem.W.Frag} (hK : X.K = K := by rfl) : DF X (.Compare a [.NotIn] [b] pos) (tOp (rNotInD K) t1 t2) (op2 gNotIn g1 g2) := by
  subst hK
  exact dg_cmp (op_notInD hu) rz_notIn h1 h2 hm
theorem df_ix (h1 : DB X a t1 g1) (h2 : DB X b t2 g2) (hs : PlainIx b := by exact fun _ _ => rfl) {K : PySem.W.Frag} (hK : X.K = K := by rfl) : DF X (.Subscript a b pos) (tOp (rIx K) t1 t2) (op2 gIx g1 g2) := by
  subst hK
  exact dg_ix ix_seq rz_ix h1 h2 hs
/-! .. as tests -/
theorem dt_lt (h1 : DB X a t1 g1) (h2 : DB X b t2 g2) : DT X (.Compare a [.Lt] [b] pos) (tTest (tOp qLt t1 t2)) (tst (op2 gLt g1 g2)) := dt_cmp op_lt rz_lt h1 h2 (nomark _)
theorem dt_gt (h1 : DB X a t1 g1) (h2 : DB X b t2 g2) : DT X (.Compare a [.Gt] [b] pos) (tTest (tOp qGt t1 t2)) (tst (op2 gGt g1 g2)) := dt_cmp op_gt rz_gt h1 h2 (nomark _)
theorem dt_ge (h1 : DB X a t1 g1) (h2 : DB X b t2 g2) : DT X (.Compare a [.GtE] [b] pos) (tTest (tOp qGe t1 t2)) (tst (op2 gGe g1 g2)) := dt_cmp op_ge rz_ge h1 h2 (nomark _)
theorem dt_eq (hu : X.A.units + 65 < cLine) (h1 : DB X a t1 g1) (h2 : DB X b t2 g2) {K : PySem.W.Frag} (hK : X.K = K := by rfl) : DT X (.Compare a [.Eq] [b] pos) (tTest (tOp (rEqD K) t1 t2)) (tst (op2 gEq g1 g2)) := by
  subst hK
  exact dt_cmp (op_eqD (by omega)) rz_eq h1 h2 (nomark _)
theorem dt_ne (hu : X.A.units + 65 < cLine) (h1 : DB X a t1 g1) (h2 : DB X b t2 g2) {K : PySem.W.Frag} (hK : X.K = K := by rfl) : DT X (.Compare a [.NotEq] [b] pos) (tTest (tOp (rNeD K) t1 t2)) (tst (op2 gNe g1 g2)) := by
  subst hK
  exact dt_cmp (op_neD (by omega)) rz_ne h1 h2 (nomark _)
theorem dt_isNn (h1 : DB X a t1 g1) (h2 : DB X b t2 g2) : DT X (.Compare a [.Is] [b] pos) (tTest (tOp qIs t1 t2)) (tst (op2 gIs g1 g2)) := dt_cmp op_isN rz_is h1 h2 (nomark _)
/-! index -/
theorem df_ixL (hu : X.A.units + 65 < cLine) (ho : DB X a t1 g1) (h : DF X e te f) (hbase : attributeBase a "index" X.env (eval a X.env) = eval a X.env := by rfl)
    (hfew : ((backTo cpos (starEach [e] X.env)).all (fun x => !x.1) && (backToKw cpos (keywordEach [] X.env)).all (fun x => x.1.isSome)
      && decide ([e].length + ([] : List Keyword).length + (if ([] : List Keyword).isEmpty then 0 else 1) < 30)) = true := by rfl)
    (hline : (apos.endLine == cpos.line) = true := by rfl) (hs : starEach [e] X.env = (false, eval e X.env) :: starEach [] X.env := by rfl) (hplain : (backTo cpos (starEach [] X.env)).any (·.1) = false := by rfl) {K : PySem.W.Frag} (hK : X.K = K := by rfl) :
    DF X (.Call (.Attribute a "index" apos) [e] [] cpos) (tBM K "list" (rIndexD K) t1 (tCons te tNil)) (op2 gIndexL g1 f) := by
  subst hK
  exact df_indexL (pe_bm PySem.F.plainAttrs_list PySem.F.slot_list_index PySem.F.type_list_index (mt_indexD hu) ho.pe (pa_cons h.pe pa_nil hs) hbase hfew hline hs hplain) ho.sm h.sm
theorem df_ixT (ho : DF X a t1 g1) (h : DF X e te f) (hbase : attributeBase a "index" X.env (eval a X.env) = eval a X.env := by rfl)
    (hfew : ((backTo cpos (starEach [e] X.env)).all (fun x => !x.1) && (backToKw cpos (keywordEach [] X.env)).all (fun x => x.1.isSome)
      && decide ([e].length + ([] : List Keyword).length + (if ([] : List Keyword).isEmpty then 0 else 1) < 30)) = true := by rfl)
    (hline : (apos.endLine == cpos.line) = true := by rfl) (hs : starEach [e] X.env = (false, eval e X.env) :: starEach [] X.env := by rfl) (hplain : (backTo cpos (starEach [] X.env)).any (·.1) = false := by rfl) {K : PySem.W.Frag} (hK : X.K = K := by rfl) :
    DF X (.Call (.Attribute a "index" apos) [e] [] cpos) (tTix t1 te) (op2 gIndexT g1 f) := by
  subst hK
  exact df_indexT (pe_tix ho.pe h.pe hbase hfew hline hs hplain) ho.sm h.sm
/-! statements -/
variable {sts : List Stmt} {nm nm2 nm3 : Str} {i j l : Nat}
theorem dst_set (hN : X.N.Nodup) (hx : Loc X.env.scope nm) (h : DF X e te f) (hi : X.N[i]? = some nm := by rfl) (hs : swapsWith e (some (.Name nm p)) pos.line X.env = pure false := by rfl) (hf : X.fn nm = true ∨ X.env.scope.names.lookup nm = some .local := by first | exact .inl rfl | exact .inr rfl | assumption) :
    DS X (.Assign [.Name nm p] e pos) (tAsg te (gName i)) (sSet i f) := ds_set (ps_set hN hi hx h.pe hs hf) h.sm
theorem dst_new (hN : X.N.Nodup) (hx : Loc X.env.scope nm) (h : DN X e te f) (hi : X.N[i]? = some nm := by rfl) (hs : swapsWith e (some (.Name nm p)) pos.line X.env = pure false := by rfl) (hf : X.fn nm = true ∨ X.env.scope.names.lookup nm = some .local := by first | exact .inl rfl | exact .inr rfl | assumption) :
    DS X (.Assign [.Name nm p] e pos) (tAsg te (gName i)) (sNew i f) := ds_new (ps_set hN hi hx h.pe hs hf) h.sm
theorem dst_lc {elt tg iter : Expr} {ifs : List Expr} {scope : Scope} {own : List (Str × Nat)} {spos : Pos} {wi : TI} {gt : TG} {tt : TT} {fi : DEnv → M (List Im)} {asg : Im → DEnv → Option DEnv} {is : List Nat} {t : DEnv → M Bool}
    (hN : X.N.Nodup) (hyl : X.env.scope.names.lookup nm = some .local) (hsw : swapsWith (.ListComp elt [⟨tg, iter, ifs, 0⟩] scope pos) (some (.Name nm p)) spos.line X.env = pure true) (hi : DI X tg iter wi fi) (ok : BlkOk X.N X.env.scope scope own) (his : ∀ i ∈ is, i ∈ own.map (·.2))
    (hg : ∀ (s : Shared) (H : Hp) (C : Addr) (cl : List (Str × Addr)) (fp : List Addr), DGt (X.blk s H scope (compEnvC scope cl C X.env) fp) tg gt asg is) (ht : ∀ (s : Shared) (H : Hp) (C : Addr) (cl : List (Str × Addr)) (fp : List Addr), DTs (X.blk s H scope (compEnvC scope cl C X.env) fp) ifs tt t)
    (he : ∀ (s : Shared) (H : Hp) (C : Addr) (cl : List (Str × Addr)) (fp : List Addr), DF (X.blk s H scope (compEnvC scope cl C X.env) fp) elt te f) (hc : X.calm = true := by rfl) (hj : X.N[i]? = some nm := by rfl) (hs : ∀ x, foldedSetIterable iter X.env x = pure x := by intro _; rfl) :
    DS X (.Assign [.Name nm p] (.ListComp elt [⟨tg, iter, ifs, 0⟩] scope pos) spos) (tAsg (tLc wi gt tt te (own.map (·.2))) (gName i)) (sNew i (eLc fi (own.map (·.2)) asg t f)) :=
  ds_new (ps_setLc hc hN hj hyl hsw hi.pi ok (fun s H C cl fp => (hg s H C cl fp).pg) (fun s H C cl fp => (ht s H C cl fp).pt) (fun s H C cl fp => (he s H C cl fp).pe) hs)
    (sg_lc hi.sm (hg X.s_0 X.H_0 0 [] []).sm his (ht X.s_0 X.H_0 0 [] []).sm (he X.s_0 X.H_0 0 [] []).sm)
theorem dst_unp {tg : Expr} {gt : TG} {asg : Im → DEnv → Option DEnv} {is : List Nat} (hg : DGt X tg gt asg is) (h : DF X e te f) (hs : swapsWithSole [tg] e pos.line X.env = pure false := by rfl) (hw : swappedStores [tg] e X.env = pure none := by rfl)
    (h1 : (assignEach [tg] X.env).map (·.2) = [assign tg X.env] := by rfl) : DS X (.Assign [tg] e pos) (tAsg te gt) (sUnp asg f) := ds_unp (ps_asg h.pe hg.pg hs hw h1) h.sm hg.sm
theorem dst_par2 {kt k2 : Nat} {pt pt2 : Pos} (hN : X.N.Nodup) (hij : i ≠ j) (ha : DA X [a, b] ta g) (hi : X.N[i]? = some nm := by rfl) (hj : X.N[j]? = some nm2 := by rfl) (hx : X.env.scope.names.lookup nm = some .local := by rfl) (hy : X.env.scope.names.lookup nm2 = some .local := by rfl)
    (hw : swappedStores [.Tuple [.Name nm p, .Name nm2 p2] kt pt] (.Tuple [a, b] k2 pt2) X.env = pure (some [nm, nm2]) := by rfl) (hs : swapsWithSole [.Tuple [.Name nm p, .Name nm2 p2] kt pt] (.Tuple [a, b] k2 pt2) pos.line X.env = pure false := by rfl) (hc : X.calm = true := by rfl) :
    DS X (.Assign [.Tuple [.Name nm p, .Name nm2 p2] kt pt] (.Tuple [a, b] k2 pt2) pos) (tPar i j ta) (sPar [i, j] g) := ds_par2 (ps_par hc hN hi hj hij hx hy ha.pa hw hs) ha.sm
theorem dst_par3 {c : Expr} {kt k2 : Nat} {pt pt2 : Pos} (hN : X.N.Nodup) (hij : i ≠ j) (hil : i ≠ l) (hjl : j ≠ l) (ha : DA X [a, b, c] ta g) (hi : X.N[i]? = some nm := by rfl) (hj : X.N[j]? = some nm2 := by rfl) (hl : X.N[l]? = some nm3 := by rfl)
    (hx : X.env.scope.names.lookup nm = some .local := by rfl) (hy : X.env.scope.names.lookup nm2 = some .local := by rfl) (hz : X.env.scope.names.lookup nm3 = some .local := by rfl)
    (hw : swappedStores [.Tuple [.Name nm p, .Name nm2 p2, .Name nm3 p3] kt pt] (.Tuple [a, b, c] k2 pt2) X.env = pure (some [nm, nm2, nm3]) := by rfl) (hs : swapsWithSole [.Tuple [.Name nm p, .Name nm2 p2, .Name nm3 p3] kt pt] (.Tuple [a, b, c] k2 pt2) pos.line X.env = pure false := by rfl) (hc : X.calm = true := by rfl) :
    DS X (.Assign [.Tuple [.Name nm p, .Name nm2 p2, .Name nm3 p3] kt pt] (.Tuple [a, b, c] k2 pt2) pos) (tPar3 i j l ta) (sPar [i, j, l] g) := ds_par3 (ps_par3 hc hN hi hj hl hij hil hjl hx hy hz ha.pa hw hs) ha.sm
theorem dst_parT {tg : Expr} {k2 : Nat} {pt2 : Pos} {is : List Nat} (hg : PG X tg (gTup X.K is.length (gNames is))) (ha : DA X es ta g) (hl : is.length ≤ 10 := by decide) (hs : swapsWithSole [tg] (.Tuple es k2 pt2) pos.line X.env = pure false := by rfl) (hw : swappedStores [tg] (.Tuple es k2 pt2) X.env = pure none := by rfl)
    (h1 : (assignEach [tg] X.env).map (·.2) = [assign tg X.env] := by rfl) : DS X (.Assign [tg] (.Tuple es k2 pt2) pos) (tAsg (tTup ta) (gTup X.K is.length (gNames is))) (sPar is g) := ds_parT (ps_asg (pe_tup ha.pa) hg hs hw h1) hl ha.sm
theorem dst_app (hv : PE X (.Name nm p) (tVar i)) (h : DF X e te f) (hbase : attributeBase (.Name nm p) "append" X.env (eval (.Name nm p) X.env) = eval (.Name nm p) X.env := by rfl)
    (hfew : ((backTo cpos (starEach [e] X.env)).all (fun x => !x.1) && (backToKw cpos (keywordEach [] X.env)).all (fun x => x.1.isSome)
      && decide ([e].length + ([] : List Keyword).length + (if ([] : List Keyword).isEmpty then 0 else 1) < 30)) = true := by rfl)
    (hline : (apos.endLine == cpos.line) = true := by rfl) (hs : starEach [e] X.env = (false, eval e X.env) :: starEach [] X.env := by rfl) (hplain : (backTo cpos (starEach [] X.env)).any (·.1) = false := by rfl)
    (hq : swapsWith (.Call (.Attribute (.Name nm p) "append" apos) [e] [] cpos) none pos.line X.env = pure false := by rfl) :
    DS X (.Expr (.Call (.Attribute (.Name nm p) "append" apos) [e] [] cpos) pos) (tDrop (tBM X.K "list" rAppend (tVar i) (tCons te tNil))) (sApp i f) :=
  ds_app (K := X.K) (ps_expr (pe_bm PySem.F.plainAttrs_list PySem.F.slot_list_append PySem.F.type_list_append mt_append hv (pa_cons h.pe pa_nil hs) hbase hfew hline hs hplain) hq) h.sm
theorem dst_ext (hv : PE X (.Name nm p) (tVar i)) (h : DN X e te f) (hbase : attributeBase (.Name nm p) "extend" X.env (eval (.Name nm p) X.env) = eval (.Name nm p) X.env := by rfl)
    (hfew : ((backTo cpos (starEach [e] X.env)).all (fun x => !x.1) && (backToKw cpos (keywordEach [] X.env)).all (fun x => x.1.isSome)
      && decide ([e].length + ([] : List Keyword).length + (if ([] : List Keyword).isEmpty then 0 else 1) < 30)) = true := by rfl)
    (hline : (apos.endLine == cpos.line) = true := by rfl) (hs : starEach [e] X.env = (false, eval e X.env) :: starEach [] X.env := by rfl) (hplain : (backTo cpos (starEach [] X.env)).any (·.1) = false := by rfl)
    (hq : swapsWith (.Call (.Attribute (.Name nm p) "extend" apos) [e] [] cpos) none pos.line X.env = pure false := by rfl) :
    DS X (.Expr (.Call (.Attribute (.Name nm p) "extend" apos) [e] [] cpos) pos) (tDrop (tBM X.K "list" rExtend (tVar i) (tCons te tNil))) (sExt i f) :=
  ds_ext (ps_expr (pe_bm PySem.F.plainAttrs_list PySem.F.slot_list_extend PySem.F.type_list_extend mt_extend hv (pa_cons h.pe pa_nil hs) hbase hfew hline hs hplain) hq) h.sm
theorem dst_appPop {a2 c2 : Pos} (hv : PE X (.Name nm p) (tVar i)) (hv2 : PE X (.Name nm2 p2) (tVar j)) (h : DF X e te f) (hbase : attributeBase (.Name nm p) "append" X.env (eval (.Name nm p) X.env) = eval (.Name nm p) X.env := by rfl)
    (hbase2 : attributeBase (.Name nm2 p2) "pop" X.env (eval (.Name nm2 p2) X.env) = eval (.Name nm2 p2) X.env := by rfl)
    (hfew : ((backTo cpos (starEach [.Call (.Attribute (.Name nm2 p2) "pop" a2) [e] [] c2] X.env)).all (fun x => !x.1) && (backToKw cpos (keywordEach [] X.env)).all (fun x => x.1.isSome)
      && decide ([Expr.Call (.Attribute (.Name nm2 p2) "pop" a2) [e] [] c2].length + ([] : List Keyword).length + (if ([] : List Keyword).isEmpty then 0 else 1) < 30)) = true := by rfl)
    (hfew2 : ((backTo c2 (starEach [e] X.env)).all (fun x => !x.1) && (backToKw c2 (keywordEach [] X.env)).all (fun x => x.1.isSome)
      && decide ([e].length + ([] : List Keyword).length + (if ([] : List Keyword).isEmpty then 0 else 1) < 30)) = true := by rfl)
    (hline : (apos.endLine == cpos.line) = true := by rfl) (hline2 : (a2.endLine == c2.line) = true := by rfl)
    (hs : starEach [.Call (.Attribute (.Name nm2 p2) "pop" a2) [e] [] c2] X.env = (false, eval (.Call (.Attribute (.Name nm2 p2) "pop" a2) [e] [] c2) X.env) :: starEach [] X.env := by rfl) (hplain : (backTo cpos (starEach [] X.env)).any (·.1) = false := by rfl)
    (hs2 : starEach [e] X.env = (false, eval e X.env) :: starEach [] X.env := by rfl) (hplain2 : (backTo c2 (starEach [] X.env)).any (·.1) = false := by rfl)
    (hq : swapsWith (.Call (.Attribute (.Name nm p) "append" apos) [.Call (.Attribute (.Name nm2 p2) "pop" a2) [e] [] c2] [] cpos) none pos.line X.env = pure false := by rfl) :
    DS X (.Expr (.Call (.Attribute (.Name nm p) "append" apos) [.Call (.Attribute (.Name nm2 p2) "pop" a2) [e] [] c2] [] cpos) pos) (tDrop (tBM X.K "list" rAppend (tVar i) (tCons (tBM X.K "list" rPopAt (tVar j) (tCons te tNil)) tNil))) (sAppPop i j f) :=
  ds_appPop (ps_expr (pe_bm PySem.F.plainAttrs_list PySem.F.slot_list_append PySem.F.type_list_append mt_append hv (pa_cons (pe_bm PySem.F.plainAttrs_list PySem.F.slot_list_pop PySem.F.type_list_pop mt_popAt hv2 (pa_cons h.pe pa_nil hs2) hbase2 hfew2 hline2 hs2 hplain2) pa_nil hs) hbase hfew hline hs hplain) hq) h.sm
theorem dst_put {k9 : Expr} {tk : TE} {fk : DEnv → M PyData} (hv : PE X (.Name nm p) (tVar i)) (hk : DF X k9 tk fk) (h : DF X e te f)
    (hs : swapsWithSole [.Subscript (.Name nm p) k9 p2] e pos.line X.env = pure false := by rfl) (hw : swappedStores [.Subscript (.Name nm p) k9 p2] e X.env = pure none := by rfl) (h1 : (assignEach [.Subscript (.Name nm p) k9 p2] X.env).map (·.2) = [assign (.Subscript (.Name nm p) k9 p2) X.env] := by rfl)
    (ha : ∀ v, assign (.Subscript (.Name nm p) k9 p2) X.env v = (do
      let ov ← holding [v] (eval (.Name nm p) X.env)
      let iv ← holding [v, ov] (eval k9 X.env)
      standAt p2
      holding [v, ov, iv] (setItem ov iv v)
      release [v, ov, iv] []) := by intro _; rfl) : DS X (.Assign [.Subscript (.Name nm p) k9 p2] e pos) (tAsg te (gSub (tVar i) tk rSetL)) (sPut i f fk) := ds_put (ps_asg h.pe (pg_sub hv hk.pe set_list ha) hs hw h1) h.sm hk.sm
theorem dst_putU {kk : Nat} {z : Int} (hv : PE X (.Name nm p) (tVar i)) (h : DF X e te f)
    (hs : swapsWithSole [.Subscript (.Name nm p) (.Constant (.int z) kk p3) p2] e pos.line X.env = pure false := by rfl) (hw : swappedStores [.Subscript (.Name nm p) (.Constant (.int z) kk p3) p2] e X.env = pure none := by rfl)
    (h1 : (assignEach [.Subscript (.Name nm p) (.Constant (.int z) kk p3) p2] X.env).map (·.2) = [assign (.Subscript (.Name nm p) (.Constant (.int z) kk p3) p2) X.env] := by rfl)
    (ha : ∀ v, assign (.Subscript (.Name nm p) (.Constant (.int z) kk p3) p2) X.env v = (do
      let ov ← holding [v] (eval (.Name nm p) X.env)
      let iv ← holding [v, ov] (eval (.Constant (.int z) kk p3) X.env)
      standAt p2
      holding [v, ov, iv] (setItem ov iv v)
      release [v, ov, iv] []) := by intro _; rfl) : DS X (.Assign [.Subscript (.Name nm p) (.Constant (.int z) kk p3) p2] e pos) (tAsg te (gSub (tVar i) (tC (.int z)) rSetL)) (sPutU i f z) := ds_putU (ps_asg h.pe (pg_sub hv pe_int set_list ha) hs hw h1) h.sm
end
section
variable {X : Cx} {tg e e2 : Expr} {te te2 : TE} {f f2 : DEnv → M PyData} {p p2 pos tpos : Pos} {elts : List Expr} {kk : Nat} {K : PySem.W.Frag} {lo hi : Option Expr} {tl th : TO} {fl fh : DEnv → M (Option Int)}
theorem dj_seq (h : DF X e te f) (hK : X.K = K := by rfl) : DI X tg e (iSeqA K te) (fSeq f) := by
  subst hK; exact di_seq h
theorem dj_enum (hm : X.mg "enumerate" = none) (h : DF X e te f) (hg : Gl X "enumerate" := by rfl) (hs : starEach [e] X.env = [(false, eval e X.env)] := by rfl) (hK : X.K = K := by rfl) :
    DI X (.Tuple elts kk tpos) (.Call (.Name "enumerate" p) [e] [] pos) (iEnumA K (tCons te tNil)) (fEnum f) := by
  subst hK; exact di_enum hg hm h hs
theorem dj_zip (hm : X.mg "zip" = none) (h : DF X e te f) (h2 : DF X e2 te2 f2) (hg : Gl X "zip" := by rfl)
    (hs : starEach [e, e2] X.env = (false, eval e X.env) :: starEach [e2] X.env := by rfl) (hs2 : starEach [e2] X.env = (false, eval e2 X.env) :: starEach [] X.env := by rfl) (hpl : (backTo pos (starEach [e2] X.env)).any (·.1) = false := by rfl) (hK : X.K = K := by rfl) :
    DI X (.Tuple elts kk tpos) (.Call (.Name "zip" p) [e, e2] [] pos) (RZ.iZipA K (tCons te (tCons te2 tNil))) (fZip f f2) := by
  subst hK; exact di_zip hg hm h h2 hs hs2 hpl
theorem dj_range (hm : X.mg "range" = none) (h : DF X e te f) (hg : Gl X "range" := by rfl) (hs : starEach [e] X.env = [(false, eval e X.env)] := by rfl) : DI X tg (.Call (.Name "range" p) [e] [] pos) (iRng1 (tCons te tNil)) (fRng f) := di_range hg hm h hs
theorem dnj_listRg {pos2 : Pos} (hm : X.mg "list" = none) (hm2 : X.mg "range" = none) (h : DF X e te f) (hg : Gl X "list" := by rfl) (hg2 : Gl X "range" := by rfl) (hc : X.calm = true := by rfl) (na : starEach [e] X.env = (false, eval e X.env) :: starEach [] X.env := by rfl)
    (nb : starEach [Expr.Call (.Name "range" p2) [e] [] pos2] X.env = (false, eval (Expr.Call (.Name "range" p2) [e] [] pos2) X.env) :: starEach [] X.env := by rfl) :
    DN X (.Call (.Name "list" p) [Expr.Call (.Name "range" p2) [e] [] pos2] [] pos) (tLstRg (tRg1 te)) (op1 gRgL f) := dn_listRg hg hm hg2 hm2 hc h na nb
theorem dfj_tupRg {pos2 : Pos} (hm : X.mg "tuple" = none) (hm2 : X.mg "range" = none) (h : DF X e te f) (hg : Gl X "tuple" := by rfl) (hg2 : Gl X "range" := by rfl) (hc : X.calm = true := by rfl) (na : starEach [e] X.env = (false, eval e X.env) :: starEach [] X.env := by rfl)
    (nb : starEach [Expr.Call (.Name "range" p2) [e] [] pos2] X.env = (false, eval (Expr.Call (.Name "range" p2) [e] [] pos2) X.env) :: starEach [] X.env := by rfl) :
    DF X (.Call (.Name "tuple" p) [Expr.Call (.Name "range" p2) [e] [] pos2] [] pos) (tTupRgF (tRg1 te)) (op1 gRgT f) := df_tupRg hg hm hg2 hm2 hc h na nb
theorem dj_tup {es : List Expr} {k : Nat} (is : List Nat) (h : PG X (.Tuple es k pos) (gTup X.K is.length (gNames is))) (hK : X.K = K := by rfl) : DGt X (.Tuple es k pos) (gTup K is.length (gNames is)) (aTup is) is := by
  subst hK; exact dg_tup is h
theorem dnj_sl (h : DB X e te f) (hl : DO X lo tl fl) (hh : DO X hi th fh) (hK : X.K = K := by rfl) : DN X (.Subscript e (.Slice lo hi none p2) pos) (tSl (rSlL K) te tl th) (eSlL f fl fh) := by
  subst hK; exact dn_sl h hl hh
end
section
variable {P : Program} {w : World} {K : PySem.W.Frag} {mg : Str → Option Value} {base : Heap}
theorem cal_none {x : Str} {st : Stmt} {ps : List Str} {n : Nat} (D : Def K mg x st)
    (b : ∀ (kV doc pm : Value) (an : Option Addr) (cdv ct : Value) (us : List Value), us.length = ps.length → bindArgs (PySem.W.fnOf x x (defArgs st) (defBody st) (defScope st) .none kV doc pm an cdv ct) ⟨us, []⟩ = pure (ps.zip us)) : Cal P w K mg base CX0 0 x ps (spF K n fun _ _ => none) := by
  obtain ⟨f, fd, F, m⟩ := D
  have no : ∀ vs H Q E, ¬ spF K n (fun _ _ => none) vs H Q E := fun vs H Q E h => by
    obtain ⟨_, _, _, _, _, _, _, _, _, h, _⟩ := h
    cases h
  exact ⟨f, fd, ⟨fun vs H Q E h => (no vs H Q E h).elim, fun A outer s H args us vs Q E _ _ _ _ h => (no vs H Q E h).elim⟩, m, F.kp, F.bindsN b⟩
end
end DL

set_option Elab.async false
set_option linter.all false
set_option maxRecDepth 100000
set_option maxHeartbeats 4000000
/-! DL8: dicts whose keys are data, as as_they_come uses them. -/
namespace DL
open PySem PySem.Spec PyProof.Rows L2

mutual
def keyOf : PyData → Option NestedKey
  | .none => some .none
  | .bool b => some (.num (if b = true then 1 else 0))
  | .int i => some (.num i)
  | .str x => some (.text x)
  | .tuple xs => (keysOf xs).map .tup
  | .list _ => none
  | .dict _ => none
def keysOf : List PyData → Option (List NestedKey)
  | [] => some []
  | x :: xs => (keyOf x).bind fun k => (keysOf xs).map (k :: ·)
end
section
variable {X : Cx} {pins : List (Addr × Obj)} {σ : L2.St} {H : Hp} {s : Shared}
mutual
theorem fz_key (I : Inv X pins σ H s) : ∀ (d : PyData) (v : V) (u : Value) (k : NestedKey), Fz X.K H v d → RelV v u → keyOf d = some k → NestedIs s.heap k u
  | .none, _, _, _, h, r, e => by
    cases h; cases e; cases r; exact .none
  | .bool b, _, _, _, h, r, e => by
    cases h; cases e; cases r; exact .bool rfl
  | .int i, _, _, _, h, r, e => by
    cases h; cases e; obtain ⟨t, rfl⟩ := r; exact .int _ _
  | .str x, _, _, _, h, r, e => by
    cases h; cases e; obtain ⟨t, rfl⟩ := r; exact .text _ _
  | .tuple xs, _, _, _, h, r, e => by
    cases h with
    | tup ht fa =>
      obtain ⟨ks, e1, rfl⟩ := Option.map_eq_some_iff.mp (show (keysOf xs).map NestedKey.tup = some _ from by simpa [keyOf] using e)
      cases r
      obtain ⟨its, rv, ⟨o, ho, hc, n, hd⟩, _⟩ := I.tuple (ht.t (K := X.K))
      exact .tup ho hc hd (by simpa using fza_key I xs _ _ ks fa rv e1)
  | .list _, _, _, _, _, _, e => by simp [keyOf] at e
  | .dict _, _, _, _, _, _, e => by simp [keyOf] at e
theorem fza_key (I : Inv X pins σ H s) : ∀ (ds : List PyData) (vs : List V) (us : List Value) (ks : List NestedKey), FzA X.K H vs ds → Vals vs us → keysOf ds = some ks → NestedAll s.heap ks us
  | [], _, _, _, h, r, e => by
    cases h; cases r; simp [keysOf] at e; subst e; exact .nil
  | d :: ds, _, _, _, h, r, e => by
    cases h with
    | cons h1 h2 =>
      cases r with
      | cons r1 r2 =>
        obtain ⟨k, e1, e2⟩ := Option.bind_eq_some_iff.mp (show (keyOf d).bind (fun k => (keysOf ds).map (k :: ·)) = some _ from by simpa [keysOf] using e)
        obtain ⟨ks, e3, rfl⟩ := Option.map_eq_some_iff.mp e2
        exact .cons (fz_key I d _ _ k h1 r1 e1) (fza_key I ds _ _ ks h2 r2 e3)
end
end

/-- the place of a key -/
def idxK (k : NestedKey) : List NestedKey → Option Nat
  | [] => none
  | x :: xs => if x = k then some 0 else (idxK k xs).map (· + 1)

/-- a kind of dict, by what the rules ask -/
structure DM (X : Cx) (ho : List (NestedKey × V) → Addr → HO) (kok : Hp → NestedKey → V → Prop) : Prop where
  mono : ∀ {H H' k v}, Pers H H' → kok H k v → kok H' k v
  ne1 : ∀ ks d xs, ho ks d ≠ .lst xs
  ne2 : ∀ ks d xs, ho ks d ≠ .tup xs
  ne3 : ∀ ks d o xs, ho ks d ≠ .frz o xs
  d0 : ∀ pos, PE X (.Dict [] [] pos) (fun _ H Q => ∀ p, H p = none → Q (.ref p) (upd H p (ho [] p)))
  len : ∀ {pins σ H s d ks} {Q : Value → Shared → Prop}, Inv X pins σ H s → H d = some (ho ks d) → ks.length ≤ lim → (∀ t s', Inv X pins σ H s' → Q (.int (ks.length : Nat) t) s') →
    wpAny (model X.prog X.w) X.A (call (.builtin "len") [.ref d]) Q X.xe s
  ty : ∀ {pins σ H s d ks}, Inv X pins σ H s → H d = some (ho ks d) → s.TypeIs (.ref d) "dict" ∧ ∃ ob, s.heap.get? d = some ob ∧ ob.dict = none
  setd : ∀ {pins σ H s d ks k y u t} {Q : Value → Shared → Prop}, Inv X pins σ H s → H d = some (ho ks d) → (∀ kv ∈ ks, kok H kv.1 kv.2) → kok H k y → RelV y u → ks.length < lim →
    (∀ j, idxK k (ks.map (·.1)) = some j → ∀ t s', Inv X pins σ H s' → Q (.int (j : Nat) t) s') →
    (idxK k (ks.map (·.1)) = none → ∀ s', Inv X pins σ (upd H d (ho (ks ++ [(k, y)]) d)) s' → Q (.int (ks.length : Nat) t) s') →
    wpAny (model X.prog X.w) X.A (call (.builtin "dict.setdefault") [.ref d, u, .int (ks.length : Nat) t]) Q X.xe s

/-! ### keys that are tuples -/
def xsT (kas : List (NestedKey × V)) (xs : List (NestedKey × Addr × Value)) : Prop := xs.map (fun x => (x.1, V.ref x.2.1)) = kas ∧ ∀ (i : Nat) x, xs[i]? = some x → ∃ t, x.2.2 = .int (i : Nat) t
def phT (P : Program) (w : World) (d : Addr) (kas : List (NestedKey × V)) (h : Heap) : Prop := (d == sysModules) = false ∧ ∃ xs, xsT kas xs ∧ ∃ o es ep, h.get? d = some o ∧ o.ExactDict ∧ o.data = .dict es ep ∧ es.toList = xs.map (entryOfKey (nestedKind P w)) ∧ (xs.map (·.1)).Nodup
def hoT (P : Program) (w : World) (kas : List (NestedKey × V)) (d : Addr) : HO := .ext (phT P w d kas)
def kokT (K : PySem.W.Frag) (H : Hp) (k : NestedKey) (v : V) : Prop := ∃ a dat, v = .ref a ∧ Fz K H v dat ∧ keyOf dat = some k ∧ k.depth ≤ 8
theorem phT_at {P : Program} {w : World} {d : Addr} {kas : List (NestedKey × V)} {h1 h2 : Heap} (p : phT P w d kas h1) (k : ∀ o, h1.get? d = some o → h2.get? d = some o) : phT P w d kas h2 := by
  obtain ⟨a, xs, b, o, es, ep, c, e⟩ := p
  exact ⟨a, xs, b, o, es, ep, k o c, e⟩
theorem idxK_atKey {k : NestedKey} : ∀ {xs : List (NestedKey × Addr × Value)} {n : Nat}, (∀ (i : Nat) x, xs[i]? = some x → ∃ t, x.2.2 = .int ((n + i : Nat) : Int) t) →
    (∀ p, atKey xs k = some p → ∃ j t, idxK k (xs.map (·.1)) = some j ∧ p.2 = .int ((n + j : Nat) : Int) t) ∧ (atKey xs k = none → idxK k (xs.map (·.1)) = none)
  | [], n, h => ⟨fun p e => by simp [atKey] at e, fun _ => rfl⟩
  | x :: xs, n, h => by
    by_cases c : x.1 = k
    · refine ⟨fun p e => ?_, fun e => by simp [atKey, c] at e⟩
      have e' : x.2 = p := by simpa [atKey, c] using e
      obtain ⟨t, ht⟩ := h 0 x rfl
      exact ⟨0, t, by simp [idxK, c], by rw [← e', ht]⟩
    · have ih := idxK_atKey (k := k) (xs := xs) (n := n + 1) fun i y hy => by
        obtain ⟨t, ht⟩ := h (i + 1) y (by simpa using hy)
        exact ⟨t, by rw [ht]; congr 2; omega⟩
      have ea : atKey (x :: xs) k = atKey xs k := by simp [atKey, c]
      rw [ea]
      refine ⟨fun p e => ?_, fun e => by simp [idxK, c, ih.2 e]⟩
      obtain ⟨j, t, h1, h2⟩ := ih.1 p e
      exact ⟨j + 1, t, by simp [idxK, c, h1], by rw [h2]; congr 2; omega⟩
theorem kokT_is {X : Cx} {pins : List (Addr × Obj)} {σ : L2.St} {H : Hp} {s : Shared} {k : NestedKey} {v : V} (I : Inv X pins σ H s) (h : kokT X.K H k v) : ∃ a, v = .ref a ∧ (nestedKind X.prog X.w).is s.heap k a := by
  obtain ⟨a, dat, rfl, h1, h2, h3⟩ := h
  exact ⟨a, rfl, fz_key I dat _ _ k h1 rfl h2, h3⟩
theorem dmT {X : Cx} (hu : X.A.units + 65 < cLine) : DM X (hoT X.prog X.w) (kokT X.K) where
  mono := fun p ⟨a, dat, h1, h2, h3⟩ => ⟨a, dat, h1, Fz.mono p _ _ h2, h3⟩
  ne1 := fun _ _ _ z => nomatch z
  ne2 := fun _ _ _ z => nomatch z
  ne3 := fun _ _ _ _ z => nomatch z
  d0 := fun pos => ⟨fun pins s σ H Q I h => by
    have new : ObjOk X.prog X.w (upd H s.heap.objs.size (hoT X.prog X.w [] s.heap.objs.size)) (s.heap.push { cls := .type "dict", data := .dict #[] }) s.heap.objs.size (hoT X.prog X.w [] s.heap.objs.size) := by
      refine ⟨⟨beq_eq_false_iff_ne.mpr (Ne.symm (Nat.ne_of_lt I.big)), [], ⟨rfl, fun i x e => by simp at e⟩, _, #[], 0, Heap.get?_push_size _ rfl, ⟨rfl, rfl, rfl⟩, rfl, rfl, List.nodup_nil⟩, ⟨_, Heap.get?_push_size _ rfl⟩, fun h1 h2 p k => phT_at p k⟩
    exact wpAny_Dict_empty ⟨.ref s.heap.objs.size, _, I.laid (a := s.heap.objs.size) (o := hoT X.prog X.w [] s.heap.objs.size) (t' := s.toks) (fun _ _ q => Heap.get?_push_of_some _ q) (Nat.le_refl _) new, rfl, h _ (I.hok.fresh (Nat.le_refl _))⟩⟩
  len := fun {pins σ H s d ks Q} I hd hl q => by
    obtain ⟨⟨hs, xs, ⟨hx, _⟩, o, es, ep, ho, hex, hdat, hes, hnd⟩, _⟩ := (show ObjOk X.prog X.w H s.heap d (hoT X.prog X.w ks d) from I.hok d _ hd)
    have hn : es.size = ks.length := by
      have e1 : es.toList.length = xs.length := by rw [hes, List.length_map]
      have e2 : xs.length = ks.length := by rw [← hx, List.length_map]
      rw [← e2, ← e1, Array.length_toList]
    have raw : s.heap.DictRaw d es ep := ⟨o, ho, hex, hdat⟩
    have hlim : ks.length ≤ 100000 := hl
    refine PyProof.Rows.call_len_slot (n := (ks.length : Nat)) ⟨o, ho, hex.1⟩ PySem.F.slot_dict_len (fun Q' hq => call_len_raw hs raw (by rw [hn]; exact hq)) (by omega) (by omega) ?_
    exact q _ _ ((I.tok _).tok _)
  ty := fun {pins σ H s d ks} I hd => by
    obtain ⟨⟨hs, xs, _, o, es, ep, ho, hex, _⟩, _⟩ := (show ObjOk X.prog X.w H s.heap d (hoT X.prog X.w ks d) from I.hok d _ hd)
    exact ⟨⟨o, ho, hex.1⟩, o, ho, hex.2.1⟩
  setd := fun {pins σ H s d ks k y u t Q} I hd hks hk ru hl h1 h2 => by
    obtain ⟨⟨hs, xs, ⟨hx, hv⟩, o, es, ep, ho, hex, hdat, hes, hnd⟩, _⟩ := (show ObjOk X.prog X.w H s.heap d (hoT X.prog X.w ks d) from I.hok d _ hd)
    obtain ⟨a, rfl, hka⟩ := kokT_is I hk
    cases ru
    have hxs : ∀ x ∈ xs, (nestedKind X.prog X.w).is s.heap x.1 x.2.1 := fun x hm => by
      have hm' : (x.1, V.ref x.2.1) ∈ ks := by rw [← hx]; exact List.mem_map_of_mem hm
      obtain ⟨b, e1, e2⟩ := kokT_is I (hks _ hm')
      cases e1
      exact e2
    have ek : ks.map (·.1) = xs.map (·.1) := by rw [← hx, List.map_map]; rfl
    have hlen : xs.length = ks.length := by rw [← hx, List.length_map]
    have hv' : ∀ (i : Nat) x, xs[i]? = some x → ∃ t, x.2.2 = .int ((0 + i : Nat) : Int) t := fun i x e => by
      obtain ⟨t, ht⟩ := hv i x e
      exact ⟨t, by rw [ht, Nat.zero_add]⟩
    obtain ⟨f1, f2⟩ := idxK_atKey (k := k) hv'
    have hlim : ks.length < 100000 := hl
    refine call_setdefault_heap (knd := nestedKind X.prog X.w) (xs := xs) (by show X.A.in1.units + 8 < cLine; show X.A.units + 1 + 8 < cLine; omega) hka hs ⟨o, es, ep, ho, hex, hdat, hes, hxs, hnd⟩ (fun p hp => ?_) (fun hn h' hm hsb => ?_) (by rw [hlen, sizeLine_eq]; omega)
    · obtain ⟨j, t', g1, g2⟩ := f1 p hp
      rw [g2, Nat.zero_add]
      exact h1 j (by rw [ek]; exact g1) t' _ (I.tok _)
    · obtain ⟨o', es', ep', ho', hex', hdat', hes', _, hnd'⟩ := hm
      rw [storedH_new hn] at hes' hnd'
      have new : ObjOk X.prog X.w (upd H d (hoT X.prog X.w (ks ++ [(k, .ref a)]) d)) h' d (hoT X.prog X.w (ks ++ [(k, .ref a)]) d) := by
        refine ⟨⟨hs, xs ++ [(k, a, .int (ks.length : Nat) t)], ⟨by rw [List.map_append, hx]; rfl, fun i x e => ?_⟩, o', es', ep', ho', hex', hdat', hes', hnd'⟩, ⟨o', ho'⟩, fun a b p k => phT_at p k⟩
        by_cases c : i < xs.length
        · rw [List.getElem?_append_left c] at e
          exact hv i x e
        · rw [List.getElem?_append_right (by omega)] at e
          have e0 : i - xs.length = 0 := by
            obtain ⟨z, _⟩ := List.getElem?_eq_some_iff.mp e
            simp at z; omega
          rw [e0] at e
          simp at e
          subst e
          exact ⟨t, by show Value.int _ t = Value.int _ t; congr 2; omega⟩
      exact h2 (by rw [ek]; exact f2 hn) _ (I.write (x := d) (e := d) (t' := s.toks + (nestedKind X.prog X.w).draws k) (by rw [hd]; exact trivial) (.inl rfl) (fun b ob nb e => (hsb.2 b nb).trans e) ⟨o', ho'⟩ new)

/-! ### keys that are ints or bools -/
def phL (P : Program) (w : World) (d : Addr) (kas : List (NestedKey × V)) (h : Heap) : Prop := (d == sysModules) = false ∧ ∃ kvs : List (Leaf × Value), kvs.map (fun x => x.1.key) = kas.map (·.1) ∧ (∀ (i : Nat) x, kvs[i]? = some x → ∃ t, x.2 = .int (i : Nat) t) ∧ h.DictOf (leafKind P w) d kvs
def hoL (P : Program) (w : World) (kas : List (NestedKey × V)) (d : Addr) : HO := .ext (phL P w d kas)
def kokL (_ : Hp) (k : NestedKey) (v : V) : Prop := ∃ i, k = .num i ∧ (v = .int i ∨ ∃ b : Bool, v = .bl b ∧ i = if b = true then 1 else 0)
theorem phL_at {P : Program} {w : World} {d : Addr} {kas : List (NestedKey × V)} {h1 h2 : Heap} (p : phL P w d kas h1) (k : ∀ o, h1.get? d = some o → h2.get? d = some o) : phL P w d kas h2 := by
  obtain ⟨a, xs, b, c, e⟩ := p
  exact ⟨a, xs, b, c, e.at k⟩
theorem idxK_valueAt {i : Int} : ∀ {xs : List (Leaf × Value)} {n : Nat}, (∀ (i : Nat) x, xs[i]? = some x → ∃ t, x.2 = .int ((n + i : Nat) : Int) t) →
    (∀ p, valueAt xs (.num i) = some p → ∃ j t, idxK (.num i) (xs.map fun x => x.1.key) = some j ∧ p = .int ((n + j : Nat) : Int) t) ∧ (valueAt xs (.num i) = none → idxK (.num i) (xs.map fun x => x.1.key) = none)
  | [], n, h => ⟨fun p e => by simp [valueAt] at e, fun _ => rfl⟩
  | x :: xs, n, h => by
    have ck : (x.1.key = NestedKey.num i) ↔ x.1 = Leaf.num i := ⟨fun e => Leaf.key_inj (b := Leaf.num i) e, fun e => by rw [e]; rfl⟩
    by_cases c : x.1 = Leaf.num i
    · refine ⟨fun p e => ?_, fun e => by simp [valueAt, c] at e⟩
      have e' : x.2 = p := by simpa [valueAt, c] using e
      obtain ⟨t, ht⟩ := h 0 x rfl
      exact ⟨0, t, by simp [idxK, ck.mpr c], by rw [← e', ht]⟩
    · have ih := idxK_valueAt (i := i) (xs := xs) (n := n + 1) fun i y hy => by
        obtain ⟨t, ht⟩ := h (i + 1) y (by simpa using hy)
        exact ⟨t, by rw [ht]; congr 2; omega⟩
      have ea : valueAt (x :: xs) (.num i) = valueAt xs (.num i) := by simp [valueAt, c]
      have c' : ¬ x.1.key = NestedKey.num i := fun e => c (ck.mp e)
      rw [ea]
      refine ⟨fun p e => ?_, fun e => by simp [idxK, c', ih.2 e]⟩
      obtain ⟨j, t, h1, h2⟩ := ih.1 p e
      exact ⟨j + 1, t, by simp [idxK, c', h1], by rw [h2]; congr 2; omega⟩
theorem kokL_is {P : Program} {w : World} {H : Hp} {k : NestedKey} {v : V} {u : Value} (h : kokL H k v) (r : RelV v u) : ∃ i, k = .num i ∧ (leafKind P w).is (.num i) u = true := by
  obtain ⟨i, rfl, h⟩ := h
  refine ⟨i, rfl, ?_⟩
  rcases h with rfl | ⟨b, rfl, rfl⟩
  · obtain ⟨t, rfl⟩ := r
    show Leaf.isOf (.num i) (.int i t) = true
    simp [Leaf.isOf]
  · cases r
    have h : ∀ b : Bool, Leaf.isOf (.num (if b = true then 1 else 0)) (.bool b) = true := fun b => by cases b <;> rfl
    exact h b
theorem dmL {X : Cx} : DM X (hoL X.prog X.w) kokL where
  mono := fun _ h => h
  ne1 := fun _ _ _ z => nomatch z
  ne2 := fun _ _ _ z => nomatch z
  ne3 := fun _ _ _ _ z => nomatch z
  d0 := fun pos => ⟨fun pins s σ H Q I h => by
    have new : ObjOk X.prog X.w (upd H s.heap.objs.size (hoL X.prog X.w [] s.heap.objs.size)) (s.heap.push { cls := .type "dict", data := .dict #[] }) s.heap.objs.size (hoL X.prog X.w [] s.heap.objs.size) := by
      refine ⟨⟨beq_eq_false_iff_ne.mpr (Ne.symm (Nat.ne_of_lt I.big)), [], rfl, fun i x e => by simp at e, Heap.DictOf.new s.heap⟩, ⟨_, Heap.get?_push_size _ rfl⟩, fun h1 h2 p k => phL_at p k⟩
    exact wpAny_Dict_empty ⟨.ref s.heap.objs.size, _, I.laid (a := s.heap.objs.size) (o := hoL X.prog X.w [] s.heap.objs.size) (t' := s.toks) (fun _ _ q => Heap.get?_push_of_some _ q) (Nat.le_refl _) new, rfl, h _ (I.hok.fresh (Nat.le_refl _))⟩⟩
  len := fun {pins σ H s d ks Q} I hd hl q => by
    obtain ⟨⟨hs, kvs, hx, hv, hm⟩, _⟩ := (show ObjOk X.prog X.w H s.heap d (hoL X.prog X.w ks d) from I.hok d _ hd)
    obtain ⟨es, ep, raw, hsz, _⟩ := hm.raw
    have hn : es.size = ks.length := by
      have e2 : kvs.length = ks.length := by have := congrArg List.length hx; simpa using this
      rw [hsz, e2]
    have hlim : ks.length ≤ 100000 := hl
    refine PyProof.Rows.call_len_slot (n := (ks.length : Nat)) hm.typeIs PySem.F.slot_dict_len (fun Q' hq => call_len_raw hs raw (by rw [hn]; exact hq)) (by omega) (by omega) ?_
    exact q _ _ ((I.tok _).tok _)
  ty := fun {pins σ H s d ks} I hd => by
    obtain ⟨⟨hs, xs, _, _, o, es, ep, ho, hex, _⟩, _⟩ := (show ObjOk X.prog X.w H s.heap d (hoL X.prog X.w ks d) from I.hok d _ hd)
    exact ⟨⟨o, ho, hex.1⟩, o, ho, hex.2.1⟩
  setd := fun {pins σ H s d ks k y u t Q} I hd hks hk ru hl h1 h2 => by
    obtain ⟨⟨hs, kvs, hx, hv, hm⟩, _⟩ := (show ObjOk X.prog X.w H s.heap d (hoL X.prog X.w ks d) from I.hok d _ hd)
    obtain ⟨i, rfl, hki⟩ := kokL_is (P := X.prog) (w := X.w) hk ru
    have hlen : kvs.length = ks.length := by have := congrArg List.length hx; simpa using this
    have hv' : ∀ (i : Nat) x, kvs[i]? = some x → ∃ t, x.2 = .int ((0 + i : Nat) : Int) t := fun i x e => by
      obtain ⟨t, ht⟩ := hv i x e
      exact ⟨t, by rw [ht, Nat.zero_add]⟩
    obtain ⟨f1, f2⟩ := idxK_valueAt (i := i) hv'
    have hlim : ks.length < 100000 := hl
    refine call_meetsIn PySem.F.slot_dict_setdefault hm.typeIs PySem.F.entry_dict_setdefault (PySem.F.args_dict_setdefault_3 _ _ _) (kt_meets_setdefault (leafKind X.prog X.w) d hki hs _) ⟨kvs, hm, by rw [hlen, sizeLine_eq]; omega, fun v hv0 => ?_, fun hn h' hm' hsb => ?_⟩
    · obtain ⟨j, t', g1, g2⟩ := f1 v hv0
      rw [g2, Nat.zero_add]
      exact h1 j (by rw [← hx]; exact g1) t' _ (I.tok _)
    · have hst : stored kvs (Leaf.num i) (.int (ks.length : Nat) t) = kvs ++ [(Leaf.num i, .int (ks.length : Nat) t)] := by
        unfold stored
        rw [if_neg]
        intro z
        obtain ⟨x, hx1, hx2⟩ := List.any_eq_true.mp z
        have : (kvs.find? fun kv => decide (kv.1 = Leaf.num i)).isSome = true := by
          rw [List.find?_isSome]
          exact ⟨x, hx1, hx2⟩
        unfold valueAt at hn
        rw [Option.map_eq_none_iff] at hn
        rw [hn] at this
        cases this
      rw [hst] at hm'
      have he : ∃ o', h'.get? d = some o' := let ⟨o', _, _, ho', _⟩ := hm'; ⟨o', ho'⟩
      have new : ObjOk X.prog X.w (upd H d (hoL X.prog X.w (ks ++ [(.num i, y)]) d)) h' d (hoL X.prog X.w (ks ++ [(.num i, y)]) d) := by
        refine ⟨⟨hs, _, by rw [List.map_append, hx, List.map_append]; rfl, fun j x e => ?_, hm'⟩, he, fun a b p k => phL_at p k⟩
        by_cases c : j < kvs.length
        · rw [List.getElem?_append_left c] at e
          exact hv j x e
        · rw [List.getElem?_append_right (by omega)] at e
          have e0 : j - kvs.length = 0 := by
            obtain ⟨z, _⟩ := List.getElem?_eq_some_iff.mp e
            simp at z; omega
          rw [e0] at e
          simp at e
          subst e
          exact ⟨t, by show Value.int _ t = Value.int _ t; congr 2; omega⟩
      exact h2 (by rw [← hx]; exact f2 hn) _ (I.write (x := d) (e := d) (t' := s.toks + 1) (by rw [hd]; exact trivial) (.inl rfl) (fun b ob nb e => (hsb.2 b nb).trans e) he new)
end DL

set_option Elab.async false
set_option linter.all false
set_option maxRecDepth 100000
set_option maxHeartbeats 16000000
namespace DL
open PySem PySem.Spec PyProof.Rows L2 HeadL

def comeStep (p : List NestedKey × List Nat) (k : NestedKey) : List NestedKey × List Nat := match idxK k p.1 with
  | some j => (p.1, p.2 ++ [j])
  | none => (p.1 ++ [k], p.2 ++ [p.1.length])
def comeK (ks : List NestedKey) : List Nat := (ks.foldl comeStep ([], [])).2
def isLfD : PyData → Bool
  | .int _ => true
  | .bool _ => true
  | _ => false
def isTupD : PyData → Bool
  | .tuple _ => true
  | _ => false
def F_as_they_come : List Sl → M PyData := fun ss U => match ss with
  | [.d names] => (match seqOf names with
    | some ds => (match keysOf ds with
      | some ks => if ds.length < lim ∧ (ds.all isLfD = true ∨ (ds.all isTupD = true ∧ ks.all (fun k => decide (k.depth ≤ 8)) = true)) then some (.tuple ((comeK ks).map fun n => .int (n : Nat)), U) else none
      | none => none)
    | none => none)
  | _ => none
section
variable {X : Cx} {ho : List (NestedKey × V) → Addr → HO} {kok : Hp → NestedKey → V → Prop}
def tSd (ho : List (NestedKey × V) → Addr → HO) (kok : Hp → NestedKey → V → Prop) (i j : Nat) : TE := fun σ H Q => ∃ d y ks k, σ[i]? = some (some (.ref d)) ∧ σ[j]? = some (some y) ∧ H d = some (ho ks d) ∧ (∀ kv ∈ ks, kok H kv.1 kv.2) ∧ kok H k y ∧ ks.length < lim ∧
  (∀ n, idxK k (ks.map (·.1)) = some n → Q (.int (n : Nat)) H) ∧ (idxK k (ks.map (·.1)) = none → Q (.int (ks.length : Nat)) (upd H d (ho (ks ++ [(k, y)]) d)))
theorem cr_lenD (dm : DM X ho kok) : CallR X (.builtin "len") (fun xs H Q => ∃ d ks, xs = [.ref d] ∧ H d = some (ho ks d) ∧ ks.length ≤ lim ∧ Q (.int (ks.length : Nat)) H) := by
  intro pins s σ H xs us Q I r h
  obtain ⟨d, ks, rfl, hd, hl, q⟩ := h
  obtain ⟨u, rfl, rx⟩ := vals1 r
  cases rx
  exact dm.len I hd hl fun t s' I' => ⟨.int _, H, I', ⟨t, rfl⟩, q⟩
theorem pe_sd (dm : DM X ho kok) {kn nm : Str} {p1 p2 p3 p4 p5 apos cpos : Pos} (i j : Nat) (m : M2 X (.Name kn p1) "setdefault" apos (.Name nm p2) (.Call (.Name "len" p3) [.Name kn p4] [] p5) cpos)
    (h1 : PE X (.Name kn p1) (tVar i)) (h2 : PE X (.Name nm p2) (tVar j)) (h3 : PE X (.Call (.Name "len" p3) [.Name kn p4] [] p5) (tCB (fun xs H Q => ∃ d ks, xs = [.ref d] ∧ H d = some (ho ks d) ∧ ks.length ≤ lim ∧ Q (.int (ks.length : Nat)) H) (tCons (tVar i) tNil))) :
    PE X (.Call (.Attribute (.Name kn p1) "setdefault" apos) [.Name nm p2, .Call (.Name "len" p3) [.Name kn p4] [] p5] [] cpos) (tSd ho kok i j) := by
  refine ⟨fun pins s σ H Q I h => ?_⟩
  obtain ⟨d, y, ks, k, e1, e2, hd, hks, hk, hl, q1, q2⟩ := h
  refine wpAny_Call_method m.base m.few m.line PySem.F.plainAttrs_dict PySem.F.slot_dict_setdefault PySem.F.type_dict_setdefault (thn (h1.run pins s σ H (fun v H' => v = .ref d ∧ H' = H) I ⟨_, e1, rfl, rfl⟩) fun u s1 ⟨x, H1, I1, rx, ex, eh⟩ => ?_)
  subst ex; subst eh
  obtain rfl : u = Value.ref d := rx
  obtain ⟨t1, ob, t2, t3⟩ := dm.ty I1 hd
  refine ⟨t1, fun a ea => by cases ea; exact ⟨ob, t2, t3⟩, ?_⟩
  rw [m.trees]
  refine Calls.callWith_builtin rfl (Calls.evalArgs_plain (Calls.spliced_cons (thn (h2.run pins s1 σ H1 (fun v H' => v = y ∧ H' = H1) I1 ⟨_, e2, rfl, rfl⟩) fun iv s2 ⟨y', H2, I2, ry, ey, eh⟩ =>
    Calls.spliced_cons (thn (h3.run pins s2 σ H2 (fun v H' => v = .int (ks.length : Nat) ∧ H' = H2) I2 ?_) fun fv s3 ⟨z, H3, I3, rz, ez, eh3⟩ => Calls.spliced_nil ?_))))
  · subst eh
    exact ⟨_, e1, d, ks, rfl, hd, Nat.le_of_lt hl, rfl, rfl⟩
  · subst ez; subst eh3; subst eh; subst ey
    obtain ⟨t, rfl⟩ := rz
    exact dm.setd I3 hd hks hk ry hl (fun n hn t' s' I' => ⟨.int _, _, I', ⟨t', rfl⟩, q1 n hn⟩) fun hn s' I' => ⟨.int _, _, I', ⟨t, rfl⟩, q2 hn⟩
end
theorem comeStep_len (p : List NestedKey × List Nat) (k : NestedKey) : (comeStep p k).2.length = p.2.length + 1 ∧ (comeStep p k).1.length ≤ p.1.length + 1 := by
  unfold comeStep
  split <;> simp
theorem come_len : ∀ (ks : List NestedKey) (p : List NestedKey × List Nat), (ks.foldl comeStep p).2.length = p.2.length + ks.length ∧ (ks.foldl comeStep p).1.length ≤ p.1.length + ks.length
  | [], p => by simp
  | k :: ks, p => by
    obtain ⟨h1, h2⟩ := come_len ks (comeStep p k)
    obtain ⟨h3, h4⟩ := comeStep_len p k
    simp only [List.foldl_cons, List.length_cons]
    omega
theorem comeStep_some {p : List NestedKey × List Nat} {k : NestedKey} {j : Nat} (h : idxK k p.1 = some j) : comeStep p k = (p.1, p.2 ++ [j]) := by unfold comeStep; rw [h]
theorem comeStep_none {p : List NestedKey × List Nat} {k : NestedKey} (h : idxK k p.1 = none) : comeStep p k = (p.1 ++ [k], p.2 ++ [p.1.length]) := by unfold comeStep; rw [h]
theorem keysOf_len : ∀ {ds : List PyData} {ks : List NestedKey}, keysOf ds = some ks → ds.length = ks.length
  | [], ks, h => by simp [keysOf] at h; subst h; rfl
  | d :: ds, ks, h => by
    obtain ⟨k, e1, e2⟩ := Option.bind_eq_some_iff.mp (show (keyOf d).bind (fun k => (keysOf ds).map (k :: ·)) = some _ from by simpa [keysOf] using h)
    obtain ⟨ks', e3, rfl⟩ := Option.map_eq_some_iff.mp e2
    simp [keysOf_len e3]
theorem keysOf_get : ∀ {ds : List PyData} {ks : List NestedKey} {i : Nat} {k : NestedKey}, keysOf ds = some ks → ks[i]? = some k → ∃ d, ds[i]? = some d ∧ keyOf d = some k
  | [], ks, i, k, h, e => by simp [keysOf] at h; subst h; simp at e
  | d :: ds, ks, i, k, h, e => by
    obtain ⟨k0, e1, e2⟩ := Option.bind_eq_some_iff.mp (show (keyOf d).bind (fun k => (keysOf ds).map (k :: ·)) = some _ from by simpa [keysOf] using h)
    obtain ⟨ks', e3, rfl⟩ := Option.map_eq_some_iff.mp e2
    cases i with
    | zero => simp at e; subst e; exact ⟨d, rfl, e1⟩
    | succ i =>
      obtain ⟨d', g1, g2⟩ := keysOf_get e3 (show ks'[i]? = some k from by simpa using e)
      exact ⟨d', by simpa using g1, g2⟩
theorem take_succ_get {α : Type} {l : List α} {i : Nat} {x : α} (h : l[i]? = some x) : l.take (i + 1) = l.take i ++ [x] := by
  obtain ⟨h1, h2⟩ := List.getElem?_eq_some_iff.mp h
  rw [← h2]; exact (List.take_append_getElem h1).symm
section
variable {P : Program} {w : World} {K : PySem.W.Frag} {mg : Str → Option Value} {base : Heap}
theorem sc_atc : FnScope ["names", "known", "found", "name"] ["names"] (defScope s_as_they_come) := ⟨rfl, rfl, rfl, by decide +kernel, rfl, by decide +kernel, by decide +kernel⟩
/-- what the loop keeps -/
structure Atc (K : PySem.W.Frag) (ho : List (NestedKey × V) → Addr → HO) (kok : Hp → NestedKey → V → Prop) (u : Option Addr) (H0 : Hp) (v : V) (d l : Addr) (ks : List NestedKey) (i : Nat) (σ : L2.St) (H : Hp) : Prop where
  s0 : σ[0]? = some (some v)
  s1 : σ[1]? = some (some (.ref d))
  s2 : σ[2]? = some (some (.ref l))
  ln : σ.length = 4
  dn : H0 d = none
  hl0 : H0 l = none
  ne : d ≠ l
  ext : ∀ b o, H0 b = some o → H b = some o
  le : i ≤ ks.length
  hl : H l = some (.lst (((ks.take i).foldl comeStep ([], [])).2.map fun n => V.int (n : Nat)))
  kv : ∃ kvs, H d = some (ho kvs d) ∧ kvs.map (·.1) = ((ks.take i).foldl comeStep ([], [])).1 ∧ ∀ q ∈ kvs, kok H q.1 q.2
theorem atc_body {X : Cx} {ho : List (NestedKey × V) → Addr → HO} {kok : Hp → NestedKey → V → Prop} (dm : DM X ho kok) {u : Option Addr} {H : Hp} {U : US} {v : V} {names : PyData} {ds : List PyData} {ks : List NestedKey} {Q : VK}
    (un : UrnAt u H U) (fv : Fz X.K H v names) (hs : seqOf names = some ds) (hks : keysOf ds = some ks) (hlen : ds.length < lim)
    (hk : ∀ (H' : Hp) (i : Nat) w' dat k, ds[i]? = some dat → ks[i]? = some k → Fz X.K H' w' dat → kok H' k w')
    (q : ∀ v' H', Ext u H H' → UrnAt u H' U → Fz X.K H' v' (.tuple ((comeK ks).map fun n => .int (n : Nat))) → Q v' H') :
    tSeq (tPar 1 2 (tCons (fun _ H Q => ∀ p, H p = none → Q (.ref p) (upd H p (ho [] p))) (tCons (tLst tNil) tNil)))
      (tSeq (tFor (iSeqA X.K (tVar 0)) (gName 3) (tDrop (tBM X.K "list" rAppend (tVar 2) (tCons (tSd ho kok 1 3) tNil))))
        (tRet (tCB (rTupF X.K) (tCons (tVar 2) tNil)))) { nx := fun _ H' => Q .non H', rt := Q } (L2.start ["names", "known", "found", "name"] [v]) H := by
  have hkl := keysOf_len hks
  intro d hd
  refine ⟨by decide, fun l hl => ⟨_, _, rfl, ?_⟩⟩
  have hl1 : H l = none := by
    cases z : H l with
    | none => rfl
    | some o =>
      have ne : l ≠ d := fun c => by rw [c, hd] at z; cases z
      rw [upd_ne ne, z] at hl; cases hl
  have hdl : d ≠ l := fun c => by rw [c, upd_same] at hl; cases hl
  have ex2 : ∀ b o, H b = some o → upd (upd H d (ho [] d)) l (.lst []) b = some o := fun b o z => by
    rw [upd_ne (ne_of_none z hl1), upd_ne (ne_of_none z hd)]; exact z
  have inv0 : Atc X.K ho kok u H v d l ks 0 ((((L2.start ["names", "known", "found", "name"] [v]).set 1 (some (.ref d))).set 2 (some (.ref l)))) (upd (upd H d (ho [] d)) l (.lst [])) :=
    ⟨rfl, rfl, rfl, rfl, hd, hl1, hdl, ex2, Nat.zero_le _, by rw [upd_same]; rfl, [], by rw [upd_ne hdl, upd_same], rfl, fun q hq => by simp at hq⟩
  -- the loop
  have loop : ∀ (J : It) (xs : List Im) (Hs : Hp), xs.length = ks.length → (∀ (i : Nat) x, xs[i]? = some x → ∃ dat, ds[i]? = some dat ∧ x = .one dat) → Yl X.K J xs Hs →
      Atc X.K ho kok u H v d l ks 0 ((((L2.start ["names", "known", "found", "name"] [v]).set 1 (some (.ref d))).set 2 (some (.ref l)))) Hs →
      ∃ W : Nat → Nat → L2.St → Hp → Prop, (∃ m, W 0 m ((((L2.start ["names", "known", "found", "name"] [v]).set 1 (some (.ref d))).set 2 (some (.ref l)))) Hs) ∧ ∀ i m σ H2, W i m σ H2 →
      (J.stop i H2 ∧ tRet (tCB (rTupF X.K) (tCons (tVar 2) tNil)) { nx := fun _ H' => Q .non H', rt := Q } σ H2) ∨ (J.go i H2 ∧ ∃ N : L2.St → Hp → Prop, (∀ σ' H', N σ' H' → ∃ m', m' < m ∧ W (i + 1) m' σ' H') ∧ ∀ x H', J.yld i H2 x H' → gName 3 x σ H' fun σ2 H2 =>
        tDrop (tBM X.K "list" rAppend (tVar 2) (tCons (tSd ho kok 1 3) tNil)) { nx := N, rt := Q, bk := fun σ H => tRet (tCB (rTupF X.K) (tCons (tVar 2) tNil)) { nx := fun _ H' => Q .non H', rt := Q } σ H, ct := N } σ2 H2) := by
    intro J xs Hs hxl hxs yl inv0
    refine ⟨fun i m σ H2 => m = ks.length - i ∧ Atc X.K ho kok u H v d l ks i σ H2 ∧ Pers Hs H2, ⟨_, rfl, inv0, Pers.refl _⟩, ?_⟩
    rintro i m σ H2 ⟨rfl, A, pe⟩
    by_cases hlt : i < ks.length
    · obtain ⟨x, hx⟩ : ∃ x, xs[i]? = some x := ⟨xs[i], List.getElem?_eq_getElem (by omega)⟩
      obtain ⟨dat, hdat, rfl⟩ := hxs i x hx
      have hki : ks[i]? = some ks[i] := List.getElem?_eq_getElem hlt
      refine .inr ⟨yl.go i _ H2 hx pe, fun σ' H' => Atc X.K ho kok u H v d l ks (i + 1) σ' H' ∧ Pers Hs H', fun σ' H' A' => ⟨ks.length - (i + 1), by omega, rfl, A'⟩, fun y H3 hy => ?_⟩
      obtain ⟨x3, io⟩ := yl.yld i _ H2 y H3 hx pe hy
      have io' : Fz X.K H3 y dat := io
      obtain ⟨kvs, k1, k2, k3⟩ := A.kv
      have p3 : Pers H2 H3 := Pers.of x3
      have hl3 := x3 _ _ A.hl
      have hlk := come_len (ks.take i) ([], [])
      simp only [List.length_nil, Nat.zero_add] at hlk
      have htk : (ks.take i).length = i := by rw [List.length_take]; omega
      have hkv : kvs.length ≤ i := by
        have := congrArg List.length k2
        rw [List.length_map] at this
        omega
      have hlim : i < lim := by omega
      show tDrop (tBM X.K "list" rAppend (tVar 2) (tCons (tSd ho kok 1 3) tNil)) _ (σ.set 3 (some y)) H3
      have g1 : (σ.set 3 (some y))[1]? = some (some (.ref d)) := by rw [List.getElem?_set_ne (by decide)]; exact A.s1
      have g2 : (σ.set 3 (some y))[2]? = some (some (.ref l)) := by rw [List.getElem?_set_ne (by decide)]; exact A.s2
      have g0 : (σ.set 3 (some y))[0]? = some (some v) := by rw [List.getElem?_set_ne (by decide)]; exact A.s0
      have g3 : (σ.set 3 (some y))[3]? = some (some y) := by rw [List.getElem?_set_self (by rw [A.ln]; decide)]
      have hty : kok H3 ks[i] y := hk H3 i y dat _ hdat hki io'
      have st : (ks.take (i + 1)).foldl comeStep ([], []) = comeStep ((ks.take i).foldl comeStep ([], [])) ks[i] := by
        rw [take_succ_get hki, List.foldl_append]; rfl
      have outl : (((ks.take i).foldl comeStep ([], [])).2.map fun n => V.int (n : Nat)).length < sizeLine := by
        rw [List.length_map, hlk.1, htk]; exact Nat.lt_of_lt_of_le hlim (by decide)
      refine ⟨_, g2, .inl ⟨rfl, _, SqL.of hl3⟩, ?_⟩
      refine ⟨d, y, kvs, ks[i], g1, g3, x3 _ _ k1, fun q hq => dm.mono p3 (k3 q hq), hty, by omega, fun n hn => ?_, fun hn => ?_⟩
      · rw [k2] at hn
        refine ⟨l, _, _, rfl, rfl, hl3, outl, ?_⟩
        have se : comeStep ((ks.take i).foldl comeStep ([], [])) ks[i] = (((ks.take i).foldl comeStep ([], [])).1, ((ks.take i).foldl comeStep ([], [])).2 ++ [n]) := comeStep_some hn
        have p5 : Pers H3 (upd H3 l (.lst (((ks.take i).foldl comeStep ([], [])).2.map (fun n => V.int (n : Nat)) ++ [.int (n : Nat)]))) := by
          refine ⟨fun b ys z => ?_, fun b o ys z => ?_⟩
          · rw [upd_ne (ne_of z hl3 (by intro c; cases c))]; exact z
          · rw [upd_ne (ne_of z hl3 (by intro c; cases c))]; exact z
        refine ⟨⟨g0, g1, g2, by rw [List.length_set]; exact A.ln, A.dn, A.hl0, A.ne, fun b o z => ?_, by omega, ?_, kvs, ?_, ?_, fun q hq => ?_⟩, (pe.trans p3).trans p5⟩
        · rw [upd_ne (ne_of_none z A.hl0)]; exact x3 b o (A.ext b o z)
        · rw [upd_same, st, se, List.map_append]; rfl
        · rw [upd_ne A.ne]; exact x3 _ _ k1
        · rw [st, se]; exact k2
        · exact dm.mono p5 (dm.mono p3 (k3 q hq))
      · rw [k2] at hn
        have hkd3 := x3 _ _ k1
        have p4 : Pers H3 (upd H3 d (ho (kvs ++ [(ks[i], y)]) d)) := by
          refine ⟨fun b ys z => ?_, fun b o ys z => ?_⟩
          · rw [upd_ne (ne_of z hkd3 (fun c => dm.ne2 _ _ _ c.symm))]; exact z
          · rw [upd_ne (ne_of z hkd3 (fun c => dm.ne3 _ _ _ _ c.symm))]; exact z
        have hl4 : upd H3 d (ho (kvs ++ [(ks[i], y)]) d) l = some (.lst (((ks.take i).foldl comeStep ([], [])).2.map fun n => V.int (n : Nat))) := by rw [upd_ne (Ne.symm A.ne)]; exact hl3
        refine ⟨l, _, _, rfl, rfl, hl4, outl, ?_⟩
        have kle : kvs.length = ((ks.take i).foldl comeStep ([], [])).1.length := by rw [← k2, List.length_map]
        have se : comeStep ((ks.take i).foldl comeStep ([], [])) ks[i] = (((ks.take i).foldl comeStep ([], [])).1 ++ [ks[i]], ((ks.take i).foldl comeStep ([], [])).2 ++ [kvs.length]) := by rw [kle]; exact comeStep_none hn
        have p5 : Pers (upd H3 d (ho (kvs ++ [(ks[i], y)]) d)) (upd (upd H3 d (ho (kvs ++ [(ks[i], y)]) d)) l (.lst (((ks.take i).foldl comeStep ([], [])).2.map (fun n => V.int (n : Nat)) ++ [.int (kvs.length : Nat)]))) := by
          refine ⟨fun b ys z => ?_, fun b o ys z => ?_⟩
          · rw [upd_ne (ne_of z hl4 (by intro c; cases c))]; exact z
          · rw [upd_ne (ne_of z hl4 (by intro c; cases c))]; exact z
        refine ⟨⟨g0, g1, g2, by rw [List.length_set]; exact A.ln, A.dn, A.hl0, A.ne, fun b o z => ?_, by omega, ?_, kvs ++ [(ks[i], y)], ?_, ?_, fun q hq => ?_⟩, ((pe.trans p3).trans p4).trans p5⟩
        · rw [upd_ne (ne_of_none z A.hl0), upd_ne (ne_of_none z A.dn)]; exact x3 b o (A.ext b o z)
        · rw [upd_same, st, se, List.map_append]; rfl
        · rw [upd_ne A.ne, upd_same]
        · rw [st, se, List.map_append, k2]; rfl
        · rcases List.mem_append.mp hq with hq | hq
          · exact dm.mono p5 (dm.mono p4 (dm.mono p3 (k3 q hq)))
          · have e := List.mem_singleton.mp hq
            subst e
            exact dm.mono p5 (dm.mono p4 hty)
    · have hi3 : i = ks.length := by have := A.le; omega
      subst hi3
      refine .inl ⟨by rw [← hxl]; exact yl.stop H2 pe, ?_⟩
      have hll := A.hl
      rw [List.take_length] at hll
      refine ⟨_, A.s2, l, _, rfl, .inl ⟨SqL.of hll, fun p od hp c1 c2 => ?_⟩⟩
      have hpH : H p = none := by
        cases z : H p with
        | none => rfl
        | some o => rw [A.ext p o z] at hp; cases hp
      refine q _ _ (fun b o z _ => ?_) (fun a z => ?_) (Fz.tup ⟨od, upd_same, c1, c2⟩ ?_)
      · rw [upd_ne (ne_of_none z hpH)]; exact A.ext b o z
      · have hu := un a z
        rw [upd_ne (ne_of_none hu hpH)]; exact A.ext a _ hu
      · have : ∀ ns : List Nat, FzA X.K (upd H2 p (.frz od (.tup ((ks.foldl comeStep ([], [])).2.map fun n => V.int (n : Nat))))) (ns.map fun n => V.int (n : Nat)) (ns.map fun n => PyData.int (n : Nat)) := fun ns => by
          induction ns with
          | nil => exact .nil
          | cons n ns ih => exact .cons (.int _) ih
        exact this _
  have E0 : EOk X.K u H ((((L2.start ["names", "known", "found", "name"] [v]).set 1 (some (.ref d))).set 2 (some (.ref l)))) (upd (upd H d (ho [] d)) l (.lst [])) [some (.d names), none, none, none] U := by
    refine ⟨un.ext ex2, fun b o z _ => ex2 b o z, fun i s e => ?_, fun i j xs ys a e => ?_, rfl⟩
    · cases i with
      | zero =>
        cases e
        exact ⟨v, rfl, Fz.mono (Pers.of ex2) _ _ fv⟩
      | succ i =>
        exfalso
        cases i with
        | zero => cases e
        | succ i =>
          cases i with
          | zero => cases e
          | succ i =>
            cases i with
            | zero => cases e
            | succ i => simp at e
    · exfalso
      cases i with
      | zero => cases e
      | succ i =>
        cases i with
        | zero => cases e
        | succ i =>
          cases i with
          | zero => cases e
          | succ i =>
            cases i with
            | zero => cases e
            | succ i => simp at e
  have hf : fSeq (eVar 0) [some (.d names), none, none, none] U = some (ds.map .one, U) := by
    show bnd (eVar 0 _) _ U = _
    show bnd (lf (seqOf names)) (fun xs => rt (xs.map Im.one)) U = _
    rw [hs]; rfl
  show tFor (iSeqA X.K (tVar 0)) (gName 3) (tDrop (tBM X.K "list" rAppend (tVar 2) (tCons (tSd ho kok 1 3) tNil))) _ _ _
  unfold tFor
  refine si_seq (sg_var 0) u H _ _ _ U _ U E0 hf _ fun J H' e1 un1 yl => ?_
  have ex1 : ∀ b o, upd (upd H d (ho [] d)) l (.lst []) b = some o → H' b = some o := fun b o z => by
    by_cases c : u = some b
    · have a1 := (un.ext ex2) b c
      have a2 := un1 b c
      rw [z] at a1
      rw [a1]; exact a2
    · exact e1 b o z c
  refine loop J _ H' (by rw [List.length_map]; exact hkl) (fun i x hx => ?_) yl ⟨inv0.s0, inv0.s1, inv0.s2, inv0.ln, inv0.dn, inv0.hl0, inv0.ne, fun b o z => ex1 b o (inv0.ext b o z), inv0.le, ex1 _ _ inv0.hl, ?_⟩
  · obtain ⟨dat, h1, h2⟩ := get_map_one hx
    exact ⟨dat, h1, h2⟩
  · obtain ⟨kvs, k1, k2, k3⟩ := inv0.kv
    exact ⟨kvs, ex1 _ _ k1, k2, fun q hq => dm.mono (Pers.of ex1) (k3 q hq)⟩
theorem spA_keys {names : PyData} {ds : List PyData} {ks : List NestedKey} (U U' : US) {d : PyData} (h : F_as_they_come [.d names] U = some (d, U')) : ∃ ds ks, seqOf names = some ds ∧ keysOf ds = some ks ∧ ds.length < lim ∧ (ds.all isLfD = true ∨ (ds.all isTupD = true ∧ ks.all (fun k => decide (k.depth ≤ 8)) = true)) ∧ d = .tuple ((comeK ks).map fun n => .int (n : Nat)) ∧ U' = U := by
  simp only [F_as_they_come] at h
  split at h
  · rename_i ds e1
    split at h
    · rename_i ks e2
      split at h
      · rename_i c
        cases h
        exact ⟨ds, ks, e1, e2, c.1, c.2, rfl, rfl⟩
      · cases h
    · cases h
  · cases h
theorem ok_as_they_come (D : Def K mg "as_they_come" s_as_they_come) (fr : Fre mg) : Cal P w K mg base CX0 1 "as_they_come" ["names"] (spF K 1 F_as_they_come) := by
  obtain ⟨f, fd, F, m⟩ := D
  refine ⟨f, fd, ?_, m, F.kp, F.bindsN (fun _ _ _ _ _ _ us hl => match us, hl with | [_], _ => rfl)⟩
  refine F.ok sc_atc (fun vs H Q E h => ?_) (fun cdv A outer s H vs Q E hr h => ?_)
  · obtain ⟨u, U, ss, d, U', _, h1, _, h2, _⟩ := h
    rw [h2.len, h1]; rfl
  obtain ⟨u, U, ss, d, U', un, h1, nm, A2, hF, q⟩ := h
  have hu : (A.deeper (envOfC "as_they_come" (defScope s_as_they_come) s.heap.objs.size f cdv)).units + 65 < cLine := by have := hr.un; omega
  obtain ⟨s0, rfl⟩ : ∃ s0, ss = [s0] := by
    match ss, h1 with
    | [s0], _ => exact ⟨s0, rfl⟩
  obtain ⟨v, rfl⟩ : ∃ v, vs = [v] := by
    match vs, A2.len with
    | [v], _ => exact ⟨v, rfl⟩
  cases s0 with
  | d names =>
    obtain ⟨v', e1, fv⟩ := A2.get 0 _ rfl
    simp at e1
    subst e1
    have fv : Fz K H v names := fv
    obtain ⟨ds, ks, e2, e3, e4, e5, rfl, rfl⟩ := spA_keys (names := names) (ds := []) (ks := []) U U' hF
    rcases e5 with e5 | ⟨e5, e6⟩
    · have dm := dmL (X := (cxOf CX0 P w K mg base ["names", "known", "found", "name"] "as_they_come" (defScope s_as_they_come) f cdv A outer s H E).nox)
      refine ⟨_, PSs.nox (pss_cons (ps_par (i := 1) (j := 2) rfl sc_atc.nd rfl rfl (by decide) rfl rfl (pa_cons (dm.d0 _) (pa_cons (pe_lst pa_nil) pa_nil)) rfl)
        (pss_cons (ps_for PassesOwn.never rfl (pi_seqA (pv 0)) (pg_name (i := 3) sc_atc.nd rfl (Or.inl rfl)) (pss_one (ps_expr (pe_bm PySem.F.plainAttrs_list PySem.F.slot_list_append PySem.F.type_list_append mt_append (pv 2)
          (pa_cons (pe_sd dm 1 3 ⟨rfl, rfl, rfl, rfl⟩ (pv 1) (pv 3) (pe_callB (cr_lenD dm) rfl fr.len PySem.boot_len (pa_cons (pv 1) pa_nil))) pa_nil)))))
        (pss_one (ps_ret (pe_callTy call_tupF rfl fr.tuple (by decide +kernel) (pa_cons (pv 2) pa_nil)))))), ?_⟩
      refine atc_body (X := (cxOf CX0 P w K mg base ["names", "known", "found", "name"] "as_they_come" (defScope s_as_they_come) f cdv A outer s H E).nox) dm un fv e2 e3 e4 (fun H' i w' dat k g1 g2 g3 => ?_) q
      have hl := List.all_eq_true.mp e5 dat (List.mem_of_getElem? g1)
      obtain ⟨dat', z1, z2⟩ := keysOf_get e3 g2
      rw [g1] at z1
      cases z1
      cases dat with
      | int n => cases g3; exact ⟨n, by simpa [keyOf] using z2.symm, .inl rfl⟩
      | bool b => cases g3; exact ⟨_, by simpa [keyOf] using z2.symm, .inr ⟨b, rfl, rfl⟩⟩
      | _ => cases hl
    · have dm := dmT (X := (cxOf CX0 P w K mg base ["names", "known", "found", "name"] "as_they_come" (defScope s_as_they_come) f cdv A outer s H E).nox) hu
      refine ⟨_, PSs.nox (pss_cons (ps_par (i := 1) (j := 2) rfl sc_atc.nd rfl rfl (by decide) rfl rfl (pa_cons (dm.d0 _) (pa_cons (pe_lst pa_nil) pa_nil)) rfl)
        (pss_cons (ps_for PassesOwn.never rfl (pi_seqA (pv 0)) (pg_name (i := 3) sc_atc.nd rfl (Or.inl rfl)) (pss_one (ps_expr (pe_bm PySem.F.plainAttrs_list PySem.F.slot_list_append PySem.F.type_list_append mt_append (pv 2)
          (pa_cons (pe_sd dm 1 3 ⟨rfl, rfl, rfl, rfl⟩ (pv 1) (pv 3) (pe_callB (cr_lenD dm) rfl fr.len PySem.boot_len (pa_cons (pv 1) pa_nil))) pa_nil)))))
        (pss_one (ps_ret (pe_callTy call_tupF rfl fr.tuple (by decide +kernel) (pa_cons (pv 2) pa_nil)))))), ?_⟩
      refine atc_body (X := (cxOf CX0 P w K mg base ["names", "known", "found", "name"] "as_they_come" (defScope s_as_they_come) f cdv A outer s H E).nox) dm un fv e2 e3 e4 (fun H' i w' dat k g1 g2 g3 => ?_) q
      have hl := List.all_eq_true.mp e5 dat (List.mem_of_getElem? g1)
      have hd8 := List.all_eq_true.mp e6 k (List.mem_of_getElem? g2)
      obtain ⟨dat', z1, z2⟩ := keysOf_get e3 g2
      rw [g1] at z1
      cases z1
      cases dat with
      | tuple xs =>
        cases g3 with
        | tup ht fa => exact ⟨_, _, rfl, .tup ht fa, z2, by simpa using hd8⟩
      | _ => cases hl
  | _ => cases hF
end
end DL

set_option Elab.async false
set_option linter.all false
set_option maxRecDepth 100000
set_option maxHeartbeats 4000000
/-! ZL: list(zip(a, b)) of two tuples. -/
namespace DL
open PySem PySem.Spec PyProof.Rows L2

section
variable {prog : Program} {w : World} {A : Around} {E : Value → Shared → Prop} {s : Shared}

theorem zt_next_item_held {z TI TO T i1 i2 l1 l2 : Addr} {f : Bool} {oT : Obj} {k1 k2 : Nat} {xs ys : Array Value} {x y : Value} {Q : Value → Shared → Prop} (D : ZipApart z TI TO i1 i2 l1 l2)
    (hz : IsZipHeld s.heap z TI TO T f) (hT : s.heap.get? T = some oT) (hTI : IsPair s.heap TI (.ref i1) (.ref i2))
    (h1 : s.heap.IsTupleIter i1 l1 k1) (h2 : s.heap.IsTupleIter i2 l2 k2) (hl1 : s.heap.IsTuple l1 xs) (hl2 : s.heap.IsTuple l2 ys) (hx : xs[k1]? = some x) (hy : ys[k2]? = some y)
    (hQ : ∀ h', IsZipHeld h' z TI TO T true → h'.IsTupleIter i1 l1 (k1 + 1) → h'.IsTupleIter i2 l2 (k2 + 1) → IsPair h' s.heap.objs.size x y → h'.objs.size = s.heap.objs.size + 1 →
      (∀ c o, c ≠ z → c ≠ i1 → c ≠ i2 → s.heap.get? c = some o → h'.get? c = some o) → Q (.ref s.heap.objs.size) { s with heap := h' }) :
    wpAny (model prog w) A (Builtin.«zip.__next__» ⟨[.ref z], []⟩) (fun fin s' => ∃ v, fin = .done (.ret v) ∧ Q v s') E s := by
  show wpAny _ _ (field (.ref z) 2 >>= _) _ _ _
  refine wpAny_bind (wpAny_field hz rfl (x := .bool false) rfl ?_)
  show wpAny _ _ (field (.ref z) 3 >>= _) _ _ _
  refine wpAny_bind (wpAny_field hz rfl (x := .ref TI) rfl ?_)
  refine wpAny_bind (wpAny_seqItems hTI rfl ?_)
  show wpAny _ _ (Builtin.SmallTypes.ownedTupleIsFree (.ref z) >>= _) _ _ _
  refine wpAny_bind (wpAny_tupleHeld_zip hz hT fun h₁ hz₁ hs₁ => ?_)
  simp only [Bool.false_eq_true, if_false]
  refine wpAny_bind ?_
  rw [← Array.forIn_toList]
  simp only [List.forIn_cons, List.forIn_nil]
  refine wpAny_bind (wpAny_bind (wpAny_holding ?_))
  show wpAny _ _ (Builtin.SmallTypes.nextOf (.ref i1) >>= _) _ _ _
  refine wpAny_bind (RZ.nextOf_tuple_item (s := { s with heap := h₁ }) (h1.extBut hs₁.extBut D.i1z) (hl1.extBut hs₁.extBut D.l1z) hx fun h₂ h1₂ hs₂ => wpAny_pure ?_)
  refine wpAny_pure ?_
  refine wpAny_bind (wpAny_bind (wpAny_holding ?_))
  show wpAny _ _ (Builtin.SmallTypes.nextOf (.ref i2) >>= _) _ _ _
  refine wpAny_bind (RZ.nextOf_tuple_item (s := { s with heap := h₂ }) ((h2.extBut hs₁.extBut D.i2z).extBut hs₂.extBut D.i12.symm) ((hl2.extBut hs₁.extBut D.l2z).extBut hs₂.extBut D.l2i1) hy fun h₃ h2₃ hs₃ => wpAny_pure ?_)
  refine wpAny_pure (wpAny_pure ?_)
  show wpAny _ _ (newTuple [x, y] >>= _) _ _ _
  refine wpAny_bind (wpAny_newTuple ?_)
  have hsz : h₃.objs.size = s.heap.objs.size := by rw [hs₃.1, hs₂.1, hs₁.1]
  have hz₃ : IsZipHeld h₃ z TI TO T true := hs₃.extBut _ _ D.i2z.symm (hs₂.extBut _ _ D.i1z.symm hz₁)
  have hk : ∀ c o, c ≠ z → c ≠ i1 → c ≠ i2 → s.heap.get? c = some o → h₃.get? c = some o := fun c o c1 c2 c3 e => hs₃.extBut _ _ c3 (hs₂.extBut _ _ c2 (hs₁.extBut _ _ c1 e))
  have h1₃ : h₃.IsTupleIter i1 l1 (k1 + 1) := h1₂.extBut hs₃.extBut D.i12
  refine wpAny_pure ⟨_, rfl, ?_⟩
  show Q (.ref h₃.objs.size) _
  have hp : IsPair (h₃.push { cls := .type "tuple", data := .seq #[x, y] }) h₃.objs.size x y := Heap.get?_push_size _ rfl
  have hz4 : (h₃.push { cls := .type "tuple", data := .seq #[x, y] }).objs.size = h₃.objs.size + 1 := Heap.size_push ..
  rw [hsz] at hp hz4 ⊢
  exact hQ _ (Heap.get?_push_of_some _ hz₃) (h1₃.at fun o e => Heap.get?_push_of_some _ e) (h2₃.at fun o e => Heap.get?_push_of_some _ e) hp hz4 fun c o c1 c2 c3 e => Heap.get?_push_of_some _ (hk c o c1 c2 c3 e)

theorem zt_next_end_held {z TI TO T i1 i2 l1 l2 : Addr} {f : Bool} {oT : Obj} {k1 k2 : Nat} {xs ys : Array Value} {Q : Fin → Shared → Prop} (hh : A.handled = none) (D : ZipApart z TI TO i1 i2 l1 l2)
    (hz : IsZipHeld s.heap z TI TO T f) (hT : s.heap.get? T = some oT) (hTI : IsPair s.heap TI (.ref i1) (.ref i2))
    (h1 : s.heap.IsTupleIter i1 l1 k1) (h2 : s.heap.IsTupleIter i2 l2 k2) (hl1 : s.heap.IsTuple l1 xs) (hl2 : s.heap.IsTuple l2 ys) (hend : xs[k1]? = none ∨ ys[k2]? = none)
    (hE : ∀ h' e, (∀ c o, c ≠ z → c ≠ i1 → c ≠ i2 → s.heap.get? c = some o → h'.get? c = some o) → (∃ o, h'.get? e = some o ∧ o.cls = .type "StopIteration") → E (.ref e) { s with heap := h' }) :
    wpAny (model prog w) A (Builtin.«zip.__next__» ⟨[.ref z], []⟩) Q E s := by
  show wpAny _ _ (field (.ref z) 2 >>= _) _ _ _
  refine wpAny_bind (wpAny_field hz rfl (x := .bool false) rfl ?_)
  show wpAny _ _ (field (.ref z) 3 >>= _) _ _ _
  refine wpAny_bind (wpAny_field hz rfl (x := .ref TI) rfl ?_)
  refine wpAny_bind (wpAny_seqItems hTI rfl ?_)
  show wpAny _ _ (Builtin.SmallTypes.ownedTupleIsFree (.ref z) >>= _) _ _ _
  refine wpAny_bind (wpAny_tupleHeld_zip hz hT fun h₁ hz₁ hs₁ => ?_)
  simp only [Bool.false_eq_true, if_false]
  refine wpAny_bind ?_
  rw [← Array.forIn_toList]
  simp only [List.forIn_cons, List.forIn_nil]
  refine wpAny_bind (wpAny_bind (wpAny_holding ?_))
  show wpAny _ _ (Builtin.SmallTypes.nextOf (.ref i1) >>= _) _ _ _
  cases hx : xs[k1]? with
  | none =>
    refine wpAny_bind (RZ.nextOf_tuple_end (s := { s with heap := h₁ }) hh (h1.extBut hs₁.extBut D.i1z) (hl1.extBut hs₁.extBut D.l1z) hx fun h₂ e hs₂ he => ?_)
    exact hE h₂ e (fun c o c1 c2 _ x => hs₂ _ _ c2 (hs₁.extBut _ _ c1 x)) he
  | some x =>
    have hy : ys[k2]? = none := by rcases hend with h | h; rw [hx] at h; cases h; exact h
    refine wpAny_bind (RZ.nextOf_tuple_item (s := { s with heap := h₁ }) (h1.extBut hs₁.extBut D.i1z) (hl1.extBut hs₁.extBut D.l1z) hx fun h₂ h1₂ hs₂ => wpAny_pure ?_)
    refine wpAny_pure ?_
    refine wpAny_bind (wpAny_bind (wpAny_holding ?_))
    show wpAny _ _ (Builtin.SmallTypes.nextOf (.ref i2) >>= _) _ _ _
    refine wpAny_bind (RZ.nextOf_tuple_end (s := { s with heap := h₂ }) hh ((h2.extBut hs₁.extBut D.i2z).extBut hs₂.extBut D.i12.symm) ((hl2.extBut hs₁.extBut D.l2z).extBut hs₂.extBut D.l2i1) hy fun h₃ e hs₃ he => ?_)
    exact hE h₃ e (fun c o c1 c2 c3 x => hs₃ _ _ c3 (hs₂.extBut _ _ c2 (hs₁.extBut _ _ c1 x))) he

/-- where the zip stands -/
def KzSt (h : Heap) (z TI TO i1 i2 l1 l2 S : Addr) (i : Nat) : Prop := IsPair h TI (.ref i1) (.ref i2) ∧ h.IsTupleIter i1 l1 i ∧ h.IsTupleIter i2 l2 i ∧
  ((IsZip h z TI TO .none ∧ ∃ a b, IsPair h TO a b) ∨ ∃ T f oT, IsZipHeld h z TI TO T f ∧ h.get? T = some oT ∧ T ≠ z ∧ T ≠ i1 ∧ T ≠ i2 ∧ T ≠ S)
structure Blw (z TI TO i1 i2 l1 l2 S : Addr) : Prop where
  z : z < S
  TI : TI < S
  TO : TO < S
  i1 : i1 < S
  i2 : i2 < S
  l1 : l1 < S
  l2 : l2 < S
theorem KzSt.keep {h h' : Heap} {z TI TO i1 i2 l1 l2 S : Addr} {i : Nat} (st : KzSt h z TI TO i1 i2 l1 l2 S i) (B : Blw z TI TO i1 i2 l1 l2 S) (k : ∀ b o, b ≠ S → h.get? b = some o → h'.get? b = some o) : KzSt h' z TI TO i1 i2 l1 l2 S i := by
  obtain ⟨hTI, h1, h2, hz⟩ := st
  refine ⟨k _ _ (Nat.ne_of_lt B.TI) hTI, h1.at fun o e => k _ o (Nat.ne_of_lt B.i1) e, h2.at fun o e => k _ o (Nat.ne_of_lt B.i2) e, ?_⟩
  rcases hz with ⟨hz, a, b, hTO⟩ | ⟨T, f, oT, hz, hT, r1, r2, r3, r4⟩
  · exact .inl ⟨k _ _ (Nat.ne_of_lt B.z) hz, a, b, k _ _ (Nat.ne_of_lt B.TO) hTO⟩
  · exact .inr ⟨T, f, oT, k _ _ (Nat.ne_of_lt B.z) hz, k _ _ r4 hT, r1, r2, r3, r4⟩
theorem zt_item {z TI TO i1 i2 l1 l2 S : Addr} {i : Nat} {xs ys : Array Value} {x y : Value} {Q : Option Value → Shared → Prop} (D : ZipApart z TI TO i1 i2 l1 l2) (st : KzSt s.heap z TI TO i1 i2 l1 l2 S i)
    (hl1 : s.heap.IsTuple l1 xs) (hl2 : s.heap.IsTuple l2 ys) (hx : xs[i]? = some x) (hy : ys[i]? = some y) (hS : S < s.heap.objs.size)
    (hQ : ∀ h', KzSt h' z TI TO i1 i2 l1 l2 S (i + 1) → IsPair h' s.heap.objs.size x y → h'.objs.size = s.heap.objs.size + 1 →
      (∀ c o, c ≠ z → c ≠ TO → c ≠ i1 → c ≠ i2 → s.heap.get? c = some o → h'.get? c = some o) → Q (some (.ref s.heap.objs.size)) { s with heap := h' }) :
    wpAny (model prog w) A (pyNext (.ref z)) Q E s := by
  obtain ⟨hTI, h1, h2, hz⟩ := st
  have n1 : s.heap.objs.size ≠ i1 := let ⟨_, e, _⟩ := h1; Nat.ne_of_gt (Heap.lt_size e)
  have n2 : s.heap.objs.size ≠ i2 := let ⟨_, e, _⟩ := h2; Nat.ne_of_gt (Heap.lt_size e)
  rcases hz with ⟨hz, a, b, hTO⟩ | ⟨T, f, oT, hz, hT, r1, r2, r3, r4⟩
  · have nz : s.heap.objs.size ≠ z := Nat.ne_of_gt (Heap.lt_size hz)
    refine RZ.pyNext_zipT_item D hz hTI hTO h1 h2 hl1 hl2 hx hy fun h' a1 a2 a3 a4 a5 a6 hk => hQ h' ⟨hk _ _ D.TIz D.TITO D.TIi1 D.TIi2 hTI, a3, a4, .inr ⟨s.heap.objs.size, false, _, a1, a5, nz, n1, n2, Nat.ne_of_gt hS⟩⟩ a5 a6 hk
  · have hTy : s.TypeIs (.ref z) "zip" := ⟨_, hz, rfl⟩
    unfold pyNext
    refine wpAny_bind (wpAny_attempt (wpAny_callSpecial?_slot (name := Str.ofString "__next__") hTy F.slot_zip_next
      (wpAny_call_entry F.slot_zip_next hTy F.entry_zip_next
        (zt_next_item_held D hz hT hTI h1 h2 hl1 hl2 hx hy fun h' a1 a3 a4 a5 a6 hk => wpAny_pure (hQ h' ⟨hk _ _ D.TIz D.TIi1 D.TIi2 hTI, a3, a4, .inr ⟨T, true, oT, a1, hk _ _ r1 r2 r3 hT, r1, r2, r3, r4⟩⟩ a5 a6 fun c o c1 _ c3 c4 e => hk c o c1 c3 c4 e)) (F.args_zip_next_1 _))))
theorem zt_end {z TI TO i1 i2 l1 l2 S : Addr} {i : Nat} {xs ys : Array Value} {Q : Option Value → Shared → Prop} (hh : A.handled = none) (D : ZipApart z TI TO i1 i2 l1 l2) (st : KzSt s.heap z TI TO i1 i2 l1 l2 S i)
    (hl1 : s.heap.IsTuple l1 xs) (hl2 : s.heap.IsTuple l2 ys) (hend : xs[i]? = none ∨ ys[i]? = none)
    (hQ : ∀ h', (∀ c o, c ≠ z → c ≠ TO → c ≠ i1 → c ≠ i2 → s.heap.get? c = some o → h'.get? c = some o) → Q none { s with heap := h' }) :
    wpAny (model prog w) A (pyNext (.ref z)) Q E s := by
  obtain ⟨hTI, h1, h2, hz⟩ := st
  rcases hz with ⟨hz, a, b, hTO⟩ | ⟨T, f, oT, hz, hT, r1, r2, r3, r4⟩
  · exact RZ.pyNext_zipT_end hh D hz hTI hTO h1 h2 hl1 hl2 hend hQ
  · have hTy : s.TypeIs (.ref z) "zip" := ⟨_, hz, rfl⟩
    unfold pyNext
    refine wpAny_bind (wpAny_attempt (wpAny_callSpecial?_slot (name := Str.ofString "__next__") hTy F.slot_zip_next
      (wpAny_call_entry F.slot_zip_next hTy F.entry_zip_next (zt_next_end_held hh D hz hT hTI h1 h2 hl1 hl2 hend fun h' e hk he => ?_) (F.args_zip_next_1 _))))
    obtain ⟨o, ho, hc⟩ := he
    refine wpAny_bind (wpAny_isInstance (T := "StopIteration") (b := true) ⟨o, ho, hc⟩ isSubtype_stop ?_)
    exact wpAny_pure (hQ _ fun c o c1 _ c3 c4 e => hk c o c1 c3 c4 e)
end

structure ZrG (xs ys : Array Value) (lo : Addr) (h : Heap) (zs : List (Addr × Value × Value)) : Prop where
  rise : (zs.map (·.1)).Pairwise (· < ·)
  above : ∀ z ∈ zs, lo < z.1
  pairs : ∀ (j : Nat) z, zs[j]? = some z → xs[j]? = some z.2.1 ∧ ys[j]? = some z.2.2 ∧ IsPair h z.1 z.2.1 z.2.2
theorem ZrG.there {xs ys : Array Value} {lo : Addr} {h : Heap} {zs : List (Addr × Value × Value)} (g : ZrG xs ys lo h zs) {z : Addr × Value × Value} (hz : z ∈ zs) : z.1 < h.objs.size := by
  obtain ⟨j, hj⟩ := List.mem_iff_getElem?.mp hz
  obtain ⟨_, _, e⟩ := g.pairs j z hj
  exact Heap.lt_size e

section
variable {prog : Program} {w : World} {A : Around} {s : Shared} {R : Result → Shared → Prop} {xs ys : Array Value} {z TI TO i1 i2 l1 l2 S : Addr}
theorem zt_loop (hh : A.handled = none) (D : ZipApart z TI TO i1 i2 l1 l2) (B : Blw z TI TO i1 i2 l1 l2 S) (hn : min xs.size ys.size ≤ sizeLine) (res : Value) {h₁ : Heap}
    (hR : ∀ h' tk acc c zs, (∀ b o, b ≠ S → b ≠ z → b ≠ TO → b ≠ i1 → b ≠ i2 → h₁.get? b = some o → h'.get? b = some o) → h'.get? S = some { cls := .type "list", dict := none, data := .seq acc c, slots := #[] } → zs.length = min xs.size ys.size → ZrG xs ys S h' zs →
      acc.toList = zs.map (fun q => Value.ref q.1) → R (.ok (.ret res)) { s with heap := h', toks := tk }) :
    ∀ (k i : Nat) (h : Heap) (tk c : Nat) (acc : Array Value) (zs : List (Addr × Value × Value)), min xs.size ys.size - i = k → i ≤ min xs.size ys.size → KzSt h z TI TO i1 i2 l1 l2 S i → h.IsTuple l1 xs → h.IsTuple l2 ys →
      (∀ b o, b ≠ S → b ≠ z → b ≠ TO → b ≠ i1 → b ≠ i2 → h₁.get? b = some o → h.get? b = some o) →
      h.get? S = some { cls := .type "list", dict := none, data := .seq acc c, slots := #[] } → acc.toList = zs.map (fun q => Value.ref q.1) → zs.length = i → ZrG xs ys S h zs →
      codeAny (model prog w) A (.builtin "list.extend.loop" ⟨[.ref S, .ref z, res], []⟩) R { s with heap := h, toks := tk } := by
  intro k
  induction k with
  | zero =>
    intro i h tk c acc zs hk hi hst hl1 hl2 hkeep hS hacc hal hG
    have hend : xs[i]? = none ∨ ys[i]? = none := by
      rcases Nat.le_total xs.size ys.size with q | q
      · exact .inl (Array.getElem?_eq_none (by rw [Nat.min_eq_left q] at hk; omega))
      · exact .inr (Array.getElem?_eq_none (by rw [Nat.min_eq_right q] at hk; omega))
    refine codeAny_builtin PySem.F.entry_extend_loop ?_
    rw [Around.under_plainId PySem.F.plain_extend_loop _]
    show wpAny _ A.in1 (pyNext (.ref z) >>= _) _ _ _
    refine wpAny_bind (zt_end (s := { s with heap := h, toks := tk }) (A := A.in1) hh D hst hl1 hl2 hend fun h' he => ?_)
    refine wpAny_pure (hR h' tk acc c zs (fun b o h1 h2 h3 h4 h5 e => he b o h2 h3 h4 h5 (hkeep b o h1 h2 h3 h4 h5 e)) (he S _ (Nat.ne_of_gt B.z) (Nat.ne_of_gt B.TO) (Nat.ne_of_gt B.i1) (Nat.ne_of_gt B.i2) hS) (by omega) ⟨hG.rise, hG.above, fun j q hj => ?_⟩ hacc)
    obtain ⟨e1, e2, e3⟩ := hG.pairs j q hj
    have ab := hG.above q (List.mem_of_getElem? hj)
    exact ⟨e1, e2, he q.1 _ (Nat.ne_of_gt (Nat.lt_trans B.z ab)) (Nat.ne_of_gt (Nat.lt_trans B.TO ab)) (Nat.ne_of_gt (Nat.lt_trans B.i1 ab)) (Nat.ne_of_gt (Nat.lt_trans B.i2 ab)) e3⟩
  | succ k ih =>
    intro i h tk c acc zs hk hi hst hl1 hl2 hkeep hS hacc hal hG
    have hlt : i < min xs.size ys.size := by omega
    have hix : i < xs.size := Nat.lt_of_lt_of_le hlt (Nat.min_le_left ..)
    have hiy : i < ys.size := Nat.lt_of_lt_of_le hlt (Nat.min_le_right ..)
    have ex := Array.getElem?_eq_getElem hix
    have ey := Array.getElem?_eq_getElem hiy
    have hsz : acc.size = i := by rw [← Array.length_toList, hacc, List.length_map, hal]
    refine codeAny_builtin PySem.F.entry_extend_loop ?_
    rw [Around.under_plainId PySem.F.plain_extend_loop _]
    show wpAny _ A.in1 (pyNext (.ref z) >>= _) _ _ _
    refine wpAny_bind (zt_item (s := { s with heap := h, toks := tk }) (S := S) D hst hl1 hl2 ex ey (Heap.lt_size hS) fun h' hst' ht hz hkp => ?_)
    dsimp only at ht hz hkp ⊢
    have hS' := hkp S _ (Nat.ne_of_gt B.z) (Nat.ne_of_gt B.TO) (Nat.ne_of_gt B.i1) (Nat.ne_of_gt B.i2) hS
    have up : ∀ b o, b ≠ S → h'.get? b = some o → (h'.update S (Obj.mapSeq (·.push (Value.ref h.objs.size)))).get? b = some o := fun b o hb e => (Heap.get?_update_other _ _ (Ne.symm hb)).trans e
    have hSl : S < h.objs.size := Heap.lt_size hS
    show wpAny _ A.in1 (updateSeq S (·.push (Value.ref h.objs.size)) >>= _) _ _ _
    refine wpAny_bind ?_
    refine wpAny_updateSeq hS' rfl (wpAny_pure ⟨plainId_quiet PySem.F.plain_extend_loop _, ih (i + 1) _ tk _ (acc.push (Value.ref h.objs.size)) (zs ++ [(h.objs.size, xs[i], ys[i])]) (by omega) hlt (hst'.keep B up)
      ((hl1.at fun o e => hkp _ o D.l1z D.l1TO D.l1i1 D.l1i2 e).at fun o e => up _ o (Nat.ne_of_lt B.l1) e) ((hl2.at fun o e => hkp _ o D.l2z D.l2TO D.l2i1 D.l2i2 e).at fun o e => up _ o (Nat.ne_of_lt B.l2) e)
      (fun b o h1 h2 h3 h4 h5 e => up b o h1 (hkp b o h2 h3 h4 h5 (hkeep b o h1 h2 h3 h4 h5 e))) (Heap.get?_update_self _ hS' rfl) (by rw [Array.toList_push, hacc, List.map_append]; rfl) (by rw [List.length_append, hal]; rfl) ⟨?_, ?_, ?_⟩⟩) (by rw [hsz]; omega) (by show (acc.push (Value.ref h.objs.size)).size ≤ sizeLine + 1; rw [Array.size_push, hsz]; omega)
    · rw [List.map_append]
      refine List.pairwise_append.mpr ⟨hG.rise, List.pairwise_singleton _ _, fun a ha b hb => ?_⟩
      rw [List.mem_singleton.mp hb]
      obtain ⟨q, hq, rfl⟩ := List.mem_map.mp ha
      exact hG.there hq
    · intro a ha
      rcases List.mem_append.mp ha with ha | ha
      · exact hG.above a ha
      · rw [List.mem_singleton.mp ha]; exact hSl
    · intro j b hj
      rcases Nat.lt_trichotomy j zs.length with h1 | h1 | h1
      · rw [List.getElem?_append_left h1] at hj
        obtain ⟨e1, e2, e3⟩ := hG.pairs j b hj
        have hb := hG.above b (List.mem_of_getElem? hj)
        exact ⟨e1, e2, up b.1 _ (Nat.ne_of_gt hb) (hkp b.1 _ (Nat.ne_of_gt (Nat.lt_trans B.z hb)) (Nat.ne_of_gt (Nat.lt_trans B.TO hb)) (Nat.ne_of_gt (Nat.lt_trans B.i1 hb)) (Nat.ne_of_gt (Nat.lt_trans B.i2 hb)) e3)⟩
      · subst h1
        have hb : (h.objs.size, xs[i], ys[i]) = b := by simpa using hj
        subst hb
        subst hal
        exact ⟨ex, ey, up _ _ (Nat.ne_of_gt hSl) ht⟩
      · have hnone : (zs ++ [(h.objs.size, xs[i], ys[i])])[j]? = none := List.getElem?_eq_none (by rw [List.length_append, List.length_singleton]; omega)
        rw [hnone] at hj; cases hj
end
theorem zip_no_len : typeLookup (.type "zip") "__len__" = pure none := by rw [typeLookup_type, builtinLookup_eq_fast]; kernel_rfl
theorem zip_no_hint : typeLookup (.type "zip") "__length_hint__" = pure none := by rw [typeLookup_type, builtinLookup_eq_fast]; kernel_rfl

section
variable {prog : Program} {w : World} {A : Around} {E : Value → Shared → Prop} {s : Shared} {xs ys : Array Value} {z TI TO i1 i2 l1 l2 : Addr}
theorem zt_extend {R : Result → Shared → Prop} (hh : A.handled = none) (D : ZipApart z TI TO i1 i2 l1 l2) (S : Addr) (B : Blw z TI TO i1 i2 l1 l2 S)
    (hz : IsZip s.heap z TI TO .none) (hTI : IsPair s.heap TI (.ref i1) (.ref i2)) (hTO : IsPair s.heap TO .none .none) (h1 : s.heap.IsTupleIter i1 l1 0) (h2 : s.heap.IsTupleIter i2 l2 0) (hl1 : s.heap.IsTuple l1 xs) (hl2 : s.heap.IsTuple l2 ys)
    (res : Value) (c₀ : Nat) (hS : s.heap.get? S = some { cls := .type "list", data := .seq #[] c₀ })
    (hR : ∀ h' tk acc c zs, (∀ b o, b ≠ S → b ≠ z → b ≠ TO → b ≠ i1 → b ≠ i2 → s.heap.get? b = some o → h'.get? b = some o) → h'.get? S = some { cls := .type "list", dict := none, data := .seq acc c, slots := #[] } → zs.length = min xs.size ys.size → ZrG xs ys S h' zs →
      acc.toList = zs.map (fun q => Value.ref q.1) → R (.ok (.ret res)) { s with heap := h', toks := tk }) (hn : min xs.size ys.size ≤ sizeLine) :
    wpAny (model prog w) A.in1 (Builtin.List.listExtendWith (.ref S) (.ref z) res)
      (fun fin s' => match fin with | .done f => R (.ok f) s' | .again c' => c'.quiet = true ∧ codeAny (model prog w) A c' R s') (fun e s' => R (.error e) s') s := by
  have hT : s.TypeIs (.ref z) "zip" := ⟨_, hz, rfl⟩
  unfold Builtin.List.listExtendWith
  refine wpAny_bind (wpAny_typeOf (T := "zip") hT ?_)
  have h1' : Builtin.List.listSameRef (.ref S) (.ref z) = false := by simp [Builtin.List.listSameRef, Nat.ne_of_gt B.z]
  have h2' : (Value.type "zip" == Value.type "list") = false := by decide
  have h3' : (Value.type "zip" == Value.type "tuple") = false := by decide
  simp only [h1', h2', h3', Bool.or_false, Bool.false_eq_true, if_false]
  refine wpAny_bind (wpAny_pyIter_zip hz ?_)
  refine wpAny_bind (wpAny_holding ?_)
  unfold Builtin.List.listLengthHint
  refine wpAny_bind (wpAny_specialOf hT zip_no_len ?_)
  show wpAny _ A.in1 (specialOf (Value.ref z) (Str.ofString "__length_hint__") >>= _) _ _ _
  refine wpAny_bind (wpAny_specialOf hT zip_no_hint ?_)
  refine wpAny_pure ?_
  show wpAny _ A.in1 (rule "list.extend.makes-room" >>= fun _ => Builtin.List.listTouch (.ref S) >>= fun _ =>
    again (.builtin "list.extend.loop" ⟨[.ref S, .ref z, res], []⟩)) _ _ _
  refine wpAny_bind (wpAny_rule ?_)
  refine wpAny_bind ?_
  show wpAny _ A.in1 (updateSeq S (·.push .none) >>= fun _ => updateSeq S (·.pop)) _ _ _
  refine wpAny_bind (wpAny_updateSeq hS rfl ?_)
  have hS₂ := Heap.get?_update_self (Obj.mapSeq (·.push Value.none)) hS rfl
  refine wpAny_updateSeq (hz := by seq_fits) hS₂ rfl ?_
  have hS₃ := Heap.get?_update_self (Obj.mapSeq (·.pop)) hS₂ rfl
  have oth : ∀ b o, b ≠ S → s.heap.get? b = some o → ((s.heap.update S (Obj.mapSeq (·.push Value.none))).update S (Obj.mapSeq (·.pop))).get? b = some o :=
    fun b o hb e => (Heap.get?_update_other _ _ (Ne.symm hb)).trans ((Heap.get?_update_other _ _ (Ne.symm hb)).trans e)
  have st : KzSt s.heap z TI TO i1 i2 l1 l2 S 0 := ⟨hTI, h1, h2, .inl ⟨hz, _, _, hTO⟩⟩
  refine wpAny_pure ⟨plainId_quiet F.plain_extend_loop _, zt_loop (s := s) (h₁ := s.heap) (xs := xs) (ys := ys) hh D B hn res hR _ 0 _ _ _ #[] [] rfl (Nat.zero_le _) (st.keep B oth) (hl1.at fun o e => oth _ o (Nat.ne_of_lt B.l1) e) (hl2.at fun o e => oth _ o (Nat.ne_of_lt B.l2) e)
    (fun b o hb _ _ _ _ e => oth b o hb e) hS₃ rfl rfl ⟨List.Pairwise.nil, (fun _ ha => nomatch ha), (fun j a hj => by simp at hj)⟩⟩
theorem zt_init {R : Result → Shared → Prop} (hh : A.handled = none) (D : ZipApart z TI TO i1 i2 l1 l2) (S : Addr) (B : Blw z TI TO i1 i2 l1 l2 S)
    (hz : IsZip s.heap z TI TO .none) (hTI : IsPair s.heap TI (.ref i1) (.ref i2)) (hTO : IsPair s.heap TO .none .none) (h1 : s.heap.IsTupleIter i1 l1 0) (h2 : s.heap.IsTupleIter i2 l2 0) (hl1 : s.heap.IsTuple l1 xs) (hl2 : s.heap.IsTuple l2 ys)
    (hS : s.heap.get? S = some { cls := .type "list", data := .seq #[] })
    (hR : ∀ h' tk acc c zs, (∀ b o, b ≠ S → b ≠ z → b ≠ TO → b ≠ i1 → b ≠ i2 → s.heap.get? b = some o → h'.get? b = some o) → h'.get? S = some { cls := .type "list", dict := none, data := .seq acc c, slots := #[] } → zs.length = min xs.size ys.size → ZrG xs ys S h' zs →
      acc.toList = zs.map (fun q => Value.ref q.1) → R (.ok (.ret .none)) { s with heap := h', toks := tk }) (hn : min xs.size ys.size ≤ sizeLine) :
    wpAny (model prog w) A.in1 (Builtin.«list.__init__» ⟨[.ref S, .ref z], []⟩)
      (fun fin s' => match fin with | .done f => R (.ok f) s' | .again c' => c'.quiet = true ∧ codeAny (model prog w) A c' R s') (fun e s' => R (.error e) s') s := by
  show wpAny _ _ (do let old ← Builtin.List.listItems (.ref S); Builtin.List.listUpdate (.ref S) (fun _ => #[]); letGo old.toList.reverse; Builtin.List.listExtendWith (.ref S) (.ref z) .none) _ _ s
  refine wpAny_bind ?_
  unfold Builtin.List.listItems
  refine wpAny_bind (wpAny_seqItems hS rfl (wpAny_pure ?_))
  show wpAny _ _ (updateSeq S (fun _ => #[]) >>= fun _ => letGo (#[] : Array Value).toList.reverse >>= fun _ => Builtin.List.listExtendWith (.ref S) (.ref z) .none) _ _ s
  refine wpAny_bind (wpAny_updateSeq hS rfl ?_)
  have hS₂ := Heap.get?_update_self (Obj.mapSeq (fun _ => (#[] : Array Value))) hS rfl
  have oth : ∀ b o, b ≠ S → s.heap.get? b = some o → (s.heap.update S (Obj.mapSeq (fun _ => (#[] : Array Value)))).get? b = some o :=
    fun b o hb e => (Heap.get?_update_other _ _ (Ne.symm hb)).trans e
  refine wpAny_bind (wpAny_letGo ?_)
  refine zt_extend (s := { s with heap := s.heap.update S (Obj.mapSeq (fun _ => (#[] : Array Value))) }) (xs := xs) (ys := ys) hh D S B (oth _ _ (Nat.ne_of_lt B.z) hz) (oth _ _ (Nat.ne_of_lt B.TI) hTI) (oth _ _ (Nat.ne_of_lt B.TO) hTO) (h1.at fun o e => oth _ o (Nat.ne_of_lt B.i1) e) (h2.at fun o e => oth _ o (Nat.ne_of_lt B.i2) e)
    (hl1.at fun o e => oth _ o (Nat.ne_of_lt B.l1) e) (hl2.at fun o e => oth _ o (Nat.ne_of_lt B.l2) e) .none _ hS₂ (fun h' tk acc c zs hk hS' hl hG hacc => ?_) hn
  exact hR h' tk acc c zs (fun b o hb c1 c2 c3 c4 e => hk b o hb c1 c2 c3 c4 (oth b o hb e)) hS' hl hG hacc
theorem zt_call {Q : Value → Shared → Prop} (hh : A.handled = none) (D : ZipApart z TI TO i1 i2 l1 l2)
    (hz : IsZip s.heap z TI TO .none) (hTI : IsPair s.heap TI (.ref i1) (.ref i2)) (hTO : IsPair s.heap TO .none .none) (h1 : s.heap.IsTupleIter i1 l1 0) (h2 : s.heap.IsTupleIter i2 l2 0) (hl1 : s.heap.IsTuple l1 xs) (hl2 : s.heap.IsTuple l2 ys) (hn : min xs.size ys.size ≤ sizeLine)
    (hQ : ∀ h' tk acc c zs, (∀ b o, b ≠ z → b ≠ TO → b ≠ i1 → b ≠ i2 → s.heap.get? b = some o → h'.get? b = some o) → h'.get? s.heap.objs.size = some { cls := .type "list", dict := none, data := .seq acc c, slots := #[] } → zs.length = min xs.size ys.size → ZrG xs ys s.heap.objs.size h' zs →
      acc.toList = zs.map (fun q => Value.ref q.1) → Q (.ref s.heap.objs.size) { s with heap := h', toks := tk }) :
    wpAny (model prog w) A (call (.type "list") [.ref z]) Q E s := by
  refine callType_codes (Q₁ := fun obj s₁ => obj = .ref s.heap.objs.size ∧ s₁ = { s with heap := s.heap.push { cls := .type "list", data := .seq #[] } }) PySem.F.called_list (PySem.F.typeCall_list_1 _) PySem.F.entry_list_init
    (code_list_new _ ⟨rfl, rfl⟩) fun obj s₁ h₁ => ?_
  obtain ⟨rfl, rfl⟩ := h₁
  have hS : (s.heap.push { cls := .type "list", data := .seq #[] }).get? s.heap.objs.size = some { cls := .type "list", data := .seq #[] } := Heap.get?_push_size _ rfl
  have pk : ∀ b o, s.heap.get? b = some o → (s.heap.push { cls := .type "list", data := .seq #[] }).get? b = some o := fun b o e => Heap.get?_push_of_some _ e
  have B : Blw z TI TO i1 i2 l1 l2 s.heap.objs.size := ⟨Heap.lt_size hz, Heap.lt_size hTI, Heap.lt_size hTO, let ⟨_, e, _⟩ := h1; Heap.lt_size e, let ⟨_, e, _⟩ := h2; Heap.lt_size e, let ⟨_, e, _⟩ := hl1; Heap.lt_size e, let ⟨_, e, _⟩ := hl2; Heap.lt_size e⟩
  refine ⟨⟨_, hS, rfl⟩, PySem.F.args_list_init_2 _ _, zt_init (s := { s with heap := s.heap.push { cls := .type "list", data := .seq #[] } }) (xs := xs) (ys := ys) (A := A.in1) hh D _ B (pk _ _ hz) (pk _ _ hTI) (pk _ _ hTO) (h1.at fun o e => pk _ o e) (h2.at fun o e => pk _ o e) (hl1.at fun o e => pk _ o e) (hl2.at fun o e => pk _ o e) hS (fun h' tk acc c zs hk hS' hl hG hacc => ?_) hn⟩
  exact ⟨rfl, hQ h' tk acc c zs (fun b o c1 c2 c3 c4 e => hk b o (Nat.ne_of_lt (Heap.lt_size e)) c1 c2 c3 c4 (pk b o e)) hS' hl hG hacc⟩
end

/-! ### at the level of the walk -/
theorem laidM {X : Cx} {pins : List (Addr × Obj)} {σ : L2.St} {H Hn : Hp} {s : Shared} {h' : Heap} {t' : Nat} (I : Inv X pins σ H s) (k : ∀ b u, s.heap.get? b = some u → h'.get? b = some u)
    (ext : ∀ b o, H b = some o → Hn b = some o) (fresh : ∀ b, b < s.heap.objs.size → H b = none → Hn b = none) (new : ∀ b o, H b = none → Hn b = some o → ObjOk X.prog X.w Hn h' b o) :
    Inv X pins σ Hn { s with heap := h', toks := t' } :=
  I.un ⟨fun b u q _ _ _ => k b u q, fun b u q _ _ _ => ⟨u.slots, k b u q⟩, fun b u q n _ => fresh b (Heap.lt_size q) n, fun b u q _ => ⟨u, k b u q⟩, fun b xs q => ext b _ q, fun b u xs q => ext b _ q, fun b ps q => ⟨#[], by rw [ext b _ q]; simp⟩⟩
    fun b o e => by
      cases q : H b with
      | none => exact new b o q e
      | some o' =>
        have e2 := ext b o' q
        rw [e] at e2
        cases e2
        exact (I.hok b o q).stay (fun c v _ z => k c v z) (fun c z => ext c _ z) (fun c xs z => ext c _ z)
def putZ (H : Hp) : List (Addr × HO) → Hp
  | [] => H
  | p :: r => upd (putZ H r) p.1 p.2
theorem putZ_off {H : Hp} {b : Addr} : ∀ {ps : List (Addr × HO)}, (∀ p ∈ ps, p.1 ≠ b) → putZ H ps b = H b
  | [], _ => rfl
  | p :: r, h => by
    show upd (putZ H r) p.1 p.2 b = H b
    rw [upd_ne (fun z => h p List.mem_cons_self z.symm)]
    exact putZ_off fun q hq => h q (List.mem_cons_of_mem _ hq)
theorem putZ_some {H : Hp} {b : Addr} {o : HO} : ∀ {ps : List (Addr × HO)}, putZ H ps b = some o → (b, o) ∈ ps ∨ H b = some o
  | [], h => .inr h
  | p :: r, h => by
    by_cases c : b = p.1
    · subst c
      rw [show putZ H (p :: r) p.1 = some p.2 from upd_same] at h
      cases h
      exact .inl List.mem_cons_self
    · rw [show putZ H (p :: r) b = putZ H r b from upd_ne c] at h
      rcases putZ_some h with h | h
      · exact .inl (List.mem_cons_of_mem _ h)
      · exact .inr h
theorem putZ_at {H : Hp} : ∀ {ps : List (Addr × HO)}, (ps.map (·.1)).Nodup → ∀ p ∈ ps, putZ H ps p.1 = some p.2
  | [], _, p, hp => nomatch hp
  | q :: r, hn, p, hp => by
    rcases List.mem_cons.mp hp with rfl | hp
    · exact upd_same
    · have hn' := List.nodup_cons.mp hn
      have ne : p.1 ≠ q.1 := fun c => hn'.1 (by show q.1 ∈ _; rw [← c]; exact List.mem_map_of_mem hp)
      show upd (putZ H r) q.1 q.2 p.1 = some p.2
      rw [upd_ne ne]
      exact putZ_at hn'.2 p hp
def psOf (xs ys : List V) : List (Addr × Value × Value) → Nat → List (Addr × HO)
  | [], _ => []
  | q :: r, j => (q.1, HO.frz { cls := .type "tuple", data := .seq #[q.2.1, q.2.2] } (.tup [(xs[j]?).getD .non, (ys[j]?).getD .non])) :: psOf xs ys r (j + 1)
theorem psOf_keys (xs ys : List V) : ∀ (zs : List (Addr × Value × Value)) (j : Nat), (psOf xs ys zs j).map (·.1) = zs.map (·.1)
  | [], _ => rfl
  | q :: r, j => by simp [psOf, psOf_keys xs ys r (j + 1)]
theorem psOf_mem (xs ys : List V) : ∀ (zs : List (Addr × Value × Value)) (j : Nat) (p : Addr × HO), p ∈ psOf xs ys zs j → ∃ i q, zs[i]? = some q ∧ p = (q.1, HO.frz { cls := .type "tuple", data := .seq #[q.2.1, q.2.2] } (.tup [(xs[j + i]?).getD .non, (ys[j + i]?).getD .non]))
  | [], _, p, h => nomatch h
  | q :: r, j, p, h => by
    rcases List.mem_cons.mp h with rfl | h
    · exact ⟨0, q, rfl, rfl⟩
    · obtain ⟨i, q', h1, h2⟩ := psOf_mem xs ys r (j + 1) p h
      exact ⟨i + 1, q', by simpa using h1, by rw [h2]; simp only [Nat.add_assoc, Nat.add_comm 1 i]⟩
theorem psOf_at (xs ys : List V) : ∀ (zs : List (Addr × Value × Value)) (j i : Nat) (q : Addr × Value × Value), zs[i]? = some q → (q.1, HO.frz { cls := .type "tuple", data := .seq #[q.2.1, q.2.2] } (.tup [(xs[j + i]?).getD .non, (ys[j + i]?).getD .non])) ∈ psOf xs ys zs j
  | [], _, _, _, h => by simp at h
  | q :: r, j, 0, q', h => by
    simp at h
    subst h
    exact List.mem_cons_self
  | q :: r, j, i + 1, q', h => by
    have := psOf_at xs ys r (j + 1) i q' (by simpa using h)
    rw [Nat.add_assoc, Nat.add_comm 1 i] at this
    exact List.mem_cons_of_mem _ this
def tLZ (K : PySem.W.Frag) (ta : TA) : TE := fun σ H Q => ta σ H fun vs H1 => ∃ a b xs ys, vs = [.ref a, .ref b] ∧ SqT K H1 a xs ∧ SqT K H1 b ys ∧
  ∀ L (zs : List Addr) (Hn : Hp), (∀ b o, H1 b = some o → Hn b = some o) → H1 L = none → Hn L = some (.lst (zs.map V.ref)) → zs.length = min xs.length ys.length →
    (∀ (j : Nat) z, zs[j]? = some z → ∃ x y, xs[j]? = some x ∧ ys[j]? = some y ∧ TpF Hn z [x, y]) → Q (.ref L) Hn
section
variable {X : Cx}
theorem pe_listZip {e e2 : Expr} {ta : TA} {p p2 q pos : Pos} (hg : Gl X "list") (hm : X.mg "list" = none) (hg2 : Gl X "zip") (hm2 : X.mg "zip" = none) (ha : PA X [e, e2] ta) (hc : X.calm = true)
    (na : starEach [.Call (.Name "zip" p2) [e, e2] [] q] X.env = (false, eval (.Call (.Name "zip" p2) [e, e2] [] q) X.env) :: starEach [] X.env)
    (hs : starEach [e, e2] X.env = (false, eval e X.env) :: starEach [e2] X.env) (hpl : (backTo q (starEach [e2] X.env)).any (·.1) = false) (hpl2 : (backTo pos (starEach [] X.env)).any (·.1) = false) :
    PE X (.Call (.Name "list" p) [.Call (.Name "zip" p2) [e, e2] [] q] [] pos) (tLZ X.K ta) := by
  refine ⟨fun pins s σ H Q I h => ?_⟩
  refine Call_ (ld_blt (u := .type "list") I hg hm (by decide +kernel) ?_)
  refine PyProof.Rows.callWith_type1 (PyProof.Rows.args_cons ?_ rfl) na hpl2
  refine Call_ (ld_blt I hg2 hm2 PyProof.Rows.boot_zip ?_)
  refine PyProof.Rows.callWith_type1 (thn (ha.run q pins s σ H _ I h) fun us s1 ⟨vs, H1, I1, r1, q1⟩ => ?_) hs hpl
  obtain ⟨a, b, xs, ys, ex, hqx, hqy, q1⟩ := q1
  subst ex
  cases r1 with
  | cons r rr =>
    cases rr with
    | cons r' rr =>
      cases rr
      cases r
      cases r'
      obtain ⟨its, rv, p1, hz1⟩ := I1.tuple hqx
      obtain ⟨its2, rv2, p2, hz2⟩ := I1.tuple hqy
      obtain ⟨o1, ho1, _⟩ := id p1
      obtain ⟨o2, ho2, _⟩ := id p2
      have len1 := rv.length
      have len2 := rv2.length
      refine RZ.call_zipT (show s1.heap.IsTuple a its.toArray from p1) (show s1.heap.IsTuple b its2.toArray from p2) fun h' hz hTI hTO h1 h2 hsz hk => ?_
      refine PyProof.Rows.args_nil ?_
      refine zt_call (s := { s1 with heap := h' }) (xs := its.toArray) (ys := its2.toArray) (I1.ok.hd hc) (PySem.W.ktu_apart s1.heap.objs.size a b (Heap.lt_size ho1) (Heap.lt_size ho2)) hz hTI hTO h1 h2 (show h'.IsTuple a its.toArray from ⟨o1, hk _ _ ho1, by assumption⟩) (show h'.IsTuple b its2.toArray from ⟨o2, hk _ _ ho2, by assumption⟩)
        (by simp only [List.size_toArray]; omega) fun h2' tk acc c zs hk2 hL hl hG hacc => ?_
      have kk : ∀ b o, s1.heap.get? b = some o → h2'.get? b = some o := fun b o e => by
        have hb := Heap.lt_size e
        exact hk2 b o (Nat.ne_of_lt (Nat.lt_of_lt_of_le hb (Nat.le_add_right _ _))) (Nat.ne_of_lt (Nat.lt_of_lt_of_le hb (Nat.le_add_right _ _))) (Nat.ne_of_lt hb) (Nat.ne_of_lt (Nat.lt_of_lt_of_le hb (Nat.le_add_right _ _))) (hk b o e)
      have hLs : s1.heap.objs.size < h'.objs.size := by rw [hsz]; omega
      have tupAt : ∀ (j : Nat) q, zs[j]? = some q → ∃ x y, xs[j]? = some x ∧ ys[j]? = some y ∧ RelV x q.2.1 ∧ RelV y q.2.2 ∧ h2'.get? q.1 = some { cls := .type "tuple", data := .seq #[q.2.1, q.2.2] } := fun j q hj => by
        obtain ⟨e1, e2, e3⟩ := hG.pairs j q hj
        have hj1 : j < zs.length := (List.getElem?_eq_some_iff.mp hj).1
        have hjx : j < xs.length := by simp only [List.size_toArray] at hl; omega
        have hjy : j < ys.length := by simp only [List.size_toArray] at hl; omega
        have hx : xs[j]? = some xs[j] := List.getElem?_eq_getElem hjx
        have hy : ys[j]? = some ys[j] := List.getElem?_eq_getElem hjy
        obtain ⟨u, hu, ru⟩ := rv.get hx
        obtain ⟨u2, hu2, ru2⟩ := rv2.get hy
        have f1 : u = q.2.1 := by
          have : its[j]? = some q.2.1 := by simpa using e1
          rw [hu] at this; exact Option.some.inj this
        have f2 : u2 = q.2.2 := by
          have : its2[j]? = some q.2.2 := by simpa using e2
          rw [hu2] at this; exact Option.some.inj this
        subst f1
        exact ⟨_, _, hx, hy, ru, by rw [← f2]; exact ru2, e3⟩
      have lenz : zs.length = min xs.length ys.length := by simp only [List.size_toArray] at hl; omega
      have nod : ((h'.objs.size, HO.lst (zs.map fun q => V.ref q.1)) :: psOf xs ys zs 0).map (·.1) |>.Nodup := by
        rw [List.map_cons, psOf_keys]
        refine List.nodup_cons.mpr ⟨fun hm => ?_, hG.rise.imp fun h => Nat.ne_of_lt h⟩
        obtain ⟨q, hq, e⟩ := List.mem_map.mp hm
        have := hG.above q hq
        exact Nat.ne_of_gt this e
      have fr : ∀ p ∈ ((h'.objs.size, HO.lst (zs.map fun q => V.ref q.1)) :: psOf xs ys zs 0), s1.heap.objs.size ≤ p.1 := fun p hp => by
        rcases List.mem_cons.mp hp with rfl | hp
        · exact Nat.le_of_lt hLs
        · obtain ⟨i, q, h3, rfl⟩ := psOf_mem xs ys zs 0 p hp
          have := hG.above q (List.mem_of_getElem? h3)
          exact Nat.le_trans (Nat.le_of_lt hLs) (Nat.le_of_lt this)
      have ext : ∀ b o, H1 b = some o → putZ H1 ((h'.objs.size, HO.lst (zs.map fun q => V.ref q.1)) :: psOf xs ys zs 0) b = some o := fun b o e => by
        rw [putZ_off fun p hp c => ?_]
        · exact e
        · exact Nat.ne_of_lt (Nat.lt_of_lt_of_le (I1.hok b o e).lt (fr p hp)) c.symm
      have fresh : ∀ b, b < s1.heap.objs.size → H1 b = none → putZ H1 ((h'.objs.size, HO.lst (zs.map fun q => V.ref q.1)) :: psOf xs ys zs 0) b = none := fun b hb e => by
        rw [putZ_off fun p hp c => ?_]
        · exact e
        · exact Nat.ne_of_lt (Nat.lt_of_lt_of_le hb (fr p hp)) c.symm
      have valsz : ∀ l : List (Addr × Value × Value), Vals (l.map fun q => V.ref q.1) (l.map fun q => Value.ref q.1) := fun l => by
        induction l with
        | nil => exact .nil
        | cons q r ih => exact .cons rfl ih
      have hLn : putZ H1 ((h'.objs.size, HO.lst (zs.map fun q => V.ref q.1)) :: psOf xs ys zs 0) h'.objs.size = some (HO.lst (zs.map fun q => V.ref q.1)) := upd_same
      have tupN : ∀ (j : Nat) q, zs[j]? = some q → putZ H1 ((h'.objs.size, HO.lst (zs.map fun q => V.ref q.1)) :: psOf xs ys zs 0) q.1 = some (HO.frz { cls := .type "tuple", data := .seq #[q.2.1, q.2.2] } (.tup [(xs[j]?).getD .non, (ys[j]?).getD .non])) := fun j q hj => by
        have := putZ_at (H := H1) nod _ (List.mem_cons_of_mem _ (psOf_at xs ys zs 0 j q hj))
        rw [Nat.zero_add] at this
        exact this
      have I2 : Inv X pins σ (putZ H1 ((h'.objs.size, HO.lst (zs.map fun q => V.ref q.1)) :: psOf xs ys zs 0)) { s1 with heap := h2', toks := tk } := by
        refine laidM I1 kk ext fresh fun b o e1 e2 => ?_
        rcases putZ_some e2 with hm | hm
        · rcases List.mem_cons.mp hm with hm | hm
          · cases hm
            refine ⟨by rw [List.length_map, lenz]; omega, zs.map (fun q => Value.ref q.1), c, valsz zs, ?_⟩
            rw [← hacc]
            exact hL
          · obtain ⟨i, q, h3, h4⟩ := psOf_mem xs ys zs 0 _ hm
            cases h4
            obtain ⟨x, y, hx, hy, rx, ry, ht⟩ := tupAt i q h3
            rw [Nat.zero_add, hx, hy]
            exact ⟨ht, by show 2 ≤ sizeLine; decide, [q.2.1, q.2.2], .cons rx (.cons ry .nil), ⟨_, ht, rfl, _, rfl⟩⟩
        · rw [e1] at hm; cases hm
      refine ⟨.ref h'.objs.size, _, I2, rfl, q1 h'.objs.size (zs.map (·.1)) _ ext (I1.hok.fresh (Nat.le_of_lt hLs)) ?_ (by rw [List.length_map]; exact lenz) fun j z hj => ?_⟩
      · rw [hLn, List.map_map]; rfl
      · obtain ⟨q, hq, rfl⟩ : ∃ q, zs[j]? = some q ∧ q.1 = z := by
          rw [List.getElem?_map] at hj
          exact Option.map_eq_some_iff.mp hj
        obtain ⟨x, y, hx, hy, rx, ry, ht⟩ := tupAt j q hq
        have := tupN j q hq
        rw [hx, hy] at this
        exact ⟨x, y, hx, hy, _, this, rfl, rfl⟩
theorem zipFz {K : PySem.W.Frag} {Hn : Hp} : ∀ {xs ys : List V} {ds es : List PyData}, FzA K Hn xs ds → FzA K Hn ys es → ∀ (zs : List Addr), zs.length = min xs.length ys.length →
    (∀ (j : Nat) z, zs[j]? = some z → ∃ x y, xs[j]? = some x ∧ ys[j]? = some y ∧ TpF Hn z [x, y]) → FzA K Hn (zs.map V.ref) ((ds.zip es).map fun p => .tuple [p.1, p.2])
  | [], ys, [], es, _, _, zs, hl, _ => by
    have : zs = [] := List.length_eq_zero_iff.mp (by rw [hl]; simp)
    subst this
    exact .nil
  | x :: xs, [], d :: ds, [], _, _, zs, hl, _ => by
    have : zs = [] := List.length_eq_zero_iff.mp (by rw [hl]; simp)
    subst this
    exact .nil
  | x :: xs, y :: ys, d :: ds, e :: es, .cons h1 h2, .cons h3 h4, zs, hl, hz => by
    cases zs with
    | nil => simp at hl
    | cons z zs =>
      obtain ⟨x', y', e1, e2, t⟩ := hz 0 z rfl
      simp at e1 e2
      subst e1; subst e2
      exact .cons (.tup t (.cons h1 (.cons h3 .nil))) (zipFz h2 h4 zs (by simp at hl ⊢; omega) fun j z' hj => by simpa using hz (j + 1) z' (by simpa using hj))
def gZipL : PyData → PyData → Option PyData
  | .tuple xs, .tuple ys => some (.list ((xs.zip ys).map fun p => .tuple [p.1, p.2]))
  | _, _ => none
theorem dn_listZip {a b : Expr} {t1 t2 : TE} {g1 g2 : DEnv → M PyData} {p p2 pos pos2 : Pos} (m : X.mg "list" = none) (m2 : X.mg "zip" = none) (h1 : DF X a t1 g1) (h2 : DF X b t2 g2) (hc : X.calm = true := by rfl) (hg : Gl X "list" := by rfl) (hg2 : Gl X "zip" := by rfl)
    (na : starEach [.Call (.Name "zip" p2) [a, b] [] pos2] X.env = (false, eval (.Call (.Name "zip" p2) [a, b] [] pos2) X.env) :: starEach [] X.env := by rfl)
    (hs : starEach [a, b] X.env = (false, eval a X.env) :: starEach [b] X.env := by rfl) (hs2 : starEach [b] X.env = (false, eval b X.env) :: starEach [] X.env := by rfl) (hpl : (backTo pos2 (starEach [b] X.env)).any (·.1) = false := by rfl) (hpl2 : (backTo pos (starEach [] X.env)).any (·.1) = false := by rfl) {K : PySem.W.Frag} (hK : X.K = K := by rfl) :
    DN X (.Call (.Name "list" p) [.Call (.Name "zip" p2) [a, b] [] pos2] [] pos) (tLZ K (tCons t1 (tCons t2 tNil))) (op2 gZipL g1 g2) := by
  subst hK
  refine ⟨pe_listZip hg m hg2 m2 (pa_cons h1.pe (pa_cons h2.pe pa_nil hs2) hs) hc na hs hpl hpl2, fun u H0 σ H ρ U d U' E hf Q q => ?_⟩
  obtain ⟨d1, U1, f1, hf⟩ := bnd_some hf
  obtain ⟨d2, U2, f2, hf⟩ := bnd_some hf
  obtain ⟨hf, rfl⟩ := lf_some hf
  refine h1.sm u H0 σ H ρ U d1 U1 E f1 _ fun v H1 e1 un1 p1 => ?_
  refine h2.sm u H0 σ H1 ρ U1 d2 _ (E.exts e1 un1) f2 _ fun v2 H2 e2 un2 p2 => ?_
  have p1' := Fz.mono (e2.pers un1) _ _ p1
  unfold gZipL at hf
  split at hf
  · cases hf
    cases p1' with
    | tup hs fa =>
      cases p2 with
      | tup hs2 fa2 =>
        refine ⟨_, _, _, _, rfl, hs.t, hs2.t, fun L zs Hn ext hL hLn hlen hz => ?_⟩
        have uL : u ≠ some L := un2.ne hL
        have ex2 : Ext u H2 Hn := fun b o z _ => ext b o z
        refine q _ _ ((e1.trans e2).trans ex2) (un2.ext ext) ⟨L, _, _, rfl, rfl, (e1.trans e2).free un2 hL, uL, hLn, ?_⟩
        have fan := fa.mono (Pers.of ext)
        have fan2 := fa2.mono (Pers.of ext)
        exact zipFz fan fan2 zs (by rw [hlen]) (fun j z hj => hz j z hj)
  · cases hf
end
end DL

set_option Elab.async false
set_option linter.all false
set_option maxRecDepth 100000
set_option maxHeartbeats 4000000
/-! DL9: the own error, a def that may raise it, try .. except, a def that gives a new list. -/
namespace DL
open PySem PySem.Spec PyProof.Rows L2

/-- what the top says of the class -/
structure Unf (K : PySem.W.Frag) (mg : Str → Option Value) (C : Addr) : Prop where
  gC : mg "Unfit" = some (.ref C)
  ex : PySem.W.excIn K C He.veBase "ValueError.__new__" = true
  kC : PySem.W.keepIn K (.ref C) = true
  sB : PySem.W.subIn K (.ref C) (.type "BaseException") = some true
  ty : PySem.W.typeIn K (.ref C) = some (.type "type")
  te : PySem.W.exmOne K (.ref C) (.ref C) = some true
/-- X() -/
theorem pmk_own0 {X : Cx} {C : Addr} {bmB : List Value} {B newId initId : String} {x : Str} {p pos : Pos} (F : ExcBaseFacts B newId initId bmB) (q : PySem.W.excIn X.K C bmB newId = true) (gC : X.mg x = some (.ref C)) (kC : PySem.W.keepIn X.K (.ref C) = true) (r : Raises X (.ref C)) (hg : Gl X x)
    (hdb : (x == ("__debug__" : Str)) = false := by decide) : PMk X (.Call (.Name x p) [] [] pos) (fun _ H Q => Q (.ref C) none H) := by
  intro pins s σ H Q I h
  refine wpAny_Call_Name_kw (ld_glob I hg gC ?_ hdb)
  refine PySem.W.callWith_K0 I.kIn kC ?_
  show wpAny _ _ (call (.ref C) []) _ _ _
  obtain ⟨bm, N, nm, qn, bs, hdct, sn, sub, ab, col, dd, k0, k1, k2, k3, k5, mN, hC, hN, hni, T⟩ := exc_obj I.kIn q
  obtain ⟨hp, g, dr, tk, os⟩ := s
  refine wpAny_call_exc_subT F T hC hN hni (fun h' e hm => ?_) (by show 0 ≤ sizeLine; exact Nat.zero_le _)
  exact mk_of I hm r h (I.hok.gone hm.new)
theorem PS.ox {X : Cx} {st : Stmt} {t : TS} (h : PS X.nox st t) : PS X st t := ⟨fun pins s σ H D I hw =>
  wpAny_mono (h.run pins s σ H D (I.wish _) hw) (fun _ _ q => q.unwish) fun _ _ z => False.elim z⟩
/-- the raising road -/
def fnX (n : Nat) (S1 : DEnv → M Out) (T : DEnv → M Bool) : List Sl → M Unit := fun ss => bnd (S1 (ent n ss)) fun o => match o with
  | .nx ρ => bnd (T ρ) fun b => if b = true then rt () else fun _ => none
  | .rt _ => fun _ => none
def sNo : DEnv → M Out := fun _ _ => none
def spX (K : PySem.W.Frag) (n : Nat) (C : Addr) (F : List Sl → M PyData) (G : List Sl → M Unit) : Sp := fun vs H Q E => ∃ (u : Option Addr) (U : US) (ss : List Sl),
  UrnAt u H U ∧ ss.length = n ∧ noM ss = true ∧ AOk K u H H vs ss ∧ ((∃ d U', F ss U = some (d, U') ∧ ∀ v H', Ext u H H' → UrnAt u H' U' → Fz K H' v d → Q v H') ∨
    ∃ U', G ss U = some ((), U') ∧ ∀ H', Ext u H H' → UrnAt u H' U' → E (.ref C) none H')
section
variable {P : Program} {w : World} {K : PySem.W.Frag} {mg : Str → Option Value} {base : Heap}
theorem fn_okX {x : Str} {st : Stmt} {N ps : List Str} {k : Nat} {S1 S3 : DEnv → M Out} {T : DEnv → M Bool} {C f : Addr} {fd : FuncData} {p cpos rpos ipos : Pos} {c : Expr} {s1 : Stmt} {rest : List Stmt}
    (F : FunD K x x (defArgs st) (defBody st) (defScope st) [] [] f fd) (sc : FnScope N ps (defScope st)) (un : Unf K mg C) (hb : defBody st = s1 :: .If c [.Raise (some (.Call (.Name "Unfit" p) [] [] cpos)) none rpos] [] ipos :: rest)
    (hg : ∀ (cdv : Value) (A : Around) (outer : List Env) (s : Shared) (H : Hp) (E : XK), Gl (cxOf (L2.CX P w) P w K mg base N x (defScope st) f cdv A outer s H E) "Unfit")
    (body : ∀ (cdv : Value) (A : Around) (outer : List Env) (s : Shared) (H : Hp) (E : XK), Room k (A.deeper (envOfC x (defScope st) s.heap.objs.size f cdv)) → (A.deeper (envOfC x (defScope st) s.heap.objs.size f cdv)).units + 65 < cLine →
      ∃ t1 tt t3, DS (cxOf (L2.CX P w) P w K mg base N x (defScope st) f cdv A outer s H E).nox s1 t1 S1 ∧ DT (cxOf (L2.CX P w) P w K mg base N x (defScope st) f cdv A outer s H E).nox c tt T ∧ DSs (cxOf (L2.CX P w) P w K mg base N x (defScope st) f cdv A outer s H E).nox rest t3 S3) :
    FnOk P w K mg base (L2.CX P w) (k + 1) f fd ps (spX K ps.length C (fnD N.length (sSeq S1 (sSeq (sIf T sNo sNil) S3))) (fnX N.length S1 T)) := by
  refine F.ok sc (fun vs H Q E h => ?_) (fun cdv A outer s H vs Q E hr h => ?_)
  · obtain ⟨u, U, ss, _, h1, _, h2, _⟩ := h
    rw [h2.len, h1]
  · obtain ⟨t1, tt, t3, d1, dt, d3⟩ := body cdv A outer s H E hr (by have := hr.un; omega)
    rw [hb]
    refine ⟨_, pss_cons (PS.ox d1.ps) (pss_cons (ps_if (PT.nox dt.pt) (pss_one (ps_raise (W := fun cls d _ H => E cls d H) rfl (takes_of rfl rfl rfl rfl) (pmk_own0 PySem.F.excBase_ValueError un.ex un.gC un.kC (raises_own un.sB un.ty) (hg cdv A outer s H E)))) pss_nil) (PSs.nox d3.ps)), ?_⟩
    obtain ⟨u, U, ss, un0, h1, nm, h2, h3⟩ := h
    have E0 := ent_ok (N := N) h2 nm un0
    rcases h3 with ⟨d, U', hF, q⟩ | ⟨U', hG, q⟩
    · obtain ⟨o, U1, g1, g2⟩ := bnd_some hF
      obtain ⟨o1, U2, g3, g4⟩ := bnd_some g1
      refine d1.sm u H _ H _ U o1 U2 E0 g3 _ (fun ρ1 σ1 H1 e E1 p1 => ?_) fun d' v H1 e ex un' p => ?_
      · subst e
        obtain ⟨o2, U3, g5, g6⟩ := bnd_some g4
        obtain ⟨b, U4, g7, g8⟩ := bnd_some g5
        simp only [tSeq, tIfS]
        refine dt.sm u H σ1 H1 ρ1 U2 b U4 E1 g7 _ fun H2 e2 un2 => ?_
        cases b with
        | true => simp only [if_true] at g8; cases g8
        | false =>
          simp only [Bool.false_eq_true, if_false] at g8 ⊢
          obtain ⟨rfl, rfl⟩ := rt_some g8
          refine d3.sm u H σ1 H2 ρ1 _ o U1 (E1.exts e2 un2) g6 _ (fun ρ' σ' H' e E' p => ?_) fun d' v H' e ex un' p => ?_
          · subst e
            obtain ⟨rfl, rfl⟩ := rt_some g2
            exact q .non H' E'.ext E'.urn .non
          · subst e
            obtain ⟨rfl, rfl⟩ := rt_some g2
            exact q v H' ex un' p
      · subst e
        obtain ⟨rfl, rfl⟩ := rt_some g4
        obtain ⟨rfl, rfl⟩ := rt_some g2
        exact q v H1 ex un' p
    · obtain ⟨o1, U2, g3, g4⟩ := bnd_some hG
      refine d1.sm u H _ H _ U o1 U2 E0 g3 _ (fun ρ1 σ1 H1 e E1 p1 => ?_) fun d' v H1 e ex un' p => ?_
      · subst e
        obtain ⟨b, U4, g7, g8⟩ := bnd_some g4
        simp only [tSeq, tIfS]
        refine dt.sm u H σ1 H1 ρ1 U2 b U4 E1 g7 _ fun H2 e2 un2 => ?_
        cases b with
        | true =>
          simp only [if_true] at g8 ⊢
          obtain ⟨_, rfl⟩ := rt_some g8
          exact q H2 (E1.ext.trans e2) un2
        | false => simp only [Bool.false_eq_true, if_false] at g8; cases g8
      · subst e
        cases g4
/-- where nothing is raised -/
theorem cal_still {x : Str} {ps : List Str} {k n : Nat} {C : Addr} {F : List Sl → M PyData} {G : List Sl → M Unit} (h : Cal P w K mg base (L2.CX P w) k x ps (spX K n C F G)) : Cal P w K mg base CX0 k x ps (spF K n F) := by
  obtain ⟨f, fd, ok, r⟩ := h
  have up : ∀ vs H Q E, spF K n F vs H Q E → spX K n C F G vs H Q E0 := fun vs H Q E ⟨u, U, ss, d, U', a, b, c, e, g, q⟩ => ⟨u, U, ss, a, b, c, e, .inl ⟨d, U', g, q⟩⟩
  refine ⟨f, fd, ⟨fun vs H Q E q => ok.len vs H Q E0 (up _ _ _ _ q), fun A outer s H args us vs Q E hr he hb hv hs => ?_⟩, r⟩
  refine codeAny_mono (ok.run A outer s H args us vs Q E0 hr he hb hv (up _ _ _ _ hs)) fun r s' hq => ?_
  cases r with
  | error e =>
    obtain ⟨_, _, _, _, _, _, _, _, _, _, _, _, z⟩ := hq
    exact z.elim
  | ok fl => cases fl <;> exact hq
/-- try: return f(..) / except Unfit: return m -/
def fnT (m : Str) (F : List Sl → M PyData) (G : List Sl → M Unit) : List Sl → M PyData := fun ss U => match F ss U with
  | some r => some r
  | none => (G ss U).map fun r => (.str m, r.2)
end
end DL

set_option Elab.async false
set_option linter.all false
set_option maxRecDepth 100000
set_option maxHeartbeats 4000000
namespace DL
open PySem PySem.Spec PyProof.Rows L2
/-! DL10: a def that gives a new list; a call on such a list as the urn; try .. except around a call. -/
def spN (K : PySem.W.Frag) (n : Nat) (F : List Sl → M PyData) : Sp := fun vs H Q _ => ∃ (u : Option Addr) (U : US) (ss : List Sl) (d : PyData) (U' : US),
  UrnAt u H U ∧ ss.length = n ∧ noM ss = true ∧ AOk K u H H vs ss ∧ F ss U = some (d, U') ∧ ∀ v H', Ext u H H' → UrnAt u H' U' → pN K H H' u v d → Q v H'
def fnN (n : Nat) (S1 : DEnv → M Out) (g : DEnv → M PyData) : List Sl → M PyData := fun ss => bnd (S1 (ent n ss)) fun o => match o with
  | .nx ρ => g ρ
  | .rt _ => fun _ => none
section
variable {P : Program} {w : World} {K : PySem.W.Frag} {mg : Str → Option Value} {base : Heap}
theorem fn_okN {x : Str} {st : Stmt} {N ps : List Str} {k : Nat} {S1 : DEnv → M Out} {g : DEnv → M PyData} {f : Addr} {fd : FuncData} {s1 : Stmt} {e : Expr} {pos : Pos}
    (F : FunD K x x (defArgs st) (defBody st) (defScope st) [] [] f fd) (sc : FnScope N ps (defScope st)) (hb : defBody st = [s1, .Return (some e) pos])
    (body : ∀ (cdv : Value) (A : Around) (outer : List Env) (s : Shared) (H : Hp) (E : XK), Room k (A.deeper (envOfC x (defScope st) s.heap.objs.size f cdv)) → (A.deeper (envOfC x (defScope st) s.heap.objs.size f cdv)).units + 65 < cLine →
      ∃ t1 te, DS (cxOf CX0 P w K mg base N x (defScope st) f cdv A outer s H E).nox s1 t1 S1 ∧ DN (cxOf CX0 P w K mg base N x (defScope st) f cdv A outer s H E).nox e te g) :
    FnOk P w K mg base CX0 (k + 1) f fd ps (spN K ps.length (fnN N.length S1 g)) := by
  refine F.ok sc (fun vs H Q E h => ?_) (fun cdv A outer s H vs Q E hr h => ?_)
  · obtain ⟨u, U, ss, d, U', _, h1, _, h2, _⟩ := h
    rw [h2.len, h1]
  · obtain ⟨t1, te, d1, dn⟩ := body cdv A outer s H E hr (by have := hr.un; omega)
    rw [hb]
    refine ⟨_, PSs.nox (pss_cons d1.ps (pss_one (ps_ret dn.pe))), ?_⟩
    obtain ⟨u, U, ss, d, U', un0, h1, nm, h2, hF, q⟩ := h
    have E0 := ent_ok (N := N) h2 nm un0
    obtain ⟨o1, U2, g3, g4⟩ := bnd_some hF
    refine d1.sm u H _ H _ U o1 U2 E0 g3 _ (fun ρ1 σ1 H1 e E1 p1 => ?_) fun d' v H1 e ex un' p => ?_
    · subst e
      simp only [tRet]
      exact dn.sm u H σ1 H1 ρ1 U2 d U' E1 g4 _ fun v H2 e2 un2 p2 => q v H2 (E1.ext.trans e2) un2 (Bk.back (P := pN) E1.ext E1.urn p2)
    · subst e
      cases g4
/-- f(g(..)), g's new list being f's urn -/
def eBox (n : Nat) (FB : List Sl → M PyData) (FR : List Sl → M PyData) (gb : DEnv → M (List Sl)) : DEnv → M PyData := fun ρ => bnd (gb ρ) fun ss => if ss.length = n ∧ noM ss = true then bnd (FB ss) fun d U => match d with
  | .list ds => (match toIs ds with
    | some ns => (match FR [.u] ns with
      | some (d, _) => some (d, U)
      | none => none)
    | none => none)
  | _ => none else fun _ => none
theorem df_boxed {X : Cx} {n k : Nat} {y : Str} {p pos : Pos} {eb : Expr} {FB FR : List Sl → M PyData} {tb : TA} {gb : DEnv → M (List Sl)} (hb : PE X eb (tCall (spN X.K n FB) [] E0 tb)) (sb : Sa X.K tb gb) (C : Cal X.prog X.w X.K X.mg X.base CX0 k y ["_law_urn"] (spF X.K 1 FR)) (hr : Room k X.A)
    (hg : Gl X y := by rfl) (hdb : (y == ("__debug__" : Str)) = false := by decide) (he : starEach [eb] X.env = (false, eval eb X.env) :: starEach [] X.env := by rfl) (hpl : (backTo pos (starEach [] X.env)).any (·.1) = false := by rfl) {K : PySem.W.Frag} (hK : X.K = K := by rfl) :
    DF X (.Call (.Name y p) [eb] [] pos) (tCall (spF K 1 FR) [] E0 (tCons (tCall (spN K n FB) [] E0 tb) tNil)) (eBox n FB FR gb) := by
  subst hK
  obtain ⟨fa, fd, h1, h2, h3, h4⟩ := C
  refine ⟨pe_call h1 hr hg h2 h3 h4 .nil pass0 (pa_cons hb pa_nil he) hdb he hpl, fun u H0 σ H ρ U d U' E hf Q q => ?_⟩
  obtain ⟨ss, U1, g1, hf⟩ := bnd_some hf
  split at hf
  rotate_left
  · cases hf
  rename_i c
  obtain ⟨d1, U2, g2, hf⟩ := bnd_some hf
  refine sb u H0 σ H ρ U ss U1 E g1 _ fun vs H1 e1 un1 A => ?_
  show spN X.K n FB (vs ++ []) H1 _ _
  rw [List.append_nil]
  refine ⟨u, U1, ss, d1, U2, un1, c.1, c.2, A.now c.2, g2, fun v H2 e2 un2 pn => ?_⟩
  obtain ⟨a, ws, ds, rfl, rfl, k1, k2, k3, k4⟩ := pn
  dsimp only at hf
  split at hf
  rotate_left
  · cases hf
  rename_i ns hns
  split at hf
  rotate_left
  · cases hf
  rename_i d3 U3 hR
  cases hf
  rw [toIs_eq hns] at k4
  have hw := k4.ints_inv
  subst hw
  show spF X.K 1 FR [V.ref a] H2 Q E0
  refine ⟨some a, ns, [.u], d, U3, fun b e => ?_, rfl, rfl, ⟨rfl, fun i s e => ?_, fun i j xs ys b e => ?_⟩, hR, fun v H3 e3 un3 p3 => ?_⟩
  · cases e; exact k3
  · cases i with
    | zero => cases e; exact ⟨_, rfl, a, rfl, rfl⟩
    | succ i => simp at e
  · cases i with
    | zero => cases e
    | succ i => simp at e
  · have e13 : Ext u H1 H3 := fun b o z n => e3 b o (e2 b o z n) fun e => by
      cases e
      rw [k1] at z
      cases z
    refine q v H3 (e1.trans e13) (fun b e => ?_) p3
    refine e3 b _ (un2 b e) fun e' => k2 ?_
    rw [e, e']
theorem df_boxes {X : Cx} {n k kb : Nat} {y yb : Str} {psb : List Str} {p pos p2 pos2 : Pos} {e : Expr} {es : List Expr} {FB FR : List Sl → M PyData} {tb : TA} {gb : DEnv → M (List Sl)} (C : Cal X.prog X.w X.K X.mg X.base CX0 k y ["_law_urn"] (spF X.K 1 FR)) (CB : Cal X.prog X.w X.K X.mg X.base CX0 kb yb psb (spN X.K n FB)) (hr : Room k X.A) (hrb : Room kb X.A) (ha : DA X (e :: es) tb gb)
    (hg : Gl X y := by rfl) (hdb : (y == ("__debug__" : Str)) = false := by decide) (he : starEach [.Call (.Name yb p2) (e :: es) [] pos2] X.env = (false, eval (.Call (.Name yb p2) (e :: es) [] pos2) X.env) :: starEach [] X.env := by rfl) (hpl : (backTo pos (starEach [] X.env)).any (·.1) = false := by rfl)
    (hg2 : Gl X yb := by rfl) (hdb2 : (yb == ("__debug__" : Str)) = false := by decide) (he2 : starEach (e :: es) X.env = (false, eval e X.env) :: starEach es X.env := by rfl) (hpl2 : (backTo pos2 (starEach es X.env)).any (·.1) = false := by rfl) {K : PySem.W.Frag} (hK : X.K = K := by rfl) :
    DF X (.Call (.Name y p) [.Call (.Name yb p2) (e :: es) [] pos2] [] pos) (tCall (spF K 1 FR) [] E0 (tCons (tCall (spN K n FB) [] E0 tb) tNil)) (eBox n FB FR gb) := by
  subst hK
  obtain ⟨fa, fd, h1, h2, h3, h4⟩ := CB
  exact df_boxed (pe_call h1 hrb hg2 h2 h3 h4 .nil pass0 ha.pa hdb2 he2 hpl2) ha.sm C hr hg hdb he hpl
theorem pure_heard {m : Str} {C : Addr} {N : List Str} {F : List Sl → M PyData} {G : List Sl → M Unit} (un : Unf K mg C) {vs : List V} {H : Hp} {Q : VK} {E : XK} (h : spF K 2 (fnT m F G) vs H Q E) :
    (fun D σ H => (fun W => tRet (tCallS (spX K 2 C F G) (WE W) (tCons (tVar 0) (tCons (tVar 1) tNil)))) (wOnly K (.ref C) (fun _ _ _ => tRet (tC (.str m))) (fun _ _ _ _ => False) D) D σ H : TS) { nx := fun _ H' => Q .non H', rt := Q } (L2.start N vs) H := by
  obtain ⟨u, U, ss, d, U', un0, h1, nm, A, hF, q⟩ := h
  obtain ⟨s0, s1, rfl⟩ : ∃ a b, ss = [a, b] := len2 h1
  have hl := A.len
  obtain ⟨v0, v1, rfl⟩ : ∃ a b, vs = [a, b] := len2 (by rw [hl]; rfl)
  refine ⟨v0, rfl, v1, rfl, u, U, [s0, s1], un0, rfl, nm, A, ?_⟩
  unfold fnT at hF
  split at hF
  · rename_i r hr
    cases hF
    exact .inl ⟨d, U', hr, q⟩
  · obtain ⟨r, g1, g2⟩ := Option.map_eq_some_iff.mp hF
    cases g2
    exact .inr ⟨r.2, g1, fun H' ex un' => ⟨true, un.te, fun _ a _ => q (.str m) H' ex un' (.str m), fun z => nomatch z⟩⟩
end
end DL

set_option Elab.async false
set_option linter.all false
set_option maxRecDepth 100000
set_option maxHeartbeats 16000000
namespace DL
open PySem PySem.Spec PyProof.Rows L2 HeadL
variable {P : Program} {w : World} {K : PySem.W.Frag} {mg : Str → Option Value} {base : Heap}
def S_is_number : DEnv → M Out := (sRet (vAnd (eIs .int (eVar 0)) (vNot (eIs .bool (eVar 0)))))
def F_is_number : List Sl → M PyData := fnD 1 S_is_number
def S_tuple_of (Fr : List Sl → M PyData) : DEnv → M Out := (sSeq (sIf (tst (eIs2 .list .tuple (eVar 0))) (sRet (op1 gTuple (eLc (fSeq (eVar 0)) [1] (aName 1) yes (eCall 1 Fr (aCons (eVar 1) aNil))))) sNil) (sRet (eVar 0)))
def F_tuple_of : Nat → List Sl → M PyData
  | 0 => fun _ _ => none
  | n + 1 => fnD 2 (S_tuple_of (F_tuple_of n))
def S_is_tuple_of : DEnv → M Out := (sRet (vAnd (eIs .tuple (eVar 0)) (op2 gEq (op1 gLen (eVar 0)) (eVar 1))))
def F_is_tuple_of : List Sl → M PyData := fnD 2 S_is_tuple_of
def S_are_lots : DEnv → M Out := (sSeq (sIf (tOrD (tNotD (tst (eCall 2 F_is_tuple_of (aCons (eVar 0) (aCons (eVar 1) aNil))))) (tNotD (tst (op1 gAll (eLc (fSeq (eVar 0)) [2] (aName 2) yes (eCall 1 F_is_number (aCons (eVar 2) aNil))))))) (sRet (eC (.bool false))) sNil) (sRet (op2 gEq (eVar 0) (eCall 1 F_as_they_come (aCons (eVar 0) aNil)))))
def F_are_lots : List Sl → M PyData := fnD 3 S_are_lots
def S_row_by : DEnv → M Out := (sSeq (sUnp (aTup [3, 4, 5, 6]) (eVar 0)) (sRet (eTup (aCons (op2 gIx (eVar 1) (eVar 3)) (aCons (op2 gIx (eVar 2) (eVar 4)) (aCons (op1 gTuple (eLc (fSeq (eVar 5)) [7] (aName 7) yes (op2 gIx (eVar 2) (eVar 7)))) (aCons (op1 gTuple (eLc (fSeq (eVar 6)) [7] (aName 7) yes (op2 gIx (eVar 2) (eVar 7)))) aNil)))))))
def F_row_by : List Sl → M PyData := fnD 8 S_row_by
def S_flag_names : DEnv → M Out := (sSeq (sNew 3 (eLst aNil)) (sSeq (sFor (fEnum (op2 gIx (eVar 0) (eC (.int 3)))) (aTup [4, 5]) (sSeq (sNew 6 (eLc (fSeq (eVar 5)) [8] (aName 8) yes (op1 gTuple (eLc (fSeq (eVar 8)) [7] (aName 7) yes (eCall 3 F_row_by (aCons (eVar 7) (aCons (eVar 1) (aCons (eVar 2) aNil)))))))) (sFrz 6 (sApp 3 (eTup (aCons (op2 gIx (op2 gIx (eVar 0) (eC (.int 0))) (eVar 4)) (aCons (op2 gIx (eVar 1) (eVar 4)) (aCons (op1 gTuple (eVar 6)) aNil)))))))) (sFrz 3 (sRet (eVar 3)))))
def F_flag_names : List Sl → M PyData := fnD 9 S_flag_names
def S_hue_names : DEnv → M Out := (sSeq (sNew 3 (eLst aNil)) (sSeq (sFor (fEnum (op2 gIx (eVar 0) (eC (.int 1)))) (aTup [4, 5]) (sSeq (sPar [6, 7] (aConsN (eLst aNil) (aConsN (eLst aNil) aNil))) (sSeq (sFor (fSeq (op2 gIx (eVar 0) (eC (.int 3)))) (aName 8) (sSeq (sApp 6 (op1 gTuple (eLc (fSeq (op2 gIx (eVar 8) (eVar 4))) [9] (aName 9) yes (eCall 3 F_row_by (aCons (eVar 9) (aCons (eVar 1) (aCons (eVar 2) aNil))))))) (sFor (fSeq (eVar 8)) (aName 10) (sExt 7 (eLc (fSeq (eVar 10)) [9] (aName 9) yes (eTup (aCons (op2 gIx (eVar 2) (op2 gIx (op2 gIx (eVar 9) (eC (.int 2))) (eVar 4))) (aCons (op2 gIx (eVar 2) (op2 gIx (op2 gIx (eVar 9) (eC (.int 3))) (eVar 4))) aNil)))))))) (sApp 3 (eTup (aCons (eVar 5) (aCons (op2 gIx (eVar 2) (eVar 4)) (aCons (op1 gTuple (eBor 6)) (aCons (op1 gTuple (eBor 7)) aNil))))))))) (sFrz 3 (sRet (eVar 3)))))
def F_hue_names : List Sl → M PyData := fnD 11 S_hue_names
def S_finer : DEnv → M Out := (sRet (eTup (aCons (eCall 1 F_as_they_come (aCons (eCall 3 F_flag_names (aCons (eVar 0) (aCons (eVar 1) (aCons (eVar 2) aNil)))) aNil)) (aCons (eCall 1 F_as_they_come (aCons (eCall 3 F_hue_names (aCons (eVar 0) (aCons (eVar 1) (aCons (eVar 2) aNil)))) aNil)) aNil))))
def F_finer : List Sl → M PyData := fnD 3 S_finer
def S_is_folding : DEnv → M Out := (sSeq (sSet 2 (eCall 1 (F_tuple_of 8) (aCons (eVar 0) aNil))) (sSeq (sIf (tOrD (tNotD (tst (eCall 2 F_is_tuple_of (aCons (eVar 1) (aCons (eC (.int 2)) aNil))))) (tOrD (tNotD (tst (eCall 2 F_are_lots (aCons (op2 gIx (eVar 1) (eC (.int 0))) (aCons (op1 gLen (op2 gIx (eVar 2) (eC (.int 0)))) aNil))))) (tNotD (tst (eCall 2 F_are_lots (aCons (op2 gIx (eVar 1) (eC (.int 1))) (aCons (op1 gLen (op2 gIx (eVar 2) (eC (.int 1)))) aNil))))))) (sRet (eC (.bool false))) sNil) (sRet (op2 gEq (eCall 3 F_finer (aCons (eVar 2) (aCons (op2 gIx (eVar 1) (eC (.int 0))) (aCons (op2 gIx (eVar 1) (eC (.int 1))) aNil)))) (eVar 1)))))
def F_is_folding : List Sl → M PyData := fnD 3 S_is_folding
def S_folding : DEnv → M Out := (sSeq (sSet 1 (eCall 1 (F_tuple_of 8) (aCons (eVar 0) aNil))) (sSeq (sPar [2, 3] (aCons (eTup (aCons (eCall 1 F_as_they_come (aCons (op2 gIx (eVar 1) (eC (.int 0))) aNil)) (aCons (eCall 1 F_as_they_come (aCons (op2 gIx (eVar 1) (eC (.int 1))) aNil)) aNil))) (aCons (eC .none) aNil))) (sSeq (whGo (tst (op2 gNe (eVar 2) (eVar 3))) (sPar [2, 3] (aCons (eCall 3 F_finer (aCons (eVar 1) (aCons (op2 gIx (eVar 2) (eC (.int 0))) (aCons (op2 gIx (eVar 2) (eC (.int 1))) aNil)))) (aCons (eVar 2) aNil))) 1000) (sRet (eVar 2)))))
def F_folding : List Sl → M PyData := fnD 4 S_folding
def S_row_folded : DEnv → M Out := (sSeq (sUnp (aTup [3, 4, 5, 6]) (eCall 3 F_row_by (aCons (eVar 0) (aCons (op2 gIx (eVar 1) (eC (.int 0))) (aCons (op2 gIx (eVar 1) (eC (.int 1))) aNil))))) (sRet (eTup (aCons (eVar 3) (aCons (eVar 4) (aCons (op1 gTuple (eLc (fSeq (eVar 2)) [7] (aName 7) yes (op2 gIx (eVar 5) (eVar 7)))) (aCons (op1 gTuple (eLc (fSeq (eVar 2)) [7] (aName 7) yes (op2 gIx (eVar 6) (eVar 7)))) aNil)))))))
def F_row_folded : List Sl → M PyData := fnD 8 S_row_folded
def S__law_take : DEnv → M Out := (sSeq (sIf (tst (op2 gGt (eUrn 0 0) (eC (.int 0)))) (sSeq (sSet 2 (op2 gMod (op1 gInt (eUrn 0 0)) (eVar 1))) (sSeq (sPutU 0 (op2 gFdiv (eUrn 0 0) (eVar 1)) 0) (sRet (eVar 2)))) sNil) (sSeq (sPutU 0 (op2 gAdd (eUrn 0 2) (eC (.int 1))) 2) (sSeq (sSet 3 (op2 gMod (op1 gInt (op2 gMul (op2 gAdd (eUrn 0 1) (op2 gMul (eC (.int 48271)) (eUrn 0 2))) (op2 gAdd (eC (.int 39373)) (eUrn 0 2)))) (eC (.int 2147483647)))) (sSeq (sSet 4 (op2 gAdd (op2 gMod (op1 gInt (eVar 3)) (eC (.int 40009))) (eC (.int 7)))) (sSeq (sSet 5 (op2 gMod (op1 gInt (op2 gMul (op2 gAdd (op2 gAdd (eVar 3) (eUrn 0 2)) (op2 gFdiv (eUrn 0 1) (eC (.int 1000003)))) (eVar 4))) (eC (.int 2147483629)))) (sRet (op2 gMod (op1 gInt (op2 gFdiv (op2 gMod (op1 gInt (op2 gAdd (op2 gMul (eVar 5) (eC (.int 48271))) (eVar 3))) (eC (.int 2147483587))) (eC (.int 64)))) (eVar 1))))))))
def F__law_take : List Sl → M PyData := fnD 6 S__law_take
def S__law_cells : DEnv → M Out := (sSeq (sNew 2 (eOrN (op1 gList (eSlL (eBor 0) oNo (oSo (eVar 1)))) (eLst (aCons (eC (.int 0)) aNil)))) (sSeq (sFor (fEnum (eSlL (eBor 0) (oSo (eVar 1)) (oSo (eC (.int 63))))) (aTup [3, 4]) (sSeq (sSet 5 (op2 gMod (op1 gInt (eVar 3)) (eVar 1))) (sPut 2 (op2 gAdd (op2 gIx (eBor 2) (eVar 5)) (op2 gMul (eVar 4) (op2 gAdd (eVar 3) (eC (.int 2))))) (eVar 5)))) (sFrz 2 (sRet (eVar 2)))))
def F__law_cells : List Sl → M PyData := fnD 6 S__law_cells
def S__law_same (Fr : List Sl → M PyData) : DEnv → M Out := (sSeq (sIf (tst (eIs2 .list .tuple (eVar 1))) (sSeq (sIf (tOrD (tst (op2 gNe (eIs .list (eVar 0)) (eIs .list (eVar 1)))) (tst (op2 gNe (eIs .tuple (eVar 0)) (eIs .tuple (eVar 1))))) (sRet (eC (.bool false))) sNil) (sRet (vAnd (op2 gEq (op1 gLen (eVar 0)) (op1 gLen (eVar 1))) (op1 gAll (eLc (fZip (eVar 0) (eVar 1)) [2, 3] (aTup [2, 3]) yes (eCall 2 Fr (aCons (eVar 2) (aCons (eVar 3) aNil)))))))) sNil) (sSeq (sIf (tOrD (tst (op2 gIs (eVar 1) (eC .none))) (tst (eIs2 .bool .str (eVar 1)))) (sRet (vAnd (op2 gEq (eVar 0) (eVar 1)) (vAnd (op2 gEq (eIs .bool (eVar 0)) (eIs .bool (eVar 1))) (op2 gEq (op2 gIs (eVar 0) (eC .none)) (op2 gIs (eVar 1) (eC .none)))))) sNil) (sRet (vAnd (eIs .int (eVar 0)) (vAnd (vNot (eIs .bool (eVar 0))) (op2 gEq (eVar 0) (eVar 1)))))))
def F__law_same : Nat → List Sl → M PyData
  | 0 => fun _ _ => none
  | n + 1 => fnD 4 (S__law_same (F__law_same n))
def S__law_lists (Fr : List Sl → M PyData) : DEnv → M Out := (sRet (eIf (tst (eIs2 .list .tuple (eVar 0))) (eLc (fSeq (eVar 0)) [1] (aName 1) yes (eCall 1 Fr (aCons (eVar 1) aNil))) (eVar 0)))
def F__law_lists : Nat → List Sl → M PyData
  | 0 => fun _ _ => none
  | n + 1 => fnD 2 (S__law_lists (F__law_lists n))
def S__law_of : DEnv → M Out := (sRet (op2 gIx (eVar 1) (eCall 2 F__law_take (aConsV 0 (aCons (op1 gLen (eVar 1)) aNil)))))
def F__law_of : List Sl → M PyData := fnD 2 S__law_of
def S__law_parity : DEnv → M Out := (sSeq (sPar [0, 1] (aCons (eTup (aCons (eC (.int 0)) (aCons (eC (.int 1)) aNil))) (aConsN (eLst aNil) aNil))) (sSeq (sFor (fSeq (eTup (aCons (eC (.int 0)) (aCons (eC (.int 1)) aNil)))) (aName 2) (sSeq (sNew 3 (eLst aNil)) (sSeq (sFor (fSeq (eTup (aCons (eC (.int 0)) (aCons (eC (.int 1)) aNil)))) (aName 4) (sApp 3 (op1 gTuple (eLc (fSeq (eTup (aCons (eC (.int 0)) (aCons (eC (.int 1)) aNil)))) [5] (aName 5) yes (eTup (aCons (op2 gMod (op2 gAdd (op2 gAdd (eVar 2) (eVar 4)) (eVar 5)) (eC (.int 2))) (aCons (eVar 5) (aCons (eVar 0) (aCons (eVar 0) aNil))))))))) (sApp 1 (op1 gTuple (eBor 3)))))) (sRet (eTup (aCons (eTup (aCons (eC (.bool false)) (aCons (eC (.bool true)) aNil))) (aCons (eTup (aCons (eC (.int 0)) (aCons (eC (.int 1)) aNil))) (aCons (eTup (aCons (eC (.int 0)) (aCons (eC (.int 0)) aNil))) (aCons (op1 gTuple (eBor 1)) aNil))))))))
def F__law_parity : List Sl → M PyData := fnD 6 S__law_parity
def S__law_marked : DEnv → M Out := (sSeq (sPar [0, 1, 2] (aCons (eTup (aCons (eC (.int 0)) (aCons (eC (.int 1)) (aCons (eC (.int 2)) aNil)))) (aCons (eTup (aCons (eC (.int 1)) (aCons (eC (.int 1)) (aCons (eC (.int 2)) aNil)))) (aConsN (eLst aNil) aNil)))) (sSeq (sFor (fSeq (eTup (aCons (eC (.int 0)) (aCons (eC (.int 1)) aNil)))) (aName 3) (sSeq (sSet 4 (eTup (aCons (eTup (aCons (eVar 3) (aCons (eC (.int 0)) (aCons (eVar 0) (aCons (eVar 0) aNil))))) (aCons (eTup (aCons (eC (.int 0)) (aCons (eC (.int 2)) (aCons (eVar 0) (aCons (eVar 1) aNil))))) aNil)))) (sSeq (sSet 5 (eTup (aCons (eTup (aCons (eVar 3) (aCons (eC (.int 1)) (aCons (eVar 0) (aCons (eVar 0) aNil))))) (aCons (eTup (aCons (eC (.int 1)) (aCons (eC (.int 2)) (aCons (eVar 0) (aCons (eVar 1) aNil))))) aNil)))) (sApp 2 (eTup (aCons (eVar 4) (aCons (eVar 5) (aCons (eTup (aCons (eTup (aCons (eVar 3) (aCons (eC (.int 0)) (aCons (eVar 0) (aCons (eVar 0) aNil))))) (aCons (eTup (aCons (eVar 3) (aCons (eC (.int 2)) (aCons (eVar 0) (aCons (eVar 0) aNil))))) aNil))) aNil)))))))) (sRet (eTup (aCons (eTup (aCons (eC (.bool false)) (aCons (eC (.bool true)) aNil))) (aCons (eTup (aCons (eC (.int 0)) (aCons (eC (.int 0)) (aCons (eC (.int 1)) aNil)))) (aCons (eTup (aCons (eC (.int 0)) (aCons (eC (.int 0)) aNil))) (aCons (op1 gTuple (eBor 2)) aNil))))))))
def F__law_marked : List Sl → M PyData := fnD 6 S__law_marked
def S__law_answer : DEnv → M Out := (sSeq (sPar [2, 3] (aCons (op2 gIx (op2 gIx (eVar 0) (eC (.int 2))) (eC (.int 0))) (aCons (op2 gRep (eLst (aCons (op2 gIx (op2 gIx (eVar 0) (eC (.int 2))) (eC (.int 1))) aNil)) (op2 gIx (eVar 1) (eC (.int 0)))) aNil))) (sSeq (sFor (fSeq (op2 gIx (eVar 1) (eC (.int 1)))) (aTup [4, 5]) (sSeq (sUnp (aTup [2, 6, 7, 8]) (op2 gIx (op2 gIx (op2 gIx (op2 gIx (eVar 0) (eC (.int 3))) (eVar 2)) (op2 gIx (eVar 3) (eVar 4))) (eVar 5))) (sSet 3 (op2 gCatL (op2 gCatL (eLc (fSeq (eSlL (eVar 3) oNo (oSo (eVar 4)))) [9] (aName 9) yes (op2 gIx (eVar 7) (eVar 9))) (eLst (aCons (eVar 6) aNil))) (eLc (fSeq (eSlL (eVar 3) (oSo (op2 gAdd (eVar 4) (eC (.int 1)))) oNo)) [9] (aName 9) yes (op2 gIx (eVar 8) (eVar 9))))))) (sRet (op2 gIx (op2 gIx (eVar 0) (eC (.int 0))) (eVar 2)))))
def F__law_answer : List Sl → M PyData := fnD 10 S__law_answer
def S__law_history : DEnv → M Out := (sSeq (sPar [2, 3] (aCons (op2 gAdd (eC (.int 1)) (eCall 2 F__law_take (aConsV 0 (aCons (eC (.int 5)) aNil)))) (aConsN (eLst aNil) aNil))) (sSeq (sFor (fRng (eCall 2 F__law_take (aConsV 0 (aCons (eC (.int 9)) aNil)))) (aName 4) (sApp 3 (eTup (aCons (eCall 2 F__law_take (aConsV 0 (aCons (eVar 2) aNil))) (aCons (eCall 2 F__law_take (aConsV 0 (aCons (op2 gAdd (eVar 1) (eC (.int 1))) aNil))) aNil))))) (sRet (eTup (aCons (eVar 2) (aCons (op1 gTuple (eBor 3)) aNil))))))
def F__law_history : List Sl → M PyData := fnD 5 S__law_history
def S__law_hue : DEnv → M Out := (sRet (eCall 2 F__law_of (aConsV 0 (aCons (eLc (fEnum (eVar 1)) [3, 4] (aTup [3, 4]) (tst (op2 gEq (eVar 4) (eVar 2))) (eVar 3)) aNil))))
def F__law_hue : List Sl → M PyData := fnD 5 S__law_hue
def S__law_filled : DEnv → M Out := (sSeq (sPar [3, 4] (aConsN (eLst aNil) (aCons (op1 gMax (eVar 1)) aNil))) (sSeq (sFor (fRng (eVar 2)) (aName 5) (sSeq (sNew 6 (eLst aNil)) (sSeq (sFor (fSeq (eVar 1)) (aName 7) (sSeq (sNew 8 (eLst aNil)) (sSeq (sFor (fRng (op2 gAdd (eVar 4) (eC (.int 1)))) (aName 9) (sSeq (sNew 10 (eLc (fSeq (eTup (aCons (eC (.int 0)) (aCons (eC (.int 1)) aNil)))) [12] (aName 12) yes (op1 gTuple (eLc (fSeq (eVar 1)) [11] (aName 11) yes (eCall 3 F__law_hue (aConsV 0 (aCons (eVar 1) (aCons (eVar 11) aNil)))))))) (sFrz 10 (sApp 8 (eTup (aCons (eCall 2 F__law_take (aConsV 0 (aCons (eVar 2) aNil))) (aCons (eCall 3 F__law_hue (aConsV 0 (aCons (eVar 1) (aCons (eVar 9) aNil)))) (aCons (op2 gIx (eVar 10) (eC (.int 0))) (aCons (op2 gIx (eVar 10) (eC (.int 1))) aNil))))))))) (sApp 6 (op1 gTuple (eBor 8)))))) (sApp 3 (op1 gTuple (eBor 6)))))) (sSeq (sSet 13 (op1 gTuple (eLc (fRng (eVar 2)) [5] (aName 5) yes (op2 gEq (eCall 2 F__law_take (aConsV 0 (aCons (eC (.int 2)) aNil))) (eC (.int 0)))))) (sRet (eTup (aCons (eVar 13) (aCons (eVar 1) (aCons (eTup (aCons (eCall 2 F__law_take (aConsV 0 (aCons (eVar 2) aNil))) (aCons (eCall 3 F__law_hue (aConsV 0 (aCons (eVar 1) (aCons (eC (.int 0)) aNil)))) aNil))) (aCons (op1 gTuple (eBor 3)) aNil)))))))))
def F__law_filled : List Sl → M PyData := fnD 14 S__law_filled
def S__law_book : DEnv → M Out := (sSeq (sSet 3 (eLst aNil)) (sSeq (sFor (fRng (op2 gAdd (eVar 1) (eC (.int 1)))) (aName 4) (sSet 3 (op2 gCatL (eVar 3) (op2 gRep (eLst (aCons (eVar 4) aNil)) (op2 gAdd (eC (.int 1)) (eCall 2 F__law_take (aConsV 0 (aCons (eVar 2) aNil)))))))) (sSeq (sPar [5, 6] (aConsN (op1 gList (eVar 3)) (aConsN (eLst aNil) aNil))) (sSeq (whGo (tst (op2 gNe (eBor 5) (eLst aNil))) (sAppPop 6 5 (eCall 2 F__law_take (aConsV 0 (aCons (op1 gLen (eBor 5)) aNil)))) 1000) (sRet (eCall 3 F__law_filled (aConsV 0 (aCons (op1 gTuple (eBor 6)) (aCons (op2 gAdd (eC (.int 1)) (eCall 2 F__law_take (aConsV 0 (aCons (eC (.int 3)) aNil)))) aNil)))))))))
def F__law_book : List Sl → M PyData := fnD 7 S__law_book
def S__law_come : DEnv → M Out := (sSeq (sSet 1 (eLst aNil)) (sSeq (sFor (fSeq (eVar 0)) (aName 2) (sSet 1 (op2 gCatL (eVar 1) (op2 gRep (eLst (aCons (eVar 2) aNil)) (op1 gInt (op2 gNotIn (eVar 2) (eVar 1))))))) (sRet (op1 gTuple (eLc (fSeq (eVar 0)) [2] (aName 2) yes (op2 gIndexL (eVar 1) (eVar 2)))))))
def F__law_come : List Sl → M PyData := fnD 3 S__law_come
def S__law_one : DEnv → M Out := (sRet (eCall 2 F__law_of (aConsV 0 (aCons (eLc (fEnum (eVar 1)) [3, 4] (aTup [3, 4]) (tst (op2 gEq (eVar 4) (eVar 2))) (eVar 3)) aNil))))
def F__law_one : List Sl → M PyData := fnD 5 S__law_one
def S__law_blown : DEnv → M Out := (sSeq (sSet 2 (op2 gCatL (op1 gRgL (op1 gLen (op2 gIx (eVar 1) (eC (.int 0))))) (eLc (fRng (eCall 2 F__law_take (aConsV 0 (aCons (eC (.int 3)) aNil)))) [3] (aName 3) yes (eCall 2 F__law_take (aConsV 0 (aCons (op1 gLen (op2 gIx (eVar 1) (eC (.int 0)))) aNil)))))) (sSeq (sSet 4 (op2 gCatL (op1 gRgL (op1 gLen (op2 gIx (eVar 1) (eC (.int 1))))) (eLc (fRng (eCall 2 F__law_take (aConsV 0 (aCons (eC (.int 4)) aNil)))) [3] (aName 3) yes (eCall 2 F__law_take (aConsV 0 (aCons (op1 gLen (op2 gIx (eVar 1) (eC (.int 1)))) aNil)))))) (sSeq (sNew 5 (eLst aNil)) (sSeq (sFor (fSeq (eVar 2)) (aName 6) (sSeq (sNew 7 (eLst aNil)) (sSeq (sFor (fSeq (eVar 4)) (aName 8) (sSeq (sNew 9 (eLst aNil)) (sSeq (sFor (fSeq (op2 gIx (op2 gIx (op2 gIx (eVar 1) (eC (.int 3))) (eVar 6)) (eVar 8))) (aTup [10, 11, 12, 13]) (sSeq (sNew 14 (eLc (fSeq (eTup (aCons (eVar 12) (aCons (eVar 13) aNil)))) [16] (aName 16) yes (op1 gTuple (eLc (fSeq (eVar 4)) [15] (aName 15) yes (eCall 3 F__law_one (aConsV 0 (aCons (eVar 4) (aCons (op2 gIx (eVar 16) (eVar 15)) aNil)))))))) (sFrz 14 (sApp 9 (eTup (aCons (eCall 3 F__law_one (aConsV 0 (aCons (eVar 2) (aCons (eVar 10) aNil)))) (aCons (eCall 3 F__law_one (aConsV 0 (aCons (eVar 4) (aCons (eVar 11) aNil)))) (aCons (op2 gIx (eVar 14) (eC (.int 0))) (aCons (op2 gIx (eVar 14) (eC (.int 1))) aNil))))))))) (sApp 7 (op1 gTuple (eBor 9)))))) (sApp 5 (op1 gTuple (eBor 7)))))) (sSeq (sSet 17 (eTup (aCons (eCall 3 F__law_one (aConsV 0 (aCons (eVar 2) (aCons (op2 gIx (op2 gIx (eVar 1) (eC (.int 2))) (eC (.int 0))) aNil)))) (aCons (eCall 3 F__law_one (aConsV 0 (aCons (eVar 4) (aCons (op2 gIx (op2 gIx (eVar 1) (eC (.int 2))) (eC (.int 1))) aNil)))) aNil)))) (sSeq (sSet 18 (eTup (aCons (op1 gTuple (eLc (fSeq (eVar 2)) [6] (aName 6) yes (op2 gIx (op2 gIx (eVar 1) (eC (.int 0))) (eVar 6)))) (aCons (op1 gTuple (eLc (fSeq (eVar 4)) [8] (aName 8) yes (op2 gIx (op2 gIx (eVar 1) (eC (.int 1))) (eVar 8)))) (aCons (eVar 17) (aCons (op1 gTuple (eBor 5)) aNil)))))) (sRet (eTup (aCons (eVar 18) (aCons (eVar 2) (aCons (eVar 4) aNil)))))))))))
def F__law_blown : List Sl → M PyData := fnD 19 S__law_blown
def S__law_meet : DEnv → M Out := (sSeq (sIf (tOrD (tst (op2 gNe (op2 gIx (eVar 2) (op2 gIx (eVar 0) (eC (.int 0)))) (op2 gIx (eVar 2) (op2 gIx (eVar 1) (eC (.int 0)))))) (tst (op2 gNe (op2 gIx (eVar 3) (op2 gIx (eVar 0) (eC (.int 1)))) (op2 gIx (eVar 3) (op2 gIx (eVar 1) (eC (.int 1))))))) (sRet (eC (.bool false))) sNil) (sSeq (sFor (fSeq (eTup (aCons (eC (.int 2)) (aCons (eC (.int 3)) aNil)))) (aName 4) (sFor (fZip (op2 gIx (eVar 0) (eVar 4)) (eVar 3)) (aTup [5, 6]) (sIf (tst (op1 gAny (eLc (fZip (op2 gIx (eVar 1) (eVar 4)) (eVar 3)) [7, 8] (aTup [7, 8]) (tst (op2 gEq (eVar 8) (eVar 6))) (op2 gNe (op2 gIx (eVar 3) (eVar 5)) (op2 gIx (eVar 3) (eVar 7)))))) (sRet (eC (.bool false))) sNil))) (sRet (eC (.bool true)))))
def F__law_meet : List Sl → M PyData := fnD 9 S__law_meet
def S__law_is_one : DEnv → M Out := (sSeq (sUnp (aTup [2, 3]) (eVar 1)) (sSeq (sFor (fEnum (op2 gIx (eVar 0) (eC (.int 3)))) (aTup [4, 5]) (sFor (fEnum (op2 gIx (eVar 0) (eC (.int 3)))) (aTup [6, 7]) (sIf (tst (op2 gEq (op2 gIx (eVar 2) (eVar 4)) (op2 gIx (eVar 2) (eVar 6)))) (sSeq (sIf (tst (op2 gNe (op2 gIx (op2 gIx (eVar 0) (eC (.int 0))) (eVar 4)) (op2 gIx (op2 gIx (eVar 0) (eC (.int 0))) (eVar 6)))) (sRet (eC (.bool false))) sNil) (sFor (fEnum (eVar 5)) (aTup [8, 9]) (sFor (fEnum (eVar 7)) (aTup [10, 11]) (sIf (tst (op2 gEq (op2 gIx (eVar 3) (eVar 8)) (op2 gIx (eVar 3) (eVar 10)))) (sIf (tOrD (tst (op2 gNe (op2 gIx (op2 gIx (eVar 0) (eC (.int 1))) (eVar 8)) (op2 gIx (op2 gIx (eVar 0) (eC (.int 1))) (eVar 10)))) (tNotD (tst (op1 gAll (eLc (fZip (eVar 9) (eVar 11)) [12, 13] (aTup [12, 13]) yes (eCall 4 F__law_meet (aCons (eVar 12) (aCons (eVar 13) (aCons (eVar 2) (aCons (eVar 3) aNil)))))))))) (sRet (eC (.bool false))) sNil) sNil)))) sNil))) (sRet (eC (.bool true)))))
def F__law_is_one : List Sl → M PyData := fnD 14 S__law_is_one
def S__law_seen : DEnv → M Out := (sRet (eTup (aCons (op2 gIx (eVar 1) (op2 gIx (eVar 0) (eC (.int 0)))) (aCons (op2 gIx (eVar 2) (op2 gIx (eVar 0) (eC (.int 1)))) (aCons (eLc (fSeq (op2 gIx (eVar 0) (eC (.int 2)))) [3] (aName 3) yes (op2 gIx (eVar 2) (eVar 3))) (aCons (eLc (fSeq (op2 gIx (eVar 0) (eC (.int 3)))) [3] (aName 3) yes (op2 gIx (eVar 2) (eVar 3))) aNil))))))
def F__law_seen : List Sl → M PyData := fnD 4 S__law_seen
def S__law_coarsest : DEnv → M Out := (sSeq (sPar [1, 2, 3] (aCons (eCall 1 F__law_come (aCons (op2 gIx (eVar 0) (eC (.int 0))) aNil)) (aCons (eCall 1 F__law_come (aCons (op2 gIx (eVar 0) (eC (.int 1))) aNil)) (aCons (eC (.bool true)) aNil)))) (sSeq (whGo (tst (eVar 3)) (sSeq (sNew 4 (eLst aNil)) (sSeq (sFor (fEnum (op2 gIx (eVar 0) (eC (.int 3)))) (aTup [5, 6]) (sApp 4 (eTup (aCons (op2 gIx (eVar 1) (eVar 5)) (aCons (eLc (fSeq (eVar 6)) [8] (aName 8) yes (eLc (fSeq (eVar 8)) [7] (aName 7) yes (eCall 3 F__law_seen (aCons (eVar 7) (aCons (eVar 1) (aCons (eVar 2) aNil)))))) aNil))))) (sFrz 4 (sSeq (sPar [9, 4] (aCons (eCall 1 F__law_come (aCons (eVar 4) aNil)) (aConsN (eLst aNil) aNil))) (sSeq (sFor (fRng (op1 gLen (eVar 2))) (aName 10) (sSeq (sPar [11, 12] (aConsN (eLst aNil) (aConsN (eLst aNil) aNil))) (sSeq (sFor (fSeq (op2 gIx (eVar 0) (eC (.int 3)))) (aName 6) (sSeq (sApp 11 (eLc (fSeq (op2 gIx (eVar 6) (eVar 10))) [7] (aName 7) yes (eCall 3 F__law_seen (aCons (eVar 7) (aCons (eVar 1) (aCons (eVar 2) aNil)))))) (sFor (fSeq (eVar 6)) (aName 8) (sApp 12 (eLc (fSeq (eVar 8)) [7] (aName 7) yes (eTup (aCons (op2 gIx (eVar 2) (op2 gIx (op2 gIx (eVar 7) (eC (.int 2))) (eVar 10))) (aCons (op2 gIx (eVar 2) (op2 gIx (op2 gIx (eVar 7) (eC (.int 3))) (eVar 10))) aNil)))))))) (sFrz 12 (sFrz 11 (sApp 4 (eTup (aCons (op2 gIx (eVar 2) (eVar 10)) (aCons (eVar 11) (aCons (eVar 12) aNil)))))))))) (sFrz 4 (sSeq (sSet 13 (eCall 1 F__law_come (aCons (eVar 4) aNil))) (sSeq (sSet 3 (op2 gNe (eTup (aCons (eVar 9) (aCons (eVar 13) aNil))) (eTup (aCons (eVar 1) (aCons (eVar 2) aNil))))) (sPar [1, 2] (aCons (eVar 9) (aCons (eVar 13) aNil))))))))))) 1000) (sRet (eTup (aCons (eVar 1) (aCons (eVar 2) aNil))))))
def F__law_coarsest : List Sl → M PyData := fnD 14 S__law_coarsest
def S__law_folded : DEnv → M Out := (sSeq (sUnp (aTup [2, 3]) (eVar 1)) (sSeq (sPar [4, 5, 6] (aCons (eLc (fRng (op2 gAdd (op1 gMax (eVar 2)) (eC (.int 1)))) [7] (aName 7) yes (op2 gIndexT (eVar 2) (eVar 7))) (aCons (eLc (fRng (op2 gAdd (op1 gMax (eVar 3)) (eC (.int 1)))) [7] (aName 7) yes (op2 gIndexT (eVar 3) (eVar 7))) (aConsN (eLst aNil) aNil)))) (sSeq (sFor (fSeq (eVar 4)) (aName 8) (sSeq (sNew 9 (eLst aNil)) (sSeq (sFor (fSeq (eVar 5)) (aName 10) (sSeq (sNew 11 (eLst aNil)) (sSeq (sFor (fSeq (op2 gIx (op2 gIx (op2 gIx (eVar 0) (eC (.int 3))) (eVar 8)) (eVar 10))) (aTup [12, 7, 13, 14]) (sApp 11 (eTup (aCons (op2 gIx (eVar 2) (eVar 12)) (aCons (op2 gIx (eVar 3) (eVar 7)) (aCons (op1 gTuple (eLc (fSeq (eVar 5)) [15] (aName 15) yes (op2 gIx (eVar 3) (op2 gIx (eVar 13) (eVar 15))))) (aCons (op1 gTuple (eLc (fSeq (eVar 5)) [15] (aName 15) yes (op2 gIx (eVar 3) (op2 gIx (eVar 14) (eVar 15))))) aNil))))))) (sApp 9 (op1 gTuple (eBor 11)))))) (sApp 6 (op1 gTuple (eBor 9)))))) (sRet (eTup (aCons (op1 gTuple (eLc (fSeq (eVar 4)) [8] (aName 8) yes (op2 gIx (op2 gIx (eVar 0) (eC (.int 0))) (eVar 8)))) (aCons (op1 gTuple (eLc (fSeq (eVar 5)) [10] (aName 10) yes (op2 gIx (op2 gIx (eVar 0) (eC (.int 1))) (eVar 10)))) (aCons (eTup (aCons (op2 gIx (eVar 2) (op2 gIx (op2 gIx (eVar 0) (eC (.int 2))) (eC (.int 0)))) (aCons (op2 gIx (eVar 3) (op2 gIx (op2 gIx (eVar 0) (eC (.int 2))) (eC (.int 1)))) aNil))) (aCons (op1 gTuple (eBor 6)) aNil)))))))))
def F__law_folded : List Sl → M PyData := fnD 16 S__law_folded
end DL

set_option Elab.async false
set_option linter.all false
set_option maxRecDepth 100000
set_option maxHeartbeats 16000000
namespace DL
open PySem PySem.Spec PyProof.Rows L2 HeadL
variable {P : Program} {w : World} {K : PySem.W.Frag} {mg : Str → Option Value} {base : Heap}
theorem sc_is_number : FnScope ["thing"] ["thing"] (defScope s_is_number) := ⟨rfl, rfl, rfl, by decide +kernel, rfl, by decide +kernel, by decide +kernel⟩
theorem ok_is_number (D : Def K mg "is_number" s_is_number) (fr : Fre mg) : Cal P w K mg base CX0 1 "is_number" ["thing"] (spF K 1 F_is_number) :=
  cal_mk D sc_is_number (fun _ _ _ _ _ _ us hl => match us, hl with | [_], _ => rfl) fun f cdv A outer s H E hr hu => ⟨_, (dss_one (ds_ret (df_and (df_isC .int fr.isinstance fr.int (by decide +kernel) (df_var 0 (pv 0))) (df_one (df_not (df_isC .bool fr.isinstance fr.bool (by decide +kernel) (df_var 0 (pv 0))))))))⟩
end DL

set_option Elab.async false
set_option linter.all false
set_option maxRecDepth 100000
set_option maxHeartbeats 16000000
namespace DL
open PySem PySem.Spec PyProof.Rows L2 HeadL
variable {P : Program} {w : World} {K : PySem.W.Frag} {mg : Str → Option Value} {base : Heap}
theorem sc_tuple_of : FnScope ["thing", "part"] ["thing"] (defScope s_tuple_of) := ⟨rfl, rfl, rfl, by decide +kernel, rfl, by decide +kernel, by decide +kernel⟩
theorem ok_tuple_of (D : Def K mg "tuple_of" s_tuple_of) (fr : Fre mg) : ∀ n, Cal P w K mg base CX0 n "tuple_of" ["thing"] (spF K 1 (F_tuple_of n))
  | 0 => cal_none D (fun _ _ _ _ _ _ us hl => match us, hl with | [_], _ => rfl)
  | n + 1 => by
    have c_tuple_of := ok_tuple_of D fr n
    exact cal_mk D sc_tuple_of (fun _ _ _ _ _ _ us hl => match us, hl with | [_], _ => rfl) fun f cdv A outer s H E hr hu => ⟨_, (dss_cons (ds_if (dt_val (df_isC2 .list .tuple fr.isinstance fr.list fr.tuple (by decide +kernel) (by decide +kernel) (df_var 0 (pv 0)))) (dss_one (ds_ret (df_tuple fr.tuple (nb (dn_lc rfl sc_tuple_of.nd (own := [("part", 1)]) (dj_seq (df_var 0 (pv 0))) (blkOk_by (by kernel_rfl)) (by decide) (fun _ _ _ _ _ => (dg_name 1 (pg_name (i := 1) sc_tuple_of.nd rfl (Or.inl rfl)))) (fun _ _ _ _ _ => dts_nil) (fun _ _ _ _ _ => (df_cal c_tuple_of hr (da_cons (df_var 1 (pv 1)) da_nil)))))))) dss_nil) (dss_one (ds_ret (df_var 0 (pv 0)))))⟩
end DL

set_option Elab.async false
set_option linter.all false
set_option maxRecDepth 100000
set_option maxHeartbeats 16000000
namespace DL
open PySem PySem.Spec PyProof.Rows L2 HeadL
variable {P : Program} {w : World} {K : PySem.W.Frag} {mg : Str → Option Value} {base : Heap}
theorem sc_is_tuple_of : FnScope ["thing", "many"] ["thing", "many"] (defScope s_is_tuple_of) := ⟨rfl, rfl, rfl, by decide +kernel, rfl, by decide +kernel, by decide +kernel⟩
theorem ok_is_tuple_of (D : Def K mg "is_tuple_of" s_is_tuple_of) (fr : Fre mg) : Cal P w K mg base CX0 1 "is_tuple_of" ["thing", "many"] (spF K 2 F_is_tuple_of) :=
  cal_mk D sc_is_tuple_of (fun _ _ _ _ _ _ us hl => match us, hl with | [_, _], _ => rfl) fun f cdv A outer s H E hr hu => ⟨_, (dss_one (ds_ret (df_and (df_isC .tuple fr.isinstance fr.tuple (by decide +kernel) (df_var 0 (pv 0))) (df_one (df_eq hu (fb (df_len fr.len (fb (df_var 0 (pv 0))))) (fb (df_var 1 (pv 1))))))))⟩
end DL

set_option Elab.async false
set_option linter.all false
set_option maxRecDepth 100000
set_option maxHeartbeats 16000000
namespace DL
open PySem PySem.Spec PyProof.Rows L2 HeadL
variable {P : Program} {w : World} {K : PySem.W.Frag} {mg : Str → Option Value} {base : Heap}
theorem sc_are_lots : FnScope ["thing", "many", "own"] ["thing", "many"] (defScope s_are_lots) := ⟨rfl, rfl, rfl, by decide +kernel, rfl, by decide +kernel, by decide +kernel⟩
theorem ok_are_lots (D : Def K mg "are_lots" s_are_lots) (fr : Fre mg) (c_is_tuple_of : Cal P w K mg base CX0 1 "is_tuple_of" ["thing", "many"] (spF K 2 F_is_tuple_of)) (c_is_number : Cal P w K mg base CX0 1 "is_number" ["thing"] (spF K 1 F_is_number)) (c_as_they_come : Cal P w K mg base CX0 1 "as_they_come" ["names"] (spF K 1 F_as_they_come)) : Cal P w K mg base CX0 2 "are_lots" ["thing", "many"] (spF K 2 F_are_lots) :=
  cal_mk D sc_are_lots (fun _ _ _ _ _ _ us hl => match us, hl with | [_, _], _ => rfl) fun f cdv A outer s H E hr hu => ⟨_, (dss_cons (ds_if (dw_t (dw_or (dt_not (dt_val (df_cal c_is_tuple_of (hr.mono (by decide)) (da_cons (df_var 0 (pv 0)) (da_cons (df_var 1 (pv 1)) da_nil))))) (dw_or1 (dt_not (dt_val (df_all fr.all (nb (dn_lc rfl sc_are_lots.nd (own := [("own", 2)]) (dj_seq (df_var 0 (pv 0))) (blkOk_by (by kernel_rfl)) (by decide) (fun _ _ _ _ _ => (dg_name 2 (pg_name (i := 2) sc_are_lots.nd rfl (Or.inl rfl)))) (fun _ _ _ _ _ => dts_nil) (fun _ _ _ _ _ => (df_cal c_is_number (hr.mono (by decide)) (da_cons (df_var 2 (pv 2)) da_nil))))))))))) (dss_one (ds_ret df_bl)) dss_nil) (dss_one (ds_ret (df_eq hu (fb (df_var 0 (pv 0))) (fb (df_cal c_as_they_come (hr.mono (by decide)) (da_cons (df_var 0 (pv 0)) da_nil)))))))⟩
end DL

set_option Elab.async false
set_option linter.all false
set_option maxRecDepth 100000
set_option maxHeartbeats 16000000
namespace DL
open PySem PySem.Spec PyProof.Rows L2 HeadL
variable {P : Program} {w : World} {K : PySem.W.Frag} {mg : Str → Option Value} {base : Heap}
theorem sc_row_by : FnScope ["row", "flags", "hues", "flag", "hue", "left", "right", "own"] ["row", "flags", "hues"] (defScope s_row_by) := ⟨rfl, rfl, rfl, by decide +kernel, rfl, by decide +kernel, by decide +kernel⟩
theorem ok_row_by (D : Def K mg "row_by" s_row_by) (fr : Fre mg) : Cal P w K mg base CX0 1 "row_by" ["row", "flags", "hues"] (spF K 3 F_row_by) :=
  cal_mk D sc_row_by (fun _ _ _ _ _ _ us hl => match us, hl with | [_, _, _], _ => rfl) fun f cdv A outer s H E hr hu => ⟨_, (dss_cons (dst_unp (dj_tup [3, 4, 5, 6] (pg_tup rfl (pgs_cons (pg_name (i := 3) sc_row_by.nd rfl (Or.inl rfl)) (pgs_cons (pg_name (i := 4) sc_row_by.nd rfl (Or.inl rfl)) (pgs_cons (pg_name (i := 5) sc_row_by.nd rfl (Or.inl rfl)) (pgs_cons (pg_name (i := 6) sc_row_by.nd rfl (Or.inl rfl)) pgs_nil)))))) (df_var 0 (pv 0))) (dss_one (ds_ret (df_tup (da_cons (df_ix (fb (df_var 1 (pv 1))) (fb (df_var 3 (pv 3)))) (da_cons (df_ix (fb (df_var 2 (pv 2))) (fb (df_var 4 (pv 4)))) (da_cons (df_tuple fr.tuple (nb (dn_lc rfl sc_row_by.nd (own := [("own", 7)]) (dj_seq (df_var 5 (pv 5))) (blkOk_by (by kernel_rfl)) (by decide) (fun _ _ _ _ _ => (dg_name 7 (pg_name (i := 7) sc_row_by.nd rfl (Or.inl rfl)))) (fun _ _ _ _ _ => dts_nil) (fun _ _ _ _ _ => (df_ix (fb (df_var 2 (pv 2))) (fb (df_var 7 (pv 7)))))))) (da_cons (df_tuple fr.tuple (nb (dn_lc rfl sc_row_by.nd (own := [("own", 7)]) (dj_seq (df_var 6 (pv 6))) (blkOk_by (by kernel_rfl)) (by decide) (fun _ _ _ _ _ => (dg_name 7 (pg_name (i := 7) sc_row_by.nd rfl (Or.inl rfl)))) (fun _ _ _ _ _ => dts_nil) (fun _ _ _ _ _ => (df_ix (fb (df_var 2 (pv 2))) (fb (df_var 7 (pv 7)))))))) da_nil))))))))⟩
end DL

set_option Elab.async false
set_option linter.all false
set_option maxRecDepth 100000
set_option maxHeartbeats 16000000
namespace DL
open PySem PySem.Spec PyProof.Rows L2 HeadL
variable {P : Program} {w : World} {K : PySem.W.Frag} {mg : Str → Option Value} {base : Heap}
theorem sc_flag_names : FnScope ["book", "flags", "hues", "seen", "flag", "by_hue", "lines", "row", "line"] ["book", "flags", "hues"] (defScope s_flag_names) := ⟨rfl, rfl, rfl, by decide +kernel, rfl, by decide +kernel, by decide +kernel⟩
theorem ok_flag_names (D : Def K mg "flag_names" s_flag_names) (fr : Fre mg) (c_row_by : Cal P w K mg base CX0 1 "row_by" ["row", "flags", "hues"] (spF K 3 F_row_by)) : Cal P w K mg base CX0 2 "flag_names" ["book", "flags", "hues"] (spF K 3 F_flag_names) :=
  cal_mk D sc_flag_names (fun _ _ _ _ _ _ us hl => match us, hl with | [_, _, _], _ => rfl) fun f cdv A outer s H E hr hu => ⟨_, (dss_cons (dst_new (i := 3) sc_flag_names.nd (Or.inl rfl) (dn_lst da_nil)) (dss_cons (ds_for PassesOwn.never rfl (dj_enum fr.enumerate (df_ix (fb (df_var 0 (pv 0))) (fb df_int))) (dj_tup [4, 5] (pg_tup rfl (pgs_cons (pg_name (i := 4) sc_flag_names.nd rfl (Or.inl rfl)) (pgs_cons (pg_name (i := 5) sc_flag_names.nd rfl (Or.inl rfl)) pgs_nil)))) (dss_cons (dst_lc (i := 6) sc_flag_names.nd rfl (sw_true rfl rfl rfl (by decide +kernel)) (own := [("line", 8)]) (dj_seq (df_var 5 (pv 5))) (blkOk_by (by kernel_rfl)) (by decide) (fun _ _ _ _ _ => (dg_name 8 (pg_name (i := 8) sc_flag_names.nd rfl (Or.inl rfl)))) (fun _ _ _ _ _ => dts_nil) (fun _ _ _ _ _ => (df_tuple fr.tuple (nb (dn_lc rfl sc_flag_names.nd (own := [("row", 7)]) (dj_seq (df_var 8 (pv 8))) (blkOk_by (by kernel_rfl)) (by decide) (fun _ _ _ _ _ => (dg_name 7 (pg_name (i := 7) sc_flag_names.nd rfl (Or.inl rfl)))) (fun _ _ _ _ _ => dts_nil) (fun _ _ _ _ _ => (df_cal c_row_by (hr.mono (by decide)) (da_cons (df_var 7 (pv 7)) (da_cons (df_var 1 (pv 1)) (da_cons (df_var 2 (pv 2)) da_nil)))))))))) (dss_frz 6 (dss_one (dst_app (i := 3) (pv 3) (df_tup (da_cons (df_ix (fb (df_ix (fb (df_var 0 (pv 0))) (fb df_int))) (fb (df_var 4 (pv 4)))) (da_cons (df_ix (fb (df_var 1 (pv 1))) (fb (df_var 4 (pv 4)))) (da_cons (df_tuple fr.tuple (fb (df_var 6 (pv 6)))) da_nil))))))))) (dss_frz 3 (dss_one (ds_ret (df_var 3 (pv 3)))))))⟩
end DL

set_option Elab.async false
set_option linter.all false
set_option maxRecDepth 100000
set_option maxHeartbeats 16000000
namespace DL
open PySem PySem.Spec PyProof.Rows L2 HeadL
variable {P : Program} {w : World} {K : PySem.W.Frag} {mg : Str → Option Value} {base : Heap}
theorem sc_hue_names : FnScope ["book", "flags", "hues", "seen", "hue", "letter", "own", "given", "by_hue", "row", "line"] ["book", "flags", "hues"] (defScope s_hue_names) := ⟨rfl, rfl, rfl, by decide +kernel, rfl, by decide +kernel, by decide +kernel⟩
theorem ok_hue_names (D : Def K mg "hue_names" s_hue_names) (fr : Fre mg) (c_row_by : Cal P w K mg base CX0 1 "row_by" ["row", "flags", "hues"] (spF K 3 F_row_by)) : Cal P w K mg base CX0 2 "hue_names" ["book", "flags", "hues"] (spF K 3 F_hue_names) :=
  cal_mk D sc_hue_names (fun _ _ _ _ _ _ us hl => match us, hl with | [_, _, _], _ => rfl) fun f cdv A outer s H E hr hu => ⟨_, (dss_cons (dst_new (i := 3) sc_hue_names.nd (Or.inl rfl) (dn_lst da_nil)) (dss_cons (ds_for PassesOwn.never rfl (dj_enum fr.enumerate (df_ix (fb (df_var 0 (pv 0))) (fb df_int))) (dj_tup [4, 5] (pg_tup rfl (pgs_cons (pg_name (i := 4) sc_hue_names.nd rfl (Or.inr rfl)) (pgs_cons (pg_name (i := 5) sc_hue_names.nd rfl (Or.inl rfl)) pgs_nil)))) (dss_cons (dst_par2 (i := 6) (j := 7) sc_hue_names.nd (by decide) (da_consN (dn_lst da_nil) (da_consN (dn_lst da_nil) da_nil))) (dss_cons (ds_for PassesOwn.never rfl (dj_seq (df_ix (fb (df_var 0 (pv 0))) (fb df_int))) (dg_name 8 (pg_name (i := 8) sc_hue_names.nd rfl (Or.inl rfl))) (dss_cons (dst_app (i := 6) (pv 6) (df_tuple fr.tuple (nb (dn_lc rfl sc_hue_names.nd (own := [("row", 9)]) (dj_seq (df_ix (fb (df_var 8 (pv 8))) (fb (df_var 4 (pv 4))))) (blkOk_by (by kernel_rfl)) (by decide) (fun _ _ _ _ _ => (dg_name 9 (pg_name (i := 9) sc_hue_names.nd rfl (Or.inl rfl)))) (fun _ _ _ _ _ => dts_nil) (fun _ _ _ _ _ => (df_cal c_row_by (hr.mono (by decide)) (da_cons (df_var 9 (pv 9)) (da_cons (df_var 1 (pv 1)) (da_cons (df_var 2 (pv 2)) da_nil))))))))) (dss_one (ds_for PassesOwn.never rfl (dj_seq (df_var 8 (pv 8))) (dg_name 10 (pg_name (i := 10) sc_hue_names.nd rfl (Or.inl rfl))) (dss_one (dst_ext (i := 7) (pv 7) (dn_lc rfl sc_hue_names.nd (own := [("row", 9)]) (dj_seq (df_var 10 (pv 10))) (blkOk_by (by kernel_rfl)) (by decide) (fun _ _ _ _ _ => (dg_name 9 (pg_name (i := 9) sc_hue_names.nd rfl (Or.inl rfl)))) (fun _ _ _ _ _ => dts_nil) (fun _ _ _ _ _ => (df_tup (da_cons (df_ix (fb (df_var 2 (pv 2))) (fb (df_ix (fb (df_ix (fb (df_var 9 (pv 9))) (fb df_int))) (fb (df_var 4 (pv 4)))))) (da_cons (df_ix (fb (df_var 2 (pv 2))) (fb (df_ix (fb (df_ix (fb (df_var 9 (pv 9))) (fb df_int))) (fb (df_var 4 (pv 4)))))) da_nil))))))))))) (dss_one (dst_app (i := 3) (pv 3) (df_tup (da_cons (df_var 5 (pv 5)) (da_cons (df_ix (fb (df_var 2 (pv 2))) (fb (df_var 4 (pv 4)))) (da_cons (df_tuple fr.tuple (db_var 6 (pv 6))) (da_cons (df_tuple fr.tuple (db_var 7 (pv 7))) da_nil)))))))))) (dss_frz 3 (dss_one (ds_ret (df_var 3 (pv 3)))))))⟩
end DL

set_option Elab.async false
set_option linter.all false
set_option maxRecDepth 100000
set_option maxHeartbeats 16000000
namespace DL
open PySem PySem.Spec PyProof.Rows L2 HeadL
variable {P : Program} {w : World} {K : PySem.W.Frag} {mg : Str → Option Value} {base : Heap}
theorem sc_finer : FnScope ["book", "flags", "hues"] ["book", "flags", "hues"] (defScope s_finer) := ⟨rfl, rfl, rfl, by decide +kernel, rfl, by decide +kernel, by decide +kernel⟩
theorem ok_finer (D : Def K mg "finer" s_finer) (fr : Fre mg) (c_as_they_come : Cal P w K mg base CX0 1 "as_they_come" ["names"] (spF K 1 F_as_they_come)) (c_hue_names : Cal P w K mg base CX0 2 "hue_names" ["book", "flags", "hues"] (spF K 3 F_hue_names)) (c_flag_names : Cal P w K mg base CX0 2 "flag_names" ["book", "flags", "hues"] (spF K 3 F_flag_names)) : Cal P w K mg base CX0 3 "finer" ["book", "flags", "hues"] (spF K 3 F_finer) :=
  cal_mk D sc_finer (fun _ _ _ _ _ _ us hl => match us, hl with | [_, _, _], _ => rfl) fun f cdv A outer s H E hr hu => ⟨_, (dss_one (ds_ret (df_tup (da_cons (df_cal c_as_they_come (hr.mono (by decide)) (da_cons (df_cal c_flag_names (hr.mono (by decide)) (da_cons (df_var 0 (pv 0)) (da_cons (df_var 1 (pv 1)) (da_cons (df_var 2 (pv 2)) da_nil)))) da_nil)) (da_cons (df_cal c_as_they_come (hr.mono (by decide)) (da_cons (df_cal c_hue_names (hr.mono (by decide)) (da_cons (df_var 0 (pv 0)) (da_cons (df_var 1 (pv 1)) (da_cons (df_var 2 (pv 2)) da_nil)))) da_nil)) da_nil)))))⟩
end DL

set_option Elab.async false
set_option linter.all false
set_option maxRecDepth 100000
set_option maxHeartbeats 16000000
namespace DL
open PySem PySem.Spec PyProof.Rows L2 HeadL
variable {P : Program} {w : World} {K : PySem.W.Frag} {mg : Str → Option Value} {base : Heap}
theorem sc_is_folding : FnScope ["book", "thing", "own"] ["book", "thing"] (defScope s_is_folding) := ⟨rfl, rfl, rfl, by decide +kernel, rfl, by decide +kernel, by decide +kernel⟩
theorem ok_is_folding (D : Def K mg "is_folding" s_is_folding) (fr : Fre mg) (c_tuple_of : Cal P w K mg base CX0 8 "tuple_of" ["thing"] (spF K 1 (F_tuple_of 8))) (c_is_tuple_of : Cal P w K mg base CX0 1 "is_tuple_of" ["thing", "many"] (spF K 2 F_is_tuple_of)) (c_are_lots : Cal P w K mg base CX0 2 "are_lots" ["thing", "many"] (spF K 2 F_are_lots)) (c_finer : Cal P w K mg base CX0 3 "finer" ["book", "flags", "hues"] (spF K 3 F_finer)) : Cal P w K mg base CX0 9 "is_folding" ["book", "thing"] (spF K 2 F_is_folding) :=
  cal_mk D sc_is_folding (fun _ _ _ _ _ _ us hl => match us, hl with | [_, _], _ => rfl) fun f cdv A outer s H E hr hu => ⟨_, (dss_cons (dst_set (i := 2) sc_is_folding.nd (Or.inl rfl) (df_cal c_tuple_of (hr.mono (by decide)) (da_cons (df_var 0 (pv 0)) da_nil))) (dss_cons (ds_if (dw_t (dw_or (dt_not (dt_val (df_cal c_is_tuple_of (hr.mono (by decide)) (da_cons (df_var 1 (pv 1)) (da_cons df_int da_nil))))) (dw_or (dt_not (dt_val (df_cal c_are_lots (hr.mono (by decide)) (da_cons (df_ix (fb (df_var 1 (pv 1))) (fb df_int)) (da_cons (df_len fr.len (fb (df_ix (fb (df_var 2 (pv 2))) (fb df_int)))) da_nil))))) (dw_or1 (dt_not (dt_val (df_cal c_are_lots (hr.mono (by decide)) (da_cons (df_ix (fb (df_var 1 (pv 1))) (fb df_int)) (da_cons (df_len fr.len (fb (df_ix (fb (df_var 2 (pv 2))) (fb df_int)))) da_nil))))))))) (dss_one (ds_ret df_bl)) dss_nil) (dss_one (ds_ret (df_eq hu (fb (df_cal c_finer (hr.mono (by decide)) (da_cons (df_var 2 (pv 2)) (da_cons (df_ix (fb (df_var 1 (pv 1))) (fb df_int)) (da_cons (df_ix (fb (df_var 1 (pv 1))) (fb df_int)) da_nil))))) (fb (df_var 1 (pv 1))))))))⟩
end DL

set_option Elab.async false
set_option linter.all false
set_option maxRecDepth 100000
set_option maxHeartbeats 16000000
namespace DL
open PySem PySem.Spec PyProof.Rows L2 HeadL
variable {P : Program} {w : World} {K : PySem.W.Frag} {mg : Str → Option Value} {base : Heap}
theorem sc_folding : FnScope ["book", "own", "found", "before"] ["book"] (defScope s_folding) := ⟨rfl, rfl, rfl, by decide +kernel, rfl, by decide +kernel, by decide +kernel⟩
theorem ok_folding (D : Def K mg "folding" s_folding) (fr : Fre mg) (c_tuple_of : Cal P w K mg base CX0 8 "tuple_of" ["thing"] (spF K 1 (F_tuple_of 8))) (c_as_they_come : Cal P w K mg base CX0 1 "as_they_come" ["names"] (spF K 1 F_as_they_come)) (c_finer : Cal P w K mg base CX0 3 "finer" ["book", "flags", "hues"] (spF K 3 F_finer)) : Cal P w K mg base CX0 9 "folding" ["book"] (spF K 1 F_folding) :=
  cal_mk D sc_folding (fun _ _ _ _ _ _ us hl => match us, hl with | [_], _ => rfl) fun f cdv A outer s H E hr hu => ⟨_, (dss_cons (dst_set (i := 1) sc_folding.nd (Or.inl rfl) (df_cal c_tuple_of (hr.mono (by decide)) (da_cons (df_var 0 (pv 0)) da_nil))) (dss_cons (dst_par2 (i := 2) (j := 3) sc_folding.nd (by decide) (da_cons (df_tup (da_cons (df_cal c_as_they_come (hr.mono (by decide)) (da_cons (df_ix (fb (df_var 1 (pv 1))) (fb df_int)) da_nil)) (da_cons (df_cal c_as_they_come (hr.mono (by decide)) (da_cons (df_ix (fb (df_var 1 (pv 1))) (fb df_int)) da_nil)) da_nil))) (da_cons df_non da_nil))) (dss_cons (ds_while 1000 PassesOwn.never (dt_ne hu (fb (df_var 2 (pv 2))) (fb (df_var 3 (pv 3)))) (dss_one (dst_par2 (i := 2) (j := 3) sc_folding.nd (by decide) (da_cons (df_cal c_finer (hr.mono (by decide)) (da_cons (df_var 1 (pv 1)) (da_cons (df_ix (fb (df_var 2 (pv 2))) (fb df_int)) (da_cons (df_ix (fb (df_var 2 (pv 2))) (fb df_int)) da_nil)))) (da_cons (df_var 2 (pv 2)) da_nil))))) (dss_one (ds_ret (df_var 2 (pv 2)))))))⟩
end DL

set_option Elab.async false
set_option linter.all false
set_option maxRecDepth 100000
set_option maxHeartbeats 16000000
namespace DL
open PySem PySem.Spec PyProof.Rows L2 HeadL
variable {P : Program} {w : World} {K : PySem.W.Frag} {mg : Str → Option Value} {base : Heap}
theorem sc_row_folded : FnScope ["row", "lots", "leads", "flag", "hue", "left", "right", "lead"] ["row", "lots", "leads"] (defScope s_row_folded) := ⟨rfl, rfl, rfl, by decide +kernel, rfl, by decide +kernel, by decide +kernel⟩
theorem ok_row_folded (D : Def K mg "row_folded" s_row_folded) (fr : Fre mg) (c_row_by : Cal P w K mg base CX0 1 "row_by" ["row", "flags", "hues"] (spF K 3 F_row_by)) : Cal P w K mg base CX0 2 "row_folded" ["row", "lots", "leads"] (spF K 3 F_row_folded) :=
  cal_mk D sc_row_folded (fun _ _ _ _ _ _ us hl => match us, hl with | [_, _, _], _ => rfl) fun f cdv A outer s H E hr hu => ⟨_, (dss_cons (dst_unp (dj_tup [3, 4, 5, 6] (pg_tup rfl (pgs_cons (pg_name (i := 3) sc_row_folded.nd rfl (Or.inl rfl)) (pgs_cons (pg_name (i := 4) sc_row_folded.nd rfl (Or.inl rfl)) (pgs_cons (pg_name (i := 5) sc_row_folded.nd rfl (Or.inr rfl)) (pgs_cons (pg_name (i := 6) sc_row_folded.nd rfl (Or.inr rfl)) pgs_nil)))))) (df_cal c_row_by (hr.mono (by decide)) (da_cons (df_var 0 (pv 0)) (da_cons (df_ix (fb (df_var 1 (pv 1))) (fb df_int)) (da_cons (df_ix (fb (df_var 1 (pv 1))) (fb df_int)) da_nil))))) (dss_one (ds_ret (df_tup (da_cons (df_var 3 (pv 3)) (da_cons (df_var 4 (pv 4)) (da_cons (df_tuple fr.tuple (nb (dn_lc rfl sc_row_folded.nd (own := [("lead", 7)]) (dj_seq (df_var 2 (pv 2))) (blkOk_by (by kernel_rfl)) (by decide) (fun _ _ _ _ _ => (dg_name 7 (pg_name (i := 7) sc_row_folded.nd rfl (Or.inl rfl)))) (fun _ _ _ _ _ => dts_nil) (fun _ _ _ _ _ => (df_ix (fb (df_var 5 (pv 5))) (fb (df_var 7 (pv 7)))))))) (da_cons (df_tuple fr.tuple (nb (dn_lc rfl sc_row_folded.nd (own := [("lead", 7)]) (dj_seq (df_var 2 (pv 2))) (blkOk_by (by kernel_rfl)) (by decide) (fun _ _ _ _ _ => (dg_name 7 (pg_name (i := 7) sc_row_folded.nd rfl (Or.inl rfl)))) (fun _ _ _ _ _ => dts_nil) (fun _ _ _ _ _ => (df_ix (fb (df_var 6 (pv 6))) (fb (df_var 7 (pv 7)))))))) da_nil))))))))⟩
end DL

set_option Elab.async false
set_option linter.all false
set_option maxRecDepth 100000
set_option maxHeartbeats 16000000
namespace DL
open PySem PySem.Spec PyProof.Rows L2 HeadL
variable {P : Program} {w : World} {K : PySem.W.Frag} {mg : Str → Option Value} {base : Heap}
theorem sc__law_take : FnScope ["_law_urn", "_law_low_so", "_law_drawn", "_law_once", "_law_far", "_law_twice"] ["_law_urn", "_law_low_so"] (defScope s__law_take) := ⟨rfl, rfl, rfl, by decide +kernel, rfl, by decide +kernel, by decide +kernel⟩
theorem ok__law_take (D : Def K mg "_law_take" s__law_take) (fr : Fre mg) : Cal P w K mg base CX0 1 "_law_take" ["_law_urn", "_law_low_so"] (spF K 2 F__law_take) :=
  cal_mk D sc__law_take (fun _ _ _ _ _ _ us hl => match us, hl with | [_, _], _ => rfl) fun f cdv A outer s H E hr hu => ⟨_, (dss_cons (ds_if (dt_gt (fb (df_urn 0 (pv 0))) (fb df_int)) (dss_cons (dst_set (i := 2) sc__law_take.nd (Or.inl rfl) (df_mod (fb (df_intc fr.int (fb (df_urn 0 (pv 0))))) (fb (df_var 1 (pv 1))))) (dss_cons (dst_putU (i := 0) (pv 0) (df_fdiv (fb (df_urn 0 (pv 0))) (fb (df_var 1 (pv 1))))) (dss_one (ds_ret (df_var 2 (pv 2)))))) dss_nil) (dss_cons (dst_putU (i := 0) (pv 0) (df_add (fb (df_urn 0 (pv 0))) (fb df_int))) (dss_cons (dst_set (i := 3) sc__law_take.nd (Or.inl rfl) (df_mod (fb (df_intc fr.int (fb (df_mul (fb (df_add (fb (df_urn 0 (pv 0))) (fb (df_mul (fb df_int) (fb (df_urn 0 (pv 0))))))) (fb (df_add (fb df_int) (fb (df_urn 0 (pv 0))))))))) (fb df_int))) (dss_cons (dst_set (i := 4) sc__law_take.nd (Or.inl rfl) (df_add (fb (df_mod (fb (df_intc fr.int (fb (df_var 3 (pv 3))))) (fb df_int))) (fb df_int))) (dss_cons (dst_set (i := 5) sc__law_take.nd (Or.inl rfl) (df_mod (fb (df_intc fr.int (fb (df_mul (fb (df_add (fb (df_add (fb (df_var 3 (pv 3))) (fb (df_urn 0 (pv 0))))) (fb (df_fdiv (fb (df_urn 0 (pv 0))) (fb df_int))))) (fb (df_var 4 (pv 4))))))) (fb df_int))) (dss_one (ds_ret (df_mod (fb (df_intc fr.int (fb (df_fdiv (fb (df_mod (fb (df_intc fr.int (fb (df_add (fb (df_mul (fb (df_var 5 (pv 5))) (fb df_int))) (fb (df_var 3 (pv 3))))))) (fb df_int))) (fb df_int))))) (fb (df_var 1 (pv 1)))))))))))⟩
end DL

set_option Elab.async false
set_option linter.all false
set_option maxRecDepth 100000
set_option maxHeartbeats 16000000
namespace DL
open PySem PySem.Spec PyProof.Rows L2 HeadL
variable {P : Program} {w : World} {K : PySem.W.Frag} {mg : Str → Option Value} {base : Heap}
theorem sc__law_cells : FnScope ["_law_script", "_law_top", "_law_cells_here", "_law_k", "_law_cell", "_law_at_so"] ["_law_script", "_law_top"] (defScope s__law_cells) := ⟨rfl, rfl, rfl, by decide +kernel, rfl, by decide +kernel, by decide +kernel⟩
theorem ok__law_cells (D : Def K mg "_law_cells" s__law_cells) (fr : Fre mg) : Cal P w K mg base CX0 1 "_law_cells" ["_law_script", "_law_top"] (spF K 2 F__law_cells) :=
  cal_mk D sc__law_cells (fun _ _ _ _ _ _ us hl => match us, hl with | [_, _], _ => rfl) fun f cdv A outer s H E hr hu => ⟨_, (dss_cons (dst_new (i := 2) sc__law_cells.nd (Or.inl rfl) (dn_or (dn_list fr.list (nb (dnj_sl (db_var 0 (pv 0)) do_no (do_so (df_var 1 (pv 1)))))) (dn_one (dn_lst (da_cons df_int da_nil))))) (dss_cons (ds_for PassesOwn.never rfl (dj_enum fr.enumerate (fz (dnj_sl (db_var 0 (pv 0)) (do_so (df_var 1 (pv 1))) (do_so df_int)))) (dj_tup [3, 4] (pg_tup rfl (pgs_cons (pg_name (i := 3) sc__law_cells.nd rfl (Or.inl rfl)) (pgs_cons (pg_name (i := 4) sc__law_cells.nd rfl (Or.inl rfl)) pgs_nil)))) (dss_cons (dst_set (i := 5) sc__law_cells.nd (Or.inl rfl) (df_mod (fb (df_intc fr.int (fb (df_var 3 (pv 3))))) (fb (df_var 1 (pv 1))))) (dss_one (dst_put (i := 2) (pv 2) (df_var 5 (pv 5)) (df_add (fb (df_ix (db_var 2 (pv 2)) (fb (df_var 5 (pv 5))))) (fb (df_mul (fb (df_var 4 (pv 4))) (fb (df_add (fb (df_var 3 (pv 3))) (fb df_int)))))))))) (dss_frz 2 (dss_one (ds_ret (df_var 2 (pv 2)))))))⟩
end DL

set_option Elab.async false
set_option linter.all false
set_option maxRecDepth 100000
set_option maxHeartbeats 16000000
namespace DL
open PySem PySem.Spec PyProof.Rows L2 HeadL
variable {P : Program} {w : World} {K : PySem.W.Frag} {mg : Str → Option Value} {base : Heap}
theorem sc__law_same : FnScope ["_law_got", "_law_goal", "_law_mine_so", "_law_own"] ["_law_got", "_law_goal"] (defScope s__law_same) := ⟨rfl, rfl, rfl, by decide +kernel, rfl, by decide +kernel, by decide +kernel⟩
theorem ok__law_same (D : Def K mg "_law_same" s__law_same) (fr : Fre mg) : ∀ n, Cal P w K mg base CX0 n "_law_same" ["_law_got", "_law_goal"] (spF K 2 (F__law_same n))
  | 0 => cal_none D (fun _ _ _ _ _ _ us hl => match us, hl with | [_, _], _ => rfl)
  | n + 1 => by
    have c__law_same := ok__law_same D fr n
    exact cal_mk D sc__law_same (fun _ _ _ _ _ _ us hl => match us, hl with | [_, _], _ => rfl) fun f cdv A outer s H E hr hu => ⟨_, (dss_cons (ds_if (dt_val (df_isC2 .list .tuple fr.isinstance fr.list fr.tuple (by decide +kernel) (by decide +kernel) (df_var 1 (pv 1)))) (dss_cons (ds_if (dw_t (dw_or (dt_ne hu (fb (df_isC .list fr.isinstance fr.list (by decide +kernel) (df_var 0 (pv 0)))) (fb (df_isC .list fr.isinstance fr.list (by decide +kernel) (df_var 1 (pv 1))))) (dw_or1 (dt_ne hu (fb (df_isC .tuple fr.isinstance fr.tuple (by decide +kernel) (df_var 0 (pv 0)))) (fb (df_isC .tuple fr.isinstance fr.tuple (by decide +kernel) (df_var 1 (pv 1)))))))) (dss_one (ds_ret df_bl)) dss_nil) (dss_one (ds_ret (df_and (df_eq hu (fb (df_len fr.len (fb (df_var 0 (pv 0))))) (fb (df_len fr.len (fb (df_var 1 (pv 1)))))) (df_one (df_all fr.all (nb (dn_lc rfl sc__law_same.nd (own := [("_law_mine_so", 2), ("_law_own", 3)]) (dj_zip fr.zip (df_var 0 (pv 0)) (df_var 1 (pv 1))) (blkOk_by (by kernel_rfl)) (by decide) (fun _ _ _ _ _ => (dj_tup [2, 3] (pg_tup rfl (pgs_cons (pg_name (i := 2) sc__law_same.nd rfl (Or.inl rfl)) (pgs_cons (pg_name (i := 3) sc__law_same.nd rfl (Or.inl rfl)) pgs_nil))))) (fun _ _ _ _ _ => dts_nil) (fun _ _ _ _ _ => (df_cal c__law_same hr (da_cons (df_var 2 (pv 2)) (da_cons (df_var 3 (pv 3)) da_nil)))))))))))) dss_nil) (dss_cons (ds_if (dw_t (dw_or (dt_isNn (fb (df_var 1 (pv 1))) (fb df_non)) (dw_or1 (dt_val (df_isC2 .bool .str fr.isinstance fr.bool fr.str (by decide +kernel) (by decide +kernel) (df_var 1 (pv 1))))))) (dss_one (ds_ret (df_and (df_eq hu (fb (df_var 0 (pv 0))) (fb (df_var 1 (pv 1)))) (df_and (df_eq hu (fb (df_isC .bool fr.isinstance fr.bool (by decide +kernel) (df_var 0 (pv 0)))) (fb (df_isC .bool fr.isinstance fr.bool (by decide +kernel) (df_var 1 (pv 1))))) (df_one (df_eq hu (fb (df_isNn (fb (df_var 0 (pv 0))) (fb df_non))) (fb (df_isNn (fb (df_var 1 (pv 1))) (fb df_non))))))))) dss_nil) (dss_one (ds_ret (df_and (df_isC .int fr.isinstance fr.int (by decide +kernel) (df_var 0 (pv 0))) (df_and (df_not (df_isC .bool fr.isinstance fr.bool (by decide +kernel) (df_var 0 (pv 0)))) (df_one (df_eq hu (fb (df_var 0 (pv 0))) (fb (df_var 1 (pv 1)))))))))))⟩
end DL

set_option Elab.async false
set_option linter.all false
set_option maxRecDepth 100000
set_option maxHeartbeats 16000000
namespace DL
open PySem PySem.Spec PyProof.Rows L2 HeadL
variable {P : Program} {w : World} {K : PySem.W.Frag} {mg : Str → Option Value} {base : Heap}
theorem sc__law_lists : FnScope ["_law_matter", "_law_own"] ["_law_matter"] (defScope s__law_lists) := ⟨rfl, rfl, rfl, by decide +kernel, rfl, by decide +kernel, by decide +kernel⟩
theorem ok__law_lists (D : Def K mg "_law_lists" s__law_lists) (fr : Fre mg) : ∀ n, Cal P w K mg base CX0 n "_law_lists" ["_law_matter"] (spF K 1 (F__law_lists n))
  | 0 => cal_none D (fun _ _ _ _ _ _ us hl => match us, hl with | [_], _ => rfl)
  | n + 1 => by
    have c__law_lists := ok__law_lists D fr n
    exact cal_mk D sc__law_lists (fun _ _ _ _ _ _ us hl => match us, hl with | [_], _ => rfl) fun f cdv A outer s H E hr hu => ⟨_, (dss_one (ds_ret (dg_if (dt_val (df_isC2 .list .tuple fr.isinstance fr.list fr.tuple (by decide +kernel) (by decide +kernel) (df_var 0 (pv 0)))) (fz (dn_lc rfl sc__law_lists.nd (own := [("_law_own", 1)]) (dj_seq (df_var 0 (pv 0))) (blkOk_by (by kernel_rfl)) (by decide) (fun _ _ _ _ _ => (dg_name 1 (pg_name (i := 1) sc__law_lists.nd rfl (Or.inl rfl)))) (fun _ _ _ _ _ => dts_nil) (fun _ _ _ _ _ => (df_cal c__law_lists hr (da_cons (df_var 1 (pv 1)) da_nil))))) (df_var 0 (pv 0)))))⟩
end DL

set_option Elab.async false
set_option linter.all false
set_option maxRecDepth 100000
set_option maxHeartbeats 16000000
namespace DL
open PySem PySem.Spec PyProof.Rows L2 HeadL
variable {P : Program} {w : World} {K : PySem.W.Frag} {mg : Str → Option Value} {base : Heap}
theorem sc__law_of : FnScope ["_law_urn", "_law_goods"] ["_law_urn", "_law_goods"] (defScope s__law_of) := ⟨rfl, rfl, rfl, by decide +kernel, rfl, by decide +kernel, by decide +kernel⟩
theorem ok__law_of (D : Def K mg "_law_of" s__law_of) (fr : Fre mg) (c__law_take : Cal P w K mg base CX0 1 "_law_take" ["_law_urn", "_law_low_so"] (spF K 2 F__law_take)) : Cal P w K mg base CX0 2 "_law_of" ["_law_urn", "_law_goods"] (spF K 2 F__law_of) :=
  cal_mk D sc__law_of (fun _ _ _ _ _ _ us hl => match us, hl with | [_, _], _ => rfl) fun f cdv A outer s H E hr hu => ⟨_, (dss_one (ds_ret (df_ix (fb (df_var 1 (pv 1))) (fb (df_cal c__law_take (hr.mono (by decide)) (da_consV 0 (pv 0) (da_cons (df_len fr.len (fb (df_var 1 (pv 1)))) da_nil)))))))⟩
end DL

set_option Elab.async false
set_option linter.all false
set_option maxRecDepth 100000
set_option maxHeartbeats 16000000
namespace DL
open PySem PySem.Spec PyProof.Rows L2 HeadL
variable {P : Program} {w : World} {K : PySem.W.Frag} {mg : Str → Option Value} {base : Heap}
theorem sc__law_parity : FnScope ["_law_stay", "_law_found", "_law_flag", "_law_lines", "_law_hue_here", "_law_letter"] [] (defScope s__law_parity) := ⟨rfl, rfl, rfl, by decide +kernel, rfl, by decide +kernel, by decide +kernel⟩
theorem ok__law_parity (D : Def K mg "_law_parity" s__law_parity) (fr : Fre mg) : Cal P w K mg base CX0 1 "_law_parity" [] (spF K 0 F__law_parity) :=
  cal_mk D sc__law_parity (fun _ _ _ _ _ _ us hl => match us, hl with | [], _ => rfl) fun f cdv A outer s H E hr hu => ⟨_, (dss_cons (dst_parT (is := [0, 1]) (pg_tup rfl (pgs_cons (pg_name (i := 0) sc__law_parity.nd rfl (Or.inr rfl)) (pgs_cons (pg_name (i := 1) sc__law_parity.nd rfl (Or.inl rfl)) pgs_nil))) (da_cons (df_tup (da_cons df_int (da_cons df_int da_nil))) (da_consN (dn_lst da_nil) da_nil))) (dss_cons (ds_for PassesOwn.never rfl (dj_seq (df_tup (da_cons df_int (da_cons df_int da_nil)))) (dg_name 2 (pg_name (i := 2) sc__law_parity.nd rfl (Or.inr rfl))) (dss_cons (dst_new (i := 3) sc__law_parity.nd (Or.inl rfl) (dn_lst da_nil)) (dss_cons (ds_for PassesOwn.never rfl (dj_seq (df_tup (da_cons df_int (da_cons df_int da_nil)))) (dg_name 4 (pg_name (i := 4) sc__law_parity.nd rfl (Or.inr rfl))) (dss_one (dst_app (i := 3) (pv 3) (df_tuple fr.tuple (nb (dn_lc rfl sc__law_parity.nd (own := [("_law_letter", 5)]) (dj_seq (df_tup (da_cons df_int (da_cons df_int da_nil)))) (blkOk_by (by kernel_rfl)) (by decide) (fun _ _ _ _ _ => (dg_name 5 (pg_name (i := 5) sc__law_parity.nd rfl (Or.inl rfl)))) (fun _ _ _ _ _ => dts_nil) (fun _ _ _ _ _ => (df_tup (da_cons (df_mod (fb (df_add (fb (df_add (fb (df_var 2 (pv 2))) (fb (df_var 4 (pv 4))))) (fb (df_var 5 (pv 5))))) (fb df_int)) (da_cons (df_var 5 (pv 5)) (da_cons (df_var 0 (pv 0)) (da_cons (df_var 0 (pv 0)) da_nil)))))))))))) (dss_one (dst_app (i := 1) (pv 1) (df_tuple fr.tuple (db_var 3 (pv 3)))))))) (dss_one (ds_ret (df_tup (da_cons (df_tup (da_cons df_bl (da_cons df_bl da_nil))) (da_cons (df_tup (da_cons df_int (da_cons df_int da_nil))) (da_cons (df_tup (da_cons df_int (da_cons df_int da_nil))) (da_cons (df_tuple fr.tuple (db_var 1 (pv 1))) da_nil)))))))))⟩
end DL

set_option Elab.async false
set_option linter.all false
set_option maxRecDepth 100000
set_option maxHeartbeats 16000000
namespace DL
open PySem PySem.Spec PyProof.Rows L2 HeadL
variable {P : Program} {w : World} {K : PySem.W.Frag} {mg : Str → Option Value} {base : Heap}
theorem sc__law_marked : FnScope ["_law_leave", "_law_mark", "_law_found", "_law_flag", "_law_first", "_law_second"] [] (defScope s__law_marked) := ⟨rfl, rfl, rfl, by decide +kernel, rfl, by decide +kernel, by decide +kernel⟩
theorem ok__law_marked (D : Def K mg "_law_marked" s__law_marked) (fr : Fre mg) : Cal P w K mg base CX0 1 "_law_marked" [] (spF K 0 F__law_marked) :=
  cal_mk D sc__law_marked (fun _ _ _ _ _ _ us hl => match us, hl with | [], _ => rfl) fun f cdv A outer s H E hr hu => ⟨_, (dss_cons (dst_par3 (i := 0) (j := 1) (l := 2) sc__law_marked.nd (by decide) (by decide) (by decide) (da_cons (df_tup (da_cons df_int (da_cons df_int (da_cons df_int da_nil)))) (da_cons (df_tup (da_cons df_int (da_cons df_int (da_cons df_int da_nil)))) (da_consN (dn_lst da_nil) da_nil)))) (dss_cons (ds_for PassesOwn.never rfl (dj_seq (df_tup (da_cons df_int (da_cons df_int da_nil)))) (dg_name 3 (pg_name (i := 3) sc__law_marked.nd rfl (Or.inl rfl))) (dss_cons (dst_set (i := 4) sc__law_marked.nd (Or.inl rfl) (df_tup (da_cons (df_tup (da_cons (df_var 3 (pv 3)) (da_cons df_int (da_cons (df_var 0 (pv 0)) (da_cons (df_var 0 (pv 0)) da_nil))))) (da_cons (df_tup (da_cons df_int (da_cons df_int (da_cons (df_var 0 (pv 0)) (da_cons (df_var 1 (pv 1)) da_nil))))) da_nil)))) (dss_cons (dst_set (i := 5) sc__law_marked.nd (Or.inl rfl) (df_tup (da_cons (df_tup (da_cons (df_var 3 (pv 3)) (da_cons df_int (da_cons (df_var 0 (pv 0)) (da_cons (df_var 0 (pv 0)) da_nil))))) (da_cons (df_tup (da_cons df_int (da_cons df_int (da_cons (df_var 0 (pv 0)) (da_cons (df_var 1 (pv 1)) da_nil))))) da_nil)))) (dss_one (dst_app (i := 2) (pv 2) (df_tup (da_cons (df_var 4 (pv 4)) (da_cons (df_var 5 (pv 5)) (da_cons (df_tup (da_cons (df_tup (da_cons (df_var 3 (pv 3)) (da_cons df_int (da_cons (df_var 0 (pv 0)) (da_cons (df_var 0 (pv 0)) da_nil))))) (da_cons (df_tup (da_cons (df_var 3 (pv 3)) (da_cons df_int (da_cons (df_var 0 (pv 0)) (da_cons (df_var 0 (pv 0)) da_nil))))) da_nil))) da_nil))))))))) (dss_one (ds_ret (df_tup (da_cons (df_tup (da_cons df_bl (da_cons df_bl da_nil))) (da_cons (df_tup (da_cons df_int (da_cons df_int (da_cons df_int da_nil)))) (da_cons (df_tup (da_cons df_int (da_cons df_int da_nil))) (da_cons (df_tuple fr.tuple (db_var 2 (pv 2))) da_nil)))))))))⟩
end DL

set_option Elab.async false
set_option linter.all false
set_option maxRecDepth 100000
set_option maxHeartbeats 16000000
namespace DL
open PySem PySem.Spec PyProof.Rows L2 HeadL
variable {P : Program} {w : World} {K : PySem.W.Frag} {mg : Str → Option Value} {base : Heap}
theorem sc__law_answer : FnScope ["_law_book_here", "_law_history_here", "_law_flag", "_law_hues", "_law_place", "_law_letter", "_law_own", "_law_left", "_law_right_here", "_law_hue_here"] ["_law_book_here", "_law_history_here"] (defScope s__law_answer) := ⟨rfl, rfl, rfl, by decide +kernel, rfl, by decide +kernel, by decide +kernel⟩
theorem ok__law_answer (D : Def K mg "_law_answer" s__law_answer) (fr : Fre mg) : Cal P w K mg base CX0 1 "_law_answer" ["_law_book_here", "_law_history_here"] (spF K 2 F__law_answer) :=
  cal_mk D sc__law_answer (fun _ _ _ _ _ _ us hl => match us, hl with | [_, _], _ => rfl) fun f cdv A outer s H E hr hu => ⟨_, (dss_cons (dst_par2 (i := 2) (j := 3) sc__law_answer.nd (by decide) (da_cons (df_ix (fb (df_ix (fb (df_var 0 (pv 0))) (fb df_int))) (fb df_int)) (da_cons (fz (dn_rep (dn_lst (da_cons (df_ix (fb (df_ix (fb (df_var 0 (pv 0))) (fb df_int))) (fb df_int)) da_nil)) (df_ix (fb (df_var 1 (pv 1))) (fb df_int)))) da_nil))) (dss_cons (ds_for PassesOwn.never rfl (dj_seq (df_ix (fb (df_var 1 (pv 1))) (fb df_int))) (dj_tup [4, 5] (pg_tup rfl (pgs_cons (pg_name (i := 4) sc__law_answer.nd rfl (Or.inl rfl)) (pgs_cons (pg_name (i := 5) sc__law_answer.nd rfl (Or.inl rfl)) pgs_nil)))) (dss_cons (dst_unp (dj_tup [2, 6, 7, 8] (pg_tup rfl (pgs_cons (pg_name (i := 2) sc__law_answer.nd rfl (Or.inl rfl)) (pgs_cons (pg_name (i := 6) sc__law_answer.nd rfl (Or.inl rfl)) (pgs_cons (pg_name (i := 7) sc__law_answer.nd rfl (Or.inr rfl)) (pgs_cons (pg_name (i := 8) sc__law_answer.nd rfl (Or.inr rfl)) pgs_nil)))))) (df_ix (fb (df_ix (fb (df_ix (fb (df_ix (fb (df_var 0 (pv 0))) (fb df_int))) (fb (df_var 2 (pv 2))))) (fb (df_ix (fb (df_var 3 (pv 3))) (fb (df_var 4 (pv 4))))))) (fb (df_var 5 (pv 5))))) (dss_one (dst_set (i := 3) sc__law_answer.nd (Or.inl rfl) (fz (dn_cat (ng (dn_cat (ng (dn_lc rfl sc__law_answer.nd (own := [("_law_hue_here", 9)]) (dj_seq (fz (dnj_sl (fb (df_var 3 (pv 3))) do_no (do_so (df_var 4 (pv 4)))))) (blkOk_by (by kernel_rfl)) (by decide) (fun _ _ _ _ _ => (dg_name 9 (pg_name (i := 9) sc__law_answer.nd rfl (Or.inl rfl)))) (fun _ _ _ _ _ => dts_nil) (fun _ _ _ _ _ => (df_ix (fb (df_var 7 (pv 7))) (fb (df_var 9 (pv 9))))))) (ng (dn_lst (da_cons (df_var 6 (pv 6)) da_nil))))) (ng (dn_lc rfl sc__law_answer.nd (own := [("_law_hue_here", 9)]) (dj_seq (fz (dnj_sl (fb (df_var 3 (pv 3))) (do_so (df_add (fb (df_var 4 (pv 4))) (fb df_int))) do_no))) (blkOk_by (by kernel_rfl)) (by decide) (fun _ _ _ _ _ => (dg_name 9 (pg_name (i := 9) sc__law_answer.nd rfl (Or.inl rfl)))) (fun _ _ _ _ _ => dts_nil) (fun _ _ _ _ _ => (df_ix (fb (df_var 8 (pv 8))) (fb (df_var 9 (pv 9))))))))))))) (dss_one (ds_ret (df_ix (fb (df_ix (fb (df_var 0 (pv 0))) (fb df_int))) (fb (df_var 2 (pv 2))))))))⟩
end DL

set_option Elab.async false
set_option linter.all false
set_option maxRecDepth 100000
set_option maxHeartbeats 16000000
namespace DL
open PySem PySem.Spec PyProof.Rows L2 HeadL
variable {P : Program} {w : World} {K : PySem.W.Frag} {mg : Str → Option Value} {base : Heap}
theorem sc__law_history : FnScope ["_law_tin", "_law_many_letters", "_law_many", "_law_changes", "_law_lap"] ["_law_tin", "_law_many_letters"] (defScope s__law_history) := ⟨rfl, rfl, rfl, by decide +kernel, rfl, by decide +kernel, by decide +kernel⟩
theorem ok__law_history (D : Def K mg "_law_history" s__law_history) (fr : Fre mg) (c__law_take : Cal P w K mg base CX0 1 "_law_take" ["_law_urn", "_law_low_so"] (spF K 2 F__law_take)) : Cal P w K mg base CX0 2 "_law_history" ["_law_tin", "_law_many_letters"] (spF K 2 F__law_history) :=
  cal_mk D sc__law_history (fun _ _ _ _ _ _ us hl => match us, hl with | [_, _], _ => rfl) fun f cdv A outer s H E hr hu => ⟨_, (dss_cons (dst_par2 (i := 2) (j := 3) sc__law_history.nd (by decide) (da_cons (df_add (fb df_int) (fb (df_cal c__law_take (hr.mono (by decide)) (da_consV 0 (pv 0) (da_cons df_int da_nil))))) (da_consN (dn_lst da_nil) da_nil))) (dss_cons (ds_for PassesOwn.never rfl (dj_range fr.range (df_cal c__law_take (hr.mono (by decide)) (da_consV 0 (pv 0) (da_cons df_int da_nil)))) (dg_name 4 (pg_name (i := 4) sc__law_history.nd rfl (Or.inl rfl))) (dss_one (dst_app (i := 3) (pv 3) (df_tup (da_cons (df_cal c__law_take (hr.mono (by decide)) (da_consV 0 (pv 0) (da_cons (df_var 2 (pv 2)) da_nil))) (da_cons (df_cal c__law_take (hr.mono (by decide)) (da_consV 0 (pv 0) (da_cons (df_add (fb (df_var 1 (pv 1))) (fb df_int)) da_nil))) da_nil)))))) (dss_one (ds_ret (df_tup (da_cons (df_var 2 (pv 2)) (da_cons (df_tuple fr.tuple (db_var 3 (pv 3))) da_nil)))))))⟩
end DL

set_option Elab.async false
set_option linter.all false
set_option maxRecDepth 100000
set_option maxHeartbeats 16000000
namespace DL
open PySem PySem.Spec PyProof.Rows L2 HeadL
variable {P : Program} {w : World} {K : PySem.W.Frag} {mg : Str → Option Value} {base : Heap}
theorem sc__law_hue : FnScope ["_law_tin", "_law_hues", "_law_letter", "_law_hue_here", "_law_its"] ["_law_tin", "_law_hues", "_law_letter"] (defScope s__law_hue) := ⟨rfl, rfl, rfl, by decide +kernel, rfl, by decide +kernel, by decide +kernel⟩
theorem ok__law_hue (D : Def K mg "_law_hue" s__law_hue) (fr : Fre mg) (c__law_of : Cal P w K mg base CX0 2 "_law_of" ["_law_urn", "_law_goods"] (spF K 2 F__law_of)) : Cal P w K mg base CX0 3 "_law_hue" ["_law_tin", "_law_hues", "_law_letter"] (spF K 3 F__law_hue) :=
  cal_mk D sc__law_hue (fun _ _ _ _ _ _ us hl => match us, hl with | [_, _, _], _ => rfl) fun f cdv A outer s H E hr hu => ⟨_, (dss_one (ds_ret (df_cal c__law_of (hr.mono (by decide)) (da_consV 0 (pv 0) (da_cons (fz (dn_lc rfl sc__law_hue.nd (own := [("_law_hue_here", 3), ("_law_its", 4)]) (dj_enum fr.enumerate (df_var 1 (pv 1))) (blkOk_by (by kernel_rfl)) (by decide) (fun _ _ _ _ _ => (dj_tup [3, 4] (pg_tup rfl (pgs_cons (pg_name (i := 3) sc__law_hue.nd rfl (Or.inl rfl)) (pgs_cons (pg_name (i := 4) sc__law_hue.nd rfl (Or.inl rfl)) pgs_nil))))) (fun _ _ _ _ _ => (dts_one (dt_eq hu (fb (df_var 4 (pv 4))) (fb (df_var 2 (pv 2)))))) (fun _ _ _ _ _ => (df_var 3 (pv 3))))) da_nil)))))⟩
end DL

set_option Elab.async false
set_option linter.all false
set_option maxRecDepth 100000
set_option maxHeartbeats 16000000
namespace DL
open PySem PySem.Spec PyProof.Rows L2 HeadL
variable {P : Program} {w : World} {K : PySem.W.Frag} {mg : Str → Option Value} {base : Heap}
theorem sc__law_filled : FnScope ["_law_tin", "_law_hues", "_law_flags", "_law_rows", "_law_most", "_law_flag", "_law_lines", "_law_hue_here", "_law_line", "_law_letter", "_law_maps", "_law_its", "_law_side", "_law_answers"] ["_law_tin", "_law_hues", "_law_flags"] (defScope s__law_filled) := ⟨rfl, rfl, rfl, by decide +kernel, rfl, by decide +kernel, by decide +kernel⟩
theorem ok__law_filled (D : Def K mg "_law_filled" s__law_filled) (fr : Fre mg) (c__law_hue : Cal P w K mg base CX0 3 "_law_hue" ["_law_tin", "_law_hues", "_law_letter"] (spF K 3 F__law_hue)) (c__law_take : Cal P w K mg base CX0 1 "_law_take" ["_law_urn", "_law_low_so"] (spF K 2 F__law_take)) : Cal P w K mg base CX0 4 "_law_filled" ["_law_tin", "_law_hues", "_law_flags"] (spF K 3 F__law_filled) :=
  cal_mk D sc__law_filled (fun _ _ _ _ _ _ us hl => match us, hl with | [_, _, _], _ => rfl) fun f cdv A outer s H E hr hu => ⟨_, (dss_cons (dst_par2 (i := 3) (j := 4) sc__law_filled.nd (by decide) (da_consN (dn_lst da_nil) (da_cons (df_max hu fr.max (fb (df_var 1 (pv 1)))) da_nil))) (dss_cons (ds_for PassesOwn.never rfl (dj_range fr.range (df_var 2 (pv 2))) (dg_name 5 (pg_name (i := 5) sc__law_filled.nd rfl (Or.inl rfl))) (dss_cons (dst_new (i := 6) sc__law_filled.nd (Or.inl rfl) (dn_lst da_nil)) (dss_cons (ds_for PassesOwn.never rfl (dj_seq (df_var 1 (pv 1))) (dg_name 7 (pg_name (i := 7) sc__law_filled.nd rfl (Or.inl rfl))) (dss_cons (dst_new (i := 8) sc__law_filled.nd (Or.inl rfl) (dn_lst da_nil)) (dss_cons (ds_for PassesOwn.never rfl (dj_range fr.range (df_add (fb (df_var 4 (pv 4))) (fb df_int))) (dg_name 9 (pg_name (i := 9) sc__law_filled.nd rfl (Or.inl rfl))) (dss_cons (dst_lc (i := 10) sc__law_filled.nd rfl (sw_true rfl rfl rfl (by decide +kernel)) (own := [("_law_side", 12)]) (dj_seq (df_tup (da_cons df_int (da_cons df_int da_nil)))) (blkOk_by (by kernel_rfl)) (by decide) (fun _ _ _ _ _ => (dg_name 12 (pg_name (i := 12) sc__law_filled.nd rfl (Or.inl rfl)))) (fun _ _ _ _ _ => dts_nil) (fun _ _ _ _ _ => (df_tuple fr.tuple (nb (dn_lc rfl sc__law_filled.nd (own := [("_law_its", 11)]) (dj_seq (df_var 1 (pv 1))) (blkOk_by (by kernel_rfl)) (by decide) (fun _ _ _ _ _ => (dg_name 11 (pg_name (i := 11) sc__law_filled.nd rfl (Or.inl rfl)))) (fun _ _ _ _ _ => dts_nil) (fun _ _ _ _ _ => (df_cal c__law_hue (hr.mono (by decide)) (da_consV 0 (pv 0) (da_cons (df_var 1 (pv 1)) (da_cons (df_var 11 (pv 11)) da_nil)))))))))) (dss_frz 10 (dss_one (dst_app (i := 8) (pv 8) (df_tup (da_cons (df_cal c__law_take (hr.mono (by decide)) (da_consV 0 (pv 0) (da_cons (df_var 2 (pv 2)) da_nil))) (da_cons (df_cal c__law_hue (hr.mono (by decide)) (da_consV 0 (pv 0) (da_cons (df_var 1 (pv 1)) (da_cons (df_var 9 (pv 9)) da_nil)))) (da_cons (df_ix (fb (df_var 10 (pv 10))) (fb df_int)) (da_cons (df_ix (fb (df_var 10 (pv 10))) (fb df_int)) da_nil)))))))))) (dss_one (dst_app (i := 6) (pv 6) (df_tuple fr.tuple (db_var 8 (pv 8)))))))) (dss_one (dst_app (i := 3) (pv 3) (df_tuple fr.tuple (db_var 6 (pv 6)))))))) (dss_cons (dst_set (i := 13) sc__law_filled.nd (Or.inl rfl) (df_tuple fr.tuple (nb (dn_lc rfl sc__law_filled.nd (own := [("_law_flag", 5)]) (dj_range fr.range (df_var 2 (pv 2))) (blkOk_by (by kernel_rfl)) (by decide) (fun _ _ _ _ _ => (dg_name 5 (pg_name (i := 5) sc__law_filled.nd rfl (Or.inl rfl)))) (fun _ _ _ _ _ => dts_nil) (fun _ _ _ _ _ => (df_eq hu (fb (df_cal c__law_take (hr.mono (by decide)) (da_consV 0 (pv 0) (da_cons df_int da_nil)))) (fb df_int))))))) (dss_one (ds_ret (df_tup (da_cons (df_var 13 (pv 13)) (da_cons (df_var 1 (pv 1)) (da_cons (df_tup (da_cons (df_cal c__law_take (hr.mono (by decide)) (da_consV 0 (pv 0) (da_cons (df_var 2 (pv 2)) da_nil))) (da_cons (df_cal c__law_hue (hr.mono (by decide)) (da_consV 0 (pv 0) (da_cons (df_var 1 (pv 1)) (da_cons df_int da_nil)))) da_nil))) (da_cons (df_tuple fr.tuple (db_var 3 (pv 3))) da_nil))))))))))⟩
end DL

set_option Elab.async false
set_option linter.all false
set_option maxRecDepth 100000
set_option maxHeartbeats 16000000
namespace DL
open PySem PySem.Spec PyProof.Rows L2 HeadL
variable {P : Program} {w : World} {K : PySem.W.Frag} {mg : Str → Option Value} {base : Heap}
theorem sc__law_book : FnScope ["_law_tin", "_law_many_letters", "_law_wide", "_law_hues", "_law_letter", "_law_left", "_law_order"] ["_law_tin", "_law_many_letters", "_law_wide"] (defScope s__law_book) := ⟨rfl, rfl, rfl, by decide +kernel, rfl, by decide +kernel, by decide +kernel⟩
theorem ok__law_book (D : Def K mg "_law_book" s__law_book) (fr : Fre mg) (c__law_take : Cal P w K mg base CX0 1 "_law_take" ["_law_urn", "_law_low_so"] (spF K 2 F__law_take)) (c__law_filled : Cal P w K mg base CX0 4 "_law_filled" ["_law_tin", "_law_hues", "_law_flags"] (spF K 3 F__law_filled)) : Cal P w K mg base CX0 5 "_law_book" ["_law_tin", "_law_many_letters", "_law_wide"] (spF K 3 F__law_book) :=
  cal_mk D sc__law_book (fun _ _ _ _ _ _ us hl => match us, hl with | [_, _, _], _ => rfl) fun f cdv A outer s H E hr hu => ⟨_, (dss_cons (dst_set (i := 3) sc__law_book.nd (Or.inl rfl) (fz (dn_lst da_nil))) (dss_cons (ds_for PassesOwn.never rfl (dj_range fr.range (df_add (fb (df_var 1 (pv 1))) (fb df_int))) (dg_name 4 (pg_name (i := 4) sc__law_book.nd rfl (Or.inl rfl))) (dss_one (dst_set (i := 3) sc__law_book.nd (Or.inl rfl) (fz (dn_cat (fg (df_var 3 (pv 3))) (ng (dn_rep (dn_lst (da_cons (df_var 4 (pv 4)) da_nil)) (df_add (fb df_int) (fb (df_cal c__law_take (hr.mono (by decide)) (da_consV 0 (pv 0) (da_cons (df_var 2 (pv 2)) da_nil)))))))))))) (dss_cons (dst_par2 (i := 5) (j := 6) sc__law_book.nd (by decide) (da_consN (dn_list fr.list (fb (df_var 3 (pv 3)))) (da_consN (dn_lst da_nil) da_nil))) (dss_cons (ds_while 1000 PassesOwn.never (dt_ne hu (db_var 5 (pv 5)) (nb (dn_lst da_nil))) (dss_one (dst_appPop (i := 6) (j := 5) (pv 6) (pv 5) (df_cal c__law_take (hr.mono (by decide)) (da_consV 0 (pv 0) (da_cons (df_len fr.len (db_var 5 (pv 5))) da_nil)))))) (dss_one (ds_ret (df_cal c__law_filled (hr.mono (by decide)) (da_consV 0 (pv 0) (da_cons (df_tuple fr.tuple (db_var 6 (pv 6))) (da_cons (df_add (fb df_int) (fb (df_cal c__law_take (hr.mono (by decide)) (da_consV 0 (pv 0) (da_cons df_int da_nil))))) da_nil))))))))))⟩
end DL

set_option Elab.async false
set_option linter.all false
set_option maxRecDepth 100000
set_option maxHeartbeats 16000000
namespace DL
open PySem PySem.Spec PyProof.Rows L2 HeadL
variable {P : Program} {w : World} {K : PySem.W.Frag} {mg : Str → Option Value} {base : Heap}
theorem sc__law_come : FnScope ["_law_names", "_law_known", "_law_own"] ["_law_names"] (defScope s__law_come) := ⟨rfl, rfl, rfl, by decide +kernel, rfl, by decide +kernel, by decide +kernel⟩
theorem ok__law_come (D : Def K mg "_law_come" s__law_come) (fr : Fre mg) : Cal P w K mg base CX0 1 "_law_come" ["_law_names"] (spF K 1 F__law_come) :=
  cal_mk D sc__law_come (fun _ _ _ _ _ _ us hl => match us, hl with | [_], _ => rfl) fun f cdv A outer s H E hr hu => ⟨_, (dss_cons (dst_set (i := 1) sc__law_come.nd (Or.inr rfl) (fz (dn_lst da_nil))) (dss_cons (ds_for PassesOwn.never rfl (dj_seq (df_var 0 (pv 0))) (dg_name 2 (pg_name (i := 2) sc__law_come.nd rfl (Or.inl rfl))) (dss_one (dst_set (i := 1) sc__law_come.nd (Or.inr rfl) (fz (dn_cat (fg (df_var 1 (pv 1))) (ng (dn_rep (dn_lst (da_cons (df_var 2 (pv 2)) da_nil)) (df_intc fr.int (fb (df_notIn hu (fb (df_var 2 (pv 2))) (fb (df_var 1 (pv 1))))))))))))) (dss_one (ds_ret (df_tuple fr.tuple (nb (dn_lc rfl sc__law_come.nd (own := [("_law_own", 2)]) (dj_seq (df_var 0 (pv 0))) (blkOk_by (by kernel_rfl)) (by decide) (fun _ _ _ _ _ => (dg_name 2 (pg_name (i := 2) sc__law_come.nd rfl (Or.inl rfl)))) (fun _ _ _ _ _ => dts_nil) (fun _ _ _ _ _ => (df_ixL hu (fb (df_var 1 (pv 1))) (df_var 2 (pv 2)))))))))))⟩
end DL

set_option Elab.async false
set_option linter.all false
set_option maxRecDepth 100000
set_option maxHeartbeats 16000000
namespace DL
open PySem PySem.Spec PyProof.Rows L2 HeadL
variable {P : Program} {w : World} {K : PySem.W.Frag} {mg : Str → Option Value} {base : Heap}
theorem sc__law_one : FnScope ["_law_urn", "_law_names", "_law_name", "_law_k", "_law_own"] ["_law_urn", "_law_names", "_law_name"] (defScope s__law_one) := ⟨rfl, rfl, rfl, by decide +kernel, rfl, by decide +kernel, by decide +kernel⟩
theorem ok__law_one (D : Def K mg "_law_one" s__law_one) (fr : Fre mg) (c__law_of : Cal P w K mg base CX0 2 "_law_of" ["_law_urn", "_law_goods"] (spF K 2 F__law_of)) : Cal P w K mg base CX0 3 "_law_one" ["_law_urn", "_law_names", "_law_name"] (spF K 3 F__law_one) :=
  cal_mk D sc__law_one (fun _ _ _ _ _ _ us hl => match us, hl with | [_, _, _], _ => rfl) fun f cdv A outer s H E hr hu => ⟨_, (dss_one (ds_ret (df_cal c__law_of (hr.mono (by decide)) (da_consV 0 (pv 0) (da_cons (fz (dn_lc rfl sc__law_one.nd (own := [("_law_k", 3), ("_law_own", 4)]) (dj_enum fr.enumerate (df_var 1 (pv 1))) (blkOk_by (by kernel_rfl)) (by decide) (fun _ _ _ _ _ => (dj_tup [3, 4] (pg_tup rfl (pgs_cons (pg_name (i := 3) sc__law_one.nd rfl (Or.inl rfl)) (pgs_cons (pg_name (i := 4) sc__law_one.nd rfl (Or.inl rfl)) pgs_nil))))) (fun _ _ _ _ _ => (dts_one (dt_eq hu (fb (df_var 4 (pv 4))) (fb (df_var 2 (pv 2)))))) (fun _ _ _ _ _ => (df_var 3 (pv 3))))) da_nil)))))⟩
end DL

set_option Elab.async false
set_option linter.all false
set_option maxRecDepth 100000
set_option maxHeartbeats 16000000
namespace DL
open PySem PySem.Spec PyProof.Rows L2 HeadL
variable {P : Program} {w : World} {K : PySem.W.Frag} {mg : Str → Option Value} {base : Heap}
theorem sc__law_blown : FnScope ["_law_urn", "_law_base", "_law_flags", "_law_lap", "_law_hues", "_law_rows", "_law_flag", "_law_lines", "_law_hue_here", "_law_line", "_law_goal", "_law_own", "_law_left", "_law_right_here", "_law_maps", "_law_its", "_law_side", "_law_begin", "_law_book_here"] ["_law_urn", "_law_base"] (defScope s__law_blown) := ⟨rfl, rfl, rfl, by decide +kernel, rfl, by decide +kernel, by decide +kernel⟩
theorem ok__law_blown (D : Def K mg "_law_blown" s__law_blown) (fr : Fre mg) (c__law_take : Cal P w K mg base CX0 1 "_law_take" ["_law_urn", "_law_low_so"] (spF K 2 F__law_take)) (c__law_one : Cal P w K mg base CX0 3 "_law_one" ["_law_urn", "_law_names", "_law_name"] (spF K 3 F__law_one)) : Cal P w K mg base CX0 4 "_law_blown" ["_law_urn", "_law_base"] (spF K 2 F__law_blown) :=
  cal_mk D sc__law_blown (fun _ _ _ _ _ _ us hl => match us, hl with | [_, _], _ => rfl) fun f cdv A outer s H E hr hu => ⟨_, (dss_cons (dst_set (i := 2) sc__law_blown.nd (Or.inl rfl) (fz (dn_cat (ng (dnj_listRg fr.list fr.range (df_len fr.len (fb (df_ix (fb (df_var 1 (pv 1))) (fb df_int)))))) (ng (dn_lc rfl sc__law_blown.nd (own := [("_law_lap", 3)]) (dj_range fr.range (df_cal c__law_take (hr.mono (by decide)) (da_consV 0 (pv 0) (da_cons df_int da_nil)))) (blkOk_by (by kernel_rfl)) (by decide) (fun _ _ _ _ _ => (dg_name 3 (pg_name (i := 3) sc__law_blown.nd rfl (Or.inl rfl)))) (fun _ _ _ _ _ => dts_nil) (fun _ _ _ _ _ => (df_cal c__law_take (hr.mono (by decide)) (da_consV 0 (pv 0) (da_cons (df_len fr.len (fb (df_ix (fb (df_var 1 (pv 1))) (fb df_int)))) da_nil))))))))) (dss_cons (dst_set (i := 4) sc__law_blown.nd (Or.inr rfl) (fz (dn_cat (ng (dnj_listRg fr.list fr.range (df_len fr.len (fb (df_ix (fb (df_var 1 (pv 1))) (fb df_int)))))) (ng (dn_lc rfl sc__law_blown.nd (own := [("_law_lap", 3)]) (dj_range fr.range (df_cal c__law_take (hr.mono (by decide)) (da_consV 0 (pv 0) (da_cons df_int da_nil)))) (blkOk_by (by kernel_rfl)) (by decide) (fun _ _ _ _ _ => (dg_name 3 (pg_name (i := 3) sc__law_blown.nd rfl (Or.inl rfl)))) (fun _ _ _ _ _ => dts_nil) (fun _ _ _ _ _ => (df_cal c__law_take (hr.mono (by decide)) (da_consV 0 (pv 0) (da_cons (df_len fr.len (fb (df_ix (fb (df_var 1 (pv 1))) (fb df_int)))) da_nil))))))))) (dss_cons (dst_new (i := 5) sc__law_blown.nd (Or.inl rfl) (dn_lst da_nil)) (dss_cons (ds_for PassesOwn.never rfl (dj_seq (df_var 2 (pv 2))) (dg_name 6 (pg_name (i := 6) sc__law_blown.nd rfl (Or.inl rfl))) (dss_cons (dst_new (i := 7) sc__law_blown.nd (Or.inl rfl) (dn_lst da_nil)) (dss_cons (ds_for PassesOwn.never rfl (dj_seq (df_var 4 (pv 4))) (dg_name 8 (pg_name (i := 8) sc__law_blown.nd rfl (Or.inl rfl))) (dss_cons (dst_new (i := 9) sc__law_blown.nd (Or.inl rfl) (dn_lst da_nil)) (dss_cons (ds_for PassesOwn.never rfl (dj_seq (df_ix (fb (df_ix (fb (df_ix (fb (df_var 1 (pv 1))) (fb df_int))) (fb (df_var 6 (pv 6))))) (fb (df_var 8 (pv 8))))) (dj_tup [10, 11, 12, 13] (pg_tup rfl (pgs_cons (pg_name (i := 10) sc__law_blown.nd rfl (Or.inl rfl)) (pgs_cons (pg_name (i := 11) sc__law_blown.nd rfl (Or.inl rfl)) (pgs_cons (pg_name (i := 12) sc__law_blown.nd rfl (Or.inl rfl)) (pgs_cons (pg_name (i := 13) sc__law_blown.nd rfl (Or.inl rfl)) pgs_nil)))))) (dss_cons (dst_lc (i := 14) sc__law_blown.nd rfl (sw_true rfl rfl rfl (by decide +kernel)) (own := [("_law_side", 16)]) (dj_seq (df_tup (da_cons (df_var 12 (pv 12)) (da_cons (df_var 13 (pv 13)) da_nil)))) (blkOk_by (by kernel_rfl)) (by decide) (fun _ _ _ _ _ => (dg_name 16 (pg_name (i := 16) sc__law_blown.nd rfl (Or.inr rfl)))) (fun _ _ _ _ _ => dts_nil) (fun _ _ _ _ _ => (df_tuple fr.tuple (nb (dn_lc rfl sc__law_blown.nd (own := [("_law_its", 15)]) (dj_seq (df_var 4 (pv 4))) (blkOk_by (by kernel_rfl)) (by decide) (fun _ _ _ _ _ => (dg_name 15 (pg_name (i := 15) sc__law_blown.nd rfl (Or.inl rfl)))) (fun _ _ _ _ _ => dts_nil) (fun _ _ _ _ _ => (df_cal c__law_one (hr.mono (by decide)) (da_consV 0 (pv 0) (da_cons (df_var 4 (pv 4)) (da_cons (df_ix (fb (df_var 16 (pv 16))) (fb (df_var 15 (pv 15)))) da_nil)))))))))) (dss_frz 14 (dss_one (dst_app (i := 9) (pv 9) (df_tup (da_cons (df_cal c__law_one (hr.mono (by decide)) (da_consV 0 (pv 0) (da_cons (df_var 2 (pv 2)) (da_cons (df_var 10 (pv 10)) da_nil)))) (da_cons (df_cal c__law_one (hr.mono (by decide)) (da_consV 0 (pv 0) (da_cons (df_var 4 (pv 4)) (da_cons (df_var 11 (pv 11)) da_nil)))) (da_cons (df_ix (fb (df_var 14 (pv 14))) (fb df_int)) (da_cons (df_ix (fb (df_var 14 (pv 14))) (fb df_int)) da_nil)))))))))) (dss_one (dst_app (i := 7) (pv 7) (df_tuple fr.tuple (db_var 9 (pv 9)))))))) (dss_one (dst_app (i := 5) (pv 5) (df_tuple fr.tuple (db_var 7 (pv 7)))))))) (dss_cons (dst_set (i := 17) sc__law_blown.nd (Or.inl rfl) (df_tup (da_cons (df_cal c__law_one (hr.mono (by decide)) (da_consV 0 (pv 0) (da_cons (df_var 2 (pv 2)) (da_cons (df_ix (fb (df_ix (fb (df_var 1 (pv 1))) (fb df_int))) (fb df_int)) da_nil)))) (da_cons (df_cal c__law_one (hr.mono (by decide)) (da_consV 0 (pv 0) (da_cons (df_var 4 (pv 4)) (da_cons (df_ix (fb (df_ix (fb (df_var 1 (pv 1))) (fb df_int))) (fb df_int)) da_nil)))) da_nil)))) (dss_cons (dst_set (i := 18) sc__law_blown.nd (Or.inl rfl) (df_tup (da_cons (df_tuple fr.tuple (nb (dn_lc rfl sc__law_blown.nd (own := [("_law_flag", 6)]) (dj_seq (df_var 2 (pv 2))) (blkOk_by (by kernel_rfl)) (by decide) (fun _ _ _ _ _ => (dg_name 6 (pg_name (i := 6) sc__law_blown.nd rfl (Or.inl rfl)))) (fun _ _ _ _ _ => dts_nil) (fun _ _ _ _ _ => (df_ix (fb (df_ix (fb (df_var 1 (pv 1))) (fb df_int))) (fb (df_var 6 (pv 6)))))))) (da_cons (df_tuple fr.tuple (nb (dn_lc rfl sc__law_blown.nd (own := [("_law_hue_here", 8)]) (dj_seq (df_var 4 (pv 4))) (blkOk_by (by kernel_rfl)) (by decide) (fun _ _ _ _ _ => (dg_name 8 (pg_name (i := 8) sc__law_blown.nd rfl (Or.inl rfl)))) (fun _ _ _ _ _ => dts_nil) (fun _ _ _ _ _ => (df_ix (fb (df_ix (fb (df_var 1 (pv 1))) (fb df_int))) (fb (df_var 8 (pv 8)))))))) (da_cons (df_var 17 (pv 17)) (da_cons (df_tuple fr.tuple (db_var 5 (pv 5))) da_nil)))))) (dss_one (ds_ret (df_tup (da_cons (df_var 18 (pv 18)) (da_cons (df_var 2 (pv 2)) (da_cons (df_var 4 (pv 4)) da_nil))))))))))))⟩
end DL

set_option Elab.async false
set_option linter.all false
set_option maxRecDepth 100000
set_option maxHeartbeats 16000000
namespace DL
open PySem PySem.Spec PyProof.Rows L2 HeadL
variable {P : Program} {w : World} {K : PySem.W.Frag} {mg : Str → Option Value} {base : Heap}
theorem sc__law_meet : FnScope ["_law_row", "_law_its", "_law_flags", "_law_hues", "_law_side", "_law_near", "_law_own", "_law_far", "_law_mine"] ["_law_row", "_law_its", "_law_flags", "_law_hues"] (defScope s__law_meet) := ⟨rfl, rfl, rfl, by decide +kernel, rfl, by decide +kernel, by decide +kernel⟩
theorem ok__law_meet (D : Def K mg "_law_meet" s__law_meet) (fr : Fre mg) : Cal P w K mg base CX0 1 "_law_meet" ["_law_row", "_law_its", "_law_flags", "_law_hues"] (spF K 4 F__law_meet) :=
  cal_mk D sc__law_meet (fun _ _ _ _ _ _ us hl => match us, hl with | [_, _, _, _], _ => rfl) fun f cdv A outer s H E hr hu => ⟨_, (dss_cons (ds_if (dw_t (dw_or (dt_ne hu (fb (df_ix (fb (df_var 2 (pv 2))) (fb (df_ix (fb (df_var 0 (pv 0))) (fb df_int))))) (fb (df_ix (fb (df_var 2 (pv 2))) (fb (df_ix (fb (df_var 1 (pv 1))) (fb df_int)))))) (dw_or1 (dt_ne hu (fb (df_ix (fb (df_var 3 (pv 3))) (fb (df_ix (fb (df_var 0 (pv 0))) (fb df_int))))) (fb (df_ix (fb (df_var 3 (pv 3))) (fb (df_ix (fb (df_var 1 (pv 1))) (fb df_int))))))))) (dss_one (ds_ret df_bl)) dss_nil) (dss_cons (ds_for PassesOwn.never rfl (dj_seq (df_tup (da_cons df_int (da_cons df_int da_nil)))) (dg_name 4 (pg_name (i := 4) sc__law_meet.nd rfl (Or.inl rfl))) (dss_one (ds_for PassesOwn.never rfl (dj_zip fr.zip (df_ix (fb (df_var 0 (pv 0))) (fb (df_var 4 (pv 4)))) (df_var 3 (pv 3))) (dj_tup [5, 6] (pg_tup rfl (pgs_cons (pg_name (i := 5) sc__law_meet.nd rfl (Or.inr rfl)) (pgs_cons (pg_name (i := 6) sc__law_meet.nd rfl (Or.inr rfl)) pgs_nil)))) (dss_one (ds_if (dt_val (df_any fr.any (nb (dn_lc rfl sc__law_meet.nd (own := [("_law_far", 7), ("_law_mine", 8)]) (dj_zip fr.zip (df_ix (fb (df_var 1 (pv 1))) (fb (df_var 4 (pv 4)))) (df_var 3 (pv 3))) (blkOk_by (by kernel_rfl)) (by decide) (fun _ _ _ _ _ => (dj_tup [7, 8] (pg_tup rfl (pgs_cons (pg_name (i := 7) sc__law_meet.nd rfl (Or.inl rfl)) (pgs_cons (pg_name (i := 8) sc__law_meet.nd rfl (Or.inl rfl)) pgs_nil))))) (fun _ _ _ _ _ => (dts_one (dt_eq hu (fb (df_var 8 (pv 8))) (fb (df_var 6 (pv 6)))))) (fun _ _ _ _ _ => (df_ne hu (fb (df_ix (fb (df_var 3 (pv 3))) (fb (df_var 5 (pv 5))))) (fb (df_ix (fb (df_var 3 (pv 3))) (fb (df_var 7 (pv 7))))))))))) (dss_one (ds_ret df_bl)) dss_nil))))) (dss_one (ds_ret df_bl))))⟩
end DL

set_option Elab.async false
set_option linter.all false
set_option maxRecDepth 100000
set_option maxHeartbeats 16000000
namespace DL
open PySem PySem.Spec PyProof.Rows L2 HeadL
variable {P : Program} {w : World} {K : PySem.W.Frag} {mg : Str → Option Value} {base : Heap}
theorem sc__law_is_one : FnScope ["_law_book_here", "_law_lots", "_law_flags", "_law_hues", "_law_f", "_law_by_hue", "_law_g", "_law_by_its", "_law_h", "_law_line", "_law_k", "_law_far", "_law_row", "_law_its"] ["_law_book_here", "_law_lots"] (defScope s__law_is_one) := ⟨rfl, rfl, rfl, by decide +kernel, rfl, by decide +kernel, by decide +kernel⟩
theorem ok__law_is_one (D : Def K mg "_law_is_one" s__law_is_one) (fr : Fre mg) (c__law_meet : Cal P w K mg base CX0 1 "_law_meet" ["_law_row", "_law_its", "_law_flags", "_law_hues"] (spF K 4 F__law_meet)) : Cal P w K mg base CX0 2 "_law_is_one" ["_law_book_here", "_law_lots"] (spF K 2 F__law_is_one) :=
  cal_mk D sc__law_is_one (fun _ _ _ _ _ _ us hl => match us, hl with | [_, _], _ => rfl) fun f cdv A outer s H E hr hu => ⟨_, (dss_cons (dst_unp (dj_tup [2, 3] (pg_tup rfl (pgs_cons (pg_name (i := 2) sc__law_is_one.nd rfl (Or.inr rfl)) (pgs_cons (pg_name (i := 3) sc__law_is_one.nd rfl (Or.inr rfl)) pgs_nil)))) (df_var 1 (pv 1))) (dss_cons (ds_for PassesOwn.never rfl (dj_enum fr.enumerate (df_ix (fb (df_var 0 (pv 0))) (fb df_int))) (dj_tup [4, 5] (pg_tup rfl (pgs_cons (pg_name (i := 4) sc__law_is_one.nd rfl (Or.inl rfl)) (pgs_cons (pg_name (i := 5) sc__law_is_one.nd rfl (Or.inl rfl)) pgs_nil)))) (dss_one (ds_for PassesOwn.never rfl (dj_enum fr.enumerate (df_ix (fb (df_var 0 (pv 0))) (fb df_int))) (dj_tup [6, 7] (pg_tup rfl (pgs_cons (pg_name (i := 6) sc__law_is_one.nd rfl (Or.inl rfl)) (pgs_cons (pg_name (i := 7) sc__law_is_one.nd rfl (Or.inl rfl)) pgs_nil)))) (dss_one (ds_if (dt_eq hu (fb (df_ix (fb (df_var 2 (pv 2))) (fb (df_var 4 (pv 4))))) (fb (df_ix (fb (df_var 2 (pv 2))) (fb (df_var 6 (pv 6)))))) (dss_cons (ds_if (dt_ne hu (fb (df_ix (fb (df_ix (fb (df_var 0 (pv 0))) (fb df_int))) (fb (df_var 4 (pv 4))))) (fb (df_ix (fb (df_ix (fb (df_var 0 (pv 0))) (fb df_int))) (fb (df_var 6 (pv 6)))))) (dss_one (ds_ret df_bl)) dss_nil) (dss_one (ds_for PassesOwn.never rfl (dj_enum fr.enumerate (df_var 5 (pv 5))) (dj_tup [8, 9] (pg_tup rfl (pgs_cons (pg_name (i := 8) sc__law_is_one.nd rfl (Or.inl rfl)) (pgs_cons (pg_name (i := 9) sc__law_is_one.nd rfl (Or.inl rfl)) pgs_nil)))) (dss_one (ds_for PassesOwn.never rfl (dj_enum fr.enumerate (df_var 7 (pv 7))) (dj_tup [10, 11] (pg_tup rfl (pgs_cons (pg_name (i := 10) sc__law_is_one.nd rfl (Or.inl rfl)) (pgs_cons (pg_name (i := 11) sc__law_is_one.nd rfl (Or.inl rfl)) pgs_nil)))) (dss_one (ds_if (dt_eq hu (fb (df_ix (fb (df_var 3 (pv 3))) (fb (df_var 8 (pv 8))))) (fb (df_ix (fb (df_var 3 (pv 3))) (fb (df_var 10 (pv 10)))))) (dss_one (ds_if (dw_t (dw_or (dt_ne hu (fb (df_ix (fb (df_ix (fb (df_var 0 (pv 0))) (fb df_int))) (fb (df_var 8 (pv 8))))) (fb (df_ix (fb (df_ix (fb (df_var 0 (pv 0))) (fb df_int))) (fb (df_var 10 (pv 10)))))) (dw_or1 (dt_not (dt_val (df_all fr.all (nb (dn_lc rfl sc__law_is_one.nd (own := [("_law_row", 12), ("_law_its", 13)]) (dj_zip fr.zip (df_var 9 (pv 9)) (df_var 11 (pv 11))) (blkOk_by (by kernel_rfl)) (by decide) (fun _ _ _ _ _ => (dj_tup [12, 13] (pg_tup rfl (pgs_cons (pg_name (i := 12) sc__law_is_one.nd rfl (Or.inl rfl)) (pgs_cons (pg_name (i := 13) sc__law_is_one.nd rfl (Or.inl rfl)) pgs_nil))))) (fun _ _ _ _ _ => dts_nil) (fun _ _ _ _ _ => (df_cal c__law_meet (hr.mono (by decide)) (da_cons (df_var 12 (pv 12)) (da_cons (df_var 13 (pv 13)) (da_cons (df_var 2 (pv 2)) (da_cons (df_var 3 (pv 3)) da_nil)))))))))))))) (dss_one (ds_ret df_bl)) dss_nil)) dss_nil))))))) dss_nil))))) (dss_one (ds_ret df_bl))))⟩
end DL

set_option Elab.async false
set_option linter.all false
set_option maxRecDepth 100000
set_option maxHeartbeats 16000000
namespace DL
open PySem PySem.Spec PyProof.Rows L2 HeadL
variable {P : Program} {w : World} {K : PySem.W.Frag} {mg : Str → Option Value} {base : Heap}
theorem sc__law_seen : FnScope ["_law_row", "_law_flags", "_law_hues", "_law_own"] ["_law_row", "_law_flags", "_law_hues"] (defScope s__law_seen) := ⟨rfl, rfl, rfl, by decide +kernel, rfl, by decide +kernel, by decide +kernel⟩
theorem ok__law_seen (D : Def K mg "_law_seen" s__law_seen) (fr : Fre mg) : Cal P w K mg base CX0 1 "_law_seen" ["_law_row", "_law_flags", "_law_hues"] (spF K 3 F__law_seen) :=
  cal_mk D sc__law_seen (fun _ _ _ _ _ _ us hl => match us, hl with | [_, _, _], _ => rfl) fun f cdv A outer s H E hr hu => ⟨_, (dss_one (ds_ret (df_tup (da_cons (df_ix (fb (df_var 1 (pv 1))) (fb (df_ix (fb (df_var 0 (pv 0))) (fb df_int)))) (da_cons (df_ix (fb (df_var 2 (pv 2))) (fb (df_ix (fb (df_var 0 (pv 0))) (fb df_int)))) (da_cons (fz (dn_lc rfl sc__law_seen.nd (own := [("_law_own", 3)]) (dj_seq (df_ix (fb (df_var 0 (pv 0))) (fb df_int))) (blkOk_by (by kernel_rfl)) (by decide) (fun _ _ _ _ _ => (dg_name 3 (pg_name (i := 3) sc__law_seen.nd rfl (Or.inl rfl)))) (fun _ _ _ _ _ => dts_nil) (fun _ _ _ _ _ => (df_ix (fb (df_var 2 (pv 2))) (fb (df_var 3 (pv 3))))))) (da_cons (fz (dn_lc rfl sc__law_seen.nd (own := [("_law_own", 3)]) (dj_seq (df_ix (fb (df_var 0 (pv 0))) (fb df_int))) (blkOk_by (by kernel_rfl)) (by decide) (fun _ _ _ _ _ => (dg_name 3 (pg_name (i := 3) sc__law_seen.nd rfl (Or.inl rfl)))) (fun _ _ _ _ _ => dts_nil) (fun _ _ _ _ _ => (df_ix (fb (df_var 2 (pv 2))) (fb (df_var 3 (pv 3))))))) da_nil)))))))⟩
end DL

set_option Elab.async false
set_option linter.all false
set_option maxRecDepth 100000
set_option maxHeartbeats 16000000
namespace DL
open PySem PySem.Spec PyProof.Rows L2 HeadL
variable {P : Program} {w : World} {K : PySem.W.Frag} {mg : Str → Option Value} {base : Heap}
theorem sc__law_coarsest : FnScope ["_law_book_here", "_law_flags", "_law_hues", "_law_turned", "_law_seen_here", "_law_flag", "_law_lines", "_law_row", "_law_line", "_law_next_flags", "_law_hue_here", "_law_own", "_law_maps", "_law_next_hues"] ["_law_book_here"] (defScope s__law_coarsest) := ⟨rfl, rfl, rfl, by decide +kernel, rfl, by decide +kernel, by decide +kernel⟩
theorem ok__law_coarsest (D : Def K mg "_law_coarsest" s__law_coarsest) (fr : Fre mg) (c__law_come : Cal P w K mg base CX0 1 "_law_come" ["_law_names"] (spF K 1 F__law_come)) (c__law_seen : Cal P w K mg base CX0 1 "_law_seen" ["_law_row", "_law_flags", "_law_hues"] (spF K 3 F__law_seen)) : Cal P w K mg base CX0 2 "_law_coarsest" ["_law_book_here"] (spF K 1 F__law_coarsest) :=
  cal_mk D sc__law_coarsest (fun _ _ _ _ _ _ us hl => match us, hl with | [_], _ => rfl) fun f cdv A outer s H E hr hu => ⟨_, (dss_cons (dst_parT (is := [1, 2, 3]) (pg_tup rfl (pgs_cons (pg_name (i := 1) sc__law_coarsest.nd rfl (Or.inr rfl)) (pgs_cons (pg_name (i := 2) sc__law_coarsest.nd rfl (Or.inr rfl)) (pgs_cons (pg_name (i := 3) sc__law_coarsest.nd rfl (Or.inl rfl)) pgs_nil)))) (da_cons (df_cal c__law_come (hr.mono (by decide)) (da_cons (df_ix (fb (df_var 0 (pv 0))) (fb df_int)) da_nil)) (da_cons (df_cal c__law_come (hr.mono (by decide)) (da_cons (df_ix (fb (df_var 0 (pv 0))) (fb df_int)) da_nil)) (da_cons df_bl da_nil)))) (dss_cons (ds_while 1000 PassesOwn.never (dt_val (df_var 3 (pv 3))) (dss_cons (dst_new (i := 4) sc__law_coarsest.nd (Or.inl rfl) (dn_lst da_nil)) (dss_cons (ds_for PassesOwn.never rfl (dj_enum fr.enumerate (df_ix (fb (df_var 0 (pv 0))) (fb df_int))) (dj_tup [5, 6] (pg_tup rfl (pgs_cons (pg_name (i := 5) sc__law_coarsest.nd rfl (Or.inl rfl)) (pgs_cons (pg_name (i := 6) sc__law_coarsest.nd rfl (Or.inl rfl)) pgs_nil)))) (dss_one (dst_app (i := 4) (pv 4) (df_tup (da_cons (df_ix (fb (df_var 1 (pv 1))) (fb (df_var 5 (pv 5)))) (da_cons (fz (dn_lc rfl sc__law_coarsest.nd (own := [("_law_line", 8)]) (dj_seq (df_var 6 (pv 6))) (blkOk_by (by kernel_rfl)) (by decide) (fun _ _ _ _ _ => (dg_name 8 (pg_name (i := 8) sc__law_coarsest.nd rfl (Or.inl rfl)))) (fun _ _ _ _ _ => dts_nil) (fun _ _ _ _ _ => (fz (dn_lc rfl sc__law_coarsest.nd (own := [("_law_row", 7)]) (dj_seq (df_var 8 (pv 8))) (blkOk_by (by kernel_rfl)) (by decide) (fun _ _ _ _ _ => (dg_name 7 (pg_name (i := 7) sc__law_coarsest.nd rfl (Or.inl rfl)))) (fun _ _ _ _ _ => dts_nil) (fun _ _ _ _ _ => (df_cal c__law_seen (hr.mono (by decide)) (da_cons (df_var 7 (pv 7)) (da_cons (df_var 1 (pv 1)) (da_cons (df_var 2 (pv 2)) da_nil)))))))))) da_nil)))))) (dss_frz 4 (dss_cons (dst_par2 (i := 9) (j := 4) sc__law_coarsest.nd (by decide) (da_cons (df_cal c__law_come (hr.mono (by decide)) (da_cons (df_var 4 (pv 4)) da_nil)) (da_consN (dn_lst da_nil) da_nil))) (dss_cons (ds_for PassesOwn.never rfl (dj_range fr.range (df_len fr.len (fb (df_var 2 (pv 2))))) (dg_name 10 (pg_name (i := 10) sc__law_coarsest.nd rfl (Or.inr rfl))) (dss_cons (dst_par2 (i := 11) (j := 12) sc__law_coarsest.nd (by decide) (da_consN (dn_lst da_nil) (da_consN (dn_lst da_nil) da_nil))) (dss_cons (ds_for PassesOwn.never rfl (dj_seq (df_ix (fb (df_var 0 (pv 0))) (fb df_int))) (dg_name 6 (pg_name (i := 6) sc__law_coarsest.nd rfl (Or.inl rfl))) (dss_cons (dst_app (i := 11) (pv 11) (fz (dn_lc rfl sc__law_coarsest.nd (own := [("_law_row", 7)]) (dj_seq (df_ix (fb (df_var 6 (pv 6))) (fb (df_var 10 (pv 10))))) (blkOk_by (by kernel_rfl)) (by decide) (fun _ _ _ _ _ => (dg_name 7 (pg_name (i := 7) sc__law_coarsest.nd rfl (Or.inl rfl)))) (fun _ _ _ _ _ => dts_nil) (fun _ _ _ _ _ => (df_cal c__law_seen (hr.mono (by decide)) (da_cons (df_var 7 (pv 7)) (da_cons (df_var 1 (pv 1)) (da_cons (df_var 2 (pv 2)) da_nil)))))))) (dss_one (ds_for PassesOwn.never rfl (dj_seq (df_var 6 (pv 6))) (dg_name 8 (pg_name (i := 8) sc__law_coarsest.nd rfl (Or.inl rfl))) (dss_one (dst_app (i := 12) (pv 12) (fz (dn_lc rfl sc__law_coarsest.nd (own := [("_law_row", 7)]) (dj_seq (df_var 8 (pv 8))) (blkOk_by (by kernel_rfl)) (by decide) (fun _ _ _ _ _ => (dg_name 7 (pg_name (i := 7) sc__law_coarsest.nd rfl (Or.inl rfl)))) (fun _ _ _ _ _ => dts_nil) (fun _ _ _ _ _ => (df_tup (da_cons (df_ix (fb (df_var 2 (pv 2))) (fb (df_ix (fb (df_ix (fb (df_var 7 (pv 7))) (fb df_int))) (fb (df_var 10 (pv 10)))))) (da_cons (df_ix (fb (df_var 2 (pv 2))) (fb (df_ix (fb (df_ix (fb (df_var 7 (pv 7))) (fb df_int))) (fb (df_var 10 (pv 10)))))) da_nil)))))))))))) (dss_frz 12 (dss_frz 11 (dss_one (dst_app (i := 4) (pv 4) (df_tup (da_cons (df_ix (fb (df_var 2 (pv 2))) (fb (df_var 10 (pv 10)))) (da_cons (df_var 11 (pv 11)) (da_cons (df_var 12 (pv 12)) da_nil))))))))))) (dss_frz 4 (dss_cons (dst_set (i := 13) sc__law_coarsest.nd (Or.inl rfl) (df_cal c__law_come (hr.mono (by decide)) (da_cons (df_var 4 (pv 4)) da_nil))) (dss_cons (dst_set (i := 3) sc__law_coarsest.nd (Or.inl rfl) (df_ne hu (fb (df_tup (da_cons (df_var 9 (pv 9)) (da_cons (df_var 13 (pv 13)) da_nil)))) (fb (df_tup (da_cons (df_var 1 (pv 1)) (da_cons (df_var 2 (pv 2)) da_nil)))))) (dss_one (dst_parT (is := [1, 2]) (pg_tup rfl (pgs_cons (pg_name (i := 1) sc__law_coarsest.nd rfl (Or.inr rfl)) (pgs_cons (pg_name (i := 2) sc__law_coarsest.nd rfl (Or.inr rfl)) pgs_nil))) (da_cons (df_var 9 (pv 9)) (da_cons (df_var 13 (pv 13)) da_nil))))))))))))) (dss_one (ds_ret (df_tup (da_cons (df_var 1 (pv 1)) (da_cons (df_var 2 (pv 2)) da_nil)))))))⟩
end DL

set_option Elab.async false
set_option linter.all false
set_option maxRecDepth 100000
set_option maxHeartbeats 16000000
namespace DL
open PySem PySem.Spec PyProof.Rows L2 HeadL
variable {P : Program} {w : World} {K : PySem.W.Frag} {mg : Str → Option Value} {base : Heap}
theorem sc__law_folded : FnScope ["_law_book_here", "_law_lots", "_law_flags", "_law_hues", "_law_firsts", "_law_leads", "_law_rows", "_law_own", "_law_flag", "_law_lines", "_law_hue_here", "_law_line", "_law_goal", "_law_left", "_law_right_here", "_law_its"] ["_law_book_here", "_law_lots"] (defScope s__law_folded) := ⟨rfl, rfl, rfl, by decide +kernel, rfl, by decide +kernel, by decide +kernel⟩
theorem ok__law_folded (D : Def K mg "_law_folded" s__law_folded) (fr : Fre mg) : Cal P w K mg base CX0 1 "_law_folded" ["_law_book_here", "_law_lots"] (spF K 2 F__law_folded) :=
  cal_mk D sc__law_folded (fun _ _ _ _ _ _ us hl => match us, hl with | [_, _], _ => rfl) fun f cdv A outer s H E hr hu => ⟨_, (dss_cons (dst_unp (dj_tup [2, 3] (pg_tup rfl (pgs_cons (pg_name (i := 2) sc__law_folded.nd rfl (Or.inr rfl)) (pgs_cons (pg_name (i := 3) sc__law_folded.nd rfl (Or.inr rfl)) pgs_nil)))) (df_var 1 (pv 1))) (dss_cons (dst_par3 (i := 4) (j := 5) (l := 6) sc__law_folded.nd (by decide) (by decide) (by decide) (da_cons (fz (dn_lc rfl sc__law_folded.nd (own := [("_law_own", 7)]) (dj_range fr.range (df_add (fb (df_max hu fr.max (fb (df_var 2 (pv 2))))) (fb df_int))) (blkOk_by (by kernel_rfl)) (by decide) (fun _ _ _ _ _ => (dg_name 7 (pg_name (i := 7) sc__law_folded.nd rfl (Or.inl rfl)))) (fun _ _ _ _ _ => dts_nil) (fun _ _ _ _ _ => (df_ixT (df_var 2 (pv 2)) (df_var 7 (pv 7)))))) (da_cons (fz (dn_lc rfl sc__law_folded.nd (own := [("_law_own", 7)]) (dj_range fr.range (df_add (fb (df_max hu fr.max (fb (df_var 3 (pv 3))))) (fb df_int))) (blkOk_by (by kernel_rfl)) (by decide) (fun _ _ _ _ _ => (dg_name 7 (pg_name (i := 7) sc__law_folded.nd rfl (Or.inl rfl)))) (fun _ _ _ _ _ => dts_nil) (fun _ _ _ _ _ => (df_ixT (df_var 3 (pv 3)) (df_var 7 (pv 7)))))) (da_consN (dn_lst da_nil) da_nil)))) (dss_cons (ds_for PassesOwn.never rfl (dj_seq (df_var 4 (pv 4))) (dg_name 8 (pg_name (i := 8) sc__law_folded.nd rfl (Or.inl rfl))) (dss_cons (dst_new (i := 9) sc__law_folded.nd (Or.inl rfl) (dn_lst da_nil)) (dss_cons (ds_for PassesOwn.never rfl (dj_seq (df_var 5 (pv 5))) (dg_name 10 (pg_name (i := 10) sc__law_folded.nd rfl (Or.inl rfl))) (dss_cons (dst_new (i := 11) sc__law_folded.nd (Or.inl rfl) (dn_lst da_nil)) (dss_cons (ds_for PassesOwn.never rfl (dj_seq (df_ix (fb (df_ix (fb (df_ix (fb (df_var 0 (pv 0))) (fb df_int))) (fb (df_var 8 (pv 8))))) (fb (df_var 10 (pv 10))))) (dj_tup [12, 7, 13, 14] (pg_tup rfl (pgs_cons (pg_name (i := 12) sc__law_folded.nd rfl (Or.inl rfl)) (pgs_cons (pg_name (i := 7) sc__law_folded.nd rfl (Or.inl rfl)) (pgs_cons (pg_name (i := 13) sc__law_folded.nd rfl (Or.inr rfl)) (pgs_cons (pg_name (i := 14) sc__law_folded.nd rfl (Or.inr rfl)) pgs_nil)))))) (dss_one (dst_app (i := 11) (pv 11) (df_tup (da_cons (df_ix (fb (df_var 2 (pv 2))) (fb (df_var 12 (pv 12)))) (da_cons (df_ix (fb (df_var 3 (pv 3))) (fb (df_var 7 (pv 7)))) (da_cons (df_tuple fr.tuple (nb (dn_lc rfl sc__law_folded.nd (own := [("_law_its", 15)]) (dj_seq (df_var 5 (pv 5))) (blkOk_by (by kernel_rfl)) (by decide) (fun _ _ _ _ _ => (dg_name 15 (pg_name (i := 15) sc__law_folded.nd rfl (Or.inl rfl)))) (fun _ _ _ _ _ => dts_nil) (fun _ _ _ _ _ => (df_ix (fb (df_var 3 (pv 3))) (fb (df_ix (fb (df_var 13 (pv 13))) (fb (df_var 15 (pv 15)))))))))) (da_cons (df_tuple fr.tuple (nb (dn_lc rfl sc__law_folded.nd (own := [("_law_its", 15)]) (dj_seq (df_var 5 (pv 5))) (blkOk_by (by kernel_rfl)) (by decide) (fun _ _ _ _ _ => (dg_name 15 (pg_name (i := 15) sc__law_folded.nd rfl (Or.inl rfl)))) (fun _ _ _ _ _ => dts_nil) (fun _ _ _ _ _ => (df_ix (fb (df_var 3 (pv 3))) (fb (df_ix (fb (df_var 14 (pv 14))) (fb (df_var 15 (pv 15)))))))))) da_nil)))))))) (dss_one (dst_app (i := 9) (pv 9) (df_tuple fr.tuple (db_var 11 (pv 11)))))))) (dss_one (dst_app (i := 6) (pv 6) (df_tuple fr.tuple (db_var 9 (pv 9)))))))) (dss_one (ds_ret (df_tup (da_cons (df_tuple fr.tuple (nb (dn_lc rfl sc__law_folded.nd (own := [("_law_flag", 8)]) (dj_seq (df_var 4 (pv 4))) (blkOk_by (by kernel_rfl)) (by decide) (fun _ _ _ _ _ => (dg_name 8 (pg_name (i := 8) sc__law_folded.nd rfl (Or.inl rfl)))) (fun _ _ _ _ _ => dts_nil) (fun _ _ _ _ _ => (df_ix (fb (df_ix (fb (df_var 0 (pv 0))) (fb df_int))) (fb (df_var 8 (pv 8)))))))) (da_cons (df_tuple fr.tuple (nb (dn_lc rfl sc__law_folded.nd (own := [("_law_hue_here", 10)]) (dj_seq (df_var 5 (pv 5))) (blkOk_by (by kernel_rfl)) (by decide) (fun _ _ _ _ _ => (dg_name 10 (pg_name (i := 10) sc__law_folded.nd rfl (Or.inl rfl)))) (fun _ _ _ _ _ => dts_nil) (fun _ _ _ _ _ => (df_ix (fb (df_ix (fb (df_var 0 (pv 0))) (fb df_int))) (fb (df_var 10 (pv 10)))))))) (da_cons (df_tup (da_cons (df_ix (fb (df_var 2 (pv 2))) (fb (df_ix (fb (df_ix (fb (df_var 0 (pv 0))) (fb df_int))) (fb df_int)))) (da_cons (df_ix (fb (df_var 3 (pv 3))) (fb (df_ix (fb (df_ix (fb (df_var 0 (pv 0))) (fb df_int))) (fb df_int)))) da_nil))) (da_cons (df_tuple fr.tuple (db_var 6 (pv 6))) da_nil))))))))))⟩
end DL

set_option Elab.async false
set_option linter.all false
set_option maxRecDepth 100000
set_option maxHeartbeats 16000000
namespace DL
open PySem PySem.Spec PyProof.Rows L2 HeadL
variable {P : Program} {w : World} {K : PySem.W.Frag} {mg : Str → Option Value} {base : Heap}
def S1_folded : DEnv → M Out := (sPar [2, 3] (aCons (eCall 1 (F_tuple_of 8) (aCons (eVar 0) aNil)) (aCons (eCall 1 (F_tuple_of 8) (aCons (eVar 1) aNil)) aNil)))
def T_folded : DEnv → M Bool := (tNotD (tst (eCall 2 F_is_folding (aCons (eVar 2) (aCons (eVar 3) aNil)))))
def S3_folded : DEnv → M Out := (sSeq (sUnp (aTup [4, 5]) (eVar 3)) (sSeq (sNew 6 (eLc (fRng (op2 gAdd (op1 gMax (eVar 4)) (eC (.int 1)))) [7] (aName 7) yes (op2 gIndexT (eVar 4) (eVar 7)))) (sFrz 6 (sSeq (sSet 8 (eLc (fRng (op2 gAdd (op1 gMax (eVar 5)) (eC (.int 1)))) [7] (aName 7) yes (op2 gIndexT (eVar 5) (eVar 7)))) (sSeq (sNew 9 (eLst aNil)) (sSeq (sFor (fSeq (eVar 6)) (aName 10) (sApp 9 (op1 gTuple (eLc (fSeq (eVar 8)) [12] (aName 12) yes (op1 gTuple (eLc (fSeq (op2 gIx (op2 gIx (op2 gIx (eVar 2) (eC (.int 3))) (eVar 10)) (eVar 12))) [11] (aName 11) yes (eCall 3 F_row_folded (aCons (eVar 11) (aCons (eVar 3) (aCons (eVar 8) aNil)))))))))) (sSeq (sSet 13 (eTup (aCons (op2 gIx (eVar 4) (op2 gIx (op2 gIx (eVar 2) (eC (.int 2))) (eC (.int 0)))) (aCons (op2 gIx (eVar 5) (op2 gIx (op2 gIx (eVar 2) (eC (.int 2))) (eC (.int 1)))) aNil)))) (sRet (eTup (aCons (op1 gTuple (eLc (fSeq (eVar 6)) [10] (aName 10) yes (op2 gIx (op2 gIx (eVar 2) (eC (.int 0))) (eVar 10)))) (aCons (op1 gTuple (eLc (fSeq (eVar 8)) [12] (aName 12) yes (op2 gIx (op2 gIx (eVar 2) (eC (.int 1))) (eVar 12)))) (aCons (eVar 13) (aCons (op1 gTuple (eBor 9)) aNil)))))))))))))
def F_folded : List Sl → M PyData := fnD 14 (sSeq S1_folded (sSeq (sIf T_folded sNo sNil) S3_folded))
def G_folded : List Sl → M Unit := fnX 14 S1_folded T_folded
def F__law_heard : List Sl → M PyData := fnT "unfit" F_folded G_folded
def S1__law_box : DEnv → M Out := (sSet 2 (eIf (tst (op2 gLt (eVar 1) (op1 gLen (eVar 0)))) (op2 gIx (eVar 0) (eVar 1)) (eC (.int 0))))
def E__law_box : DEnv → M PyData := (eLst (aCons (op2 gMul (op1 gAbs (eVar 2)) (op1 gInt (op2 gGe (op1 gAbs (eVar 2)) (op2 gPow (eC (.int 10)) (eC (.int 18)))))) (aCons (op2 gAdd (op2 gAdd (op2 gMod (op1 gInt (eVar 2)) (eC (.int 2305843009213693951))) (op2 gMul (eC (.int 39373)) (eVar 1))) (eC (.int 174045))) (aCons (eC (.int 0)) aNil))))
def F__law_box : List Sl → M PyData := fnN 3 S1__law_box E__law_box
def S__law_right : DEnv → M Out := (sSeq (sSet 1 (op2 gAdd (eC (.int 1)) (eCall 2 F__law_take (aConsV 0 (aCons (eC (.int 2)) aNil))))) (sSeq (sUnp (aTup [2, 3, 4]) (eCall 2 F__law_blown (aConsV 0 (aCons (eCall 3 F__law_book (aConsV 0 (aCons (eVar 1) (aCons (eC (.int 2)) aNil)))) aNil)))) (sSeq (sSet 5 (eTup (aCons (eCall 1 F__law_come (aCons (eVar 3) aNil)) (aCons (eCall 1 F__law_come (aCons (eVar 4) aNil)) aNil)))) (sSeq (sPar [6, 7] (aCons (eCall 1 F_folding (aCons (eVar 2) aNil)) (aCons (eCall 1 (F__law_lists 8) (aCons (eVar 2) aNil)) aNil))) (sSeq (sIf (tNotD (tst (eCall 2 (F__law_same 8) (aCons (eVar 6) (aCons (eCall 1 F__law_coarsest (aCons (eVar 2) aNil)) aNil))))) (sRet (eC (.bool false))) sNil) (sSeq (sFor (fZip (eVar 5) (eVar 6)) (aTup [8, 9]) (sIf (tst (op2 gNe (eCall 1 F__law_come (aCons (op2 gZipL (eVar 8) (eVar 9)) aNil)) (eVar 8))) (sRet (eC (.bool false))) sNil)) (sSeq (sNew 10 (op1 gList (op2 gIx (eVar 6) (eC (.int 1))))) (sSeq (sPut 10 (eCall 2 F__law_take (aConsV 0 (aCons (op2 gAdd (op1 gMax (eBor 10)) (eC (.int 2))) aNil))) (eCall 2 F__law_take (aConsV 0 (aCons (op1 gLen (eBor 10)) aNil)))) (sSeq (sSet 11 (eTup (aCons (op1 gRgT (op1 gLen (op2 gIx (eVar 2) (eC (.int 0))))) (aCons (op1 gRgT (op1 gLen (op2 gIx (eVar 2) (eC (.int 1))))) aNil)))) (sFrz 10 (sSeq (sFor (fSeq (eTup (aCons (eVar 5) (aCons (eVar 6) (aCons (eVar 11) (aCons (eTup (aCons (op2 gIx (eVar 6) (eC (.int 0))) (aCons (op2 gIx (eVar 11) (eC (.int 1))) aNil))) (aCons (eTup (aCons (op2 gIx (eVar 11) (eC (.int 0))) (aCons (op2 gIx (eVar 6) (eC (.int 1))) aNil))) (aCons (eTup (aCons (op2 gIx (eVar 6) (eC (.int 0))) (aCons (eCall 1 F__law_come (aCons (eVar 10) aNil)) aNil))) aNil)))))))) (aName 12) (sSeq (sSet 13 (eCall 2 F__law_is_one (aCons (eVar 2) (aCons (eVar 12) aNil)))) (sIf (tNotD (tst (eCall 2 (F__law_same 8) (aCons (eLst (aCons (eCall 2 F_is_folding (aCons (eVar 7) (aCons (eVar 12) aNil))) (aCons (eCall 2 F__law_heard (aCons (eVar 2) (aCons (eCall 1 (F__law_lists 8) (aCons (eVar 12) aNil)) aNil))) aNil))) (aCons (eLst (aCons (eVar 13) (aCons (eIf (tst (eVar 13)) (eCall 2 F__law_folded (aCons (eVar 2) (aCons (eVar 12) aNil))) (eC (.str "unfit"))) aNil))) aNil))))) (sRet (eC (.bool false))) sNil))) (sSeq (sFor (fRng (eC (.int 3))) (aName 14) (sSeq (sSet 15 (eCall 2 F__law_history (aConsV 0 (aCons (eVar 1) aNil)))) (sIf (tst (op2 gNe (eCall 2 F__law_answer (aCons (eCall 2 F_folded (aCons (eVar 7) (aCons (eVar 6) aNil))) (aCons (eVar 15) aNil))) (eCall 2 F__law_answer (aCons (eVar 2) (aCons (eVar 15) aNil))))) (sRet (eC (.bool false))) sNil))) (sRet (eC (.bool true)))))))))))))))
def F__law_right : List Sl → M PyData := fnD 16 S__law_right
def S__law_by_hand_right : DEnv → M Out := (sSeq (sPar [0, 1] (aCons (eCall 0 F__law_parity aNil) (aCons (eCall 0 F__law_marked aNil) aNil))) (sSeq (sPar [2, 3] (aCons (eTup (aCons (eTup (aCons (eC (.bool false)) (aCons (eC (.bool true)) (aCons (eC (.bool false)) aNil)))) (aCons (eTup (aCons (eC (.int 0)) (aCons (eC (.int 1)) aNil))) (aCons (eTup (aCons (eC (.int 2)) (aCons (eC (.int 0)) aNil))) (aCons (op2 gCatT (op2 gIx (eVar 0) (eC (.int 3))) (eSlT (op2 gIx (eVar 0) (eC (.int 3))) oNo (oSo (eC (.int 1))))) aNil))))) (aCons (op2 gCatT (eTup (aCons (eTup (aCons (eC (.bool false)) (aCons (eC (.bool false)) aNil))) aNil)) (eSlT (eVar 1) (oSo (eC (.int 1))) oNo)) aNil))) (sSeq (sSet 4 (eLst (aCons (eCall 1 F_folding (aCons (eVar 2) aNil)) (aCons (eCall 1 F_folding (aCons (eVar 1) aNil)) (aCons (eCall 1 F_folding (aCons (eVar 3) aNil)) (aCons (eCall 2 F_folded (aCons (eVar 2) (aCons (eTup (aCons (eTup (aCons (eC (.int 0)) (aCons (eC (.int 1)) (aCons (eC (.int 0)) aNil)))) (aCons (eTup (aCons (eC (.int 0)) (aCons (eC (.int 1)) aNil))) aNil))) aNil))) (aCons (eCall 2 F_is_folding (aCons (eVar 3) (aCons (eTup (aCons (eTup (aCons (eC (.int 0)) (aCons (eC (.int 0)) aNil))) (aCons (eTup (aCons (eC (.int 0)) (aCons (eC (.int 1)) (aCons (eC (.int 2)) aNil)))) aNil))) aNil))) aNil))))))) (sSeq (sSet 5 (eLst (aCons (eTup (aCons (eTup (aCons (eC (.int 0)) (aCons (eC (.int 1)) (aCons (eC (.int 0)) aNil)))) (aCons (eTup (aCons (eC (.int 0)) (aCons (eC (.int 1)) aNil))) aNil))) (aCons (eTup (aCons (eTup (aCons (eC (.int 0)) (aCons (eC (.int 1)) aNil))) (aCons (eTup (aCons (eC (.int 0)) (aCons (eC (.int 1)) (aCons (eC (.int 2)) aNil)))) aNil))) (aCons (eTup (aCons (eTup (aCons (eC (.int 0)) (aCons (eC (.int 0)) aNil))) (aCons (eTup (aCons (eC (.int 0)) (aCons (eC (.int 0)) (aCons (eC (.int 1)) aNil)))) aNil))) (aCons (eVar 0) (aCons (eC (.bool true)) aNil))))))) (sRet (eCall 2 (F__law_same 8) (aCons (op2 gCatL (eVar 4) (eLst (aCons (eCall 2 F_is_folding (aCons (eVar 3) (aCons (eTup (aCons (eTup (aCons (eC (.int 0)) (aCons (eC (.int 1)) aNil))) (aCons (eTup (aCons (eC (.int 0)) (aCons (eC (.int 0)) (aCons (eC (.int 1)) aNil)))) aNil))) aNil))) (aCons (eCall 2 F__law_heard (aCons (eVar 0) (aCons (eTup (aCons (eTup (aCons (eC (.int 0)) (aCons (eC (.int 0)) aNil))) (aCons (eTup (aCons (eC (.int 0)) (aCons (eC (.int 1)) aNil))) aNil))) aNil))) aNil)))) (aCons (op2 gCatL (eVar 5) (eLst (aCons (eC (.bool false)) (aCons (eC (.str "unfit")) aNil)))) aNil))))))))
def F__law_by_hand_right : List Sl → M PyData := fnD 6 S__law_by_hand_right
def B_law : DEnv → M PyData := eBox 2 F__law_box F__law_right (aCons (eCall 2 F__law_cells (aConsV 0 (aCons (eC (.int 1)) aNil))) (aCons (eC (.int 0)) aNil))
def S_law : DEnv → M Out := sRet (vAnd (eCall 0 F__law_by_hand_right aNil) B_law)
def F_law : List Sl → M PyData := fnD 1 S_law
end DL

set_option Elab.async false
set_option linter.all false
set_option maxRecDepth 100000
set_option maxHeartbeats 16000000
namespace DL
open PySem PySem.Spec PyProof.Rows L2 HeadL
variable {P : Program} {w : World} {K : PySem.W.Frag} {mg : Str → Option Value} {base : Heap}
theorem sc_folded : FnScope ["book", "lots", "own", "told", "flags", "hues", "firsts", "lot", "leads", "rows", "first", "row", "lead", "begin"] ["book", "lots"] (defScope s_folded) := ⟨rfl, rfl, rfl, by decide +kernel, rfl, by decide +kernel, by decide +kernel⟩
theorem ok_folded {C : Addr} (D : Def K mg "folded" s_folded) (fr : Fre mg) (un : Unf K mg C) (c_tuple_of : Cal P w K mg base CX0 8 "tuple_of" ["thing"] (spF K 1 (F_tuple_of 8))) (c_is_folding : Cal P w K mg base CX0 9 "is_folding" ["book", "thing"] (spF K 2 F_is_folding)) (c_row_folded : Cal P w K mg base CX0 2 "row_folded" ["row", "lots", "leads"] (spF K 3 F_row_folded)) : Cal P w K mg base (L2.CX P w) 10 "folded" ["book", "lots"] (spX K 2 C F_folded G_folded) := by
  obtain ⟨f, fd, F, m⟩ := D
  exact ⟨f, fd, fn_okX (S1 := S1_folded) (T := T_folded) (S3 := S3_folded) F sc_folded un rfl (fun _ _ _ _ _ _ => rfl) (fun cdv A outer s H E hr hu => ⟨_, _, _, (dst_parT (is := [2, 3]) (pg_tup rfl (pgs_cons (pg_name (i := 2) sc_folded.nd rfl (Or.inr rfl)) (pgs_cons (pg_name (i := 3) sc_folded.nd rfl (Or.inr rfl)) pgs_nil))) (da_cons (df_cal c_tuple_of (hr.mono (by decide)) (da_cons (df_var 0 (pv 0)) da_nil)) (da_cons (df_cal c_tuple_of (hr.mono (by decide)) (da_cons (df_var 1 (pv 1)) da_nil)) da_nil))), (dt_not (dt_val (df_cal c_is_folding (hr.mono (by decide)) (da_cons (df_var 2 (pv 2)) (da_cons (df_var 3 (pv 3)) da_nil))))), (dss_cons (dst_unp (dj_tup [4, 5] (pg_tup rfl (pgs_cons (pg_name (i := 4) sc_folded.nd rfl (Or.inr rfl)) (pgs_cons (pg_name (i := 5) sc_folded.nd rfl (Or.inr rfl)) pgs_nil)))) (df_var 3 (pv 3))) (dss_cons (dst_lc (i := 6) sc_folded.nd rfl (sw_true rfl rfl rfl (by decide +kernel)) (own := [("lot", 7)]) (dj_range fr.range (df_add (fb (df_max hu fr.max (fb (df_var 4 (pv 4))))) (fb df_int))) (blkOk_by (by kernel_rfl)) (by decide) (fun _ _ _ _ _ => (dg_name 7 (pg_name (i := 7) sc_folded.nd rfl (Or.inl rfl)))) (fun _ _ _ _ _ => dts_nil) (fun _ _ _ _ _ => (df_ixT (df_var 4 (pv 4)) (df_var 7 (pv 7))))) (dss_frz 6 (dss_cons (dst_set (i := 8) sc_folded.nd (Or.inr rfl) (fz (dn_lc rfl sc_folded.nd (own := [("lot", 7)]) (dj_range fr.range (df_add (fb (df_max hu fr.max (fb (df_var 5 (pv 5))))) (fb df_int))) (blkOk_by (by kernel_rfl)) (by decide) (fun _ _ _ _ _ => (dg_name 7 (pg_name (i := 7) sc_folded.nd rfl (Or.inl rfl)))) (fun _ _ _ _ _ => dts_nil) (fun _ _ _ _ _ => (df_ixT (df_var 5 (pv 5)) (df_var 7 (pv 7))))))) (dss_cons (dst_new (i := 9) sc_folded.nd (Or.inl rfl) (dn_lst da_nil)) (dss_cons (ds_for PassesOwn.never rfl (dj_seq (df_var 6 (pv 6))) (dg_name 10 (pg_name (i := 10) sc_folded.nd rfl (Or.inr rfl))) (dss_one (dst_app (i := 9) (pv 9) (df_tuple fr.tuple (nb (dn_lc rfl sc_folded.nd (own := [("lead", 12)]) (dj_seq (df_var 8 (pv 8))) (blkOk_by (by kernel_rfl)) (by decide) (fun _ _ _ _ _ => (dg_name 12 (pg_name (i := 12) sc_folded.nd rfl (Or.inl rfl)))) (fun _ _ _ _ _ => dts_nil) (fun _ _ _ _ _ => (df_tuple fr.tuple (nb (dn_lc rfl sc_folded.nd (own := [("row", 11)]) (dj_seq (df_ix (fb (df_ix (fb (df_ix (fb (df_var 2 (pv 2))) (fb df_int))) (fb (df_var 10 (pv 10))))) (fb (df_var 12 (pv 12))))) (blkOk_by (by kernel_rfl)) (by decide) (fun _ _ _ _ _ => (dg_name 11 (pg_name (i := 11) sc_folded.nd rfl (Or.inl rfl)))) (fun _ _ _ _ _ => dts_nil) (fun _ _ _ _ _ => (df_cal c_row_folded (hr.mono (by decide)) (da_cons (df_var 11 (pv 11)) (da_cons (df_var 3 (pv 3)) (da_cons (df_var 8 (pv 8)) da_nil))))))))))))))) (dss_cons (dst_set (i := 13) sc_folded.nd (Or.inl rfl) (df_tup (da_cons (df_ix (fb (df_var 4 (pv 4))) (fb (df_ix (fb (df_ix (fb (df_var 2 (pv 2))) (fb df_int))) (fb df_int)))) (da_cons (df_ix (fb (df_var 5 (pv 5))) (fb (df_ix (fb (df_ix (fb (df_var 2 (pv 2))) (fb df_int))) (fb df_int)))) da_nil)))) (dss_one (ds_ret (df_tup (da_cons (df_tuple fr.tuple (nb (dn_lc rfl sc_folded.nd (own := [("first", 10)]) (dj_seq (df_var 6 (pv 6))) (blkOk_by (by kernel_rfl)) (by decide) (fun _ _ _ _ _ => (dg_name 10 (pg_name (i := 10) sc_folded.nd rfl (Or.inl rfl)))) (fun _ _ _ _ _ => dts_nil) (fun _ _ _ _ _ => (df_ix (fb (df_ix (fb (df_var 2 (pv 2))) (fb df_int))) (fb (df_var 10 (pv 10)))))))) (da_cons (df_tuple fr.tuple (nb (dn_lc rfl sc_folded.nd (own := [("lead", 12)]) (dj_seq (df_var 8 (pv 8))) (blkOk_by (by kernel_rfl)) (by decide) (fun _ _ _ _ _ => (dg_name 12 (pg_name (i := 12) sc_folded.nd rfl (Or.inl rfl)))) (fun _ _ _ _ _ => dts_nil) (fun _ _ _ _ _ => (df_ix (fb (df_ix (fb (df_var 2 (pv 2))) (fb df_int))) (fb (df_var 12 (pv 12)))))))) (da_cons (df_var 13 (pv 13)) (da_cons (df_tuple fr.tuple (db_var 9 (pv 9))) da_nil))))))))))))))⟩), m, F.kp, F.bindsN (fun _ _ _ _ _ _ us hl => match us, hl with | [_, _], _ => rfl)⟩
end DL

set_option Elab.async false
set_option linter.all false
set_option maxRecDepth 100000
set_option maxHeartbeats 16000000
namespace DL
open PySem PySem.Spec PyProof.Rows L2 HeadL
variable {P : Program} {w : World} {K : PySem.W.Frag} {mg : Str → Option Value} {base : Heap}
theorem sc__law_heard : FnScope ["_law_book_here", "_law_lots"] ["_law_book_here", "_law_lots"] (defScope s__law_heard) := ⟨rfl, rfl, rfl, by decide +kernel, rfl, by decide +kernel, by decide +kernel⟩
theorem ok__law_heard {C : Addr} (D : Def K mg "_law_heard" s__law_heard) (un : Unf K mg C) (c : Cal P w K mg base (L2.CX P w) 10 "folded" ["book", "lots"] (spX K 2 C F_folded G_folded)) : Cal P w K mg base CX0 11 "_law_heard" ["_law_book_here", "_law_lots"] (spF K 2 F__law_heard) := by
  obtain ⟨f, fd, F, m⟩ := D
  obtain ⟨f2, fd2, ok2, m2, kp2, b2⟩ := c
  refine ⟨f, fd, F.ok sc__law_heard (fun vs H Q E h => ?_) (fun cdv A outer s H vs Q E hr h => ⟨_, pss_one (ps_try_only (tb := fun W => tRet (tCallS (spX K 2 C F_folded G_folded) (WE W) (tCons (tVar 0) (tCons (tVar 1) tNil)))) (ts := fun _ _ _ => tRet (tC (.str "unfit"))) (Wout := fun _ _ _ _ => False) rfl rfl ⟨rfl, by decide, .inl un.gC⟩ takes0
    (fun W pn xe tk _ => pss_one (ps_ret (by exact (pe_callS ok2 hr rfl m2 kp2 b2 (fun σ => passAt tk σ) (by exact (pa_cons (pv 0) (pa_cons (pv 1) pa_nil)))))))
    (fun a oe cls d pn hz hf => pss_one (ps_ret pe_str))), pure_heard un h⟩), m, F.kp, F.bindsN (fun _ _ _ _ _ _ us hl => match us, hl with | [_, _], _ => rfl)⟩
  obtain ⟨u, U, ss, d, U', _, h1, _, h2, _⟩ := h
  rw [h2.len, h1]; rfl
end DL

set_option Elab.async false
set_option linter.all false
set_option maxRecDepth 100000
set_option maxHeartbeats 16000000
namespace DL
open PySem PySem.Spec PyProof.Rows L2 HeadL
variable {P : Program} {w : World} {K : PySem.W.Frag} {mg : Str → Option Value} {base : Heap}
theorem sc__law_box : FnScope ["_law_script", "_law_k", "_law_cell"] ["_law_script", "_law_k"] (defScope s__law_box) := ⟨rfl, rfl, rfl, by decide +kernel, rfl, by decide +kernel, by decide +kernel⟩
theorem ok__law_box (D : Def K mg "_law_box" s__law_box) (fr : Fre mg) : Cal P w K mg base CX0 1 "_law_box" ["_law_script", "_law_k"] (spN K 2 F__law_box) := by
  obtain ⟨f, fd, F, m⟩ := D
  exact ⟨f, fd, fn_okN (S1 := S1__law_box) (g := E__law_box) F sc__law_box rfl (fun cdv A outer s H E hr hu => ⟨_, _, (dst_set (i := 2) sc__law_box.nd (Or.inl rfl) (dg_if (dt_lt (fb (df_var 1 (pv 1))) (fb (df_len fr.len (fb (df_var 0 (pv 0)))))) (df_ix (fb (df_var 0 (pv 0))) (fb (df_var 1 (pv 1)))) df_int)), (dn_lst (da_cons (df_mul (fb (df_abs fr.abs (fb (df_var 2 (pv 2))))) (fb (df_intc fr.int (fb (df_ge (fb (df_abs fr.abs (fb (df_var 2 (pv 2))))) (fb (df_pow (fb df_int) (fb df_int)))))))) (da_cons (df_add (fb (df_add (fb (df_mod (fb (df_intc fr.int (fb (df_var 2 (pv 2))))) (fb df_int))) (fb (df_mul (fb df_int) (fb (df_var 1 (pv 1))))))) (fb df_int)) (da_cons df_int da_nil))))⟩), m, F.kp, F.bindsN (fun _ _ _ _ _ _ us hl => match us, hl with | [_, _], _ => rfl)⟩
end DL

set_option Elab.async false
set_option linter.all false
set_option maxRecDepth 100000
set_option maxHeartbeats 16000000
namespace DL
open PySem PySem.Spec PyProof.Rows L2 HeadL
variable {P : Program} {w : World} {K : PySem.W.Frag} {mg : Str → Option Value} {base : Heap}
theorem sc__law_right : FnScope ["_law_urn", "_law_many", "_law_book_here", "_law_of_flags", "_law_of_hues", "_law_made", "_law_best", "_law_soft", "_law_own", "_law_its", "_law_bent", "_law_apart", "_law_lots", "_law_so", "_law_lap", "_law_history_here"] ["_law_urn"] (defScope s__law_right) := ⟨rfl, rfl, rfl, by decide +kernel, rfl, by decide +kernel, by decide +kernel⟩
theorem ok__law_right (D : Def K mg "_law_right" s__law_right) (fr : Fre mg) (c__law_take : Cal P w K mg base CX0 1 "_law_take" ["_law_urn", "_law_low_so"] (spF K 2 F__law_take)) (c__law_blown : Cal P w K mg base CX0 4 "_law_blown" ["_law_urn", "_law_base"] (spF K 2 F__law_blown)) (c__law_book : Cal P w K mg base CX0 5 "_law_book" ["_law_tin", "_law_many_letters", "_law_wide"] (spF K 3 F__law_book)) (c__law_come : Cal P w K mg base CX0 1 "_law_come" ["_law_names"] (spF K 1 F__law_come)) (c__law_lists : Cal P w K mg base CX0 8 "_law_lists" ["_law_matter"] (spF K 1 (F__law_lists 8))) (c_folding : Cal P w K mg base CX0 9 "folding" ["book"] (spF K 1 F_folding)) (c__law_same : Cal P w K mg base CX0 8 "_law_same" ["_law_got", "_law_goal"] (spF K 2 (F__law_same 8))) (c__law_coarsest : Cal P w K mg base CX0 2 "_law_coarsest" ["_law_book_here"] (spF K 1 F__law_coarsest)) (c__law_is_one : Cal P w K mg base CX0 2 "_law_is_one" ["_law_book_here", "_law_lots"] (spF K 2 F__law_is_one)) (c__law_folded : Cal P w K mg base CX0 1 "_law_folded" ["_law_book_here", "_law_lots"] (spF K 2 F__law_folded)) (c__law_heard : Cal P w K mg base CX0 11 "_law_heard" ["_law_book_here", "_law_lots"] (spF K 2 F__law_heard)) (c_is_folding : Cal P w K mg base CX0 9 "is_folding" ["book", "thing"] (spF K 2 F_is_folding)) (c__law_history : Cal P w K mg base CX0 2 "_law_history" ["_law_tin", "_law_many_letters"] (spF K 2 F__law_history)) (c__law_answer : Cal P w K mg base CX0 1 "_law_answer" ["_law_book_here", "_law_history_here"] (spF K 2 F__law_answer)) (c_folded : Cal P w K mg base CX0 10 "folded" ["book", "lots"] (spF K 2 F_folded)) : Cal P w K mg base CX0 12 "_law_right" ["_law_urn"] (spF K 1 F__law_right) :=
  cal_mk D sc__law_right (fun _ _ _ _ _ _ us hl => match us, hl with | [_], _ => rfl) fun f cdv A outer s H E hr hu => ⟨_, (dss_cons (dst_set (i := 1) sc__law_right.nd (Or.inl rfl) (df_add (fb df_int) (fb (df_cal c__law_take (hr.mono (by decide)) (da_consV 0 (pv 0) (da_cons df_int da_nil)))))) (dss_cons (dst_unp (dj_tup [2, 3, 4] (pg_tup rfl (pgs_cons (pg_name (i := 2) sc__law_right.nd rfl (Or.inl rfl)) (pgs_cons (pg_name (i := 3) sc__law_right.nd rfl (Or.inl rfl)) (pgs_cons (pg_name (i := 4) sc__law_right.nd rfl (Or.inl rfl)) pgs_nil))))) (df_cal c__law_blown (hr.mono (by decide)) (da_consV 0 (pv 0) (da_cons (df_cal c__law_book (hr.mono (by decide)) (da_consV 0 (pv 0) (da_cons (df_var 1 (pv 1)) (da_cons df_int da_nil)))) da_nil)))) (dss_cons (dst_set (i := 5) sc__law_right.nd (Or.inl rfl) (df_tup (da_cons (df_cal c__law_come (hr.mono (by decide)) (da_cons (df_var 3 (pv 3)) da_nil)) (da_cons (df_cal c__law_come (hr.mono (by decide)) (da_cons (df_var 4 (pv 4)) da_nil)) da_nil)))) (dss_cons (dst_par2 (i := 6) (j := 7) sc__law_right.nd (by decide) (da_cons (df_cal c_folding (hr.mono (by decide)) (da_cons (df_var 2 (pv 2)) da_nil)) (da_cons (df_cal c__law_lists (hr.mono (by decide)) (da_cons (df_var 2 (pv 2)) da_nil)) da_nil))) (dss_cons (ds_if (dt_not (dt_val (df_cal c__law_same (hr.mono (by decide)) (da_cons (df_var 6 (pv 6)) (da_cons (df_cal c__law_coarsest (hr.mono (by decide)) (da_cons (df_var 2 (pv 2)) da_nil)) da_nil))))) (dss_one (ds_ret df_bl)) dss_nil) (dss_cons (ds_for PassesOwn.never rfl (dj_zip fr.zip (df_var 5 (pv 5)) (df_var 6 (pv 6))) (dj_tup [8, 9] (pg_tup rfl (pgs_cons (pg_name (i := 8) sc__law_right.nd rfl (Or.inl rfl)) (pgs_cons (pg_name (i := 9) sc__law_right.nd rfl (Or.inl rfl)) pgs_nil)))) (dss_one (ds_if (dt_ne hu (fb (df_cal c__law_come (hr.mono (by decide)) (da_cons (fz (dn_listZip fr.list fr.zip (df_var 8 (pv 8)) (df_var 9 (pv 9)))) da_nil))) (fb (df_var 8 (pv 8)))) (dss_one (ds_ret df_bl)) dss_nil))) (dss_cons (dst_new (i := 10) sc__law_right.nd (Or.inl rfl) (dn_list fr.list (fb (df_ix (fb (df_var 6 (pv 6))) (fb df_int))))) (dss_cons (dst_put (i := 10) (pv 10) (df_cal c__law_take (hr.mono (by decide)) (da_consV 0 (pv 0) (da_cons (df_len fr.len (db_var 10 (pv 10))) da_nil))) (df_cal c__law_take (hr.mono (by decide)) (da_consV 0 (pv 0) (da_cons (df_add (fb (df_max hu fr.max (db_var 10 (pv 10)))) (fb df_int)) da_nil)))) (dss_cons (dst_set (i := 11) sc__law_right.nd (Or.inl rfl) (df_tup (da_cons (dfj_tupRg fr.tuple fr.range (df_len fr.len (fb (df_ix (fb (df_var 2 (pv 2))) (fb df_int))))) (da_cons (dfj_tupRg fr.tuple fr.range (df_len fr.len (fb (df_ix (fb (df_var 2 (pv 2))) (fb df_int))))) da_nil)))) (dss_frz 10 (dss_cons (ds_for PassesOwn.never rfl (dj_seq (df_tup (da_cons (df_var 5 (pv 5)) (da_cons (df_var 6 (pv 6)) (da_cons (df_var 11 (pv 11)) (da_cons (df_tup (da_cons (df_ix (fb (df_var 6 (pv 6))) (fb df_int)) (da_cons (df_ix (fb (df_var 11 (pv 11))) (fb df_int)) da_nil))) (da_cons (df_tup (da_cons (df_ix (fb (df_var 11 (pv 11))) (fb df_int)) (da_cons (df_ix (fb (df_var 6 (pv 6))) (fb df_int)) da_nil))) (da_cons (df_tup (da_cons (df_ix (fb (df_var 6 (pv 6))) (fb df_int)) (da_cons (df_cal c__law_come (hr.mono (by decide)) (da_cons (df_var 10 (pv 10)) da_nil)) da_nil))) da_nil)))))))) (dg_name 12 (pg_name (i := 12) sc__law_right.nd rfl (Or.inl rfl))) (dss_cons (dst_set (i := 13) sc__law_right.nd (Or.inl rfl) (df_cal c__law_is_one (hr.mono (by decide)) (da_cons (df_var 2 (pv 2)) (da_cons (df_var 12 (pv 12)) da_nil)))) (dss_one (ds_if (dt_not (dt_val (df_cal c__law_same (hr.mono (by decide)) (da_cons (fz (dn_lst (da_cons (df_cal c_is_folding (hr.mono (by decide)) (da_cons (df_var 7 (pv 7)) (da_cons (df_var 12 (pv 12)) da_nil))) (da_cons (df_cal c__law_heard (hr.mono (by decide)) (da_cons (df_var 2 (pv 2)) (da_cons (df_cal c__law_lists (hr.mono (by decide)) (da_cons (df_var 12 (pv 12)) da_nil)) da_nil))) da_nil)))) (da_cons (fz (dn_lst (da_cons (df_var 13 (pv 13)) (da_cons (dg_if (dt_val (df_var 13 (pv 13))) (df_cal c__law_folded (hr.mono (by decide)) (da_cons (df_var 2 (pv 2)) (da_cons (df_var 12 (pv 12)) da_nil))) df_str) da_nil)))) da_nil))))) (dss_one (ds_ret df_bl)) dss_nil)))) (dss_cons (ds_for PassesOwn.never rfl (dj_range fr.range df_int) (dg_name 14 (pg_name (i := 14) sc__law_right.nd rfl (Or.inl rfl))) (dss_cons (dst_set (i := 15) sc__law_right.nd (Or.inl rfl) (df_cal c__law_history (hr.mono (by decide)) (da_consV 0 (pv 0) (da_cons (df_var 1 (pv 1)) da_nil)))) (dss_one (ds_if (dt_ne hu (fb (df_cal c__law_answer (hr.mono (by decide)) (da_cons (df_cal c_folded (hr.mono (by decide)) (da_cons (df_var 7 (pv 7)) (da_cons (df_var 6 (pv 6)) da_nil))) (da_cons (df_var 15 (pv 15)) da_nil)))) (fb (df_cal c__law_answer (hr.mono (by decide)) (da_cons (df_var 2 (pv 2)) (da_cons (df_var 15 (pv 15)) da_nil))))) (dss_one (ds_ret df_bl)) dss_nil)))) (dss_one (ds_ret df_bl))))))))))))))⟩
end DL

set_option Elab.async false
set_option linter.all false
set_option maxRecDepth 100000
set_option maxHeartbeats 16000000
namespace DL
open PySem PySem.Spec PyProof.Rows L2 HeadL
variable {P : Program} {w : World} {K : PySem.W.Frag} {mg : Str → Option Value} {base : Heap}
theorem sc__law_by_hand_right : FnScope ["_law_parity_here", "_law_marked_here", "_law_lax", "_law_dull", "_law_got", "_law_due"] [] (defScope s__law_by_hand_right) := ⟨rfl, rfl, rfl, by decide +kernel, rfl, by decide +kernel, by decide +kernel⟩
theorem ok__law_by_hand_right (D : Def K mg "_law_by_hand_right" s__law_by_hand_right) (fr : Fre mg) (c__law_marked : Cal P w K mg base CX0 1 "_law_marked" [] (spF K 0 F__law_marked)) (c__law_parity : Cal P w K mg base CX0 1 "_law_parity" [] (spF K 0 F__law_parity)) (c_is_folding : Cal P w K mg base CX0 9 "is_folding" ["book", "thing"] (spF K 2 F_is_folding)) (c_folded : Cal P w K mg base CX0 10 "folded" ["book", "lots"] (spF K 2 F_folded)) (c_folding : Cal P w K mg base CX0 9 "folding" ["book"] (spF K 1 F_folding)) (c__law_same : Cal P w K mg base CX0 8 "_law_same" ["_law_got", "_law_goal"] (spF K 2 (F__law_same 8))) (c__law_heard : Cal P w K mg base CX0 11 "_law_heard" ["_law_book_here", "_law_lots"] (spF K 2 F__law_heard)) : Cal P w K mg base CX0 12 "_law_by_hand_right" [] (spF K 0 F__law_by_hand_right) :=
  cal_mk D sc__law_by_hand_right (fun _ _ _ _ _ _ us hl => match us, hl with | [], _ => rfl) fun f cdv A outer s H E hr hu => ⟨_, (dss_cons (dst_par2 (i := 0) (j := 1) sc__law_by_hand_right.nd (by decide) (da_cons (df_cal0 c__law_parity (hr.mono (by decide))) (da_cons (df_cal0 c__law_marked (hr.mono (by decide))) da_nil))) (dss_cons (dst_par2 (i := 2) (j := 3) sc__law_by_hand_right.nd (by decide) (da_cons (df_tup (da_cons (df_tup (da_cons df_bl (da_cons df_bl (da_cons df_bl da_nil)))) (da_cons (df_tup (da_cons df_int (da_cons df_int da_nil))) (da_cons (df_tup (da_cons df_int (da_cons df_int da_nil))) (da_cons (df_catT (fb (df_ix (fb (df_var 0 (pv 0))) (fb df_int))) (fb (df_slT (fb (df_ix (fb (df_var 0 (pv 0))) (fb df_int))) do_no (do_so df_int)))) da_nil))))) (da_cons (df_catT (fb (df_tup (da_cons (df_tup (da_cons df_bl (da_cons df_bl da_nil))) da_nil))) (fb (df_slT (fb (df_var 1 (pv 1))) (do_so df_int) do_no))) da_nil))) (dss_cons (dst_set (i := 4) sc__law_by_hand_right.nd (Or.inl rfl) (fz (dn_lst (da_cons (df_cal c_folding (hr.mono (by decide)) (da_cons (df_var 2 (pv 2)) da_nil)) (da_cons (df_cal c_folding (hr.mono (by decide)) (da_cons (df_var 1 (pv 1)) da_nil)) (da_cons (df_cal c_folding (hr.mono (by decide)) (da_cons (df_var 3 (pv 3)) da_nil)) (da_cons (df_cal c_folded (hr.mono (by decide)) (da_cons (df_var 2 (pv 2)) (da_cons (df_tup (da_cons (df_tup (da_cons df_int (da_cons df_int (da_cons df_int da_nil)))) (da_cons (df_tup (da_cons df_int (da_cons df_int da_nil))) da_nil))) da_nil))) (da_cons (df_cal c_is_folding (hr.mono (by decide)) (da_cons (df_var 3 (pv 3)) (da_cons (df_tup (da_cons (df_tup (da_cons df_int (da_cons df_int da_nil))) (da_cons (df_tup (da_cons df_int (da_cons df_int (da_cons df_int da_nil)))) da_nil))) da_nil))) da_nil)))))))) (dss_cons (dst_set (i := 5) sc__law_by_hand_right.nd (Or.inl rfl) (fz (dn_lst (da_cons (df_tup (da_cons (df_tup (da_cons df_int (da_cons df_int (da_cons df_int da_nil)))) (da_cons (df_tup (da_cons df_int (da_cons df_int da_nil))) da_nil))) (da_cons (df_tup (da_cons (df_tup (da_cons df_int (da_cons df_int da_nil))) (da_cons (df_tup (da_cons df_int (da_cons df_int (da_cons df_int da_nil)))) da_nil))) (da_cons (df_tup (da_cons (df_tup (da_cons df_int (da_cons df_int da_nil))) (da_cons (df_tup (da_cons df_int (da_cons df_int (da_cons df_int da_nil)))) da_nil))) (da_cons (df_var 0 (pv 0)) (da_cons df_bl da_nil)))))))) (dss_one (ds_ret (df_cal c__law_same (hr.mono (by decide)) (da_cons (fz (dn_cat (fg (df_var 4 (pv 4))) (ng (dn_lst (da_cons (df_cal c_is_folding (hr.mono (by decide)) (da_cons (df_var 3 (pv 3)) (da_cons (df_tup (da_cons (df_tup (da_cons df_int (da_cons df_int da_nil))) (da_cons (df_tup (da_cons df_int (da_cons df_int (da_cons df_int da_nil)))) da_nil))) da_nil))) (da_cons (df_cal c__law_heard (hr.mono (by decide)) (da_cons (df_var 0 (pv 0)) (da_cons (df_tup (da_cons (df_tup (da_cons df_int (da_cons df_int da_nil))) (da_cons (df_tup (da_cons df_int (da_cons df_int da_nil))) da_nil))) da_nil))) da_nil)))))) (da_cons (fz (dn_cat (fg (df_var 5 (pv 5))) (ng (dn_lst (da_cons df_bl (da_cons df_str da_nil)))))) da_nil)))))))))⟩
end DL

set_option Elab.async false
set_option linter.all false
set_option maxRecDepth 100000
set_option maxHeartbeats 16000000
namespace DL
open PySem PySem.Spec PyProof.Rows L2 HeadL
variable {P : Program} {w : World} {K : PySem.W.Frag} {mg : Str → Option Value} {base : Heap}
theorem sc_law : FnScope ["_law_script"] ["_law_script"] (defScope s_law) := ⟨rfl, rfl, rfl, by decide +kernel, rfl, by decide +kernel, by decide +kernel⟩
theorem ok_law {f : Addr} {fd : FuncData} (F : FunD K "law" "law" (defArgs s_law) (defBody s_law) (defScope s_law) [] [] f fd) (fr : Fre mg) (c_bh : Cal P w K mg base CX0 12 "_law_by_hand_right" [] (spF K 0 F__law_by_hand_right)) (c_r : Cal P w K mg base CX0 12 "_law_right" ["_law_urn"] (spF K 1 F__law_right)) (c_box : Cal P w K mg base CX0 1 "_law_box" ["_law_script", "_law_k"] (spN K 2 F__law_box)) (c_cells : Cal P w K mg base CX0 1 "_law_cells" ["_law_script", "_law_top"] (spF K 2 F__law_cells)) : FnOk P w K mg base CX0 13 f fd ["_law_script"] (spF K 1 F_law) :=
  fn_ok F sc_law fun cdv A outer s H E hr => ⟨_, dss_one (ds_ret (df_and (df_cal0 c_bh (hr.mono (by decide))) (df_one (df_boxes c_r c_box (hr.mono (by decide)) (hr.mono (by decide)) (da_cons (df_cal c_cells (hr.mono (by decide)) (da_consV 0 (pv 0) (da_cons df_int da_nil))) (da_cons df_int da_nil))))))⟩
end DL

set_option maxRecDepth 100000
set_option linter.all false
/-! M1: labels in the order of first appearance. -/
namespace DL
section
variable {α β γ : Type}
/-- who stands for his like, in order -/
def reps (r : β → β → Bool) (xs : List β) : List β := xs.foldl (fun k x => if k.any (fun y => r y x) then k else k ++ [x]) []
def cmR (r : β → β → Bool) (xs : List β) : List Nat := xs.map fun x => (reps r xs).findIdx fun y => r y x
/-- labels -/
def cm [DecidableEq α] (l : List α) : List Nat := cmR (fun a b => decide (a = b)) l
def repsA (r : β → β → Bool) (xs k : List β) : List β := xs.foldl (fun k x => if k.any (fun y => r y x) then k else k ++ [x]) k
theorem repsA_map (r : γ → γ → Bool) (f : β → γ) : ∀ (xs k : List β), repsA r (xs.map f) (k.map f) = (repsA (fun a b => r (f a) (f b)) xs k).map f
  | [], k => rfl
  | x :: xs, k => by
    show repsA r (xs.map f) (if (k.map f).any (fun y => r y (f x)) then k.map f else k.map f ++ [f x]) = (repsA _ xs (if k.any (fun y => r (f y) (f x)) then k else k ++ [x])).map f
    rw [List.any_map]
    by_cases c : k.any (fun y => r (f y) (f x)) = true
    · rw [if_pos c, if_pos (by simpa [Function.comp_def] using c)]
      exact repsA_map r f xs k
    · rw [if_neg c, if_neg (by simpa [Function.comp_def] using c)]
      have := repsA_map r f xs (k ++ [x])
      rw [List.map_append] at this
      exact this
theorem cmR_map (r : γ → γ → Bool) (f : β → γ) (xs : List β) : cmR r (xs.map f) = cmR (fun a b => r (f a) (f b)) xs := by
  unfold cmR
  have e : reps r (xs.map f) = (reps (fun a b => r (f a) (f b)) xs).map f := repsA_map r f xs []
  rw [e, List.map_map]
  refine List.map_congr_left fun x hx => ?_
  simp [Function.comp_def, List.findIdx_map]
theorem any_congr_mem {l : List β} {p q : β → Bool} (h : ∀ y ∈ l, p y = q y) : l.any p = l.any q := by
  induction l with
  | nil => rfl
  | cons a l ih => simp only [List.any_cons, h a List.mem_cons_self, ih fun y hy => h y (List.mem_cons_of_mem _ hy)]
theorem repsA_congr {r s : β → β → Bool} : ∀ (xs k : List β), (∀ a ∈ xs ++ k, ∀ b ∈ xs ++ k, r a b = s a b) → repsA r xs k = repsA s xs k
  | [], k, _ => rfl
  | x :: xs, k, h => by
    have e : k.any (fun y => r y x) = k.any (fun y => s y x) := any_congr_mem fun y hy => h y (by simp [hy]) x (by simp)
    show repsA r xs (if k.any (fun y => r y x) then k else k ++ [x]) = repsA s xs (if k.any (fun y => s y x) then k else k ++ [x])
    rw [e]
    split
    · exact repsA_congr xs k fun a ha b hb => h a (by simp at ha ⊢; grind) b (by simp at hb ⊢; grind)
    · exact repsA_congr xs (k ++ [x]) fun a ha b hb => h a (by simp at ha ⊢; grind) b (by simp at hb ⊢; grind)
theorem repsA_mem {r : β → β → Bool} : ∀ (xs k : List β), ∀ a ∈ repsA r xs k, a ∈ xs ++ k
  | [], k, a, h => h
  | x :: xs, k, a, h => by
    have h' : a ∈ repsA r xs (if k.any (fun y => r y x) then k else k ++ [x]) := h
    split at h'
    · have := repsA_mem xs k a h'; simp at this ⊢; grind
    · have := repsA_mem xs (k ++ [x]) a h'; simp at this ⊢; grind
theorem reps_mem {r : β → β → Bool} {xs : List β} {a : β} (h : a ∈ reps r xs) : a ∈ xs := by
  have := repsA_mem xs [] a h
  simpa using this
theorem findIdx_congr_mem {l : List β} {p q : β → Bool} (h : ∀ y ∈ l, p y = q y) : l.findIdx p = l.findIdx q := by
  induction l with
  | nil => rfl
  | cons a l ih => simp only [List.findIdx_cons, h a List.mem_cons_self, ih fun y hy => h y (List.mem_cons_of_mem _ hy)]
theorem cmR_congr {r s : β → β → Bool} {xs : List β} (h : ∀ a ∈ xs, ∀ b ∈ xs, r a b = s a b) : cmR r xs = cmR s xs := by
  have e : reps r xs = reps s xs := repsA_congr xs [] fun a ha b hb => h a (by simpa using ha) b (by simpa using hb)
  unfold cmR
  rw [e]
  refine List.map_congr_left fun x hx => findIdx_congr_mem fun y hy => h y (reps_mem hy) x hx
theorem cm_map [DecidableEq α] (f : β → α) (xs : List β) : cm (xs.map f) = cmR (fun a b => decide (f a = f b)) xs := cmR_map _ f xs
/-- labels see the pattern only -/
theorem cm_pat [DecidableEq α] [DecidableEq γ] {f : β → α} {g : β → γ} {xs : List β} (h : ∀ a ∈ xs, ∀ b ∈ xs, f a = f b ↔ g a = g b) : cm (xs.map f) = cm (xs.map g) := by
  rw [cm_map, cm_map]
  exact cmR_congr fun a ha b hb => by simp only [h a ha b hb]
theorem cm_len [DecidableEq α] (l : List α) : (cm l).length = l.length := by simp [cm, cmR]
theorem repsA_sub {r : β → β → Bool} : ∀ (xs k : List β), ∀ a ∈ k, a ∈ repsA r xs k
  | [], k, a, h => h
  | x :: xs, k, a, h => by
    show a ∈ repsA r xs (if k.any (fun y => r y x) then k else k ++ [x])
    split
    · exact repsA_sub xs k a h
    · exact repsA_sub xs (k ++ [x]) a (by simp [h])
theorem repsA_cov {r : β → β → Bool} (hr : ∀ a, r a a = true) : ∀ (xs k : List β), ∀ x ∈ xs, ∃ y ∈ repsA r xs k, r y x = true
  | [], k, x, h => nomatch h
  | z :: xs, k, x, h => by
    show ∃ y ∈ repsA r xs (if k.any (fun y => r y z) then k else k ++ [z]), r y x = true
    rcases List.mem_cons.mp h with rfl | h
    · split
      · rename_i c
        obtain ⟨y, hy, e⟩ := List.any_eq_true.mp c
        exact ⟨y, repsA_sub xs k y hy, e⟩
      · exact ⟨x, repsA_sub xs (k ++ [x]) x (by simp), hr x⟩
    · exact repsA_cov hr xs _ x h
/-- those who stand are pairwise unlike -/
theorem repsA_pw {r : β → β → Bool} : ∀ (xs k : List β), k.Pairwise (fun a b => r a b = false) → (repsA r xs k).Pairwise (fun a b => r a b = false)
  | [], k, h => h
  | z :: xs, k, h => by
    show (repsA r xs (if k.any (fun y => r y z) then k else k ++ [z])).Pairwise _
    split
    · exact repsA_pw xs k h
    · rename_i c
      refine repsA_pw xs _ (List.pairwise_append.mpr ⟨h, List.pairwise_singleton _ _, fun a ha b hb => ?_⟩)
      rw [List.mem_singleton.mp hb]
      cases e : r a z with
      | false => rfl
      | true => exact absurd (List.any_eq_true.mpr ⟨a, ha, e⟩) c
end
section
variable {α : Type} [DecidableEq α]
abbrev kn (l : List α) : List α := reps (fun a b => decide (a = b)) l
theorem kn_mem {l : List α} {x : α} : x ∈ kn l ↔ x ∈ l := by
  refine ⟨reps_mem, fun h => ?_⟩
  obtain ⟨y, hy, e⟩ := repsA_cov (r := fun a b => decide (a = b)) (fun a => by simp) l [] x h
  have : y = x := by simpa using e
  rw [← this]; exact hy
theorem kn_nodup (l : List α) : (kn l).Nodup := by
  have h := repsA_pw (r := fun a b => decide (a = b)) l [] List.Pairwise.nil
  exact h.imp fun {a b} e => by simpa using e
theorem findIdx_idxOf (l : List α) (x : α) : (l.findIdx fun y => decide (y = x)) = l.idxOf x := by
  induction l with
  | nil => rfl
  | cons a l ih =>
    simp only [List.findIdx_cons, List.idxOf_cons, ih]
    by_cases c : a = x
    · simp [c]
    · have : (a == x) = false := by simpa using c
      simp [c, this]
theorem cm_eq (l : List α) : cm l = l.map fun x => (kn l).idxOf x := by
  unfold cm cmR
  refine List.map_congr_left fun x hx => findIdx_idxOf _ _
theorem cm_get {l : List α} {i : Nat} {x : α} (h : l[i]? = some x) : (cm l)[i]? = some ((kn l).idxOf x) := by
  rw [cm_eq, List.getElem?_map, h]; rfl
theorem idxOf_inj {l : List α} {x y : α} (hx : x ∈ l) (hy : y ∈ l) (e : l.idxOf x = l.idxOf y) : x = y := by
  have h1 := List.getElem_idxOf (List.idxOf_lt_length_of_mem hx)
  have h2 := List.getElem_idxOf (List.idxOf_lt_length_of_mem hy)
  rw [← h1, ← h2]
  simp only [e]
theorem cm_iff {l : List α} {i j : Nat} {x y : α} (hi : l[i]? = some x) (hj : l[j]? = some y) : (cm l).getD i 0 = (cm l).getD j 0 ↔ x = y := by
  have h1 := cm_get hi
  have h2 := cm_get hj
  rw [List.getD_eq_getElem?_getD, List.getD_eq_getElem?_getD, h1, h2]
  show (kn l).idxOf x = (kn l).idxOf y ↔ x = y
  exact ⟨idxOf_inj (kn_mem.mpr (List.mem_of_getElem? hi)) (kn_mem.mpr (List.mem_of_getElem? hj)), fun e => by rw [e]⟩
theorem idxOf_nodup {l : List α} (hn : l.Nodup) {i : Nat} (hi : i < l.length) : l.idxOf l[i] = i := by
  have hm : l[i] ∈ l := List.getElem_mem hi
  have h1 := List.getElem_idxOf (List.idxOf_lt_length_of_mem hm)
  exact (List.getElem_inj hn).mp h1
/-- every label below another one is there -/
theorem cm_full {l : List α} {v u : Nat} (hu : u ∈ cm l) (hv : v ≤ u) : v ∈ cm l := by
  rw [cm_eq] at hu ⊢
  obtain ⟨x, hx, rfl⟩ := List.mem_map.mp hu
  have h1 : (kn l).idxOf x < (kn l).length := List.idxOf_lt_length_of_mem (kn_mem.mpr hx)
  have h2 : v < (kn l).length := by omega
  exact List.mem_map.mpr ⟨(kn l)[v], kn_mem.mp (List.getElem_mem h2), idxOf_nodup (kn_nodup l) h2⟩
theorem cm_lt {l : List α} {v : Nat} (h : v ∈ cm l) : v < l.length := by
  rw [cm_eq] at h
  obtain ⟨x, hx, rfl⟩ := List.mem_map.mp h
  have h1 : (kn l).idxOf x < (kn l).length := List.idxOf_lt_length_of_mem (kn_mem.mpr hx)
  have h2 : (kn l).length ≤ l.length := by
    have : ∀ (xs k : List α), (repsA (fun a b => decide (a = b)) xs k).length ≤ xs.length + k.length := by
      intro xs
      induction xs with
      | nil => intro k; simp [repsA]
      | cons z xs ih =>
        intro k
        show (repsA _ xs (if k.any (fun y => decide (y = z)) then k else k ++ [z])).length ≤ _
        split
        · have := ih k; simp; omega
        · have := ih (k ++ [z]); simp at this ⊢; omega
    exact this l []
  omega
end
/-- a list by its places -/
theorem list_by {α : Type} (l : List α) (d : α) : l = (List.range l.length).map fun i => l.getD i d := by
  refine List.ext_getElem (by simp) fun i h1 h2 => ?_
  simp [List.getD_eq_getElem?_getD, List.getElem?_eq_getElem h1]
/-- labels see the pattern only, by places -/
theorem cm_pat_ix {α γ : Type} [DecidableEq α] [DecidableEq γ] {l : List α} {m : List γ} (d : α) (e : γ) (hl : l.length = m.length) (h : ∀ i j, i < l.length → j < l.length → (l.getD i d = l.getD j d ↔ m.getD i e = m.getD j e)) : cm l = cm m := by
  rw [list_by l d, list_by m e, ← hl]
  refine cm_pat fun a ha b hb => h a b (by simpa using ha) (by simpa using hb)
theorem cm_cm {α : Type} [DecidableEq α] (l : List α) : cm (cm l) = cm l := by
  rcases l with _ | ⟨d, r⟩
  · rfl
  · refine cm_pat_ix 0 d (by rw [cm_len]) fun i j hi hj => ?_
    rw [cm_len] at hi hj
    have h1 : (d :: r)[i]? = some (d :: r)[i] := List.getElem?_eq_getElem hi
    have h2 : (d :: r)[j]? = some (d :: r)[j] := List.getElem?_eq_getElem hj
    rw [cm_iff h1 h2, List.getD_eq_getElem?_getD, List.getD_eq_getElem?_getD, h1, h2]
    rfl
theorem cm_iff_ix {α : Type} [DecidableEq α] {l : List α} (d : α) {i j : Nat} (hi : i < l.length) (hj : j < l.length) : (cm l).getD i 0 = (cm l).getD j 0 ↔ l.getD i d = l.getD j d := by
  have h1 : l[i]? = some l[i] := List.getElem?_eq_getElem hi
  have h2 : l[j]? = some l[j] := List.getElem?_eq_getElem hj
  rw [cm_iff h1 h2, List.getD_eq_getElem?_getD, List.getD_eq_getElem?_getD, h1, h2]
  rfl
end DL

set_option maxRecDepth 100000
set_option linter.all false
/-! M2: books, foldings, the coarsest one. -/
namespace DL
abbrev Row := Nat × Nat × List Nat × List Nat
instance decRow : DecidableEq Row := fun a b => @instDecidableEqProd _ _ _ (@instDecidableEqProd _ _ _ (@instDecidableEqProd _ _ _ _)) a b
instance decRows : DecidableEq (List (List Row)) := fun a b => inferInstanceAs (Decidable (a = b))
structure Bok where
  ans : List Bool
  lets : List Nat
  b0 : Nat
  b1 : Nat
  rows : List (List (List Row))
def ix (l : List Nat) (i : Nat) : Nat := l.getD i 0
structure RowOk (n m : Nat) (r : Row) : Prop where
  gL : r.1 < n
  hL : r.2.1 < m
  lL : r.2.2.1.length = m
  rL : r.2.2.2.length = m
  lx : ∀ x ∈ r.2.2.1, x < m
  rx : ∀ x ∈ r.2.2.2, x < m
structure WF (B : Bok) (K : Nat) : Prop where
  n1 : 1 ≤ B.ans.length
  n9 : B.ans.length ≤ 9
  m1 : 1 ≤ B.lets.length
  m9 : B.lets.length ≤ 9
  K9 : K ≤ 8
  rl : B.rows.length = B.ans.length
  bl : ∀ bh ∈ B.rows, bh.length = B.lets.length
  ll : ∀ bh ∈ B.rows, ∀ ln ∈ bh, ln.length = K + 1
  ro : ∀ bh ∈ B.rows, ∀ ln ∈ bh, ∀ r ∈ ln, RowOk B.ans.length B.lets.length r
  c0 : B.b0 < B.ans.length
  c1 : B.b1 < B.lets.length
abbrev Lots := List Nat × List Nat
def byLot (x : Lots) (r : Row) : Row := (ix x.1 r.1, ix x.2 r.2.1, r.2.2.1.map (ix x.2), r.2.2.2.map (ix x.2))
def pr (hu : List Nat) (h : Nat) (r : Row) : Nat × Nat := (ix hu (ix r.2.2.1 h), ix hu (ix r.2.2.2 h))
def flagName (B : Bok) (x : Lots) (f : Nat) : Bool × Nat × List (List Row) := (B.ans.getD f false, ix x.1 f, (B.rows.getD f []).map fun ln => ln.map (byLot x))
def hueName (B : Bok) (x : Lots) (h : Nat) : Nat × Nat × List (List Row) × List (Nat × Nat) :=
  (ix B.lets h, ix x.2 h, B.rows.map (fun bh => (bh.getD h []).map (byLot x)), B.rows.flatMap fun bh => bh.flatMap fun ln => ln.map (pr x.2 h))
def step (B : Bok) (x : Lots) : Lots := (cm ((List.range B.ans.length).map (flagName B x)), cm ((List.range B.lets.length).map (hueName B x)))
def seenF (B : Bok) (x : Lots) (f : Nat) : Nat × List (List Row) := (ix x.1 f, (B.rows.getD f []).map fun ln => ln.map (byLot x))
def seenH (B : Bok) (x : Lots) (h : Nat) : Nat × List (List Row) × List (List (Nat × Nat)) :=
  (ix x.2 h, B.rows.map (fun bh => (bh.getD h []).map (byLot x)), B.rows.flatMap fun bh => bh.map fun ln => ln.map (pr x.2 h))
def stepL (B : Bok) (x : Lots) : Lots := (cm ((List.range B.ans.length).map (seenF B x)), cm ((List.range B.lets.length).map (seenH B x)))
/-- labels of the right number, in the order of first appearance -/
structure Nm (B : Bok) (x : Lots) : Prop where
  l1 : x.1.length = B.ans.length
  l2 : x.2.length = B.lets.length
  c1 : cm x.1 = x.1
  c2 : cm x.2 = x.2
structure Rf (B : Bok) (x : Lots) : Prop where
  a : ∀ f g, f < B.ans.length → g < B.ans.length → ix x.1 f = ix x.1 g → B.ans.getD f false = B.ans.getD g false
  b : ∀ h k, h < B.lets.length → k < B.lets.length → ix x.2 h = ix x.2 k → ix B.lets h = ix B.lets k
theorem map_eq_iff {α β : Type} {l : List α} {p q : α → β} : l.map p = l.map q ↔ ∀ x ∈ l, p x = q x := by
  simp
theorem given_iff {B : Bok} {hu : List Nat} {h k : Nat} : (B.rows.flatMap fun bh => bh.flatMap fun ln => ln.map (pr hu h)) = (B.rows.flatMap fun bh => bh.flatMap fun ln => ln.map (pr hu k)) ↔ ∀ bh ∈ B.rows, ∀ ln ∈ bh, ∀ r ∈ ln, pr hu h r = pr hu k r := by
  have e : ∀ h, (B.rows.flatMap fun bh => bh.flatMap fun ln => ln.map (pr hu h)) = (B.rows.flatMap fun bh => bh.flatMap fun ln => ln).map (pr hu h) := fun h => by
    rw [List.map_flatMap]
    refine congrArg List.flatten (List.map_congr_left fun bh _ => ?_)
    rw [List.map_flatMap]
  rw [e, e, map_eq_iff]
  simp only [List.mem_flatMap]
  grind
theorem maps_iff {B : Bok} {hu : List Nat} {h k : Nat} : (B.rows.flatMap fun bh => bh.map fun ln => ln.map (pr hu h)) = (B.rows.flatMap fun bh => bh.map fun ln => ln.map (pr hu k)) ↔ ∀ bh ∈ B.rows, ∀ ln ∈ bh, ∀ r ∈ ln, pr hu h r = pr hu k r := by
  have e : ∀ h, (B.rows.flatMap fun bh => bh.map fun ln => ln.map (pr hu h)) = (B.rows.flatMap fun bh => bh).map (fun ln => ln.map (pr hu h)) := fun h => by
    rw [List.map_flatMap]
  rw [e, e, map_eq_iff]
  simp only [List.mem_flatMap, map_eq_iff]
  exact ⟨fun h bh hb ln hl => h ln ⟨bh, hb, hl⟩, fun h ln ⟨bh, hb, hl⟩ => h bh hb ln hl⟩
theorem step_stepL {B : Bok} {x : Lots} (r : Rf B x) : step B x = stepL B x := by
  unfold step stepL
  congr 1
  · refine cm_pat fun f hf g hg => ?_
    have hf' : f < B.ans.length := by simpa using hf
    have hg' : g < B.ans.length := by simpa using hg
    simp only [flagName, seenF, Prod.mk.injEq]
    exact ⟨fun h => h.2, fun h => ⟨r.a f g hf' hg' h.1, h⟩⟩
  · refine cm_pat fun f hf g hg => ?_
    have hf' : f < B.lets.length := by simpa using hf
    have hg' : g < B.lets.length := by simpa using hg
    simp only [hueName, seenH, Prod.mk.injEq, given_iff, maps_iff]
    exact ⟨fun h => h.2, fun h => ⟨r.b f g hf' hg' h.1, h⟩⟩
theorem getD_map_range {α : Type} {n i : Nat} (f : Nat → α) (d : α) (h : i < n) : ((List.range n).map f).getD i d = f i := by
  rw [List.getD_eq_getElem?_getD, List.getElem?_map, List.getElem?_range h]; rfl
/-- two labels of the next round are one where the names are -/
theorem step1_iff {B : Bok} {x : Lots} {f g : Nat} (hf : f < B.ans.length) (hg : g < B.ans.length) : ix (step B x).1 f = ix (step B x).1 g ↔ flagName B x f = flagName B x g := by
  have := cm_iff_ix (l := (List.range B.ans.length).map (flagName B x)) (false, 0, []) (i := f) (j := g) (by simpa using hf) (by simpa using hg)
  rw [getD_map_range _ _ hf, getD_map_range _ _ hg] at this
  exact this
theorem step2_iff {B : Bok} {x : Lots} {h k : Nat} (hh : h < B.lets.length) (hk : k < B.lets.length) : ix (step B x).2 h = ix (step B x).2 k ↔ hueName B x h = hueName B x k := by
  have := cm_iff_ix (l := (List.range B.lets.length).map (hueName B x)) (0, 0, [], []) (i := h) (j := k) (by simpa using hh) (by simpa using hk)
  rw [getD_map_range _ _ hh, getD_map_range _ _ hk] at this
  exact this
theorem nm_step (B : Bok) (x : Lots) : Nm B (step B x) := ⟨by simp [step, cm_len], by simp [step, cm_len], cm_cm _, cm_cm _⟩
theorem rf_step (B : Bok) (x : Lots) : Rf B (step B x) := ⟨fun f g hf hg e => congrArg Prod.fst ((step1_iff hf hg).mp e), fun h k hh hk e => congrArg Prod.fst ((step2_iff hh hk).mp e)⟩
/-- a pair of labelings with one pattern, both in the order of first appearance, are one -/
theorem nm_ext {B : Bok} {x y : Lots} (nx : Nm B x) (ny : Nm B y) (h1 : ∀ f g, f < B.ans.length → g < B.ans.length → (ix x.1 f = ix x.1 g ↔ ix y.1 f = ix y.1 g)) (h2 : ∀ f g, f < B.lets.length → g < B.lets.length → (ix x.2 f = ix x.2 g ↔ ix y.2 f = ix y.2 g)) : x = y := by
  have e1 : x.1 = y.1 := by
    rw [← nx.c1, ← ny.c1]
    exact cm_pat_ix 0 0 (by rw [nx.l1, ny.l1]) fun i j hi hj => h1 i j (by rw [← nx.l1]; exact hi) (by rw [← nx.l1]; exact hj)
  have e2 : x.2 = y.2 := by
    rw [← nx.c2, ← ny.c2]
    exact cm_pat_ix 0 0 (by rw [nx.l2, ny.l2]) fun i j hi hj => h2 i j (by rw [← nx.l2]; exact hi) (by rw [← nx.l2]; exact hj)
  exact Prod.ext e1 e2
/-- what is a folding -/
theorem fix_iff {B : Bok} {x : Lots} (nx : Nm B x) : step B x = x ↔ (∀ f g, f < B.ans.length → g < B.ans.length → ix x.1 f = ix x.1 g → flagName B x f = flagName B x g) ∧ (∀ h k, h < B.lets.length → k < B.lets.length → ix x.2 h = ix x.2 k → hueName B x h = hueName B x k) := by
  constructor
  · intro e
    refine ⟨fun f g hf hg q => ?_, fun h k hh hk q => ?_⟩
    · rw [← step1_iff hf hg, e]; exact q
    · rw [← step2_iff hh hk, e]; exact q
  · intro ⟨h1, h2⟩
    refine nm_ext (nm_step B x) nx (fun f g hf hg => ?_) fun f g hf hg => ?_
    · rw [step1_iff hf hg]
      exact ⟨fun e => congrArg (fun z => z.2.1) e, h1 f g hf hg⟩
    · rw [step2_iff hf hg]
      exact ⟨fun e => congrArg (fun z => z.2.1) e, h2 f g hf hg⟩

/-! ### the rounds end -/
def fixL (s : Lots → Lots) : Nat → Lots → Option Lots
  | 0, _ => none
  | n + 1, x => if s x = x then some x else fixL s n (s x)
theorem countP_lt {α : Type} {p q : α → Bool} : ∀ {l : List α}, (∀ x ∈ l, p x = true → q x = true) → (∃ x ∈ l, q x = true ∧ p x = false) → l.countP p < l.countP q
  | [], _, ⟨x, h, _⟩ => nomatch h
  | a :: l, h, ⟨x, hx, h1, h2⟩ => by
    have mono : l.countP p ≤ l.countP q := List.countP_mono_left fun y hy => h y (List.mem_cons_of_mem _ hy)
    rw [List.countP_cons, List.countP_cons]
    rcases List.mem_cons.mp hx with rfl | hx
    · rw [h1, h2]; simp; omega
    · have ih := countP_lt (p := p) (q := q) (l := l) (fun y hy => h y (List.mem_cons_of_mem _ hy)) ⟨x, hx, h1, h2⟩
      have ha := h a List.mem_cons_self
      cases e : p a with
      | false =>
        cases q a <;> simp <;> omega
      | true =>
        rw [ha e]; simp; omega
def sep (n : Nat) (l : List Nat) : Nat := (List.range (n * n)).countP fun k => decide (ix l (k / n) ≠ ix l (k % n))
theorem sep_le (n : Nat) (l : List Nat) : sep n l ≤ n * n := by
  unfold sep
  have := List.countP_le_length (p := fun k => decide (ix l (k / n) ≠ ix l (k % n))) (l := List.range (n * n))
  rw [List.length_range] at this
  exact this
theorem sep_mono {n : Nat} {l m : List Nat} (h : ∀ i j, i < n → j < n → ix m i = ix m j → ix l i = ix l j) : sep n l ≤ sep n m := by
  refine List.countP_mono_left fun k hk => ?_
  have hk' : k < n * n := by simpa using hk
  have n0 : 0 < n := by rcases Nat.eq_zero_or_pos n with rfl | h; simp at hk'; exact h
  have a : k / n < n := (Nat.div_lt_iff_lt_mul n0).mpr hk'
  have b : k % n < n := Nat.mod_lt _ n0
  simp only [decide_eq_true_eq]
  exact fun q e => q (h _ _ a b e)
theorem sep_lt {n : Nat} {l m : List Nat} (h : ∀ i j, i < n → j < n → ix m i = ix m j → ix l i = ix l j) {i j : Nat} (hi : i < n) (hj : j < n) (h1 : ix l i = ix l j) (h2 : ix m i ≠ ix m j) : sep n l < sep n m := by
  refine countP_lt (fun k hk => ?_) ⟨i * n + j, ?_, ?_, ?_⟩
  · have hk' : k < n * n := by simpa using hk
    have n0 : 0 < n := by omega
    have a : k / n < n := (Nat.div_lt_iff_lt_mul n0).mpr hk'
    have b : k % n < n := Nat.mod_lt _ n0
    simp only [decide_eq_true_eq]
    exact fun q e => q (h _ _ a b e)
  · have : i * n + j < n * n := by
      calc i * n + j < i * n + n := by omega
        _ = (i + 1) * n := by rw [Nat.succ_mul]
        _ ≤ n * n := Nat.mul_le_mul_right _ hi
    simpa using this
  · have e1 : (i * n + j) / n = i := by rw [Nat.add_comm, Nat.add_mul_div_right _ _ (by omega), Nat.div_eq_of_lt hj]; omega
    have e2 : (i * n + j) % n = j := by rw [Nat.add_comm, Nat.add_mul_mod_self_right, Nat.mod_eq_of_lt hj]
    simp only [e1, e2, decide_eq_true_eq]; exact h2
  · have e1 : (i * n + j) / n = i := by rw [Nat.add_comm, Nat.add_mul_div_right _ _ (by omega), Nat.div_eq_of_lt hj]; omega
    have e2 : (i * n + j) % n = j := by rw [Nat.add_comm, Nat.add_mul_mod_self_right, Nat.mod_eq_of_lt hj]
    simp only [e1, e2, h1]; simp
def mu (B : Bok) (x : Lots) : Nat := sep B.ans.length x.1 + sep B.lets.length x.2
theorem mu_step {B : Bok} {x : Lots} (nx : Nm B x) (h : step B x ≠ x) : mu B x < mu B (step B x) := by
  have r1 : ∀ i j, i < B.ans.length → j < B.ans.length → ix (step B x).1 i = ix (step B x).1 j → ix x.1 i = ix x.1 j := fun i j hi hj e => congrArg (fun z => z.2.1) ((step1_iff hi hj).mp e)
  have r2 : ∀ i j, i < B.lets.length → j < B.lets.length → ix (step B x).2 i = ix (step B x).2 j → ix x.2 i = ix x.2 j := fun i j hi hj e => congrArg (fun z => z.2.1) ((step2_iff hi hj).mp e)
  unfold mu
  by_cases c1 : ∃ i j, i < B.ans.length ∧ j < B.ans.length ∧ ix x.1 i = ix x.1 j ∧ ix (step B x).1 i ≠ ix (step B x).1 j
  · obtain ⟨i, j, hi, hj, e1, e2⟩ := c1
    have := sep_lt r1 hi hj e1 e2
    have := sep_mono r2
    omega
  · by_cases c2 : ∃ i j, i < B.lets.length ∧ j < B.lets.length ∧ ix x.2 i = ix x.2 j ∧ ix (step B x).2 i ≠ ix (step B x).2 j
    · obtain ⟨i, j, hi, hj, e1, e2⟩ := c2
      have := sep_lt r2 hi hj e1 e2
      have := sep_mono r1
      omega
    · exact absurd (nm_ext (nm_step B x) nx (fun f g hf hg => ⟨r1 f g hf hg, fun e => Classical.byContradiction fun q => c1 ⟨f, g, hf, hg, e, q⟩⟩) fun f g hf hg => ⟨r2 f g hf hg, fun e => Classical.byContradiction fun q => c2 ⟨f, g, hf, hg, e, q⟩⟩) h
theorem fix_ends {B : Bok} {I : Lots → Prop} (hI : ∀ x, I x → Nm B x → I (step B x)) : ∀ (k : Nat) (x : Lots), Nm B x → I x → B.ans.length * B.ans.length + B.lets.length * B.lets.length < mu B x + k → ∃ y, fixL (step B) k x = some y ∧ Nm B y ∧ I y ∧ step B y = y
  | 0, x, nx, ix, h => by
    have := sep_le B.ans.length x.1
    have := sep_le B.lets.length x.2
    unfold mu at h
    omega
  | k + 1, x, nx, ix, h => by
    unfold fixL
    by_cases c : step B x = x
    · rw [if_pos c]
      exact ⟨x, rfl, nx, ix, c⟩
    · rw [if_neg c]
      exact fix_ends hI k (step B x) (nm_step B x) (hI x ix nx) (by have := mu_step nx c; omega)
def x0 (B : Bok) : Lots := (cm B.ans, cm B.lets)
theorem nm_x0 (B : Bok) : Nm B (x0 B) := ⟨cm_len _, cm_len _, cm_cm _, cm_cm _⟩
theorem rf_x0 (B : Bok) : Rf B (x0 B) := ⟨fun f g hf hg e => (cm_iff_ix (l := B.ans) false hf hg).mp e, fun h k hh hk e => (cm_iff_ix (l := B.lets) 0 hh hk).mp e⟩
/-- the law's rounds are the program's -/
theorem fixL_same {B : Bok} : ∀ (k : Nat) (x : Lots), Rf B x → fixL (stepL B) k x = fixL (step B) k x
  | 0, _, _ => rfl
  | k + 1, x, r => by
    unfold fixL
    rw [← step_stepL r, fixL_same k (step B x) (rf_step B x)]
end DL

set_option maxRecDepth 100000
set_option linter.all false
/-! M3: what is a folding, by pairs; what the making tells; the folded book and histories. -/
namespace DL
def rowAt (B : Bok) (f h l : Nat) : Row := ((B.rows.getD f []).getD h []).getD l (0, 0, [], [])
def bhAt (B : Bok) (f : Nat) : List (List Row) := B.rows.getD f []
def lnAt (B : Bok) (f h : Nat) : List Row := (B.rows.getD f []).getD h []
section
variable {B : Bok} {K : Nat} {x : Lots}
theorem getD_mem {α : Type} {l : List α} {i : Nat} (d : α) (h : i < l.length) : l.getD i d ∈ l := by
  rw [List.getD_eq_getElem?_getD, List.getElem?_eq_getElem h]
  exact List.getElem_mem h
theorem mem_getD {α : Type} {l : List α} {a : α} (d : α) (h : a ∈ l) : ∃ i, i < l.length ∧ l.getD i d = a := by
  obtain ⟨i, hi, e⟩ := List.mem_iff_getElem.mp h
  exact ⟨i, hi, by rw [List.getD_eq_getElem?_getD, List.getElem?_eq_getElem hi, e]; rfl⟩
theorem WF.bh (w : WF B K) {f : Nat} (hf : f < B.ans.length) : bhAt B f ∈ B.rows := getD_mem _ (by rw [w.rl]; exact hf)
theorem WF.bhl (w : WF B K) {f : Nat} (hf : f < B.ans.length) : (bhAt B f).length = B.lets.length := w.bl _ (w.bh hf)
theorem WF.ln (w : WF B K) {f h : Nat} (hf : f < B.ans.length) (hh : h < B.lets.length) : lnAt B f h ∈ bhAt B f := getD_mem _ (by rw [← w.bhl hf] at hh; exact hh)
theorem WF.lnl (w : WF B K) {f h : Nat} (hf : f < B.ans.length) (hh : h < B.lets.length) : (lnAt B f h).length = K + 1 := w.ll _ (w.bh hf) _ (w.ln hf hh)
theorem WF.row (w : WF B K) {f h l : Nat} (hf : f < B.ans.length) (hh : h < B.lets.length) (hl : l ≤ K) : rowAt B f h l ∈ lnAt B f h := getD_mem _ (by have := w.lnl hf hh; show l < (lnAt B f h).length; omega)
theorem WF.rok (w : WF B K) {f h l : Nat} (hf : f < B.ans.length) (hh : h < B.lets.length) (hl : l ≤ K) : RowOk B.ans.length B.lets.length (rowAt B f h l) := w.ro _ (w.bh hf) _ (w.ln hf hh) _ (w.row hf hh hl)
/-- what holds of each row, by places -/
theorem WF.all (w : WF B K) {P : Row → Prop} : (∀ bh ∈ B.rows, ∀ ln ∈ bh, ∀ r ∈ ln, P r) ↔ ∀ f h l, f < B.ans.length → h < B.lets.length → l ≤ K → P (rowAt B f h l) := by
  constructor
  · intro q f h l hf hh hl
    exact q _ (w.bh hf) _ (w.ln hf hh) _ (w.row hf hh hl)
  · intro q bh hb ln hn r hr
    obtain ⟨f, hf, rfl⟩ := mem_getD [] hb
    obtain ⟨h, hh, rfl⟩ := mem_getD [] hn
    obtain ⟨l, hl, rfl⟩ := mem_getD (0, 0, [], []) hr
    rw [w.rl] at hf
    have e1 := w.bhl hf
    unfold bhAt at e1
    rw [e1] at hh
    have e2 := w.lnl hf hh
    unfold lnAt at e2
    exact q f h l hf hh (by omega)
theorem list_ext_getD {α : Type} {l m : List α} (d : α) (h : l.length = m.length) (q : ∀ i, i < l.length → l.getD i d = m.getD i d) : l = m := by
  refine List.ext_getElem h fun i h1 h2 => ?_
  have := q i h1
  rw [List.getD_eq_getElem?_getD, List.getD_eq_getElem?_getD, List.getElem?_eq_getElem h1, List.getElem?_eq_getElem h2] at this
  exact this
theorem map_getD {α β : Type} {l : List α} {f : α → β} {i : Nat} (d : α) (e : β) (h : i < l.length) : (l.map f).getD i e = f (l.getD i d) := by
  rw [List.getD_eq_getElem?_getD, List.getD_eq_getElem?_getD, List.getElem?_map, List.getElem?_eq_getElem h]; rfl
/-- the lines of two places, by lots -/
theorem line_iff (w : WF B K) {f h g k : Nat} (hf : f < B.ans.length) (hh : h < B.lets.length) (hg : g < B.ans.length) (hk : k < B.lets.length) :
    (lnAt B f h).map (byLot x) = (lnAt B g k).map (byLot x) ↔ ∀ l, l ≤ K → byLot x (rowAt B f h l) = byLot x (rowAt B g k l) := by
  have l1 := w.lnl hf hh
  have l2 := w.lnl hg hk
  constructor
  · intro e l hl
    have := congrArg (fun z => z.getD l (0, 0, [], [])) e
    rw [map_getD (0, 0, [], []) _ (by omega), map_getD (0, 0, [], []) _ (by omega)] at this
    exact this
  · intro q
    refine list_ext_getD (0, 0, [], []) (by simp [l1, l2]) fun i hi => ?_
    rw [List.length_map, l1] at hi
    rw [map_getD (0, 0, [], []) _ (by omega), map_getD (0, 0, [], []) _ (by omega)]
    exact q i (by omega)
theorem flag_iff (w : WF B K) {f g : Nat} (hf : f < B.ans.length) (hg : g < B.ans.length) :
    flagName B x f = flagName B x g ↔ B.ans.getD f false = B.ans.getD g false ∧ ix x.1 f = ix x.1 g ∧ ∀ h l, h < B.lets.length → l ≤ K → byLot x (rowAt B f h l) = byLot x (rowAt B g h l) := by
  simp only [flagName, Prod.mk.injEq]
  have e : (B.rows.getD f []).map (fun ln => ln.map (byLot x)) = (B.rows.getD g []).map (fun ln => ln.map (byLot x)) ↔ ∀ h l, h < B.lets.length → l ≤ K → byLot x (rowAt B f h l) = byLot x (rowAt B g h l) := by
    have l1 : (B.rows.getD f []).length = _ := w.bhl hf
    have l2 : (B.rows.getD g []).length = _ := w.bhl hg
    constructor
    · intro e h l hh hl
      have := congrArg (fun z => z.getD h []) e
      rw [map_getD [] _ (by omega), map_getD [] _ (by omega)] at this
      exact (line_iff w hf hh hg hh).mp this l hl
    · intro q
      refine list_ext_getD [] (by simp only [List.length_map]; omega) fun i hi => ?_
      rw [List.length_map, l1] at hi
      rw [map_getD [] _ (by omega), map_getD [] _ (by omega)]
      exact (line_iff w hf hi hg hi).mpr fun l hl => q i l hi hl
  rw [e]
theorem hue_iff (w : WF B K) {h k : Nat} (hh : h < B.lets.length) (hk : k < B.lets.length) :
    hueName B x h = hueName B x k ↔ ix B.lets h = ix B.lets k ∧ ix x.2 h = ix x.2 k ∧ (∀ f l, f < B.ans.length → l ≤ K → byLot x (rowAt B f h l) = byLot x (rowAt B f k l)) ∧
      ∀ f i l, f < B.ans.length → i < B.lets.length → l ≤ K → pr x.2 h (rowAt B f i l) = pr x.2 k (rowAt B f i l) := by
  simp only [hueName, Prod.mk.injEq, given_iff]
  have e : (B.rows.map fun bh => (bh.getD h []).map (byLot x)) = (B.rows.map fun bh => (bh.getD k []).map (byLot x)) ↔ ∀ f l, f < B.ans.length → l ≤ K → byLot x (rowAt B f h l) = byLot x (rowAt B f k l) := by
    rw [map_eq_iff]
    constructor
    · intro e f l hf hl
      exact (line_iff w hf hh hf hk).mp (e _ (w.bh hf)) l hl
    · intro q bh hb
      obtain ⟨f, hf, rfl⟩ := mem_getD [] hb
      rw [w.rl] at hf
      exact (line_iff w hf hh hf hk).mpr fun l hl => q f l hf hl
  rw [e, w.all (P := fun r => pr x.2 h r = pr x.2 k r)]
theorem byLot_iff {n m : Nat} {r s : Row} (hr : RowOk n m r) (hs : RowOk n m s) : byLot x r = byLot x s ↔ ix x.1 r.1 = ix x.1 s.1 ∧ ix x.2 r.2.1 = ix x.2 s.2.1 ∧ (∀ p, p < m → ix x.2 (ix r.2.2.1 p) = ix x.2 (ix s.2.2.1 p)) ∧ ∀ p, p < m → ix x.2 (ix r.2.2.2 p) = ix x.2 (ix s.2.2.2 p) := by
  have e : ∀ {a b : List Nat}, a.length = m → b.length = m → (a.map (ix x.2) = b.map (ix x.2) ↔ ∀ p, p < m → ix x.2 (ix a p) = ix x.2 (ix b p)) := by
    intro a b ha hb
    constructor
    · intro e p hp
      have := congrArg (fun z => z.getD p 0) e
      rw [map_getD 0 _ (by omega), map_getD 0 _ (by omega)] at this
      exact this
    · intro q
      refine list_ext_getD 0 (by simp [ha, hb]) fun i hi => ?_
      rw [List.length_map, ha] at hi
      rw [map_getD 0 _ (by omega), map_getD 0 _ (by omega)]
      exact q i hi
  simp only [byLot, Prod.mk.injEq, e hr.lL hs.lL, e hr.rL hs.rL]
/-- two rows meet -/
def Meet (m : Nat) (x : Lots) (r s : Row) : Prop := ix x.1 r.1 = ix x.1 s.1 ∧ ix x.2 r.2.1 = ix x.2 s.2.1 ∧
  (∀ p q, p < m → q < m → ix x.2 p = ix x.2 q → ix x.2 (ix r.2.2.1 p) = ix x.2 (ix s.2.2.1 q)) ∧ ∀ p q, p < m → q < m → ix x.2 p = ix x.2 q → ix x.2 (ix r.2.2.2 p) = ix x.2 (ix s.2.2.2 q)
def IsOne (B : Bok) (K : Nat) (x : Lots) : Prop := ∀ f g, f < B.ans.length → g < B.ans.length → ix x.1 f = ix x.1 g → B.ans.getD f false = B.ans.getD g false ∧
  ∀ h k, h < B.lets.length → k < B.lets.length → ix x.2 h = ix x.2 k → ix B.lets h = ix B.lets k ∧ ∀ l, l ≤ K → Meet B.lets.length x (rowAt B f h l) (rowAt B g k l)
theorem isOne_iff (w : WF B K) (nx : Nm B x) : IsOne B K x ↔ step B x = x := by
  rw [fix_iff nx]
  constructor
  · intro o
    refine ⟨fun f g hf hg e => ?_, fun h k hh hk e => ?_⟩
    · obtain ⟨o1, o2⟩ := o f g hf hg e
      refine (flag_iff w hf hg).mpr ⟨o1, e, fun h l hh hl => ?_⟩
      obtain ⟨m1, m2, m3, m4⟩ := (o2 h h hh hh rfl).2 l hl
      exact (byLot_iff (w.rok hf hh hl) (w.rok hg hh hl)).mpr ⟨m1, m2, fun p hp => m3 p p hp hp rfl, fun p hp => m4 p p hp hp rfl⟩
    · have o0 := fun f (hf : f < B.ans.length) => (o f f hf hf rfl).2
      refine (hue_iff w hh hk).mpr ⟨(o0 0 w.n1 h k hh hk e).1, e, fun f l hf hl => ?_, fun f i l hf hi hl => ?_⟩
      · obtain ⟨m1, m2, m3, m4⟩ := (o0 f hf h k hh hk e).2 l hl
        exact (byLot_iff (w.rok hf hh hl) (w.rok hf hk hl)).mpr ⟨m1, m2, fun p hp => m3 p p hp hp rfl, fun p hp => m4 p p hp hp rfl⟩
      · obtain ⟨m1, m2, m3, m4⟩ := (o0 f hf i i hi hi rfl).2 l hl
        exact Prod.ext (m3 h k hh hk e) (m4 h k hh hk e)
  · rintro ⟨c1, c2⟩ f g hf hg e
    obtain ⟨a1, a2, a3⟩ := (flag_iff w hf hg).mp (c1 f g hf hg e)
    refine ⟨a1, fun h k hh hk e2 => ?_⟩
    obtain ⟨b1, b2, b3, b4⟩ := (hue_iff w hh hk).mp (c2 h k hh hk e2)
    refine ⟨b1, fun l hl => ?_⟩
    obtain ⟨d1, d2, d3, d4⟩ := (byLot_iff (w.rok hf hh hl) (w.rok hg hh hl)).mp (a3 h l hh hl)
    obtain ⟨f1, f2, f3, f4⟩ := (byLot_iff (w.rok hg hh hl) (w.rok hg hk hl)).mp (b3 g l hg hl)
    refine ⟨d1.trans f1, d2.trans f2, fun p q hp hq e3 => ?_, fun p q hp hq e3 => ?_⟩
    · have := ((hue_iff w hp hq).mp (c2 p q hp hq e3)).2.2.2 g k l hg hk hl
      exact (d3 p hp).trans ((f3 p hp).trans (congrArg Prod.fst this))
    · have := ((hue_iff w hp hq).mp (c2 p q hp hq e3)).2.2.2 g k l hg hk hl
      exact (d4 p hp).trans ((f4 p hp).trans (congrArg Prod.snd this))
/-! ### what the making tells -/
/-- a cover: of flags, of hues, under which rows go with rows -/
structure Cov (B : Bok) (K : Nat) (y : Lots) : Prop where
  a : ∀ f g, f < B.ans.length → g < B.ans.length → ix y.1 f = ix y.1 g → B.ans.getD f false = B.ans.getD g false
  b : ∀ h k, h < B.lets.length → k < B.lets.length → ix y.2 h = ix y.2 k → ix B.lets h = ix B.lets k
  r : ∀ f g h k l, f < B.ans.length → g < B.ans.length → h < B.lets.length → k < B.lets.length → l ≤ K → ix y.1 f = ix y.1 g → ix y.2 h = ix y.2 k →
    Meet B.lets.length y (rowAt B f h l) (rowAt B g k l)
/-- x is coarser than y -/
def Crs (B : Bok) (y x : Lots) : Prop := (∀ f g, f < B.ans.length → g < B.ans.length → ix y.1 f = ix y.1 g → ix x.1 f = ix x.1 g) ∧ ∀ h k, h < B.lets.length → k < B.lets.length → ix y.2 h = ix y.2 k → ix x.2 h = ix x.2 k
theorem ix_mem {l : List Nat} {p : Nat} (h : p < l.length) : ix l p ∈ l := getD_mem 0 h
theorem crs_step (w : WF B K) {y : Lots} (c : Cov B K y) (h : Crs B y x) : Crs B y (step B x) := by
  have go : ∀ f g h' k l, f < B.ans.length → g < B.ans.length → h' < B.lets.length → k < B.lets.length → l ≤ K → ix y.1 f = ix y.1 g → ix y.2 h' = ix y.2 k → byLot x (rowAt B f h' l) = byLot x (rowAt B g k l) := by
    intro f g h' k l hf hg hh hk hl e1 e2
    obtain ⟨m1, m2, m3, m4⟩ := c.r f g h' k l hf hg hh hk hl e1 e2
    have r1 := w.rok hf hh hl
    have r2 := w.rok hg hk hl
    refine (byLot_iff r1 r2).mpr ⟨h.1 _ _ r1.gL r2.gL m1, h.2 _ _ r1.hL r2.hL m2, fun p hp => ?_, fun p hp => ?_⟩
    · exact h.2 _ _ (r1.lx _ (ix_mem (by rw [r1.lL]; exact hp))) (r2.lx _ (ix_mem (by rw [r2.lL]; exact hp))) (m3 p p hp hp rfl)
    · exact h.2 _ _ (r1.rx _ (ix_mem (by rw [r1.rL]; exact hp))) (r2.rx _ (ix_mem (by rw [r2.rL]; exact hp))) (m4 p p hp hp rfl)
  refine ⟨fun f g hf hg e => (step1_iff hf hg).mpr ((flag_iff w hf hg).mpr ⟨c.a f g hf hg e, h.1 f g hf hg e, fun i l hi hl => go f g i i l hf hg hi hi hl e rfl⟩), fun i k hi hk e => (step2_iff hi hk).mpr ((hue_iff w hi hk).mpr ⟨c.b i k hi hk e, h.2 i k hi hk e, fun f l hf hl => go f f i k l hf hf hi hk hl rfl e, fun f j l hf hj hl => ?_⟩)⟩
  obtain ⟨m1, m2, m3, m4⟩ := c.r f f j j l hf hf hj hj hl rfl rfl
  have r1 := w.rok hf hj hl
  refine Prod.ext (h.2 _ _ (r1.lx _ (ix_mem (by rw [r1.lL]; exact hi))) (r1.lx _ (ix_mem (by rw [r1.lL]; exact hk))) (m3 i k hi hk e)) (h.2 _ _ (r1.rx _ (ix_mem (by rw [r1.rL]; exact hi))) (r1.rx _ (ix_mem (by rw [r1.rL]; exact hk))) (m4 i k hi hk e))
theorem crs_x0 {y : Lots} (c : Cov B K y) : Crs B y (x0 B) := ⟨fun f g hf hg e => (cm_iff_ix (l := B.ans) false hf hg).mpr (c.a f g hf hg e), fun h k hh hk e => (cm_iff_ix (l := B.lets) 0 hh hk).mpr (c.b h k hh hk e)⟩
/-- the coarsest one -/
theorem best_is (w : WF B K) {y : Lots} (c : Cov B K y) : ∃ x, fixL (step B) 900 (x0 B) = some x ∧ Nm B x ∧ Crs B y x ∧ step B x = x := by
  refine fix_ends (I := fun x => Crs B y x) (fun x h _ => crs_step w c h) 900 (x0 B) (nm_x0 B) (crs_x0 c) ?_
  have h1 : B.ans.length * B.ans.length ≤ 9 * 9 := Nat.mul_le_mul w.n9 w.n9
  have h2 : B.lets.length * B.lets.length ≤ 9 * 9 := Nat.mul_le_mul w.m9 w.m9
  omega
end
end DL

set_option maxRecDepth 100000
set_option linter.all false
/-! M4: the folded book answers alike. -/
namespace DL
def mxN : List Nat → Nat
  | [] => 0
  | n :: r => r.foldl max n
def leadsOf (l : List Nat) : List Nat := (List.range (mxN l + 1)).map fun v => l.idxOf v
def foldB (B : Bok) (x : Lots) : Bok where
  ans := (leadsOf x.1).map fun f => B.ans.getD f false
  lets := (leadsOf x.2).map fun h => ix B.lets h
  b0 := ix x.1 B.b0
  b1 := ix x.2 B.b1
  rows := (leadsOf x.1).map fun f => (leadsOf x.2).map fun h => (lnAt B f h).map fun r => (ix x.1 r.1, ix x.2 r.2.1, (leadsOf x.2).map (fun i => ix x.2 (ix r.2.2.1 i)), (leadsOf x.2).map (fun i => ix x.2 (ix r.2.2.2 i)))
abbrev Hist := Nat × List (Nat × Nat)
def hop (B : Bok) (s : Nat × List Nat) (c : Nat × Nat) : Nat × List Nat :=
  ((rowAt B s.1 (ix s.2 c.1) c.2).1, (s.2.take c.1).map (ix (rowAt B s.1 (ix s.2 c.1) c.2).2.2.1) ++ [(rowAt B s.1 (ix s.2 c.1) c.2).2.1] ++ (s.2.drop (c.1 + 1)).map (ix (rowAt B s.1 (ix s.2 c.1) c.2).2.2.2))
def runH (B : Bok) (h : Hist) : Nat × List Nat := h.2.foldl (hop B) (B.b0, List.replicate h.1 B.b1)
def ansH (B : Bok) (h : Hist) : Bool := B.ans.getD (runH B h).1 false
structure HiOk (K : Nat) (h : Hist) : Prop where
  p : ∀ c ∈ h.2, c.1 < h.1
  l : ∀ c ∈ h.2, c.2 ≤ K
theorem mxN_ge : ∀ (l : List Nat) (n : Nat), n ≤ l.foldl max n ∧ ∀ v ∈ l, v ≤ l.foldl max n
  | [], n => by simp
  | y :: r, n => by
    obtain ⟨h1, h2⟩ := mxN_ge r (max n y)
    simp only [List.foldl_cons]
    refine ⟨by omega, fun z hz => ?_⟩
    rcases List.mem_cons.mp hz with rfl | hz
    · omega
    · exact h2 z hz
theorem mxN_mem_le : ∀ {l : List Nat} {v : Nat}, v ∈ l → v ≤ mxN l
  | n :: r, v, h => by
    obtain ⟨h1, h2⟩ := mxN_ge r n
    rcases List.mem_cons.mp h with rfl | h
    · exact h1
    · exact h2 v h
theorem foldl_max_in : ∀ (l : List Nat) (n : Nat), l.foldl max n ∈ n :: l
  | [], n => by simp
  | y :: r, n => by
    have h := foldl_max_in r (max n y)
    simp only [List.foldl_cons]
    rcases List.mem_cons.mp h with h | h
    · rw [h]
      rcases Nat.le_total n y with c | c
      · rw [Nat.max_eq_right c]; simp
      · rw [Nat.max_eq_left c]; simp
    · simp [h]
theorem mxN_mem {l : List Nat} (h : l ≠ []) : mxN l ∈ l := by
  cases l with
  | nil => exact absurd rfl h
  | cons n r => exact foldl_max_in r n
theorem leads_len (l : List Nat) : (leadsOf l).length = mxN l + 1 := by simp [leadsOf]
theorem leads_at {l : List Nat} {v : Nat} (h : v ≤ mxN l) : ix (leadsOf l) v = l.idxOf v := by
  unfold ix leadsOf
  exact getD_map_range _ _ (by omega)
theorem idx_ok {l : List Nat} {i : Nat} (h : i < l.length) : l.idxOf (ix l i) < l.length ∧ ix l (l.idxOf (ix l i)) = ix l i := by
  have hm : ix l i ∈ l := ix_mem h
  have h1 := List.idxOf_lt_length_of_mem hm
  refine ⟨h1, ?_⟩
  have := List.getElem_idxOf h1
  show l.getD (l.idxOf (ix l i)) 0 = ix l i
  rw [List.getD_eq_getElem?_getD, List.getElem?_eq_getElem h1]
  exact this
section
variable {B : Bok} {K : Nat} {x : Lots}
theorem rowAt_fold (w : WF B K) (nx : Nm B x) {f h l : Nat} (hf : f < B.ans.length) (hh : h < B.lets.length) (hl : l ≤ K) :
    rowAt (foldB B x) (ix x.1 f) (ix x.2 h) l = (ix x.1 (rowAt B (x.1.idxOf (ix x.1 f)) (x.2.idxOf (ix x.2 h)) l).1, ix x.2 (rowAt B (x.1.idxOf (ix x.1 f)) (x.2.idxOf (ix x.2 h)) l).2.1,
      (leadsOf x.2).map (fun i => ix x.2 (ix (rowAt B (x.1.idxOf (ix x.1 f)) (x.2.idxOf (ix x.2 h)) l).2.2.1 i)), (leadsOf x.2).map (fun i => ix x.2 (ix (rowAt B (x.1.idxOf (ix x.1 f)) (x.2.idxOf (ix x.2 h)) l).2.2.2 i))) := by
  have a1 : ix x.1 f ≤ mxN x.1 := mxN_mem_le (ix_mem (by rw [nx.l1]; exact hf))
  have a2 : ix x.2 h ≤ mxN x.2 := mxN_mem_le (ix_mem (by rw [nx.l2]; exact hh))
  have b1 := idx_ok (l := x.1) (i := f) (by rw [nx.l1]; exact hf)
  have b2 := idx_ok (l := x.2) (i := h) (by rw [nx.l2]; exact hh)
  have e1 : (leadsOf x.1).getD (ix x.1 f) 0 = x.1.idxOf (ix x.1 f) := leads_at a1
  have e2 : (leadsOf x.2).getD (ix x.2 h) 0 = x.2.idxOf (ix x.2 h) := leads_at a2
  unfold rowAt foldB
  dsimp only
  rw [map_getD 0 _ (by rw [leads_len]; omega), map_getD 0 _ (by rw [leads_len]; omega), e1, e2]
  rw [map_getD (0, 0, [], []) _ (by rw [w.lnl (by rw [nx.l1] at b1; exact b1.1) (by rw [nx.l2] at b2; exact b2.1)]; omega)]
  rfl
theorem ans_fold (w : WF B K) (nx : Nm B x) (o : IsOne B K x) {f : Nat} (hf : f < B.ans.length) : (foldB B x).ans.getD (ix x.1 f) false = B.ans.getD f false := by
  have a1 : ix x.1 f ≤ mxN x.1 := mxN_mem_le (ix_mem (by rw [nx.l1]; exact hf))
  have b1 := idx_ok (l := x.1) (i := f) (by rw [nx.l1]; exact hf)
  have e1 : (leadsOf x.1).getD (ix x.1 f) 0 = x.1.idxOf (ix x.1 f) := leads_at a1
  unfold foldB
  dsimp only
  rw [map_getD 0 _ (by rw [leads_len]; omega), e1]
  exact (o _ f (by rw [nx.l1] at b1; exact b1.1) hf b1.2).1
theorem row_fold (w : WF B K) (nx : Nm B x) (o : IsOne B K x) {f h l : Nat} (hf : f < B.ans.length) (hh : h < B.lets.length) (hl : l ≤ K) :
    (rowAt (foldB B x) (ix x.1 f) (ix x.2 h) l).1 = ix x.1 (rowAt B f h l).1 ∧ (rowAt (foldB B x) (ix x.1 f) (ix x.2 h) l).2.1 = ix x.2 (rowAt B f h l).2.1 ∧
      (∀ q, q < B.lets.length → ix (rowAt (foldB B x) (ix x.1 f) (ix x.2 h) l).2.2.1 (ix x.2 q) = ix x.2 (ix (rowAt B f h l).2.2.1 q)) ∧
      ∀ q, q < B.lets.length → ix (rowAt (foldB B x) (ix x.1 f) (ix x.2 h) l).2.2.2 (ix x.2 q) = ix x.2 (ix (rowAt B f h l).2.2.2 q) := by
  rw [rowAt_fold w nx hf hh hl]
  have b1 := idx_ok (l := x.1) (i := f) (by rw [nx.l1]; exact hf)
  have b2 := idx_ok (l := x.2) (i := h) (by rw [nx.l2]; exact hh)
  rw [nx.l1] at b1
  rw [nx.l2] at b2
  obtain ⟨m1, m2, m3, m4⟩ := ((o _ f b1.1 hf b1.2).2 _ h b2.1 hh b2.2).2 l hl
  have side : ∀ (a b : List Nat), (∀ p q, p < B.lets.length → q < B.lets.length → ix x.2 p = ix x.2 q → ix x.2 (ix a p) = ix x.2 (ix b q)) → ∀ q, q < B.lets.length → ix ((leadsOf x.2).map (fun i => ix x.2 (ix a i))) (ix x.2 q) = ix x.2 (ix b q) := by
    intro a b m q hq
    have a2 : ix x.2 q ≤ mxN x.2 := mxN_mem_le (ix_mem (by rw [nx.l2]; exact hq))
    have e2 : (leadsOf x.2).getD (ix x.2 q) 0 = x.2.idxOf (ix x.2 q) := leads_at a2
    have b3 := idx_ok (l := x.2) (i := q) (by rw [nx.l2]; exact hq)
    rw [nx.l2] at b3
    show ((leadsOf x.2).map (fun i => ix x.2 (ix a i))).getD (ix x.2 q) 0 = _
    rw [map_getD 0 _ (by rw [leads_len]; omega), e2]
    exact m _ q b3.1 hq b3.2
  exact ⟨m1, m2, side _ _ m3, side _ _ m4⟩
/-- a state and its fold -/
structure Sim (B : Bok) (x : Lots) (many : Nat) (s t : Nat × List Nat) : Prop where
  f : s.1 < B.ans.length
  h : ∀ v ∈ s.2, v < B.lets.length
  n : s.2.length = many
  e1 : t.1 = ix x.1 s.1
  e2 : t.2 = s.2.map (ix x.2)
theorem ix_map {l : List Nat} {g : Nat → Nat} {p : Nat} (h : p < l.length) : ix (l.map g) p = g (ix l p) := map_getD 0 0 h
theorem sim_hop (w : WF B K) (nx : Nm B x) (o : IsOne B K x) {many : Nat} {s t : Nat × List Nat} (S : Sim B x many s t) {c : Nat × Nat} (hc : c.1 < many) (hl : c.2 ≤ K) : Sim B x many (hop B s c) (hop (foldB B x) t c) := by
  obtain ⟨f, hs⟩ := s
  obtain ⟨f', hs'⟩ := t
  obtain ⟨s1, s2, s3, s4, s5⟩ := S
  dsimp only at s1 s2 s3 s4 s5
  subst s4; subst s5
  have hp : c.1 < hs.length := by omega
  have hh : ix hs c.1 < B.lets.length := s2 _ (ix_mem hp)
  have R := w.rok s1 hh hl
  obtain ⟨r1, r2, r3, r4⟩ := row_fold w nx o s1 hh hl
  have e : ix (hs.map (ix x.2)) c.1 = ix x.2 (ix hs c.1) := ix_map hp
  unfold hop
  dsimp only
  rw [e]
  refine ⟨R.gL, fun v hv => ?_, ?_, r1, ?_⟩
  · rcases List.mem_append.mp hv with hv | hv
    · rcases List.mem_append.mp hv with hv | hv
      · obtain ⟨z, hz, rfl⟩ := List.mem_map.mp hv
        exact R.lx _ (ix_mem (by rw [R.lL]; exact s2 z (List.mem_of_mem_take hz)))
      · rw [List.mem_singleton.mp hv]; exact R.hL
    · obtain ⟨z, hz, rfl⟩ := List.mem_map.mp hv
      exact R.rx _ (ix_mem (by rw [R.rL]; exact s2 z (List.mem_of_mem_drop hz)))
  · simp; omega
  · rw [List.map_append, List.map_append, List.map_map, List.map_map, r2, ← List.map_take, ← List.map_drop, List.map_map, List.map_map]
    dsimp only
    have q1 : (hs.take c.1).map (ix (rowAt (foldB B x) (ix x.1 f) (ix x.2 (ix hs c.1)) c.2).2.2.1 ∘ ix x.2) = (hs.take c.1).map (ix x.2 ∘ ix (rowAt B f (ix hs c.1) c.2).2.2.1) := List.map_congr_left fun z hz => r3 z (s2 z (List.mem_of_mem_take hz))
    have q2 : (hs.drop (c.1 + 1)).map (ix (rowAt (foldB B x) (ix x.1 f) (ix x.2 (ix hs c.1)) c.2).2.2.2 ∘ ix x.2) = (hs.drop (c.1 + 1)).map (ix x.2 ∘ ix (rowAt B f (ix hs c.1) c.2).2.2.2) := List.map_congr_left fun z hz => r4 z (s2 z (List.mem_of_mem_drop hz))
    rw [q1, q2]
    rfl
theorem sim_run (w : WF B K) (nx : Nm B x) (o : IsOne B K x) {many : Nat} : ∀ (cs : List (Nat × Nat)) (s t : Nat × List Nat), Sim B x many s t → (∀ c ∈ cs, c.1 < many) → (∀ c ∈ cs, c.2 ≤ K) → Sim B x many (cs.foldl (hop B) s) (cs.foldl (hop (foldB B x)) t)
  | [], s, t, S, _, _ => S
  | c :: cs, s, t, S, h1, h2 => sim_run w nx o cs _ _ (sim_hop w nx o S (h1 c List.mem_cons_self) (h2 c List.mem_cons_self)) (fun d hd => h1 d (List.mem_cons_of_mem _ hd)) fun d hd => h2 d (List.mem_cons_of_mem _ hd)
theorem ansH_fold (w : WF B K) (nx : Nm B x) (o : IsOne B K x) {h : Hist} (ok : HiOk K h) : ansH (foldB B x) h = ansH B h := by
  have S := sim_run w nx o h.2 (B.b0, List.replicate h.1 B.b1) (ix x.1 B.b0, List.replicate h.1 (ix x.2 B.b1)) ⟨w.c0, fun v hv => by rw [List.eq_of_mem_replicate hv]; exact w.c1, by simp, rfl, by simp⟩ ok.p ok.l
  unfold ansH
  show (foldB B x).ans.getD (h.2.foldl (hop (foldB B x)) (ix x.1 B.b0, List.replicate h.1 (ix x.2 B.b1))).1 false = _
  rw [S.e1]
  exact ans_fold w nx o S.f
end
end DL

set_option maxRecDepth 100000
set_option linter.all false
/-! E1: how denotations are worked out. -/
namespace DL
open PySem PySem.Spec PyProof.Rows L2
abbrev nat (n : Nat) : PyData := .int (n : Int)
def natsT (l : List Nat) : PyData := .tuple (l.map nat)
def natsL (l : List Nat) : PyData := .list (l.map nat)
def rowD (r : Row) : PyData := .tuple [nat r.1, nat r.2.1, natsT r.2.2.1, natsT r.2.2.2]
def lineD (ln : List Row) : PyData := .tuple (ln.map rowD)
def bhD (bh : List (List Row)) : PyData := .tuple (bh.map lineD)
def rowsD (B : Bok) : PyData := .tuple (B.rows.map bhD)
def bookD (B : Bok) : PyData := .tuple [.tuple (B.ans.map .bool), natsT B.lets, .tuple [nat B.b0, nat B.b1], rowsD B]
def lotsD (x : Lots) : PyData := .tuple [natsT x.1, natsT x.2]
/-! plain steps -/
theorem bnd_at {α β : Type} {x : M α} {f : α → M β} {U U' : US} {a : α} (h : x U = some (a, U')) : bnd x f U = f a U' := by unfold bnd; rw [h]
theorem rt_at {α : Type} (a : α) (U : US) : rt a U = some (a, U) := rfl
theorem lf_at {α : Type} (a : α) (U : US) : lf (some a) U = some (a, U) := rfl
theorem eVar_at {i : Nat} {ρ : DEnv} {x : PyData} {U : US} (h : ρ[i]? = some (some (.d x))) : eVar i ρ U = some (x, U) := by unfold eVar; rw [h]
theorem eBor_at {i : Nat} {ρ : DEnv} {x : List PyData} {U : US} (h : ρ[i]? = some (some (.m x))) : eBor i ρ U = some (.list x, U) := by unfold eBor; rw [h]
theorem op1_at {g : PyData → Option PyData} {f : DEnv → M PyData} {ρ : DEnv} {U U' : US} {d e : PyData} (h : f ρ U = some (d, U')) (k : g d = some e) : op1 g f ρ U = some (e, U') := by
  unfold op1; rw [bnd_at h, k]; rfl
theorem op2_at {g : PyData → PyData → Option PyData} {f f2 : DEnv → M PyData} {ρ : DEnv} {U U' U2 : US} {d d2 e : PyData} (h : f ρ U = some (d, U')) (h2 : f2 ρ U' = some (d2, U2)) (k : g d d2 = some e) : op2 g f f2 ρ U = some (e, U2) := by
  unfold op2; rw [bnd_at h, bnd_at h2, k]; rfl
theorem atI_nat {α : Type} (xs : List α) (i : Nat) : atI xs (i : Int) = xs[i]? := by
  unfold atI ixN
  rw [if_pos (by omega)]
  by_cases h : i < xs.length
  · rw [if_pos (by omega)]; simp
  · rw [if_neg (by omega), List.getElem?_eq_none (by omega)]; rfl
theorem gIx_t (xs : List PyData) (i : Nat) : gIx (.tuple xs) (nat i) = xs[i]? := atI_nat xs i
theorem gIx_l (xs : List PyData) (i : Nat) : gIx (.list xs) (nat i) = xs[i]? := atI_nat xs i
theorem gIx_nats {l : List Nat} {i : Nat} (h : i < l.length) : gIx (natsT l) (nat i) = some (nat (ix l i)) := by
  unfold natsT
  rw [gIx_t, List.getElem?_map]
  unfold ix
  rw [List.getD_eq_getElem?_getD, List.getElem?_eq_getElem h]; rfl
theorem aCons_at {f : DEnv → M PyData} {g : DEnv → M (List Sl)} {ρ : DEnv} {U U' U2 : US} {d : PyData} {r : List Sl} (h : f ρ U = some (d, U')) (h2 : g ρ U' = some (r, U2)) : aCons f g ρ U = some (.d d :: r, U2) := by
  unfold aCons; rw [bnd_at h, bnd_at h2]; rfl
theorem aNil_at (ρ : DEnv) (U : US) : aNil ρ U = some ([], U) := rfl
theorem toDs_map : ∀ ds : List PyData, toDs (ds.map Sl.d) = some ds
  | [] => rfl
  | d :: ds => by simp [toDs, toDs_map ds]
theorem eTup_at {g : DEnv → M (List Sl)} {ρ : DEnv} {U U' : US} {ds : List PyData} (h : g ρ U = some (ds.map Sl.d, U')) (hl : ds.length ≤ lim) : eTup g ρ U = some (.tuple ds, U') := by
  unfold eTup dsOf
  rw [bnd_at h, List.length_map, if_pos hl, toDs_map]; rfl
theorem eLst_at {g : DEnv → M (List Sl)} {ρ : DEnv} {U U' : US} {ds : List PyData} (h : g ρ U = some (ds.map Sl.d, U')) (hl : ds.length ≤ lim) : eLst g ρ U = some (.list ds, U') := by
  unfold eLst dsOf
  rw [bnd_at h, List.length_map, if_pos hl, toDs_map]; rfl
/-- a comprehension over plain items -/
theorem lcGo_map {asg : Im → DEnv → Option DEnv} {g : DEnv → M PyData} {ρ : DEnv} {U : US} {α : Type} (h : α → PyData) (m : α → Im) : ∀ (xs : List α), (∀ x ∈ xs, ∃ ρ1, asg (m x) ρ = some ρ1 ∧ g ρ1 U = some (h x, U)) → lcGo asg yes g ρ (xs.map m) U = some (xs.map h, U)
  | [], _ => rfl
  | x :: xs, q => by
    obtain ⟨ρ1, h1, h2⟩ := q x List.mem_cons_self
    rw [List.map_cons]
    unfold lcGo
    rw [h1, bnd_at (lf_at ρ1 U), bnd_at (show yes ρ1 U = some (true, U) from rfl), if_pos rfl, bnd_at h2, bnd_at (lcGo_map h m xs fun y hy => q y (List.mem_cons_of_mem _ hy))]
    rfl
theorem eLc_map {f : DEnv → M (List Im)} {own : List Nat} {asg : Im → DEnv → Option DEnv} {g : DEnv → M PyData} {ρ : DEnv} {U : US} {α : Type} {xs : List α} (h : α → PyData) (m : α → Im) (hf : f ρ U = some (xs.map m, U)) (hl : xs.length ≤ lim)
    (q : ∀ x ∈ xs, ∃ ρ1, asg (m x) (wipeD ρ own) = some ρ1 ∧ g ρ1 U = some (h x, U)) : eLc f own asg yes g ρ U = some (.list (xs.map h), U) := by
  unfold eLc
  rw [bnd_at hf, if_pos (by simpa using hl), bnd_at (lcGo_map h m xs q)]; rfl
theorem fSeq_t {f : DEnv → M PyData} {ρ : DEnv} {U U' : US} {α : Type} {xs : List α} {e : α → PyData} (h : f ρ U = some (.tuple (xs.map e), U')) : fSeq f ρ U = some (xs.map (fun x => Im.one (e x)), U') := by
  unfold fSeq; rw [bnd_at h]
  show bnd (lf (some (xs.map e))) _ U' = _
  rw [bnd_at (lf_at _ _), List.map_map]; rfl
theorem fSeq_l {f : DEnv → M PyData} {ρ : DEnv} {U U' : US} {α : Type} {xs : List α} {e : α → PyData} (h : f ρ U = some (.list (xs.map e), U')) : fSeq f ρ U = some (xs.map (fun x => Im.one (e x)), U') := by
  unfold fSeq; rw [bnd_at h]
  show bnd (lf (some (xs.map e))) _ U' = _
  rw [bnd_at (lf_at _ _), List.map_map]; rfl
/-- .. over a tuple -/
theorem eLc_t {f : DEnv → M PyData} {i : Nat} {g : DEnv → M PyData} {ρ : DEnv} {U : US} {α : Type} {xs : List α} {e : α → PyData} (h : α → PyData) (hf : f ρ U = some (.tuple (xs.map e), U)) (hl : xs.length ≤ lim) (q : ∀ x ∈ xs, g ((wipeD ρ [i]).set i (some (.d (e x)))) U = some (h x, U)) :
    eLc (fSeq f) [i] (aName i) yes g ρ U = some (.list (xs.map h), U) :=
  eLc_map h (fun x => Im.one (e x)) (fSeq_t hf) hl fun x hx => ⟨_, rfl, q x hx⟩
/-! statements -/
theorem sSeq_at {s t : DEnv → M Out} {ρ ρ' : DEnv} {U U' : US} (h : s ρ U = some (.nx ρ', U')) : sSeq s t ρ U = t ρ' U' := by unfold sSeq; rw [bnd_at h]
theorem sRet_at {f : DEnv → M PyData} {ρ : DEnv} {U U' : US} {d : PyData} (h : f ρ U = some (d, U')) : sRet f ρ U = some (.rt d, U') := by unfold sRet; rw [bnd_at h]; rfl
theorem sSet_at {i : Nat} {f : DEnv → M PyData} {ρ : DEnv} {U U' : US} {d : PyData} (h : f ρ U = some (d, U')) : sSet i f ρ U = some (.nx (ρ.set i (some (.d d))), U') := by unfold sSet; rw [bnd_at h]; rfl
theorem sNew_at {i : Nat} {f : DEnv → M PyData} {ρ : DEnv} {U U' : US} {xs : List PyData} (h : f ρ U = some (.list xs, U')) : sNew i f ρ U = some (.nx (ρ.set i (some (.m xs))), U') := by unfold sNew; rw [bnd_at h]; rfl
theorem sUnp_at {asg : Im → DEnv → Option DEnv} {f : DEnv → M PyData} {ρ ρ' : DEnv} {U U' : US} {d : PyData} (h : f ρ U = some (d, U')) (k : asg (.one d) ρ = some ρ') : sUnp asg f ρ U = some (.nx ρ', U') := by unfold sUnp; rw [bnd_at h, k]; rfl
theorem fnD_rt {n : Nat} {S : DEnv → M Out} {ss : List Sl} {U U' : US} {d : PyData} (h : S (ent n ss) U = some (.rt d, U')) : fnD n S ss U = some (d, U') := by unfold fnD; rw [bnd_at h]; rfl
theorem eCall_at {n : Nat} {F : List Sl → M PyData} {g : DEnv → M (List Sl)} {ρ : DEnv} {U U' : US} {ss : List Sl} {r : Option (PyData × US)} (h : g ρ U = some (ss, U')) (hl : ss.length = n ∧ noM ss = true) (k : F ss U' = r) : eCall n F g ρ U = r := by
  unfold eCall; rw [bnd_at h, if_pos hl]; exact k
/-! row_by -/
theorem F_row_by_eq {r : Row} {x : Lots} (U : US) (h1 : r.1 < x.1.length) (h2 : r.2.1 < x.2.length) (h3 : ∀ v ∈ r.2.2.1, v < x.2.length) (h4 : ∀ v ∈ r.2.2.2, v < x.2.length) (l3 : r.2.2.1.length ≤ lim) (l4 : r.2.2.2.length ≤ lim) :
    F_row_by [.d (rowD r), .d (natsT x.1), .d (natsT x.2)] U = some (rowD (byLot x r), U) := by
  refine fnD_rt ?_
  unfold S_row_by
  rw [sSeq_at (sUnp_at (eVar_at rfl) rfl)]
  refine sRet_at (eTup_at (ds := [nat (ix x.1 r.1), nat (ix x.2 r.2.1), natsT (r.2.2.1.map (ix x.2)), natsT (r.2.2.2.map (ix x.2))]) ?_ (by simp [lim]))
  refine aCons_at (op2_at (eVar_at rfl) (eVar_at rfl) (gIx_nats h1)) (aCons_at (op2_at (eVar_at rfl) (eVar_at rfl) (gIx_nats h2)) (aCons_at (op1_at (eLc_t (xs := r.2.2.1) (e := nat) (fun v => nat (ix x.2 v)) (eVar_at rfl) l3 fun v hv => op2_at (eVar_at rfl) (eVar_at rfl) (gIx_nats (h3 v hv))) ?_)
    (aCons_at (op1_at (eLc_t (xs := r.2.2.2) (e := nat) (fun v => nat (ix x.2 v)) (eVar_at rfl) l4 fun v hv => op2_at (eVar_at rfl) (eVar_at rfl) (gIx_nats (h4 v hv))) ?_) (aNil_at _ _))))
  · show some (PyData.tuple (r.2.2.1.map fun v => nat (ix x.2 v))) = _
    unfold natsT; rw [List.map_map]; rfl
  · show some (PyData.tuple (r.2.2.2.map fun v => nat (ix x.2 v))) = _
    unfold natsT; rw [List.map_map]; rfl
end DL

set_option maxRecDepth 100000
set_option linter.all false
/-! E2: keys and equality of encoded things; as_they_come. -/
namespace DL
open PySem PySem.Spec PyProof.Rows L2
/-! keys -/
structure KI {α : Type} (e : α → PyData) (n : Nat) : Prop where
  ex : ∃ κ : α → NestedKey, (∀ a, keyOf (e a) = some (κ a)) ∧ (∀ a b, κ a = κ b → a = b) ∧ ∀ a, (κ a).depth ≤ n
theorem ki_nat (n : Nat) : KI nat n := ⟨⟨fun i => .num i, fun _ => rfl, fun a b h => by simp at h; omega, fun a => by simp [NestedKey.depth]⟩⟩
theorem ki_bool (n : Nat) : KI PyData.bool n := ⟨⟨fun b => .num (if b = true then 1 else 0), fun _ => rfl, fun a b h => by revert h; cases a <;> cases b <;> simp, fun a => by simp [NestedKey.depth]⟩⟩
theorem keysOf_map {α : Type} {e : α → PyData} {κ : α → NestedKey} (h : ∀ a, keyOf (e a) = some (κ a)) : ∀ l : List α, keysOf (l.map e) = some (l.map κ)
  | [] => rfl
  | a :: l => by simp [keysOf, h a, keysOf_map h l]
theorem map_inj_of {α β : Type} {f : α → β} (h : ∀ a b, f a = f b → a = b) : ∀ {l m : List α}, l.map f = m.map f → l = m
  | [], [], _ => rfl
  | [], _ :: _, h' => by simp at h'
  | _ :: _, [], h' => by simp at h'
  | a :: l, b :: m, h' => by
    simp only [List.map_cons, List.cons.injEq] at h'
    rw [h a b h'.1, map_inj_of h h'.2]
theorem depthAll_le {n : Nat} : ∀ {ks : List NestedKey}, (∀ k ∈ ks, k.depth ≤ n) → NestedKey.depthAll ks ≤ n
  | [], _ => by simp [NestedKey.depthAll]
  | k :: ks, h => by
    have := h k List.mem_cons_self
    have := depthAll_le (ks := ks) fun k hk => h k (List.mem_cons_of_mem _ hk)
    simp only [NestedKey.depthAll]; omega
theorem ki_list {α : Type} {e : α → PyData} {n : Nat} (h : KI e n) : KI (fun l : List α => .tuple (l.map e)) (n + 1) := by
  obtain ⟨κ, h1, h2, h3⟩ := h
  refine ⟨fun l => .tup (l.map κ), fun l => by simp [keyOf, keysOf_map h1], fun a b q => map_inj_of h2 (by simpa using q), fun l => ?_⟩
  have := depthAll_le (n := n) (ks := l.map κ) fun k hk => by
    obtain ⟨a, _, rfl⟩ := List.mem_map.mp hk
    exact h3 a
  simp only [NestedKey.depth]; omega
theorem ki_2 {α β : Type} {e : α → PyData} {f : β → PyData} {n : Nat} (h : KI e n) (k : KI f n) : KI (fun p : α × β => .tuple [e p.1, f p.2]) (n + 1) := by
  obtain ⟨κ, h1, h2, h3⟩ := h
  obtain ⟨μ, k1, k2, k3⟩ := k
  refine ⟨fun p => .tup [κ p.1, μ p.2], fun p => by simp [keyOf, keysOf, h1, k1], fun a b q => ?_, fun p => ?_⟩
  · simp at q
    exact Prod.ext (h2 _ _ q.1) (k2 _ _ q.2)
  · have := h3 p.1
    have := k3 p.2
    simp only [NestedKey.depth, NestedKey.depthAll]; omega
theorem ki_3 {α β γ : Type} {e : α → PyData} {f : β → PyData} {g : γ → PyData} {n : Nat} (h : KI e n) (k : KI f n) (l : KI g n) : KI (fun p : α × β × γ => .tuple [e p.1, f p.2.1, g p.2.2]) (n + 1) := by
  obtain ⟨κ, h1, h2, h3⟩ := h
  obtain ⟨μ, k1, k2, k3⟩ := k
  obtain ⟨ν, l1, l2, l3⟩ := l
  refine ⟨fun p => .tup [κ p.1, μ p.2.1, ν p.2.2], fun p => by simp [keyOf, keysOf, h1, k1, l1], fun a b q => ?_, fun p => ?_⟩
  · simp at q
    exact Prod.ext (h2 _ _ q.1) (Prod.ext (k2 _ _ q.2.1) (l2 _ _ q.2.2))
  · have := h3 p.1
    have := k3 p.2.1
    have := l3 p.2.2
    simp only [NestedKey.depth, NestedKey.depthAll]; omega
theorem ki_4 {α β γ δ : Type} {e : α → PyData} {f : β → PyData} {g : γ → PyData} {d : δ → PyData} {n : Nat} (h : KI e n) (k : KI f n) (l : KI g n) (m : KI d n) : KI (fun p : α × β × γ × δ => .tuple [e p.1, f p.2.1, g p.2.2.1, d p.2.2.2]) (n + 1) := by
  obtain ⟨κ, h1, h2, h3⟩ := h
  obtain ⟨μ, k1, k2, k3⟩ := k
  obtain ⟨ν, l1, l2, l3⟩ := l
  obtain ⟨ξ, m1, m2, m3⟩ := m
  refine ⟨fun p => .tup [κ p.1, μ p.2.1, ν p.2.2.1, ξ p.2.2.2], fun p => by simp [keyOf, keysOf, h1, k1, l1, m1], fun a b q => ?_, fun p => ?_⟩
  · simp at q
    exact Prod.ext (h2 _ _ q.1) (Prod.ext (k2 _ _ q.2.1) (Prod.ext (l2 _ _ q.2.2.1) (m2 _ _ q.2.2.2)))
  · have := h3 p.1
    have := k3 p.2.1
    have := l3 p.2.2.1
    have := m3 p.2.2.2
    simp only [NestedKey.depth, NestedKey.depthAll]; omega
/-! as_they_come's labels -/
theorem idxK_idxOf {k : NestedKey} : ∀ l : List NestedKey, idxK k l = if k ∈ l then some (l.idxOf k) else none
  | [] => by simp [idxK]
  | x :: l => by
    unfold idxK
    by_cases c : x = k
    · rw [if_pos c]; simp [c]
    · rw [if_neg c, idxK_idxOf l]
      have c' : ¬ k = x := fun e => c e.symm
      have c2 : (x == k) = false := by simpa using c
      by_cases m : k ∈ l
      · rw [if_pos m, if_pos (by simp [m])]; simp [List.idxOf_cons, c2]
      · rw [if_neg m, if_neg (by simp [m, c'])]; rfl
theorem comeK_go : ∀ (ks : List NestedKey) (p : List NestedKey × List Nat), (ks.foldl comeStep p).1 = repsA (fun a b => decide (a = b)) ks p.1 ∧ (ks.foldl comeStep p).2 = p.2 ++ ks.map fun k => (repsA (fun a b => decide (a = b)) ks p.1).idxOf k
  | [], p => by simp [repsA]
  | k :: ks, p => by
    have any_mem : p.1.any (fun y => decide (y = k)) = true ↔ k ∈ p.1 := by simp
    have stable : ∀ (xs q : List NestedKey), k ∈ q → (repsA (fun a b => decide (a = b)) xs q).idxOf k = q.idxOf k := by
      intro xs
      induction xs with
      | nil => intro q _; rfl
      | cons z xs ih =>
        intro q hq
        show (repsA _ xs (if q.any (fun y => decide (y = z)) then q else q ++ [z])).idxOf k = _
        split
        · exact ih q hq
        · rw [ih _ (by simp [hq]), List.idxOf_append, if_pos hq]
    by_cases m : k ∈ p.1
    · have e : comeStep p k = (p.1, p.2 ++ [p.1.idxOf k]) := comeStep_some (by rw [idxK_idxOf, if_pos m])
      have er : repsA (fun a b => decide (a = b)) (k :: ks) p.1 = repsA (fun a b => decide (a = b)) ks p.1 := by
        show repsA _ ks (if p.1.any (fun y => decide (y = k)) then p.1 else p.1 ++ [k]) = _
        rw [if_pos (any_mem.mpr m)]
      obtain ⟨h1, h2⟩ := comeK_go ks (p.1, p.2 ++ [p.1.idxOf k])
      rw [List.foldl_cons, e, er]
      refine ⟨h1, ?_⟩
      rw [h2, List.map_cons, stable ks p.1 m]
      simp
    · have e : comeStep p k = (p.1 ++ [k], p.2 ++ [p.1.length]) := comeStep_none (by rw [idxK_idxOf, if_neg m])
      have er : repsA (fun a b => decide (a = b)) (k :: ks) p.1 = repsA (fun a b => decide (a = b)) ks (p.1 ++ [k]) := by
        show repsA _ ks (if p.1.any (fun y => decide (y = k)) then p.1 else p.1 ++ [k]) = _
        rw [if_neg (fun c => m (any_mem.mp c))]
      obtain ⟨h1, h2⟩ := comeK_go ks (p.1 ++ [k], p.2 ++ [p.1.length])
      rw [List.foldl_cons, e, er]
      refine ⟨h1, ?_⟩
      rw [h2, List.map_cons, stable ks (p.1 ++ [k]) (by simp), List.idxOf_append, if_neg m]
      simp
theorem comeK_cm (ks : List NestedKey) : comeK ks = cm ks := by
  unfold comeK
  rw [(comeK_go ks ([], [])).2, cm_eq]
  rfl
theorem come_enc {α : Type} [DecidableEq α] {κ : α → NestedKey} (h : ∀ a b, κ a = κ b → a = b) (l : List α) : comeK (l.map κ) = cm l := by
  rw [comeK_cm]
  have := cm_pat (f := κ) (g := id) (xs := l) fun a _ b _ => ⟨h a b, fun e => by rw [show a = b from e]⟩
  rw [this, List.map_id]
theorem F_atc_T {α : Type} [DecidableEq α] {e : α → PyData} (k : KI e 8) (ht : ∀ a, isTupD (e a) = true) {l : List α} (hl : l.length < lim) {d : PyData} (hd : seqOf d = some (l.map e)) (U : US) : F_as_they_come [.d d] U = some (natsT (cm l), U) := by
  obtain ⟨κ, h1, h2, h3⟩ := k
  have c1 : (l.map e).all isTupD = true := List.all_eq_true.mpr fun x hx => by
    obtain ⟨a, _, rfl⟩ := List.mem_map.mp hx
    exact ht a
  have c2 : (l.map κ).all (fun k => decide (k.depth ≤ 8)) = true := List.all_eq_true.mpr fun x hx => by
    obtain ⟨a, _, rfl⟩ := List.mem_map.mp hx
    simpa using h3 a
  have c3 : (l.map e).length < lim := by simpa using hl
  unfold F_as_they_come
  simp only [hd, keysOf_map h1]
  rw [if_pos ⟨c3, Or.inr ⟨c1, c2⟩⟩]
  rw [come_enc h2]
  unfold natsT
  simp
theorem F_atc_L {α : Type} [DecidableEq α] {e : α → PyData} {n : Nat} (k : KI e n) (ht : ∀ a, isLfD (e a) = true) {l : List α} (hl : l.length < lim) {d : PyData} (hd : seqOf d = some (l.map e)) (U : US) : F_as_they_come [.d d] U = some (natsT (cm l), U) := by
  obtain ⟨κ, h1, h2, h3⟩ := k
  have c1 : (l.map e).all isLfD = true := List.all_eq_true.mpr fun x hx => by
    obtain ⟨a, _, rfl⟩ := List.mem_map.mp hx
    exact ht a
  have c3 : (l.map e).length < lim := by simpa using hl
  unfold F_as_they_come
  simp only [hd, keysOf_map h1]
  rw [if_pos ⟨c3, Or.inl c1⟩]
  rw [come_enc h2]
  unfold natsT
  simp
/-! equality -/
structure EI {α : Type} (e : α → PyData) (n : Nat) : Prop where
  eq : ∀ a b, PyData.eqv (e a) (e b) = true ↔ a = b
  lay : ∀ a, (e a).canLay0 = true
  dep : ∀ a, (e a).depth ≤ n
theorem ei_nat (n : Nat) : EI nat n := ⟨fun a b => by simp only [PyData.eqv, beq_iff_eq]; omega, fun a => by simp [PyData.canLay0], fun a => by simp [PyData.depth]⟩
theorem ei_bool (n : Nat) : EI PyData.bool n := ⟨fun a b => by simp [PyData.eqv], fun a => by simp [PyData.canLay0], fun a => by simp [PyData.depth]⟩
theorem layAll_map {α : Type} {e : α → PyData} (h : ∀ a, (e a).canLay0 = true) : ∀ l : List α, PyData.canLayAll0 (l.map e) = true
  | [] => by simp [PyData.canLayAll0]
  | a :: l => by simp [PyData.canLayAll0, h a, layAll_map h l]
theorem depAll_map {α : Type} {e : α → PyData} {n : Nat} (h : ∀ a, (e a).depth ≤ n) : ∀ l : List α, PyData.depthAll (l.map e) ≤ n
  | [] => by simp [PyData.depthAll]
  | a :: l => by have := h a; have := depAll_map h l; simp only [List.map_cons, PyData.depthAll]; omega
theorem eqvAll_map {α : Type} {e : α → PyData} (h : ∀ a b, PyData.eqv (e a) (e b) = true ↔ a = b) : ∀ l m : List α, PyData.eqvAll (l.map e) (m.map e) = true ↔ l = m
  | [], [] => by simp [PyData.eqvAll]
  | [], _ :: _ => by simp [PyData.eqvAll]
  | _ :: _, [] => by simp [PyData.eqvAll]
  | a :: l, b :: m => by simp [PyData.eqvAll, h a b, eqvAll_map h l m]
theorem ei_tup {α : Type} {e : α → PyData} {n : Nat} (h : EI e n) : EI (fun l : List α => .tuple (l.map e)) (n + 1) where
  eq := fun a b => by rw [show PyData.eqv (.tuple (a.map e)) (.tuple (b.map e)) = PyData.eqvAll (a.map e) (b.map e) from by simp [PyData.eqv], eqvAll_map h.eq]
  lay := fun l => by simp [PyData.canLay0, layAll_map h.lay]
  dep := fun l => by have := depAll_map h.dep l; simp only [PyData.depth]; omega
theorem ei_lst {α : Type} {e : α → PyData} {n : Nat} (h : EI e n) : EI (fun l : List α => .list (l.map e)) (n + 1) where
  eq := fun a b => by rw [show PyData.eqv (.list (a.map e)) (.list (b.map e)) = PyData.eqvAll (a.map e) (b.map e) from by simp [PyData.eqv], eqvAll_map h.eq]
  lay := fun l => by simp [PyData.canLay0, layAll_map h.lay]
  dep := fun l => by have := depAll_map h.dep l; simp only [PyData.depth]; omega
theorem ei_2 {α β : Type} {e : α → PyData} {f : β → PyData} {n : Nat} (h : EI e n) (k : EI f n) : EI (fun p : α × β => .tuple [e p.1, f p.2]) (n + 1) where
  eq := fun a b => by simp [PyData.eqv, PyData.eqvAll, h.eq, k.eq, Prod.ext_iff]
  lay := fun p => by simp [PyData.canLay0, PyData.canLayAll0, h.lay, k.lay]
  dep := fun p => by have := h.dep p.1; have := k.dep p.2; simp only [PyData.depth, PyData.depthAll]; omega
theorem ei_3 {α β γ : Type} {e : α → PyData} {f : β → PyData} {g : γ → PyData} {n : Nat} (h : EI e n) (k : EI f n) (l : EI g n) : EI (fun p : α × β × γ => .tuple [e p.1, f p.2.1, g p.2.2]) (n + 1) where
  eq := fun a b => by simp [PyData.eqv, PyData.eqvAll, h.eq, k.eq, l.eq, Prod.ext_iff]
  lay := fun p => by simp [PyData.canLay0, PyData.canLayAll0, h.lay, k.lay, l.lay]
  dep := fun p => by have := h.dep p.1; have := k.dep p.2.1; have := l.dep p.2.2; simp only [PyData.depth, PyData.depthAll]; omega
theorem ei_4 {α β γ δ : Type} {e : α → PyData} {f : β → PyData} {g : γ → PyData} {d : δ → PyData} {n : Nat} (h : EI e n) (k : EI f n) (l : EI g n) (m : EI d n) : EI (fun p : α × β × γ × δ => .tuple [e p.1, f p.2.1, g p.2.2.1, d p.2.2.2]) (n + 1) where
  eq := fun a b => by simp [PyData.eqv, PyData.eqvAll, h.eq, k.eq, l.eq, m.eq, Prod.ext_iff]
  lay := fun p => by simp [PyData.canLay0, PyData.canLayAll0, h.lay, k.lay, l.lay, m.lay]
  dep := fun p => by have := h.dep p.1; have := k.dep p.2.1; have := l.dep p.2.2.1; have := m.dep p.2.2.2; simp only [PyData.depth, PyData.depthAll]; omega
theorem EI.shp {α : Type} {e : α → PyData} {n : Nat} (h : EI e n) (hn : n ≤ 64) (a : α) : SeqAt.shaped (e a) = true := by
  unfold SeqAt.shaped
  rw [h.lay a]
  have := h.dep a
  simp; omega
theorem EI.dec {α : Type} [DecidableEq α] {e : α → PyData} {n : Nat} (h : EI e n) (a b : α) : PyData.eqv (e a) (e b) = decide (a = b) := by
  rw [Bool.eq_iff_iff, h.eq, decide_eq_true_eq]
theorem EI.geq {α : Type} [DecidableEq α] {e : α → PyData} {n : Nat} (h : EI e n) (hn : n ≤ 64) (a b : α) : gEq (e a) (e b) = some (.bool (decide (a = b))) := by
  unfold gEq
  rw [if_pos ⟨h.shp hn a, h.shp hn b⟩, h.dec]
theorem EI.gne {α : Type} [DecidableEq α] {e : α → PyData} {n : Nat} (h : EI e n) (hn : n ≤ 64) (a b : α) : gNe (e a) (e b) = some (.bool (decide (a ≠ b))) := by
  unfold gNe
  rw [if_pos ⟨h.shp hn a, h.shp hn b⟩, h.dec]
  by_cases c : a = b <;> simp [c]
end DL

set_option maxRecDepth 100000
set_option linter.all false
/-! E3: loops; flag_names, hue_names, finer. -/
namespace DL
open PySem PySem.Spec PyProof.Rows L2
theorem forGo_nx {asg : Im → DEnv → Option DEnv} {b : DEnv → M Out} {U : US} {α : Type} (m : α → Im) (I : Nat → DEnv → Prop) : ∀ (xs : List α) (k : Nat) (ρ : DEnv), I k ρ →
    (∀ i x ρ, xs[i]? = some x → I (k + i) ρ → ∃ ρ1, asg (m x) ρ = some ρ1 ∧ ∃ ρ2, b ρ1 U = some (.nx ρ2, U) ∧ I (k + i + 1) ρ2) → ∃ ρ', forGo asg b (xs.map m) ρ U = some (.nx ρ', U) ∧ I (k + xs.length) ρ'
  | [], k, ρ, h, _ => ⟨ρ, rfl, h⟩
  | x :: xs, k, ρ, h, q => by
    obtain ⟨ρ1, h1, ρ2, h2, h3⟩ := q 0 x ρ rfl h
    obtain ⟨ρ', g1, g2⟩ := forGo_nx m I xs (k + 1) ρ2 h3 fun i y ρ hy hi => by
      have e : k + 1 + i = k + (i + 1) := by omega
      rw [e] at hi ⊢
      exact q (i + 1) y ρ (by simpa using hy) hi
    refine ⟨ρ', ?_, by rw [List.length_cons, show k + (xs.length + 1) = k + 1 + xs.length by omega]; exact g2⟩
    rw [List.map_cons]
    unfold forGo
    rw [h1, bnd_at (lf_at ρ1 U), bnd_at h2]
    exact g1
theorem sFor_nx {f : DEnv → M (List Im)} {asg : Im → DEnv → Option DEnv} {b : DEnv → M Out} {ρ : DEnv} {U : US} {α : Type} {xs : List α} (m : α → Im) (I : Nat → DEnv → Prop) (hf : f ρ U = some (xs.map m, U)) (h0 : I 0 ρ)
    (q : ∀ i x ρ, xs[i]? = some x → I i ρ → ∃ ρ1, asg (m x) ρ = some ρ1 ∧ ∃ ρ2, b ρ1 U = some (.nx ρ2, U) ∧ I (i + 1) ρ2) : ∃ ρ', sFor f asg b ρ U = some (.nx ρ', U) ∧ I xs.length ρ' := by
  obtain ⟨ρ', g1, g2⟩ := forGo_nx (asg := asg) (b := b) (U := U) m I xs 0 ρ h0 fun i x ρ hx hi => by
    rw [Nat.zero_add] at hi ⊢
    exact q i x ρ hx hi
  rw [Nat.zero_add] at g2
  refine ⟨ρ', ?_, g2⟩
  unfold sFor
  rw [bnd_at hf]; exact g1
theorem enumIm_zip {α : Type} {e : α → PyData} : ∀ (xs : List α) (k : Nat), enumIm k (xs.map e) = (xs.zipIdx k).map fun p => Im.many [nat p.2, e p.1]
  | [], k => rfl
  | x :: xs, k => by simp [enumIm, List.zipIdx_cons, enumIm_zip xs (k + 1)]
theorem fEnum_t {f : DEnv → M PyData} {ρ : DEnv} {U U' : US} {α : Type} {xs : List α} {e : α → PyData} {d : PyData} (h : f ρ U = some (d, U')) (hd : seqOf d = some (xs.map e)) : fEnum f ρ U = some ((xs.zipIdx).map fun p => Im.many [nat p.2, e p.1], U') := by
  unfold fEnum
  rw [bnd_at h, hd, bnd_at (lf_at _ _), enumIm_zip]; rfl
theorem zipIdx_get {α : Type} {xs : List α} {i : Nat} {p : α × Nat} (h : (xs.zipIdx)[i]? = some p) : xs[i]? = some p.1 ∧ p.2 = i := by
  rw [List.getElem?_zipIdx] at h
  obtain ⟨a, h1, h2⟩ := Option.map_eq_some_iff.mp h
  subst h2
  exact ⟨h1, by simp⟩
theorem sApp_at {i : Nat} {f : DEnv → M PyData} {ρ : DEnv} {U U' : US} {d : PyData} {xs : List PyData} (h : f ρ U = some (d, U')) (hi : ρ[i]? = some (some (.m xs))) (hl : xs.length < lim) : sApp i f ρ U = some (.nx (ρ.set i (some (.m (xs ++ [d])))), U') := by
  unfold sApp; rw [bnd_at h]; simp only [hi]; rw [if_pos hl]
theorem sExt_at {i : Nat} {f : DEnv → M PyData} {ρ : DEnv} {U U' : US} {xs ys : List PyData} (h : f ρ U = some (.list ys, U')) (hi : ρ[i]? = some (some (.m xs))) (hl : xs.length + ys.length ≤ lim) : sExt i f ρ U = some (.nx (ρ.set i (some (.m (xs ++ ys)))), U') := by
  unfold sExt; rw [bnd_at h]; simp only [hi]; rw [if_pos hl]
theorem sFrz_at {i : Nat} {s : DEnv → M Out} {ρ : DEnv} {U : US} {xs : List PyData} (hi : ρ[i]? = some (some (.m xs))) : sFrz i s ρ U = s (ρ.set i (some (.d (.list xs)))) U := by
  unfold sFrz; simp only [hi]
theorem sPar_at {is : List Nat} {g : DEnv → M (List Sl)} {ρ ρ' : DEnv} {U U' : US} {ss : List Sl} (h : g ρ U = some (ss, U')) (k : setSl is ss ρ = some ρ') : sPar is g ρ U = some (.nx ρ', U') := by
  unfold sPar; rw [bnd_at h, k]; rfl
theorem aConsN_at {f : DEnv → M PyData} {g : DEnv → M (List Sl)} {ρ : DEnv} {U U' U2 : US} {xs : List PyData} {r : List Sl} (h : f ρ U = some (.list xs, U')) (h2 : g ρ U' = some (r, U2)) : aConsN f g ρ U = some (.m xs :: r, U2) := by
  unfold aConsN; rw [bnd_at h]; show bnd (g ρ) _ U' = _; rw [bnd_at h2]; rfl
theorem nil_at (ρ : DEnv) (U : US) : eLst aNil ρ U = some (.list [], U) := rfl
theorem take_map_succ {α β : Type} {xs : List α} {f : α → β} {i : Nat} {x : α} (h : xs[i]? = some x) : (xs.take (i + 1)).map f = (xs.take i).map f ++ [f x] := by rw [take_succ_get h, List.map_append]; rfl
theorem range_map_succ {β : Type} (f : Nat → β) (i : Nat) : (List.range (i + 1)).map f = (List.range i).map f ++ [f i] := by rw [List.range_succ, List.map_append]; rfl
theorem seqE {s t : DEnv → M Out} {ρ ρ' : DEnv} {U U' : US} {r : Option (Out × US)} (h : s ρ U = some (.nx ρ', U')) (k : t ρ' U' = r) : sSeq s t ρ U = r := by rw [sSeq_at h, k]
theorem seqX {s t : DEnv → M Out} {ρ ρ' : DEnv} {U U' U2 : US} {Q : DEnv → Prop} (h : s ρ U = some (.nx ρ', U')) (k : ∃ ρ2, t ρ' U' = some (.nx ρ2, U2) ∧ Q ρ2) : ∃ ρ2, sSeq s t ρ U = some (.nx ρ2, U2) ∧ Q ρ2 := by rw [sSeq_at h]; exact k
theorem frzE {i : Nat} {s : DEnv → M Out} {ρ : DEnv} {U : US} {xs : List PyData} {r : Option (Out × US)} (hi : ρ[i]? = some (some (.m xs))) (k : s (ρ.set i (some (.d (.list xs)))) U = r) : sFrz i s ρ U = r := by rw [sFrz_at hi, k]
theorem frzX {i : Nat} {s : DEnv → M Out} {ρ : DEnv} {U U2 : US} {xs : List PyData} {Q : DEnv → Prop} (hi : ρ[i]? = some (some (.m xs))) (k : ∃ ρ2, s (ρ.set i (some (.d (.list xs)))) U = some (.nx ρ2, U2) ∧ Q ρ2) : ∃ ρ2, sFrz i s ρ U = some (.nx ρ2, U2) ∧ Q ρ2 := by rw [sFrz_at hi]; exact k
theorem forX {f : DEnv → M (List Im)} {asg : Im → DEnv → Option DEnv} {b : DEnv → M Out} {ρ : DEnv} {U : US} {α : Type} {xs : List α} {Q : DEnv → Prop} (m : α → Im) (I : Nat → DEnv → Prop) (hf : f ρ U = some (xs.map m, U)) (h0 : I 0 ρ)
    (q : ∀ i x ρ, xs[i]? = some x → I i ρ → ∃ ρ1, asg (m x) ρ = some ρ1 ∧ ∃ ρ2, b ρ1 U = some (.nx ρ2, U) ∧ I (i + 1) ρ2) (k : ∀ ρ', I xs.length ρ' → Q ρ') : ∃ ρ', sFor f asg b ρ U = some (.nx ρ', U) ∧ Q ρ' := by
  obtain ⟨ρ', h1, h2⟩ := sFor_nx (asg := asg) (b := b) m I hf h0 q
  exact ⟨ρ', h1, k ρ' h2⟩
theorem forE {f : DEnv → M (List Im)} {asg : Im → DEnv → Option DEnv} {b t : DEnv → M Out} {ρ : DEnv} {U : US} {α : Type} {xs : List α} {r : Option (Out × US)} (m : α → Im) (I : Nat → DEnv → Prop) (hf : f ρ U = some (xs.map m, U)) (h0 : I 0 ρ)
    (q : ∀ i x ρ, xs[i]? = some x → I i ρ → ∃ ρ1, asg (m x) ρ = some ρ1 ∧ ∃ ρ2, b ρ1 U = some (.nx ρ2, U) ∧ I (i + 1) ρ2) (k : ∀ ρ', I xs.length ρ' → t ρ' U = r) : sSeq (sFor f asg b) t ρ U = r := by
  obtain ⟨ρ', h1, h2⟩ := sFor_nx (asg := asg) (b := b) m I hf h0 q
  exact seqE h1 (k ρ' h2)
theorem forSX {f : DEnv → M (List Im)} {asg : Im → DEnv → Option DEnv} {b t : DEnv → M Out} {ρ : DEnv} {U U2 : US} {α : Type} {xs : List α} {Q : DEnv → Prop} (m : α → Im) (I : Nat → DEnv → Prop) (hf : f ρ U = some (xs.map m, U)) (h0 : I 0 ρ)
    (q : ∀ i x ρ, xs[i]? = some x → I i ρ → ∃ ρ1, asg (m x) ρ = some ρ1 ∧ ∃ ρ2, b ρ1 U = some (.nx ρ2, U) ∧ I (i + 1) ρ2) (k : ∀ ρ', I xs.length ρ' → ∃ ρ2, t ρ' U = some (.nx ρ2, U2) ∧ Q ρ2) : ∃ ρ2, sSeq (sFor f asg b) t ρ U = some (.nx ρ2, U2) ∧ Q ρ2 := by
  obtain ⟨ρ', h1, h2⟩ := sFor_nx (asg := asg) (b := b) m I hf h0 q
  exact seqX h1 (k ρ' h2)
theorem call1 {F : List Sl → M PyData} {f1 : DEnv → M PyData} {ρ : DEnv} {U U1 : US} {d1 : PyData} {r : Option (PyData × US)} (h1 : f1 ρ U = some (d1, U1)) (k : F [.d d1] U1 = r) : eCall 1 F (aCons f1 aNil) ρ U = r := eCall_at (aCons_at h1 (aNil_at _ _)) ⟨rfl, rfl⟩ k
theorem call2 {F : List Sl → M PyData} {f1 f2 : DEnv → M PyData} {ρ : DEnv} {U U1 U2 : US} {d1 d2 : PyData} {r : Option (PyData × US)} (h1 : f1 ρ U = some (d1, U1)) (h2 : f2 ρ U1 = some (d2, U2)) (k : F [.d d1, .d d2] U2 = r) : eCall 2 F (aCons f1 (aCons f2 aNil)) ρ U = r := eCall_at (aCons_at h1 (aCons_at h2 (aNil_at _ _))) ⟨rfl, rfl⟩ k
theorem call3 {F : List Sl → M PyData} {f1 f2 f3 : DEnv → M PyData} {ρ : DEnv} {U U1 U2 U3 : US} {d1 d2 d3 : PyData} {r : Option (PyData × US)} (h1 : f1 ρ U = some (d1, U1)) (h2 : f2 ρ U1 = some (d2, U2)) (h3 : f3 ρ U2 = some (d3, U3)) (k : F [.d d1, .d d2, .d d3] U3 = r) : eCall 3 F (aCons f1 (aCons f2 (aCons f3 aNil))) ρ U = r := eCall_at (aCons_at h1 (aCons_at h2 (aCons_at h3 (aNil_at _ _)))) ⟨rfl, rfl⟩ k
theorem tup2 {f1 f2 : DEnv → M PyData} {ρ : DEnv} {U U1 U2 : US} {d1 d2 : PyData} (h1 : f1 ρ U = some (d1, U1)) (h2 : f2 ρ U1 = some (d2, U2)) : eTup (aCons f1 (aCons f2 aNil)) ρ U = some (.tuple [d1, d2], U2) := eTup_at (ds := [_, _]) (aCons_at h1 (aCons_at h2 (aNil_at _ _))) (by simp [lim])
theorem tup3 {f1 f2 f3 : DEnv → M PyData} {ρ : DEnv} {U U1 U2 U3 : US} {d1 d2 d3 : PyData} (h1 : f1 ρ U = some (d1, U1)) (h2 : f2 ρ U1 = some (d2, U2)) (h3 : f3 ρ U2 = some (d3, U3)) : eTup (aCons f1 (aCons f2 (aCons f3 aNil))) ρ U = some (.tuple [d1, d2, d3], U3) := eTup_at (ds := [_, _, _]) (aCons_at h1 (aCons_at h2 (aCons_at h3 (aNil_at _ _)))) (by simp [lim])
theorem tup4 {f1 f2 f3 f4 : DEnv → M PyData} {ρ : DEnv} {U U1 U2 U3 U4 : US} {d1 d2 d3 d4 : PyData} (h1 : f1 ρ U = some (d1, U1)) (h2 : f2 ρ U1 = some (d2, U2)) (h3 : f3 ρ U2 = some (d3, U3)) (h4 : f4 ρ U3 = some (d4, U4)) : eTup (aCons f1 (aCons f2 (aCons f3 (aCons f4 aNil)))) ρ U = some (.tuple [d1, d2, d3, d4], U4) := eTup_at (ds := [_, _, _, _]) (aCons_at h1 (aCons_at h2 (aCons_at h3 (aCons_at h4 (aNil_at _ _))))) (by simp [lim])
/-! encoded names -/
def encFN (z : Bool × Nat × List (List Row)) : PyData := .tuple [.bool z.1, nat z.2.1, bhD z.2.2]
def pairD (p : Nat × Nat) : PyData := .tuple [nat p.1, nat p.2]
def encHN (z : Nat × Nat × List (List Row) × List (Nat × Nat)) : PyData := .tuple [nat z.1, nat z.2.1, bhD z.2.2.1, .tuple (z.2.2.2.map pairD)]
theorem ki_row : KI rowD 2 := ki_4 (ki_nat 1) (ki_nat 1) (ki_list (ki_nat 0)) (ki_list (ki_nat 0))
theorem ki_bh : KI bhD 4 := ki_list (ki_list ki_row)
theorem ki_FN : KI encFN 5 := ki_3 (ki_bool 4) (ki_nat 4) ki_bh
theorem ki_HN : KI encHN 5 := ki_4 (ki_nat 4) (ki_nat 4) ki_bh (ki_list (show KI pairD 3 from ki_2 (ki_nat 2) (ki_nat 2)))
theorem KI.mono {α : Type} {e : α → PyData} {n m : Nat} (h : KI e n) (hm : n ≤ m) : KI e m := by
  obtain ⟨κ, h1, h2, h3⟩ := h
  exact ⟨κ, h1, h2, fun a => Nat.le_trans (h3 a) hm⟩
/-! the parts of a book -/
section
variable {B : Bok} {K : Nat} {x : Lots} {ρ : DEnv} {U : US} {f : DEnv → M PyData}
theorem bk_ans (h : f ρ U = some (bookD B, U)) : op2 gIx f (eC (.int 0)) ρ U = some (.tuple (B.ans.map .bool), U) := op2_at h rfl rfl
theorem bk_lets (h : f ρ U = some (bookD B, U)) : op2 gIx f (eC (.int 1)) ρ U = some (natsT B.lets, U) := op2_at h rfl rfl
theorem bk_beg (h : f ρ U = some (bookD B, U)) : op2 gIx f (eC (.int 2)) ρ U = some (.tuple [nat B.b0, nat B.b1], U) := op2_at h rfl rfl
theorem bk_rows (h : f ρ U = some (bookD B, U)) : op2 gIx f (eC (.int 3)) ρ U = some (rowsD B, U) := op2_at h rfl rfl
theorem gIx_map {α : Type} {xs : List α} {e : α → PyData} {i : Nat} {a : α} (h : xs[i]? = some a) : gIx (.tuple (xs.map e)) (nat i) = some (e a) := by rw [gIx_t, List.getElem?_map, h]; rfl
theorem gIx_map_getD {α : Type} {xs : List α} {e : α → PyData} {i : Nat} (d : α) (h : i < xs.length) : gIx (.tuple (xs.map e)) (nat i) = some (e (xs.getD i d)) := by
  rw [gIx_map (List.getElem?_eq_getElem h), List.getD_eq_getElem?_getD, List.getElem?_eq_getElem h]; rfl
/-- a line by its lots -/
theorem line_by {ln : List Row} {i : Nat} {g : DEnv → M PyData} {n m : Nat} (hx1 : x.1.length = n) (hx2 : x.2.length = m) (hm : m ≤ 9) (ro : ∀ r ∈ ln, RowOk n m r) (hl : ln.length ≤ 9) {gl : DEnv → M PyData} (hg : gl ρ U = some (lineD ln, U))
    (q : ∀ r, g ((wipeD ρ [i]).set i (some (.d (rowD r)))) U = F_row_by [.d (rowD r), .d (natsT x.1), .d (natsT x.2)] U) :
    op1 gTuple (eLc (fSeq gl) [i] (aName i) yes g) ρ U = some (lineD (ln.map (byLot x)), U) := by
  refine op1_at (eLc_t (xs := ln) (e := rowD) (fun r => rowD (byLot x r)) hg (Nat.le_trans hl (by decide)) fun r hr => ?_) ?_
  · have R := ro r hr
    rw [q r, F_row_by_eq U (by rw [hx1]; exact R.gL) (by rw [hx2]; exact R.hL) (fun v hv => by rw [hx2]; exact R.lx v hv) (fun v hv => by rw [hx2]; exact R.rx v hv) (by rw [R.lL]; exact Nat.le_trans hm (by decide)) (by rw [R.rL]; exact Nat.le_trans hm (by decide))]
  · show some (PyData.tuple (ln.map fun r => rowD (byLot x r))) = _
    unfold lineD; rw [List.map_map]; rfl
theorem F_flag_names_eq (w : WF B K) (l1 : x.1.length = B.ans.length) (l2 : x.2.length = B.lets.length) (U : US) : F_flag_names [.d (bookD B), .d (natsT x.1), .d (natsT x.2)] U = some (.list ((List.range B.ans.length).map fun f => encFN (flagName B x f)), U) := by
  refine fnD_rt ?_
  unfold S_flag_names
  refine seqE (sNew_at (nil_at _ _)) (forE (xs := B.rows.zipIdx) (fun p => Im.many [nat p.2, bhD p.1])
    (fun k ρ => ∃ a b c d e, ρ = [some (.d (bookD B)), some (.d (natsT x.1)), some (.d (natsT x.2)), some (.m ((List.range k).map fun f => encFN (flagName B x f))), a, b, c, d, e])
    (fEnum_t (bk_rows (eVar_at rfl)) rfl) ⟨none, none, none, none, none, rfl⟩ ?_ ?_)
  · rintro i p ρ hp ⟨a, b, c, d, e, rfl⟩
    obtain ⟨hp1, hp2⟩ := zipIdx_get hp
    obtain ⟨bh, j⟩ := p
    dsimp only at hp1 hp2
    subst hp2
    have hj : j < B.rows.length := (List.getElem?_eq_some_iff.mp hp1).1
    have hjn : j < B.ans.length := by rw [← w.rl]; exact hj
    have hbm : bh ∈ B.rows := List.mem_of_getElem? hp1
    have hbl := w.bl bh hbm
    refine ⟨_, rfl, ?_⟩
    refine seqX (sNew_at (eLc_t (xs := bh) (e := lineD) (fun ln => lineD (ln.map (byLot x))) (eVar_at rfl) (by rw [hbl]; exact Nat.le_trans w.m9 (by decide)) fun ln hln => line_by l1 l2 w.m9 (w.ro bh hbm ln hln) (by rw [w.ll bh hbm ln hln]; have := w.K9; omega) (eVar_at rfl) fun r => call3 (eVar_at rfl) (eVar_at rfl) (eVar_at rfl) rfl)) ?_
    refine frzX rfl ⟨_, sApp_at (d := encFN (flagName B x j)) (tup3 (op2_at (bk_ans (eVar_at rfl)) (eVar_at rfl) (gIx_map_getD false hjn)) (op2_at (eVar_at rfl) (eVar_at rfl) (gIx_nats (by rw [l1]; exact hjn))) (op1_at (eVar_at rfl) ?_)) rfl ?_, ?_⟩
    · show some (PyData.tuple (bh.map fun ln => lineD (ln.map (byLot x)))) = some (bhD ((B.rows.getD j []).map fun ln => ln.map (byLot x)))
      rw [List.getD_eq_getElem?_getD, hp1]
      unfold bhD; rw [List.map_map]; rfl
    · rw [List.length_map, List.length_range]
      exact Nat.lt_of_lt_of_le hjn (Nat.le_trans w.n9 (by decide))
    · rw [range_map_succ]
      exact ⟨_, _, _, _, _, rfl⟩
  · rintro ρ' ⟨a, b, c, d, e, rfl⟩
    refine frzE rfl (sRet_at ?_)
    rw [List.length_zipIdx, w.rl]
    exact eVar_at rfl
end
end DL

set_option maxRecDepth 100000
set_option linter.all false
/-! E4: hue_names, finer, are_lots, folding. -/
namespace DL
open PySem PySem.Spec PyProof.Rows L2
theorem flatMap_take_succ {α β : Type} {xs : List α} {f : α → List β} {i : Nat} {x : α} (h : xs[i]? = some x) : (xs.take (i + 1)).flatMap f = (xs.take i).flatMap f ++ f x := by
  rw [take_succ_get h, List.flatMap_append]; simp
theorem flatMap_len {α β : Type} {f : α → List β} {c : Nat} : ∀ {xs : List α}, (∀ x ∈ xs, (f x).length ≤ c) → (xs.flatMap f).length ≤ xs.length * c
  | [], _ => by simp
  | x :: xs, h => by
    have h1 := h x List.mem_cons_self
    have h2 := flatMap_len (xs := xs) fun y hy => h y (List.mem_cons_of_mem _ hy)
    rw [List.flatMap_cons, List.length_append, List.length_cons, Nat.succ_mul]
    omega
theorem row_2 {ρ : DEnv} {U : US} {f : DEnv → M PyData} {r : Row} (h : f ρ U = some (rowD r, U)) : op2 gIx f (eC (.int 2)) ρ U = some (natsT r.2.2.1, U) := op2_at h rfl rfl
theorem row_3 {ρ : DEnv} {U : US} {f : DEnv → M PyData} {r : Row} (h : f ρ U = some (rowD r, U)) : op2 gIx f (eC (.int 3)) ρ U = some (natsT r.2.2.2, U) := op2_at h rfl rfl
section
variable {B : Bok} {K : Nat} {x : Lots} {ρ : DEnv} {U : US} {f : DEnv → M PyData}
theorem F_hue_names_eq (w : WF B K) (l1 : x.1.length = B.ans.length) (l2 : x.2.length = B.lets.length) (U : US) : F_hue_names [.d (bookD B), .d (natsT x.1), .d (natsT x.2)] U = some (.list ((List.range B.lets.length).map fun h => encHN (hueName B x h)), U) := by
  refine fnD_rt ?_
  unfold S_hue_names
  refine seqE (sNew_at (nil_at _ _)) (forE (xs := B.lets.zipIdx) (fun p => Im.many [nat p.2, nat p.1])
    (fun k ρ => ∃ a b c d e f g, ρ = [some (.d (bookD B)), some (.d (natsT x.1)), some (.d (natsT x.2)), some (.m ((List.range k).map fun h => encHN (hueName B x h))), a, b, c, d, e, f, g])
    (fEnum_t (bk_lets (eVar_at rfl)) rfl) ⟨none, none, none, none, none, none, none, rfl⟩ ?_ ?_)
  · rintro i p ρ hp ⟨a, b, c, d, e, f, g, rfl⟩
    obtain ⟨hp1, hp2⟩ := zipIdx_get hp
    obtain ⟨lt, j⟩ := p
    dsimp only at hp1 hp2
    subst hp2
    have hj : j < B.lets.length := (List.getElem?_eq_some_iff.mp hp1).1
    refine ⟨_, rfl, ?_⟩
    refine seqX (sPar_at (aConsN_at (nil_at _ _) (aConsN_at (nil_at _ _) (aNil_at _ _))) rfl) ?_
    refine forSX (xs := B.rows) (fun bh => Im.one (bhD bh))
      (fun k ρ => ∃ a b c, ρ = [some (.d (bookD B)), some (.d (natsT x.1)), some (.d (natsT x.2)), some (.m ((List.range j).map fun h => encHN (hueName B x h))), some (.d (nat j)), some (.d (nat lt)),
        some (.m ((B.rows.take k).map fun bh => lineD ((bh.getD j []).map (byLot x)))), some (.m (((B.rows.take k).flatMap fun bh => bh.flatMap fun ln => ln.map (pr x.2 j)).map pairD)), a, b, c])
      (fSeq_t (bk_rows (eVar_at rfl))) ⟨e, f, g, rfl⟩ ?_ ?_
    · rintro k bh ρ hk ⟨a1, a2, a3, rfl⟩
      have hkl : k < B.rows.length := (List.getElem?_eq_some_iff.mp hk).1
      have hbm : bh ∈ B.rows := List.mem_of_getElem? hk
      have hbl := w.bl bh hbm
      have hlm : bh.getD j [] ∈ bh := getD_mem [] (by rw [hbl]; exact hj)
      refine ⟨_, rfl, ?_⟩
      refine seqX (sApp_at (line_by l1 l2 w.m9 (w.ro bh hbm _ hlm) (by rw [w.ll bh hbm _ hlm]; have := w.K9; omega) (op2_at (eVar_at rfl) (eVar_at rfl) (gIx_map_getD [] (by rw [hbl]; exact hj))) fun r => call3 (eVar_at rfl) (eVar_at rfl) (eVar_at rfl) rfl) rfl ?_) ?_
      · rw [List.length_map, List.length_take]
        have := w.n9; have := w.rl
        have e9 : (9 : Nat) < lim := by decide
        omega
      · refine forX (xs := bh) (fun ln => Im.one (lineD ln))
          (fun k2 ρ => ∃ b c, ρ = [some (.d (bookD B)), some (.d (natsT x.1)), some (.d (natsT x.2)), some (.m ((List.range j).map fun h => encHN (hueName B x h))), some (.d (nat j)), some (.d (nat lt)),
            some (.m (((B.rows.take k).map fun bh => lineD ((bh.getD j []).map (byLot x))) ++ [lineD ((bh.getD j []).map (byLot x))])), some (.m ((((B.rows.take k).flatMap fun bh => bh.flatMap fun ln => ln.map (pr x.2 j)) ++ (bh.take k2).flatMap fun ln => ln.map (pr x.2 j)).map pairD)), some (.d (bhD bh)), b, c])
          (fSeq_t (eVar_at rfl)) ⟨a2, a3, by simp⟩ ?_ ?_
        · rintro k2 ln ρ hk2 ⟨b2, b3, rfl⟩
          have hlnm : ln ∈ bh := List.mem_of_getElem? hk2
          have hk2l : k2 < bh.length := (List.getElem?_eq_some_iff.mp hk2).1
          have lnl := w.ll bh hbm ln hlnm
          have K9 := w.K9
          refine ⟨_, rfl, ?_⟩
          refine ⟨_, sExt_at (eLc_t (xs := ln) (e := rowD) (fun r => pairD (pr x.2 j r)) (eVar_at rfl) (by rw [lnl]; exact Nat.le_trans (show K + 1 ≤ 9 by omega) (by decide)) fun r hr => ?_) rfl ?_, ?_⟩
          · have R := w.ro bh hbm ln hlnm r hr
            refine tup2 (op2_at (eVar_at rfl) (op2_at (row_2 (eVar_at rfl)) (eVar_at rfl) (gIx_nats (by rw [R.lL]; exact hj))) (gIx_nats ?_)) (op2_at (eVar_at rfl) (op2_at (row_3 (eVar_at rfl)) (eVar_at rfl) (gIx_nats (by rw [R.rL]; exact hj))) (gIx_nats ?_))
            · rw [l2]; exact R.lx _ (ix_mem (by rw [R.lL]; exact hj))
            · rw [l2]; exact R.rx _ (ix_mem (by rw [R.rL]; exact hj))
          · rw [List.length_map, List.length_append, List.length_map, lnl]
            have g1 : ((B.rows.take k).flatMap fun bh => bh.flatMap fun ln => ln.map (pr x.2 j)).length ≤ (B.rows.take k).length * 81 := flatMap_len fun bh2 h2 => by
              have hm2 : bh2 ∈ B.rows := List.mem_of_mem_take h2
              have := flatMap_len (xs := bh2) (f := fun ln => ln.map (pr x.2 j)) (c := 9) fun ln2 h3 => by rw [List.length_map, w.ll bh2 hm2 ln2 h3]; omega
              have := w.bl bh2 hm2
              have := w.m9
              omega
            have g2 : ((bh.take k2).flatMap fun ln => ln.map (pr x.2 j)).length ≤ (bh.take k2).length * 9 := flatMap_len fun ln2 h3 => by rw [List.length_map, w.ll bh hbm ln2 (List.mem_of_mem_take h3)]; omega
            have := w.n9; have := w.rl; have := w.m9
            rw [List.length_take] at g1 g2
            have e9 : (2000 : Nat) < lim := by decide
            omega
          · rw [flatMap_take_succ hk2, ← List.append_assoc, List.map_append (l₂ := ln.map (pr x.2 j)), List.map_map (l := ln)]
            exact ⟨_, _, rfl⟩
        · rintro ρ' ⟨b2, b3, rfl⟩
          rw [take_map_succ hk, flatMap_take_succ hk, List.take_length]
          exact ⟨_, _, _, rfl⟩
    · rintro ρ' ⟨a1, a2, a3, rfl⟩
      have elt : ix B.lets j = lt := by unfold ix; rw [List.getD_eq_getElem?_getD, hp1]; rfl
      refine ⟨_, sApp_at (d := encHN (hueName B x j)) (tup4 (by rw [show (hueName B x j).1 = lt from elt]; exact eVar_at rfl) (op2_at (eVar_at rfl) (eVar_at rfl) (gIx_nats (by rw [l2]; exact hj))) (op1_at (eBor_at rfl) ?_) (op1_at (eBor_at rfl) ?_)) rfl ?_, ?_⟩
      · show some (PyData.tuple _) = some (PyData.tuple _)
        rw [List.take_length]
        unfold hueName
        rw [List.map_map]; rfl
      · show some (PyData.tuple _) = some (PyData.tuple _)
        rw [List.take_length]
        rfl
      · rw [List.length_map, List.length_range]
        exact Nat.lt_of_lt_of_le hj (Nat.le_trans w.m9 (by decide))
      · rw [range_map_succ]
        exact ⟨_, _, _, _, _, _, _, rfl⟩
  · rintro ρ' ⟨a, b, c, d, e, f, g, rfl⟩
    refine frzE rfl (sRet_at ?_)
    rw [List.length_zipIdx]
    exact eVar_at rfl
theorem F_finer_eq (w : WF B K) (l1 : x.1.length = B.ans.length) (l2 : x.2.length = B.lets.length) (U : US) : F_finer [.d (bookD B), .d (natsT x.1), .d (natsT x.2)] U = some (lotsD (step B x), U) := by
  refine fnD_rt (sRet_at (tup2 (call1 (call3 (eVar_at rfl) (eVar_at rfl) (eVar_at rfl) (F_flag_names_eq w l1 l2 U)) ?_) (call1 (call3 (eVar_at rfl) (eVar_at rfl) (eVar_at rfl) (F_hue_names_eq w l1 l2 U)) ?_)))
  · refine F_atc_T (e := encFN) (l := (List.range B.ans.length).map (flagName B x)) (ki_FN.mono (by omega)) (fun _ => rfl) ?_ (by rw [List.map_map]; rfl) U
    rw [List.length_map, List.length_range]
    exact Nat.lt_of_le_of_lt w.n9 (by decide)
  · refine F_atc_T (e := encHN) (l := (List.range B.lets.length).map (hueName B x)) (ki_HN.mono (by omega)) (fun _ => rfl) ?_ (by rw [List.map_map]; rfl) U
    rw [List.length_map, List.length_range]
    exact Nat.lt_of_le_of_lt w.m9 (by decide)
end
end DL

set_option maxRecDepth 100000
set_option linter.all false
/-! E5: tests; tuple_of, lists, same, are_lots, is_folding, folding. -/
namespace DL
open PySem PySem.Spec PyProof.Rows L2
section
variable {ρ ρ' : DEnv} {U U' U2 : US} {f g : DEnv → M PyData} {t u : DEnv → M Bool} {a b s : DEnv → M Out} {d e : PyData} {c : Bool} {r : Option (Out × US)} {q : Option (PyData × US)}
theorem tst_at (h : f ρ U = some (.bool c, U')) : tst f ρ U = some (c, U') := by unfold tst; rw [bnd_at h]; rfl
theorem tNot_at (h : t ρ U = some (c, U')) : tNotD t ρ U = some (!c, U') := by unfold tNotD; rw [bnd_at h]; rfl
theorem tOr_t (h : t ρ U = some (true, U')) : tOrD t u ρ U = some (true, U') := by unfold tOrD; rw [bnd_at h, if_pos rfl]; rfl
theorem tOr_f {z : Option (Bool × US)} (h : t ρ U = some (false, U')) (k : u ρ U' = z) : tOrD t u ρ U = z := by unfold tOrD; rw [bnd_at h, if_neg Bool.false_ne_true]; exact k
theorem tAnd_t {z : Option (Bool × US)} (h : t ρ U = some (true, U')) (k : u ρ U' = z) : tAndD t u ρ U = z := by unfold tAndD; rw [bnd_at h, if_pos rfl]; exact k
theorem tAnd_f (h : t ρ U = some (false, U')) : tAndD t u ρ U = some (false, U') := by unfold tAndD; rw [bnd_at h, if_neg Bool.false_ne_true]; rfl
theorem vAnd_t (h : f ρ U = some (.bool true, U')) (k : g ρ U' = q) : vAnd f g ρ U = q := by unfold vAnd; rw [bnd_at h]; exact k
theorem vAnd_f (h : f ρ U = some (.bool false, U')) : vAnd f g ρ U = some (.bool false, U') := by unfold vAnd; rw [bnd_at h]; rfl
theorem vNot_at (h : f ρ U = some (.bool c, U')) : vNot f ρ U = some (.bool (!c), U') := by unfold vNot; rw [bnd_at h]; rfl
theorem sIf_t (h : t ρ U = some (true, U')) (k : a ρ U' = r) : sIf t a b ρ U = r := by unfold sIf; rw [bnd_at h, if_pos rfl]; exact k
theorem sIf_f (h : t ρ U = some (false, U')) (k : b ρ U' = r) : sIf t a b ρ U = r := by unfold sIf; rw [bnd_at h, if_neg Bool.false_ne_true]; exact k
theorem seq_rt (h : a ρ U = some (.rt d, U')) : sSeq a b ρ U = some (.rt d, U') := by unfold sSeq; rw [bnd_at h]; rfl
theorem eIf_t (h : t ρ U = some (true, U')) (k : f ρ U' = q) : eIf t f g ρ U = q := by unfold eIf; rw [bnd_at h, if_pos rfl]; exact k
theorem eIf_f (h : t ρ U = some (false, U')) (k : g ρ U' = q) : eIf t f g ρ U = q := by unfold eIf; rw [bnd_at h, if_neg Bool.false_ne_true]; exact k
theorem eIs_at {T : Ty1} (h : f ρ U = some (d, U')) : eIs T f ρ U = some (.bool (isTy T d), U') := by unfold eIs; rw [bnd_at h]; rfl
theorem eIs2_at {T T2 : Ty1} (h : f ρ U = some (d, U')) : eIs2 T T2 f ρ U = some (.bool (isTy T d || isTy T2 d), U') := by unfold eIs2; rw [bnd_at h]; rfl
theorem eIs_c {T : Ty1} (h : f ρ U = some (d, U')) (k : isTy T d = c) : eIs T f ρ U = some (.bool c, U') := by rw [eIs_at h, k]
theorem eIs2_c {T T2 : Ty1} (h : f ρ U = some (d, U')) (k : (isTy T d || isTy T2 d) = c) : eIs2 T T2 f ρ U = some (.bool c, U') := by rw [eIs2_at h, k]
theorem fSeq_any {xs : List PyData} (h : f ρ U = some (d, U')) (hd : seqOf d = some xs) : fSeq f ρ U = some (xs.map Im.one, U') := by unfold fSeq; rw [bnd_at h, hd]; rfl
theorem eC_at (d : PyData) : eC d ρ U = some (d, U) := rfl
end
/-! data of bounded depth -/
def okD : Nat → PyData → Prop
  | 0, _ => False
  | n + 1, .list xs => xs.length ≤ lim ∧ ∀ x ∈ xs, okD n x
  | n + 1, .tuple xs => xs.length ≤ lim ∧ ∀ x ∈ xs, okD n x
  | _ + 1, .dict _ => False
  | _ + 1, .str x => PyData.canLay0 (.str x) = true
  | _ + 1, _ => True
def hardN : Nat → PyData → PyData
  | 0, d => d
  | n + 1, .list xs => .tuple (xs.map (hardN n))
  | n + 1, .tuple xs => .tuple (xs.map (hardN n))
  | _ + 1, d => d
def softN : Nat → PyData → PyData
  | 0, d => d
  | n + 1, .list xs => .list (xs.map (softN n))
  | n + 1, .tuple xs => .list (xs.map (softN n))
  | _ + 1, d => d
theorem hard_soft : ∀ (n : Nat) (d : PyData), hardN n (softN n d) = hardN n d
  | 0, d => rfl
  | n + 1, d => by cases d <;> simp [softN, hardN, hard_soft n]
theorem ok_soft : ∀ (n : Nat) (d : PyData), okD n d → okD n (softN n d)
  | 0, _, h => h
  | n + 1, d, h => by
    cases d with
    | list xs => exact ⟨by simpa using h.1, fun y hy => by obtain ⟨x, hx, rfl⟩ := List.mem_map.mp hy; exact ok_soft n x (h.2 x hx)⟩
    | tuple xs => exact ⟨by simpa using h.1, fun y hy => by obtain ⟨x, hx, rfl⟩ := List.mem_map.mp hy; exact ok_soft n x (h.2 x hx)⟩
    | _ => exact h
theorem F_tuple_of_eq : ∀ (n : Nat) (d : PyData) (U : US), okD n d → F_tuple_of n [.d d] U = some (hardN n d, U)
  | 0, _, _, h => h.elim
  | n + 1, d, U, h => by
    refine fnD_rt ?_
    unfold S_tuple_of
    have seqs : ∀ xs, seqOf d = some xs → (isTy .list d || isTy .tuple d) = true → xs.length ≤ lim → (∀ x ∈ xs, okD n x) → hardN (n + 1) d = .tuple (xs.map (hardN n)) →
        sSeq (sIf (tst (eIs2 .list .tuple (eVar 0))) (sRet (op1 gTuple (eLc (fSeq (eVar 0)) [1] (aName 1) yes (eCall 1 (F_tuple_of n) (aCons (eVar 1) aNil))))) sNil) (sRet (eVar 0)) (ent 2 [.d d]) U = some (.rt (hardN (n + 1) d), U) := by
      intro xs hs ht hl ho he
      rw [he]
      refine seq_rt (sIf_t (tst_at (eIs2_c (eVar_at rfl) ht)) (sRet_at (op1_at (eLc_map (hardN n) Im.one (fSeq_any (eVar_at rfl) hs) hl fun x hx => ⟨_, rfl, call1 (eVar_at rfl) (F_tuple_of_eq n x U (ho x hx))⟩) rfl)))
    cases d with
    | list xs => exact seqs xs rfl rfl h.1 h.2 rfl
    | tuple xs => exact seqs xs rfl rfl h.1 h.2 rfl
    | dict _ => exact h.elim
    | none => exact seqE (sIf_f (tst_at (eIs2_c (eVar_at rfl) rfl)) rfl) (sRet_at (eVar_at rfl))
    | bool b => exact seqE (sIf_f (tst_at (eIs2_c (eVar_at rfl) rfl)) rfl) (sRet_at (eVar_at rfl))
    | int i => exact seqE (sIf_f (tst_at (eIs2_c (eVar_at rfl) rfl)) rfl) (sRet_at (eVar_at rfl))
    | str x => exact seqE (sIf_f (tst_at (eIs2_c (eVar_at rfl) rfl)) rfl) (sRet_at (eVar_at rfl))
theorem F_lists_eq : ∀ (n : Nat) (d : PyData) (U : US), okD n d → F__law_lists n [.d d] U = some (softN n d, U)
  | 0, _, _, h => h.elim
  | n + 1, d, U, h => by
    refine fnD_rt (sRet_at ?_)
    have seqs : ∀ xs, seqOf d = some xs → (isTy .list d || isTy .tuple d) = true → xs.length ≤ lim → (∀ x ∈ xs, okD n x) → softN (n + 1) d = .list (xs.map (softN n)) →
        eIf (tst (eIs2 .list .tuple (eVar 0))) (eLc (fSeq (eVar 0)) [1] (aName 1) yes (eCall 1 (F__law_lists n) (aCons (eVar 1) aNil))) (eVar 0) (ent 2 [.d d]) U = some (softN (n + 1) d, U) := by
      intro xs hs ht hl ho he
      rw [he]
      refine eIf_t (tst_at (eIs2_c (eVar_at rfl) ht)) (eLc_map (softN n) Im.one (fSeq_any (eVar_at rfl) hs) hl fun x hx => ⟨_, rfl, call1 (eVar_at rfl) (F_lists_eq n x U (ho x hx))⟩)
    cases d with
    | list xs => exact seqs xs rfl rfl h.1 h.2 rfl
    | tuple xs => exact seqs xs rfl rfl h.1 h.2 rfl
    | dict _ => exact h.elim
    | none => exact eIf_f (tst_at (eIs2_c (eVar_at rfl) rfl)) (eVar_at rfl)
    | bool b => exact eIf_f (tst_at (eIs2_c (eVar_at rfl) rfl)) (eVar_at rfl)
    | int i => exact eIf_f (tst_at (eIs2_c (eVar_at rfl) rfl)) (eVar_at rfl)
    | str x => exact eIf_f (tst_at (eIs2_c (eVar_at rfl) rfl)) (eVar_at rfl)
theorem zipIm_self : ∀ xs : List PyData, zipIm xs xs = xs.map fun x => Im.many [x, x]
  | [] => rfl
  | x :: xs => by simp [zipIm, zipIm_self xs]
theorem gEq_self {d : PyData} (h : SeqAt.shaped d = true) : gEq d d = some (.bool true) := by
  unfold gEq
  rw [if_pos ⟨h, h⟩, SeqAt.eqv_refl d (SeqAt.canLay_of_shaped h)]
theorem shp_bool (b : Bool) : SeqAt.shaped (.bool b) = true := by cases b <;> decide
theorem shp_int (i : Int) : SeqAt.shaped (.int i) = true := by simp [SeqAt.shaped, PyData.canLay0, PyData.depth]
theorem gNe_bool (b : Bool) : gNe (.bool b) (.bool b) = some (.bool false) := by rw [(ei_bool 0).gne (by omega)]; simp
theorem toBs_true {α : Type} : ∀ xs : List α, gAll (.list (xs.map fun _ => PyData.bool true)) = some (.bool true) := fun xs => by
  have : xs.map (fun _ => PyData.bool true) = (xs.map fun _ => true).map PyData.bool := by rw [List.map_map]; rfl
  rw [this]
  show (toBs ((xs.map fun _ => true).map PyData.bool)).map _ = _
  rw [toBs_map]
  simp
theorem F_same_eq : ∀ (n : Nat) (d : PyData) (U : US), okD n d → F__law_same n [.d d, .d d] U = some (.bool true, U)
  | 0, _, _, h => h.elim
  | n + 1, d, U, h => by
    refine fnD_rt ?_
    unfold S__law_same
    have seqs : ∀ xs, (d = .list xs ∨ d = .tuple xs) → xs.length ≤ lim → (∀ x ∈ xs, okD n x) → S__law_same (F__law_same n) (ent 4 [.d d, .d d]) U = some (.rt (.bool true), U) := by
      intro xs hs hl ho
      have hq : seqOf d = some xs := by rcases hs with rfl | rfl <;> rfl
      have ht : (isTy .list d || isTy .tuple d) = true := by rcases hs with rfl | rfl <;> rfl
      refine seq_rt (sIf_t (tst_at (eIs2_c (eVar_at rfl) ht)) (seqE (sIf_f (tOr_f (tst_at (op2_at (eIs_at (eVar_at rfl)) (eIs_at (eVar_at rfl)) (gNe_bool _))) (tst_at (op2_at (eIs_at (eVar_at rfl)) (eIs_at (eVar_at rfl)) (gNe_bool _)))) rfl)
        (sRet_at (vAnd_t (op2_at (op1_at (eVar_at rfl) (show gLen d = some (.int (xs.length : Nat)) from by unfold gLen; rw [hq]; rfl)) (op1_at (eVar_at rfl) (show gLen d = some (.int (xs.length : Nat)) from by unfold gLen; rw [hq]; rfl)) (gEq_self (shp_int _)))
          (op1_at (eLc_map (xs := xs) (fun _ => PyData.bool true) (fun x => Im.many [x, x]) ?_ hl fun x hx => ⟨_, rfl, call2 (eVar_at rfl) (eVar_at rfl) (F_same_eq n x U (ho x hx))⟩) (toBs_true xs))))))
      unfold fZip
      rw [bnd_at (eVar_at (x := d) rfl), bnd_at (eVar_at (x := d) rfl)]
      rcases hs with rfl | rfl <;> simp only [zipIm_self] <;> rfl
    cases d with
    | list xs => exact seqs xs (.inl rfl) h.1 h.2
    | tuple xs => exact seqs xs (.inr rfl) h.1 h.2
    | dict _ => exact h.elim
    | none => exact seqE (sIf_f (tst_at (eIs2_c (eVar_at rfl) rfl)) rfl) (seq_rt (sIf_t (tOr_t (tst_at (op2_at (eVar_at rfl) (eC_at _) rfl))) (sRet_at (vAnd_t (op2_at (eVar_at rfl) (eVar_at rfl) (gEq_self (by decide))) (vAnd_t (op2_at (eIs_at (eVar_at rfl)) (eIs_at (eVar_at rfl)) (gEq_self (shp_bool _))) (op2_at (op2_at (eVar_at rfl) (eC_at _) rfl) (op2_at (eVar_at rfl) (eC_at _) rfl) (gEq_self (shp_bool _))))))))
    | bool b => exact seqE (sIf_f (tst_at (eIs2_c (eVar_at rfl) rfl)) rfl) (seq_rt (sIf_t (tOr_f (tst_at (op2_at (eVar_at rfl) (eC_at _) rfl)) (tst_at (eIs2_c (eVar_at rfl) rfl))) (sRet_at (vAnd_t (op2_at (eVar_at rfl) (eVar_at rfl) (gEq_self (shp_bool _))) (vAnd_t (op2_at (eIs_at (eVar_at rfl)) (eIs_at (eVar_at rfl)) (gEq_self (shp_bool _))) (op2_at (op2_at (eVar_at rfl) (eC_at _) rfl) (op2_at (eVar_at rfl) (eC_at _) rfl) (gEq_self (shp_bool _))))))))
    | str x => exact seqE (sIf_f (tst_at (eIs2_c (eVar_at rfl) rfl)) rfl) (seq_rt (sIf_t (tOr_f (tst_at (op2_at (eVar_at rfl) (eC_at _) rfl)) (tst_at (eIs2_c (eVar_at rfl) rfl))) (sRet_at (vAnd_t (op2_at (eVar_at rfl) (eVar_at rfl) (gEq_self (by unfold SeqAt.shaped; rw [show PyData.canLay0 (.str x) = true from h]; simp [PyData.depth]))) (vAnd_t (op2_at (eIs_at (eVar_at rfl)) (eIs_at (eVar_at rfl)) (gEq_self (shp_bool _))) (op2_at (op2_at (eVar_at rfl) (eC_at _) rfl) (op2_at (eVar_at rfl) (eC_at _) rfl) (gEq_self (shp_bool _))))))))
    | int i => exact seqE (sIf_f (tst_at (eIs2_c (eVar_at rfl) rfl)) rfl) (seqE (sIf_f (tOr_f (tst_at (op2_at (eVar_at rfl) (eC_at _) rfl)) (tst_at (eIs2_c (eVar_at rfl) rfl))) rfl) (sRet_at (vAnd_t (eIs_c (eVar_at rfl) rfl) (vAnd_t (vNot_at (c := false) (eIs_c (eVar_at rfl) rfl)) (op2_at (eVar_at rfl) (eVar_at rfl) (gEq_self (shp_int _)))))))
end DL

set_option maxRecDepth 100000
set_option linter.all false
/-! E6: are_lots, is_folding, folding. -/
namespace DL
open PySem PySem.Spec PyProof.Rows L2
theorem F_is_number_nat (i : Nat) (U : US) : F_is_number [.d (nat i)] U = some (.bool true, U) :=
  fnD_rt (sRet_at (vAnd_t (eIs_c (eVar_at rfl) rfl) (vNot_at (c := false) (eIs_c (eVar_at rfl) rfl))))
theorem F_is_tuple_of_t {xs : List PyData} {n : Nat} (h : xs.length = n) (U : US) : F_is_tuple_of [.d (.tuple xs), .d (nat n)] U = some (.bool true, U) :=
  fnD_rt (sRet_at (vAnd_t (eIs_c (eVar_at rfl) rfl) (op2_at (op1_at (eVar_at rfl) (show gLen (.tuple xs) = some (nat n) from by rw [← h]; rfl)) (eVar_at rfl) (gEq_self (shp_int _)))))
theorem ei_nats : EI natsT 1 := ei_tup (ei_nat 0)
theorem ei_lots : EI lotsD 2 := ei_2 ei_nats ei_nats
theorem F_are_lots_eq {l : List Nat} {n : Nat} (h : l.length = n) (h9 : n ≤ 9) (hc : cm l = l) (U : US) : F_are_lots [.d (natsT l), .d (nat n)] U = some (.bool true, U) := by
  have hl : l.length ≤ lim := by rw [h]; exact Nat.le_trans h9 (by decide)
  refine fnD_rt (seqE (sIf_f (tOr_f (tNot_at (c := true) (tst_at (call2 (eVar_at rfl) (eVar_at rfl) (F_is_tuple_of_t (by rw [List.length_map, h]) U)))) (tNot_at (c := true) (tst_at (op1_at (eLc_t (xs := l) (e := nat) (fun _ => PyData.bool true) (eVar_at rfl) hl fun i hi => call1 (eVar_at rfl) (F_is_number_nat i U)) (toBs_true l))))) rfl) (sRet_at (op2_at (eVar_at rfl) (call1 (eVar_at rfl) (F_atc_L (ki_nat 0) (fun _ => rfl) (Nat.lt_of_le_of_lt (by rw [h]; exact h9) (by decide)) rfl U)) ?_)))
  rw [hc]
  exact gEq_self (ei_nats.shp (by omega) l)
section
variable {B : Bok} {K : Nat} {x : Lots} {bk : PyData}
theorem F_is_folding_eq (w : WF B K) (nx : Nm B x) (ho : okD 8 bk) (hb : hardN 8 bk = bookD B) (U : US) : F_is_folding [.d bk, .d (lotsD x)] U = some (.bool (decide (step B x = x)), U) := by
  refine fnD_rt (seqE (sSet_at (call1 (eVar_at rfl) (by rw [F_tuple_of_eq 8 bk U ho, hb]))) (seqE (sIf_f (tOr_f (tNot_at (c := true) (tst_at (call2 (eVar_at rfl) (eC_at _) (F_is_tuple_of_t (n := 2) rfl U)))) (tOr_f (tNot_at (c := true) (tst_at (call2 (op2_at (eVar_at rfl) (eC_at _) rfl) (op1_at (bk_ans (eVar_at rfl)) ?_) (F_are_lots_eq nx.l1 w.n9 nx.c1 U))))
    (tNot_at (c := true) (tst_at (call2 (op2_at (eVar_at rfl) (eC_at _) rfl) (op1_at (bk_lets (eVar_at rfl)) ?_) (F_are_lots_eq nx.l2 w.m9 nx.c2 U)))))) rfl) (sRet_at (op2_at (call3 (eVar_at rfl) (op2_at (eVar_at rfl) (eC_at _) rfl) (op2_at (eVar_at rfl) (eC_at _) rfl) (F_finer_eq w nx.l1 nx.l2 U)) (eVar_at rfl) (ei_lots.geq (by omega) _ _)))))
  · show some (PyData.int ((B.ans.map PyData.bool).length : Nat)) = _
    rw [List.length_map]
  · show some (PyData.int ((B.lets.map nat).length : Nat)) = _
    rw [List.length_map]
theorem whGo_t {t : DEnv → M Bool} {b : DEnv → M Out} {n : Nat} {ρ ρ2 : DEnv} {U : US} {r : Option (Out × US)} (h : t ρ U = some (true, U)) (hb : b ρ U = some (.nx ρ2, U)) (k : whGo t b n ρ2 U = r) : whGo t b (n + 1) ρ U = r := by
  unfold whGo; rw [bnd_at h, if_pos rfl, bnd_at hb]; exact k
theorem whGo_f {t : DEnv → M Bool} {b : DEnv → M Out} {n : Nat} {ρ : DEnv} {U : US} (h : t ρ U = some (false, U)) : whGo t b (n + 1) ρ U = some (.nx ρ, U) := by
  unfold whGo; rw [bnd_at h, if_neg Bool.false_ne_true]; rfl
theorem folding_go (w : WF B K) (U : US) : ∀ (k : Nat) (x : Lots) (n : Nat) {y : Lots}, Nm B x → fixL (step B) k x = some y → k ≤ n →
    ∃ z, whGo (tst (op2 gNe (eVar 2) (eVar 3))) (sPar [2, 3] (aCons (eCall 3 F_finer (aCons (eVar 1) (aCons (op2 gIx (eVar 2) (eC (.int 0))) (aCons (op2 gIx (eVar 2) (eC (.int 1))) aNil)))) (aCons (eVar 2) aNil))) n
      [some (.d bk), some (.d (bookD B)), some (.d (lotsD (step B x))), some (.d (lotsD x))] U = some (.nx [some (.d bk), some (.d (bookD B)), some (.d (lotsD y)), z], U)
  | 0, x, n, y, _, h, _ => by cases h
  | k + 1, x, 0, y, _, _, h => by omega
  | k + 1, x, n + 1, y, nx, h, hn => by
    unfold fixL at h
    by_cases c : step B x = x
    · rw [if_pos c] at h
      cases h
      refine ⟨some (.d (lotsD x)), ?_⟩
      rw [c]
      refine whGo_f (tst_at (op2_at (eVar_at rfl) (eVar_at rfl) ?_))
      rw [ei_lots.gne (by omega)]; simp
    · rw [if_neg c] at h
      have ns := nm_step B x
      obtain ⟨z, hz⟩ := folding_go w U k (step B x) n ns h (by omega)
      refine ⟨z, whGo_t (tst_at (op2_at (eVar_at rfl) (eVar_at rfl) ?_)) (sPar_at (aCons_at (call3 (eVar_at rfl) (op2_at (eVar_at rfl) (eC_at _) rfl) (op2_at (eVar_at rfl) (eC_at _) rfl) (F_finer_eq w ns.l1 ns.l2 U)) (aCons_at (eVar_at rfl) (aNil_at _ _))) rfl) hz⟩
      rw [ei_lots.gne (by omega)]; simp [c]
theorem F_folding_eq (w : WF B K) {y : Lots} (hy : fixL (step B) 900 (x0 B) = some y) (ho : okD 8 bk) (hb : hardN 8 bk = bookD B) (U : US) : F_folding [.d bk] U = some (lotsD y, U) := by
  have nx := nm_x0 B
  obtain ⟨z, hz⟩ := folding_go (bk := bk) w U 900 (x0 B) 999 nx hy (by omega)
  have a1 : F_as_they_come [.d (.tuple (B.ans.map .bool))] U = some (natsT (x0 B).1, U) := F_atc_L (ki_bool 0) (fun _ => rfl) (Nat.lt_of_le_of_lt w.n9 (by decide)) rfl U
  have a2 : F_as_they_come [.d (natsT B.lets)] U = some (natsT (x0 B).2, U) := F_atc_L (ki_nat 0) (fun _ => rfl) (Nat.lt_of_le_of_lt w.m9 (by decide)) rfl U
  refine fnD_rt (seqE (sSet_at (call1 (eVar_at rfl) (by rw [F_tuple_of_eq 8 bk U ho, hb]))) (seqE (sPar_at (aCons_at (tup2 (call1 (bk_ans (eVar_at rfl)) a1) (call1 (bk_lets (eVar_at rfl)) a2)) (aCons_at (eC_at _) (aNil_at _ _))) rfl)
    (seqE (whGo_t (tst_at (op2_at (eVar_at rfl) (eVar_at rfl) ?_)) (sPar_at (aCons_at (call3 (eVar_at rfl) (op2_at (eVar_at rfl) (eC_at _) rfl) (op2_at (eVar_at rfl) (eC_at _) rfl) (F_finer_eq w nx.l1 nx.l2 U)) (aCons_at (eVar_at rfl) (aNil_at _ _))) rfl) hz) (sRet_at (eVar_at rfl)))))
  have hs := ei_lots.shp (by omega) (x0 B)
  show gNe (lotsD (x0 B)) .none = _
  unfold gNe
  rw [if_pos ⟨hs, by decide⟩]
  simp [lotsD, PyData.eqv]
end
end DL

set_option maxRecDepth 100000
set_option linter.all false
/-! E7: folded, the law's folded, heard. -/
namespace DL
open PySem PySem.Spec PyProof.Rows L2
abbrev toI (l : List Nat) : List Int := l.map fun n : Nat => (n : Int)
theorem nats_int (l : List Nat) : l.map nat = (toI l).map PyData.int := by rw [List.map_map]; rfl
theorem foldl_max_cast : ∀ (r : List Nat) (n : Nat), (toI r).foldl max (n : Int) = ((r.foldl max n : Nat) : Int)
  | [], n => rfl
  | y :: r, n => by
    have := foldl_max_cast r (max n y)
    simp only [List.map_cons, List.foldl_cons] at this ⊢
    rw [← this]
    congr 1
    omega
theorem gMax_nats {l : List Nat} (h : l ≠ []) (h9 : l.length ≤ 1000) {d : PyData} (hd : seqOf d = some (l.map nat)) : gMax d = some (nat (mxN l)) := by
  unfold gMax
  rw [hd, nats_int]
  show (toIs ((toI l).map PyData.int)).bind _ = _
  rw [toIs_map]
  cases l with
  | nil => exact absurd rfl h
  | cons n r =>
    have h1 : r.length ≤ 1000 := by simp at h9; omega
    simp only [List.map_cons, Option.bind_some]
    rw [if_pos (by simpa using h1)]
    have := foldl_max_cast r n
    rw [this]; rfl
theorem idxOf_cast {v : Nat} : ∀ l : List Nat, (toI l).idxOf (v : Int) = l.idxOf v
  | [] => rfl
  | a :: l => by
    have ih := idxOf_cast (v := v) l
    simp only [List.map_cons, List.idxOf_cons, ih]
    by_cases c : a = v
    · subst c; simp
    · have c1 : (a == v) = false := by simpa using c
      have c2 : ((a : Int) == (v : Int)) = false := by simp; omega
      rw [c1, c2]
theorem gIndexT_nats {l : List Nat} {v : Nat} (h : v ∈ l) : gIndexT (natsT l) (nat v) = some (nat (l.idxOf v)) := by
  unfold gIndexT natsT
  rw [nats_int]
  show (toIs ((toI l).map PyData.int)).bind _ = _
  rw [toIs_map]
  show (if (v : Int) ∈ toI l then some (PyData.int ((toI l).idxOf (v : Int) : Nat)) else none) = _
  rw [if_pos (List.mem_map.mpr ⟨v, h, rfl⟩), idxOf_cast]
theorem gAdd_1 (a : Nat) : gAdd (nat a) (.int 1) = some (nat (a + 1)) := by
  show some (PyData.int ((a : Int) + 1)) = _
  rfl
theorem fRng_nat {f : DEnv → M PyData} {ρ : DEnv} {U U' : US} {n : Nat} (h : f ρ U = some (nat n, U')) (hn : n ≤ 100000) : fRng f ρ U = some ((List.range n).map fun i => Im.one (nat i), U') := by
  unfold fRng
  rw [bnd_at h]
  dsimp only
  rw [if_pos (by omega), Int.toNat_natCast]; rfl
section
variable {B : Bok} {K : Nat} {x : Lots}
structure LdOk (l : List Nat) : Prop where
  ne : l ≠ []
  l9 : l.length ≤ 9
  full : ∀ v, v ≤ mxN l → v ∈ l
theorem ldOk_of {l : List Nat} (h : cm l = l) (h1 : 1 ≤ l.length) (h9 : l.length ≤ 9) : LdOk l := by
  have ne : l ≠ [] := fun e => by rw [e] at h1; simp at h1
  refine ⟨ne, h9, fun v hv => ?_⟩
  have h2 := mxN_mem ne
  have h3 := cm_full (l := l) (u := mxN l) (v := v) (by rw [h]; exact h2) hv
  rw [h] at h3
  exact h3
theorem LdOk.lt {l : List Nat} (o : LdOk l) : ∀ i ∈ leadsOf l, i < l.length := fun i hi => by
  obtain ⟨v, hv, rfl⟩ := List.mem_map.mp hi
  have : v ≤ mxN l := by have := List.mem_range.mp hv; omega
  exact List.idxOf_lt_length_of_mem (o.full v this)
theorem nodup_bound : ∀ (n : Nat) (l : List Nat), l.Nodup → (∀ v ∈ l, v < n) → l.length ≤ n
  | 0, l, _, h => by
    cases l with
    | nil => simp
    | cons a l => exact absurd (h a List.mem_cons_self) (by omega)
  | n + 1, l, hn, h => by
    have h1 := nodup_bound n (l.filter fun v => decide (v ≠ n)) (hn.filter _) fun v hv => by
      have := List.mem_filter.mp hv
      have h2 := h v this.1
      have h3 : v ≠ n := by simpa using this.2
      omega
    have h2 : l.length ≤ (l.filter fun v => decide (v ≠ n)).length + 1 := by
      clear h1 h
      induction l with
      | nil => simp
      | cons a l ih =>
        have hn' := List.nodup_cons.mp hn
        by_cases c : a = n
        · subst c
          have e : l.filter (fun v => decide (v ≠ a)) = l := List.filter_eq_self.mpr fun v hv => by
            have : v ≠ a := fun e => hn'.1 (by rw [← e]; exact hv)
            simpa using this
          simp only [List.filter_cons, List.length_cons]
          rw [e]; simp
        · simp only [List.filter_cons, List.length_cons]
          have := ih hn'.2
          simp [c] at this ⊢; omega
    omega
theorem LdOk.mx {l : List Nat} (o : LdOk l) : mxN l < 9 := by
  have h1 : ((List.range (mxN l + 1)).map fun v => l.idxOf v).Nodup := by
    refine List.pairwise_map.mpr (List.Pairwise.imp_of_mem (fun {a b} ha hb hab e => hab (idxOf_inj (o.full a ?_) (o.full b ?_) e)) List.nodup_range)
    · have := List.mem_range.mp ha; omega
    · have := List.mem_range.mp hb; omega
  have h2 := nodup_bound l.length _ h1 (o.lt)
  rw [List.length_map, List.length_range] at h2
  have := o.l9
  omega
theorem leads_eq {f : DEnv → M PyData} {i : Nat} {ρ : DEnv} {U : US} {l : List Nat} (o : LdOk l) (hf : f ρ U = some (natsT l, U)) {g : DEnv → M PyData} (hg : ∀ v, g ((wipeD ρ [i]).set i (some (.d (nat v)))) U = (gIndexT (natsT l) (nat v)).map fun d => (d, U)) :
    eLc (fRng (op2 gAdd (op1 gMax f) (eC (.int 1)))) [i] (aName i) yes g ρ U = some (natsL (leadsOf l), U) := by
  have o9 := o.l9
  have om := o.mx
  rw [eLc_map (xs := List.range (mxN l + 1)) (fun v => nat (l.idxOf v)) (fun v => Im.one (nat v)) (fRng_nat (op2_at (op1_at hf (gMax_nats o.ne (by omega) rfl)) (eC_at _) (gAdd_1 _)) (by omega)) (by rw [List.length_range]; exact Nat.le_trans (show mxN l + 1 ≤ 9 by omega) (by decide)) fun v hv => ⟨_, rfl, by
    rw [hg, gIndexT_nats (o.full v (by have := List.mem_range.mp hv; omega))]; rfl⟩]
  unfold natsL leadsOf
  rw [List.map_map]; rfl
def foldR (x : Lots) (r : Row) : Row := (ix x.1 r.1, ix x.2 r.2.1, (leadsOf x.2).map (fun i => ix x.2 (ix r.2.2.1 i)), (leadsOf x.2).map (fun i => ix x.2 (ix r.2.2.2 i)))
theorem leads_l9 {l : List Nat} (o : LdOk l) : (leadsOf l).length ≤ 9 := by rw [leads_len]; have := o.mx; omega
theorem F_row_folded_eq {r : Row} {n m : Nat} (R : RowOk n m r) (h1 : x.1.length = n) (h2 : x.2.length = m) (o : LdOk x.2) (U : US) : F_row_folded [.d (rowD r), .d (lotsD x), .d (natsL (leadsOf x.2))] U = some (rowD (foldR x r), U) := by
  have l9 := o.l9
  have lm : x.2.length ≤ lim := Nat.le_trans l9 (by decide)
  have ll : (leadsOf x.2).length ≤ lim := Nat.le_trans (leads_l9 o) (by decide)
  refine fnD_rt (seqE (sUnp_at (call3 (eVar_at rfl) (op2_at (eVar_at rfl) (eC_at _) rfl) (op2_at (eVar_at rfl) (eC_at _) rfl) (F_row_by_eq U (by rw [h1]; exact R.gL) (by rw [h2]; exact R.hL) (fun v hv => by rw [h2]; exact R.lx v hv) (fun v hv => by rw [h2]; exact R.rx v hv) (by rw [R.lL, ← h2]; exact lm) (by rw [R.rL, ← h2]; exact lm))) rfl) (sRet_at (tup4 (eVar_at rfl) (eVar_at rfl)
    (op1_at (eLc_map (xs := leadsOf x.2) (fun i => nat (ix x.2 (ix r.2.2.1 i))) (fun i => Im.one (nat i)) (fSeq_l (eVar_at rfl)) ll fun i hi => ⟨_, rfl, op2_at (eVar_at rfl) (eVar_at rfl) ?_⟩) ?_) (op1_at (eLc_map (xs := leadsOf x.2) (fun i => nat (ix x.2 (ix r.2.2.2 i))) (fun i => Im.one (nat i)) (fSeq_l (eVar_at rfl)) ll fun i hi => ⟨_, rfl, op2_at (eVar_at rfl) (eVar_at rfl) ?_⟩) ?_))))
  · have := o.lt i hi
    show gIx (natsT (r.2.2.1.map (ix x.2))) (nat i) = _
    rw [gIx_nats (by rw [List.length_map, R.lL]; omega), ix_map (by rw [R.lL]; omega)]
  · show some (PyData.tuple _) = _
    unfold foldR natsT; rw [List.map_map]; rfl
  · have := o.lt i hi
    show gIx (natsT (r.2.2.2.map (ix x.2))) (nat i) = _
    rw [gIx_nats (by rw [List.length_map, R.rL]; omega), ix_map (by rw [R.rL]; omega)]
  · show some (PyData.tuple _) = _
    unfold foldR natsT; rw [List.map_map]; rfl
theorem gIx_rows (w : WF B K) {f : Nat} (hf : f < B.ans.length) : gIx (rowsD B) (nat f) = some (bhD (bhAt B f)) := gIx_map_getD [] (by rw [w.rl]; exact hf)
theorem gIx_bh {bh : List (List Row)} {h : Nat} (hh : h < bh.length) : gIx (bhD bh) (nat h) = some (lineD (bh.getD h [])) := gIx_map_getD [] hh
end
end DL

set_option maxRecDepth 100000
set_option linter.all false
/-! E8: folded, the law's folded, heard. -/
namespace DL
open PySem PySem.Spec PyProof.Rows L2
theorem gAdd_c (a : Nat) (b : Nat) : gAdd (nat a) (nat b) = some (nat (a + b)) := by
  show some (PyData.int ((a : Int) + (b : Int))) = some (PyData.int ((a + b : Nat) : Int))
  rw [Int.natCast_add]
theorem op2_at' {g : PyData → PyData → Option PyData} {f f2 : DEnv → M PyData} {ρ : DEnv} {U : US} {d d2 : PyData} (h : f ρ U = some (d, U)) (h2 : f2 ρ U = some (d2, U)) : op2 g f f2 ρ U = (g d d2).map fun e => (e, U) := by
  unfold op2; rw [bnd_at h, bnd_at h2]; cases g d d2 <;> rfl
theorem ok_hard : ∀ (n : Nat) (d : PyData), okD n d → okD n (hardN n d)
  | 0, _, h => h
  | n + 1, d, h => by
    cases d with
    | list xs => exact ⟨by simpa using h.1, fun y hy => by obtain ⟨x, hx, rfl⟩ := List.mem_map.mp hy; exact ok_hard n x (h.2 x hx)⟩
    | tuple xs => exact ⟨by simpa using h.1, fun y hy => by obtain ⟨x, hx, rfl⟩ := List.mem_map.mp hy; exact ok_hard n x (h.2 x hx)⟩
    | _ => exact h
theorem hard_hard : ∀ (n : Nat) (d : PyData), hardN n (hardN n d) = hardN n d
  | 0, d => rfl
  | n + 1, d => by cases d <;> simp [hardN, hard_hard n]
section
variable {B : Bok} {K : Nat} {x : Lots} {bk lt : PyData}
theorem foldB_rows (B : Bok) (x : Lots) : (foldB B x).rows = (leadsOf x.1).map fun f => (leadsOf x.2).map fun h => (lnAt B f h).map (foldR x) := rfl
theorem beg_0 {ρ : DEnv} {U : US} {f : DEnv → M PyData} (h : f ρ U = some (bookD B, U)) : op2 gIx (op2 gIx f (eC (.int 2))) (eC (.int 0)) ρ U = some (nat B.b0, U) := op2_at (bk_beg h) rfl rfl
theorem beg_1 {ρ : DEnv} {U : US} {f : DEnv → M PyData} (h : f ρ U = some (bookD B, U)) : op2 gIx (op2 gIx f (eC (.int 2))) (eC (.int 1)) ρ U = some (nat B.b1, U) := op2_at (bk_beg h) rfl rfl
theorem F_folded_eq (w : WF B K) (nx : Nm B x) (o1 : LdOk x.1) (o2 : LdOk x.2) (hs : step B x = x) (ho : okD 8 bk) (hb : hardN 8 bk = bookD B) (lo : okD 8 lt) (lb : hardN 8 lt = lotsD x) (U : US) : F_folded [.d bk, .d lt] U = some (bookD (foldB B x), U) := by
  have l1 : (leadsOf x.1).length ≤ lim := Nat.le_trans (leads_l9 o1) (by decide)
  have l2 : (leadsOf x.2).length ≤ lim := Nat.le_trans (leads_l9 o2) (by decide)
  have fl : ∀ i ∈ leadsOf x.1, i < B.ans.length := fun i hi => by rw [← nx.l1]; exact o1.lt i hi
  have hl : ∀ i ∈ leadsOf x.2, i < B.lets.length := fun i hi => by rw [← nx.l2]; exact o2.lt i hi
  have okB : okD 8 (bookD B) := by rw [← hb]; exact ok_hard 8 bk ho
  have hhB : hardN 8 (bookD B) = bookD B := by rw [← hb, hard_hard]
  have hif : F_is_folding [.d (bookD B), .d (lotsD x)] U = some (.bool true, U) := by rw [F_is_folding_eq w nx okB hhB U, hs]; simp
  refine fnD_rt (seqE (sPar_at (aCons_at (call1 (eVar_at rfl) (by rw [F_tuple_of_eq 8 bk U ho, hb])) (aCons_at (call1 (eVar_at rfl) (by rw [F_tuple_of_eq 8 lt U lo, lb])) (aNil_at _ _))) rfl) (seqE (sIf_f (tNot_at (c := true) (tst_at (call2 (eVar_at rfl) (eVar_at rfl) hif))) rfl) ?_))
  unfold S3_folded
  refine seqE (sUnp_at (eVar_at rfl) rfl) (seqE (sNew_at (leads_eq o1 (eVar_at rfl) fun v => op2_at' (eVar_at rfl) (eVar_at rfl))) (frzE rfl (seqE (sSet_at (leads_eq o2 (eVar_at rfl) fun v => op2_at' (eVar_at rfl) (eVar_at rfl))) (seqE (sNew_at (nil_at _ _)) ?_))))
  refine forE (xs := leadsOf x.1) (fun i => Im.one (nat i))
    (fun k ρ => ∃ a b c d e, ρ = [some (.d bk), some (.d lt), some (.d (bookD B)), some (.d (lotsD x)), some (.d (natsT x.1)), some (.d (natsT x.2)), some (.d (natsL (leadsOf x.1))), a, some (.d (natsL (leadsOf x.2))),
      some (.m (((leadsOf x.1).take k).map fun f => bhD ((leadsOf x.2).map fun h => (lnAt B f h).map (foldR x)))), b, c, d, e])
    (fSeq_l (eVar_at rfl)) ⟨none, none, none, none, none, rfl⟩ ?_ ?_
  · rintro i f ρ hi ⟨a, b, c, d, e, rfl⟩
    have hf := fl f (List.mem_of_getElem? hi)
    refine ⟨_, rfl, _, sApp_at (d := bhD ((leadsOf x.2).map fun h => (lnAt B f h).map (foldR x))) (op1_at (eLc_map (xs := leadsOf x.2) (fun h => lineD ((lnAt B f h).map (foldR x))) (fun i => Im.one (nat i)) (fSeq_l (eVar_at rfl)) l2 fun h hh => ⟨_, rfl, ?_⟩) ?_) rfl ?_, ?_⟩
    · have hhl := hl h hh
      have lnl := w.lnl hf hhl
      have K9 := w.K9
      refine op1_at (eLc_t (xs := lnAt B f h) (e := rowD) (fun r => rowD (foldR x r)) (op2_at (op2_at (bk_rows (eVar_at rfl)) (eVar_at rfl) (gIx_rows w hf)) (eVar_at rfl) (gIx_bh (by rw [w.bhl hf]; exact hhl))) (by rw [lnl]; exact Nat.le_trans (show K + 1 ≤ 9 by omega) (by decide)) fun r hr => call3 (eVar_at rfl) (eVar_at rfl) (eVar_at rfl) (F_row_folded_eq (w.ro _ (w.bh hf) _ (w.ln hf hhl) r hr) nx.l1 nx.l2 o2 U)) ?_
      show some (PyData.tuple _) = _
      unfold lineD; rw [List.map_map]; rfl
    · show some (PyData.tuple _) = _
      unfold bhD; rw [List.map_map]; rfl
    · rw [List.length_map, List.length_take]
      have := leads_l9 o1
      exact Nat.lt_of_le_of_lt (show min i (leadsOf x.1).length ≤ 9 by omega) (by decide)
    · rw [take_map_succ hi]
      exact ⟨_, _, _, _, _, rfl⟩
  · rintro ρ' ⟨a, b, c, d, e, rfl⟩
    refine seqE (sSet_at (tup2 (op2_at (eVar_at rfl) (beg_0 (eVar_at rfl)) (gIx_nats (by rw [nx.l1]; exact w.c0))) (op2_at (eVar_at rfl) (beg_1 (eVar_at rfl)) (gIx_nats (by rw [nx.l2]; exact w.c1))))) (sRet_at (tup4
      (op1_at (eLc_map (xs := leadsOf x.1) (fun f => PyData.bool (B.ans.getD f false)) (fun i => Im.one (nat i)) (fSeq_l (eVar_at rfl)) l1 fun f hf => ⟨_, rfl, op2_at (bk_ans (eVar_at rfl)) (eVar_at rfl) (gIx_map_getD false (fl f hf))⟩) ?_)
      (op1_at (eLc_map (xs := leadsOf x.2) (fun h => nat (ix B.lets h)) (fun i => Im.one (nat i)) (fSeq_l (eVar_at rfl)) l2 fun h hh => ⟨_, rfl, op2_at (bk_lets (eVar_at rfl)) (eVar_at rfl) (gIx_nats (hl h hh))⟩) ?_)
      (eVar_at rfl) (op1_at (eBor_at rfl) ?_)))
    · show some (PyData.tuple _) = some (PyData.tuple ((foldB B x).ans.map .bool))
      unfold foldB; rw [List.map_map]; rfl
    · show some (PyData.tuple _) = some (natsT (foldB B x).lets)
      unfold foldB natsT; rw [List.map_map]; rfl
    · show some (PyData.tuple _) = some (rowsD (foldB B x))
      rw [List.take_length]
      unfold rowsD
      rw [foldB_rows, List.map_map]; rfl
theorem F_heard_eq (w : WF B K) (nx : Nm B x) (o1 : LdOk x.1) (o2 : LdOk x.2) (ho : okD 8 bk) (hb : hardN 8 bk = bookD B) (lo : okD 8 lt) (lb : hardN 8 lt = lotsD x) (U : US) : F__law_heard [.d bk, .d lt] U = some (if step B x = x then bookD (foldB B x) else .str "unfit", U) := by
  unfold F__law_heard fnT
  by_cases hs : step B x = x
  · rw [F_folded_eq w nx o1 o2 hs ho hb lo lb U, if_pos hs]
  · have okB : okD 8 (bookD B) := by rw [← hb]; exact ok_hard 8 bk ho
    have hhB : hardN 8 (bookD B) = bookD B := by rw [← hb, hard_hard]
    have hif : F_is_folding [.d (bookD B), .d (lotsD x)] U = some (.bool false, U) := by rw [F_is_folding_eq w nx okB hhB U]; simp [hs]
    have h1 : S1_folded (ent 14 [.d bk, .d lt]) U = some (.nx ([some (.d bk), some (.d lt), some (.d (bookD B)), some (.d (lotsD x)), none, none, none, none, none, none, none, none, none, none]), U) :=
      sPar_at (aCons_at (call1 (eVar_at rfl) (by rw [F_tuple_of_eq 8 bk U ho, hb])) (aCons_at (call1 (eVar_at rfl) (by rw [F_tuple_of_eq 8 lt U lo, lb])) (aNil_at _ _))) rfl
    have h2 : T_folded [some (.d bk), some (.d lt), some (.d (bookD B)), some (.d (lotsD x)), none, none, none, none, none, none, none, none, none, none] U = some (true, U) := tNot_at (c := false) (tst_at (call2 (eVar_at rfl) (eVar_at rfl) hif))
    have e1 : F_folded [.d bk, .d lt] U = none := by
      unfold F_folded fnD
      have : sSeq S1_folded (sSeq (sIf T_folded sNo sNil) S3_folded) (ent 14 [.d bk, .d lt]) U = none := by
        rw [sSeq_at h1]
        unfold sSeq sIf
        unfold bnd
        rw [h2]
        rfl
      unfold bnd
      rw [this]
    have e2 : G_folded [.d bk, .d lt] U = some ((), U) := by
      unfold G_folded fnX
      rw [bnd_at h1]
      show bnd (T_folded _) _ U = _
      rw [bnd_at h2]; rfl
    rw [e1, e2, if_neg hs]; rfl
theorem F_law_folded_eq (w : WF B K) (nx : Nm B x) (o1 : LdOk x.1) (o2 : LdOk x.2) (U : US) : F__law_folded [.d (bookD B), .d (lotsD x)] U = some (bookD (foldB B x), U) := by
  have l1 : (leadsOf x.1).length ≤ lim := Nat.le_trans (leads_l9 o1) (by decide)
  have l2 : (leadsOf x.2).length ≤ lim := Nat.le_trans (leads_l9 o2) (by decide)
  have c1 := leads_l9 o1
  have c2 := leads_l9 o2
  have fl : ∀ i ∈ leadsOf x.1, i < B.ans.length := fun i hi => by rw [← nx.l1]; exact o1.lt i hi
  have hl : ∀ i ∈ leadsOf x.2, i < B.lets.length := fun i hi => by rw [← nx.l2]; exact o2.lt i hi
  have K9 := w.K9
  have lim20 : (20 : Nat) < lim := by decide
  refine fnD_rt (seqE (sUnp_at (eVar_at rfl) rfl) (seqE (sPar_at (aCons_at (leads_eq o1 (eVar_at rfl) fun v => op2_at' (eVar_at rfl) (eVar_at rfl)) (aCons_at (leads_eq o2 (eVar_at rfl) fun v => op2_at' (eVar_at rfl) (eVar_at rfl)) (aConsN_at (nil_at _ _) (aNil_at _ _)))) rfl) ?_))
  refine forE (xs := leadsOf x.1) (fun i => Im.one (nat i))
    (fun k ρ => ∃ a7 a8 a9 a10 a11 a12 a13 a14 a15, ρ = [some (.d (bookD B)), some (.d (lotsD x)), some (.d (natsT x.1)), some (.d (natsT x.2)), some (.d (natsL (leadsOf x.1))), some (.d (natsL (leadsOf x.2))),
      some (.m (((leadsOf x.1).take k).map fun f => bhD ((leadsOf x.2).map fun h => (lnAt B f h).map (foldR x)))), a7, a8, a9, a10, a11, a12, a13, a14, a15])
    (fSeq_l (eVar_at rfl)) ⟨none, none, none, none, none, none, none, none, none, rfl⟩ ?_ ?_
  · rintro i f ρ hi ⟨a7, a8, a9, a10, a11, a12, a13, a14, a15, rfl⟩
    have hf := fl f (List.mem_of_getElem? hi)
    refine ⟨_, rfl, ?_⟩
    refine seqX (sNew_at (nil_at _ _)) ?_
    refine forSX (xs := leadsOf x.2) (fun i => Im.one (nat i))
      (fun k ρ => ∃ a7 a10 a11 a12 a13 a14 a15, ρ = [some (.d (bookD B)), some (.d (lotsD x)), some (.d (natsT x.1)), some (.d (natsT x.2)), some (.d (natsL (leadsOf x.1))), some (.d (natsL (leadsOf x.2))),
        some (.m (((leadsOf x.1).take i).map fun f => bhD ((leadsOf x.2).map fun h => (lnAt B f h).map (foldR x)))), a7, some (.d (nat f)), some (.m (((leadsOf x.2).take k).map fun h => lineD ((lnAt B f h).map (foldR x)))), a10, a11, a12, a13, a14, a15])
      (fSeq_l (eVar_at rfl)) ⟨_, _, _, _, _, _, _, rfl⟩ ?_ ?_
    · rintro j h ρ hj ⟨a7, a10, a11, a12, a13, a14, a15, rfl⟩
      have hh := hl h (List.mem_of_getElem? hj)
      have lnl := w.lnl hf hh
      refine ⟨_, rfl, ?_⟩
      refine seqX (sNew_at (nil_at _ _)) ?_
      refine forSX (xs := lnAt B f h) (fun r => Im.one (rowD r))
        (fun k ρ => ∃ a7 a12 a13 a14 a15, ρ = [some (.d (bookD B)), some (.d (lotsD x)), some (.d (natsT x.1)), some (.d (natsT x.2)), some (.d (natsL (leadsOf x.1))), some (.d (natsL (leadsOf x.2))),
          some (.m (((leadsOf x.1).take i).map fun f => bhD ((leadsOf x.2).map fun h => (lnAt B f h).map (foldR x)))), a7, some (.d (nat f)), some (.m (((leadsOf x.2).take j).map fun h => lineD ((lnAt B f h).map (foldR x)))), some (.d (nat h)),
          some (.m (((lnAt B f h).take k).map fun r => rowD (foldR x r))), a12, a13, a14, a15])
        (fSeq_t (op2_at (op2_at (bk_rows (eVar_at rfl)) (eVar_at rfl) (gIx_rows w hf)) (eVar_at rfl) (gIx_bh (by rw [w.bhl hf]; exact hh)))) ⟨_, _, _, _, _, rfl⟩ ?_ ?_
      · rintro k r ρ hk ⟨a7, a12, a13, a14, a15, rfl⟩
        have R := w.ro _ (w.bh hf) _ (w.ln hf hh) r (List.mem_of_getElem? hk)
        refine ⟨_, rfl, _, sApp_at (d := rowD (foldR x r)) (tup4 (op2_at (eVar_at rfl) (eVar_at rfl) (gIx_nats (by rw [nx.l1]; exact R.gL))) (op2_at (eVar_at rfl) (eVar_at rfl) (gIx_nats (by rw [nx.l2]; exact R.hL)))
          (op1_at (eLc_map (xs := leadsOf x.2) (fun i => nat (ix x.2 (ix r.2.2.1 i))) (fun i => Im.one (nat i)) (fSeq_l (eVar_at rfl)) l2 fun i hi => ⟨_, rfl, op2_at (eVar_at rfl) (op2_at (eVar_at rfl) (eVar_at rfl) (gIx_nats (by rw [R.lL]; exact hl i hi))) (gIx_nats (by rw [nx.l2]; exact R.lx _ (ix_mem (by rw [R.lL]; exact hl i hi))))⟩) ?_)
          (op1_at (eLc_map (xs := leadsOf x.2) (fun i => nat (ix x.2 (ix r.2.2.2 i))) (fun i => Im.one (nat i)) (fSeq_l (eVar_at rfl)) l2 fun i hi => ⟨_, rfl, op2_at (eVar_at rfl) (op2_at (eVar_at rfl) (eVar_at rfl) (gIx_nats (by rw [R.rL]; exact hl i hi))) (gIx_nats (by rw [nx.l2]; exact R.rx _ (ix_mem (by rw [R.rL]; exact hl i hi))))⟩) ?_)) rfl ?_, ?_⟩
        · show some (PyData.tuple _) = _
          unfold foldR natsT; rw [List.map_map]; rfl
        · show some (PyData.tuple _) = _
          unfold foldR natsT; rw [List.map_map]; rfl
        · rw [List.length_map, List.length_take]; omega
        · rw [take_map_succ hk]
          exact ⟨_, _, _, _, _, rfl⟩
      · rintro ρ' ⟨a7, a12, a13, a14, a15, rfl⟩
        refine ⟨_, sApp_at (d := lineD ((lnAt B f h).map (foldR x))) (op1_at (eBor_at rfl) ?_) rfl ?_, ?_⟩
        · show some (PyData.tuple _) = _
          rw [List.take_length]
          unfold lineD; rw [List.map_map]; rfl
        · rw [List.length_map, List.length_take]; omega
        · rw [take_map_succ hj]
          exact ⟨_, _, _, _, _, _, _, rfl⟩
    · rintro ρ' ⟨a7, a10, a11, a12, a13, a14, a15, rfl⟩
      refine ⟨_, sApp_at (d := bhD ((leadsOf x.2).map fun h => (lnAt B f h).map (foldR x))) (op1_at (eBor_at rfl) ?_) rfl ?_, ?_⟩
      · show some (PyData.tuple _) = _
        rw [List.take_length]
        unfold bhD; rw [List.map_map]; rfl
      · rw [List.length_map, List.length_take]; omega
      · rw [take_map_succ hi]
        exact ⟨_, _, _, _, _, _, _, _, _, rfl⟩
  · rintro ρ' ⟨a7, a8, a9, a10, a11, a12, a13, a14, a15, rfl⟩
    refine sRet_at (tup4
      (op1_at (eLc_map (xs := leadsOf x.1) (fun f => PyData.bool (B.ans.getD f false)) (fun i => Im.one (nat i)) (fSeq_l (eVar_at rfl)) l1 fun f hf => ⟨_, rfl, op2_at (bk_ans (eVar_at rfl)) (eVar_at rfl) (gIx_map_getD false (fl f hf))⟩) ?_)
      (op1_at (eLc_map (xs := leadsOf x.2) (fun h => nat (ix B.lets h)) (fun i => Im.one (nat i)) (fSeq_l (eVar_at rfl)) l2 fun h hh => ⟨_, rfl, op2_at (bk_lets (eVar_at rfl)) (eVar_at rfl) (gIx_nats (hl h hh))⟩) ?_)
      (tup2 (op2_at (eVar_at rfl) (beg_0 (eVar_at rfl)) (gIx_nats (by rw [nx.l1]; exact w.c0))) (op2_at (eVar_at rfl) (beg_1 (eVar_at rfl)) (gIx_nats (by rw [nx.l2]; exact w.c1)))) (op1_at (eBor_at rfl) ?_))
    · show some (PyData.tuple _) = some (PyData.tuple ((foldB B x).ans.map .bool))
      unfold foldB; rw [List.map_map]; rfl
    · show some (PyData.tuple _) = some (natsT (foldB B x).lets)
      unfold foldB natsT; rw [List.map_map]; rfl
    · show some (PyData.tuple _) = some (rowsD (foldB B x))
      rw [List.take_length]
      unfold rowsD
      rw [foldB_rows, List.map_map]; rfl
end
end DL

set_option maxRecDepth 100000
set_option linter.all false
/-! E9: the law's come, seen, coarsest. -/
namespace DL
open PySem PySem.Spec PyProof.Rows L2
section
variable {α : Type} [DecidableEq α] {e : α → PyData} {n : Nat}
theorem any_eqv (h : EI e n) (ks : List α) (a : α) : ((ks.map e).any fun z => PyData.eqv z (e a)) = ks.any fun y => decide (y = a) := by
  rw [List.any_map]
  exact any_congr_mem fun y _ => h.dec y a
theorem findEq_enc (h : EI e n) (a : α) : ∀ ks : List α, a ∈ ks → findEq (e a) (ks.map e) = some (ks.idxOf a)
  | [], hm => nomatch hm
  | y :: ks, hm => by
    rw [List.map_cons]
    unfold findEq
    rw [h.dec y a]
    by_cases c : y = a
    · subst c; simp
    · have hm' : a ∈ ks := by
        rcases List.mem_cons.mp hm with r | r
        · exact absurd r.symm c
        · exact r
      have c2 : (y == a) = false := by simpa using c
      simp [c, findEq_enc h a ks hm', List.idxOf_cons, c2]
theorem repsA_len : ∀ (xs k : List α), (repsA (fun a b => decide (a = b)) xs k).length ≤ xs.length + k.length
  | [], k => by simp [repsA]
  | z :: xs, k => by
    show (repsA _ xs (if k.any (fun y => decide (y = z)) then k else k ++ [z])).length ≤ _
    split
    · have := repsA_len xs k; simp; omega
    · have := repsA_len xs (k ++ [z]); simp at this ⊢; omega
theorem kn_take_succ {l : List α} {i : Nat} {a : α} (h : l[i]? = some a) : kn (l.take (i + 1)) = if (kn (l.take i)).any (fun y => decide (y = a)) then kn (l.take i) else kn (l.take i) ++ [a] := by
  show List.foldl _ _ _ = _
  rw [take_succ_get h, List.foldl_append]
  rfl
theorem F_law_come_eq (h : EI e n) (hn : n + 1 ≤ 64) {l : List α} (hl : l.length < lim) {d : PyData} (hd : seqOf d = some (l.map e)) (U : US) : F__law_come [.d d] U = some (natsT (cm l), U) := by
  have hs : ∀ ρ : DEnv, ρ[0]? = some (some (.d d)) → fSeq (eVar 0) ρ U = some (l.map (fun a => Im.one (e a)), U) := fun ρ h0 => by
    rw [fSeq_any (eVar_at h0) hd, List.map_map]; rfl
  refine fnD_rt (seqE (sSet_at (nil_at _ _)) (forE (xs := l) (fun a => Im.one (e a)) (fun k ρ => ∃ a, ρ = [some (.d d), some (.d (.list ((kn (l.take k)).map e))), a]) (hs _ rfl) ⟨none, rfl⟩ ?_ ?_))
  · rintro i a ρ hi ⟨j, rfl⟩
    have kl : (kn (l.take i)).length ≤ l.length := by
      have := repsA_len (l.take i) []
      have h2 : (l.take i).length ≤ l.length := by rw [List.length_take]; omega
      exact Nat.le_trans this (by simpa using h2)
    have c1 : gNotIn (e a) (.list ((kn (l.take i)).map e)) = some (.bool (!(kn (l.take i)).any fun y => decide (y = a))) := by
      show (if _ then _ else _) = _
      rw [if_pos ⟨h.shp (by omega) a, (ei_lst h).shp hn _⟩, any_eqv h]
    refine ⟨_, rfl, _, sSet_at (d := .list ((kn (l.take (i + 1))).map e)) (op2_at (eVar_at rfl) (op2_at (eLst_at (ds := [_]) (aCons_at (eVar_at rfl) (aNil_at _ _)) (by simp [lim])) (op1_at (op2_at (eVar_at rfl) (eVar_at rfl) c1) rfl) (show gRep (.list [e a]) (.int (if (!(kn (l.take i)).any fun y => decide (y = a)) = true then 1 else 0)) = some (.list (if (kn (l.take i)).any (fun y => decide (y = a)) = true then [] else [e a])) from ?_)) ?_), ?_⟩
    · cases (kn (l.take i)).any fun y => decide (y = a) <;> rfl
    · rw [kn_take_succ hi]
      show (if ((kn (l.take i)).map e).length + _ ≤ lim then _ else _) = _
      cases (kn (l.take i)).any fun y => decide (y = a) with
      | true =>
        rw [if_pos (by simp only [if_true, List.length_map, List.length_nil]; omega)]
        simp
      | false =>
        rw [if_pos (by simp only [Bool.false_eq_true, if_false, List.length_map, List.length_cons, List.length_nil]; omega)]
        simp
    · exact ⟨_, rfl⟩
  · rintro ρ' ⟨j, rfl⟩
    rw [List.take_length]
    refine sRet_at (op1_at (eLc_map (xs := l) (fun a => nat ((kn l).idxOf a)) (fun a => Im.one (e a)) (hs _ rfl) (Nat.le_of_lt hl) fun a ha => ⟨_, rfl, op2_at (eVar_at rfl) (eVar_at rfl) ?_⟩) ?_)
    · show (if SeqAt.shaped (.list ((kn l).map e)) = true ∧ SeqAt.shaped (e a) = true then _ else _) = _
      rw [if_pos ⟨(ei_lst h).shp hn _, h.shp (by omega) a⟩, findEq_enc h a _ (kn_mem.mpr ha)]
      rfl
    · rw [cm_eq]
      show some (PyData.tuple _) = _
      unfold natsT; rw [List.map_map]; rfl
end
def seenD (r : Row) : PyData := .tuple [nat r.1, nat r.2.1, natsL r.2.2.1, natsL r.2.2.2]
def encSF (z : Nat × List (List Row)) : PyData := .tuple [nat z.1, .list (z.2.map fun ln => .list (ln.map seenD))]
def encSH (z : Nat × List (List Row) × List (List (Nat × Nat))) : PyData := .tuple [nat z.1, .list (z.2.1.map fun ln => .list (ln.map seenD)), .list (z.2.2.map fun l => .list (l.map pairD))]
theorem ei_seen : EI seenD 2 := ei_4 (ei_nat 1) (ei_nat 1) (ei_lst (ei_nat 0)) (ei_lst (ei_nat 0))
theorem ei_SF : EI encSF 5 := ei_2 (ei_nat 4) (ei_lst (ei_lst ei_seen))
theorem ei_pair (n : Nat) : EI pairD (n + 1) := ei_2 (ei_nat n) (ei_nat n)
theorem ei_SH : EI encSH 5 := ei_3 (ei_nat 4) (ei_lst (ei_lst ei_seen)) (ei_lst (ei_lst (ei_pair 1)))
section
variable {B : Bok} {K : Nat} {x : Lots}
theorem F_seen_eq {r : Row} {n m : Nat} (R : RowOk n m r) (h1 : x.1.length = n) (h2 : x.2.length = m) (h9 : m ≤ 9) (U : US) : F__law_seen [.d (rowD r), .d (natsT x.1), .d (natsT x.2)] U = some (seenD (byLot x r), U) := by
  have lm : m ≤ lim := Nat.le_trans h9 (by decide)
  refine fnD_rt (sRet_at (tup4 (U3 := U) (op2_at (eVar_at rfl) (op2_at (eVar_at rfl) (eC_at _) rfl) (gIx_nats (by rw [h1]; exact R.gL))) (op2_at (eVar_at rfl) (op2_at (eVar_at rfl) (eC_at _) rfl) (gIx_nats (by rw [h2]; exact R.hL))) ?_ ?_))
  · rw [eLc_t (xs := r.2.2.1) (e := nat) (fun v => nat (ix x.2 v)) (row_2 (eVar_at rfl)) (by rw [R.lL]; exact lm) fun v hv => op2_at (eVar_at rfl) (eVar_at rfl) (gIx_nats (by rw [h2]; exact R.lx v hv))]
    show _ = some (natsL (r.2.2.1.map (ix x.2)), U)
    unfold natsL; rw [List.map_map]; rfl
  · rw [eLc_t (xs := r.2.2.2) (e := nat) (fun v => nat (ix x.2 v)) (row_3 (eVar_at rfl)) (by rw [R.rL]; exact lm) fun v hv => op2_at (eVar_at rfl) (eVar_at rfl) (gIx_nats (by rw [h2]; exact R.rx v hv))]
    show _ = some (natsL (r.2.2.2.map (ix x.2)), U)
    unfold natsL; rw [List.map_map]; rfl
/-- a line as the law sees it -/
theorem seen_line {ln : List Row} {i : Nat} {g gl : DEnv → M PyData} {n m : Nat} {ρ : DEnv} {U : US} (h1 : x.1.length = n) (h2 : x.2.length = m) (h9 : m ≤ 9) (ro : ∀ r ∈ ln, RowOk n m r) (hl : ln.length ≤ 9) (hg : gl ρ U = some (lineD ln, U))
    (q : ∀ r, g ((wipeD ρ [i]).set i (some (.d (rowD r)))) U = F__law_seen [.d (rowD r), .d (natsT x.1), .d (natsT x.2)] U) :
    eLc (fSeq gl) [i] (aName i) yes g ρ U = some (.list ((ln.map (byLot x)).map seenD), U) := by
  rw [eLc_t (xs := ln) (e := rowD) (fun r => seenD (byLot x r)) hg (Nat.le_trans hl (by decide)) fun r hr => by rw [q r, F_seen_eq (ro r hr) h1 h2 h9 U], List.map_map]
  rfl
abbrev bCoa : DEnv → M Out := (sSeq (sNew 4 (eLst aNil)) (sSeq (sFor (fEnum (op2 gIx (eVar 0) (eC (.int 3)))) (aTup [5, 6]) (sApp 4 (eTup (aCons (op2 gIx (eVar 1) (eVar 5)) (aCons (eLc (fSeq (eVar 6)) [8] (aName 8) yes (eLc (fSeq (eVar 8)) [7] (aName 7) yes (eCall 3 F__law_seen (aCons (eVar 7) (aCons (eVar 1) (aCons (eVar 2) aNil)))))) aNil))))) (sFrz 4 (sSeq (sPar [9, 4] (aCons (eCall 1 F__law_come (aCons (eVar 4) aNil)) (aConsN (eLst aNil) aNil))) (sSeq (sFor (fRng (op1 gLen (eVar 2))) (aName 10) (sSeq (sPar [11, 12] (aConsN (eLst aNil) (aConsN (eLst aNil) aNil))) (sSeq (sFor (fSeq (op2 gIx (eVar 0) (eC (.int 3)))) (aName 6) (sSeq (sApp 11 (eLc (fSeq (op2 gIx (eVar 6) (eVar 10))) [7] (aName 7) yes (eCall 3 F__law_seen (aCons (eVar 7) (aCons (eVar 1) (aCons (eVar 2) aNil)))))) (sFor (fSeq (eVar 6)) (aName 8) (sApp 12 (eLc (fSeq (eVar 8)) [7] (aName 7) yes (eTup (aCons (op2 gIx (eVar 2) (op2 gIx (op2 gIx (eVar 7) (eC (.int 2))) (eVar 10))) (aCons (op2 gIx (eVar 2) (op2 gIx (op2 gIx (eVar 7) (eC (.int 3))) (eVar 10))) aNil)))))))) (sFrz 12 (sFrz 11 (sApp 4 (eTup (aCons (op2 gIx (eVar 2) (eVar 10)) (aCons (eVar 11) (aCons (eVar 12) aNil)))))))))) (sFrz 4 (sSeq (sSet 13 (eCall 1 F__law_come (aCons (eVar 4) aNil))) (sSeq (sSet 3 (op2 gNe (eTup (aCons (eVar 9) (aCons (eVar 13) aNil))) (eTup (aCons (eVar 1) (aCons (eVar 2) aNil))))) (sPar [1, 2] (aCons (eVar 9) (aCons (eVar 13) aNil)))))))))))
theorem bCoa_eq (w : WF B K) (l1 : x.1.length = B.ans.length) (l2 : x.2.length = B.lets.length) (t : PyData) (a4 a5 a6 a7 a8 a9 a10 a11 a12 a13 : Option Sl) (U : US) :
    ∃ ρ2, bCoa [some (.d (bookD B)), some (.d (natsT x.1)), some (.d (natsT x.2)), some (.d t), a4, a5, a6, a7, a8, a9, a10, a11, a12, a13] U = some (.nx ρ2, U) ∧
      ∃ b4 b5 b6 b7 b8 b9 b10 b11 b12 b13, ρ2 = [some (.d (bookD B)), some (.d (natsT (stepL B x).1)), some (.d (natsT (stepL B x).2)), some (.d (.bool (decide (stepL B x ≠ x)))), b4, b5, b6, b7, b8, b9, b10, b11, b12, b13] := by
  have K9 := w.K9
  have n9 := w.n9
  have m9 := w.m9
  have rl := w.rl
  have lim2000 : (2000 : Nat) < lim := by decide
  have q1 : ∀ U, F__law_come [.d (.list ((List.range B.ans.length).map fun f => encSF (seenF B x f)))] U = some (natsT (stepL B x).1, U) := fun U =>
    F_law_come_eq ei_SF (by omega) (l := (List.range B.ans.length).map (seenF B x)) (by rw [List.length_map, List.length_range]; omega) (by rw [List.map_map]; rfl) U
  have q2 : ∀ U, F__law_come [.d (.list ((List.range B.lets.length).map fun h => encSH (seenH B x h)))] U = some (natsT (stepL B x).2, U) := fun U =>
    F_law_come_eq ei_SH (by omega) (l := (List.range B.lets.length).map (seenH B x)) (by rw [List.length_map, List.length_range]; omega) (by rw [List.map_map]; rfl) U
  refine seqX (sNew_at (nil_at _ _)) (forSX (xs := B.rows.zipIdx) (fun p => Im.many [nat p.2, bhD p.1])
    (fun k ρ => ∃ a5 a6 a7 a8 a9 a10 a11 a12 a13, ρ = [some (.d (bookD B)), some (.d (natsT x.1)), some (.d (natsT x.2)), some (.d t), some (.m ((List.range k).map fun f => encSF (seenF B x f))), a5, a6, a7, a8, a9, a10, a11, a12, a13])
    (fEnum_t (bk_rows (eVar_at rfl)) rfl) ⟨_, _, _, _, _, _, _, _, _, rfl⟩ ?_ ?_)
  · rintro i p ρ hp ⟨a5, a6, a7, a8, a9, a10, a11, a12, a13, rfl⟩
    obtain ⟨hp1, hp2⟩ := zipIdx_get hp
    obtain ⟨bh, j⟩ := p
    dsimp only at hp1 hp2
    subst hp2
    have hj : j < B.rows.length := (List.getElem?_eq_some_iff.mp hp1).1
    have hjn : j < B.ans.length := by omega
    have hbm : bh ∈ B.rows := List.mem_of_getElem? hp1
    have hbl := w.bl bh hbm
    refine ⟨_, rfl, _, sApp_at (d := encSF (seenF B x j)) (tup2 (op2_at (eVar_at rfl) (eVar_at rfl) (gIx_nats (by rw [l1]; exact hjn))) ?_) rfl ?_, ?_⟩
    · rw [eLc_t (xs := bh) (e := lineD) (fun ln => PyData.list ((ln.map (byLot x)).map seenD)) (eVar_at rfl) (by omega) fun ln hln => seen_line l1 l2 m9 (w.ro bh hbm ln hln) (by rw [w.ll bh hbm ln hln]; omega) (eVar_at rfl) fun r => call3 (eVar_at rfl) (eVar_at rfl) (eVar_at rfl) rfl]
      show _ = some (PyData.list (((B.rows.getD j []).map fun ln => ln.map (byLot x)).map fun ln => PyData.list (ln.map seenD)), U)
      rw [List.getD_eq_getElem?_getD, hp1, List.map_map]; rfl
    · rw [List.length_map, List.length_range]; omega
    · rw [range_map_succ]
      exact ⟨_, _, _, _, _, _, _, _, _, rfl⟩
  rintro ρ' ⟨a5, a6, a7, a8, a9, a10, a11, a12, a13, rfl⟩
  rw [List.length_zipIdx, rl]
  refine frzX rfl (seqX (sPar_at (aCons_at (call1 (eVar_at rfl) (q1 U)) (aConsN_at (nil_at _ _) (aNil_at _ _))) rfl) ?_)
  refine forSX (xs := List.range B.lets.length) (fun i => Im.one (nat i))
    (fun k ρ => ∃ a5 a6 a7 a8 a10 a11 a12 a13, ρ = [some (.d (bookD B)), some (.d (natsT x.1)), some (.d (natsT x.2)), some (.d t), some (.m ((List.range k).map fun h => encSH (seenH B x h))), a5, a6, a7, a8, some (.d (natsT (stepL B x).1)), a10, a11, a12, a13])
    (fRng_nat (op1_at (eVar_at rfl) (show gLen (natsT x.2) = some (nat B.lets.length) from by show some (PyData.int ((x.2.map nat).length : Nat)) = _; rw [List.length_map, l2])) (by omega)) ⟨_, _, _, _, _, _, _, _, rfl⟩ ?_ ?_
  · rintro i j ρ hi ⟨a5, a6, a7, a8, a10, a11, a12, a13, rfl⟩
    have hij : j = i := by
      obtain ⟨z1, z2⟩ := List.getElem?_eq_some_iff.mp hi
      rw [← z2]; simp
    subst hij
    have hj : j < B.lets.length := by have := (List.getElem?_eq_some_iff.mp hi).1; simpa using this
    refine ⟨_, rfl, seqX (sPar_at (aConsN_at (nil_at _ _) (aConsN_at (nil_at _ _) (aNil_at _ _))) rfl) ?_⟩
    refine forSX (xs := B.rows) (fun bh => Im.one (bhD bh))
      (fun k ρ => ∃ a5 a6 a7 a8 a13, ρ = [some (.d (bookD B)), some (.d (natsT x.1)), some (.d (natsT x.2)), some (.d t), some (.m ((List.range j).map fun h => encSH (seenH B x h))), a5, a6, a7, a8, some (.d (natsT (stepL B x).1)), some (.d (nat j)),
        some (.m ((B.rows.take k).map fun bh => PyData.list (((bh.getD j []).map (byLot x)).map seenD))), some (.m (((B.rows.take k).flatMap fun bh => bh.map fun ln => ln.map (pr x.2 j)).map fun l => PyData.list (l.map pairD))), a13])
      (fSeq_t (bk_rows (eVar_at rfl))) ⟨_, _, _, _, _, rfl⟩ ?_ ?_
    · rintro k bh ρ hk ⟨a5, a6, a7, a8, a13, rfl⟩
      have hkl : k < B.rows.length := (List.getElem?_eq_some_iff.mp hk).1
      have hbm : bh ∈ B.rows := List.mem_of_getElem? hk
      have hbl := w.bl bh hbm
      have hlm : bh.getD j [] ∈ bh := getD_mem [] (by rw [hbl]; exact hj)
      refine ⟨_, rfl, seqX (sApp_at (seen_line l1 l2 m9 (w.ro bh hbm _ hlm) (by rw [w.ll bh hbm _ hlm]; omega) (op2_at (eVar_at rfl) (eVar_at rfl) (gIx_map_getD [] (by rw [hbl]; exact hj))) fun r => call3 (eVar_at rfl) (eVar_at rfl) (eVar_at rfl) rfl) rfl ?_) ?_⟩
      · rw [List.length_map, List.length_take]; omega
      · refine forX (xs := bh) (fun ln => Im.one (lineD ln))
          (fun k2 ρ => ∃ a5 a7 a8 a13, ρ = [some (.d (bookD B)), some (.d (natsT x.1)), some (.d (natsT x.2)), some (.d t), some (.m ((List.range j).map fun h => encSH (seenH B x h))), a5, some (.d (bhD bh)), a7, a8, some (.d (natsT (stepL B x).1)), some (.d (nat j)),
            some (.m (((B.rows.take k).map fun bh => PyData.list (((bh.getD j []).map (byLot x)).map seenD)) ++ [PyData.list (((bh.getD j []).map (byLot x)).map seenD)])),
            some (.m ((((B.rows.take k).flatMap fun bh => bh.map fun ln => ln.map (pr x.2 j)) ++ (bh.take k2).map fun ln => ln.map (pr x.2 j)).map fun l => PyData.list (l.map pairD))), a13])
          (fSeq_t (eVar_at rfl)) ⟨a5, a7, a8, a13, by simp⟩ ?_ ?_
        · rintro k2 ln ρ hk2 ⟨a5, a7, a8, a13, rfl⟩
          have hlnm : ln ∈ bh := List.mem_of_getElem? hk2
          have hk2l : k2 < bh.length := (List.getElem?_eq_some_iff.mp hk2).1
          have lnl := w.ll bh hbm ln hlnm
          refine ⟨_, rfl, _, sApp_at (d := PyData.list ((ln.map (pr x.2 j)).map pairD)) ?_ rfl ?_, ?_⟩
          · rw [eLc_t (xs := ln) (e := rowD) (fun r => pairD (pr x.2 j r)) (eVar_at rfl) (by omega) fun r hr => ?_, List.map_map]
            · rfl
            · have R := w.ro bh hbm ln hlnm r hr
              refine tup2 (op2_at (eVar_at rfl) (op2_at (row_2 (eVar_at rfl)) (eVar_at rfl) (gIx_nats (by rw [R.lL]; exact hj))) (gIx_nats ?_)) (op2_at (eVar_at rfl) (op2_at (row_3 (eVar_at rfl)) (eVar_at rfl) (gIx_nats (by rw [R.rL]; exact hj))) (gIx_nats ?_))
              · rw [l2]; exact R.lx _ (ix_mem (by rw [R.lL]; exact hj))
              · rw [l2]; exact R.rx _ (ix_mem (by rw [R.rL]; exact hj))
          · rw [List.length_map, List.length_append, List.length_map, List.length_take]
            have g1 : ((B.rows.take k).flatMap fun bh => bh.map fun ln => ln.map (pr x.2 j)).length ≤ (B.rows.take k).length * 9 := flatMap_len fun bh2 h2 => by
              rw [List.length_map, w.bl bh2 (List.mem_of_mem_take h2)]; omega
            rw [List.length_take] at g1
            omega
          · rw [take_map_succ hk2, ← List.append_assoc, List.map_append (l₂ := [ln.map (pr x.2 j)])]
            exact ⟨_, _, _, _, rfl⟩
        · rintro ρ' ⟨a5, a7, a8, a13, rfl⟩
          rw [take_map_succ hk, flatMap_take_succ hk, List.take_length]
          exact ⟨_, _, _, _, _, rfl⟩
    · rintro ρ' ⟨a5, a6, a7, a8, a13, rfl⟩
      refine frzX rfl (frzX rfl ⟨_, sApp_at (d := encSH (seenH B x j)) (tup3 (op2_at (eVar_at rfl) (eVar_at rfl) (gIx_nats (by rw [l2]; exact hj))) (eVar_at ?_) (eVar_at ?_)) rfl ?_, ?_⟩)
      · rw [List.take_length]
        unfold seenH
        rw [List.map_map]; rfl
      · rw [List.take_length]
        rfl
      · rw [List.length_map, List.length_range]; omega
      · rw [range_map_succ]
        exact ⟨_, _, _, _, _, _, _, _, rfl⟩
  · rintro ρ' ⟨a5, a6, a7, a8, a10, a11, a12, a13, rfl⟩
    rw [List.length_range]
    refine frzX rfl (seqX (sSet_at (call1 (eVar_at rfl) (q2 U))) (seqX (sSet_at (op2_at (tup2 (eVar_at rfl) (eVar_at rfl)) (tup2 (eVar_at rfl) (eVar_at rfl)) (ei_lots.gne (by omega) (stepL B x) x))) ⟨_, sPar_at (aCons_at (eVar_at rfl) (aCons_at (eVar_at rfl) (aNil_at _ _))) rfl, ?_⟩))
    exact ⟨_, _, _, _, _, _, _, _, _, _, rfl⟩
end
end DL

set_option maxRecDepth 100000
set_option linter.all false
/-! E10: coarsest, meet, is_one. -/
namespace DL
open PySem PySem.Spec PyProof.Rows L2
section
variable {B : Bok} {K : Nat} {x : Lots}
def stC (B : Bok) (x : Lots) (c : Bool) (j : List (Option Sl)) : DEnv := [some (.d (bookD B)), some (.d (natsT x.1)), some (.d (natsT x.2)), some (.d (.bool c))] ++ j
theorem coa_go (w : WF B K) (U : US) : ∀ (k : Nat) (x : Lots) (n : Nat) {y : Lots} (a4 a5 a6 a7 a8 a9 a10 a11 a12 a13 : Option Sl), Nm B x → Rf B x → fixL (stepL B) k x = some y → k + 1 ≤ n →
    ∃ b4 b5 b6 b7 b8 b9 b10 b11 b12 b13, whGo (tst (eVar 3)) bCoa n [some (.d (bookD B)), some (.d (natsT x.1)), some (.d (natsT x.2)), some (.d (.bool true)), a4, a5, a6, a7, a8, a9, a10, a11, a12, a13] U =
      some (.nx [some (.d (bookD B)), some (.d (natsT y.1)), some (.d (natsT y.2)), some (.d (.bool false)), b4, b5, b6, b7, b8, b9, b10, b11, b12, b13], U)
  | 0, x, n, y, _, _, _, _, _, _, _, _, _, _, _, _, h, _ => by cases h
  | k + 1, x, 0, y, _, _, _, _, _, _, _, _, _, _, _, _, _, h => by omega
  | k + 1, x, n + 1, y, a4, a5, a6, a7, a8, a9, a10, a11, a12, a13, nx, rx, h, hn => by
    obtain ⟨ρ2, hb, b4, b5, b6, b7, b8, b9, b10, b11, b12, b13, rfl⟩ := bCoa_eq w nx.l1 nx.l2 (.bool true) a4 a5 a6 a7 a8 a9 a10 a11 a12 a13 U
    unfold fixL at h
    by_cases c : stepL B x = x
    · rw [if_pos c] at h
      cases h
      obtain ⟨n', rfl⟩ : ∃ n', n = n' + 1 := ⟨n - 1, by omega⟩
      have e : decide (x ≠ x) = false := by simp
      rw [c, e] at hb
      exact ⟨b4, b5, b6, b7, b8, b9, b10, b11, b12, b13, whGo_t (tst_at (eVar_at rfl)) hb (whGo_f (tst_at (eVar_at rfl)))⟩
    · rw [if_neg c] at h
      have ns : Nm B (stepL B x) := by rw [← step_stepL rx]; exact nm_step B x
      have rs : Rf B (stepL B x) := by rw [← step_stepL rx]; exact rf_step B x
      obtain ⟨c4, c5, c6, c7, c8, c9, c10, c11, c12, c13, hz⟩ := coa_go w U k (stepL B x) n b4 b5 b6 b7 b8 b9 b10 b11 b12 b13 ns rs h (by omega)
      have e : decide (stepL B x ≠ x) = true := by simp [c]
      rw [e] at hb
      exact ⟨c4, c5, c6, c7, c8, c9, c10, c11, c12, c13, whGo_t (tst_at (eVar_at rfl)) hb hz⟩
theorem F_coarsest_eq (w : WF B K) {y : Lots} (hy : fixL (step B) 900 (x0 B) = some y) (U : US) : F__law_coarsest [.d (bookD B)] U = some (lotsD y, U) := by
  have a1 : F__law_come [.d (.tuple (B.ans.map .bool))] U = some (natsT (x0 B).1, U) := F_law_come_eq (ei_bool 0) (by omega) (Nat.lt_of_le_of_lt w.n9 (by decide)) rfl U
  have a2 : F__law_come [.d (natsT B.lets)] U = some (natsT (x0 B).2, U) := F_law_come_eq (ei_nat 0) (by omega) (Nat.lt_of_le_of_lt w.m9 (by decide)) rfl U
  rw [← fixL_same 900 (x0 B) (rf_x0 B)] at hy
  obtain ⟨c4, c5, c6, c7, c8, c9, c10, c11, c12, c13, hz⟩ := coa_go w U 900 (x0 B) 1000 none none none none none none none none none none (nm_x0 B) (rf_x0 B) hy (by omega)
  exact fnD_rt (seqE (sPar_at (aCons_at (call1 (bk_ans (eVar_at rfl)) a1) (aCons_at (call1 (bk_lets (eVar_at rfl)) a2) (aCons_at (eC_at _) (aNil_at _ _)))) rfl) (seqE hz (sRet_at (tup2 (eVar_at rfl) (eVar_at rfl)))))
/-! loops that may end early with False -/
def Chk (c : Prop) (U : US) (Q : DEnv → Prop) (r : Option (Out × US)) : Prop := (c ∧ ∃ ρ', r = some (.nx ρ', U) ∧ Q ρ') ∨ (¬ c ∧ r = some (.rt (.bool false), U))
theorem Chk.iff {c d : Prop} {U : US} {Q : DEnv → Prop} {r : Option (Out × US)} (h : Chk c U Q r) (e : c ↔ d) : Chk d U Q r := by
  unfold Chk at h ⊢; rw [← e]; exact h
theorem Chk.imp {c : Prop} {U : US} {Q R : DEnv → Prop} {r : Option (Out × US)} (h : Chk c U Q r) (e : ∀ ρ, Q ρ → R ρ) : Chk c U R r := by
  rcases h with ⟨hc, ρ', h1, h2⟩ | h
  · exact .inl ⟨hc, ρ', h1, e _ h2⟩
  · exact .inr h
theorem forGo_chk {asg : Im → DEnv → Option DEnv} {b : DEnv → M Out} {U : US} {α : Type} (m : α → Im) (P : α → Prop) (I : DEnv → Prop) : ∀ (xs : List α) (ρ : DEnv), I ρ →
    (∀ x ∈ xs, ∀ ρ, I ρ → ∃ ρ1, asg (m x) ρ = some ρ1 ∧ Chk (P x) U I (b ρ1 U)) → Chk (∀ x ∈ xs, P x) U I (forGo asg b (xs.map m) ρ U)
  | [], ρ, h, _ => .inl ⟨(fun _ h => nomatch h), ρ, rfl, h⟩
  | x :: xs, ρ, h, q => by
    obtain ⟨ρ1, h1, h2⟩ := q x List.mem_cons_self ρ h
    have e : forGo asg b ((x :: xs).map m) ρ U = bnd (b ρ1) (fun o => match o with | .nx ρ2 => forGo asg b (xs.map m) ρ2 | .rt d => rt (.rt d)) U := by
      rw [List.map_cons]
      show bnd (lf (asg (m x) ρ)) _ U = _
      rw [h1]
      exact bnd_at (lf_at ρ1 U)
    rw [e]
    rcases h2 with ⟨hp, ρ2, h3, h4⟩ | ⟨hp, h3⟩
    · rw [bnd_at h3]
      have ih := forGo_chk m P I xs ρ2 h4 fun y hy => q y (List.mem_cons_of_mem _ hy)
      exact ih.iff (by simp [hp])
    · rw [bnd_at h3]
      exact .inr ⟨fun z => hp (z x List.mem_cons_self), rfl⟩
theorem sFor_chk {f : DEnv → M (List Im)} {asg : Im → DEnv → Option DEnv} {b : DEnv → M Out} {ρ : DEnv} {U : US} {α : Type} {xs : List α} (m : α → Im) (P : α → Prop) (I : DEnv → Prop) (hf : f ρ U = some (xs.map m, U)) (h0 : I ρ)
    (q : ∀ x ∈ xs, ∀ ρ, I ρ → ∃ ρ1, asg (m x) ρ = some ρ1 ∧ Chk (P x) U I (b ρ1 U)) : Chk (∀ x ∈ xs, P x) U I (sFor f asg b ρ U) := by
  unfold sFor
  rw [bnd_at hf]
  exact forGo_chk m P I xs ρ h0 q
theorem chk_seq {s t : DEnv → M Out} {ρ : DEnv} {U : US} {c d : Prop} {Q R : DEnv → Prop} (h : Chk c U Q (s ρ U)) (k : c → ∀ ρ', Q ρ' → Chk d U R (t ρ' U)) : Chk (c ∧ d) U R (sSeq s t ρ U) := by
  rcases h with ⟨hc, ρ', h1, h2⟩ | ⟨hc, h1⟩
  · rw [sSeq_at h1]
    exact (k hc ρ' h2).iff (by simp [hc])
  · exact .inr ⟨fun z => hc z.1, seq_rt h1⟩
/-- at the end True -/
theorem chk_end {s : DEnv → M Out} {ρ : DEnv} {U : US} {c : Prop} {Q : DEnv → Prop} (h : Chk c U Q (s ρ U)) : ∃ b, sSeq s (sRet (eC (.bool true))) ρ U = some (.rt (.bool b), U) ∧ (b = true ↔ c) := by
  rcases h with ⟨hc, ρ', h1, h2⟩ | ⟨hc, h1⟩
  · exact ⟨true, seqE h1 (sRet_at (eC_at _)), by simp [hc]⟩
  · exact ⟨false, seq_rt h1, by simp [hc]⟩
/-- if t: return False -/
theorem chk_if {t : DEnv → M Bool} {ρ : DEnv} {U : US} {c : Bool} {P : Prop} {Q : DEnv → Prop} (h : t ρ U = some (c, U)) (e : c = false ↔ P) (q : Q ρ) : Chk P U Q (sIf t (sRet (eC (.bool false))) sNil ρ U) := by
  cases c with
  | true => exact .inr ⟨(fun z => by have := e.mpr z; cases this), sIf_t h (sRet_at (eC_at _))⟩
  | false => exact .inl ⟨e.mp rfl, ρ, sIf_f h rfl, q⟩
/-- if t: .. -/
theorem chk_then {t : DEnv → M Bool} {s : DEnv → M Out} {ρ : DEnv} {U : US} {c : Bool} {P R : Prop} {Q : DEnv → Prop} (h : t ρ U = some (c, U)) (e : c = true ↔ P) (q : Q ρ) (k : P → Chk R U Q (s ρ U)) : Chk (P → R) U Q (sIf t s sNil ρ U) := by
  cases c with
  | true =>
    have hp := e.mp rfl
    have := (k hp).iff (d := P → R) (by simp [hp])
    rw [show sIf t s sNil ρ U = s ρ U from sIf_t h rfl]
    exact this
  | false =>
    have hp : ¬ P := fun z => by have := e.mpr z; cases this
    exact .inl ⟨fun z => absurd z hp, ρ, sIf_f h rfl, q⟩
/-! zips -/
theorem zipIm_map {α β : Type} {e : α → PyData} {f : β → PyData} : ∀ (xs : List α) (ys : List β), zipIm (xs.map e) (ys.map f) = (xs.zip ys).map fun p => Im.many [e p.1, f p.2]
  | [], _ => by simp [zipIm]
  | _ :: _, [] => by simp [zipIm]
  | x :: xs, y :: ys => by simp [zipIm, zipIm_map xs ys]
theorem fZip_t {f g : DEnv → M PyData} {ρ : DEnv} {U : US} {α β : Type} {xs : List α} {ys : List β} {e : α → PyData} {k : β → PyData} (h1 : f ρ U = some (.tuple (xs.map e), U)) (h2 : g ρ U = some (.tuple (ys.map k), U)) : fZip f g ρ U = some ((xs.zip ys).map fun p => Im.many [e p.1, k p.2], U) := by
  unfold fZip
  rw [bnd_at h1, bnd_at h2]
  show rt (zipIm _ _) U = _
  rw [zipIm_map]; rfl
theorem zip_all {α β : Type} {xs : List α} {ys : List β} (d : α) (e : β) (h : xs.length = ys.length) {P : α → β → Prop} : (∀ p ∈ xs.zip ys, P p.1 p.2) ↔ ∀ i, i < xs.length → P (xs.getD i d) (ys.getD i e) := by
  constructor
  · intro q i hi
    refine q (xs.getD i d, ys.getD i e) ?_
    refine List.mem_iff_getElem?.mpr ⟨i, ?_⟩
    rw [List.getElem?_zip_eq_some]
    have hi2 : i < ys.length := by omega
    exact ⟨(by show xs[i]? = some (xs.getD i d); rw [List.getD_eq_getElem?_getD, List.getElem?_eq_getElem hi]; rfl), (by show ys[i]? = some (ys.getD i e); rw [List.getD_eq_getElem?_getD, List.getElem?_eq_getElem hi2]; rfl)⟩
  · intro q p hp
    obtain ⟨i, hi⟩ := List.mem_iff_getElem?.mp hp
    obtain ⟨h1, h2⟩ := List.getElem?_zip_eq_some.mp hi
    have hl := (List.getElem?_eq_some_iff.mp h1).1
    have := q i hl
    rw [List.getD_eq_getElem?_getD, List.getD_eq_getElem?_getD, h1, h2] at this
    exact this
/-- a comprehension with a condition -/
theorem lcGo_filter {asg : Im → DEnv → Option DEnv} {t : DEnv → M Bool} {g : DEnv → M PyData} {ρ : DEnv} {U : US} {α : Type} (h : α → PyData) (m : α → Im) (p : α → Bool) : ∀ (xs : List α), (∀ x ∈ xs, ∃ ρ1, asg (m x) ρ = some ρ1 ∧ t ρ1 U = some (p x, U) ∧ (p x = true → g ρ1 U = some (h x, U))) → lcGo asg t g ρ (xs.map m) U = some ((xs.filter p).map h, U)
  | [], _ => rfl
  | x :: xs, q => by
    obtain ⟨ρ1, h1, h2, h3⟩ := q x List.mem_cons_self
    have ih := lcGo_filter (asg := asg) (t := t) (g := g) (ρ := ρ) (U := U) h m p xs fun y hy => q y (List.mem_cons_of_mem _ hy)
    rw [List.map_cons]
    unfold lcGo
    rw [h1, bnd_at (lf_at ρ1 U), bnd_at h2]
    cases c : p x with
    | true =>
      rw [if_pos rfl, bnd_at (h3 c), bnd_at ih, List.filter_cons, c]; rfl
    | false =>
      rw [if_neg Bool.false_ne_true, List.filter_cons, c]
      exact ih
theorem eLc_filter {f : DEnv → M (List Im)} {own : List Nat} {asg : Im → DEnv → Option DEnv} {t : DEnv → M Bool} {g : DEnv → M PyData} {ρ : DEnv} {U : US} {α : Type} {xs : List α} (h : α → PyData) (m : α → Im) (p : α → Bool) (hf : f ρ U = some (xs.map m, U)) (hl : xs.length ≤ lim)
    (q : ∀ x ∈ xs, ∃ ρ1, asg (m x) (wipeD ρ own) = some ρ1 ∧ t ρ1 U = some (p x, U) ∧ (p x = true → g ρ1 U = some (h x, U))) : eLc f own asg t g ρ U = some (.list ((xs.filter p).map h), U) := by
  unfold eLc
  rw [bnd_at hf, if_pos (by simpa using hl), bnd_at (lcGo_filter h m p xs q)]; rfl
theorem gAny_map {α : Type} (xs : List α) (p : α → Bool) : gAny (.list (xs.map fun x => PyData.bool (p x))) = some (.bool (xs.any p)) := by
  show (toBs (xs.map fun x => PyData.bool (p x))).map _ = _
  have : xs.map (fun x => PyData.bool (p x)) = (xs.map p).map PyData.bool := by rw [List.map_map]; rfl
  rw [this, toBs_map]
  simp
theorem gAll_map {α : Type} (xs : List α) (p : α → Bool) : gAll (.list (xs.map fun x => PyData.bool (p x))) = some (.bool (xs.all p)) := by
  show (toBs (xs.map fun x => PyData.bool (p x))).map _ = _
  have : xs.map (fun x => PyData.bool (p x)) = (xs.map p).map PyData.bool := by rw [List.map_map]; rfl
  rw [this, toBs_map]
  simp
end
end DL

set_option maxRecDepth 100000
set_option linter.all false
/-! E11: meet, is_one. -/
namespace DL
open PySem PySem.Spec PyProof.Rows L2
theorem tOr_b {t u : DEnv → M Bool} {ρ : DEnv} {U : US} {c d : Bool} (h : t ρ U = some (c, U)) (k : u ρ U = some (d, U)) : tOrD t u ρ U = some (c || d, U) := by
  cases c with
  | true => exact tOr_t h
  | false => exact tOr_f h k
def side (k : Nat) (r : Row) : List Nat := if k = 2 then r.2.2.1 else r.2.2.2
section
variable {B : Bok} {K : Nat} {x : Lots}
theorem F_meet_eq {r s : Row} {n m : Nat} (R : RowOk n m r) (S : RowOk n m s) (h1 : x.1.length = n) (h2 : x.2.length = m) (h9 : m ≤ 9) (U : US) : ∃ b, F__law_meet [.d (rowD r), .d (rowD s), .d (natsT x.1), .d (natsT x.2)] U = some (.bool b, U) ∧ (b = true ↔ Meet m x r s) := by
  have lim9 : (9 : Nat) < lim := by decide
  have sideL : ∀ k, k ∈ [2, 3] → ∀ {z : Row}, RowOk n m z → (side k z).length = m ∧ (∀ v ∈ side k z, v < m) ∧ gIx (rowD z) (nat k) = some (natsT (side k z)) := by
    intro k hk z Z
    have : k = 2 ∨ k = 3 := by simpa using hk
    rcases this with rfl | rfl
    · exact ⟨Z.lL, Z.lx, rfl⟩
    · exact ⟨Z.rL, Z.rx, rfl⟩
  have main : Chk ((ix x.1 r.1 = ix x.1 s.1 ∧ ix x.2 r.2.1 = ix x.2 s.2.1) ∧ ∀ k ∈ [2, 3], ∀ p ∈ (side k r).zip x.2, ∀ q ∈ (side k s).zip x.2, q.2 = p.2 → ix x.2 p.1 = ix x.2 q.1) U (fun _ => True)
      (sSeq (sIf (tOrD (tst (op2 gNe (op2 gIx (eVar 2) (op2 gIx (eVar 0) (eC (.int 0)))) (op2 gIx (eVar 2) (op2 gIx (eVar 1) (eC (.int 0)))))) (tst (op2 gNe (op2 gIx (eVar 3) (op2 gIx (eVar 0) (eC (.int 1)))) (op2 gIx (eVar 3) (op2 gIx (eVar 1) (eC (.int 1))))))) (sRet (eC (.bool false))) sNil)
        (sFor (fSeq (eTup (aCons (eC (.int 2)) (aCons (eC (.int 3)) aNil)))) (aName 4) (sFor (fZip (op2 gIx (eVar 0) (eVar 4)) (eVar 3)) (aTup [5, 6]) (sIf (tst (op1 gAny (eLc (fZip (op2 gIx (eVar 1) (eVar 4)) (eVar 3)) [7, 8] (aTup [7, 8]) (tst (op2 gEq (eVar 8) (eVar 6))) (op2 gNe (op2 gIx (eVar 3) (eVar 5)) (op2 gIx (eVar 3) (eVar 7)))))) (sRet (eC (.bool false))) sNil)))
        (ent 9 [.d (rowD r), .d (rowD s), .d (natsT x.1), .d (natsT x.2)]) U) := by
    refine chk_seq (Q := fun ρ => ρ = ent 9 [.d (rowD r), .d (rowD s), .d (natsT x.1), .d (natsT x.2)]) (chk_if (tOr_b (tst_at (op2_at (op2_at (eVar_at rfl) (op2_at (eVar_at rfl) (eC_at _) rfl) (gIx_nats (by rw [h1]; exact R.gL))) (op2_at (eVar_at rfl) (op2_at (eVar_at rfl) (eC_at _) rfl) (gIx_nats (by rw [h1]; exact S.gL))) ((ei_nat 0).gne (by omega) _ _)))
      (tst_at (op2_at (op2_at (eVar_at rfl) (op2_at (eVar_at rfl) (eC_at _) rfl) (gIx_nats (by rw [h2]; exact R.hL))) (op2_at (eVar_at rfl) (op2_at (eVar_at rfl) (eC_at _) rfl) (gIx_nats (by rw [h2]; exact S.hL))) ((ei_nat 0).gne (by omega) _ _)))) (by simp) rfl) ?_
    rintro - ρ' rfl
    refine Chk.imp (Q := fun ρ => ∃ a b c d e, ρ = [some (.d (rowD r)), some (.d (rowD s)), some (.d (natsT x.1)), some (.d (natsT x.2)), a, b, c, d, e]) (sFor_chk (xs := [2, 3]) (fun k => Im.one (nat k)) _ _ (fSeq_t (xs := [2, 3]) (e := nat) (tup2 (eC_at _) (eC_at _))) ⟨none, none, none, none, none, rfl⟩ ?_) fun _ _ => trivial
    rintro k hk ρ ⟨a, b, c, d, e, rfl⟩
    obtain ⟨r1, r2, r3⟩ := sideL k hk R
    obtain ⟨s1, s2, s3⟩ := sideL k hk S
    refine ⟨_, rfl, ?_⟩
    refine Chk.imp (Q := fun ρ => ∃ b c d e, ρ = [some (.d (rowD r)), some (.d (rowD s)), some (.d (natsT x.1)), some (.d (natsT x.2)), some (.d (nat k)), b, c, d, e]) (sFor_chk (xs := (side k r).zip x.2) (fun p => Im.many [nat p.1, nat p.2]) (fun p => ∀ q ∈ (side k s).zip x.2, q.2 = p.2 → ix x.2 p.1 = ix x.2 q.1) _ (fZip_t (op2_at (eVar_at rfl) (eVar_at rfl) r3) (eVar_at rfl)) ⟨_, _, _, _, rfl⟩ ?_) fun ρ ⟨b, c, d, e, h⟩ => ⟨_, _, _, _, _, h⟩
    rintro p hp ρ ⟨b, c, d, e, rfl⟩
    have hp1 : p.1 < x.2.length := by rw [h2]; exact r2 _ (List.of_mem_zip hp).1
    refine ⟨_, rfl, ?_⟩
    refine chk_if (tst_at (op1_at (eLc_filter (xs := (side k s).zip x.2) (fun q => PyData.bool (decide (ix x.2 p.1 ≠ ix x.2 q.1))) (fun q => Im.many [nat q.1, nat q.2]) (fun q => decide (q.2 = p.2)) (fZip_t (op2_at (eVar_at rfl) (eVar_at rfl) s3) (eVar_at rfl)) (by rw [List.length_zip]; omega) fun q hq => ⟨_, rfl, tst_at (op2_at (eVar_at rfl) (eVar_at rfl) ((ei_nat 0).geq (by omega) _ _)), fun _ => op2_at (op2_at (eVar_at rfl) (eVar_at rfl) (gIx_nats hp1)) (op2_at (eVar_at rfl) (eVar_at rfl) (gIx_nats (by rw [h2]; exact s2 _ (List.of_mem_zip hq).1))) ((ei_nat 0).gne (by omega) _ _)⟩) (gAny_map _ _))) ?_ ⟨_, _, _, _, rfl⟩
    rw [List.any_eq_false]
    constructor
    · intro z q hq e2
      have := z q (List.mem_filter.mpr ⟨hq, by simpa using e2⟩)
      simpa using this
    · intro z q hq
      obtain ⟨q1, q2⟩ := List.mem_filter.mp hq
      simpa using z q q1 (by simpa using q2)
  have e1 : (∀ k ∈ [2, 3], ∀ p ∈ (side k r).zip x.2, ∀ q ∈ (side k s).zip x.2, q.2 = p.2 → ix x.2 p.1 = ix x.2 q.1) ↔ ∀ k ∈ [2, 3], ∀ i j, i < m → j < m → ix x.2 i = ix x.2 j → ix x.2 (ix (side k r) i) = ix x.2 (ix (side k s) j) := by
    have e2 : ∀ k, k ∈ [2, 3] → ((∀ p ∈ (side k r).zip x.2, ∀ q ∈ (side k s).zip x.2, q.2 = p.2 → ix x.2 p.1 = ix x.2 q.1) ↔ ∀ i j, i < m → j < m → ix x.2 i = ix x.2 j → ix x.2 (ix (side k r) i) = ix x.2 (ix (side k s) j)) := by
      intro k hk
      obtain ⟨r1, r2, r3⟩ := sideL k hk R
      obtain ⟨s1, s2, s3⟩ := sideL k hk S
      rw [zip_all (P := fun a b => ∀ q ∈ (side k s).zip x.2, q.2 = b → ix x.2 a = ix x.2 q.1) 0 0 (by rw [r1, h2])]
      constructor
      · intro z i j hi hj e
        have := (zip_all (P := fun a b => b = x.2.getD i 0 → ix x.2 ((side k r).getD i 0) = ix x.2 a) 0 0 (by rw [s1, h2])).mp (z i (by omega)) j (by omega)
        exact this e.symm
      · intro z i hi
        refine (zip_all (P := fun a b => b = x.2.getD i 0 → ix x.2 ((side k r).getD i 0) = ix x.2 a) 0 0 (by rw [s1, h2])).mpr fun j hj e => ?_
        exact z i j (by omega) (by omega) e.symm
    exact ⟨fun z k hk => (e2 k hk).mp (z k hk), fun z k hk => (e2 k hk).mpr (z k hk)⟩
  obtain ⟨b, hb1, hb2⟩ := chk_end main
  refine ⟨b, fnD_rt ?_, hb2.trans ?_⟩
  · rw [← hb1]
    unfold S__law_meet sSeq
    unfold bnd
    generalize sIf _ _ _ (ent 9 _) U = z
    cases z with
    | none => rfl
    | some z =>
      obtain ⟨o, U'⟩ := z
      cases o <;> rfl
  · rw [e1]
    unfold Meet
    constructor
    · rintro ⟨⟨a1, a2⟩, a3⟩
      exact ⟨a1, a2, fun i j hi hj e => a3 2 (by simp) i j hi hj e, fun i j hi hj e => a3 3 (by simp) i j hi hj e⟩
    · rintro ⟨a1, a2, a3, a4⟩
      refine ⟨⟨a1, a2⟩, fun k hk => ?_⟩
      have : k = 2 ∨ k = 3 := by simpa using hk
      rcases this with rfl | rfl
      · exact a3
      · exact a4
theorem zipIdx_all {α : Type} {xs : List α} (d : α) {P : α → Nat → Prop} : (∀ p ∈ xs.zipIdx, P p.1 p.2) ↔ ∀ i, i < xs.length → P (xs.getD i d) i := by
  constructor
  · intro q i hi
    refine q (xs.getD i d, i) (List.mem_iff_getElem?.mpr ⟨i, ?_⟩)
    rw [List.getElem?_zipIdx, List.getD_eq_getElem?_getD, List.getElem?_eq_getElem hi]
    simp
  · intro q p hp
    obtain ⟨i, hi⟩ := List.mem_iff_getElem?.mp hp
    obtain ⟨h1, h2⟩ := zipIdx_get hi
    have hl := (List.getElem?_eq_some_iff.mp h1).1
    have := q i hl
    rw [List.getD_eq_getElem?_getD, h1] at this
    rw [h2]
    exact this
theorem mem_zipIdx_of {α : Type} {xs : List α} {p : α × Nat} (h : p ∈ xs.zipIdx) : p.1 ∈ xs ∧ p.2 < xs.length ∧ xs[p.2]? = some p.1 := by
  obtain ⟨i, hi⟩ := List.mem_iff_getElem?.mp h
  obtain ⟨h1, h2⟩ := zipIdx_get hi
  subst h2
  exact ⟨List.mem_of_getElem? h1, (List.getElem?_eq_some_iff.mp h1).1, h1⟩
end
end DL

set_option maxRecDepth 100000
set_option linter.all false
/-! E12: is_one. -/
namespace DL
open PySem PySem.Spec PyProof.Rows L2
section
variable {B : Bok} {K : Nat} {x : Lots}
abbrev ifK : DEnv → M Out := (sIf (tst (op2 gEq (op2 gIx (eVar 3) (eVar 8)) (op2 gIx (eVar 3) (eVar 10)))) (sIf (tOrD (tst (op2 gNe (op2 gIx (op2 gIx (eVar 0) (eC (.int 1))) (eVar 8)) (op2 gIx (op2 gIx (eVar 0) (eC (.int 1))) (eVar 10)))) (tNotD (tst (op1 gAll (eLc (fZip (eVar 9) (eVar 11)) [12, 13] (aTup [12, 13]) yes (eCall 4 F__law_meet (aCons (eVar 12) (aCons (eVar 13) (aCons (eVar 2) (aCons (eVar 3) aNil)))))))))) (sRet (eC (.bool false))) sNil) sNil)
def PK (B : Bok) (x : Lots) (ln : List Row) (h : Nat) (fr : List Row) (k : Nat) : Prop := ix x.2 h = ix x.2 k → ix B.lets h = ix B.lets k ∧ ∀ p ∈ ln.zip fr, Meet B.lets.length x p.1 p.2
theorem call4 {F : List Sl → M PyData} {f1 f2 f3 f4 : DEnv → M PyData} {ρ : DEnv} {U : US} {d1 d2 d3 d4 : PyData} {r : Option (PyData × US)} (h1 : f1 ρ U = some (d1, U)) (h2 : f2 ρ U = some (d2, U)) (h3 : f3 ρ U = some (d3, U)) (h4 : f4 ρ U = some (d4, U)) (k : F [.d d1, .d d2, .d d3, .d d4] U = r) : eCall 4 F (aCons f1 (aCons f2 (aCons f3 (aCons f4 aNil)))) ρ U = r := eCall_at (aCons_at h1 (aCons_at h2 (aCons_at h3 (aCons_at h4 (aNil_at _ _))))) ⟨rfl, rfl⟩ k
theorem all_meet (h1 : x.1.length = B.ans.length) (h2 : x.2.length = B.lets.length) (h9 : B.lets.length ≤ 9) {ln fr : List Row} (ro : ∀ r ∈ ln, RowOk B.ans.length B.lets.length r) (so : ∀ r ∈ fr, RowOk B.ans.length B.lets.length r) (hl : ln.length ≤ 9) {ρ : DEnv} {U : US} {f g : DEnv → M PyData}
    (hf : f ρ U = some (lineD ln, U)) (hg : g ρ U = some (lineD fr, U)) {c : DEnv → M PyData} (hc : ∀ r s, c (((wipeD ρ [12, 13]).set 12 (some (.d (rowD r)))).set 13 (some (.d (rowD s)))) U = F__law_meet [.d (rowD r), .d (rowD s), .d (natsT x.1), .d (natsT x.2)] U) :
    ∃ b, tst (op1 gAll (eLc (fZip f g) [12, 13] (aTup [12, 13]) yes c)) ρ U = some (b, U) ∧ (b = true ↔ ∀ p ∈ ln.zip fr, Meet B.lets.length x p.1 p.2) := by
  have lim9 : (9 : Nat) < lim := by decide
  have M : ∀ p ∈ ln.zip fr, ∃ b, F__law_meet [.d (rowD p.1), .d (rowD p.2), .d (natsT x.1), .d (natsT x.2)] U = some (.bool b, U) ∧ (b = true ↔ Meet B.lets.length x p.1 p.2) := fun p hp => F_meet_eq (ro _ (List.of_mem_zip hp).1) (so _ (List.of_mem_zip hp).2) h1 h2 h9 U
  obtain ⟨z, hz⟩ : ∃ z : Row × Row → Bool, ∀ p ∈ ln.zip fr, F__law_meet [.d (rowD p.1), .d (rowD p.2), .d (natsT x.1), .d (natsT x.2)] U = some (.bool (z p), U) ∧ (z p = true ↔ Meet B.lets.length x p.1 p.2) := by
    classical
    refine ⟨fun p => if h : p ∈ ln.zip fr then (M p h).choose else false, fun p hp => ?_⟩
    have := (M p hp).choose_spec
    simp only [hp, dite_true]
    exact this
  refine ⟨(ln.zip fr).all z, tst_at (op1_at (eLc_map (xs := ln.zip fr) (fun p => PyData.bool (z p)) (fun p => Im.many [rowD p.1, rowD p.2]) (fZip_t hf hg) (by rw [List.length_zip]; omega) fun p hp => ⟨_, rfl, by rw [hc]; exact (hz p hp).1⟩) (gAll_map _ _)), ?_⟩
  rw [List.all_eq_true]
  exact ⟨fun q p hp => (hz p hp).2.mp (q p hp), fun q p hp => (hz p hp).2.mpr (q p hp)⟩
theorem ifK_chk (w : WF B K) (h1 : x.1.length = B.ans.length) (h2 : x.2.length = B.lets.length) {ln fr : List Row} {h k : Nat} (hh : h < B.lets.length) (hk : k < B.lets.length) (ro : ∀ r ∈ ln, RowOk B.ans.length B.lets.length r) (so : ∀ r ∈ fr, RowOk B.ans.length B.lets.length r) (hl : ln.length ≤ 9)
    (a4 a5 a6 a7 a12 a13 : Option Sl) (U : US) {Q : DEnv → Prop} (q : Q [some (.d (bookD B)), some (.d (lotsD x)), some (.d (natsT x.1)), some (.d (natsT x.2)), a4, a5, a6, a7, some (.d (nat h)), some (.d (lineD ln)), some (.d (nat k)), some (.d (lineD fr)), a12, a13]) :
    Chk (PK B x ln h fr k) U Q (ifK [some (.d (bookD B)), some (.d (lotsD x)), some (.d (natsT x.1)), some (.d (natsT x.2)), a4, a5, a6, a7, some (.d (nat h)), some (.d (lineD ln)), some (.d (nat k)), some (.d (lineD fr)), a12, a13] U) := by
  refine chk_then (tst_at (op2_at (op2_at (eVar_at rfl) (eVar_at rfl) (gIx_nats (by rw [h2]; exact hh))) (op2_at (eVar_at rfl) (eVar_at rfl) (gIx_nats (by rw [h2]; exact hk))) ((ei_nat 0).geq (by omega) _ _))) (by simp) q fun _ => ?_
  obtain ⟨b, hb1, hb2⟩ := all_meet (ρ := [some (.d (bookD B)), some (.d (lotsD x)), some (.d (natsT x.1)), some (.d (natsT x.2)), a4, a5, a6, a7, some (.d (nat h)), some (.d (lineD ln)), some (.d (nat k)), some (.d (lineD fr)), a12, a13]) (U := U) (f := eVar 9) (g := eVar 11) (c := eCall 4 F__law_meet (aCons (eVar 12) (aCons (eVar 13) (aCons (eVar 2) (aCons (eVar 3) aNil)))))
    h1 h2 w.m9 ro so hl (eVar_at rfl) (eVar_at rfl) fun r s => call4 (eVar_at rfl) (eVar_at rfl) (eVar_at rfl) (eVar_at rfl) rfl
  refine chk_if (tOr_b (tst_at (op2_at (op2_at (bk_lets (eVar_at rfl)) (eVar_at rfl) (gIx_nats hh)) (op2_at (bk_lets (eVar_at rfl)) (eVar_at rfl) (gIx_nats hk)) ((ei_nat 0).gne (by omega) _ _))) (tNot_at hb1)) ?_ q
  rw [← hb2]
  cases b <;> simp
abbrev ifG : DEnv → M Out := (sIf (tst (op2 gEq (op2 gIx (eVar 2) (eVar 4)) (op2 gIx (eVar 2) (eVar 6)))) (sSeq (sIf (tst (op2 gNe (op2 gIx (op2 gIx (eVar 0) (eC (.int 0))) (eVar 4)) (op2 gIx (op2 gIx (eVar 0) (eC (.int 0))) (eVar 6)))) (sRet (eC (.bool false))) sNil) (sFor (fEnum (eVar 5)) (aTup [8, 9]) (sFor (fEnum (eVar 7)) (aTup [10, 11]) ifK))) sNil)
def PG (B : Bok) (x : Lots) (bh : List (List Row)) (f : Nat) (bi : List (List Row)) (g : Nat) : Prop := ix x.1 f = ix x.1 g → B.ans.getD f false = B.ans.getD g false ∧ ∀ p ∈ bh.zipIdx, ∀ q ∈ bi.zipIdx, PK B x p.1 p.2 q.1 q.2
theorem fEnum_tt {f : DEnv → M PyData} {ρ : DEnv} {U U' : US} {α : Type} {xs : List α} {e : α → PyData} (h : f ρ U = some (.tuple (xs.map e), U')) : fEnum f ρ U = some ((xs.zipIdx).map fun p => Im.many [nat p.2, e p.1], U') := fEnum_t h rfl
theorem ifG_chk (w : WF B K) (h1 : x.1.length = B.ans.length) (h2 : x.2.length = B.lets.length) {bh bi : List (List Row)} {f g : Nat} (hf : f < B.ans.length) (hg : g < B.ans.length) (hb : bh ∈ B.rows) (hi : bi ∈ B.rows)
    (a8 a9 a10 a11 a12 a13 : Option Sl) (U : US) :
    Chk (PG B x bh f bi g) U (fun ρ => ∃ a8 a9 a10 a11 a12 a13, ρ = [some (.d (bookD B)), some (.d (lotsD x)), some (.d (natsT x.1)), some (.d (natsT x.2)), some (.d (nat f)), some (.d (bhD bh)), some (.d (nat g)), some (.d (bhD bi)), a8, a9, a10, a11, a12, a13])
      (ifG [some (.d (bookD B)), some (.d (lotsD x)), some (.d (natsT x.1)), some (.d (natsT x.2)), some (.d (nat f)), some (.d (bhD bh)), some (.d (nat g)), some (.d (bhD bi)), a8, a9, a10, a11, a12, a13] U) := by
  have bl := w.bl bh hb
  have il := w.bl bi hi
  have K9 := w.K9
  refine chk_then (tst_at (op2_at (op2_at (eVar_at rfl) (eVar_at rfl) (gIx_nats (by rw [h1]; exact hf))) (op2_at (eVar_at rfl) (eVar_at rfl) (gIx_nats (by rw [h1]; exact hg))) ((ei_nat 0).geq (by omega) _ _))) (by simp) ⟨_, _, _, _, _, _, rfl⟩ fun _ => ?_
  refine chk_seq (Q := fun ρ => ρ = [some (.d (bookD B)), some (.d (lotsD x)), some (.d (natsT x.1)), some (.d (natsT x.2)), some (.d (nat f)), some (.d (bhD bh)), some (.d (nat g)), some (.d (bhD bi)), a8, a9, a10, a11, a12, a13]) (chk_if (tst_at (op2_at (op2_at (bk_ans (eVar_at rfl)) (eVar_at rfl) (gIx_map_getD false hf)) (op2_at (bk_ans (eVar_at rfl)) (eVar_at rfl) (gIx_map_getD false hg)) ((ei_bool 0).gne (by omega) _ _))) (by simp) rfl) ?_
  rintro - ρ' rfl
  refine sFor_chk (xs := bh.zipIdx) (fun p => Im.many [nat p.2, lineD p.1]) (fun p => ∀ q ∈ bi.zipIdx, PK B x p.1 p.2 q.1 q.2) _ (fEnum_tt (eVar_at rfl)) ⟨_, _, _, _, _, _, rfl⟩ ?_
  rintro p hp ρ ⟨a8, a9, a10, a11, a12, a13, rfl⟩
  obtain ⟨p1, p2, _⟩ := mem_zipIdx_of hp
  refine ⟨_, rfl, ?_⟩
  refine Chk.imp (Q := fun ρ => ∃ a10 a11 a12 a13, ρ = [some (.d (bookD B)), some (.d (lotsD x)), some (.d (natsT x.1)), some (.d (natsT x.2)), some (.d (nat f)), some (.d (bhD bh)), some (.d (nat g)), some (.d (bhD bi)), some (.d (nat p.2)), some (.d (lineD p.1)), a10, a11, a12, a13])
    (sFor_chk (xs := bi.zipIdx) (fun q => Im.many [nat q.2, lineD q.1]) (fun q => PK B x p.1 p.2 q.1 q.2) _ (fEnum_tt (eVar_at rfl)) ⟨_, _, _, _, rfl⟩ ?_) fun ρ ⟨a, b, c, d, h⟩ => ⟨_, _, _, _, _, _, h⟩
  rintro q hq ρ ⟨a10, a11, a12, a13, rfl⟩
  obtain ⟨q1, q2, _⟩ := mem_zipIdx_of hq
  exact ⟨_, rfl, ifK_chk w h1 h2 (by omega) (by omega) (w.ro bh hb _ p1) (w.ro bi hi _ q1) (by rw [w.ll bh hb _ p1]; omega) _ _ _ _ _ _ U ⟨_, _, _, _, rfl⟩⟩
theorem F_is_one_eq (w : WF B K) (h1 : x.1.length = B.ans.length) (h2 : x.2.length = B.lets.length) (U : US) : ∃ b, F__law_is_one [.d (bookD B), .d (lotsD x)] U = some (.bool b, U) ∧ (b = true ↔ IsOne B K x) := by
  have rl := w.rl
  have main : Chk (∀ p ∈ B.rows.zipIdx, ∀ q ∈ B.rows.zipIdx, PG B x p.1 p.2 q.1 q.2) U (fun ρ => ∃ a4 a5 a6 a7 a8 a9 a10 a11 a12 a13, ρ = [some (.d (bookD B)), some (.d (lotsD x)), some (.d (natsT x.1)), some (.d (natsT x.2)), a4, a5, a6, a7, a8, a9, a10, a11, a12, a13])
      (sFor (fEnum (op2 gIx (eVar 0) (eC (.int 3)))) (aTup [4, 5]) (sFor (fEnum (op2 gIx (eVar 0) (eC (.int 3)))) (aTup [6, 7]) ifG) [some (.d (bookD B)), some (.d (lotsD x)), some (.d (natsT x.1)), some (.d (natsT x.2)), none, none, none, none, none, none, none, none, none, none] U) := by
    refine sFor_chk (xs := B.rows.zipIdx) (fun p => Im.many [nat p.2, bhD p.1]) (fun p => ∀ q ∈ B.rows.zipIdx, PG B x p.1 p.2 q.1 q.2) _ (fEnum_tt (bk_rows (eVar_at rfl))) ⟨_, _, _, _, _, _, _, _, _, _, rfl⟩ ?_
    rintro p hp ρ ⟨a4, a5, a6, a7, a8, a9, a10, a11, a12, a13, rfl⟩
    obtain ⟨p1, p2, _⟩ := mem_zipIdx_of hp
    refine ⟨_, rfl, ?_⟩
    refine Chk.imp (Q := fun ρ => ∃ a6 a7 a8 a9 a10 a11 a12 a13, ρ = [some (.d (bookD B)), some (.d (lotsD x)), some (.d (natsT x.1)), some (.d (natsT x.2)), some (.d (nat p.2)), some (.d (bhD p.1)), a6, a7, a8, a9, a10, a11, a12, a13])
      (sFor_chk (xs := B.rows.zipIdx) (fun q => Im.many [nat q.2, bhD q.1]) (fun q => PG B x p.1 p.2 q.1 q.2) _ (fEnum_tt (bk_rows (eVar_at rfl))) ⟨_, _, _, _, _, _, _, _, rfl⟩ ?_) fun ρ ⟨a, b, c, d, e, f, g, h, z⟩ => ⟨_, _, _, _, _, _, _, _, _, _, z⟩
    rintro q hq ρ ⟨a6, a7, a8, a9, a10, a11, a12, a13, rfl⟩
    obtain ⟨q1, q2, _⟩ := mem_zipIdx_of hq
    exact ⟨_, rfl, (ifG_chk w h1 h2 (by omega) (by omega) p1 q1 _ _ _ _ _ _ U).imp fun ρ ⟨a8, a9, a10, a11, a12, a13, z⟩ => ⟨_, _, _, _, _, _, _, _, z⟩⟩
  obtain ⟨b, hb1, hb2⟩ := chk_end main
  refine ⟨b, fnD_rt (seqE (sUnp_at (eVar_at rfl) rfl) hb1), hb2.trans ?_⟩
  rw [zipIdx_all (P := fun bh f => ∀ q ∈ B.rows.zipIdx, PG B x bh f q.1 q.2) []]
  unfold IsOne
  constructor
  · intro z f g hf hg e
    have := (zipIdx_all (P := fun bi g => PG B x (B.rows.getD f []) f bi g) []).mp (z f (by omega)) g (by omega) e
    refine ⟨this.1, fun h k hh hk e2 => ?_⟩
    have lf : (B.rows.getD f []).length = _ := w.bhl hf
    have lg : (B.rows.getD g []).length = _ := w.bhl hg
    have t2 := (zipIdx_all (P := fun ln h => ∀ q ∈ (B.rows.getD g []).zipIdx, PK B x ln h q.1 q.2) []).mp this.2 h (by omega)
    have t3 := (zipIdx_all (P := fun fr k => PK B x ((B.rows.getD f []).getD h []) h fr k) []).mp t2 k (by omega) e2
    refine ⟨t3.1, fun l hl => ?_⟩
    have l1 : ((B.rows.getD f []).getD h []).length = _ := w.lnl hf hh
    have l2 : ((B.rows.getD g []).getD k []).length = _ := w.lnl hg hk
    exact (zip_all (P := Meet B.lets.length x) (0, 0, [], []) (0, 0, [], []) (by omega)).mp t3.2 l (by omega)
  · intro z f hf
    refine (zipIdx_all (P := fun bi g => PG B x (B.rows.getD f []) f bi g) []).mpr fun g hg e => ?_
    have hf' : f < B.ans.length := by omega
    have hg' : g < B.ans.length := by omega
    obtain ⟨o1, o2⟩ := z f g hf' hg' e
    have lf : (B.rows.getD f []).length = _ := w.bhl hf'
    have lg : (B.rows.getD g []).length = _ := w.bhl hg'
    refine ⟨o1, (zipIdx_all (P := fun ln h => ∀ q ∈ (B.rows.getD g []).zipIdx, PK B x ln h q.1 q.2) []).mpr fun h hh => (zipIdx_all (P := fun fr k => PK B x ((B.rows.getD f []).getD h []) h fr k) []).mpr fun k hk e2 => ?_⟩
    have hh' : h < B.lets.length := by omega
    have hk' : k < B.lets.length := by omega
    obtain ⟨p1, p2⟩ := o2 h k hh' hk' e2
    have l1 : ((B.rows.getD f []).getD h []).length = _ := w.lnl hf' hh'
    have l2 : ((B.rows.getD g []).getD k []).length = _ := w.lnl hg' hk'
    exact ⟨p1, (zip_all (P := Meet B.lets.length x) (0, 0, [], []) (0, 0, [], []) (by omega)).mpr fun l hl => p2 l (by omega)⟩
end
end DL

set_option maxRecDepth 100000
set_option linter.all false
/-! E13: answers to histories; the folded book is one. -/
namespace DL
open PySem PySem.Spec PyProof.Rows L2
def histD (h : Hist) : PyData := .tuple [nat h.1, .tuple (h.2.map pairD)]
section
variable {B : Bok} {K : Nat} {x : Lots}
theorem wf_fold (w : WF B K) (nx : Nm B x) (o1 : LdOk x.1) (o2 : LdOk x.2) : WF (foldB B x) K := by
  have e1 : (foldB B x).ans.length = mxN x.1 + 1 := by simp [foldB, leads_len]
  have e2 : (foldB B x).lets.length = mxN x.2 + 1 := by simp [foldB, leads_len]
  have m1 := o1.mx
  have m2 := o2.mx
  have b1 : ∀ f, f < B.ans.length → ix x.1 f < mxN x.1 + 1 := fun f hf => Nat.lt_succ_of_le (mxN_mem_le (ix_mem (by rw [nx.l1]; exact hf)))
  have b2 : ∀ h, h < B.lets.length → ix x.2 h < mxN x.2 + 1 := fun h hh => Nat.lt_succ_of_le (mxN_mem_le (ix_mem (by rw [nx.l2]; exact hh)))
  refine ⟨by omega, by omega, by omega, by omega, w.K9, by simp [foldB], fun bh hb => ?_, fun bh hb ln hl => ?_, fun bh hb ln hl r hr => ?_, by rw [e1]; exact b1 _ w.c0, by rw [e2]; exact b2 _ w.c1⟩
  · rw [foldB_rows] at hb
    obtain ⟨f, hf, rfl⟩ := List.mem_map.mp hb
    simp [foldB]
  · rw [foldB_rows] at hb
    obtain ⟨f, hf, rfl⟩ := List.mem_map.mp hb
    obtain ⟨h, hh, rfl⟩ := List.mem_map.mp hl
    rw [List.length_map]
    exact w.lnl (by rw [← nx.l1]; exact o1.lt f hf) (by rw [← nx.l2]; exact o2.lt h hh)
  · rw [foldB_rows] at hb
    obtain ⟨f, hf, rfl⟩ := List.mem_map.mp hb
    obtain ⟨h, hh, rfl⟩ := List.mem_map.mp hl
    obtain ⟨s, hs, rfl⟩ := List.mem_map.mp hr
    have hf' : f < B.ans.length := by rw [← nx.l1]; exact o1.lt f hf
    have hh' : h < B.lets.length := by rw [← nx.l2]; exact o2.lt h hh
    have R := w.ro _ (w.bh hf') _ (w.ln hf' hh') s hs
    have hl2 : ∀ i ∈ leadsOf x.2, i < B.lets.length := fun i hi => by rw [← nx.l2]; exact o2.lt i hi
    rw [e1, e2]
    refine ⟨b1 _ R.gL, b2 _ R.hL, by simp [foldR, leads_len], by simp [foldR, leads_len], fun v hv => ?_, fun v hv => ?_⟩
    · obtain ⟨i, hi, rfl⟩ := List.mem_map.mp hv
      exact b2 _ (R.lx _ (ix_mem (by rw [R.lL]; exact hl2 i hi)))
    · obtain ⟨i, hi, rfl⟩ := List.mem_map.mp hv
      exact b2 _ (R.rx _ (ix_mem (by rw [R.rL]; exact hl2 i hi)))
structure StOk (B : Bok) (many : Nat) (s : Nat × List Nat) : Prop where
  f : s.1 < B.ans.length
  h : ∀ v ∈ s.2, v < B.lets.length
  n : s.2.length = many
theorem stOk_hop (w : WF B K) {many : Nat} {s : Nat × List Nat} (S : StOk B many s) {c : Nat × Nat} (hc : c.1 < many) (hl : c.2 ≤ K) : StOk B many (hop B s c) := by
  obtain ⟨f, hs⟩ := s
  obtain ⟨s1, s2, s3⟩ := S
  dsimp only at s1 s2 s3
  have hp : c.1 < hs.length := by omega
  have hh : ix hs c.1 < B.lets.length := s2 _ (ix_mem hp)
  have R := w.rok s1 hh hl
  refine ⟨R.gL, fun v hv => ?_, ?_⟩
  · rcases List.mem_append.mp hv with hv | hv
    · rcases List.mem_append.mp hv with hv | hv
      · obtain ⟨z, hz, rfl⟩ := List.mem_map.mp hv
        exact R.lx _ (ix_mem (by rw [R.lL]; exact s2 z (List.mem_of_mem_take hz)))
      · rw [List.mem_singleton.mp hv]; exact R.hL
    · obtain ⟨z, hz, rfl⟩ := List.mem_map.mp hv
      exact R.rx _ (ix_mem (by rw [R.rL]; exact s2 z (List.mem_of_mem_drop hz)))
  · simp [hop]; omega
theorem oNo_at (ρ : DEnv) (U : US) : oNo ρ U = some (none, U) := rfl
theorem oSo_at {f : DEnv → M PyData} {ρ : DEnv} {U U' : US} {n : Nat} (h : f ρ U = some (nat n, U')) : oSo f ρ U = some (some (n : Int), U') := by unfold oSo; rw [bnd_at h]; rfl
theorem slL_to {f g : DEnv → M PyData} {ρ : DEnv} {U : US} {l : List Nat} {p : Nat} (h : f ρ U = some (natsL l, U)) (k : g ρ U = some (nat p, U)) : eSlL f oNo (oSo g) ρ U = some (natsL (l.take p), U) := by
  unfold eSlL
  rw [bnd_at h, bnd_at (oNo_at _ _), bnd_at (oSo_at k)]
  show some (PyData.list (cutD (l.map nat) none (some (p : Int))), U) = _
  unfold cutD
  rw [HT.sIx_none, HT.sIx_nat, List.drop_zero, Nat.sub_zero, List.length_map]
  unfold natsL
  rw [← List.map_take]
  congr 3
  rcases Nat.le_total p l.length with c | c
  · rw [Nat.min_eq_left c]
  · rw [Nat.min_eq_right c, List.take_length, List.take_of_length_le c]
theorem slL_from {f g : DEnv → M PyData} {ρ : DEnv} {U : US} {l : List Nat} {p : Nat} (h : f ρ U = some (natsL l, U)) (k : g ρ U = some (nat p, U)) : eSlL f (oSo g) oNo ρ U = some (natsL (l.drop p), U) := by
  unfold eSlL
  rw [bnd_at h, bnd_at (oSo_at k), bnd_at (oNo_at _ _)]
  show some (PyData.list (cutD (l.map nat) (some (p : Int)) none), U) = _
  unfold cutD
  rw [HT.sIx_none, HT.sIx_nat, List.length_map]
  unfold natsL
  rw [← List.map_drop, ← List.map_take]
  congr 3
  rcases Nat.le_total p l.length with c | c
  · rw [Nat.min_eq_left c, List.take_of_length_le (by rw [List.length_drop]; omega)]
  · rw [Nat.min_eq_right c, List.drop_length, List.drop_eq_nil_of_le c]; simp
theorem gIx_natsL {l : List Nat} {i : Nat} (h : i < l.length) : gIx (natsL l) (nat i) = some (nat (ix l i)) := by
  unfold natsL
  rw [gIx_l, List.getElem?_map]
  unfold ix
  rw [List.getD_eq_getElem?_getD, List.getElem?_eq_getElem h]; rfl
theorem gIx_line {ln : List Row} {l : Nat} (h : l < ln.length) : gIx (lineD ln) (nat l) = some (rowD (ln.getD l (0, 0, [], []))) := gIx_map_getD _ h
theorem gRep_one (a : Nat) {k : Nat} (h : k ≤ 100) : gRep (.list [nat a]) (nat k) = some (natsL (List.replicate k a)) := by
  have lim100 : (100 : Nat) ≤ lim := by decide
  show (if 0 ≤ (k : Int) ∧ (k : Int) ≤ 100000 ∧ [nat a].length * (k : Int).toNat ≤ lim then _ else _) = _
  rw [if_pos ⟨by omega, by omega, by simp; omega⟩, Int.toNat_natCast]
  unfold natsL
  rw [List.map_replicate]
  congr 2
  induction k with
  | zero => rfl
  | succ k ih => rw [List.replicate_succ, List.replicate_succ, List.flatten_cons, ih (by omega)]; rfl
theorem gCatL_nats {l m : List Nat} (h : l.length + m.length ≤ 1000) : gCatL (natsL l) (natsL m) = some (natsL (l ++ m)) := by
  have lim1000 : (1000 : Nat) ≤ lim := by decide
  show (if (l.map nat).length + (m.map nat).length ≤ lim then _ else _) = _
  rw [if_pos (by simp; omega)]
  unfold natsL
  rw [List.map_append]
theorem eLc_l {f : DEnv → M PyData} {i : Nat} {g : DEnv → M PyData} {ρ : DEnv} {U : US} {l : List Nat} (h : Nat → Nat) (hf : f ρ U = some (natsL l, U)) (hl : l.length ≤ 1000) (q : ∀ v ∈ l, g ((wipeD ρ [i]).set i (some (.d (nat v)))) U = some (nat (h v), U)) :
    eLc (fSeq f) [i] (aName i) yes g ρ U = some (natsL (l.map h), U) := by
  have lim1000 : (1000 : Nat) ≤ lim := by decide
  rw [eLc_map (xs := l) (fun v => nat (h v)) (fun v => Im.one (nat v)) (fSeq_l hf) (by omega) fun v hv => ⟨_, rfl, q v hv⟩]
  unfold natsL; rw [List.map_map]; rfl
theorem F_answer_eq (w : WF B K) {h : Hist} (ok : HiOk K h) (h100 : h.1 ≤ 100) (U : US) : F__law_answer [.d (bookD B), .d (histD h)] U = some (.bool (ansH B h), U) := by
  refine fnD_rt (seqE (sPar_at (aCons_at (beg_0 (eVar_at rfl)) (aCons_at (op2_at (eLst_at (ds := [_]) (aCons_at (beg_1 (eVar_at rfl)) (aNil_at _ _)) (by simp [lim])) (op2_at (eVar_at rfl) (eC_at _) rfl) (gRep_one _ h100)) (aNil_at _ _))) rfl) ?_)
  refine forE (xs := h.2) (fun c => Im.one (pairD c))
    (fun k ρ => StOk B h.1 ((h.2.take k).foldl (hop B) (B.b0, List.replicate h.1 B.b1)) ∧ ∃ a4 a5 a6 a7 a8 a9, ρ = [some (.d (bookD B)), some (.d (histD h)), some (.d (nat ((h.2.take k).foldl (hop B) (B.b0, List.replicate h.1 B.b1)).1)), some (.d (natsL ((h.2.take k).foldl (hop B) (B.b0, List.replicate h.1 B.b1)).2)), a4, a5, a6, a7, a8, a9])
    (fSeq_t (op2_at (eVar_at rfl) (eC_at _) rfl)) ⟨⟨w.c0, fun v hv => by rw [List.eq_of_mem_replicate hv]; exact w.c1, by simp⟩, none, none, none, none, none, none, rfl⟩ ?_ ?_
  · rintro i c ρ hi ⟨S, a4, a5, a6, a7, a8, a9, rfl⟩
    have hc := ok.p c (List.mem_of_getElem? hi)
    have hl := ok.l c (List.mem_of_getElem? hi)
    have S' := stOk_hop w S hc hl
    have e : (h.2.take (i + 1)).foldl (hop B) (B.b0, List.replicate h.1 B.b1) = hop B ((h.2.take i).foldl (hop B) (B.b0, List.replicate h.1 B.b1)) c := by rw [take_succ_get hi, List.foldl_append]; rfl
    rw [e]
    generalize (h.2.take i).foldl (hop B) (B.b0, List.replicate h.1 B.b1) = s at S S' ⊢
    obtain ⟨f, hs⟩ := s
    obtain ⟨s1, s2, s3⟩ := S
    dsimp only at s1 s2 s3 ⊢
    have hp : c.1 < hs.length := by omega
    have hh : ix hs c.1 < B.lets.length := s2 _ (ix_mem hp)
    have R := w.rok s1 hh hl
    have lnl := w.lnl s1 hh
    refine ⟨_, rfl, ?_⟩
    refine seqX (sUnp_at (d := rowD (rowAt B f (ix hs c.1) c.2)) (op2_at (op2_at (op2_at (bk_rows (eVar_at rfl)) (eVar_at rfl) (gIx_rows w s1)) (op2_at (eVar_at rfl) (eVar_at rfl) (gIx_natsL hp)) (gIx_bh (by rw [w.bhl s1]; exact hh))) (eVar_at rfl) (gIx_line (by show c.2 < (lnAt B f (ix hs c.1)).length; omega))) rfl) ?_
    refine ⟨_, sSet_at (op2_at (op2_at (eLc_l (ix (rowAt B f (ix hs c.1) c.2).2.2.1) (slL_to (eVar_at rfl) (eVar_at rfl)) (by rw [List.length_take]; omega) fun v hv => op2_at (eVar_at rfl) (eVar_at rfl) (gIx_nats (by rw [R.lL]; exact s2 v (List.mem_of_mem_take hv))))
      (eLst_at (ds := [nat (rowAt B f (ix hs c.1) c.2).2.1]) (aCons_at (eVar_at rfl) (aNil_at _ _)) (by simp [lim])) (gCatL_nats (m := [(rowAt B f (ix hs c.1) c.2).2.1]) (by simp; omega)))
      (eLc_l (ix (rowAt B f (ix hs c.1) c.2).2.2.2) (slL_from (eVar_at rfl) (op2_at (eVar_at rfl) (eC_at _) (gAdd_1 _))) (by rw [List.length_drop]; omega) fun v hv => op2_at (eVar_at rfl) (eVar_at rfl) (gIx_nats (by rw [R.rL]; exact s2 v (List.mem_of_mem_drop hv)))) (gCatL_nats (by simp; omega))), S', _, _, _, _, _, _, rfl⟩
  · rintro ρ' ⟨S, a4, a5, a6, a7, a8, a9, rfl⟩
    rw [List.take_length] at S ⊢
    exact sRet_at (op2_at (bk_ans (eVar_at rfl)) (eVar_at rfl) (gIx_map_getD false S.f))
end
end DL

set_option maxRecDepth 100000
set_option linter.all false
/-! E14: draws. -/
namespace DL
open PySem PySem.Spec PyProof.Rows L2
/-- an urn from which k more may be drawn -/
def Ur (k : Nat) (U : US) : Prop := ∃ a b c : Int, U = [a, b, c] ∧ 0 ≤ c ∧ c + k ≤ 1000000000
theorem Ur.mono {k j : Nat} {U : US} (h : Ur k U) (hj : j ≤ k) : Ur j U := by
  obtain ⟨a, b, c, h1, h2, h3⟩ := h
  exact ⟨a, b, c, h1, h2, by omega⟩
theorem eUrn_at {i : Nat} {ρ : DEnv} {U : US} {k n : Int} (h : ρ[i]? = some (some .u)) (e : atI U k = some n) : eUrn i k ρ U = some (.int n, U) := by unfold eUrn; simp only [h]; rw [e]; rfl
theorem sPutU_at {i j : Nat} {f : DEnv → M PyData} {ρ : DEnv} {U U' : US} {k n : Int} (h : f ρ U = some (.int n, U')) (hi : ρ[i]? = some (some .u)) (e : ixN U'.length k = some j) : sPutU i f k ρ U = some (.nx ρ, U'.set j n) := by
  unfold sPutU; rw [bnd_at h]; simp only [hi]; rw [e]
theorem gMod_at {i j : Int} (h : 0 < j) : gMod (.int i) (.int j) = some (.int (i % j)) := if_pos h
theorem gFdiv_at {i j : Int} (h : 0 < j) (h2 : j < 1073741824) : gFdiv (.int i) (.int j) = some (.int (i / j)) := if_pos ⟨h, h2⟩
theorem gMul_l {i j : Int} (h : -(2 ^ 64) < i) (h2 : i < 2 ^ 64) : gMul (.int i) (.int j) = some (.int (i * j)) := by
  show (if cMul i j = true then _ else _) = _
  rw [if_pos]; simp [cMul]; omega
theorem gMul_r {i j : Int} (h : -(2 ^ 64) < j) (h2 : j < 2 ^ 64) : gMul (.int i) (.int j) = some (.int (i * j)) := by
  show (if cMul i j = true then _ else _) = _
  rw [if_pos]; simp [cMul]; omega
theorem F_take_eq {U : US} {k low : Nat} (hu : Ur (k + 1) U) (h0 : 0 < low) (h1 : low < 1073741824) : ∃ r U', F__law_take [.u, .d (nat low)] U = some (nat r, U') ∧ r < low ∧ Ur k U' := by
  obtain ⟨a, b, c, rfl, hc0, hc1⟩ := hu
  have low0 : (0 : Int) < (low : Int) := by omega
  have fin : ∀ z : Int, ∃ r : Nat, PyData.int (z % (low : Int)) = nat r ∧ r < low := fun z => by
    have e1 := Int.emod_nonneg z (show (low : Int) ≠ 0 by omega)
    have e2 := Int.emod_lt_of_pos z low0
    refine ⟨(z % (low : Int)).toNat, ?_, by omega⟩
    show PyData.int _ = PyData.int (((z % (low : Int)).toNat : Nat) : Int)
    rw [Int.toNat_of_nonneg e1]
  by_cases ha : 0 < a
  · obtain ⟨r, hr1, hr2⟩ := fin a
    refine ⟨r, [a / low, b, c], fnD_rt (seq_rt (sIf_t (tst_at (op2_at (eUrn_at rfl rfl) (eC_at _) (show gGt (.int a) (.int 0) = some (.bool true) from by show some (PyData.bool (decide (0 < a))) = _; rw [decide_eq_true ha])))
      (seqE (sSet_at (op2_at (op1_at (eUrn_at rfl rfl) rfl) (eVar_at rfl) (gMod_at low0))) (seqE (sPutU_at (op2_at (eUrn_at rfl rfl) (eVar_at rfl) (gFdiv_at low0 (by omega))) rfl rfl) (sRet_at (eVar_at (by rw [hr1]; rfl))))))), hr2, _, _, _, rfl, hc0, by omega⟩
  · have hg : gGt (.int a) (.int 0) = some (.bool false) := by show some (PyData.bool (decide (0 < a))) = _; rw [decide_eq_false ha]
    obtain ⟨r, hr1, hr2⟩ := fin (((((((b + 48271 * (c + 1)) * (39373 + (c + 1))) % 2147483647 + (c + 1) + b / 1000003) * (((b + 48271 * (c + 1)) * (39373 + (c + 1))) % 2147483647 % 40009 + 7)) % 2147483629 * 48271 + ((b + 48271 * (c + 1)) * (39373 + (c + 1))) % 2147483647) % 2147483587) / 64)
    have p1 := Int.emod_nonneg (((b + 48271 * (c + 1)) * (39373 + (c + 1))) % 2147483647) (show (40009 : Int) ≠ 0 by omega)
    have p2 := Int.emod_lt_of_pos (((b + 48271 * (c + 1)) * (39373 + (c + 1))) % 2147483647) (show (0 : Int) < 40009 by omega)
    refine ⟨r, [a, b, c + 1], fnD_rt (seqE (sIf_f (tst_at (op2_at (eUrn_at rfl rfl) (eC_at _) hg)) rfl) (seqE (sPutU_at (op2_at (eUrn_at rfl rfl) (eC_at _) rfl) rfl rfl)
      (seqE (sSet_at (op2_at (op1_at (op2_at (op2_at (eUrn_at rfl rfl) (op2_at (eC_at _) (eUrn_at rfl rfl) (gMul_l (by omega) (by omega))) rfl) (op2_at (eC_at _) (eUrn_at rfl rfl) rfl) (gMul_r (by omega) (by omega))) rfl) (eC_at _) (gMod_at (by omega))))
      (seqE (sSet_at (op2_at (op2_at (op1_at (eVar_at rfl) rfl) (eC_at _) (gMod_at (by omega))) (eC_at _) rfl))
      (seqE (sSet_at (op2_at (op1_at (op2_at (op2_at (op2_at (eVar_at rfl) (eUrn_at rfl rfl) rfl) (op2_at (eUrn_at rfl rfl) (eC_at _) (gFdiv_at (by omega) (by omega))) rfl) (eVar_at rfl) (gMul_r (by omega) (by omega))) rfl) (eC_at _) (gMod_at (by omega))))
      (sRet_at (d := nat r) (op2_at (op1_at (op2_at (op2_at (op1_at (op2_at (op2_at (eVar_at rfl) (eC_at _) (gMul_r (by omega) (by omega))) (eVar_at rfl) rfl) rfl) (eC_at _) (gMod_at (by omega))) (eC_at _) (gFdiv_at (by omega) (by omega))) rfl) (eVar_at rfl) (by rw [← hr1]; exact gMod_at low0)))))))), hr2, _, _, _, rfl, by omega, by omega⟩
end DL

set_option maxRecDepth 100000
set_option linter.all false
/-! E15: draws in loops; of, one, history. -/
namespace DL
open PySem PySem.Spec PyProof.Rows L2
/-- side by side -/
structure A2 {α γ : Type} (R : α → γ → Prop) (xs : List α) (zs : List γ) : Prop where
  len : zs.length = xs.length
  get : ∀ (i : Nat) x z, xs[i]? = some x → zs[i]? = some z → R x z
theorem A2.nil {α γ : Type} {R : α → γ → Prop} : A2 R [] [] := ⟨rfl, fun i x z h => by simp at h⟩
theorem A2.cons {α γ : Type} {R : α → γ → Prop} {x : α} {z : γ} {xs : List α} {zs : List γ} (h : R x z) (k : A2 R xs zs) : A2 R (x :: xs) (z :: zs) :=
  ⟨by simp [k.len], fun i y w h1 h2 => by
    cases i with
    | zero => simp at h1 h2; subst h1; subst h2; exact h
    | succ i => exact k.get i y w (by simpa using h1) (by simpa using h2)⟩
theorem A2.snoc {α γ : Type} {R : α → γ → Prop} {xs : List α} {zs : List γ} {i : Nat} {x : α} {z : γ} (k : A2 R (xs.take i) zs) (h : xs[i]? = some x) (r : R x z) : A2 R (xs.take (i + 1)) (zs ++ [z]) := by
  have hi := (List.getElem?_eq_some_iff.mp h).1
  have hl : zs.length = i := by rw [k.len, List.length_take]; omega
  rw [take_succ_get h]
  refine ⟨by simp [hl]; omega, fun j y w h1 h2 => ?_⟩
  have tl : (xs.take i).length = i := by rw [List.length_take]; omega
  by_cases c : j < i
  · rw [List.getElem?_append_left (by omega)] at h1 h2
    exact k.get j y w h1 h2
  · rw [List.getElem?_append_right (by omega)] at h1 h2
    rw [tl] at h1
    rw [hl] at h2
    have : j - i = 0 := by
      have := (List.getElem?_eq_some_iff.mp h1).1
      simp at this; omega
    rw [this] at h1 h2
    simp at h1 h2
    subst h1; subst h2; exact r
theorem A2.mem {α γ : Type} {R : α → γ → Prop} {xs : List α} {zs : List γ} (k : A2 R xs zs) {z : γ} (h : z ∈ zs) : ∃ x ∈ xs, R x z := by
  obtain ⟨i, hi⟩ := List.mem_iff_getElem?.mp h
  have hl := (List.getElem?_eq_some_iff.mp hi).1
  have hx : xs[i]? = some (xs[i]'(by rw [← k.len]; exact hl)) := List.getElem?_eq_getElem _
  exact ⟨_, List.mem_of_getElem? hx, k.get i _ z hx hi⟩
theorem A2.at {α γ : Type} {R : α → γ → Prop} {xs : List α} {zs : List γ} (k : A2 R xs zs) (d : α) (e : γ) {i : Nat} (h : i < xs.length) : R (xs.getD i d) (zs.getD i e) := by
  have h2 : i < zs.length := by rw [k.len]; exact h
  refine k.get i _ _ ?_ ?_
  · rw [List.getD_eq_getElem?_getD, List.getElem?_eq_getElem h]; rfl
  · rw [List.getD_eq_getElem?_getD, List.getElem?_eq_getElem h2]; rfl
theorem forGo_ur {asg : Im → DEnv → Option DEnv} {b : DEnv → M Out} {α : Type} (m : α → Im) (I : Nat → DEnv → Prop) (c : Nat) : ∀ (xs : List α) (k : Nat) (ρ : DEnv) (U : US) (j : Nat), I k ρ → Ur (j + xs.length * c) U →
    (∀ i x ρ U j, xs[i]? = some x → I (k + i) ρ → Ur (j + c) U → ∃ ρ1, asg (m x) ρ = some ρ1 ∧ ∃ ρ2 U', b ρ1 U = some (.nx ρ2, U') ∧ I (k + i + 1) ρ2 ∧ Ur j U') → ∃ ρ' U', forGo asg b (xs.map m) ρ U = some (.nx ρ', U') ∧ I (k + xs.length) ρ' ∧ Ur j U'
  | [], k, ρ, U, j, h, hu, _ => ⟨ρ, U, rfl, h, hu.mono (by simp)⟩
  | x :: xs, k, ρ, U, j, h, hu, q => by
    obtain ⟨ρ1, h1, ρ2, U1, h2, h3, h4⟩ := q 0 x ρ U (j + xs.length * c) rfl h (hu.mono (by rw [List.length_cons, Nat.succ_mul]; omega))
    obtain ⟨ρ', U', g1, g2, g3⟩ := forGo_ur m I c xs (k + 1) ρ2 U1 j h3 h4 fun i y ρ U j hy hi hu => by
      have e : k + 1 + i = k + (i + 1) := by omega
      rw [e] at hi ⊢
      exact q (i + 1) y ρ U j (by simpa using hy) hi hu
    refine ⟨ρ', U', ?_, by rw [List.length_cons, show k + (xs.length + 1) = k + 1 + xs.length by omega]; exact g2, g3⟩
    rw [List.map_cons]
    unfold forGo
    rw [h1, bnd_at (lf_at ρ1 U), bnd_at h2]
    exact g1
theorem sFor_ur {f : DEnv → M (List Im)} {asg : Im → DEnv → Option DEnv} {b : DEnv → M Out} {ρ : DEnv} {U U0 : US} {α : Type} {xs : List α} (m : α → Im) (I : Nat → DEnv → Prop) (c : Nat) {j : Nat} (hf : f ρ U0 = some (xs.map m, U)) (h0 : I 0 ρ) (hu : Ur (j + xs.length * c) U)
    (q : ∀ i x ρ U j, xs[i]? = some x → I i ρ → Ur (j + c) U → ∃ ρ1, asg (m x) ρ = some ρ1 ∧ ∃ ρ2 U', b ρ1 U = some (.nx ρ2, U') ∧ I (i + 1) ρ2 ∧ Ur j U') : ∃ ρ' U', sFor f asg b ρ U0 = some (.nx ρ', U') ∧ I xs.length ρ' ∧ Ur j U' := by
  obtain ⟨ρ', U', g1, g2, g3⟩ := forGo_ur (asg := asg) (b := b) m I c xs 0 ρ U j h0 hu fun i x ρ U j hx hi hu => by
    rw [Nat.zero_add] at hi ⊢
    exact q i x ρ U j hx hi hu
  rw [Nat.zero_add] at g2
  refine ⟨ρ', U', ?_, g2, g3⟩
  unfold sFor
  rw [bnd_at hf]; exact g1
theorem lcGo_ur {asg : Im → DEnv → Option DEnv} {g : DEnv → M PyData} {ρ : DEnv} {α γ : Type} (m : α → Im) (e : γ → PyData) (R : α → γ → Prop) (c : Nat) : ∀ (xs : List α) (U : US) (j : Nat), Ur (j + xs.length * c) U →
    (∀ x ∈ xs, ∀ U j, Ur (j + c) U → ∃ ρ1, asg (m x) ρ = some ρ1 ∧ ∃ z U', g ρ1 U = some (e z, U') ∧ R x z ∧ Ur j U') → ∃ zs U', lcGo asg yes g ρ (xs.map m) U = some (zs.map e, U') ∧ A2 R xs zs ∧ Ur j U'
  | [], U, j, hu, _ => ⟨[], U, rfl, .nil, hu.mono (by simp)⟩
  | x :: xs, U, j, hu, q => by
    obtain ⟨ρ1, h1, z, U1, h2, h3, h4⟩ := q x List.mem_cons_self U (j + xs.length * c) (hu.mono (by rw [List.length_cons, Nat.succ_mul]; omega))
    obtain ⟨zs, U', g1, g2, g3⟩ := lcGo_ur m e R c xs U1 j h4 fun y hy => q y (List.mem_cons_of_mem _ hy)
    refine ⟨z :: zs, U', ?_, .cons h3 g2, g3⟩
    rw [List.map_cons]
    unfold lcGo
    rw [h1, bnd_at (lf_at ρ1 U), bnd_at (show yes ρ1 U = some (true, U) from rfl), if_pos rfl, bnd_at h2, bnd_at g1]
    rfl
theorem eLc_ur {f : DEnv → M (List Im)} {own : List Nat} {asg : Im → DEnv → Option DEnv} {g : DEnv → M PyData} {ρ : DEnv} {U U0 : US} {α γ : Type} {xs : List α} (m : α → Im) (e : γ → PyData) (R : α → γ → Prop) (c : Nat) {j : Nat} (hf : f ρ U0 = some (xs.map m, U)) (hl : xs.length ≤ lim) (hu : Ur (j + xs.length * c) U)
    (q : ∀ x ∈ xs, ∀ U j, Ur (j + c) U → ∃ ρ1, asg (m x) (wipeD ρ own) = some ρ1 ∧ ∃ z U', g ρ1 U = some (e z, U') ∧ R x z ∧ Ur j U') : ∃ zs U', eLc f own asg yes g ρ U0 = some (.list (zs.map e), U') ∧ A2 R xs zs ∧ Ur j U' := by
  obtain ⟨zs, U', h1, h2, h3⟩ := lcGo_ur m e R c xs U j hu q
  refine ⟨zs, U', ?_, h2, h3⟩
  unfold eLc
  rw [bnd_at hf, if_pos (by simpa using hl), bnd_at h1]; rfl
theorem aConsV_at {i : Nat} {g : DEnv → M (List Sl)} {ρ : DEnv} {U U' : US} {r : List Sl} (h : ρ[i]? = some (some .u)) (k : g ρ U = some (r, U')) : aConsV i g ρ U = some (.u :: r, U') := by
  unfold aConsV; simp only [h]; rw [bnd_at k]; rfl
theorem callU1 {F : List Sl → M PyData} {i : Nat} {f1 : DEnv → M PyData} {ρ : DEnv} {U U1 : US} {d1 : PyData} {r : Option (PyData × US)} (h : ρ[i]? = some (some .u)) (h1 : f1 ρ U = some (d1, U1)) (k : F [.u, .d d1] U1 = r) : eCall 2 F (aConsV i (aCons f1 aNil)) ρ U = r := eCall_at (aConsV_at h (aCons_at h1 (aNil_at _ _))) ⟨rfl, rfl⟩ k
theorem callU2 {F : List Sl → M PyData} {i : Nat} {f1 f2 : DEnv → M PyData} {ρ : DEnv} {U U1 U2 : US} {d1 d2 : PyData} {r : Option (PyData × US)} (h : ρ[i]? = some (some .u)) (h1 : f1 ρ U = some (d1, U1)) (h2 : f2 ρ U1 = some (d2, U2)) (k : F [.u, .d d1, .d d2] U2 = r) : eCall 3 F (aConsV i (aCons f1 (aCons f2 aNil))) ρ U = r := eCall_at (aConsV_at h (aCons_at h1 (aCons_at h2 (aNil_at _ _)))) ⟨rfl, rfl⟩ k
theorem gLen_natsL (l : List Nat) : gLen (natsL l) = some (nat l.length) := by show some (PyData.int ((l.map nat).length : Nat)) = _; rw [List.length_map]
theorem gLen_natsT (l : List Nat) : gLen (natsT l) = some (nat l.length) := by show some (PyData.int ((l.map nat).length : Nat)) = _; rw [List.length_map]
theorem F_of_eq {l : List Nat} {U : US} {k : Nat} (hu : Ur (k + 1) U) (h0 : 0 < l.length) (h1 : l.length ≤ 1000) : ∃ i U', F__law_of [.u, .d (natsL l)] U = some (nat (ix l i), U') ∧ i < l.length ∧ Ur k U' := by
  obtain ⟨r, U', h2, h3, h4⟩ := F_take_eq hu h0 (by omega)
  exact ⟨r, U', fnD_rt (sRet_at (op2_at (eVar_at rfl) (callU1 rfl (op1_at (eVar_at rfl) (gLen_natsL l)) h2) (gIx_natsL h3))), h3, h4⟩
theorem F_one_eq {l : List Nat} {v : Nat} {d : PyData} {U : US} {k : Nat} (hd : seqOf d = some (l.map nat)) (hu : Ur (k + 1) U) (hv : v ∈ l) (h1 : l.length ≤ 1000) : ∃ i U', F__law_one [.u, .d d, .d (nat v)] U = some (nat i, U') ∧ i < l.length ∧ ix l i = v ∧ Ur k U' := by
  have lim1000 : (1000 : Nat) ≤ lim := by decide
  have e1 : eLc (fEnum (eVar 1)) [3, 4] (aTup [3, 4]) (tst (op2 gEq (eVar 4) (eVar 2))) (eVar 3) (ent 5 [.u, .d d, .d (nat v)]) U = some (natsL ((l.zipIdx.filter fun p => decide (p.1 = v)).map (·.2)), U) := by
    rw [eLc_filter (xs := l.zipIdx) (fun p => nat p.2) (fun p => Im.many [nat p.2, nat p.1]) (fun p => decide (p.1 = v)) (fEnum_t (eVar_at rfl) hd) (by simp; omega) fun p hp => ⟨_, rfl, tst_at (op2_at (eVar_at rfl) (eVar_at rfl) ((ei_nat 0).geq (by omega) _ _)), fun _ => eVar_at rfl⟩]
    unfold natsL; rw [List.map_map]; rfl
  have hm : ∀ j ∈ (l.zipIdx.filter fun p => decide (p.1 = v)).map (·.2), j < l.length ∧ ix l j = v := by
    intro j hj
    obtain ⟨p, hp, rfl⟩ := List.mem_map.mp hj
    obtain ⟨hp1, hp2⟩ := List.mem_filter.mp hp
    obtain ⟨z1, z2, z3⟩ := mem_zipIdx_of hp1
    refine ⟨z2, ?_⟩
    unfold ix
    rw [List.getD_eq_getElem?_getD, z3]
    simpa using hp2
  have hpos : 0 < ((l.zipIdx.filter fun p => decide (p.1 = v)).map (·.2)).length := by
    obtain ⟨i, hi⟩ := List.mem_iff_getElem?.mp hv
    refine List.length_pos_of_mem (a := i) (List.mem_map.mpr ⟨(v, i), List.mem_filter.mpr ⟨List.mem_iff_getElem?.mpr ⟨i, ?_⟩, by simp⟩, rfl⟩)
    rw [List.getElem?_zipIdx, hi]; simp
  have hlen : ((l.zipIdx.filter fun p => decide (p.1 = v)).map (·.2)).length ≤ 1000 := by
    rw [List.length_map]
    have := List.length_filter_le (fun p : Nat × Nat => decide (p.1 = v)) l.zipIdx
    rw [List.length_zipIdx] at this
    omega
  obtain ⟨i, U', g1, g2, g3⟩ := F_of_eq hu hpos hlen
  obtain ⟨q1, q2⟩ := hm _ (ix_mem g2)
  exact ⟨_, U', fnD_rt (sRet_at (callU1 rfl e1 g1)), q1, q2, g3⟩
theorem gAdd_1l (a : Nat) : gAdd (.int 1) (nat a) = some (nat (1 + a)) := by
  show some (PyData.int (1 + (a : Int))) = some (PyData.int ((1 + a : Nat) : Int))
  rw [Int.natCast_add]; rfl
theorem F_history_eq {K : Nat} (hK : K ≤ 8) {U : US} {k : Nat} (hu : Ur (k + 20) U) : ∃ h U', F__law_history [.u, .d (nat K)] U = some (histD h, U') ∧ HiOk K h ∧ h.1 ≤ 100 ∧ Ur k U' := by
  have lim100 : (100 : Nat) < lim := by decide
  obtain ⟨r, U1, h1, h2, h3⟩ := F_take_eq (k := k + 19) (low := 5) hu (by omega) (by omega)
  obtain ⟨n, U2, g1, g2, g3⟩ := F_take_eq (k := k + 18) (low := 9) h3 (by omega) (by omega)
  obtain ⟨ρ', U3, q1, ⟨zs, ⟨z1, z2⟩, a4, rfl⟩, q3⟩ := sFor_ur (f := fRng (eCall 2 F__law_take (aConsV 0 (aCons (eC (.int 9)) aNil)))) (asg := aName 4) (b := (sApp 3 (eTup (aCons (eCall 2 F__law_take (aConsV 0 (aCons (eVar 2) aNil))) (aCons (eCall 2 F__law_take (aConsV 0 (aCons (op2 gAdd (eVar 1) (eC (.int 1))) aNil))) aNil))))) (ρ := [some .u, some (.d (nat K)), some (.d (nat (1 + r))), some (.m []), none]) (U := U2) (xs := List.range n) (fun i => Im.one (nat i))
    (fun i ρ => ∃ zs : List (Nat × Nat), (zs.length = i ∧ ∀ c ∈ zs, c.1 < 1 + r ∧ c.2 ≤ K) ∧ ∃ a4, ρ = [some .u, some (.d (nat K)), some (.d (nat (1 + r))), some (.m (zs.map pairD)), a4]) 2 (j := k)
    (fRng_nat (callU1 rfl (eC_at _) g1) (by omega)) ⟨[], ⟨rfl, fun c h => nomatch h⟩, none, rfl⟩ (g3.mono (by rw [List.length_range]; omega)) (by
      rintro i x ρ U j hx ⟨zs, ⟨z1, z2⟩, a4, rfl⟩ hu
      have hi : i < n := by have := (List.getElem?_eq_some_iff.mp hx).1; simpa using this
      obtain ⟨p, V1, p1, p2, p3⟩ := F_take_eq (k := j + 1) (low := 1 + r) hu (by omega) (by omega)
      obtain ⟨q, V2, q1, q2, q3⟩ := F_take_eq (k := j) (low := K + 1) p3 (by omega) (by omega)
      refine ⟨_, rfl, _, V2, sApp_at (tup2 (callU1 rfl (eVar_at rfl) p1) (callU1 rfl (op2_at (eVar_at rfl) (eC_at _) (gAdd_1 K)) q1)) rfl (by rw [List.length_map]; omega), ⟨zs ++ [(p, q)], ⟨by simp [z1], fun c hc => ?_⟩, _, by rw [List.map_append]; rfl⟩, q3⟩
      rcases List.mem_append.mp hc with hc | hc
      · exact z2 c hc
      · rw [List.mem_singleton.mp hc]; exact ⟨p2, by omega⟩)
  refine ⟨(1 + r, zs), U3, fnD_rt (seqE (sPar_at (aCons_at (op2_at (eC_at _) (callU1 rfl (eC_at _) h1) (gAdd_1l r)) (aConsN_at (nil_at _ _) (aNil_at _ _))) rfl) (seqE q1 (sRet_at (tup2 (eVar_at rfl) (op1_at (eBor_at rfl) rfl))))), ⟨fun c hc => (z2 c hc).1, fun c hc => (z2 c hc).2⟩, by show 1 + r ≤ 100; omega, q3⟩
end DL

set_option maxRecDepth 100000
set_option linter.all false
/-! E16: a drawn book. -/
namespace DL
open PySem PySem.Spec PyProof.Rows L2
theorem hue_is_one : F__law_hue = F__law_one := rfl
abbrev bFil : DEnv → M Out := (sSeq (sNew 10 (eLc (fSeq (eTup (aCons (eC (.int 0)) (aCons (eC (.int 1)) aNil)))) [12] (aName 12) yes (op1 gTuple (eLc (fSeq (eVar 1)) [11] (aName 11) yes (eCall 3 F__law_hue (aConsV 0 (aCons (eVar 1) (aCons (eVar 11) aNil)))))))) (sFrz 10 (sApp 8 (eTup (aCons (eCall 2 F__law_take (aConsV 0 (aCons (eVar 2) aNil))) (aCons (eCall 3 F__law_hue (aConsV 0 (aCons (eVar 1) (aCons (eVar 9) aNil)))) (aCons (op2 gIx (eVar 10) (eC (.int 0))) (aCons (op2 gIx (eVar 10) (eC (.int 1))) aNil))))))))
section
variable {L : List Nat} {n K : Nat}
theorem bFil_eq (hm : L.length ≤ 9) (hn : 0 < n) (hn9 : n ≤ 9) {v : Nat} (hv : v ∈ L) {a3 a4 a5 a6 a7 a10 a11 a12 a13 : Option Sl} {acc : List PyData} (ha : acc.length ≤ 100) {U : US} {j : Nat} (hu : Ur (j + 20) U) :
    ∃ r U', bFil [some .u, some (.d (natsT L)), some (.d (nat n)), a3, a4, a5, a6, a7, some (.m acc), some (.d (nat v)), a10, a11, a12, a13] U = some (.nx [some .u, some (.d (natsT L)), some (.d (nat n)), a3, a4, a5, a6, a7, some (.m (acc ++ [rowD r])), some (.d (nat v)), some (.d (.list [natsT r.2.2.1, natsT r.2.2.2])), a11, a12, a13], U') ∧ RowOk n L.length r ∧ Ur j U' := by
  have lim100 : (200 : Nat) < lim := by decide
  obtain ⟨zs, U1, h1, h2, h3⟩ := eLc_ur (f := fSeq (eTup (aCons (eC (.int 0)) (aCons (eC (.int 1)) aNil)))) (own := [12]) (asg := aName 12) (g := op1 gTuple (eLc (fSeq (eVar 1)) [11] (aName 11) yes (eCall 3 F__law_hue (aConsV 0 (aCons (eVar 1) (aCons (eVar 11) aNil))))))
    (ρ := [some .u, some (.d (natsT L)), some (.d (nat n)), a3, a4, a5, a6, a7, some (.m acc), some (.d (nat v)), a10, a11, a12, a13]) (U0 := U) (U := U) (xs := [0, 1]) (fun i => Im.one (nat i)) natsT (fun _ z => z.length = L.length ∧ ∀ w ∈ z, w < L.length) 9 (j := j + 2)
    (fSeq_t (xs := [0, 1]) (e := nat) (tup2 (eC_at _) (eC_at _))) (by simp [lim]) (hu.mono (by simp)) fun i hi U j hu => by
      obtain ⟨zs, U1, h1, h2, h3⟩ := eLc_ur (f := fSeq (eVar 1)) (own := [11]) (asg := aName 11) (g := eCall 3 F__law_hue (aConsV 0 (aCons (eVar 1) (aCons (eVar 11) aNil))))
        (ρ := (wipeD [some .u, some (.d (natsT L)), some (.d (nat n)), a3, a4, a5, a6, a7, some (.m acc), some (.d (nat v)), a10, a11, a12, a13] [12]).set 12 (some (.d (nat i)))) (U0 := U) (U := U) (xs := L) (fun i => Im.one (nat i)) nat (fun _ z => z < L.length) 1 (j := j) (fSeq_t (eVar_at rfl)) (by omega) (hu.mono (by omega)) fun x hx U j hu => by
          obtain ⟨i, U', g1, g2, g3, g4⟩ := F_one_eq (d := natsT L) rfl hu hx (by omega)
          exact ⟨_, rfl, i, U', callU2 rfl (eVar_at rfl) (eVar_at rfl) g1, g2, g4⟩
      refine ⟨_, rfl, zs, U1, op1_at h1 rfl, ⟨h2.len, fun w hw => ?_⟩, h3⟩
      obtain ⟨_, _, q⟩ := h2.mem hw
      exact q
  obtain ⟨z0, z1, rfl⟩ : ∃ z0 z1, zs = [z0, z1] := len2 (by rw [h2.len]; rfl)
  have q0 := h2.get 0 0 z0 rfl rfl
  have q1 := h2.get 1 1 z1 rfl rfl
  obtain ⟨g, U2, t1, t2, t3⟩ := F_take_eq (k := j + 1) h3 hn (by omega)
  obtain ⟨h, U3, s1, s2, s3, s4⟩ := F_one_eq (k := j) (d := natsT L) rfl t3 hv (by omega)
  exact ⟨(g, h, z0, z1), U3, seqE (sNew_at h1) (frzE rfl (sApp_at (tup4 (callU1 rfl (eVar_at rfl) t1) (callU2 rfl (eVar_at rfl) (eVar_at rfl) s1) (op2_at (eVar_at rfl) (eC_at _) rfl) (op2_at (eVar_at rfl) (eC_at _) rfl)) rfl (by omega))), ⟨t2, s2, q0.1, q1.1, q0.2, q1.2⟩, s4⟩
structure LnOk (n m K : Nat) (ln : List Row) : Prop where
  l : ln.length = K + 1
  r : ∀ r ∈ ln, RowOk n m r
structure BhOk (n m K : Nat) (bh : List (List Row)) : Prop where
  l : bh.length = m
  r : ∀ ln ∈ bh, LnOk n m K ln
theorem F_filled_eq (hm1 : 1 ≤ L.length) (hm : L.length ≤ 9) (hn : 0 < n) (hn9 : n ≤ 9) (hK : mxN L = K) (hK8 : K ≤ 8) (all : ∀ v, v ≤ K → v ∈ L) {U : US} {k : Nat} (hu : Ur (k + 15000) U) :
    ∃ B U', F__law_filled [.u, .d (natsT L), .d (nat n)] U = some (bookD B, U') ∧ WF B K ∧ Ur k U' ∧ B.ans.length = n ∧ B.lets = L := by
  have lim100 : (200 : Nat) < lim := by decide
  have ne : L ≠ [] := fun e => by rw [e] at hm1; simp at hm1
  obtain ⟨ρ', U1, h1, ⟨R, ⟨R1, R2⟩, a5, a6, a7, a8, a9, a10, a11, a12, a13, rfl⟩, h3⟩ := sFor_ur (f := fRng (eVar 2)) (asg := aName 5) (b := (sSeq (sNew 6 (eLst aNil)) (sSeq (sFor (fSeq (eVar 1)) (aName 7) (sSeq (sNew 8 (eLst aNil)) (sSeq (sFor (fRng (op2 gAdd (eVar 4) (eC (.int 1)))) (aName 9) bFil) (sApp 6 (op1 gTuple (eBor 8)))))) (sApp 3 (op1 gTuple (eBor 6))))))
    (ρ := [some .u, some (.d (natsT L)), some (.d (nat n)), some (.m []), some (.d (nat K)), none, none, none, none, none, none, none, none, none]) (U0 := U) (U := U) (xs := List.range n) (fun i => Im.one (nat i))
    (fun i ρ => ∃ R : List (List (List Row)), (R.length = i ∧ ∀ bh ∈ R, BhOk n L.length K bh) ∧ ∃ a5 a6 a7 a8 a9 a10 a11 a12 a13, ρ = [some .u, some (.d (natsT L)), some (.d (nat n)), some (.m (R.map bhD)), some (.d (nat K)), a5, a6, a7, a8, a9, a10, a11, a12, a13]) 1620 (j := k + 20)
    (fRng_nat (eVar_at rfl) (by omega)) ⟨[], ⟨rfl, fun _ h => nomatch h⟩, _, _, _, _, _, _, _, _, _, rfl⟩ (hu.mono (by rw [List.length_range]; omega)) (by
      rintro i f ρ U j hi ⟨R, ⟨R1, R2⟩, a5, a6, a7, a8, a9, a10, a11, a12, a13, rfl⟩ hu
      have hin : i < n := by have := (List.getElem?_eq_some_iff.mp hi).1; simpa using this
      obtain ⟨ρ', U1, h1, ⟨S, ⟨S1, S2⟩, a7, a8, a9, a10, a11, a12, a13, rfl⟩, h3⟩ := sFor_ur (f := fSeq (eVar 1)) (asg := aName 7) (b := (sSeq (sNew 8 (eLst aNil)) (sSeq (sFor (fRng (op2 gAdd (eVar 4) (eC (.int 1)))) (aName 9) bFil) (sApp 6 (op1 gTuple (eBor 8))))))
        (ρ := [some .u, some (.d (natsT L)), some (.d (nat n)), some (.m (R.map bhD)), some (.d (nat K)), some (.d (nat f)), some (.m []), a7, a8, a9, a10, a11, a12, a13]) (U0 := U) (U := U) (xs := L) (fun i => Im.one (nat i))
        (fun i ρ => ∃ S : List (List Row), (S.length = i ∧ ∀ ln ∈ S, LnOk n L.length K ln) ∧ ∃ a7 a8 a9 a10 a11 a12 a13, ρ = [some .u, some (.d (natsT L)), some (.d (nat n)), some (.m (R.map bhD)), some (.d (nat K)), some (.d (nat f)), some (.m (S.map lineD)), a7, a8, a9, a10, a11, a12, a13]) 180 (j := j)
        (fSeq_t (eVar_at rfl)) ⟨[], ⟨rfl, fun _ h => nomatch h⟩, _, _, _, _, _, _, _, rfl⟩ (hu.mono (by omega)) (by
          rintro i h ρ U j hi ⟨S, ⟨S1, S2⟩, a7, a8, a9, a10, a11, a12, a13, rfl⟩ hu
          have hil : i < L.length := (List.getElem?_eq_some_iff.mp hi).1
          obtain ⟨ρ', U1, h1, ⟨T, ⟨T1, T2⟩, a9, a10, a11, a12, a13, rfl⟩, h3⟩ := sFor_ur (f := fRng (op2 gAdd (eVar 4) (eC (.int 1)))) (asg := aName 9) (b := bFil)
            (ρ := [some .u, some (.d (natsT L)), some (.d (nat n)), some (.m (R.map bhD)), some (.d (nat K)), some (.d (nat f)), some (.m (S.map lineD)), some (.d (nat h)), some (.m []), a9, a10, a11, a12, a13]) (U0 := U) (U := U) (xs := List.range (K + 1)) (fun i => Im.one (nat i))
            (fun i ρ => ∃ T : List Row, (T.length = i ∧ ∀ r ∈ T, RowOk n L.length r) ∧ ∃ a9 a10 a11 a12 a13, ρ = [some .u, some (.d (natsT L)), some (.d (nat n)), some (.m (R.map bhD)), some (.d (nat K)), some (.d (nat f)), some (.m (S.map lineD)), some (.d (nat h)), some (.m (T.map rowD)), a9, a10, a11, a12, a13]) 20 (j := j)
            (fRng_nat (op2_at (eVar_at rfl) (eC_at _) (gAdd_1 K)) (by omega)) ⟨[], ⟨rfl, fun _ h => nomatch h⟩, _, _, _, _, _, rfl⟩ (hu.mono (by rw [List.length_range]; omega)) (by
              rintro i l ρ U j hi ⟨T, ⟨T1, T2⟩, a9, a10, a11, a12, a13, rfl⟩ hu
              have hil : i < K + 1 := by have := (List.getElem?_eq_some_iff.mp hi).1; simpa using this
              have hl : l = i := by
                obtain ⟨z1, z2⟩ := List.getElem?_eq_some_iff.mp hi
                rw [← z2]; simp
              obtain ⟨r, U', g1, g2, g3⟩ := bFil_eq (n := n) (a3 := some (.m (R.map bhD))) (a4 := some (.d (nat K))) (a5 := some (.d (nat f))) (a6 := some (.m (S.map lineD))) (a7 := some (.d (nat h))) (a10 := a10) (a11 := a11) (a12 := a12) (a13 := a13) (acc := T.map rowD) hm hn hn9 (all l (by omega)) (by rw [List.length_map]; omega) hu
              refine ⟨_, rfl, _, U', g1, ⟨T ++ [r], ⟨by simp [T1], fun z hz => ?_⟩, _, _, _, _, _, by rw [List.map_append]; rfl⟩, g3⟩
              rcases List.mem_append.mp hz with hz | hz
              · exact T2 z hz
              · rw [List.mem_singleton.mp hz]; exact g2)
          rw [List.length_range] at T1
          refine ⟨_, rfl, _, U1, seqE (sNew_at (nil_at _ _)) (seqE h1 (sApp_at (d := lineD T) (op1_at (eBor_at rfl) rfl) rfl (by rw [List.length_map]; omega))), ⟨S ++ [T], ⟨by simp [S1], fun z hz => ?_⟩, _, _, _, _, _, _, _, by rw [List.map_append]; rfl⟩, h3⟩
          rcases List.mem_append.mp hz with hz | hz
          · exact S2 z hz
          · rw [List.mem_singleton.mp hz]; exact ⟨T1, T2⟩)
      refine ⟨_, rfl, _, U1, seqE (sNew_at (nil_at _ _)) (seqE h1 (sApp_at (d := bhD S) (op1_at (eBor_at rfl) rfl) rfl (by rw [List.length_map]; omega))), ⟨R ++ [S], ⟨by simp [R1], fun z hz => ?_⟩, _, _, _, _, _, _, _, _, _, by rw [List.map_append]; rfl⟩, h3⟩
      rcases List.mem_append.mp hz with hz | hz
      · exact R2 z hz
      · rw [List.mem_singleton.mp hz]; exact ⟨S1, S2⟩)
  rw [List.length_range] at R1
  obtain ⟨bs, U2, b1, b2, b3⟩ := eLc_ur (f := fRng (eVar 2)) (own := [5]) (asg := aName 5) (g := op2 gEq (eCall 2 F__law_take (aConsV 0 (aCons (eC (.int 2)) aNil))) (eC (.int 0)))
    (ρ := [some .u, some (.d (natsT L)), some (.d (nat n)), some (.m (R.map bhD)), some (.d (nat K)), a5, a6, a7, a8, a9, a10, a11, a12, a13]) (U0 := U1) (U := U1) (xs := List.range n) (fun i => Im.one (nat i)) PyData.bool (fun _ _ => True) 1 (j := k + 2)
    (fRng_nat (eVar_at rfl) (by omega)) (by rw [List.length_range]; omega) (h3.mono (by rw [List.length_range]; omega)) fun x hx U j hu => by
      obtain ⟨r, U', t1, t2, t3⟩ := F_take_eq (k := j) (low := 2) hu (by omega) (by omega)
      exact ⟨_, rfl, decide (r = 0), U', op2_at (callU1 rfl (eC_at _) t1) (eC_at _) ((ei_nat 0).geq (by omega) r 0), trivial, t3⟩
  have bl : bs.length = n := by rw [b2.len, List.length_range]
  obtain ⟨c0, U3, t1, t2, t3⟩ := F_take_eq (k := k + 1) b3 hn (by omega)
  obtain ⟨c1, U4, s1, s2, s3, s4⟩ := F_one_eq (k := k) (d := natsT L) rfl t3 (all 0 (by omega)) (by omega)
  refine ⟨⟨bs, L, c0, c1, R⟩, U4, fnD_rt (seqE (sPar_at (aConsN_at (nil_at _ _) (aCons_at (op1_at (eVar_at rfl) (gMax_nats ne (by omega) rfl)) (aNil_at _ _))) rfl) (seqE (by rw [← hK] at h1; exact h1) (seqE (sSet_at (op1_at (by rw [← hK] at b1; exact b1) rfl)) (sRet_at (tup4 (eVar_at rfl) (eVar_at rfl) (tup2 (callU1 rfl (eVar_at rfl) t1) (callU2 rfl (eVar_at rfl) (eC_at (nat 0)) s1)) (op1_at (eBor_at rfl) rfl)))))), ?_, s4, bl, rfl⟩
  refine ⟨by show 1 ≤ bs.length; omega, by show bs.length ≤ 9; omega, hm1, hm, hK8, by show R.length = bs.length; omega, fun bh hb => (R2 bh hb).l, fun bh hb ln hl => ((R2 bh hb).r ln hl).l, fun bh hb ln hl r hr => ?_, by show c0 < bs.length; omega, s2⟩
  show RowOk bs.length L.length r
  rw [bl]
  exact ((R2 bh hb).r ln hl).r r hr
end
end DL

set_option maxRecDepth 100000
set_option linter.all false
/-! E17: the book that is drawn. -/
namespace DL
open PySem PySem.Spec PyProof.Rows L2
theorem sAppPop_at {i j : Nat} {f : DEnv → M PyData} {ρ : DEnv} {U U' : US} {k : Nat} {xs ys : List PyData} {y : PyData} (h : f ρ U = some (nat k, U')) (hi : ρ[i]? = some (some (.m xs))) (hj : ρ[j]? = some (some (.m ys))) (hx : xs.length < lim) (hij : i ≠ j) (hk : ys[k]? = some y) (hy : ys.length ≤ lim) :
    sAppPop i j f ρ U = some (.nx ((ρ.set j (some (.m (ys.eraseIdx k)))).set i (some (.m (xs ++ [y])))), U') := by
  have hkl := (List.getElem?_eq_some_iff.mp hk).1
  unfold sAppPop
  rw [bnd_at h]
  simp only [hi, hj]
  rw [if_pos ⟨hx, hij, by omega, by omega, hy⟩, Int.toNat_natCast]
  simp only [hk]
theorem eraseIdx_mem {α : Type} {l : List α} {k : Nat} {y : α} (h : l[k]? = some y) (v : α) : v ∈ l ↔ v = y ∨ v ∈ l.eraseIdx k := by
  obtain ⟨hk, e⟩ := List.getElem?_eq_some_iff.mp h
  have e1 : l = l.take k ++ y :: l.drop (k + 1) := by
    rw [← e, ← List.drop_eq_getElem_cons hk, List.take_append_drop]
  rw [List.eraseIdx_eq_take_drop_succ]
  constructor
  · intro hv
    rw [e1] at hv
    simp at hv ⊢
    grind
  · intro hv
    rw [e1]
    simp at hv ⊢
    grind
theorem order_go {K : Nat} {a1 a2 a3 a4 : Option Sl} : ∀ (n : Nat) (Lf Od : List Nat) (fu : Nat) (U : US) (j : Nat), Lf.length = n → n < fu → Lf.length + Od.length ≤ 100 → Ur (j + n) U →
    ∃ (Od' : List Nat) (U' : US), whGo (tst (op2 gNe (eBor 5) (eLst aNil))) (sAppPop 6 5 (eCall 2 F__law_take (aConsV 0 (aCons (op1 gLen (eBor 5)) aNil)))) fu [some .u, a1, a2, a3, a4, some (.m (Lf.map nat)), some (.m (Od.map nat))] U =
      some (.nx [some .u, a1, a2, a3, a4, some (.m []), some (.m (Od'.map nat))], U') ∧ (∀ v, v ∈ Od' ↔ v ∈ Lf ∨ v ∈ Od) ∧ Od'.length = Lf.length + Od.length ∧ Ur j U'
  | 0, Lf, Od, 0, U, j, _, h, _, _ => by omega
  | 0, Lf, Od, fu + 1, U, j, hl, _, hlen, hu => by
    have : Lf = [] := List.length_eq_zero_iff.mp hl
    subst this
    refine ⟨Od, U, whGo_f (tst_at (op2_at (eBor_at rfl) (nil_at _ _) ?_)), fun v => by simp, by simp, hu.mono (by omega)⟩
    exact (ei_lst (ei_nat 0)).gne (by omega) ([] : List Nat) []
  | n + 1, Lf, Od, 0, U, j, _, h, _, _ => by omega
  | n + 1, Lf, Od, fu + 1, U, j, hl, hf, hlen, hu => by
    have lim100 : (200 : Nat) < lim := by decide
    obtain ⟨r, U1, t1, t2, t3⟩ := F_take_eq (k := j + n) (low := Lf.length) hu (by omega) (by omega)
    have hr : Lf[r]? = some Lf[r] := List.getElem?_eq_getElem t2
    have hr2 : (Lf.map nat)[r]? = some (nat Lf[r]) := by rw [List.getElem?_map, hr]; rfl
    have le : (Lf.eraseIdx r).length = n := by rw [List.length_eraseIdx_of_lt t2]; omega
    obtain ⟨Od', U', g1, g2, g3, g4⟩ := order_go (K := K) (a1 := a1) (a2 := a2) (a3 := a3) (a4 := a4) n (Lf.eraseIdx r) (Od ++ [Lf[r]]) fu U1 j le (by omega) (by simp; omega) t3
    refine ⟨Od', U', ?_, fun v => ?_, by rw [g3]; simp; omega, g4⟩
    · have tt : op2 gNe (eBor 5) (eLst aNil) [some .u, a1, a2, a3, a4, some (.m (Lf.map nat)), some (.m (Od.map nat))] U = some (.bool true, U) := by
        refine op2_at (eBor_at rfl) (nil_at _ _) ?_
        have := (ei_lst (ei_nat 0)).gne (by omega) Lf []
        have c : Lf ≠ [] := fun e => by rw [e] at hl; simp at hl
        rw [show gNe (.list (Lf.map nat)) (.list []) = some (.bool (decide (Lf ≠ []))) from this]
        simp [c]
      have ss := sAppPop_at (i := 6) (j := 5) (f := eCall 2 F__law_take (aConsV 0 (aCons (op1 gLen (eBor 5)) aNil))) (ρ := [some .u, a1, a2, a3, a4, some (.m (Lf.map nat)), some (.m (Od.map nat))]) (U := U) (callU1 rfl (op1_at (eBor_at rfl) (gLen_natsL Lf)) t1) rfl rfl (by rw [List.length_map]; omega) (by omega) hr2 (by rw [List.length_map]; omega)
      unfold whGo
      rw [bnd_at (tst_at tt), if_pos rfl, bnd_at ss]
      have e1 : (Lf.map nat).eraseIdx r = (Lf.eraseIdx r).map nat := by rw [List.eraseIdx_eq_take_drop_succ, List.eraseIdx_eq_take_drop_succ, List.map_append, List.map_take, List.map_drop]
      have e2 : Od.map nat ++ [nat Lf[r]] = (Od ++ [Lf[r]]).map nat := by rw [List.map_append]; rfl
      rw [e1, e2]
      exact g1
    · rw [g2 v, eraseIdx_mem hr v]
      simp
      grind
theorem F_book_eq {K : Nat} (hK : K ≤ 2) {U : US} {k : Nat} (hu : Ur (k + 15100) U) : ∃ B U', F__law_book [.u, .d (nat K), .d (nat 2)] U = some (bookD B, U') ∧ WF B K ∧ Ur k U' ∧ B.ans.length ≤ 3 ∧ B.lets.length ≤ 6 := by
  have lim100 : (200 : Nat) < lim := by decide
  obtain ⟨ρ', U1, h1, ⟨H, ⟨H1, H2⟩, a4, a5, a6, rfl⟩, h3⟩ := sFor_ur (f := fRng (op2 gAdd (eVar 1) (eC (.int 1)))) (asg := aName 4) (b := (sSet 3 (op2 gCatL (eVar 3) (op2 gRep (eLst (aCons (eVar 4) aNil)) (op2 gAdd (eC (.int 1)) (eCall 2 F__law_take (aConsV 0 (aCons (eVar 2) aNil))))))))
    (ρ := [some .u, some (.d (nat K)), some (.d (nat 2)), some (.d (.list [])), none, none, none]) (U0 := U) (U := U) (xs := List.range (K + 1)) (fun i => Im.one (nat i))
    (fun i ρ => ∃ H : List Nat, ((∀ v, v ∈ H ↔ v < i) ∧ H.length ≤ 2 * i) ∧ ∃ a4 a5 a6, ρ = [some .u, some (.d (nat K)), some (.d (nat 2)), some (.d (natsL H)), a4, a5, a6]) 1 (j := k + 15050)
    (fRng_nat (op2_at (eVar_at rfl) (eC_at _) (gAdd_1 K)) (by omega)) ⟨[], ⟨fun v => by simp, by simp⟩, _, _, _, rfl⟩ (hu.mono (by rw [List.length_range]; omega)) (by
      rintro i l ρ U j hi ⟨H, ⟨H1, H2⟩, a4, a5, a6, rfl⟩ hu
      have hiK : i < K + 1 := by have := (List.getElem?_eq_some_iff.mp hi).1; simpa using this
      have hl : l = i := by
        obtain ⟨z1, z2⟩ := List.getElem?_eq_some_iff.mp hi
        rw [← z2]; simp
      subst hl
      obtain ⟨r, U1, t1, t2, t3⟩ := F_take_eq (k := j) (low := 2) hu (by omega) (by omega)
      refine ⟨_, rfl, _, U1, sSet_at (op2_at (eVar_at rfl) (op2_at (eLst_at (ds := [nat l]) (aCons_at (eVar_at rfl) (aNil_at _ _)) (by simp [lim])) (op2_at (eC_at _) (callU1 rfl (eVar_at rfl) t1) (gAdd_1l r)) (gRep_one l (by omega))) (gCatL_nats (by simp; omega))), ⟨H ++ List.replicate (1 + r) l, ⟨fun v => ?_, by simp; omega⟩, _, _, _, rfl⟩, t3⟩
      rw [List.mem_append, H1 v, List.mem_replicate]
      omega)
  rw [List.length_range] at H1 H2
  have hpos : 1 ≤ H.length := by
    have : 0 ∈ H := (H1 0).mpr (by omega)
    exact List.length_pos_of_mem this
  obtain ⟨Od, U2, g1, g2, g3, g4⟩ := order_go (K := K) (a1 := some (.d (nat K))) (a2 := some (.d (nat 2))) (a3 := some (.d (natsL H))) (a4 := a4) H.length H [] 1000 U1 (k + 15001) rfl (by omega) (by simp; omega) (h3.mono (by omega))
  have mo : ∀ v, v ∈ Od ↔ v < K + 1 := fun v => by rw [g2 v, H1 v]; simp
  have ol : Od.length = H.length := by rw [g3]; simp
  obtain ⟨r, U3, t1, t2, t3⟩ := F_take_eq (k := k + 15000) (low := 3) g4 (by omega) (by omega)
  have ne : Od ≠ [] := fun e => by rw [e] at ol; simp at ol; omega
  have hmx : mxN Od = K := by
    have a1 := (mo _).mp (mxN_mem ne)
    have a2 := mxN_mem_le ((mo K).mpr (by omega))
    omega
  obtain ⟨B, U4, f1, f2, f3, f4, f5⟩ := F_filled_eq (L := Od) (n := 1 + r) (K := K) (by omega) (by omega) (by omega) (by omega) hmx (by omega) (fun v hv => (mo v).mpr (by omega)) t3
  refine ⟨B, U4, fnD_rt (seqE (sSet_at (nil_at _ _)) (seqE h1 (seqE (sPar_at (aConsN_at (op1_at (eVar_at rfl) rfl) (aConsN_at (nil_at _ _) (aNil_at _ _))) rfl) (seqE g1 (sRet_at (callU2 rfl (op1_at (eBor_at rfl) rfl) (op2_at (eC_at _) (callU1 rfl (eC_at _) t1) (gAdd_1l r)) f1)))))), f2, f3, by omega, by rw [f5]; omega⟩
end DL

set_option maxRecDepth 100000
set_option linter.all false
/-! E18: the blown book. -/
namespace DL
open PySem PySem.Spec PyProof.Rows L2
def SideRel (H s z : List Nat) : Prop := A2 (fun its w => w < H.length ∧ ix H w = ix s its) H z
structure RowRel (F H : List Nat) (r q : Row) : Prop where
  g1 : q.1 < F.length
  g2 : ix F q.1 = r.1
  h1 : q.2.1 < H.length
  h2 : ix H q.2.1 = r.2.1
  l : SideRel H r.2.2.1 q.2.2.1
  r : SideRel H r.2.2.2 q.2.2.2
structure NOk (F : List Nat) (n : Nat) : Prop where
  all : ∀ v, v < n → v ∈ F
  lt : ∀ v ∈ F, v < n
  l9 : F.length ≤ 9
  pos : 0 < F.length
theorem gRgL_nat {n : Nat} (h : n ≤ 100) : gRgL (nat n) = some (natsL (List.range n)) := by
  show (if 0 ≤ (n : Int) ∧ (n : Int) ≤ 100000 then some (PyData.list (rgD (n : Int))) else none) = _
  rw [if_pos ⟨by omega, by omega⟩]
  rfl
abbrev bBlo : DEnv → M Out := (sSeq (sNew 14 (eLc (fSeq (eTup (aCons (eVar 12) (aCons (eVar 13) aNil)))) [16] (aName 16) yes (op1 gTuple (eLc (fSeq (eVar 4)) [15] (aName 15) yes (eCall 3 F__law_one (aConsV 0 (aCons (eVar 4) (aCons (op2 gIx (eVar 16) (eVar 15)) aNil)))))))) (sFrz 14 (sApp 9 (eTup (aCons (eCall 3 F__law_one (aConsV 0 (aCons (eVar 2) (aCons (eVar 10) aNil)))) (aCons (eCall 3 F__law_one (aConsV 0 (aCons (eVar 4) (aCons (eVar 11) aNil)))) (aCons (op2 gIx (eVar 14) (eC (.int 0))) (aCons (op2 gIx (eVar 14) (eC (.int 1))) aNil))))))))
section
variable {B : Bok} {K : Nat} {F H : List Nat}
theorem bBlo_eq {n m : Nat} (f : NOk F n) (h : NOk H m) {r : Row} (R : RowOk n m r) {a1 a3 a5 a6 a7 a8 a14 a15 a16 a17 a18 : Option Sl} {acc : List PyData} (ha : acc.length ≤ 100) {U : US} {j : Nat} (hu : Ur (j + 20) U) :
    ∃ q U', bBlo [some .u, a1, some (.d (natsL F)), a3, some (.d (natsL H)), a5, a6, a7, a8, some (.m acc), some (.d (nat r.1)), some (.d (nat r.2.1)), some (.d (natsT r.2.2.1)), some (.d (natsT r.2.2.2)), a14, a15, a16, a17, a18] U =
      some (.nx [some .u, a1, some (.d (natsL F)), a3, some (.d (natsL H)), a5, a6, a7, a8, some (.m (acc ++ [rowD q])), some (.d (nat r.1)), some (.d (nat r.2.1)), some (.d (natsT r.2.2.1)), some (.d (natsT r.2.2.2)), some (.d (.list [natsT q.2.2.1, natsT q.2.2.2])), a15, a16, a17, a18], U') ∧ RowRel F H r q ∧ Ur j U' := by
  have lim100 : (200 : Nat) < lim := by decide
  have h9 := h.l9
  have f9 := f.l9
  obtain ⟨zs, U1, h1, h2, h3⟩ := eLc_ur (f := fSeq (eTup (aCons (eVar 12) (aCons (eVar 13) aNil)))) (own := [16]) (asg := aName 16) (g := op1 gTuple (eLc (fSeq (eVar 4)) [15] (aName 15) yes (eCall 3 F__law_one (aConsV 0 (aCons (eVar 4) (aCons (op2 gIx (eVar 16) (eVar 15)) aNil))))))
    (ρ := [some .u, a1, some (.d (natsL F)), a3, some (.d (natsL H)), a5, a6, a7, a8, some (.m acc), some (.d (nat r.1)), some (.d (nat r.2.1)), some (.d (natsT r.2.2.1)), some (.d (natsT r.2.2.2)), a14, a15, a16, a17, a18]) (U0 := U) (U := U) (xs := [r.2.2.1, r.2.2.2]) (fun s => Im.one (natsT s)) natsT (fun s z => SideRel H s z) 9 (j := j + 2)
    (fSeq_t (xs := [r.2.2.1, r.2.2.2]) (e := natsT) (tup2 (eVar_at rfl) (eVar_at rfl))) (by simp [lim]) (hu.mono (by simp)) fun s hs U j hu => by
      have sl : s.length = m ∧ ∀ v ∈ s, v < m := by
        have : s = r.2.2.1 ∨ s = r.2.2.2 := by simpa using hs
        rcases this with rfl | rfl
        · exact ⟨R.lL, R.lx⟩
        · exact ⟨R.rL, R.rx⟩
      obtain ⟨zs, U1, h1, h2, h3⟩ := eLc_ur (f := fSeq (eVar 4)) (own := [15]) (asg := aName 15) (g := eCall 3 F__law_one (aConsV 0 (aCons (eVar 4) (aCons (op2 gIx (eVar 16) (eVar 15)) aNil))))
        (ρ := (wipeD [some .u, a1, some (.d (natsL F)), a3, some (.d (natsL H)), a5, a6, a7, a8, some (.m acc), some (.d (nat r.1)), some (.d (nat r.2.1)), some (.d (natsT r.2.2.1)), some (.d (natsT r.2.2.2)), a14, a15, a16, a17, a18] [16]).set 16 (some (.d (natsT s)))) (U0 := U) (U := U) (xs := H) (fun i => Im.one (nat i)) nat (fun its w => w < H.length ∧ ix H w = ix s its) 1 (j := j) (fSeq_l (eVar_at rfl)) (by omega) (hu.mono (by omega)) fun x hx U j hu => by
          have hx2 := h.lt x hx
          obtain ⟨i, U', g1, g2, g3, g4⟩ := F_one_eq (l := H) (v := ix s x) (d := natsL H) rfl hu (h.all _ (sl.2 _ (ix_mem (by rw [sl.1]; exact hx2)))) (by omega)
          exact ⟨_, rfl, i, U', callU2 rfl (eVar_at rfl) (op2_at (eVar_at rfl) (eVar_at rfl) (gIx_nats (by rw [sl.1]; exact hx2))) g1, ⟨g2, g3⟩, g4⟩
      exact ⟨_, rfl, zs, U1, op1_at h1 rfl, h2, h3⟩
  obtain ⟨z0, z1, rfl⟩ : ∃ z0 z1, zs = [z0, z1] := len2 (by rw [h2.len]; rfl)
  have q0 := h2.get 0 _ z0 rfl rfl
  have q1 := h2.get 1 _ z1 rfl rfl
  obtain ⟨g, U2, t1, t2, t3, t4⟩ := F_one_eq (k := j + 1) (l := F) (d := natsL F) rfl h3 (f.all _ R.gL) (by omega)
  obtain ⟨o, U3, s1, s2, s3, s4⟩ := F_one_eq (k := j) (l := H) (d := natsL H) rfl t4 (h.all _ R.hL) (by omega)
  exact ⟨(g, o, z0, z1), U3, seqE (sNew_at h1) (frzE rfl (sApp_at (tup4 (callU2 rfl (eVar_at rfl) (eVar_at rfl) t1) (callU2 rfl (eVar_at rfl) (eVar_at rfl) s1) (op2_at (eVar_at rfl) (eC_at _) rfl) (op2_at (eVar_at rfl) (eC_at _) rfl)) rfl (by omega))), ⟨t2, t3, s2, s3, q0, q1⟩, s4⟩
/-- flags or hues, some of them twice -/
theorem more_eq {n q : Nat} (hn : 0 < n) (hq : n + q ≤ 10) (hq2 : 0 < q) {fb : DEnv → M PyData} {ρ : DEnv} {U : US} {k : Nat} (hu : Ur (k + 1 + q) U) {d : PyData} (hd : gLen d = some (nat n)) (hf : ∀ U, fb ρ U = some (d, U)) (hw : ∀ v U, fb ((wipeD ρ [3]).set 3 (some (.d v))) U = some (d, U)) (h0 : ρ[0]? = some (some .u)) (h0w : ∀ v, ((wipeD ρ [3]).set 3 (some (.d v)))[0]? = some (some .u)) :
    ∃ F U', op2 gCatL (op1 gRgL (op1 gLen fb)) (eLc (fRng (eCall 2 F__law_take (aConsV 0 (aCons (eC (nat q)) aNil)))) [3] (aName 3) yes (eCall 2 F__law_take (aConsV 0 (aCons (op1 gLen fb) aNil)))) ρ U = some (natsL F, U') ∧ NOk F n ∧ Ur k U' := by
  have lim100 : (200 : Nat) < lim := by decide
  obtain ⟨r, U1, t1, t2, t3⟩ := F_take_eq (k := k + q) (low := q) (hu.mono (by omega)) hq2 (by omega)
  obtain ⟨zs, U2, h1, h2, h3⟩ := eLc_ur (f := fRng (eCall 2 F__law_take (aConsV 0 (aCons (eC (nat q)) aNil)))) (own := [3]) (asg := aName 3) (g := eCall 2 F__law_take (aConsV 0 (aCons (op1 gLen fb) aNil))) (ρ := ρ) (U0 := U) (U := U1) (xs := List.range r) (fun i => Im.one (nat i)) nat (fun _ z => z < n) 1 (j := k)
    (fRng_nat (callU1 h0 (eC_at _) t1) (by omega)) (by rw [List.length_range]; omega) (t3.mono (by rw [List.length_range]; omega)) fun x hx U j hu => by
      obtain ⟨z, U', g1, g2, g3⟩ := F_take_eq (k := j) (low := n) hu hn (by omega)
      exact ⟨_, rfl, z, U', callU1 (h0w _) (op1_at (hw _ U) hd) g1, g2, g3⟩
  have zl : zs.length = r := by rw [h2.len, List.length_range]
  refine ⟨List.range n ++ zs, U2, op2_at (op1_at (op1_at (hf U) hd) (gRgL_nat (by omega))) h1 (gCatL_nats (m := zs) (by simp; omega)), ⟨fun v hv => by simp [hv], fun v hv => ?_, by simp; omega, by simp; omega⟩, h3⟩
  rcases List.mem_append.mp hv with hv | hv
  · simpa using hv
  · obtain ⟨_, _, q⟩ := h2.mem hv
    exact q
end
end DL

set_option maxRecDepth 100000
set_option linter.all false
/-! E19: blown. -/
namespace DL
open PySem PySem.Spec PyProof.Rows L2
/-- what the making tells -/
structure Blown (B B2 : Bok) (F H : List Nat) : Prop where
  a : B2.ans = F.map fun f => B.ans.getD f false
  l : B2.lets = H.map fun h => ix B.lets h
  b0 : B2.b0 < F.length
  b1 : B2.b1 < H.length
  r : A2 (fun f bh => A2 (fun h ln => A2 (RowRel F H) (lnAt B f h) ln) H bh) F B2.rows
section
variable {B B2 : Bok} {K : Nat} {F H : List Nat}
theorem F_blown_eq (w : WF B K) (hn : B.ans.length ≤ 3) (hm : B.lets.length ≤ 6) {U : US} {k : Nat} (hu : Ur (k + 15000) U) :
    ∃ B2 F H U', F__law_blown [.u, .d (bookD B)] U = some (.tuple [bookD B2, natsL F, natsL H], U') ∧ NOk F B.ans.length ∧ NOk H B.lets.length ∧ Blown B B2 F H ∧ Ur k U' := by
  have lim100 : (200 : Nat) < lim := by decide
  have K9 := w.K9
  have la : gLen (.tuple (B.ans.map .bool)) = some (nat B.ans.length) := by show some (PyData.int ((B.ans.map PyData.bool).length : Nat)) = _; rw [List.length_map]
  obtain ⟨F, U1, f1, fo, f3⟩ := more_eq (n := B.ans.length) (q := 3) (fb := op2 gIx (eVar 1) (eC (.int 0))) (ρ := ent 19 [.u, .d (bookD B)]) (U := U) (k := k + 14900) w.n1 (by omega) (by omega) (hu.mono (by omega)) la (fun U => bk_ans (eVar_at rfl)) (fun v U => bk_ans (eVar_at rfl)) rfl (fun v => rfl)
  obtain ⟨H, U2, h1, ho, h3⟩ := more_eq (n := B.lets.length) (q := 4) (fb := op2 gIx (eVar 1) (eC (.int 1))) (ρ := (ent 19 [.u, .d (bookD B)]).set 2 (some (.d (natsL F)))) (U := U1) (k := k + 14800) w.m1 (by omega) (by omega) (f3.mono (by omega)) (gLen_natsT B.lets) (fun U => bk_lets (eVar_at rfl)) (fun v U => bk_lets (eVar_at rfl)) rfl (fun v => rfl)
  have F9 := fo.l9
  have H9 := ho.l9
  obtain ⟨ρ', U3, g1, ⟨R, R1, a6, a7, a8, a9, a10, a11, a12, a13, a14, a15, a16, a17, a18, rfl⟩, g3⟩ := sFor_ur (f := fSeq (eVar 2)) (asg := aName 6) (b := (sSeq (sNew 7 (eLst aNil)) (sSeq (sFor (fSeq (eVar 4)) (aName 8) (sSeq (sNew 9 (eLst aNil)) (sSeq (sFor (fSeq (op2 gIx (op2 gIx (op2 gIx (eVar 1) (eC (.int 3))) (eVar 6)) (eVar 8))) (aTup [10, 11, 12, 13]) bBlo) (sApp 7 (op1 gTuple (eBor 9)))))) (sApp 5 (op1 gTuple (eBor 7))))))
    (ρ := [some .u, some (.d (bookD B)), some (.d (natsL F)), none, some (.d (natsL H)), some (.m []), none, none, none, none, none, none, none, none, none, none, none, none, none]) (U0 := U2) (U := U2) (xs := F) (fun i => Im.one (nat i))
    (fun i ρ => ∃ R : List (List (List Row)), A2 (fun f bh => A2 (fun h ln => A2 (RowRel F H) (lnAt B f h) ln) H bh) (F.take i) R ∧ ∃ a6 a7 a8 a9 a10 a11 a12 a13 a14 a15 a16 a17 a18, ρ = [some .u, some (.d (bookD B)), some (.d (natsL F)), none, some (.d (natsL H)), some (.m (R.map bhD)), a6, a7, a8, a9, a10, a11, a12, a13, a14, a15, a16, a17, a18]) 1620 (j := k + 20)
    (fSeq_l (eVar_at rfl)) ⟨[], .nil, _, _, _, _, _, _, _, _, _, _, _, _, _, rfl⟩ (h3.mono (by omega)) (by
      rintro i f ρ U j hi ⟨R, R1, a6, a7, a8, a9, a10, a11, a12, a13, a14, a15, a16, a17, a18, rfl⟩ hu
      have hil := (List.getElem?_eq_some_iff.mp hi).1
      have hf : f < B.ans.length := fo.lt f (List.mem_of_getElem? hi)
      obtain ⟨ρ', U3, g1, ⟨S, S1, a8, a9, a10, a11, a12, a13, a14, a15, a16, a17, a18, rfl⟩, g3⟩ := sFor_ur (f := fSeq (eVar 4)) (asg := aName 8) (b := (sSeq (sNew 9 (eLst aNil)) (sSeq (sFor (fSeq (op2 gIx (op2 gIx (op2 gIx (eVar 1) (eC (.int 3))) (eVar 6)) (eVar 8))) (aTup [10, 11, 12, 13]) bBlo) (sApp 7 (op1 gTuple (eBor 9))))))
        (ρ := [some .u, some (.d (bookD B)), some (.d (natsL F)), none, some (.d (natsL H)), some (.m (R.map bhD)), some (.d (nat f)), some (.m []), a8, a9, a10, a11, a12, a13, a14, a15, a16, a17, a18]) (U0 := U) (U := U) (xs := H) (fun i => Im.one (nat i))
        (fun i ρ => ∃ S : List (List Row), A2 (fun h ln => A2 (RowRel F H) (lnAt B f h) ln) (H.take i) S ∧ ∃ a8 a9 a10 a11 a12 a13 a14 a15 a16 a17 a18, ρ = [some .u, some (.d (bookD B)), some (.d (natsL F)), none, some (.d (natsL H)), some (.m (R.map bhD)), some (.d (nat f)), some (.m (S.map lineD)), a8, a9, a10, a11, a12, a13, a14, a15, a16, a17, a18]) 180 (j := j)
        (fSeq_l (eVar_at rfl)) ⟨[], .nil, _, _, _, _, _, _, _, _, _, _, _, rfl⟩ (hu.mono (by omega)) (by
          rintro i h ρ U j hi ⟨S, S1, a8, a9, a10, a11, a12, a13, a14, a15, a16, a17, a18, rfl⟩ hu
          have hil := (List.getElem?_eq_some_iff.mp hi).1
          have hh : h < B.lets.length := ho.lt h (List.mem_of_getElem? hi)
          have lnl := w.lnl hf hh
          obtain ⟨ρ', U3, g1, ⟨T, T1, a10, a11, a12, a13, a14, a15, a16, a17, a18, rfl⟩, g3⟩ := sFor_ur (f := fSeq (op2 gIx (op2 gIx (op2 gIx (eVar 1) (eC (.int 3))) (eVar 6)) (eVar 8))) (asg := aTup [10, 11, 12, 13]) (b := bBlo)
            (ρ := [some .u, some (.d (bookD B)), some (.d (natsL F)), none, some (.d (natsL H)), some (.m (R.map bhD)), some (.d (nat f)), some (.m (S.map lineD)), some (.d (nat h)), some (.m []), a10, a11, a12, a13, a14, a15, a16, a17, a18]) (U0 := U) (U := U) (xs := lnAt B f h) (fun r => Im.one (rowD r))
            (fun i ρ => ∃ T : List Row, A2 (RowRel F H) ((lnAt B f h).take i) T ∧ ∃ a10 a11 a12 a13 a14 a15 a16 a17 a18, ρ = [some .u, some (.d (bookD B)), some (.d (natsL F)), none, some (.d (natsL H)), some (.m (R.map bhD)), some (.d (nat f)), some (.m (S.map lineD)), some (.d (nat h)), some (.m (T.map rowD)), a10, a11, a12, a13, a14, a15, a16, a17, a18]) 20 (j := j)
            (fSeq_t (op2_at (op2_at (bk_rows (eVar_at rfl)) (eVar_at rfl) (gIx_rows w hf)) (eVar_at rfl) (gIx_bh (by rw [w.bhl hf]; exact hh)))) ⟨[], .nil, _, _, _, _, _, _, _, _, _, rfl⟩ (hu.mono (by omega)) (by
              rintro i r ρ U j hi ⟨T, T1, a10, a11, a12, a13, a14, a15, a16, a17, a18, rfl⟩ hu
              have hil := (List.getElem?_eq_some_iff.mp hi).1
              have tl := T1.len
              rw [List.length_take] at tl
              obtain ⟨q, U', g1, g2, g3⟩ := bBlo_eq (a1 := some (.d (bookD B))) (a3 := none) (a5 := some (.m (R.map bhD))) (a6 := some (.d (nat f))) (a7 := some (.m (S.map lineD))) (a8 := some (.d (nat h))) (a14 := a14) (a15 := a15) (a16 := a16) (a17 := a17) (a18 := a18) (acc := T.map rowD) fo ho (w.ro _ (w.bh hf) _ (w.ln hf hh) r (List.mem_of_getElem? hi)) (by rw [List.length_map]; omega) hu
              exact ⟨_, rfl, _, U', g1, ⟨T ++ [q], T1.snoc hi g2, _, _, _, _, _, _, _, _, _, by rw [List.map_append]; rfl⟩, g3⟩)
          rw [List.take_length] at T1
          have sl := S1.len
          rw [List.length_take] at sl
          exact ⟨_, rfl, _, U3, seqE (sNew_at (nil_at _ _)) (seqE g1 (sApp_at (d := lineD T) (op1_at (eBor_at rfl) rfl) rfl (by rw [List.length_map]; omega))), ⟨S ++ [T], S1.snoc hi T1, _, _, _, _, _, _, _, _, _, _, _, by rw [List.map_append]; rfl⟩, g3⟩)
      rw [List.take_length] at S1
      have rl := R1.len
      rw [List.length_take] at rl
      exact ⟨_, rfl, _, U3, seqE (sNew_at (nil_at _ _)) (seqE g1 (sApp_at (d := bhD S) (op1_at (eBor_at rfl) rfl) rfl (by rw [List.length_map]; omega))), ⟨R ++ [S], R1.snoc hi S1, _, _, _, _, _, _, _, _, _, _, _, _, _, by rw [List.map_append]; rfl⟩, g3⟩)
  rw [List.take_length] at R1
  obtain ⟨c0, U4, s1, s2, s3, s4⟩ := F_one_eq (k := k + 1) (l := F) (v := B.b0) (d := natsL F) rfl (g3.mono (by omega)) (fo.all _ w.c0) (by omega)
  obtain ⟨c1, U5, t1, t2, t3, t4⟩ := F_one_eq (k := k) (l := H) (v := B.b1) (d := natsL H) rfl s4 (ho.all _ w.c1) (by omega)
  refine ⟨⟨F.map fun f => B.ans.getD f false, H.map fun h => ix B.lets h, c0, c1, R⟩, F, H, U5, fnD_rt (seqE (sSet_at f1) (seqE (sSet_at h1) (seqE (sNew_at (nil_at _ _)) (seqE g1 (seqE (sSet_at (tup2 (callU2 rfl (eVar_at rfl) (beg_0 (eVar_at rfl)) s1) (callU2 rfl (eVar_at rfl) (beg_1 (eVar_at rfl)) t1))) (seqE (sSet_at (tup4
    (op1_at (eLc_map (xs := F) (fun f => PyData.bool (B.ans.getD f false)) (fun i => Im.one (nat i)) (fSeq_l (eVar_at rfl)) (by omega) fun f hf => ⟨_, rfl, op2_at (bk_ans (eVar_at rfl)) (eVar_at rfl) (gIx_map_getD false (fo.lt f hf))⟩) rfl)
    (op1_at (eLc_map (xs := H) (fun h => nat (ix B.lets h)) (fun i => Im.one (nat i)) (fSeq_l (eVar_at rfl)) (by omega) fun h hh => ⟨_, rfl, op2_at (bk_lets (eVar_at rfl)) (eVar_at rfl) (gIx_nats (ho.lt h hh))⟩) rfl)
    (eVar_at rfl) (op1_at (eBor_at rfl) rfl))) (sRet_at (d := .tuple [bookD ⟨F.map fun f => B.ans.getD f false, H.map fun h => ix B.lets h, c0, c1, R⟩, natsL F, natsL H]) (tup3 (eVar_at ?_) (eVar_at rfl) (eVar_at rfl))))))))), fo, ho, ⟨rfl, rfl, s2, t2, R1⟩, t4⟩
  show some (some (Sl.d (PyData.tuple [PyData.tuple (F.map fun f => PyData.bool (B.ans.getD f false)), PyData.tuple (H.map fun h => nat (ix B.lets h)), _, _]))) = _
  unfold bookD rowsD natsT
  dsimp only
  rw [List.map_map, List.map_map]
  rfl
theorem blown_wf (w : WF B K) (f : NOk F B.ans.length) (h : NOk H B.lets.length) (b : Blown B B2 F H) : WF B2 K := by
  have e1 : B2.ans.length = F.length := by rw [b.a, List.length_map]
  have e2 : B2.lets.length = H.length := by rw [b.l, List.length_map]
  refine ⟨by rw [e1]; exact f.pos, by rw [e1]; exact f.l9, by rw [e2]; exact h.pos, by rw [e2]; exact h.l9, w.K9, by rw [e1]; exact b.r.len, fun bh hb => ?_, fun bh hb ln hl => ?_, fun bh hb ln hl q hq => ?_, by rw [e1]; exact b.b0, by rw [e2]; exact b.b1⟩
  · obtain ⟨_, _, r⟩ := b.r.mem hb
    rw [e2]; exact r.len
  · obtain ⟨g, hg, r⟩ := b.r.mem hb
    obtain ⟨k, hk, s⟩ := r.mem hl
    rw [s.len]
    exact w.lnl (f.lt g hg) (h.lt k hk)
  · obtain ⟨g, hg, r⟩ := b.r.mem hb
    obtain ⟨k, hk, s⟩ := r.mem hl
    obtain ⟨z, hz, t⟩ := s.mem hq
    rw [e1, e2]
    refine ⟨t.g1, t.h1, t.l.len, t.r.len, fun v hv => ?_, fun v hv => ?_⟩
    · obtain ⟨_, _, u⟩ := t.l.mem hv
      exact u.1
    · obtain ⟨_, _, u⟩ := t.r.mem hv
      exact u.1
theorem blown_row (w : WF B K) (fo : NOk F B.ans.length) (ho : NOk H B.lets.length) (b : Blown B B2 F H) {f h l : Nat} (hf : f < F.length) (hh : h < H.length) (hl : l ≤ K) : RowRel F H (rowAt B (ix F f) (ix H h) l) (rowAt B2 f h l) := by
  have r1 := b.r.at 0 [] hf
  have r2 := r1.at 0 [] hh
  exact r2.at (0, 0, [], []) (0, 0, [], []) (by rw [w.lnl (fo.lt _ (getD_mem 0 hf)) (ho.lt _ (getD_mem 0 hh))]; omega)
theorem blown_cov (w : WF B K) (fo : NOk F B.ans.length) (ho : NOk H B.lets.length) (b : Blown B B2 F H) : Cov B2 K (cm F, cm H) := by
  have e1 : B2.ans.length = F.length := by rw [b.a, List.length_map]
  have e2 : B2.lets.length = H.length := by rw [b.l, List.length_map]
  have c1 : ∀ {f g}, f < F.length → g < F.length → (ix (cm F) f = ix (cm F) g ↔ ix F f = ix F g) := fun hf hg => cm_iff_ix 0 hf hg
  have c2 : ∀ {f g}, f < H.length → g < H.length → (ix (cm H) f = ix (cm H) g ↔ ix H f = ix H g) := fun hf hg => cm_iff_ix 0 hf hg
  refine ⟨fun f g hf hg e => ?_, fun h k hh hk e => ?_, fun f g h k l hf hg hh hk hl ef eh => ?_⟩
  · rw [e1] at hf hg
    have e' := (c1 hf hg).mp e
    rw [b.a, map_getD 0 _ hf, map_getD 0 _ hg]
    exact congrArg (fun z => B.ans.getD z false) e'
  · rw [e2] at hh hk
    have e' := (c2 hh hk).mp e
    rw [b.l]
    rw [ix_map hh, ix_map hk, e']
  · rw [e1] at hf hg
    rw [e2] at hh hk
    have ef' := (c1 hf hg).mp ef
    have eh' := (c2 hh hk).mp eh
    have A := blown_row w fo ho b hf hh hl
    have D := blown_row w fo ho b hg hk hl
    rw [← ef', ← eh'] at D
    refine ⟨(c1 A.g1 D.g1).mpr (A.g2.trans D.g2.symm), (c2 A.h1 D.h1).mpr (A.h2.trans D.h2.symm), fun p q hp hq e => ?_, fun p q hp hq e => ?_⟩
    · rw [e2] at hp hq
      have e' := (c2 hp hq).mp e
      obtain ⟨u1, u2⟩ := A.l.at 0 0 hp
      obtain ⟨v1, v2⟩ := D.l.at 0 0 hq
      have e3 : H.getD p 0 = H.getD q 0 := e'
      rw [e3] at u2
      exact (c2 u1 v1).mpr (u2.trans v2.symm)
    · rw [e2] at hp hq
      have e' := (c2 hp hq).mp e
      obtain ⟨u1, u2⟩ := A.r.at 0 0 hp
      obtain ⟨v1, v2⟩ := D.r.at 0 0 hq
      have e3 : H.getD p 0 = H.getD q 0 := e'
      rw [e3] at u2
      exact (c2 u1 v1).mpr (u2.trans v2.symm)
end
end DL

set_option maxRecDepth 100000
set_option linter.all false
/-! E20: data that go through; the six lots. -/
namespace DL
open PySem PySem.Spec PyProof.Rows L2
theorem okD_tup {α : Type} {e : α → PyData} {l : List α} {n : Nat} (hl : l.length ≤ 1000) (h : ∀ a ∈ l, okD n (e a)) : okD (n + 1) (.tuple (l.map e)) := by
  have lim1000 : (1000 : Nat) ≤ lim := by decide
  exact ⟨by rw [List.length_map]; omega, fun x hx => by obtain ⟨a, ha, rfl⟩ := List.mem_map.mp hx; exact h a ha⟩
theorem okD_nats {l : List Nat} (hl : l.length ≤ 1000) (n : Nat) : okD (n + 2) (natsT l) := okD_tup hl fun a _ => trivial
theorem okD_fix {xs : List PyData} {n : Nat} (hl : xs.length ≤ 1000) (h : ∀ x ∈ xs, okD n x) : okD (n + 1) (.tuple xs) := by
  have lim1000 : (1000 : Nat) ≤ lim := by decide
  exact ⟨by omega, h⟩
theorem okD_row {r : Row} {n m : Nat} (R : RowOk n m r) (h9 : m ≤ 9) (k : Nat) : okD (k + 3) (rowD r) := okD_fix (by simp) fun x hx => by
  have : x = nat r.1 ∨ x = nat r.2.1 ∨ x = natsT r.2.2.1 ∨ x = natsT r.2.2.2 := by simpa using hx
  rcases this with rfl | rfl | rfl | rfl
  · trivial
  · trivial
  · exact okD_nats (by rw [R.lL]; omega) k
  · exact okD_nats (by rw [R.rL]; omega) k
theorem okD_book {B : Bok} {K : Nat} (w : WF B K) (k : Nat) : okD (k + 7) (bookD B) := okD_fix (by simp) fun x hx => by
  have n9 := w.n9
  have m9 := w.m9
  have K9 := w.K9
  have : x = .tuple (B.ans.map .bool) ∨ x = natsT B.lets ∨ x = .tuple [nat B.b0, nat B.b1] ∨ x = rowsD B := by simpa using hx
  rcases this with rfl | rfl | rfl | rfl
  · exact okD_tup (by omega) fun a _ => trivial
  · exact okD_nats (by omega) (k + 4)
  · exact okD_nats (l := [B.b0, B.b1]) (by simp) (k + 4)
  · refine okD_tup (by rw [w.rl]; omega) fun bh hb => okD_tup (by rw [w.bl bh hb]; omega) fun ln hl => okD_tup (by rw [w.ll bh hb ln hl]; omega) fun r hr => okD_row (w.ro bh hb ln hl r hr) m9 k
theorem okD_lots {B : Bok} {K : Nat} {x : Lots} (w : WF B K) (nx : Nm B x) (k : Nat) : okD (k + 3) (lotsD x) := okD_fix (by simp) fun y hy => by
  have n9 := w.n9
  have m9 := w.m9
  have : y = natsT x.1 ∨ y = natsT x.2 := by simpa using hy
  rcases this with rfl | rfl
  · exact okD_nats (by rw [nx.l1]; omega) k
  · exact okD_nats (by rw [nx.l2]; omega) k
theorem hard_nat (n i : Nat) : hardN n (nat i) = nat i := by cases n <;> rfl
theorem hard_bool (n : Nat) (b : Bool) : hardN n (.bool b) = .bool b := by cases n <;> rfl
theorem hard_tup {α : Type} {e : α → PyData} (h : ∀ m a, hardN m (e a) = e a) (n : Nat) (l : List α) : hardN n (.tuple (l.map e)) = .tuple (l.map e) := by
  cases n with
  | zero => rfl
  | succ n =>
    show PyData.tuple ((l.map e).map (hardN n)) = _
    rw [List.map_map]
    congr 1
    exact List.map_congr_left fun a _ => h n a
theorem hard_nats (n : Nat) (l : List Nat) : hardN n (natsT l) = natsT l := hard_tup hard_nat n l
theorem hard_row (n : Nat) (r : Row) : hardN n (rowD r) = rowD r := by
  cases n with
  | zero => rfl
  | succ n => simp [rowD, hardN, hard_nat, hard_nats]
theorem hard_line (n : Nat) (ln : List Row) : hardN n (lineD ln) = lineD ln := hard_tup hard_row n ln
theorem hard_bh (n : Nat) (bh : List (List Row)) : hardN n (bhD bh) = bhD bh := hard_tup hard_line n bh
theorem hard_rows (n : Nat) (B : Bok) : hardN n (rowsD B) = rowsD B := hard_tup hard_bh n B.rows
theorem hard_book (n : Nat) (B : Bok) : hardN n (bookD B) = bookD B := by
  cases n with
  | zero => rfl
  | succ n =>
    have h1 : hardN n (.tuple (B.ans.map .bool)) = .tuple (B.ans.map .bool) := hard_tup hard_bool n B.ans
    have h2 : hardN n (.tuple [nat B.b0, nat B.b1]) = .tuple [nat B.b0, nat B.b1] := hard_nats n [B.b0, B.b1]
    show PyData.tuple [hardN n _, hardN n _, hardN n _, hardN n _] = _
    rw [h1, hard_nats, h2, hard_rows]; rfl
theorem hard_lots (n : Nat) (x : Lots) : hardN n (lotsD x) = lotsD x := by
  cases n with
  | zero => rfl
  | succ n => simp [lotsD, hardN, hard_nats]
section
variable {B : Bok} {K : Nat} {x : Lots}
theorem Nm.ld1 (w : WF B K) (nx : Nm B x) : LdOk x.1 := ldOk_of nx.c1 (by rw [nx.l1]; exact w.n1) (by rw [nx.l1]; exact w.n9)
theorem Nm.ld2 (w : WF B K) (nx : Nm B x) : LdOk x.2 := ldOk_of nx.c2 (by rw [nx.l2]; exact w.m1) (by rw [nx.l2]; exact w.m9)
abbrev bSix : DEnv → M Out := (sSeq (sSet 13 (eCall 2 F__law_is_one (aCons (eVar 2) (aCons (eVar 12) aNil)))) (sIf (tNotD (tst (eCall 2 (F__law_same 8) (aCons (eLst (aCons (eCall 2 F_is_folding (aCons (eVar 7) (aCons (eVar 12) aNil))) (aCons (eCall 2 F__law_heard (aCons (eVar 2) (aCons (eCall 1 (F__law_lists 8) (aCons (eVar 12) aNil)) aNil))) aNil))) (aCons (eLst (aCons (eVar 13) (aCons (eIf (tst (eVar 13)) (eCall 2 F__law_folded (aCons (eVar 2) (aCons (eVar 12) aNil))) (eC (.str "unfit"))) aNil))) aNil))))) (sRet (eC (.bool false))) sNil))
theorem unfit_ok : PyData.canLay0 (.str "unfit") = true := by decide +kernel
/-- one of the lots -/
theorem bSix_eq (w : WF B K) (nx : Nm B x) (a0 a1 a3 a4 a5 a6 a8 a9 a10 a11 a13 a14 a15 : Option Sl) (U : US) :
    ∃ b, bSix [a0, a1, some (.d (bookD B)), a3, a4, a5, a6, some (.d (softN 8 (bookD B))), a8, a9, a10, a11, some (.d (lotsD x)), a13, a14, a15] U = some (.nx [a0, a1, some (.d (bookD B)), a3, a4, a5, a6, some (.d (softN 8 (bookD B))), a8, a9, a10, a11, some (.d (lotsD x)), some (.d b), a14, a15], U) := by
  have lim1000 : (1000 : Nat) ≤ lim := by decide
  obtain ⟨b, h1, h2⟩ := F_is_one_eq w nx.l1 nx.l2 U
  have hs : b = decide (step B x = x) := by
    by_cases c : step B x = x
    · rw [h2.mpr ((isOne_iff w nx).mpr c)]; simp [c]
    · have : b = false := by
        cases b with
        | false => rfl
        | true => exact absurd ((isOne_iff w nx).mp (h2.mp rfl)) c
      rw [this]; simp [c]
  have ob := okD_book w 1
  have oss := ok_soft 8 _ ob
  have hb : hardN 8 (softN 8 (bookD B)) = bookD B := by rw [hard_soft, hard_book]
  have ol := okD_lots w nx 5
  have hl : hardN 8 (softN 8 (lotsD x)) = lotsD x := by rw [hard_soft, hard_lots]
  have i1 := F_is_folding_eq w nx oss hb U
  have i2 := F_heard_eq w nx (nx.ld1 w) (nx.ld2 w) ob (hard_book 8 B) (ok_soft 8 _ ol) hl U
  have i3 := F_law_folded_eq w nx (nx.ld1 w) (nx.ld2 w) U
  have wf := wf_fold w nx (nx.ld1 w) (nx.ld2 w)
  have o8 : okD 8 (.list [.bool b, if step B x = x then bookD (foldB B x) else .str "unfit"]) := by
    refine ⟨by simp [lim], fun z hz => ?_⟩
    have : z = .bool b ∨ z = if step B x = x then bookD (foldB B x) else .str "unfit" := by simpa using hz
    rcases this with rfl | rfl
    · trivial
    · split
      · exact okD_book wf 0
      · exact unfit_ok
  refine ⟨.bool b, seqE (sSet_at (call2 (eVar_at rfl) (eVar_at rfl) h1)) (sIf_f (tNot_at (c := true) (tst_at (call2 (d1 := .list [.bool b, if step B x = x then bookD (foldB B x) else .str "unfit"]) (d2 := .list [.bool b, if step B x = x then bookD (foldB B x) else .str "unfit"])
    (eLst_at (ds := [_, _]) (aCons_at (call2 (eVar_at rfl) (eVar_at rfl) (by rw [i1, hs])) (aCons_at (call2 (eVar_at rfl) (call1 (eVar_at rfl) (F_lists_eq 8 _ U ol)) i2) (aNil_at _ _))) (by simp [lim]))
    (eLst_at (ds := [_, _]) (aCons_at (eVar_at rfl) (aCons_at ?_ (aNil_at _ _))) (by simp [lim])) (F_same_eq 8 _ U o8)))) rfl)⟩
  by_cases c : step B x = x
  · rw [if_pos c]
    have : b = true := by rw [hs]; simp [c]
    subst this
    exact eIf_t (tst_at (eVar_at rfl)) (call2 (eVar_at rfl) (eVar_at rfl) i3)
  · rw [if_neg c]
    have : b = false := by rw [hs]; simp [c]
    subst this
    exact eIf_f (tst_at (eVar_at rfl)) (eC_at _)
end
end DL

set_option maxRecDepth 100000
set_option linter.all false
/-! E21: the law's main part. -/
namespace DL
open PySem PySem.Spec PyProof.Rows L2
theorem repsA_nodup {α : Type} [DecidableEq α] : ∀ (xs k : List α), (∀ a ∈ xs, a ∉ k) → xs.Nodup → repsA (fun a b => decide (a = b)) xs k = k ++ xs
  | [], k, _, _ => by simp [repsA]
  | x :: xs, k, h, hn => by
    have hn' := List.nodup_cons.mp hn
    have c : ¬ (k.any (fun y => decide (y = x)) = true) := fun e => by
      obtain ⟨y, hy, e2⟩ := List.any_eq_true.mp e
      have : y = x := by simpa using e2
      exact h x List.mem_cons_self (by rw [← this]; exact hy)
    show repsA _ xs (if k.any (fun y => decide (y = x)) then k else k ++ [x]) = _
    rw [if_neg c, repsA_nodup xs (k ++ [x]) (fun a ha => ?_) hn'.2]
    · simp
    · intro e
      rcases List.mem_append.mp e with e | e
      · exact h a (List.mem_cons_of_mem _ ha) e
      · rw [List.mem_singleton.mp e] at ha
        exact hn'.1 ha
theorem cm_range (n : Nat) : cm (List.range n) = List.range n := by
  have e : kn (List.range n) = List.range n := by
    exact (repsA_nodup (List.range n) [] (fun a _ h => nomatch h) List.nodup_range).trans (List.nil_append _)
  rw [cm_eq, e]
  refine List.ext_getElem (by simp) fun i h1 h2 => ?_
  have hi : i < (List.range n).length := by simpa using h2
  have := idxOf_nodup List.nodup_range hi
  simp only [List.getElem_map]
  rw [this]
  simp
theorem zip_come {l m : List Nat} (hl : l.length = m.length) (hc : cm l = l) (h : ∀ i j, i < l.length → j < l.length → ix l i = ix l j → ix m i = ix m j) : cm (l.zip m) = l := by
  refine Eq.trans ?_ hc
  have zl : (l.zip m).length = l.length := by rw [List.length_zip]; omega
  have zg : ∀ i, i < l.length → (l.zip m).getD i (0, 0) = (ix l i, ix m i) := fun i hi => by
    rw [List.getD_eq_getElem?_getD]
    have : (l.zip m)[i]? = some (ix l i, ix m i) := by
      rw [List.getElem?_zip_eq_some]
      unfold ix
      have hm : i < m.length := by omega
      exact ⟨by show l[i]? = some (l.getD i 0); rw [List.getD_eq_getElem?_getD, List.getElem?_eq_getElem hi]; rfl, by show m[i]? = some (m.getD i 0); rw [List.getD_eq_getElem?_getD, List.getElem?_eq_getElem hm]; rfl⟩
    rw [this]; rfl
  refine cm_pat_ix (0, 0) 0 zl fun i j hi hj => ?_
  rw [zl] at hi hj
  rw [zg i hi, zg j hj]
  constructor
  · intro e; exact congrArg Prod.fst e
  · intro e; exact Prod.ext e (h i j hi hj e)
theorem gZipL_nats (l m : List Nat) : gZipL (natsT l) (natsT m) = some (.list ((l.zip m).map pairD)) := by
  show some (PyData.list (((l.map nat).zip (m.map nat)).map fun p => PyData.tuple [p.1, p.2])) = _
  congr 2
  induction l generalizing m with
  | nil => simp
  | cons a l ih =>
    cases m with
    | nil => simp
    | cons b m => simp only [List.map_cons, List.zip_cons_cons, ih]; rfl
theorem gRgT_nat {n : Nat} (h : n ≤ 100) : gRgT (nat n) = some (natsT (List.range n)) := by
  show (if 0 ≤ (n : Int) ∧ (n : Int) ≤ 100000 then some (PyData.tuple (rgD (n : Int))) else none) = _
  rw [if_pos ⟨by omega, by omega⟩]; rfl
theorem sPut_at {i : Nat} {fv fk : DEnv → M PyData} {ρ : DEnv} {U U1 U2 : US} {l : List Nat} {v k : Nat} (h1 : fv ρ U = some (nat v, U1)) (h2 : fk ρ U1 = some (nat k, U2)) (hi : ρ[i]? = some (some (.m (l.map nat)))) (hk : k < l.length) : sPut i fv fk ρ U = some (.nx (ρ.set i (some (.m ((l.set k v).map nat)))), U2) := by
  unfold sPut
  rw [bnd_at h1, bnd_at h2]
  have e : ixN (l.map nat).length (k : Int) = some k := by
    unfold ixN
    rw [if_pos (by omega), if_pos (by rw [List.length_map]; omega), Int.toNat_natCast]
  simp only [hi, e]
  rw [List.map_set]
theorem eTup6 {f1 f2 f3 f4 f5 f6 : DEnv → M PyData} {ρ : DEnv} {U : US} {d1 d2 d3 d4 d5 d6 : PyData} (h1 : f1 ρ U = some (d1, U)) (h2 : f2 ρ U = some (d2, U)) (h3 : f3 ρ U = some (d3, U)) (h4 : f4 ρ U = some (d4, U)) (h5 : f5 ρ U = some (d5, U)) (h6 : f6 ρ U = some (d6, U)) :
    eTup (aCons f1 (aCons f2 (aCons f3 (aCons f4 (aCons f5 (aCons f6 aNil)))))) ρ U = some (.tuple [d1, d2, d3, d4, d5, d6], U) := eTup_at (ds := [_, _, _, _, _, _]) (aCons_at h1 (aCons_at h2 (aCons_at h3 (aCons_at h4 (aCons_at h5 (aCons_at h6 (aNil_at _ _))))))) (by simp [lim])
theorem seqR {s t : DEnv → M Out} {ρ ρ' : DEnv} {U U1 : US} {d : PyData} (h : s ρ U = some (.nx ρ', U1)) (k : ∃ U', t ρ' U1 = some (.rt d, U')) : ∃ U', sSeq s t ρ U = some (.rt d, U') := by rw [sSeq_at h]; exact k
theorem frzR {i : Nat} {s : DEnv → M Out} {ρ : DEnv} {U : US} {xs : List PyData} {d : PyData} (hi : ρ[i]? = some (some (.m xs))) (k : ∃ U', s (ρ.set i (some (.d (.list xs)))) U = some (.rt d, U')) : ∃ U', sFrz i s ρ U = some (.rt d, U') := by rw [sFrz_at hi]; exact k
theorem forR {f : DEnv → M (List Im)} {asg : Im → DEnv → Option DEnv} {b t : DEnv → M Out} {ρ : DEnv} {U : US} {α : Type} {xs : List α} {d : PyData} (m : α → Im) (I : Nat → DEnv → Prop) (hf : f ρ U = some (xs.map m, U)) (h0 : I 0 ρ)
    (q : ∀ i x ρ, xs[i]? = some x → I i ρ → ∃ ρ1, asg (m x) ρ = some ρ1 ∧ ∃ ρ2, b ρ1 U = some (.nx ρ2, U) ∧ I (i + 1) ρ2) (k : ∀ ρ', I xs.length ρ' → ∃ U', t ρ' U = some (.rt d, U')) : ∃ U', sSeq (sFor f asg b) t ρ U = some (.rt d, U') := by
  obtain ⟨ρ', h1, h2⟩ := sFor_nx (asg := asg) (b := b) m I hf h0 q
  exact seqR h1 (k ρ' h2)
theorem retR {n : Nat} {S : DEnv → M Out} {ss : List Sl} {U : US} {d : PyData} (h : ∃ U', S (ent n ss) U = some (.rt d, U')) : ∃ U', fnD n S ss U = some (d, U') := by
  obtain ⟨U', h⟩ := h
  exact ⟨U', fnD_rt h⟩
theorem F_right_eq {U : US} (hu : Ur 40000 U) : ∃ U', F__law_right [.u] U = some (.bool true, U') := by
  obtain ⟨r, U1, t1, t2, t3⟩ := F_take_eq (k := 39999) (low := 2) hu (by omega) (by omega)
  obtain ⟨B, U2, b1, wB, b3, bn, bm⟩ := F_book_eq (K := 1 + r) (k := 20000) (by omega) (t3.mono (by omega))
  obtain ⟨B2, F, H, U3, c1, fo, ho, bl, c3⟩ := F_blown_eq wB bn bm (k := 5000) (b3.mono (by omega))
  have w := blown_wf wB fo ho bl
  have cv := blown_cov wB fo ho bl
  have n9 := w.n9
  have m9 := w.m9
  have e1 : B2.ans.length = F.length := by rw [bl.a, List.length_map]
  have e2 : B2.lets.length = H.length := by rw [bl.l, List.length_map]
  obtain ⟨x, hx, nx, cr, hs⟩ := best_is w cv
  have ny : Nm B2 (cm F, cm H) := ⟨by rw [cm_len, e1], by rw [cm_len, e2], cm_cm _, cm_cm _⟩
  have lim100 : (200 : Nat) < lim := by decide
  have ob := okD_book w 1
  have oss := ok_soft 8 _ ob
  have hb : hardN 8 (softN 8 (bookD B2)) = bookD B2 := by rw [hard_soft, hard_book]
  have ol := okD_lots w nx 5
  have is1 : IsOne B2 (1 + r) x := (isOne_iff w nx).mpr hs
  have wf := wf_fold w nx (nx.ld1 w) (nx.ld2 w)
  have la : gLen (.tuple (B2.ans.map .bool)) = some (nat B2.ans.length) := by show some (PyData.int ((B2.ans.map PyData.bool).length : Nat)) = _; rw [List.length_map]
  -- the bent one
  have x2ne : x.2 ≠ [] := (nx.ld2 w).ne
  have x2l : x.2.length = B2.lets.length := nx.l2
  obtain ⟨v, U4, v1, v2, v3⟩ := F_take_eq (k := 4999) (low := mxN x.2 + 2) c3 (by omega) (by have := (nx.ld2 w).mx; omega)
  obtain ⟨k, U5, k1, k2, k3⟩ := F_take_eq (k := 4998) (low := x.2.length) v3 (by have := w.m1; omega) (by omega)
  have bentl : (x.2.set k v).length = B2.lets.length := by rw [List.length_set, x2l]
  have na : Nm B2 (List.range B2.ans.length, List.range B2.lets.length) := ⟨by simp, by simp, cm_range _, cm_range _⟩
  have lots : ∀ z ∈ [(cm F, cm H), x, (List.range B2.ans.length, List.range B2.lets.length), (x.1, List.range B2.lets.length), (List.range B2.ans.length, x.2), (x.1, cm (x.2.set k v))], Nm B2 z := by
    intro z hz
    have : z = (cm F, cm H) ∨ z = x ∨ z = (List.range B2.ans.length, List.range B2.lets.length) ∨ z = (x.1, List.range B2.lets.length) ∨ z = (List.range B2.ans.length, x.2) ∨ z = (x.1, cm (x.2.set k v)) := by simpa using hz
    rcases this with rfl | rfl | rfl | rfl | rfl | rfl
    · exact ny
    · exact nx
    · exact na
    · exact ⟨nx.l1, na.l2, nx.c1, na.c2⟩
    · exact ⟨na.l1, nx.l2, na.c1, nx.c2⟩
    · exact ⟨nx.l1, by rw [cm_len, bentl], nx.c1, cm_cm _⟩
  have q1 : F__law_come [.d (natsL F)] U3 = some (natsT (cm F), U3) := F_law_come_eq (ei_nat 0) (by omega) (by omega) rfl U3
  have q2 : F__law_come [.d (natsL H)] U3 = some (natsT (cm H), U3) := F_law_come_eq (ei_nat 0) (by omega) (by omega) rfl U3
  have q3 : F__law_come [.d (.list ((x.2.set k v).map nat))] U5 = some (natsT (cm (x.2.set k v)), U5) := F_law_come_eq (ei_nat 0) (by omega) (by omega) rfl U5
  refine retR (seqR (sSet_at (op2_at (eC_at _) (callU1 rfl (eC_at _) t1) (gAdd_1l r))) (seqR (sUnp_at (callU1 rfl (callU2 rfl (eVar_at rfl) (eC_at _) b1) c1) rfl) (seqR (sSet_at (tup2 (call1 (eVar_at rfl) q1) (call1 (eVar_at rfl) q2)))
      (seqR (sPar_at (aCons_at (call1 (eVar_at rfl) (F_folding_eq w hx ob (hard_book 8 B2) U3)) (aCons_at (call1 (eVar_at rfl) (F_lists_eq 8 _ U3 ob)) (aNil_at _ _))) rfl)
      (seqR (sIf_f (tNot_at (c := true) (tst_at (call2 (eVar_at rfl) (call1 (eVar_at rfl) (F_coarsest_eq w hx U3)) (F_same_eq 8 _ U3 ol)))) rfl) ?_)))))
  refine forR (xs := [(cm F, x.1), (cm H, x.2)]) (fun p => Im.many [natsT p.1, natsT p.2])
    (fun i ρ => ∃ a8 a9, ρ = [some .u, some (.d (nat (1 + r))), some (.d (bookD B2)), some (.d (natsL F)), some (.d (natsL H)), some (.d (lotsD (cm F, cm H))), some (.d (lotsD x)), some (.d (softN 8 (bookD B2))), a8, a9, none, none, none, none, none, none])
    (fZip_t (xs := [cm F, cm H]) (ys := [x.1, x.2]) (eVar_at rfl) (eVar_at rfl)) ⟨none, none, rfl⟩ ?_ ?_
  · rintro i p ρ hi ⟨a8, a9, rfl⟩
    have hp : p = (cm F, x.1) ∨ p = (cm H, x.2) := by simpa using List.mem_of_getElem? hi
    have hz : cm (p.1.zip p.2) = p.1 ∧ (p.1.zip p.2).length ≤ 9 := by
      rcases hp with rfl | rfl
      · refine ⟨zip_come (by rw [cm_len, nx.l1, e1]) (cm_cm _) fun i j hi hj e => ?_, by rw [List.length_zip, nx.l1]; omega⟩
        rw [cm_len, ← e1] at hi hj
        exact cr.1 i j hi hj e
      · refine ⟨zip_come (by rw [cm_len, nx.l2, e2]) (cm_cm _) fun i j hi hj e => ?_, by rw [List.length_zip, nx.l2]; omega⟩
        rw [cm_len, ← e2] at hi hj
        exact cr.2 i j hi hj e
    have g : F__law_come [.d (.list ((p.1.zip p.2).map pairD))] U3 = some (natsT p.1, U3) := by
      rw [F_law_come_eq (ei_pair 0) (by omega) (by omega) rfl U3, hz.1]
    have gn : gNe (natsT p.1) (natsT p.1) = some (.bool false) := by rw [ei_nats.gne (by omega)]; simp
    exact ⟨_, rfl, _, sIf_f (tst_at (op2_at (call1 (op2_at (eVar_at rfl) (eVar_at rfl) (gZipL_nats p.1 p.2)) g) (eVar_at rfl) gn)) rfl, _, _, rfl⟩
  · rintro ρ' ⟨a8, a9, rfl⟩
    refine seqR (sNew_at (xs := x.2.map nat) (op1_at (op2_at (eVar_at rfl) (eC_at _) rfl) rfl)) (seqR (sPut_at (l := x.2) (callU1 rfl (op2_at (op1_at (eBor_at rfl) (gMax_nats x2ne (by omega) rfl)) (eC_at _) (gAdd_c (mxN x.2) 2)) v1) (callU1 rfl (op1_at (eBor_at rfl) (gLen_natsL x.2)) k1) rfl k2) (seqR (sSet_at (tup2 (op1_at (op1_at (bk_ans (eVar_at rfl)) la) (gRgT_nat (by omega))) (op1_at (op1_at (bk_lets (eVar_at rfl)) (gLen_natsT B2.lets)) (gRgT_nat (by omega))))) (frzR rfl ?_)))
    refine forR (xs := [(cm F, cm H), x, (List.range B2.ans.length, List.range B2.lets.length), (x.1, List.range B2.lets.length), (List.range B2.ans.length, x.2), (x.1, cm (x.2.set k v))]) (fun z => Im.one (lotsD z))
      (fun i ρ => ∃ a12 a13, ρ = [some .u, some (.d (nat (1 + r))), some (.d (bookD B2)), some (.d (natsL F)), some (.d (natsL H)), some (.d (lotsD (cm F, cm H))), some (.d (lotsD x)), some (.d (softN 8 (bookD B2))), a8, a9, some (.d (.list ((x.2.set k v).map nat))), some (.d (lotsD (List.range B2.ans.length, List.range B2.lets.length))), a12, a13, none, none])
      (fSeq_t (xs := [(cm F, cm H), x, (List.range B2.ans.length, List.range B2.lets.length), (x.1, List.range B2.lets.length), (List.range B2.ans.length, x.2), (x.1, cm (x.2.set k v))]) (e := lotsD) (eTup6 (eVar_at rfl) (eVar_at rfl) (eVar_at rfl) (tup2 (op2_at (eVar_at rfl) (eC_at _) rfl) (op2_at (eVar_at rfl) (eC_at _) rfl)) (tup2 (op2_at (eVar_at rfl) (eC_at _) rfl) (op2_at (eVar_at rfl) (eC_at _) rfl)) (tup2 (op2_at (eVar_at rfl) (eC_at _) rfl) (call1 (eVar_at rfl) q3)))) ⟨none, none, rfl⟩ ?_ ?_
    · rintro i z ρ hi ⟨a12, a13, rfl⟩
      have nz := lots z (List.mem_of_getElem? hi)
      obtain ⟨b, hb6⟩ := bSix_eq w nz (some .u) (some (.d (nat (1 + r)))) (some (.d (natsL F))) (some (.d (natsL H))) (some (.d (lotsD (cm F, cm H)))) (some (.d (lotsD x))) a8 a9 (some (.d (.list ((x.2.set k v).map nat)))) (some (.d (lotsD (List.range B2.ans.length, List.range B2.lets.length)))) a13 none none U5
      exact ⟨_, rfl, _, hb6, _, _, rfl⟩
    · rintro ρ' ⟨a12, a13, rfl⟩
      have fin := sFor_ur (f := fRng (eC (.int 3))) (asg := aName 14) (b := (sSeq (sSet 15 (eCall 2 F__law_history (aConsV 0 (aCons (eVar 1) aNil)))) (sIf (tst (op2 gNe (eCall 2 F__law_answer (aCons (eCall 2 F_folded (aCons (eVar 7) (aCons (eVar 6) aNil))) (aCons (eVar 15) aNil))) (eCall 2 F__law_answer (aCons (eVar 2) (aCons (eVar 15) aNil))))) (sRet (eC (.bool false))) sNil)))
        (ρ := [some .u, some (.d (nat (1 + r))), some (.d (bookD B2)), some (.d (natsL F)), some (.d (natsL H)), some (.d (lotsD (cm F, cm H))), some (.d (lotsD x)), some (.d (softN 8 (bookD B2))), a8, a9, some (.d (.list ((x.2.set k v).map nat))), some (.d (lotsD (List.range B2.ans.length, List.range B2.lets.length))), a12, a13, none, none]) (U0 := U5) (U := U5) (xs := List.range 3) (fun i => Im.one (nat i))
        (fun i ρ => ∃ a14 a15, ρ = [some .u, some (.d (nat (1 + r))), some (.d (bookD B2)), some (.d (natsL F)), some (.d (natsL H)), some (.d (lotsD (cm F, cm H))), some (.d (lotsD x)), some (.d (softN 8 (bookD B2))), a8, a9, some (.d (.list ((x.2.set k v).map nat))), some (.d (lotsD (List.range B2.ans.length, List.range B2.lets.length))), a12, a13, a14, a15]) 20 (j := 0)
        (fRng_nat (eC_at (nat 3)) (by omega)) ⟨_, _, rfl⟩ (k3.mono (by rw [List.length_range]; omega)) (by
          rintro i l ρ U j hi ⟨a14, a15, rfl⟩ hu
          obtain ⟨h, U', p1, p2, p3, p4⟩ := F_history_eq (K := 1 + r) (by omega) hu
          have fe := F_folded_eq w nx (nx.ld1 w) (nx.ld2 w) hs oss hb ol (hard_lots 8 x) U'
          have ae := F_answer_eq wf p2 p3 U'
          rw [ansH_fold w nx is1 p2] at ae
          exact ⟨_, rfl, _, U', seqE (sSet_at (callU1 rfl (eVar_at rfl) p1)) (sIf_f (tst_at (op2_at (call2 (call2 (eVar_at rfl) (eVar_at rfl) fe) (eVar_at rfl) ae) (call2 (eVar_at rfl) (eVar_at rfl) (F_answer_eq w p2 p3 U')) (gNe_bool _))) rfl), ⟨_, _, rfl⟩, p4⟩)
      obtain ⟨ρ', U6, z1, ⟨a14, a15, rfl⟩, z3⟩ := fin
      exact seqR z1 ⟨U6, sRet_at (eC_at _)⟩
end DL

set_option maxRecDepth 100000
set_option linter.all false
/-! E22: the law is true of each script. -/
namespace DL
open PySem PySem.Spec PyProof.Rows L2
def isTE : Option (PyData × US) → Bool
  | some (.bool true, []) => true
  | _ => false
theorem isTE_eq : ∀ {r : Option (PyData × US)}, isTE r = true → r = some (.bool true, [])
  | some (.bool true, []), _ => rfl
  | some (.bool true, _ :: _), h => by cases h
  | some (.bool false, _), h => by cases h
  | some (.none, _), h => by cases h
  | some (.int _, _), h => by cases h
  | some (.str _, _), h => by cases h
  | some (.list _, _), h => by cases h
  | some (.tuple _, _), h => by cases h
  | some (.dict _, _), h => by cases h
  | none, h => by cases h
theorem by_hand : F__law_by_hand_right [] [] = some (.bool true, []) := isTE_eq (by decide +kernel)
theorem bnd_int (l : List Int) (lo hi : Option Int) : cutD (l.map PyData.int) lo hi = ((l.drop (HT.sIx l.length 0 lo)).take (HT.sIx l.length l.length hi - HT.sIx l.length 0 lo)).map PyData.int := by
  unfold cutD
  rw [List.length_map, ← List.map_drop, ← List.map_take]
theorem eBor_b {i : Nat} {ρ : DEnv} {xs : List PyData} {U : US} (h : ρ[i]? = some (some (.b xs))) : eBor i ρ U = some (.list xs, U) := by unfold eBor; rw [h]
theorem slL_any {f : DEnv → M PyData} {lo hi : DEnv → M (Option Int)} {ρ : DEnv} {U : US} {xs : List PyData} {a b : Option Int} (h : f ρ U = some (.list xs, U)) (h1 : lo ρ U = some (a, U)) (h2 : hi ρ U = some (b, U)) : eSlL f lo hi ρ U = some (.list (cutD xs a b), U) := by
  unfold eSlL; rw [bnd_at h, bnd_at h1, bnd_at h2]; rfl
theorem oSo_i {f : DEnv → M PyData} {ρ : DEnv} {U : US} {n : Int} (h : f ρ U = some (.int n, U)) : oSo f ρ U = some (some n, U) := by unfold oSo; rw [bnd_at h]; rfl
theorem sPut_i {i : Nat} {fv fk : DEnv → M PyData} {ρ : DEnv} {U : US} {c v : Int} (h1 : fv ρ U = some (.int v, U)) (h2 : fk ρ U = some (.int 0, U)) (hi : ρ[i]? = some (some (.m [.int c]))) : sPut i fv fk ρ U = some (.nx (ρ.set i (some (.m [.int v]))), U) := by
  unfold sPut
  rw [bnd_at h1, bnd_at h2]
  simp only [hi]
  rfl
theorem F_cells_eq (l : List Int) (h63 : l.length ≤ 63) (U : US) : ∃ c : Int, F__law_cells [.b (l.map .int), .d (.int 1)] U = some (.list [.int c], U) := by
  have lim100 : (200 : Nat) < lim := by decide
  have e0 : ∃ c : Int, eOrN (op1 gList (eSlL (eBor 0) oNo (oSo (eVar 1)))) (eLst (aCons (eC (.int 0)) aNil)) (ent 6 [.b (l.map .int), .d (.int 1)]) U = some (.list [.int c], U) := by
    have h1 : op1 gList (eSlL (eBor 0) oNo (oSo (eVar 1))) (ent 6 [.b (l.map .int), .d (.int 1)]) U = some (.list ((l.take 1).map PyData.int), U) := by
      refine op1_at (slL_any (eBor_b rfl) rfl (oSo_i (eVar_at rfl))) ?_
      rw [bnd_int]
      show some (PyData.list _) = _
      congr 3
      rw [HT.sIx_none, List.drop_zero, Nat.sub_zero]
      show l.take (HT.sIx l.length l.length (some ((1 : Nat) : Int))) = _
      rw [HT.sIx_nat]
      cases l with
      | nil => rfl
      | cons a l => simp
    cases l with
    | nil =>
      refine ⟨0, ?_⟩
      unfold eOrN
      rw [bnd_at h1]
      exact eLst_at (ds := [_]) (aCons_at (eC_at _) (aNil_at _ _)) (by simp [lim])
    | cons a l =>
      refine ⟨a, ?_⟩
      unfold eOrN
      rw [bnd_at h1]
      rfl
  obtain ⟨c0, e0⟩ := e0
  have main : ∃ ρ', sFor (fEnum (eSlL (eBor 0) (oSo (eVar 1)) (oSo (eC (.int 63))))) (aTup [3, 4]) (sSeq (sSet 5 (op2 gMod (op1 gInt (eVar 3)) (eVar 1))) (sPut 2 (op2 gAdd (op2 gIx (eBor 2) (eVar 5)) (op2 gMul (eVar 4) (op2 gAdd (eVar 3) (eC (.int 2))))) (eVar 5)))
      ((ent 6 [.b (l.map .int), .d (.int 1)]).set 2 (some (.m [.int c0]))) U = some (.nx ρ', U) ∧ ∃ (c : Int) (a3 a4 a5 : Option Sl), ρ' = [some (.b (l.map .int)), some (.d (.int 1)), some (.m [.int c]), a3, a4, a5] := by
    refine forX (xs := (((l.drop (HT.sIx l.length 0 (some 1))).take (HT.sIx l.length l.length (some 63) - HT.sIx l.length 0 (some 1)))).zipIdx) (fun p => Im.many [nat p.2, .int p.1])
      (fun _ ρ => ∃ (c : Int) (a3 a4 a5 : Option Sl), ρ = [some (.b (l.map .int)), some (.d (.int 1)), some (.m [.int c]), a3, a4, a5])
      (fEnum_t (slL_any (eBor_b rfl) (oSo_i (eVar_at rfl)) (oSo_i (eC_at _))) (by rw [bnd_int]; rfl)) ⟨_, _, _, _, rfl⟩ ?_ (fun ρ' h => h)
    rintro i p ρ hi ⟨c, a3, a4, a5, rfl⟩
    have hp := zipIdx_get hi
    have hil := (List.getElem?_eq_some_iff.mp hp.1).1
    rw [List.length_take, List.length_drop] at hil
    have h2 : p.2 ≤ 63 := by rw [hp.2]; omega
    have em : gMod (nat p.2) (.int 1) = some (.int 0) := by rw [gMod_at (by omega), Int.emod_one]
    refine ⟨_, rfl, ?_⟩
    refine seqX (sSet_at (op2_at (op1_at (eVar_at rfl) rfl) (eVar_at rfl) em)) ⟨_, sPut_i (c := c) (op2_at (op2_at (eBor_at rfl) (eVar_at rfl) (show gIx (.list [.int c]) (.int 0) = some (.int c) from rfl)) (op2_at (eVar_at rfl) (op2_at (eVar_at rfl) (eC_at _) rfl) (gMul_r (by omega) (by omega))) rfl) (eVar_at rfl) rfl, _, _, _, _, rfl⟩
  obtain ⟨ρ', m1, c, a3, a4, a5, rfl⟩ := main
  exact ⟨c, fnD_rt (seqE (sNew_at e0) (seqE m1 (frzE rfl (sRet_at (eVar_at rfl)))))⟩
theorem F_box_eq (c : Int) (U : US) : ∃ a b : Int, F__law_box [.d (.list [.int c]), .d (.int 0)] U = some (.list [.int a, .int b, .int 0], U) := by
  have h1 : S1__law_box (ent 3 [.d (.list [.int c]), .d (.int 0)]) U = some (.nx [some (.d (.list [.int c])), some (.d (.int 0)), some (.d (.int c))], U) :=
    sSet_at (eIf_t (tst_at (op2_at (eVar_at rfl) (op1_at (eVar_at rfl) rfl) (show gLt (.int 0) (.int 1) = some (.bool true) from rfl))) (op2_at (eVar_at rfl) (eVar_at rfl) rfl))
  have hp : gPow (.int 10) (.int 18) = some (.int (10 ^ 18)) := by
    show (if 0 ≤ (18 : Int) ∧ (18 : Int) ≤ 1000000 ∧ (10 : Int).natAbs < 2 ^ 64 then some (PyData.int ((10 : Int) ^ (18 : Int).toNat)) else none) = _
    rw [if_pos (by omega)]
    rfl
  obtain ⟨k, hk, hk0, hk1⟩ : ∃ k : Int, gInt (.bool (decide (10 ^ 18 ≤ (if c < 0 then -c else c)))) = some (.int k) ∧ -1 ≤ k ∧ k ≤ 1 := by
    by_cases q : (10 : Int) ^ 18 ≤ (if c < 0 then -c else c)
    · rw [decide_eq_true q]; exact ⟨1, rfl, by omega, by omega⟩
    · rw [decide_eq_false q]; exact ⟨0, rfl, by omega, by omega⟩
  refine ⟨(if c < 0 then -c else c) * k, c % 2305843009213693951 + 39373 * 0 + 174045, ?_⟩
  unfold F__law_box fnN
  rw [bnd_at h1]
  refine eLst_at (ds := [_, _, _]) (aCons_at (op2_at (op1_at (eVar_at rfl) rfl) (op1_at (op2_at (op1_at (eVar_at rfl) rfl) (op2_at (eC_at _) (eC_at _) hp) rfl) hk) (gMul_r (by omega) (by omega))) (aCons_at (op2_at (op2_at (op2_at (op1_at (eVar_at rfl) rfl) (eC_at _) (gMod_at (by omega))) (op2_at (eC_at _) (eVar_at rfl) (gMul_r (by omega) (by omega))) rfl) (eC_at _) rfl) (aCons_at (eC_at _) (aNil_at _ _)))) (by simp [lim])
theorem F_law_true (l : List Int) (h63 : l.length ≤ 63) : F_law [.b (l.map .int)] [] = some (.bool true, []) := by
  obtain ⟨c, hc⟩ := F_cells_eq l h63 []
  obtain ⟨a, b, hb⟩ := F_box_eq c []
  obtain ⟨U', hr⟩ := F_right_eq (U := [a, b, 0]) ⟨a, b, 0, rfl, by omega, by omega⟩
  have hcell : eCall 2 F__law_cells (aConsV 0 (aCons (eC (.int 1)) aNil)) (ent 1 [.b (l.map .int)]) [] = some (.list [.int c], []) :=
    eCall_at (ss := [.b (l.map .int), .d (.int 1)]) (by
      unfold aConsV
      show bnd (aCons (eC (.int 1)) aNil (ent 1 [.b (l.map .int)])) (fun r => rt (.b (l.map .int) :: r)) [] = _
      rw [bnd_at (aCons_at (eC_at _) (aNil_at _ _))]; rfl) ⟨rfl, rfl⟩ hc
  have hB : B_law (ent 1 [.b (l.map .int)]) [] = some (.bool true, []) := by
    unfold B_law eBox
    rw [bnd_at (aCons_at hcell (aCons_at (eC_at _) (aNil_at _ _)))]
    rw [if_pos ⟨rfl, rfl⟩, bnd_at hb]
    show (match toIs [.int a, .int b, .int 0] with | some ns => (match F__law_right [.u] ns with | some (d, _) => some (d, []) | none => none) | none => none) = _
    have ti : toIs [.int a, .int b, .int 0] = some [a, b, 0] := toIs_map [a, b, 0]
    simp only [ti, hr]
  refine fnD_rt (sRet_at (vAnd_t (eCall_at (aNil_at _ _) ⟨rfl, rfl⟩ by_hand) hB))
end DL

set_option Elab.async false
set_option linter.all false
set_option maxRecDepth 100000
set_option maxHeartbeats 16000000
namespace DL
open PySem PySem.Spec PyProof.Rows L2 HeadL
theorem facts {P : Program} {w : World} {K : PySem.W.Frag} {h : Heap} {mg : Str → Option Value} {f : Addr} (X : K.In h) (G : h.Ns mainGlobals mg) (hfa : mg ("law" : Str) = some (.ref f)) (c : He.SaysD fa fn K) :
    ∃ fd : FuncData, (∀ (s : Shared) (v : Value), BindsTo s fd ⟨[v], []⟩ [("_law_script", v)]) ∧ ∀ base : Heap, K.In base → base.Ns mainGlobals mg → FnOk P w K mg base CX0 13 f fd ["_law_script"] (spF K 1 F_law) := by
  obtain ⟨fd_is_number, FD_is_number⟩ := c.def_ 0 (d := d_is_number) rfl
  obtain ⟨fd_tuple_of, FD_tuple_of⟩ := c.def_ 1 (d := d_tuple_of) rfl
  obtain ⟨fd_is_tuple_of, FD_is_tuple_of⟩ := c.def_ 2 (d := d_is_tuple_of) rfl
  obtain ⟨fd_are_lots, FD_are_lots⟩ := c.def_ 3 (d := d_are_lots) rfl
  obtain ⟨fd_as_they_come, FD_as_they_come⟩ := c.def_ 4 (d := d_as_they_come) rfl
  obtain ⟨fd_row_by, FD_row_by⟩ := c.def_ 5 (d := d_row_by) rfl
  obtain ⟨fd_flag_names, FD_flag_names⟩ := c.def_ 6 (d := d_flag_names) rfl
  obtain ⟨fd_hue_names, FD_hue_names⟩ := c.def_ 7 (d := d_hue_names) rfl
  obtain ⟨fd_finer, FD_finer⟩ := c.def_ 8 (d := d_finer) rfl
  obtain ⟨fd_is_folding, FD_is_folding⟩ := c.def_ 9 (d := d_is_folding) rfl
  obtain ⟨fd_folding, FD_folding⟩ := c.def_ 10 (d := d_folding) rfl
  obtain ⟨fd_folded, FD_folded⟩ := c.def_ 11 (d := d_folded) rfl
  obtain ⟨fd_row_folded, FD_row_folded⟩ := c.def_ 12 (d := d_row_folded) rfl
  obtain ⟨fd__law_box, FD__law_box⟩ := c.def_ 13 (d := d__law_box) rfl
  obtain ⟨fd__law_take, FD__law_take⟩ := c.def_ 14 (d := d__law_take) rfl
  obtain ⟨fd__law_cells, FD__law_cells⟩ := c.def_ 15 (d := d__law_cells) rfl
  obtain ⟨fd__law_same, FD__law_same⟩ := c.def_ 16 (d := d__law_same) rfl
  obtain ⟨fd__law_lists, FD__law_lists⟩ := c.def_ 17 (d := d__law_lists) rfl
  obtain ⟨fd__law_of, FD__law_of⟩ := c.def_ 18 (d := d__law_of) rfl
  obtain ⟨fd__law_parity, FD__law_parity⟩ := c.def_ 19 (d := d__law_parity) rfl
  obtain ⟨fd__law_marked, FD__law_marked⟩ := c.def_ 20 (d := d__law_marked) rfl
  obtain ⟨fd__law_answer, FD__law_answer⟩ := c.def_ 21 (d := d__law_answer) rfl
  obtain ⟨fd__law_history, FD__law_history⟩ := c.def_ 22 (d := d__law_history) rfl
  obtain ⟨fd__law_book, FD__law_book⟩ := c.def_ 23 (d := d__law_book) rfl
  obtain ⟨fd__law_hue, FD__law_hue⟩ := c.def_ 24 (d := d__law_hue) rfl
  obtain ⟨fd__law_filled, FD__law_filled⟩ := c.def_ 25 (d := d__law_filled) rfl
  obtain ⟨fd__law_come, FD__law_come⟩ := c.def_ 26 (d := d__law_come) rfl
  obtain ⟨fd__law_blown, FD__law_blown⟩ := c.def_ 27 (d := d__law_blown) rfl
  obtain ⟨fd__law_one, FD__law_one⟩ := c.def_ 28 (d := d__law_one) rfl
  obtain ⟨fd__law_meet, FD__law_meet⟩ := c.def_ 29 (d := d__law_meet) rfl
  obtain ⟨fd__law_is_one, FD__law_is_one⟩ := c.def_ 30 (d := d__law_is_one) rfl
  obtain ⟨fd__law_coarsest, FD__law_coarsest⟩ := c.def_ 31 (d := d__law_coarsest) rfl
  obtain ⟨fd__law_seen, FD__law_seen⟩ := c.def_ 32 (d := d__law_seen) rfl
  obtain ⟨fd__law_folded, FD__law_folded⟩ := c.def_ 33 (d := d__law_folded) rfl
  obtain ⟨fd__law_heard, FD__law_heard⟩ := c.def_ 34 (d := d__law_heard) rfl
  obtain ⟨fd__law_right, FD__law_right⟩ := c.def_ 35 (d := d__law_right) rfl
  obtain ⟨fd__law_by_hand_right, FD__law_by_hand_right⟩ := c.def_ 36 (d := d__law_by_hand_right) rfl
  obtain ⟨fd_law, FD_law⟩ := c.def_ 37 (d := d_law) rfl
  have e := hfa.symm.trans (He.glo_ok X G (c.fact 37 (f := .glo "law") rfl))
  cases e
  have D_is_number : Def K mg "is_number" s_is_number := ⟨_, fd_is_number, FD_is_number, He.glo_ok X G (c.fact 0 (f := .glo "is_number") rfl)⟩
  have D_tuple_of : Def K mg "tuple_of" s_tuple_of := ⟨_, fd_tuple_of, FD_tuple_of, He.glo_ok X G (c.fact 1 (f := .glo "tuple_of") rfl)⟩
  have D_is_tuple_of : Def K mg "is_tuple_of" s_is_tuple_of := ⟨_, fd_is_tuple_of, FD_is_tuple_of, He.glo_ok X G (c.fact 2 (f := .glo "is_tuple_of") rfl)⟩
  have D_are_lots : Def K mg "are_lots" s_are_lots := ⟨_, fd_are_lots, FD_are_lots, He.glo_ok X G (c.fact 3 (f := .glo "are_lots") rfl)⟩
  have D_as_they_come : Def K mg "as_they_come" s_as_they_come := ⟨_, fd_as_they_come, FD_as_they_come, He.glo_ok X G (c.fact 4 (f := .glo "as_they_come") rfl)⟩
  have D_row_by : Def K mg "row_by" s_row_by := ⟨_, fd_row_by, FD_row_by, He.glo_ok X G (c.fact 5 (f := .glo "row_by") rfl)⟩
  have D_flag_names : Def K mg "flag_names" s_flag_names := ⟨_, fd_flag_names, FD_flag_names, He.glo_ok X G (c.fact 6 (f := .glo "flag_names") rfl)⟩
  have D_hue_names : Def K mg "hue_names" s_hue_names := ⟨_, fd_hue_names, FD_hue_names, He.glo_ok X G (c.fact 7 (f := .glo "hue_names") rfl)⟩
  have D_finer : Def K mg "finer" s_finer := ⟨_, fd_finer, FD_finer, He.glo_ok X G (c.fact 8 (f := .glo "finer") rfl)⟩
  have D_is_folding : Def K mg "is_folding" s_is_folding := ⟨_, fd_is_folding, FD_is_folding, He.glo_ok X G (c.fact 9 (f := .glo "is_folding") rfl)⟩
  have D_folding : Def K mg "folding" s_folding := ⟨_, fd_folding, FD_folding, He.glo_ok X G (c.fact 10 (f := .glo "folding") rfl)⟩
  have D_folded : Def K mg "folded" s_folded := ⟨_, fd_folded, FD_folded, He.glo_ok X G (c.fact 11 (f := .glo "folded") rfl)⟩
  have D_row_folded : Def K mg "row_folded" s_row_folded := ⟨_, fd_row_folded, FD_row_folded, He.glo_ok X G (c.fact 12 (f := .glo "row_folded") rfl)⟩
  have D__law_box : Def K mg "_law_box" s__law_box := ⟨_, fd__law_box, FD__law_box, He.glo_ok X G (c.fact 13 (f := .glo "_law_box") rfl)⟩
  have D__law_take : Def K mg "_law_take" s__law_take := ⟨_, fd__law_take, FD__law_take, He.glo_ok X G (c.fact 14 (f := .glo "_law_take") rfl)⟩
  have D__law_cells : Def K mg "_law_cells" s__law_cells := ⟨_, fd__law_cells, FD__law_cells, He.glo_ok X G (c.fact 15 (f := .glo "_law_cells") rfl)⟩
  have D__law_same : Def K mg "_law_same" s__law_same := ⟨_, fd__law_same, FD__law_same, He.glo_ok X G (c.fact 16 (f := .glo "_law_same") rfl)⟩
  have D__law_lists : Def K mg "_law_lists" s__law_lists := ⟨_, fd__law_lists, FD__law_lists, He.glo_ok X G (c.fact 17 (f := .glo "_law_lists") rfl)⟩
  have D__law_of : Def K mg "_law_of" s__law_of := ⟨_, fd__law_of, FD__law_of, He.glo_ok X G (c.fact 18 (f := .glo "_law_of") rfl)⟩
  have D__law_parity : Def K mg "_law_parity" s__law_parity := ⟨_, fd__law_parity, FD__law_parity, He.glo_ok X G (c.fact 19 (f := .glo "_law_parity") rfl)⟩
  have D__law_marked : Def K mg "_law_marked" s__law_marked := ⟨_, fd__law_marked, FD__law_marked, He.glo_ok X G (c.fact 20 (f := .glo "_law_marked") rfl)⟩
  have D__law_answer : Def K mg "_law_answer" s__law_answer := ⟨_, fd__law_answer, FD__law_answer, He.glo_ok X G (c.fact 21 (f := .glo "_law_answer") rfl)⟩
  have D__law_history : Def K mg "_law_history" s__law_history := ⟨_, fd__law_history, FD__law_history, He.glo_ok X G (c.fact 22 (f := .glo "_law_history") rfl)⟩
  have D__law_book : Def K mg "_law_book" s__law_book := ⟨_, fd__law_book, FD__law_book, He.glo_ok X G (c.fact 23 (f := .glo "_law_book") rfl)⟩
  have D__law_hue : Def K mg "_law_hue" s__law_hue := ⟨_, fd__law_hue, FD__law_hue, He.glo_ok X G (c.fact 24 (f := .glo "_law_hue") rfl)⟩
  have D__law_filled : Def K mg "_law_filled" s__law_filled := ⟨_, fd__law_filled, FD__law_filled, He.glo_ok X G (c.fact 25 (f := .glo "_law_filled") rfl)⟩
  have D__law_come : Def K mg "_law_come" s__law_come := ⟨_, fd__law_come, FD__law_come, He.glo_ok X G (c.fact 26 (f := .glo "_law_come") rfl)⟩
  have D__law_blown : Def K mg "_law_blown" s__law_blown := ⟨_, fd__law_blown, FD__law_blown, He.glo_ok X G (c.fact 27 (f := .glo "_law_blown") rfl)⟩
  have D__law_one : Def K mg "_law_one" s__law_one := ⟨_, fd__law_one, FD__law_one, He.glo_ok X G (c.fact 28 (f := .glo "_law_one") rfl)⟩
  have D__law_meet : Def K mg "_law_meet" s__law_meet := ⟨_, fd__law_meet, FD__law_meet, He.glo_ok X G (c.fact 29 (f := .glo "_law_meet") rfl)⟩
  have D__law_is_one : Def K mg "_law_is_one" s__law_is_one := ⟨_, fd__law_is_one, FD__law_is_one, He.glo_ok X G (c.fact 30 (f := .glo "_law_is_one") rfl)⟩
  have D__law_coarsest : Def K mg "_law_coarsest" s__law_coarsest := ⟨_, fd__law_coarsest, FD__law_coarsest, He.glo_ok X G (c.fact 31 (f := .glo "_law_coarsest") rfl)⟩
  have D__law_seen : Def K mg "_law_seen" s__law_seen := ⟨_, fd__law_seen, FD__law_seen, He.glo_ok X G (c.fact 32 (f := .glo "_law_seen") rfl)⟩
  have D__law_folded : Def K mg "_law_folded" s__law_folded := ⟨_, fd__law_folded, FD__law_folded, He.glo_ok X G (c.fact 33 (f := .glo "_law_folded") rfl)⟩
  have D__law_heard : Def K mg "_law_heard" s__law_heard := ⟨_, fd__law_heard, FD__law_heard, He.glo_ok X G (c.fact 34 (f := .glo "_law_heard") rfl)⟩
  have D__law_right : Def K mg "_law_right" s__law_right := ⟨_, fd__law_right, FD__law_right, He.glo_ok X G (c.fact 35 (f := .glo "_law_right") rfl)⟩
  have D__law_by_hand_right : Def K mg "_law_by_hand_right" s__law_by_hand_right := ⟨_, fd__law_by_hand_right, FD__law_by_hand_right, He.glo_ok X G (c.fact 36 (f := .glo "_law_by_hand_right") rfl)⟩
  have fr : Fre mg := ⟨He.free_ok X G (c.fact 38 (f := .free "isinstance") rfl), He.free_ok X G (c.fact 39 (f := .free "int") rfl), He.free_ok X G (c.fact 40 (f := .free "bool") rfl), He.free_ok X G (c.fact 41 (f := .free "list") rfl), He.free_ok X G (c.fact 42 (f := .free "tuple") rfl), He.free_ok X G (c.fact 43 (f := .free "len") rfl), He.free_ok X G (c.fact 44 (f := .free "all") rfl), He.free_ok X G (c.fact 45 (f := .free "any") rfl), He.free_ok X G (c.fact 46 (f := .free "range") rfl), He.free_ok X G (c.fact 47 (f := .free "max") rfl), He.free_ok X G (c.fact 48 (f := .free "zip") rfl), He.free_ok X G (c.fact 49 (f := .free "enumerate") rfl), He.free_ok X G (c.fact 50 (f := .free "abs") rfl), He.free_ok X G (c.fact 51 (f := .free "str") rfl)⟩
  obtain ⟨x1, x2, x3, x4⟩ := He.exc_ok (c.fact 53 (f := .exc "Unfit") rfl)
  have un : Unf K mg (He.ga K "Unfit") := ⟨He.glo_ok X G (c.fact 52 (f := .glo "Unfit") rfl), x1, x2, x3, x4, He.exm_ok (c.fact 54 (f := .exm "Unfit" "Unfit" true) rfl)⟩
  refine ⟨fd_law, fun s v => FunD.bindsA (ps := ["_law_script"]) FD_law (fun _ _ _ _ _ _ us hl => match us, hl with | [_], _ => rfl) s [v] rfl, fun base _ _ => ?_⟩
  have c_as_they_come : Cal P w K mg base CX0 1 "as_they_come" ["names"] (spF K 1 F_as_they_come) := ok_as_they_come D_as_they_come fr
  have c_is_number : Cal P w K mg base CX0 1 "is_number" ["thing"] (spF K 1 F_is_number) := ok_is_number D_is_number fr
  have c_tuple_of : Cal P w K mg base CX0 8 "tuple_of" ["thing"] (spF K 1 (F_tuple_of 8)) := ok_tuple_of D_tuple_of fr 8
  have c_is_tuple_of : Cal P w K mg base CX0 1 "is_tuple_of" ["thing", "many"] (spF K 2 F_is_tuple_of) := ok_is_tuple_of D_is_tuple_of fr
  have c_are_lots : Cal P w K mg base CX0 2 "are_lots" ["thing", "many"] (spF K 2 F_are_lots) := ok_are_lots D_are_lots fr c_is_tuple_of c_is_number c_as_they_come
  have c_row_by : Cal P w K mg base CX0 1 "row_by" ["row", "flags", "hues"] (spF K 3 F_row_by) := ok_row_by D_row_by fr
  have c_flag_names : Cal P w K mg base CX0 2 "flag_names" ["book", "flags", "hues"] (spF K 3 F_flag_names) := ok_flag_names D_flag_names fr c_row_by
  have c_hue_names : Cal P w K mg base CX0 2 "hue_names" ["book", "flags", "hues"] (spF K 3 F_hue_names) := ok_hue_names D_hue_names fr c_row_by
  have c_finer : Cal P w K mg base CX0 3 "finer" ["book", "flags", "hues"] (spF K 3 F_finer) := ok_finer D_finer fr c_as_they_come c_hue_names c_flag_names
  have c_is_folding : Cal P w K mg base CX0 9 "is_folding" ["book", "thing"] (spF K 2 F_is_folding) := ok_is_folding D_is_folding fr c_tuple_of c_is_tuple_of c_are_lots c_finer
  have c_folding : Cal P w K mg base CX0 9 "folding" ["book"] (spF K 1 F_folding) := ok_folding D_folding fr c_tuple_of c_as_they_come c_finer
  have c_row_folded : Cal P w K mg base CX0 2 "row_folded" ["row", "lots", "leads"] (spF K 3 F_row_folded) := ok_row_folded D_row_folded fr c_row_by
  have c__law_take : Cal P w K mg base CX0 1 "_law_take" ["_law_urn", "_law_low_so"] (spF K 2 F__law_take) := ok__law_take D__law_take fr
  have c__law_cells : Cal P w K mg base CX0 1 "_law_cells" ["_law_script", "_law_top"] (spF K 2 F__law_cells) := ok__law_cells D__law_cells fr
  have c__law_same : Cal P w K mg base CX0 8 "_law_same" ["_law_got", "_law_goal"] (spF K 2 (F__law_same 8)) := ok__law_same D__law_same fr 8
  have c__law_lists : Cal P w K mg base CX0 8 "_law_lists" ["_law_matter"] (spF K 1 (F__law_lists 8)) := ok__law_lists D__law_lists fr 8
  have c__law_of : Cal P w K mg base CX0 2 "_law_of" ["_law_urn", "_law_goods"] (spF K 2 F__law_of) := ok__law_of D__law_of fr c__law_take
  have c__law_parity : Cal P w K mg base CX0 1 "_law_parity" [] (spF K 0 F__law_parity) := ok__law_parity D__law_parity fr
  have c__law_marked : Cal P w K mg base CX0 1 "_law_marked" [] (spF K 0 F__law_marked) := ok__law_marked D__law_marked fr
  have c__law_answer : Cal P w K mg base CX0 1 "_law_answer" ["_law_book_here", "_law_history_here"] (spF K 2 F__law_answer) := ok__law_answer D__law_answer fr
  have c__law_history : Cal P w K mg base CX0 2 "_law_history" ["_law_tin", "_law_many_letters"] (spF K 2 F__law_history) := ok__law_history D__law_history fr c__law_take
  have c__law_hue : Cal P w K mg base CX0 3 "_law_hue" ["_law_tin", "_law_hues", "_law_letter"] (spF K 3 F__law_hue) := ok__law_hue D__law_hue fr c__law_of
  have c__law_filled : Cal P w K mg base CX0 4 "_law_filled" ["_law_tin", "_law_hues", "_law_flags"] (spF K 3 F__law_filled) := ok__law_filled D__law_filled fr c__law_hue c__law_take
  have c__law_book : Cal P w K mg base CX0 5 "_law_book" ["_law_tin", "_law_many_letters", "_law_wide"] (spF K 3 F__law_book) := ok__law_book D__law_book fr c__law_take c__law_filled
  have c__law_come : Cal P w K mg base CX0 1 "_law_come" ["_law_names"] (spF K 1 F__law_come) := ok__law_come D__law_come fr
  have c__law_one : Cal P w K mg base CX0 3 "_law_one" ["_law_urn", "_law_names", "_law_name"] (spF K 3 F__law_one) := ok__law_one D__law_one fr c__law_of
  have c__law_blown : Cal P w K mg base CX0 4 "_law_blown" ["_law_urn", "_law_base"] (spF K 2 F__law_blown) := ok__law_blown D__law_blown fr c__law_take c__law_one
  have c__law_meet : Cal P w K mg base CX0 1 "_law_meet" ["_law_row", "_law_its", "_law_flags", "_law_hues"] (spF K 4 F__law_meet) := ok__law_meet D__law_meet fr
  have c__law_is_one : Cal P w K mg base CX0 2 "_law_is_one" ["_law_book_here", "_law_lots"] (spF K 2 F__law_is_one) := ok__law_is_one D__law_is_one fr c__law_meet
  have c__law_seen : Cal P w K mg base CX0 1 "_law_seen" ["_law_row", "_law_flags", "_law_hues"] (spF K 3 F__law_seen) := ok__law_seen D__law_seen fr
  have c__law_coarsest : Cal P w K mg base CX0 2 "_law_coarsest" ["_law_book_here"] (spF K 1 F__law_coarsest) := ok__law_coarsest D__law_coarsest fr c__law_come c__law_seen
  have c__law_folded : Cal P w K mg base CX0 1 "_law_folded" ["_law_book_here", "_law_lots"] (spF K 2 F__law_folded) := ok__law_folded D__law_folded fr
  have x_folded := ok_folded (P := P) (w := w) (base := base) D_folded fr un c_tuple_of c_is_folding c_row_folded
  have c_folded : Cal P w K mg base CX0 10 "folded" ["book", "lots"] (spF K 2 F_folded) := cal_still x_folded
  have c__law_heard : Cal P w K mg base CX0 11 "_law_heard" ["_law_book_here", "_law_lots"] (spF K 2 F__law_heard) := ok__law_heard D__law_heard un x_folded
  have c__law_box := ok__law_box (P := P) (w := w) (base := base) D__law_box fr
  have c__law_right : Cal P w K mg base CX0 12 "_law_right" ["_law_urn"] (spF K 1 F__law_right) := ok__law_right D__law_right fr c__law_take c__law_blown c__law_book c__law_come c__law_lists c_folding c__law_same c__law_coarsest c__law_is_one c__law_folded c__law_heard c_is_folding c__law_history c__law_answer c_folded
  have c__law_by_hand_right : Cal P w K mg base CX0 12 "_law_by_hand_right" [] (spF K 0 F__law_by_hand_right) := ok__law_by_hand_right D__law_by_hand_right fr c__law_marked c__law_parity c_is_folding c_folded c_folding c__law_same c__law_heard
  exact ok_law FD_law fr c__law_by_hand_right c__law_right c__law_box c__law_cells
theorem sp_law {K : PySem.W.Frag} {H : Hp} {a : Addr} {ns : List Int} (hl : ns.length ≤ 63) (hO : Only H) (hS : SqL K H a (ns.map V.int)) : spF K 1 F_law [.ref a] H (fun v _ => v = .bl true) fun _ _ _ => False := by
  have hW : SqW K H a (ns.map V.int) := by
    rcases hS with (h | h) | h
    · rcases hO a with q | ⟨o, xs, q⟩
      · rw [h] at q; cases q
      · rw [h] at q; cases q
    · exact .inl h
    · exact .inr h
  refine ⟨none, [], [.b (ns.map .int)], .bool true, [], (fun _ h => nomatch h), rfl, rfl, ⟨rfl, fun i s q => ?_, fun i j xs ys b q => ?_⟩, F_law_true ns hl, fun v H' _ _ p => by cases p; rfl⟩
  · cases i with
    | zero => cases q; exact ⟨_, rfl, a, _, rfl, hW, FzA.ints ns⟩
    | succ i => simp at q
  · cases i with
    | zero => cases q
    | succ i => simp at q
end DL
open PySem PySem.W PySem.Calls PyProof.Rows
set_option maxHeartbeats 0
theorem PySem.Challenge.cw_placehues_k45_whole_coarsest_foldings_holds : PySem.Challenge.rw_placehues_k45_whole_coarsest_foldings.Holds := by
  w_on; o_law
  refine HandSHeadRun.head_any (r := OpenLaw.row PySem.Challenge.rw_placehues_k45_whole_coarsest_foldings) (q := view (OpenLaw.row PySem.Challenge.rw_placehues_k45_whole_coarsest_foldings).prog [42]) (H := HeadL.hk) (ob := HeadL.ob) (M := 4000) (loose := HeadL.loose) (d := HandSHeadRun.topDef (OpenLaw.row PySem.Challenge.rw_placehues_k45_whole_coarsest_foldings).prog 42) (kwd := []) HeadL.ob_eq
    (by kernel_rfl) (fun s => by kernel_rfl) HeadL.run (by kernel_rfl) (by kernel_rfl) (by kernel_rfl) (by rfl) (by first | assumption | decide +kernel) (by decide +kernel) ⟨rfl, rfl, rfl, rfl, rfl, by decide +kernel⟩ ?hw ?hc
  case hw => w_witness2
  case hc =>
    refine L2.walk_ofE (l := PySem.Challenge.rw_placehues_k45_whole_coarsest_foldings) (n := 63) (k := 13) (x := "_law_script") (CX := L2.CX0) rfl (by decide) (by kernel_rfl) ⟨rfl, by decide, by decide⟩ ?F (fun _ _ _ _ z => z)
    intro w mg fa h Y G hmg0
    obtain ⟨K, KX, c⟩ := Y
    have hmg : mg ("law" : PySem.Str) = some (.ref fa) := by
      have e : (HandSHeadRun.topDef (OpenLaw.row PySem.Challenge.rw_placehues_k45_whole_coarsest_foldings).prog 42).name = ("law" : PySem.Str) := by kernel_rfl
      rw [← e]
      exact hmg0
    obtain ⟨fd, hb, hF⟩ := DL.facts (P := (PySem.Challenge.rw_placehues_k45_whole_coarsest_foldings).prog) (w := w) KX G hmg c
    exact ⟨K, fd, DL.spF K 1 DL.F_law, KX, hb, fun H a ns hl hO hS => DL.sp_law hl hO hS, hF⟩

