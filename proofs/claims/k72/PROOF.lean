import PyProof.Rows.All
import Wide.All
import OpenK.AllK
import Wide.FinOn
import KE.KStateDown
import HandS.ForMost
import HandS.ForExc
import HandS.Nested
import HandS.Defaults
import HandS.Head0
import HandS.Head1
import HandS.Head2
import HandS.HeadEnd
import HandS.HeadHook1
import HandS.HeadHook2
import HandS.HeadHook3
import HandS.HeadHook4
import HandS.HeadWalk
import HandS.ExcIs
import KE.GoesNew
import KE.SortKeyHeap
import HandS.TupMul
import HandS.TupAny
import HandS.Deep
import HandS.Conv
import HandS.IsInst
import HandS.Style
import HandS.Walk
import HandS.Codes
import HandS.Flow
import HandS.SortKw
import HandS.TryOnly
import HandS.ExcOwn
import PyProof.FitsBits
import HandS.EndTab
import PySem.Challenge.RW_sharesuntold_k72_across_heights_rings_an
set_option Elab.async false
set_option linter.all false
set_option maxRecDepth 100000
namespace Hd
open PySem PySem.Spec
def top (i : Nat) : Stmt := PySem.Challenge.pw_sharesuntold_k72_across_heights_rings_an.main.body.getD i (.Pass ⟨0, 0, 0, 0⟩)
end Hd

set_option Elab.async false
set_option linter.all false
set_option maxRecDepth 100000
set_option maxHeartbeats 0
namespace Hd
open PySem PySem.Spec PyProof.Rows L2
abbrev FnP (K : PySem.W.Frag) (x : Str) (st : Stmt) (f : Addr) (fd : FuncData) : Prop := FunD K x x (defArgs st) (defBody st) (defScope st) [] [] f fd
def dd (x : Str) (i : Nat) : He.DefD := ⟨(x, none), x, x, defArgs (top i), defBody (top i), defScope (top i), [], []⟩
def fn_0 : List He.DefD := [dd "tupled" 4, dd "nothing" 5, dd "unit" 6, dd "units" 7, dd "shown" 8, dd "rows_plus" 9, dd "rows_less" 10, dd "row_times" 11, dd "rows_added" 12, dd "columns" 13, dd "round_by" 14, dd "led_by" 16, dd "stepped" 17, dd "whole_lead" 18, dd "times_for" 19, dd "is_made" 20, dd "made_by" 21, dd "turned_about" 22, dd "least_spot" 23, dd "exchanged" 24]
def fn_1 : List He.DefD := [dd "taken_from" 25, dd "cleared" 26, dd "first_odd" 27, dd "corner_made" 28, dd "diagonal" 29, dd "steps_of" 30, dd "near_of" 32, dd "far_of" 33, dd "hidden_for" 34, dd "hidden_all" 35, dd "keeps" 36, dd "border_of" 38, dd "branches_of" 39, dd "other_ties" 40, dd "ways_from_roots" 41, dd "grown_ways" 42, dd "stepped_on" 43, dd "ring_rows" 44, dd "sure_ring" 45, dd "filling" 46]
def fn_2 : List He.DefD := [dd "cells_over" 47, dd "holes" 48, dd "heights_on" 49, dd "relations_of" 51, dd "table_times" 52, dd "levelled" 53, dd "wanted_rows" 54, dd "follows" 55, dd "_law_box" 57, dd "_law_take" 58, dd "_law_cells" 59, dd "_law_of" 60, dd "_law_pick" 61, dd "_law_lists" 62, dd "_law_same" 63, dd "_law_dot" 64, dd "_law_plus" 65, dd "_law_many" 66, dd "_law_idle" 67, dd "_law_unit" 68]
def fn_3 : List He.DefD := [dd "_law_mixed" 69, dd "_law_round" 70, dd "_law_number" 71, dd "_law_hours" 72, dd "_law_branches" 73, dd "_law_way" 74, dd "_law_ring_rows" 75, dd "_law_web" 76, dd "_law_some_ring" 77, dd "_law_heard" 78, dd "_law_has_filling" 79, dd "_law_roots" 80, dd "_law_wish_of_heights" 81, dd "_law_case_right" 82, dd "_law_by_hand_right" 83, dd "_law_right" 84, dd "law" 85]
def fn : List He.DefD := fn_0 ++ fn_1 ++ fn_2 ++ fn_3
def fa_0 : List He.Fa := [.glo "tupled", .glo "nothing", .glo "unit", .glo "units", .glo "shown", .glo "rows_plus", .glo "rows_less", .glo "row_times", .glo "rows_added", .glo "columns", .glo "round_by", .glo "led_by", .glo "stepped", .glo "whole_lead", .glo "times_for", .glo "is_made", .glo "made_by", .glo "turned_about", .glo "least_spot", .glo "exchanged"]
def fa_1 : List He.Fa := [.glo "taken_from", .glo "cleared", .glo "first_odd", .glo "corner_made", .glo "diagonal", .glo "steps_of", .glo "near_of", .glo "far_of", .glo "hidden_for", .glo "hidden_all", .glo "keeps", .glo "border_of", .glo "branches_of", .glo "other_ties", .glo "ways_from_roots", .glo "grown_ways", .glo "stepped_on", .glo "ring_rows", .glo "sure_ring", .glo "filling"]
def fa_2 : List He.Fa := [.glo "cells_over", .glo "holes", .glo "heights_on", .glo "relations_of", .glo "table_times", .glo "levelled", .glo "wanted_rows", .glo "follows", .glo "_law_box", .glo "_law_take", .glo "_law_cells", .glo "_law_of", .glo "_law_pick", .glo "_law_lists", .glo "_law_same", .glo "_law_dot", .glo "_law_plus", .glo "_law_many", .glo "_law_idle", .glo "_law_unit"]
def fa_3 : List He.Fa := [.glo "_law_mixed", .glo "_law_round", .glo "_law_number", .glo "_law_hours", .glo "_law_branches", .glo "_law_way", .glo "_law_ring_rows", .glo "_law_web", .glo "_law_some_ring", .glo "_law_heard", .glo "_law_has_filling", .glo "_law_roots", .glo "_law_wish_of_heights", .glo "_law_case_right", .glo "_law_by_hand_right", .glo "_law_right", .glo "law", .free "ValueError", .free "abs", .free "all"]
def fa_4 : List He.Fa := [.free "any", .free "bool", .free "divmod", .free "enumerate", .free "int", .free "isinstance", .free "len", .free "list", .free "min", .free "range", .free "sorted", .free "str", .free "sum", .free "tuple", .free "zip", .glo "Unfit", .glo "NoPaper", .exc "Unfit", .exc "NoPaper", .exm "NoPaper" "NoPaper" true]
def fa : List He.Fa := fa_0 ++ fa_1 ++ fa_2 ++ fa_3 ++ fa_4
def loose_0 : List Str := ["Unfit", "NoPaper", "tupled", "nothing", "unit", "units", "shown", "rows_plus", "rows_less", "row_times", "rows_added", "columns", "round_by", "led_by", "stepped", "whole_lead", "times_for", "is_made", "made_by", "turned_about"]
def loose_1 : List Str := ["least_spot", "exchanged", "taken_from", "cleared", "first_odd", "corner_made", "diagonal", "steps_of", "near_of", "far_of", "hidden_for", "hidden_all", "keeps", "border_of", "branches_of", "other_ties", "ways_from_roots", "grown_ways", "stepped_on", "ring_rows"]
def loose_2 : List Str := ["sure_ring", "filling", "cells_over", "holes", "heights_on", "relations_of", "table_times", "levelled", "wanted_rows", "follows", "_law_box", "_law_take", "_law_cells", "_law_of", "_law_pick", "_law_lists", "_law_same", "_law_dot", "_law_plus", "_law_many"]
def loose_3 : List Str := ["_law_idle", "_law_unit", "_law_mixed", "_law_round", "_law_number", "_law_hours", "_law_branches", "_law_way", "_law_ring_rows", "_law_web", "_law_some_ring", "_law_heard", "_law_has_filling", "_law_roots", "_law_wish_of_heights", "_law_case_right", "_law_by_hand_right", "_law_right"]
def loose : List Str := loose_0 ++ loose_1 ++ loose_2 ++ loose_3
abbrev R : PySem.W.OpenRow := PySem.W.OpenLaw.row PySem.Challenge.rw_sharesuntold_k72_across_heights_rings_an
def exC (K : PySem.W.Frag) (D : Addr) : Bool := decide (PySem.W.findIn K (.ref D) "__getattribute__" = some (some (.builtin "BaseException.__getattribute__"))) && (decide (PySem.W.findIn K (.ref D) "__getattr__" = some none) && (decide (PySem.W.subIn K (.ref D) (.type "BaseException") = some true) && (PySem.W.hasDictIn K D && (decide (PySem.W.findIn K (.ref D) "__class__" = some (some (.builtin "object.__class__"))) && (decide (PySem.W.specialIn K (.builtin "object.__class__") "__get__" = some (some (.builtin "getset_descriptor.__get__"))) && (decide (PySem.W.takesIn K (.builtin "object.__class__") = some true) && decide (PySem.W.mroIn K D (.type "object") = some true)))))))
def ex (K : PySem.W.Frag) : Bool := decide (PySem.W.kitOne K (.ref (He.ga K "NoPaper")) (.type "ValueError") = some true) && exC K (He.ga K "NoPaper")
def tf : List He.Defn := [("led_by", none)]
abbrev hk : PySem.W.Hook := He.hookX 4 fa fn [] tf ex
def ob (s : PySem.W.SharedT) : He.AlX := He.obsX 4 fa fn [] tf ex (HandSHeadRun.getT s)
theorem ob_eq (s : PySem.W.SharedT) : ob s = hk.obs s.abs := He.obsX_eq (HandSHeadRun.getT_eq s)
theorem run (w : World) : HandSHeadRun.RunEq R (PySem.W.view R.prog [85]) hk ob 4000 loose w := by
  intro os
  kernel_rfl
end Hd

set_option Elab.async false
set_option linter.all false
set_option maxRecDepth 100000
set_option maxHeartbeats 4000000
namespace DL
open PySem PySem.Spec PyProof.Rows L2 NdefX
abbrev D := PyData
abbrev Frag := PySem.W.Frag
/-- what a slot holds: nothing told; a tree; the list at l of these trees, which may change -/
inductive En where
  | non
  | dat (d : D)
  | own (l : Addr) (ds : List D)
def Sub (H H' : Hp) : Prop := ∀ a o, H a = some o → H' a = some o
theorem Sub.refl (H : Hp) : Sub H H := fun _ _ h => h
theorem Sub.trans {H H1 H2 : Hp} (a : Sub H H1) (b : Sub H1 H2) : Sub H H2 := fun x o h => b x o (a x o h)
theorem Sub.new {H : Hp} {p : Addr} {o : HO} (h : H p = none) : Sub H (upd H p o) := fun a u e => by
  rw [upd_ne (ne_of_none e h)]; exact e
theorem Sub.free {H H' : Hp} (e : Sub H H') {l : Addr} (h : H' l = none) : H l = none := by
  cases q : H l with
  | none => rfl
  | some o => rw [e l o q] at h; cases h
theorem Sub.sqL {K : Frag} {H H' : Hp} {a : Addr} {xs : List V} (e : Sub H H') (h : SqL K H a xs) : SqL K H' a xs := by
  rcases h with (h | ⟨o, h⟩) | h
  · exact .inl (.inl (e _ _ h))
  · exact .inl (.inr ⟨o, e _ _ h⟩)
  · exact .inr h
theorem Sub.sqT {K : Frag} {H H' : Hp} {a : Addr} {xs : List V} (e : Sub H H') (h : SqT K H a xs) : SqT K H' a xs := by
  rcases h with (h | ⟨o, h⟩) | h
  · exact .inl (.inl (e _ _ h))
  · exact .inl (.inr ⟨o, e _ _ h⟩)
  · exact .inr h
end DL
namespace L2
open PySem PySem.Spec PyProof.Rows DL
mutual
theorem Dp.sub {K : Frag} {H H' : Hp} (e : Sub H H') : ∀ {v : V} {d : D}, Dp K H v d → Dp K H' v d
  | _, _, .non => .non
  | _, _, .bl b => .bl b
  | _, _, .int i => .int i
  | _, _, .str x => .str x
  | _, _, .lst h a => .lst (e.sqL h) (DpAll.sub e a)
  | _, _, .tup h a => .tup (e.sqT h) (DpAll.sub e a)
theorem DpAll.sub {K : Frag} {H H' : Hp} (e : Sub H H') : ∀ {vs : List V} {ds : List D}, DpAll K H vs ds → DpAll K H' vs ds
  | _, _, .nil => .nil
  | _, _, .cons h t => .cons (Dp.sub e h) (DpAll.sub e t)
end
section
variable {K : Frag} {H : Hp}
theorem DpAll.length : ∀ {vs : List V} {ds : List D}, DpAll K H vs ds → vs.length = ds.length
  | _, _, .nil => rfl
  | _, _, .cons _ t => congrArg (· + 1) (DpAll.length t)
theorem DpAll.get : ∀ {vs : List V} {ds : List D}, DpAll K H vs ds → ∀ {i : Nat} {d : D}, ds[i]? = some d → ∃ v, vs[i]? = some v ∧ Dp K H v d
  | _, _, .nil, i, d, h => by simp at h
  | _, _, .cons h t, 0, d, e => by simp at e; subst e; exact ⟨_, rfl, h⟩
  | _, _, .cons h t, i + 1, d, e => by
    obtain ⟨v, h1, h2⟩ := DpAll.get t (i := i) (d := d) (by simpa using e)
    exact ⟨v, by simpa using h1, h2⟩
theorem DpAll.getV : ∀ {vs : List V} {ds : List D}, DpAll K H vs ds → ∀ {i : Nat} {v : V}, vs[i]? = some v → ∃ d, ds[i]? = some d ∧ Dp K H v d
  | _, _, .nil, i, d, h => by simp at h
  | _, _, .cons h t, 0, d, e => by simp at e; subst e; exact ⟨_, rfl, h⟩
  | _, _, .cons h t, i + 1, d, e => by
    obtain ⟨v, h1, h2⟩ := DpAll.getV t (i := i) (v := d) (by simpa using e)
    exact ⟨v, by simpa using h1, h2⟩
theorem DpAll.append : ∀ {vs ws : List V} {ds es : List D}, DpAll K H vs ds → DpAll K H ws es → DpAll K H (vs ++ ws) (ds ++ es)
  | _, _, _, _, .nil, s => s
  | _, _, _, _, .cons h t, s => .cons h (DpAll.append t s)
theorem DpAll.snoc {vs : List V} {ds : List D} {v : V} {d : D} (h : DpAll K H vs ds) (q : Dp K H v d) : DpAll K H (vs ++ [v]) (ds ++ [d]) := h.append (.cons q .nil)
theorem DpAll.take : ∀ {vs : List V} {ds : List D} (n : Nat), DpAll K H vs ds → DpAll K H (vs.take n) (ds.take n)
  | _, _, 0, _ => .nil
  | _, _, n + 1, .nil => .nil
  | _, _, n + 1, .cons h t => .cons h (DpAll.take n t)
theorem DpAll.drop : ∀ {vs : List V} {ds : List D} (n : Nat), DpAll K H vs ds → DpAll K H (vs.drop n) (ds.drop n)
  | _, _, 0, r => r
  | _, _, n + 1, .nil => .nil
  | _, _, n + 1, .cons _ t => DpAll.drop n t
theorem DpAll.set {v : V} {d : D} (q : Dp K H v d) : ∀ {vs : List V} {ds : List D} (i : Nat), DpAll K H vs ds → DpAll K H (vs.set i v) (ds.set i d)
  | _, _, _, .nil => .nil
  | _, _, 0, .cons _ t => .cons q t
  | _, _, i + 1, .cons h t => .cons h (DpAll.set q i t)
theorem DpAll.eraseIdx : ∀ {vs : List V} {ds : List D} (i : Nat), DpAll K H vs ds → DpAll K H (vs.eraseIdx i) (ds.eraseIdx i)
  | _, _, _, .nil => .nil
  | _, _, 0, .cons _ t => t
  | _, _, i + 1, .cons h t => .cons h (DpAll.eraseIdx i t)
theorem DpAll.rep {vs : List V} {ds : List D} (h : DpAll K H vs ds) : ∀ n : Nat, DpAll K H (List.replicate n vs).flatten (List.replicate n ds).flatten
  | 0 => .nil
  | n + 1 => by rw [List.replicate_succ, List.replicate_succ, List.flatten_cons, List.flatten_cons]; exact h.append (DpAll.rep h n)
theorem DpAll.ints : ∀ {vs : List V} {ns : List Int}, DpAll K H vs (ns.map .int) → vs = ns.map V.int
  | _, [], .nil => rfl
  | _, n :: ns, .cons h t => by cases h; rw [DpAll.ints t]; rfl
theorem dpInts : ∀ ns : List Int, DpAll K H (ns.map V.int) (ns.map .int)
  | [] => .nil
  | n :: ns => .cons (.int n) (dpInts ns)
theorem DpAll.bls : ∀ {vs : List V} {ns : List Bool}, DpAll K H vs (ns.map .bool) → vs = ns.map V.bl
  | _, [], .nil => rfl
  | _, n :: ns, .cons h t => by cases h; rw [DpAll.bls t]; rfl
end
end L2
namespace DL
open PySem PySem.Spec PyProof.Rows L2 NdefX
def sl (σ : L2.St) (i : Nat) : Option V := (σ[i]?).join
theorem sl_some {σ : L2.St} {i : Nat} {v : V} (h : sl σ i = some v) : σ[i]? = some (some v) := by
  unfold sl at h
  cases e : σ[i]? with
  | none => rw [e] at h; cases h
  | some o =>
    rw [e] at h
    have h : o = some v := h
    rw [h]
theorem sl_set {σ : L2.St} {i j : Nat} {v : Option V} : sl (σ.set i v) j = if i = j ∧ i < σ.length then v else sl σ j := by
  unfold sl
  by_cases h : i = j
  · subst h
    by_cases hl : i < σ.length
    · rw [List.getElem?_set_self hl, if_pos ⟨rfl, hl⟩]; rfl
    · rw [if_neg (fun z => hl z.2), List.getElem?_eq_none (by simpa using hl), List.getElem?_eq_none (by simpa using hl)]
  · rw [List.getElem?_set_ne h, if_neg (fun z => h z.1)]
def EnOk (K : Frag) (B H : Hp) (o : Option V) : En → Prop
  | .non => True
  | .dat d => ∃ v, o = some v ∧ Dp K B v d
  | .own l ds => o = some (.ref l) ∧ B l = none ∧ ∃ vs, H l = some (.lst vs) ∧ DpAll K B vs ds
def NoTbl (o : HO) : Prop := ∀ ps, o ≠ .tbl ps
theorem noTbl_lst {xs : List V} : NoTbl (.lst xs) := fun _ h => nomatch h
theorem noTbl_tup {xs : List V} : NoTbl (.tup xs) := fun _ h => nomatch h
/-- the names' trees stand in B, the lists that may change beside it -/
structure Lc (K : Frag) (T : List NTab) (σ : L2.St) (B H : Hp) (Δ : List En) : Prop where
  bh : Sub B H
  nt : ∀ a o, B a = some o → NoTbl o
  tb : TabsN T H
  len : σ.length = Δ.length
  en : ∀ i e, Δ[i]? = some e → EnOk K B H (sl σ i) e
  ds : ∀ (i j : Nat) (l l' : Addr) (ds ds' : List D), i ≠ j → Δ[i]? = some (En.own l ds) → Δ[j]? = some (En.own l' ds') → l ≠ l'
def isMut (Δ : List En) (l : Addr) : Prop := ∃ (i : Nat) (ds : List D), Δ[i]? = some (En.own l ds)
/-- from one state to a later one, the slots as they were -/
structure Stp (Δ Δ' : List En) (B H B' H' : Hp) : Prop where
  bb : Sub B B'
  fr : ∀ a, B a = none → B' a ≠ none → H a = none
  kp : ∀ a, H a ≠ none → H' a ≠ none
  hh : ∀ b o, H b = some o → NoTbl o → ¬ isMut Δ b → H' b = some o
  mu : ∀ l, isMut Δ' l → isMut Δ l
theorem Stp.refl {Δ : List En} {B H : Hp} : Stp Δ Δ B H B H := ⟨Sub.refl B, fun _ h h' => absurd h h', fun _ h => h, fun _ _ h _ _ => h, fun _ h => h⟩
theorem Stp.trans {Δ Δ1 Δ2 : List En} {B H B1 H1 B2 H2 : Hp} (a : Stp Δ Δ1 B H B1 H1) (b : Stp Δ1 Δ2 B1 H1 B2 H2) : Stp Δ Δ2 B H B2 H2 where
  bb := a.bb.trans b.bb
  fr := fun x h h2 => by
    by_cases h1 : B1 x = none
    · have := b.fr x h1 h2
      cases q : H x with
      | none => rfl
      | some o => exact absurd this (a.kp x (by rw [q]; simp))
    · exact a.fr x h h1
  kp := fun x h => b.kp x (a.kp x h)
  hh := fun x o h n m => b.hh x o (a.hh x o h n m) n (fun z => m (a.mu x z))
  mu := fun l h => a.mu l (b.mu l h)

section
variable {K : Frag} {T : List NTab} {σ : L2.St} {B H B' H' : Hp} {Δ Δ' : List En} {p : Addr}
theorem Lc.free (L : Lc K T σ B H Δ) (h : H p = none) : B p = none := L.bh.free h
theorem EnOk.sub {o : Option V} {e : En} (h : EnOk K B H o e) (hb : Sub B B') (hm : ∀ l ds, e = .own l ds → B' l = none ∧ ∀ vs, H l = some (.lst vs) → H' l = some (.lst vs)) : EnOk K B' H' o e := by
  cases e with
  | non => trivial
  | dat d => obtain ⟨v, h1, h2⟩ := h; exact ⟨v, h1, h2.sub hb⟩
  | own l ds =>
    obtain ⟨h1, h2, vs, h3, h4⟩ := h
    obtain ⟨q1, q2⟩ := hm l ds rfl
    exact ⟨h1, q1, vs, q2 vs h3, h4.sub hb⟩
theorem Lc.mutAt (L : Lc K T σ B H Δ) {i : Nat} {l : Addr} {ds : List D} (h : Δ[i]? = some (.own l ds)) : sl σ i = some (.ref l) ∧ B l = none ∧ ∃ vs, H l = some (.lst vs) ∧ DpAll K B vs ds := L.en i _ h
theorem Lc.datAt (L : Lc K T σ B H Δ) {i : Nat} {d : D} (h : Δ[i]? = some (.dat d)) : ∃ v, sl σ i = some v ∧ Dp K B v d := L.en i _ h
theorem Lc.mutNe (L : Lc K T σ B H Δ) {l : Addr} (h : isMut Δ l) : H l ≠ none := by
  obtain ⟨i, ds, e⟩ := h
  obtain ⟨_, _, vs, q, _⟩ := L.mutAt e
  rw [q]; simp
/-- a new tuple -/
theorem Lc.newT {xs : List V} {es : List D} (L : Lc K T σ B H Δ) (hp : H p = none) (a : DpAll K B xs es) :
    Lc K T σ (upd B p (.tup xs)) (upd H p (.tup xs)) Δ ∧ Stp Δ Δ B H (upd B p (.tup xs)) (upd H p (.tup xs)) ∧ Dp K (upd B p (.tup xs)) (.ref p) (.tuple es) := by
  have hb := L.free hp
  have sB : Sub B (upd B p (.tup xs)) := Sub.new hb
  have sH : Sub H (upd H p (.tup xs)) := Sub.new hp
  refine ⟨⟨fun q o e => ?_, fun q o e => ?_, L.tb.ext sH, L.len, fun i e h => (L.en i e h).sub sB fun l ds z => ?_, L.ds⟩, ⟨sB, fun q h h' => ?_, fun q h => ?_, fun b o e _ _ => sH b o e, fun _ h => h⟩, .tup (.inl (.inl upd_same)) (a.sub sB)⟩
  · by_cases hq : q = p
    · subst hq; rw [upd_same] at e ⊢; exact e
    · rw [upd_ne hq] at e ⊢; exact L.bh q o e
  · by_cases hq : q = p
    · subst hq; rw [upd_same] at e; cases e; exact noTbl_tup
    · rw [upd_ne hq] at e; exact L.nt q o e
  · subst z
    obtain ⟨_, h2, vs, h3, _⟩ := L.mutAt h
    have ne : l ≠ p := ne_of_none h3 hp
    exact ⟨by rw [upd_ne ne]; exact h2, fun ws q => by rw [upd_ne ne]; exact q⟩
  · by_cases hq : q = p
    · subst hq; exact hp
    · rw [upd_ne hq] at h'; exact absurd h h'
  · by_cases hq : q = p
    · subst hq; rw [upd_same]; simp
    · rw [upd_ne hq]; exact h
/-- a new list, not among the trees yet -/
theorem Lc.newM {xs : List V} (L : Lc K T σ B H Δ) (hp : H p = none) :
    Lc K T σ B (upd H p (.lst xs)) Δ ∧ Stp Δ Δ B H B (upd H p (.lst xs)) ∧ ¬ isMut Δ p ∧ B p = none := by
  have hb := L.free hp
  have sH : Sub H (upd H p (.lst xs)) := Sub.new hp
  refine ⟨⟨L.bh.trans sH, L.nt, L.tb.ext sH, L.len, fun i e h => (L.en i e h).sub (Sub.refl B) fun l ds z => ?_, L.ds⟩, ⟨Sub.refl B, fun q h h' => absurd h h', fun q h => ?_, fun b o e _ _ => sH b o e, fun _ h => h⟩, fun z => L.mutNe z hp, hb⟩
  · subst z
    obtain ⟨_, h2, vs, h3, _⟩ := L.mutAt h
    exact ⟨h2, fun ws q => sH l _ q⟩
  · by_cases hq : q = p
    · subst hq; rw [upd_same]; simp
    · rw [upd_ne hq]; exact h
/-- a list that may change becomes a tree -/
theorem Lc.froze {xs : List V} {es : List D} (L : Lc K T σ B H Δ) (hl : H p = some (.lst xs)) (hb : B p = none) (a : DpAll K B xs es) (nm : ¬ isMut Δ p) :
    Lc K T σ (upd B p (.lst xs)) H Δ ∧ Dp K (upd B p (.lst xs)) (.ref p) (.list es) := by
  have sB : Sub B (upd B p (.lst xs)) := Sub.new hb
  refine ⟨⟨fun q o e => ?_, fun q o e => ?_, L.tb, L.len, fun i e h => (L.en i e h).sub sB fun l ds z => ?_, L.ds⟩, .lst (.inl (.inl upd_same)) (a.sub sB)⟩
  · by_cases hq : q = p
    · subst hq; rw [upd_same] at e; cases e; exact hl
    · rw [upd_ne hq] at e; exact L.bh q o e
  · by_cases hq : q = p
    · subst hq; rw [upd_same] at e; cases e; exact noTbl_lst
    · rw [upd_ne hq] at e; exact L.nt q o e
  · subst z
    obtain ⟨_, h2, _⟩ := L.mutAt h
    exact ⟨by rw [upd_ne (fun z => nm (by rw [← z]; exact ⟨i, ds, h⟩))]; exact h2, fun ws q => q⟩
theorem Stp.froze' {xs : List V} (S : Stp Δ Δ' B H B' H') (hp : H p = none) (hb : B' p = none) : Stp Δ Δ' B H (upd B' p (.lst xs)) H' :=
  ⟨S.bb.trans (Sub.new hb), fun a h h' => by
    by_cases hq : a = p
    · subst hq; exact hp
    · rw [upd_ne hq] at h'; exact S.fr a h h', S.kp, S.hh, S.mu⟩
/-- the list at l, slot i, changes -/
theorem Lc.setM {i : Nat} {l : Addr} {ds es : List D} {ws : List V} (L : Lc K T σ B H Δ) (h : Δ[i]? = some (.own l ds)) (a : DpAll K B ws es) :
    Lc K T σ B (upd H l (.lst ws)) (Δ.set i (.own l es)) ∧ Stp Δ (Δ.set i (.own l es)) B H B (upd H l (.lst ws)) := by
  obtain ⟨h1, h2, vs, h3, h4⟩ := L.mutAt h
  have hi : i < Δ.length := (List.getElem?_eq_some_iff.mp h).1
  have ne : ∀ j l' ds', i ≠ j → Δ[j]? = some (En.own l' ds') → l' ≠ l := fun j l' ds' hj e => L.ds j i l' l ds' ds (Ne.symm hj) e h
  have mu' : ∀ l', isMut (Δ.set i (.own l es)) l' → isMut Δ l' := fun l' ⟨j, ds', e⟩ => by
    by_cases hj : i = j
    · subst hj
      rw [List.getElem?_set_self hi] at e
      cases e
      exact ⟨i, ds, h⟩
    · rw [List.getElem?_set_ne hj] at e
      exact ⟨j, ds', e⟩
  refine ⟨⟨fun q o e => ?_, L.nt, ?_, by simpa using L.len, fun j e hj => ?_, fun j k l1 l2 d1 d2 hjk e1 e2 => ?_⟩, ⟨Sub.refl B, fun q h h' => absurd h h', fun q h => ?_, fun b o e _ nm => ?_, mu'⟩⟩
  · rw [upd_ne (fun z => by rw [z, h2] at e; cases e)]; exact L.bh q o e
  · intro q hq
    obtain ⟨ps, a1, a2, a3⟩ := L.tb q hq
    refine ⟨ps, ?_, a2, fun pos cv hc => ?_⟩
    · rw [upd_ne (fun z => by rw [z, h3] at a1; cases a1)]; exact a1
    · obtain ⟨c, e1, e2⟩ := a3 pos cv hc
      refine ⟨c, e1, ?_⟩
      rw [upd_ne (fun z => by rw [z, h3] at e2; exact absurd e2 (by unfold LamX.CodeO; simp))]; exact e2
  · by_cases hij : i = j
    · subst hij
      rw [List.getElem?_set_self hi] at hj
      cases hj
      exact ⟨h1, h2, ws, upd_same, a⟩
    · rw [List.getElem?_set_ne hij] at hj
      refine (L.en j e hj).sub (Sub.refl B) fun l' ds' z => ?_
      subst z
      obtain ⟨_, q2, _⟩ := L.mutAt hj
      exact ⟨q2, fun xs q => by rw [upd_ne (ne j l' ds' hij hj)]; exact q⟩
  · by_cases hij : i = j
    · subst hij
      rw [List.getElem?_set_self hi] at e1
      cases e1
      rw [List.getElem?_set_ne hjk] at e2
      exact (ne k l2 d2 hjk e2).symm
    · rw [List.getElem?_set_ne hij] at e1
      by_cases hik : i = k
      · subst hik
        rw [List.getElem?_set_self hi] at e2
        cases e2
        exact ne j l1 d1 hij e1
      · rw [List.getElem?_set_ne hik] at e2
        exact L.ds j k l1 l2 d1 d2 hjk e1 e2
  · by_cases hq : q = l
    · subst hq; rw [upd_same]; simp
    · rw [upd_ne hq]; exact h
  · rw [upd_ne (fun z => nm (by rw [z]; exact ⟨i, ds, h⟩))]; exact e
/-- a name is stored -/
theorem Lc.setE {i : Nat} {o : Option V} {e : En} (L : Lc K T σ B H Δ) (h : EnOk K B H o e) (hm : ∀ l ds, e = .own l ds → ∀ j ds', i ≠ j → Δ[j]? ≠ some (.own l ds')) : Lc K T (σ.set i o) B H (Δ.set i e) := by
  refine ⟨L.bh, L.nt, L.tb, by simpa using L.len, fun j e' hj => ?_, fun j k l1 l2 d1 d2 hjk e1 e2 => ?_⟩
  · by_cases hij : i = j
    · subst hij
      by_cases hl : i < Δ.length
      · rw [List.getElem?_set_self hl] at hj
        cases hj
        rw [sl_set, if_pos ⟨rfl, by rw [L.len]; exact hl⟩]
        exact h
      · rw [List.getElem?_eq_none (by simpa using hl)] at hj; cases hj
    · rw [List.getElem?_set_ne hij] at hj
      rw [sl_set, if_neg (fun z => hij z.1)]
      exact L.en j e' hj
  · by_cases hij : i = j
    · subst hij
      rw [List.getElem?_set_ne hjk] at e2
      by_cases hl : i < Δ.length
      · rw [List.getElem?_set_self hl] at e1
        cases e1
        intro z
        subst z
        exact hm _ _ rfl k d2 hjk e2
      · rw [List.getElem?_eq_none (by simpa using hl)] at e1; cases e1
    · rw [List.getElem?_set_ne hij] at e1
      by_cases hik : i = k
      · subst hik
        by_cases hl : i < Δ.length
        · rw [List.getElem?_set_self hl] at e2
          cases e2
          intro z
          subst z
          exact hm _ _ rfl j d1 hij e1
        · rw [List.getElem?_eq_none (by simpa using hl)] at e2; cases e2
      · rw [List.getElem?_set_ne hik] at e2
        exact L.ds j k l1 l2 d1 d2 hjk e1 e2
theorem Lc.setD {i : Nat} {v : V} {d : D} (L : Lc K T σ B H Δ) (h : Dp K B v d) : Lc K T (σ.set i (some v)) B H (Δ.set i (.dat d)) := L.setE ⟨v, rfl, h⟩ fun _ _ z => nomatch z
theorem Lc.setN {i : Nat} {o : Option V} (L : Lc K T σ B H Δ) : Lc K T (σ.set i o) B H (Δ.set i .non) := L.setE trivial fun _ _ z => nomatch z
end
end DL

set_option Elab.async false
set_option linter.all false
set_option maxRecDepth 100000
set_option maxHeartbeats 4000000
namespace DL
open PySem PySem.Spec PyProof.Rows L2 NdefX
theorem _root_.L2.PE.weak {X : Cx} {e : Expr} {t t' : TE} (h : PE X e t) (w : ∀ σ H R, t' σ H R → t σ H R) : PE X e t' := ⟨fun pins s σ H R I q => h.run pins s σ H R I (w σ H R q)⟩
theorem _root_.L2.PT.weak {X : Cx} {e : Expr} {t t' : TT} (h : PT X e t) (w : ∀ σ H R, t' σ H R → t σ H R) : PT X e t' := ⟨fun pins s σ H R I q => h.run pins s σ H R I (w σ H R q)⟩
theorem _root_.L2.PA.weak {X : Cx} {e : List Expr} {t t' : TA} (h : PA X e t) (w : ∀ σ H R, t' σ H R → t σ H R) : PA X e t' := ⟨fun pos pins s σ H R I q => h.run pos pins s σ H R I (w σ H R q)⟩
theorem _root_.L2.PS.weak {X : Cx} {e : Stmt} {t t' : TS} (h : PS X e t) (w : ∀ D σ H, t' D σ H → t D σ H) : PS X e t' := ⟨fun pins s σ H R I q => h.run pins s σ H R I (w R σ H q)⟩
theorem _root_.L2.PSs.weak {X : Cx} {e : List Stmt} {t t' : TS} (h : PSs X e t) (w : ∀ D σ H, t' D σ H → t D σ H) : PSs X e t' := ⟨fun pins s σ H R I q => h.run pins s σ H R I (w R σ H q)⟩
abbrev QD := D → List En → Prop
/-- the value of an argument: a tree; the list that slot i holds; a new list -/
inductive Av where
  | d (x : D)
  | m (i : Nat)
  | n (l : Addr) (ds : List D)
def AvOk (K : Frag) (σ : L2.St) (B H : Hp) (Δ : List En) (v : V) : Av → Prop
  | .d x => Dp K B v x
  | .m i => sl σ i = some v
  | .n l ds => v = .ref l ∧ B l = none ∧ ¬ isMut Δ l ∧ ∃ vs, H l = some (.lst vs) ∧ DpAll K B vs ds
abbrev AvsOk (K : Frag) (σ : L2.St) (B H : Hp) (Δ : List En) : List V → List Av → Prop := Paired (AvOk K σ B H Δ)
def news : List Av → List Addr
  | [] => []
  | .n l _ :: r => l :: news r
  | _ :: r => news r
section
variable (K : Frag) (T : List NTab)
/-- an expression's value is a tree d with Q d -/
def tD (Δ : List En) (Q : QD) : TE := fun σ H R => ∃ B, Lc K T σ B H Δ ∧ ∀ d Δ' v B' H', Q d Δ' → Stp Δ Δ' B H B' H' → Lc K T σ B' H' Δ' → Dp K B' v d → R v H'
/-- .. is a new list of trees -/
def tN (Δ : List En) (Q : List D → List En → Prop) : TE := fun σ H R => ∃ B, Lc K T σ B H Δ ∧ ∀ ds Δ' l vs B' H', Q ds Δ' → Stp Δ Δ' B H B' H' → Lc K T σ B' H' Δ' → H l = none → H' l = some (.lst vs) → B' l = none → ¬ isMut Δ' l → DpAll K B' vs ds → R (.ref l) H'
/-- .. is a sequence (a tree, or a slot's list); t: a tuple -/
def tS (Δ : List En) (Q : Bool → List D → List En → Prop) : TE := fun σ H R => ∃ B, Lc K T σ B H Δ ∧ ∀ t ds Δ' a vs B' H', Q t ds Δ' → Stp Δ Δ' B H B' H' → Lc K T σ B' H' Δ' → (if t then SqT K B' a vs else SqL K H' a vs) → DpAll K B' vs ds → R (.ref a) H'
def tT (Δ : List En) (Q : Bool → List En → Prop) : TT := fun σ H R => ∃ B, Lc K T σ B H Δ ∧ ∀ b Δ' B' H', Q b Δ' → Stp Δ Δ' B H B' H' → Lc K T σ B' H' Δ' → R b H'
def tA (Δ : List En) (Q : List Av → List En → Prop) : TA := fun σ H R => ∃ B, Lc K T σ B H Δ ∧ ∀ avs Δ' vs B' H', Q avs Δ' → Stp Δ Δ' B H B' H' → Lc K T σ B' H' Δ' → AvsOk K σ B' H' Δ' vs avs → (news avs).Nodup → (∀ l ∈ news avs, H l = none) → R vs H'
end
def DE (T : List NTab) (X : Cx) (Δ : List En) (e : Expr) (Q : QD) : Prop := PE X e (tD X.K T Δ Q)
def DN (T : List NTab) (X : Cx) (Δ : List En) (e : Expr) (Q : List D → List En → Prop) : Prop := PE X e (tN X.K T Δ Q)
def DS (T : List NTab) (X : Cx) (Δ : List En) (e : Expr) (Q : Bool → List D → List En → Prop) : Prop := PE X e (tS X.K T Δ Q)
def DT (T : List NTab) (X : Cx) (Δ : List En) (e : Expr) (Q : Bool → List En → Prop) : Prop := PT X e (tT X.K T Δ Q)
def DA (T : List NTab) (X : Cx) (Δ : List En) (es : List Expr) (Q : List Av → List En → Prop) : Prop := PA X es (tA X.K T Δ Q)
/-- an expression that will be told when it is come to -/
def lE (T : List NTab) (X : Cx) (e : Expr) : TE := fun σ H R => ∃ Δ Q, DE T X Δ e Q ∧ tD X.K T Δ Q σ H R
def lT (T : List NTab) (X : Cx) (e : Expr) : TT := fun σ H R => ∃ Δ Q, DT T X Δ e Q ∧ tT X.K T Δ Q σ H R
def lA (T : List NTab) (X : Cx) (e : List Expr) : TA := fun σ H R => ∃ Δ Q, DA T X Δ e Q ∧ tA X.K T Δ Q σ H R
theorem pe_l {T : List NTab} {X : Cx} {e : Expr} : PE X e (lE T X e) := ⟨fun pins s σ H R I ⟨_, _, h, q⟩ => PE.run h pins s σ H R I q⟩
theorem pt_l {T : List NTab} {X : Cx} {e : Expr} : PT X e (lT T X e) := ⟨fun pins s σ H R I ⟨_, _, h, q⟩ => PT.run h pins s σ H R I q⟩
theorem pa_l {T : List NTab} {X : Cx} {e : List Expr} : PA X e (lA T X e) := ⟨fun pos pins s σ H R I ⟨_, _, h, q⟩ => PA.run h pos pins s σ H R I q⟩
section
variable {T : List NTab} {X : Cx} {Δ : List En} {e a b : Expr} {Q Q' : QD} {pos : Pos}
theorem DE.mono (h : DE T X Δ e Q) (w : ∀ d Δ', Q d Δ' → Q' d Δ') : DE T X Δ e Q' := PE.weak h fun σ H R ⟨B, L, k⟩ => ⟨B, L, fun d Δ' v B' H' q => k d Δ' v B' H' (w d Δ' q)⟩
theorem DT.mono {Q Q' : Bool → List En → Prop} (h : DT T X Δ e Q) (w : ∀ d Δ', Q d Δ' → Q' d Δ') : DT T X Δ e Q' := PT.weak h fun σ H R ⟨B, L, k⟩ => ⟨B, L, fun d Δ' B' H' q => k d Δ' B' H' (w d Δ' q)⟩
/-- a value that leaves all as it is -/
theorem de_pure {t : TE} (h : PE X e t) (w : ∀ σ B H R, Lc X.K T σ B H Δ → (∀ d v, Q d Δ → Dp X.K B v d → R v H) → t σ H R) : DE T X Δ e Q :=
  PE.weak h fun σ H R ⟨B, L, k⟩ => w σ B H R L fun d v q dv => k d Δ v B H q Stp.refl L dv
theorem de_var {i : Nat} {x : Str} {d : D} (hN : X.N[i]? = some x) (hv : Vis X.env.scope x) (hd : Δ[i]? = some (.dat d)) (q : Q d Δ) (h1 : (x == ("__debug__" : Str)) = false := by decide) (h2 : (x == ("__classdict__" : Str)) = false := by decide) : DE T X Δ (.Name x pos) Q :=
  de_pure (pe_var hN hv h1 h2) fun σ B H R L k => by
    obtain ⟨v, e1, e2⟩ := L.datAt hd
    exact ⟨v, sl_some e1, k d v q e2⟩
theorem de_int {i : Int} {j : Nat} (q : Q (.int i) Δ) : DE T X Δ (.Constant (.int i) j pos) Q := de_pure pe_int fun σ B H R L k => k _ _ q (.int i)
theorem de_bl {i : Bool} {j : Nat} (q : Q (.bool i) Δ) : DE T X Δ (.Constant (.bool i) j pos) Q := de_pure pe_bl fun σ B H R L k => k _ _ q (.bl i)
theorem de_non {j : Nat} (q : Q .none Δ) : DE T X Δ (.Constant .none j pos) Q := de_pure pe_non fun σ B H R L k => k _ _ q .non
theorem de_str {i : Str} {j : Nat} (q : Q (.str i) Δ) : DE T X Δ (.Constant (.str i) j pos) Q := de_pure pe_str fun σ B H R L k => k _ _ q (.str i)
/-- a new list as a tree -/
def frz (Q : QD) : List D → List En → Prop := fun ds Δ' => Q (.list ds) Δ'
theorem de_new (h : DN T X Δ e (frz Q)) : DE T X Δ e Q := PE.weak h fun σ H R ⟨B, L, k⟩ => ⟨B, L, fun ds Δ' l vs B' H' q S L' n e1 e2 e3 a => by
  obtain ⟨L2, dp⟩ := L'.froze e1 e2 a e3
  exact k _ Δ' _ _ _ q (S.froze' n e2) L2 dp⟩
/-- two expressions, an operator -/
def Op2 (T : List NTab) (K : Frag) (r : R2) (x y : D) (Δ : List En) (Q : QD) : Prop := ∀ σ B H v u R, Lc K T σ B H Δ → Dp K B v x → Dp K B u y →
  (∀ d Δ' w B' H', Q d Δ' → Stp Δ Δ' B H B' H' → Lc K T σ B' H' Δ' → Dp K B' w d → R w H') → r v u H R
theorem op2_run {r : R2} {σ : L2.St} {H : Hp} {R : VK} (h : DE T X Δ a fun x Δ1 => DE T X Δ1 b fun y Δ2 => Op2 T X.K r x y Δ2 Q) (k : tD X.K T Δ Q σ H R) : tOp r (lE T X a) (lE T X b) σ H R := by
  obtain ⟨B, L, k⟩ := k
  refine ⟨Δ, _, h, B, L, fun x Δ1 v B1 H1 h1 S1 L1 d1 => ?_⟩
  refine ⟨Δ1, _, h1, B1, L1, fun y Δ2 u B2 H2 h2 S2 L2 d2 => ?_⟩
  exact h2 σ B2 H2 v u R L2 (d1.sub S2.bb) d2 fun d Δ' w B' H' q S L' dw => k d Δ' w B' H' q ((S1.trans S2).trans S) L' dw
theorem de_op {op : Operator} {r : R2} (ho : OpR X (binaryOp op) r) (h : DE T X Δ a fun x Δ1 => DE T X Δ1 b fun y Δ2 => Op2 T X.K r x y Δ2 Q) : DE T X Δ (.BinOp a op b pos) Q :=
  PE.weak (pe_op ho pe_l pe_l) fun σ H R k => op2_run h k
theorem de_cmp {op : CmpOp} {r : R2} (ho : OpR X (compareOp op) r) (hm : behindInMarks op b = false) (h : DE T X Δ a fun x Δ1 => DE T X Δ1 b fun y Δ2 => Op2 T X.K r x y Δ2 Q) : DE T X Δ (.Compare a [op] [b] pos) Q :=
  PE.weak (pe_cmpR ho pe_l pe_l hm) fun σ H R k => op2_run h k
/-- a test -/
theorem dt_cmp {op : CmpOp} {r : R2} {Q : Bool → List En → Prop} (ho : OpR X (compareOp op) r) (hm : behindInMarks op b = false) (h : DE T X Δ a fun x Δ1 => DE T X Δ1 b fun y Δ2 => Op2 T X.K r x y Δ2 fun z Δ3 => ∃ c, z = .bool c ∧ Q c Δ3) : DT T X Δ (.Compare a [op] [b] pos) Q :=
  PT.weak (pt_cmpR ho pe_l pe_l hm) fun σ H R ⟨B, L, k⟩ => op2_run h ⟨B, L, fun d Δ' v B' H' ⟨c, e, q⟩ S L' dv => by subst e; cases dv; exact ⟨c, rfl, k c Δ' B' H' q S L'⟩⟩
theorem dt_val {Q : Bool → List En → Prop} (h : DE T X Δ e fun z Δ3 => ∃ c, z = .bool c ∧ Q c Δ3) (he : ∀ whole, isTrue e X.env whole = (do let v ← whole; standAt e.pos; holding [v] (truthy v)) := by intro _; rfl) : DT T X Δ e Q :=
  PT.weak (pt_val h he) fun σ H R ⟨B, L, k⟩ => ⟨B, L, fun d Δ' v B' H' ⟨c, e, q⟩ S L' dv => by subst e; cases dv; exact ⟨c, rfl, k c Δ' B' H' q S L'⟩⟩
/-- operators on ints: P x y (what is asked), g (what is given) -/
theorem o_I0 {g : Int → Int → V} {i j : Int} {d : D} (hd : ∀ K B, Dp K B (g i j) d) (q : Q d Δ) : Op2 T X.K (rI0 g) (.int i) (.int j) Δ Q := fun σ B H v u R L dv du k => by
  cases dv; cases du
  exact ⟨i, j, rfl, rfl, k d Δ _ B H q Stp.refl L (hd _ _)⟩
theorem o_I {C : Int → Int → Prop} {g : Int → Int → V} {i j : Int} {d : D} (hd : ∀ K B, Dp K B (g i j) d) (hc : C i j) (q : Q d Δ) : Op2 T X.K (rI C g) (.int i) (.int j) Δ Q := fun σ B H v u R L dv du k => by
  cases dv; cases du
  exact ⟨i, j, rfl, rfl, hc, k d Δ _ B H q Stp.refl L (hd _ _)⟩
end
/-- a two-place int operation in words: the first is an int i, then .. -/
abbrev isI (Q : Int → List En → Prop) : QD := fun d Δ => ∃ i, d = .int i ∧ Q i Δ
abbrev isB (Q : Bool → List En → Prop) : QD := fun d Δ => ∃ i, d = .bool i ∧ Q i Δ
def CMulB (i j : Int) : Prop := IntMulOk i j
theorem op_mulB {X : Cx} : OpR X (binaryOp .Mult) (rI CMulB fun i j => .int (i * j)) := opI fun _ _ _ _ _ _ _ hc q => mul_int q hc
/-- // by a divisor below 2 ^ 9000 -/
def CDivB (_ j : Int) : Prop := j ≠ 0 ∧ j.natAbs.log2 < 9000
theorem op_fdivB {X : Cx} : OpR X (binaryOp .FloorDiv) (rI CDivB fun i j => .int (i.fdiv j)) := opI fun _ _ _ _ _ _ _ hc q => floordiv_int hc.1 q (.inl (PyProof.noPylong_of_log2 hc.2))
section
variable {T : List NTab} {X : Cx} {Δ : List En} {e a b : Expr} {Q Q' : QD} {pos : Pos}
theorem de_add (h : DE T X Δ a (isI fun i Δ1 => DE T X Δ1 b (isI fun j Δ2 => Q (.int (i + j)) Δ2))) : DE T X Δ (.BinOp a .Add b pos) Q :=
  de_op op_add (h.mono fun d Δ1 ⟨i, e, h1⟩ => h1.mono fun d2 Δ2 ⟨j, e2, q⟩ => by subst e; subst e2; exact o_I0 (fun _ _ => .int _) q)
theorem de_sub (h : DE T X Δ a (isI fun i Δ1 => DE T X Δ1 b (isI fun j Δ2 => Q (.int (i - j)) Δ2))) : DE T X Δ (.BinOp a .Sub b pos) Q :=
  de_op op_sub (h.mono fun d Δ1 ⟨i, e, h1⟩ => h1.mono fun d2 Δ2 ⟨j, e2, q⟩ => by subst e; subst e2; exact o_I0 (fun _ _ => .int _) q)
theorem de_mul (h : DE T X Δ a (isI fun i Δ1 => DE T X Δ1 b (isI fun j Δ2 => IntMulOk i j ∧ Q (.int (i * j)) Δ2))) : DE T X Δ (.BinOp a .Mult b pos) Q :=
  de_op op_mulB (h.mono fun d Δ1 ⟨i, e, h1⟩ => h1.mono fun d2 Δ2 ⟨j, e2, hc, q⟩ => by subst e; subst e2; exact o_I (fun _ _ => .int _) hc q)
theorem de_fdiv (h : DE T X Δ a (isI fun i Δ1 => DE T X Δ1 b (isI fun j Δ2 => CDivB i j ∧ Q (.int (i.fdiv j)) Δ2))) : DE T X Δ (.BinOp a .FloorDiv b pos) Q :=
  de_op op_fdivB (h.mono fun d Δ1 ⟨i, e, h1⟩ => h1.mono fun d2 Δ2 ⟨j, e2, hc, q⟩ => by subst e; subst e2; exact o_I (fun _ _ => .int _) hc q)
theorem de_mod (h : DE T X Δ a (isI fun i Δ1 => DE T X Δ1 b (isI fun j Δ2 => j ≠ 0 ∧ Q (.int (i.fmod j)) Δ2))) : DE T X Δ (.BinOp a .Mod b pos) Q :=
  de_op op_modN (h.mono fun d Δ1 ⟨i, e, h1⟩ => h1.mono fun d2 Δ2 ⟨j, e2, hc, q⟩ => by subst e; subst e2; exact o_I (fun _ _ => .int _) hc q)
theorem de_pow (h : DE T X Δ a (isI fun i Δ1 => DE T X Δ1 b (isI fun j Δ2 => CPow i j ∧ Q (.int (i ^ j.toNat)) Δ2))) : DE T X Δ (.BinOp a .Pow b pos) Q :=
  de_op op_pow (h.mono fun d Δ1 ⟨i, e, h1⟩ => h1.mono fun d2 Δ2 ⟨j, e2, hc, q⟩ => by subst e; subst e2; exact o_I (fun _ _ => .int _) hc q)
theorem de_neg (h : DE T X Δ a (isI fun i Δ1 => Q (.int (-i)) Δ1)) : DE T X Δ (.UnaryOp .USub a pos) Q :=
  PE.weak (pe_un un_neg h) fun σ H R ⟨B, L, k⟩ => ⟨B, L, fun d Δ' v B' H' ⟨i, e, q⟩ S L' dv => by subst e; cases dv; exact ⟨i, rfl, k _ Δ' _ B' H' q S L' (.int _)⟩⟩
/-- comparisons of ints -/
theorem de_lt (h : DE T X Δ a (isI fun i Δ1 => DE T X Δ1 b (isI fun j Δ2 => Q (.bool (decide (i < j))) Δ2))) : DE T X Δ (.Compare a [.Lt] [b] pos) Q :=
  de_cmp op_lt (nomark _) (h.mono fun d Δ1 ⟨i, e, h1⟩ => h1.mono fun d2 Δ2 ⟨j, e2, q⟩ => by subst e; subst e2; exact o_I0 (fun _ _ => .bl _) q)
theorem de_le (h : DE T X Δ a (isI fun i Δ1 => DE T X Δ1 b (isI fun j Δ2 => Q (.bool (decide (i ≤ j))) Δ2))) : DE T X Δ (.Compare a [.LtE] [b] pos) Q :=
  de_cmp op_le (nomark _) (h.mono fun d Δ1 ⟨i, e, h1⟩ => h1.mono fun d2 Δ2 ⟨j, e2, q⟩ => by subst e; subst e2; exact o_I0 (fun _ _ => .bl _) q)
theorem de_gt (h : DE T X Δ a (isI fun i Δ1 => DE T X Δ1 b (isI fun j Δ2 => Q (.bool (decide (j < i))) Δ2))) : DE T X Δ (.Compare a [.Gt] [b] pos) Q :=
  de_cmp op_gt (nomark _) (h.mono fun d Δ1 ⟨i, e, h1⟩ => h1.mono fun d2 Δ2 ⟨j, e2, q⟩ => by subst e; subst e2; exact o_I0 (fun _ _ => .bl _) q)
theorem de_ge (h : DE T X Δ a (isI fun i Δ1 => DE T X Δ1 b (isI fun j Δ2 => Q (.bool (decide (j ≤ i))) Δ2))) : DE T X Δ (.Compare a [.GtE] [b] pos) Q :=
  de_cmp op_ge (nomark _) (h.mono fun d Δ1 ⟨i, e, h1⟩ => h1.mono fun d2 Δ2 ⟨j, e2, q⟩ => by subst e; subst e2; exact o_I0 (fun _ _ => .bl _) q)
/-- trees compared -/
theorem de_eq (hu : X.A.units + 64 < cLine) (h : DE T X Δ a fun x Δ1 => DE T X Δ1 b fun y Δ2 => SeqAt.shaped x = true ∧ SeqAt.shaped y = true ∧ Q (.bool (PyData.eqv x y)) Δ2) : DE T X Δ (.Compare a [.Eq] [b] pos) Q :=
  de_cmp (op_eqD hu) (nomark _) (h.mono fun x Δ1 h1 => h1.mono fun y Δ2 ⟨s1, s2, q⟩ => fun σ B H v u R L dv du k => ⟨x, y, dv.sub L.bh, du.sub L.bh, s1, s2, k _ Δ2 _ B H q Stp.refl L (.bl _)⟩)
theorem de_ne (hu : X.A.units + 64 < cLine) (h : DE T X Δ a fun x Δ1 => DE T X Δ1 b fun y Δ2 => SeqAt.shaped x = true ∧ SeqAt.shaped y = true ∧ Q (.bool (!PyData.eqv x y)) Δ2) : DE T X Δ (.Compare a [.NotEq] [b] pos) Q :=
  de_cmp (op_neD hu) (nomark _) (h.mono fun x Δ1 h1 => h1.mono fun y Δ2 ⟨s1, s2, q⟩ => fun σ B H v u R L dv du k => ⟨x, y, dv.sub L.bh, du.sub L.bh, s1, s2, k _ Δ2 _ B H q Stp.refl L (.bl _)⟩)
/-- is None -/
def isNoneD : D → Bool
  | .none => true
  | _ => false
theorem dp_none {K : Frag} {B : Hp} {v : V} {d : D} (h : Dp K B v d) : decide (v = .non) = isNoneD d := by cases h <;> rfl
theorem de_isN {j : Nat} {p : Pos} (h : DE T X Δ a fun x Δ1 => Q (.bool (isNoneD x)) Δ1) : DE T X Δ (.Compare a [.Is] [.Constant .none j p] pos) Q :=
  PE.weak (pe_cmp (pc_isN h) rfl) fun σ H R ⟨B, L, k⟩ => ⟨B, L, fun d Δ' v B' H' q S L' dv => by show R (V.bl (decide (v = V.non))) H'; rw [dp_none dv]; exact k _ Δ' _ B' H' q S L' (.bl _)⟩
theorem de_notN {j : Nat} {p : Pos} (h : DE T X Δ a fun x Δ1 => Q (.bool (!isNoneD x)) Δ1) : DE T X Δ (.Compare a [.IsNot] [.Constant .none j p] pos) Q :=
  PE.weak (pe_cmp (pc_notN h) rfl) fun σ H R ⟨B, L, k⟩ => ⟨B, L, fun d Δ' v B' H' q S L' dv => by show R (V.bl (!decide (v = V.non))) H'; rw [dp_none dv]; exact k _ Δ' _ B' H' q S L' (.bl _)⟩
/-- tests -/
theorem dt_isN {j : Nat} {p : Pos} {Q : Bool → List En → Prop} (h : DE T X Δ a fun x Δ1 => Q (isNoneD x) Δ1) : DT T X Δ (.Compare a [.Is] [.Constant .none j p] pos) Q :=
  PT.weak (pt_cmp (pc_isN h) rfl) fun σ H R ⟨B, L, k⟩ => ⟨B, L, fun d Δ' v B' H' q S L' dv => ⟨_, rfl, by show R (decide (v = V.non)) H'; rw [dp_none dv]; exact k _ Δ' B' H' q S L'⟩⟩
theorem dt_notN {j : Nat} {p : Pos} {Q : Bool → List En → Prop} (h : DE T X Δ a fun x Δ1 => Q (!isNoneD x) Δ1) : DT T X Δ (.Compare a [.IsNot] [.Constant .none j p] pos) Q :=
  PT.weak (pt_cmp (pc_notN h) rfl) fun σ H R ⟨B, L, k⟩ => ⟨B, L, fun d Δ' v B' H' q S L' dv => ⟨_, rfl, by show R (!decide (v = V.non)) H'; rw [dp_none dv]; exact k _ Δ' B' H' q S L'⟩⟩
theorem dt_lt {Q : Bool → List En → Prop} (h : DE T X Δ a (isI fun i Δ1 => DE T X Δ1 b (isI fun j Δ2 => Q (decide (i < j)) Δ2))) : DT T X Δ (.Compare a [.Lt] [b] pos) Q :=
  dt_cmp op_lt (nomark _) (h.mono fun d Δ1 ⟨i, e, h1⟩ => h1.mono fun d2 Δ2 ⟨j, e2, q⟩ => by subst e; subst e2; exact o_I0 (fun _ _ => .bl _) ⟨_, rfl, q⟩)
theorem dt_le {Q : Bool → List En → Prop} (h : DE T X Δ a (isI fun i Δ1 => DE T X Δ1 b (isI fun j Δ2 => Q (decide (i ≤ j)) Δ2))) : DT T X Δ (.Compare a [.LtE] [b] pos) Q :=
  dt_cmp op_le (nomark _) (h.mono fun d Δ1 ⟨i, e, h1⟩ => h1.mono fun d2 Δ2 ⟨j, e2, q⟩ => by subst e; subst e2; exact o_I0 (fun _ _ => .bl _) ⟨_, rfl, q⟩)
theorem dt_gt {Q : Bool → List En → Prop} (h : DE T X Δ a (isI fun i Δ1 => DE T X Δ1 b (isI fun j Δ2 => Q (decide (j < i)) Δ2))) : DT T X Δ (.Compare a [.Gt] [b] pos) Q :=
  dt_cmp op_gt (nomark _) (h.mono fun d Δ1 ⟨i, e, h1⟩ => h1.mono fun d2 Δ2 ⟨j, e2, q⟩ => by subst e; subst e2; exact o_I0 (fun _ _ => .bl _) ⟨_, rfl, q⟩)
theorem dt_ge {Q : Bool → List En → Prop} (h : DE T X Δ a (isI fun i Δ1 => DE T X Δ1 b (isI fun j Δ2 => Q (decide (j ≤ i)) Δ2))) : DT T X Δ (.Compare a [.GtE] [b] pos) Q :=
  dt_cmp op_ge (nomark _) (h.mono fun d Δ1 ⟨i, e, h1⟩ => h1.mono fun d2 Δ2 ⟨j, e2, q⟩ => by subst e; subst e2; exact o_I0 (fun _ _ => .bl _) ⟨_, rfl, q⟩)
theorem dt_eq {Q : Bool → List En → Prop} (hu : X.A.units + 64 < cLine) (h : DE T X Δ a fun x Δ1 => DE T X Δ1 b fun y Δ2 => SeqAt.shaped x = true ∧ SeqAt.shaped y = true ∧ Q (PyData.eqv x y) Δ2) : DT T X Δ (.Compare a [.Eq] [b] pos) Q :=
  dt_cmp (op_eqD hu) (nomark _) (h.mono fun x Δ1 h1 => h1.mono fun y Δ2 ⟨s1, s2, q⟩ => fun σ B H v u R L dv du k => ⟨x, y, dv.sub L.bh, du.sub L.bh, s1, s2, k _ Δ2 _ B H ⟨_, rfl, q⟩ Stp.refl L (.bl _)⟩)
theorem dt_ne {Q : Bool → List En → Prop} (hu : X.A.units + 64 < cLine) (h : DE T X Δ a fun x Δ1 => DE T X Δ1 b fun y Δ2 => SeqAt.shaped x = true ∧ SeqAt.shaped y = true ∧ Q (!PyData.eqv x y) Δ2) : DT T X Δ (.Compare a [.NotEq] [b] pos) Q :=
  dt_cmp (op_neD hu) (nomark _) (h.mono fun x Δ1 h1 => h1.mono fun y Δ2 ⟨s1, s2, q⟩ => fun σ B H v u R L dv du k => ⟨x, y, dv.sub L.bh, du.sub L.bh, s1, s2, k _ Δ2 _ B H ⟨_, rfl, q⟩ Stp.refl L (.bl _)⟩)
theorem dt_not {Q : Bool → List En → Prop} (h : DT T X Δ a fun c Δ1 => Q (!c) Δ1) : DT T X Δ (.UnaryOp .Not a pos) Q :=
  PT.weak (pt_not h) fun σ H R ⟨B, L, k⟩ => ⟨B, L, fun c Δ' B' H' q S L' => k _ Δ' B' H' q S L'⟩
/-- chains of and, or as tests -/
def DW (T : List NTab) (X : Cx) (Δ : List En) (e : Expr) (Q : Bool → List En → Prop) : Prop := PW X e (tT X.K T Δ Q)
theorem _root_.L2.PW.weak {X : Cx} {e : Expr} {t t' : TT} (h : PW X e t) (w : ∀ σ H R, t' σ H R → t σ H R) : PW X e t' := ⟨fun wh pins s σ H R I q => h.run wh pins s σ H R I (w σ H R q)⟩
def lW (T : List NTab) (X : Cx) (e : Expr) : TT := fun σ H R => ∃ Δ Q, DW T X Δ e Q ∧ tT X.K T Δ Q σ H R
theorem pw_l : PW X e (lW T X e) := ⟨fun wh pins s σ H R I ⟨_, _, h, q⟩ => PW.run h wh pins s σ H R I q⟩
theorem dw_dt {Q : Bool → List En → Prop} (h : DW T X Δ e Q) : DT T X Δ e Q := PW.pt h
theorem dw_and1 {Q : Bool → List En → Prop} (h : DT T X Δ a Q) : DW T X Δ (.BoolOp .And [a] pos) Q := pw_and1 h
theorem dw_or1 {Q : Bool → List En → Prop} (h : DT T X Δ a Q) : DW T X Δ (.BoolOp .Or [a] pos) Q := pw_or1 h
theorem dw_and {rest : List Expr} {Q : Bool → List En → Prop} (h : DT T X Δ a fun c Δ1 => (c = true → DW T X Δ1 (.BoolOp .And (b :: rest) pos) Q) ∧ (c = false → Q false Δ1)) : DW T X Δ (.BoolOp .And (a :: b :: rest) pos) Q :=
  PW.weak (pw_and h (pw_l (T := T))) fun σ H R ⟨B, L, k⟩ => ⟨B, L, fun c Δ' B' H' ⟨q1, q2⟩ S L' => by
    cases c with
    | true => exact ⟨Δ', Q, q1 rfl, B', L', fun c2 Δ2 B2 H2 q S2 L2 => k c2 Δ2 B2 H2 q (S.trans S2) L2⟩
    | false => exact k _ Δ' B' H' (q2 rfl) S L'⟩
theorem dw_or {rest : List Expr} {Q : Bool → List En → Prop} (h : DT T X Δ a fun c Δ1 => (c = true → Q true Δ1) ∧ (c = false → DW T X Δ1 (.BoolOp .Or (b :: rest) pos) Q)) : DW T X Δ (.BoolOp .Or (a :: b :: rest) pos) Q :=
  PW.weak (pw_or h (pw_l (T := T))) fun σ H R ⟨B, L, k⟩ => ⟨B, L, fun c Δ' B' H' ⟨q1, q2⟩ S L' => by
    cases c with
    | true => exact k _ Δ' B' H' (q1 rfl) S L'
    | false => exact ⟨Δ', Q, q2 rfl, B', L', fun c2 Δ2 B2 H2 q S2 L2 => k c2 Δ2 B2 H2 q (S.trans S2) L2⟩⟩
/-- and, or as values of bools -/
theorem de_one {op : BoolOp} (h : DE T X Δ a Q) : DE T X Δ (.BoolOp op [a] pos) Q := pe_one h
theorem de_and {rest : List Expr} (h : DE T X Δ a (isB fun c Δ1 => (c = true → DE T X Δ1 (.BoolOp .And (b :: rest) pos) Q) ∧ (c = false → Q (.bool false) Δ1))) : DE T X Δ (.BoolOp .And (a :: b :: rest) pos) Q :=
  PE.weak (pe_and h (pe_l (T := T))) fun σ H R ⟨B, L, k⟩ => ⟨B, L, fun d Δ' v B' H' ⟨c, e, q1, q2⟩ S L' dv => by
    subst e; cases dv
    refine ⟨c, rfl, ?_⟩
    cases c with
    | true => exact ⟨Δ', Q, q1 rfl, B', L', fun c2 Δ2 v2 B2 H2 q S2 L2 => k c2 Δ2 v2 B2 H2 q (S.trans S2) L2⟩
    | false => exact k _ Δ' _ B' H' (q2 rfl) S L' (.bl _)⟩
theorem de_or {rest : List Expr} (h : DE T X Δ a (isB fun c Δ1 => (c = true → Q (.bool true) Δ1) ∧ (c = false → DE T X Δ1 (.BoolOp .Or (b :: rest) pos) Q))) : DE T X Δ (.BoolOp .Or (a :: b :: rest) pos) Q :=
  PE.weak (pe_or h (pe_l (T := T))) fun σ H R ⟨B, L, k⟩ => ⟨B, L, fun d Δ' v B' H' ⟨c, e, q1, q2⟩ S L' dv => by
    subst e; cases dv
    refine ⟨c, rfl, ?_⟩
    cases c with
    | true => exact k _ Δ' _ B' H' (q1 rfl) S L' (.bl _)
    | false => exact ⟨Δ', Q, q2 rfl, B', L', fun c2 Δ2 v2 B2 H2 q S2 L2 => k c2 Δ2 v2 B2 H2 q (S.trans S2) L2⟩⟩
theorem de_not (h : DE T X Δ a (isB fun c Δ1 => Q (.bool (!c)) Δ1)) : DE T X Δ (.UnaryOp .Not a pos) Q :=
  PE.weak (pe_not h) fun σ H R ⟨B, L, k⟩ => ⟨B, L, fun d Δ' v B' H' ⟨c, e, q⟩ S L' dv => by subst e; cases dv; exact ⟨c, rfl, k _ Δ' _ B' H' q S L' (.bl _)⟩⟩
theorem de_if {c : Expr} (h : DT T X Δ c fun b' Δ1 => (b' = true → DE T X Δ1 a Q) ∧ (b' = false → DE T X Δ1 b Q)) : DE T X Δ (.IfExp c a b pos) Q :=
  PE.weak (pe_ifExp h (pe_l (T := T)) (pe_l (T := T))) fun σ H R ⟨B, L, k⟩ => ⟨B, L, fun c Δ' B' H' ⟨q1, q2⟩ S L' => by
    cases c with
    | true => exact ⟨Δ', Q, q1 rfl, B', L', fun c2 Δ2 v2 B2 H2 q S2 L2 => k c2 Δ2 v2 B2 H2 q (S.trans S2) L2⟩
    | false => exact ⟨Δ', Q, q2 rfl, B', L', fun c2 Δ2 v2 B2 H2 q S2 L2 => k c2 Δ2 v2 B2 H2 q (S.trans S2) L2⟩⟩
end
end DL

set_option Elab.async false
set_option linter.all false
set_option maxRecDepth 100000
set_option maxHeartbeats 4000000
namespace DL
open PySem PySem.Spec PyProof.Rows L2 NdefX
def tDD (K : Frag) (T : List NTab) (Δ : List En) (Q : List D → List En → Prop) : TA := fun σ H R => ∃ B, Lc K T σ B H Δ ∧ ∀ ds Δ' vs B' H', Q ds Δ' → Stp Δ Δ' B H B' H' → Lc K T σ B' H' Δ' → DpAll K B' vs ds → R vs H'
def DD (T : List NTab) (X : Cx) (Δ : List En) (es : List Expr) (Q : List D → List En → Prop) : Prop := PA X es (tDD X.K T Δ Q)
def lD (T : List NTab) (X : Cx) (e : List Expr) : TA := fun σ H R => ∃ Δ Q, DD T X Δ e Q ∧ tDD X.K T Δ Q σ H R
theorem pd_l {T : List NTab} {X : Cx} {e : List Expr} : PA X e (lD T X e) := ⟨fun pos pins s σ H R I ⟨_, _, h, q⟩ => PA.run h pos pins s σ H R I q⟩
section
variable {T : List NTab} {X : Cx} {Δ : List En} {e a b : Expr} {es : List Expr} {Q : List D → List En → Prop} {pos : Pos}
theorem dd_nil (q : Q [] Δ) : DD T X Δ [] Q := PA.weak pa_nil fun σ H R ⟨B, L, k⟩ => k [] Δ [] B H q Stp.refl L .nil
theorem dd_cons (h : DE T X Δ e fun d Δ1 => DD T X Δ1 es fun ds Δ2 => Q (d :: ds) Δ2) (hs : starEach (e :: es) X.env = (false, eval e X.env) :: starEach es X.env := by rfl) : DD T X Δ (e :: es) Q :=
  PA.weak (pa_cons h (pd_l (T := T)) hs) fun σ H R ⟨B, L, k⟩ => ⟨B, L, fun d Δ1 v B1 H1 h1 S1 L1 d1 => ⟨Δ1, _, h1, B1, L1, fun ds Δ2 vs B2 H2 q S2 L2 a => k _ Δ2 _ B2 H2 q (S1.trans S2) L2 (.cons (d1.sub S2.bb) a)⟩⟩
/-- arguments of any kind -/
theorem da_nil {Q : List Av → List En → Prop} (q : Q [] Δ) : DA T X Δ [] Q := PA.weak pa_nil fun σ H R ⟨B, L, k⟩ => k [] Δ [] B H q Stp.refl L .nil List.nodup_nil (fun _ h => nomatch h)
theorem AvOk.step {K : Frag} {σ : L2.St} {B H B' H' : Hp} {Δ Δ' : List En} {v : V} {a : Av} (h : AvOk K σ B H Δ v a) (S : Stp Δ Δ' B H B' H') : AvOk K σ B' H' Δ' v a := by
  cases a with
  | d x => exact Dp.sub S.bb h
  | m i => exact h
  | n l ds =>
    obtain ⟨h1, h2, h3, vs, h4, h5⟩ := h
    refine ⟨h1, ?_, fun z => h3 (S.mu l z), vs, S.hh l _ h4 noTbl_lst h3, h5.sub S.bb⟩
    cases q : B' l with
    | none => rfl
    | some o =>
      have := S.fr l h2 (by rw [q]; simp)
      rw [h4] at this; cases this
theorem da_d {Q : List Av → List En → Prop} (h : DE T X Δ e fun d Δ1 => DA T X Δ1 es fun as Δ2 => Q (.d d :: as) Δ2) (hs : starEach (e :: es) X.env = (false, eval e X.env) :: starEach es X.env := by rfl) : DA T X Δ (e :: es) Q :=
  PA.weak (pa_cons h (pa_l (T := T)) hs) fun σ H R ⟨B, L, k⟩ => ⟨B, L, fun d Δ1 v B1 H1 h1 S1 L1 d1 => ⟨Δ1, _, h1, B1, L1, fun as Δ2 vs B2 H2 q S2 L2 a nd fr => k _ Δ2 _ B2 H2 q (S1.trans S2) L2 (.cons (d1.sub S2.bb) a) nd fun l hl => by
    have := fr l hl
    cases z : H l with
    | none => rfl
    | some o => exact absurd this (S1.kp l (by rw [z]; simp))⟩⟩
theorem da_m {Q : List Av → List En → Prop} {i : Nat} {x : Str} {l : Addr} {ds : List D} {p : Pos} (hN : X.N[i]? = some x) (hv : Vis X.env.scope x) (hd : Δ[i]? = some (.own l ds)) (h : DA T X Δ es fun as Δ2 => Q (.m i :: as) Δ2)
    (hs : starEach (.Name x p :: es) X.env = (false, eval (.Name x p) X.env) :: starEach es X.env := by rfl) (h1 : (x == ("__debug__" : Str)) = false := by decide) (h2 : (x == ("__classdict__" : Str)) = false := by decide) : DA T X Δ (.Name x p :: es) Q :=
  PA.weak (pa_cons (pe_var hN hv h1 h2) (pa_l (T := T)) hs) fun σ H R ⟨B, L, k⟩ => by
    obtain ⟨e1, _, _⟩ := L.mutAt hd
    exact ⟨.ref l, sl_some e1, Δ, _, h, B, L, fun as Δ2 vs B2 H2 q S2 L2 a nd fr => k _ Δ2 _ B2 H2 q S2 L2 (.cons e1 a) nd fr⟩
theorem da_n {Q : List Av → List En → Prop} (h : DN T X Δ e fun ds Δ1 => ∀ l, DA T X Δ1 es fun as Δ2 => Q (.n l ds :: as) Δ2) (hs : starEach (e :: es) X.env = (false, eval e X.env) :: starEach es X.env := by rfl) : DA T X Δ (e :: es) Q :=
  PA.weak (pa_cons h (pa_l (T := T)) hs) fun σ H R ⟨B, L, k⟩ => ⟨B, L, fun ds Δ1 l ws B1 H1 h1 S1 L1 n1 e1 b1 m1 a1 => ⟨Δ1, _, h1 l, B1, L1, fun as Δ2 vs B2 H2 q S2 L2 a nd fr => by
    have ok : AvOk X.K σ B1 H1 Δ1 (.ref l) (.n l ds) := ⟨rfl, b1, m1, ws, e1, a1⟩
    refine k _ Δ2 _ B2 H2 q (S1.trans S2) L2 (.cons (ok.step S2) a) ?_ fun l' hl => ?_
    · show (l :: news as).Nodup
      exact List.nodup_cons.mpr ⟨fun z => (by have := fr l z; rw [e1] at this; cases this), nd⟩
    · rcases List.mem_cons.mp (show l' ∈ l :: news as from hl) with z | hl
      · subst z; exact n1
      · have := fr l' hl
        cases z : H l' with
        | none => rfl
        | some o => exact absurd this (S1.kp l' (by rw [z]; simp))⟩⟩
/-- (a, b, ..), [a, b, ..] -/
theorem de_tup {Q : QD} {j : Nat} (h : DD T X Δ es fun ds Δ1 => ds.length ≤ 10000 ∧ Q (.tuple ds) Δ1) : DE T X Δ (.Tuple es j pos) Q :=
  PE.weak (pe_tup h) fun σ H R ⟨B, L, k⟩ => ⟨B, L, fun ds Δ' vs B' H' ⟨hz, q⟩ S L' a => ⟨by rw [a.length]; exact Nat.le_trans hz (by decide), fun p hp => by
    obtain ⟨L2, S2, dp⟩ := L'.newT hp a
    exact k _ Δ' _ _ _ q (S.trans S2) L2 dp⟩⟩
theorem dn_lst (h : DD T X Δ es fun ds Δ1 => ds.length ≤ 10000 ∧ Q ds Δ1) : DN T X Δ (.List es pos) Q :=
  PE.weak (pe_lst h) fun σ H R ⟨B, L, k⟩ => ⟨B, L, fun ds Δ' vs B' H' ⟨hz, q⟩ S L' a => ⟨by rw [a.length]; exact Nat.le_trans hz (by decide), fun p hp => by
    obtain ⟨L2, S2, nm, nb⟩ := L'.newM (xs := vs) hp
    have hp0 : H p = none := by
      cases z : H p with
      | none => rfl
      | some o => exact absurd hp (S.kp p (by rw [z]; simp))
    exact k ds Δ' p vs _ _ q (S.trans S2) L2 hp0 upd_same nb nm a⟩⟩
theorem ds_tup {Q : Bool → List D → List En → Prop} (h : DE T X Δ e fun d Δ1 => ∃ ds, d = .tuple ds ∧ Q true ds Δ1) : DS T X Δ e Q :=
  PE.weak h fun σ H R ⟨B, L, k⟩ => ⟨B, L, fun d Δ' v B' H' ⟨ds, e, q⟩ S L' dv => by
    subst e
    cases dv with
    | tup hs a => exact k true ds Δ' _ _ B' H' q S L' hs a⟩
theorem ds_lst {Q : Bool → List D → List En → Prop} (h : DE T X Δ e fun d Δ1 => ∃ ds, d = .list ds ∧ Q false ds Δ1) : DS T X Δ e Q :=
  PE.weak h fun σ H R ⟨B, L, k⟩ => ⟨B, L, fun d Δ' v B' H' ⟨ds, e, q⟩ S L' dv => by
    subst e
    cases dv with
    | lst hs a => exact k false ds Δ' _ _ B' H' q S L' (L'.bh.sqL hs) a⟩
theorem ds_new {Q : Bool → List D → List En → Prop} (h : DN T X Δ e fun ds Δ1 => Q false ds Δ1) : DS T X Δ e Q :=
  ds_lst (de_new (PE.weak h fun σ H R ⟨B, L, k⟩ => ⟨B, L, fun ds Δ' l vs B' H' q => k ds Δ' l vs B' H' ⟨ds, rfl, q⟩⟩))
/-- which kind of sequence an entry is -/
def seqE : En → Option (Bool × List D)
  | .dat (.list ds) => some (false, ds)
  | .dat (.tuple ds) => some (true, ds)
  | .own _ ds => some (false, ds)
  | _ => none
theorem ds_var {i : Nat} {x : Str} {en : En} {t : Bool} {ds : List D} {Q : Bool → List D → List En → Prop} (hN : X.N[i]? = some x) (hv : Vis X.env.scope x) (hd : Δ[i]? = some en) (hs : seqE en = some (t, ds)) (q : Q t ds Δ)
    (h1 : (x == ("__debug__" : Str)) = false := by decide) (h2 : (x == ("__classdict__" : Str)) = false := by decide) : DS T X Δ (.Name x pos) Q := by
  cases en with
  | non => cases hs
  | own l es =>
    cases hs
    refine PE.weak (pe_var hN hv h1 h2) fun σ H R ⟨B, L, k⟩ => ?_
    obtain ⟨e1, e2, vs, e3, e4⟩ := L.mutAt hd
    exact ⟨.ref l, sl_some e1, k false ds Δ l vs B H q Stp.refl L (.inl (.inl e3)) e4⟩
  | dat d =>
    cases d with
    | list es => cases hs; exact ds_lst (de_var hN hv hd ⟨_, rfl, q⟩ h1 h2)
    | tuple es => cases hs; exact ds_tup (de_var hN hv hd ⟨_, rfl, q⟩ h1 h2)
    | _ => cases hs
theorem atI_dp {K : Frag} {B : Hp} {vs : List V} {ds : List D} {i : Int} {d : D} (a : DpAll K B vs ds) (h : atI ds i = some d) : ∃ v, atI vs i = some v ∧ Dp K B v d := by
  unfold atI at h ⊢
  rw [a.length]
  cases e : ixN ds.length i with
  | none => rw [e] at h; cases h
  | some j => rw [e] at h; exact a.get h
theorem de_ixT {Q : QD} (hs : PlainIx b) (h : DE T X Δ a fun x Δ1 => ∃ ds, x = .tuple ds ∧ DE T X Δ1 b (isI fun i Δ2 => ∃ d, atI ds i = some d ∧ Q d Δ2)) : DE T X Δ (.Subscript a b pos) Q :=
  PE.weak (pe_ix ix_tup pe_l pe_l hs) fun σ H R k => op2_run (Q := Q) (h.mono fun x Δ1 ⟨ds, e, h1⟩ => h1.mono fun y Δ2 ⟨i, e2, d, h3, q⟩ => fun σ B H v u R L dv du k => by
    subst e; subst e2
    cases du
    cases dv with
    | tup hs a =>
      obtain ⟨w, h5, h6⟩ := atI_dp a h3
      exact ⟨_, _, i, w, rfl, rfl, L.bh.sqT hs, h5, k d Δ2 w B H q Stp.refl L h6⟩) k
theorem de_ixL {Q : QD} (hs : PlainIx b) (h : DE T X Δ a fun x Δ1 => ∃ ds, x = .list ds ∧ DE T X Δ1 b (isI fun i Δ2 => ∃ d, atI ds i = some d ∧ Q d Δ2)) : DE T X Δ (.Subscript a b pos) Q :=
  PE.weak (pe_ix ix_list pe_l pe_l hs) fun σ H R k => op2_run (Q := Q) (h.mono fun x Δ1 ⟨ds, e, h1⟩ => h1.mono fun y Δ2 ⟨i, e2, d, h3, q⟩ => fun σ B H v u R L dv du k => by
    subst e; subst e2
    cases du
    cases dv with
    | lst hs a =>
      obtain ⟨w, h5, h6⟩ := atI_dp a h3
      exact ⟨_, _, i, w, rfl, rfl, L.bh.sqL hs, h5, k d Δ2 w B H q Stp.refl L h6⟩) k
/-- a slot's own list -/
theorem de_ixO {Q : QD} {i : Nat} {x : Str} {p : Pos} (hN : X.N[i]? = some x) (hv : Vis X.env.scope x) (hs : PlainIx b) (hd : ∃ l ds, Δ[i]? = some (.own l ds)) (h : DE T X Δ b (isI fun j Δ2 => ∃ l ds d, Δ2[i]? = some (.own l ds) ∧ atI ds j = some d ∧ Q d Δ2))
    (h1 : (x == ("__debug__" : Str)) = false := by decide) (h2 : (x == ("__classdict__" : Str)) = false := by decide) : DE T X Δ (.Subscript (.Name x p) b pos) Q :=
  PE.weak (pe_ix ix_list (pe_var hN hv h1 h2) (pe_l (T := T)) hs) fun σ H R ⟨B, L, k⟩ => by
    obtain ⟨l0, ds0, hd⟩ := hd
    obtain ⟨e1, _, _⟩ := L.mutAt hd
    refine ⟨.ref l0, sl_some e1, Δ, _, h, B, L, fun y Δ2 u B2 H2 ⟨j, e2, l, ds, d, h3, h4, q⟩ S2 L2 du => ?_⟩
    subst e2; cases du
    obtain ⟨f1, f2, vs, f3, f4⟩ := L2.mutAt h3
    rw [e1] at f1
    cases f1
    obtain ⟨w, h5, h6⟩ := atI_dp f4 h4
    exact ⟨_, vs, j, w, rfl, rfl, .inl (.inl f3), h5, k d Δ2 w B2 H2 q S2 L2 h6⟩
/-- an entry of any sequence kind, a plain index -/
theorem de_ixV {Q : QD} {i : Nat} {x : Str} {p : Pos} {en : En} {t : Bool} {ds : List D} (hN : X.N[i]? = some x) (hv : Vis X.env.scope x) (hs : PlainIx b) (hd : Δ[i]? = some en) (he : seqE en = some (t, ds)) (h : DE T X Δ b (isI fun j Δ2 => Δ2 = Δ ∧ ∃ d, atI ds j = some d ∧ Q d Δ))
    (h1 : (x == ("__debug__" : Str)) = false := by decide) (h2 : (x == ("__classdict__" : Str)) = false := by decide) : DE T X Δ (.Subscript (.Name x p) b pos) Q := by
  cases en with
  | non => cases he
  | own l es =>
    cases he
    exact de_ixO hN hv hs ⟨_, _, hd⟩ (h.mono fun y Δ2 ⟨j, e, e2, d, h3, q⟩ => ⟨j, e, l, ds, d, by rw [e2]; exact hd, h3, by rw [e2]; exact q⟩) h1 h2
  | dat d =>
    cases d with
    | list es => cases he; exact de_ixL hs (de_var hN hv hd ⟨_, rfl, h.mono fun y Δ2 ⟨j, e, e2, d, h3, q⟩ => ⟨j, e, d, h3, by rw [e2]; exact q⟩⟩ h1 h2)
    | tuple es => cases he; exact de_ixT hs (de_var hN hv hd ⟨_, rfl, h.mono fun y Δ2 ⟨j, e, e2, d, h3, q⟩ => ⟨j, e, d, h3, by rw [e2]; exact q⟩⟩ h1 h2)
    | _ => cases he
theorem _root_.L2.PO.weak {oe : Option Expr} {t t' : TO} (h : PO X oe t) (w : ∀ σ H R, t' σ H R → t σ H R) : PO X oe t' := ⟨fun pins s σ H R I q => h.run pins s σ H R I (w σ H R q)⟩
def tO (K : Frag) (T : List NTab) (Δ : List En) (Q : Option Int → List En → Prop) : TO := fun σ H R => ∃ B, Lc K T σ B H Δ ∧ ∀ o Δ' B' H', Q o Δ' → Stp Δ Δ' B H B' H' → Lc K T σ B' H' Δ' → R o H'
def DO (T : List NTab) (X : Cx) (Δ : List En) (oe : Option Expr) (Q : Option Int → List En → Prop) : Prop := PO X oe (tO X.K T Δ Q)
def lO (T : List NTab) (X : Cx) (oe : Option Expr) : TO := fun σ H R => ∃ Δ Q, DO T X Δ oe Q ∧ tO X.K T Δ Q σ H R
theorem po_l {oe : Option Expr} : PO X oe (lO T X oe) := ⟨fun pins s σ H R I ⟨_, _, h, q⟩ => PO.run h pins s σ H R I q⟩
theorem do_none {Q : Option Int → List En → Prop} (q : Q none Δ) : DO T X Δ none Q := PO.weak po_none fun σ H R ⟨B, L, k⟩ => k none Δ B H q Stp.refl L
theorem do_some {Q : Option Int → List En → Prop} (h : DE T X Δ e (isI fun i Δ1 => Q (some i) Δ1)) : DO T X Δ (some e) Q :=
  PO.weak (po_some h) fun σ H R ⟨B, L, k⟩ => ⟨B, L, fun d Δ' v B' H' ⟨i, e, q⟩ S L' dv => by subst e; cases dv; exact ⟨i, rfl, k _ Δ' B' H' q S L'⟩⟩
def cutD {α : Type} (xs : List α) (lo hi : Option Int) : List α := (xs.drop (HT.sIx xs.length 0 lo)).take (HT.sIx xs.length xs.length hi - HT.sIx xs.length 0 lo)
theorem cut_dp {K : Frag} {B : Hp} {vs : List V} {ds : List D} {lo hi : Option Int} (a : DpAll K B vs ds) : DpAll K B (cutV vs lo hi) (cutD ds lo hi) := by
  unfold cutV cutD
  rw [a.length]
  exact (a.drop _).take _
/-- t[lo:hi] -/
theorem de_slT {Q : QD} {lo hi : Option Expr} {p : Pos} (h : DE T X Δ a fun x Δ1 => ∃ ds, x = .tuple ds ∧ DO T X Δ1 lo fun l Δ2 => DO T X Δ2 hi fun u Δ3 => Q (.tuple (cutD ds l u)) Δ3) : DE T X Δ (.Subscript a (.Slice lo hi none p) pos) Q :=
  PE.weak (pe_slice sl_tupA h (po_l (T := T)) (po_l (T := T))) fun σ H R ⟨B, L, k⟩ => ⟨B, L, fun d Δ1 v B1 H1 ⟨ds, e, h1⟩ S1 L1 dv => ⟨Δ1, _, h1, B1, L1, fun l Δ2 B2 H2 h2 S2 L2 => ⟨Δ2, _, h2, B2, L2, fun u Δ3 B3 H3 q S3 L3 => by
    subst e
    have dv3 := (dv.sub S2.bb).sub S3.bb
    have S13 := (S1.trans S2).trans S3
    cases dv3 with
    | @tup a xs _ hs al =>
      refine ⟨_, _, rfl, L3.bh.sqT hs, fun hw => ?_, fun hw p hp => ?_⟩
      · have e : cutD ds l u = ds := by
          unfold cutD
          rw [← al.length, hw.1, hw.2, al.length]
          simp
        have q : Q (.tuple (cutD ds l u)) Δ3 := q
        rw [e] at q
        exact k _ Δ3 _ B3 H3 q S13 L3 (.tup hs al)
      · obtain ⟨L4, S4, dp⟩ := L3.newT hp (cut_dp (lo := l) (hi := u) al)
        exact k _ Δ3 _ _ _ q (S13.trans S4) L4 dp⟩⟩⟩
/-- xs[lo:hi] -/
theorem dn_slL {lo hi : Option Expr} {p : Pos} (h : DE T X Δ a fun x Δ1 => ∃ ds, x = .list ds ∧ DO T X Δ1 lo fun l Δ2 => DO T X Δ2 hi fun u Δ3 => Q (cutD ds l u) Δ3) : DN T X Δ (.Subscript a (.Slice lo hi none p) pos) Q :=
  PE.weak (pe_slice sl_list h (po_l (T := T)) (po_l (T := T))) fun σ H R ⟨B, L, k⟩ => ⟨B, L, fun d Δ1 v B1 H1 ⟨ds, e, h1⟩ S1 L1 dv => ⟨Δ1, _, h1, B1, L1, fun l Δ2 B2 H2 h2 S2 L2 => ⟨Δ2, _, h2, B2, L2, fun u Δ3 B3 H3 q S3 L3 => by
    subst e
    have dv3 := (dv.sub S2.bb).sub S3.bb
    have S13 := (S1.trans S2).trans S3
    cases dv3 with
    | @lst a xs _ hs al =>
      refine ⟨_, _, rfl, L3.bh.sqL hs, fun p hp => ?_⟩
      obtain ⟨L4, S4, nm, nb⟩ := L3.newM (xs := cutV xs l u) hp
      have hp0 : H p = none := by
        cases z : H p with
        | none => rfl
        | some o => exact absurd hp (S13.kp p (by rw [z]; simp))
      exact k _ Δ3 p _ _ _ q (S13.trans S4) L4 hp0 upd_same nb nm (cut_dp al)⟩⟩⟩
theorem dn_slO {i : Nat} {x : Str} {p0 : Pos} {lo hi : Option Expr} {p : Pos} (hN : X.N[i]? = some x) (hv : Vis X.env.scope x) (hd : ∃ l ds, Δ[i]? = some (.own l ds)) (h : DO T X Δ lo fun l Δ2 => DO T X Δ2 hi fun u Δ3 => ∃ a ds, Δ3[i]? = some (.own a ds) ∧ Q (cutD ds l u) Δ3)
    (h1 : (x == ("__debug__" : Str)) = false := by decide) (h2 : (x == ("__classdict__" : Str)) = false := by decide) : DN T X Δ (.Subscript (.Name x p0) (.Slice lo hi none p) pos) Q :=
  PE.weak (pe_slice sl_list (pe_var hN hv h1 h2) (po_l (T := T)) (po_l (T := T))) fun σ H R ⟨B, L, k⟩ => by
    obtain ⟨l0, ds0, hd⟩ := hd
    obtain ⟨e1, _, _⟩ := L.mutAt hd
    refine ⟨.ref l0, sl_some e1, Δ, _, h, B, L, fun l Δ2 B2 H2 h2 S2 L2 => ⟨Δ2, _, h2, B2, L2, fun u Δ3 B3 H3 ⟨a, ds, h3, q⟩ S3 L3 => ?_⟩⟩
    obtain ⟨f1, f2, vs, f3, f4⟩ := L3.mutAt h3
    rw [e1] at f1
    cases f1
    refine ⟨_, vs, rfl, .inl (.inl f3), fun p hp => ?_⟩
    have S13 := S2.trans S3
    obtain ⟨L4, S4, nm, nb⟩ := L3.newM (xs := cutV vs l u) hp
    have hp0 : H p = none := by
      cases z : H p with
      | none => rfl
      | some o => exact absurd hp (S13.kp p (by rw [z]; simp))
    exact k _ Δ3 p _ _ _ q (S13.trans S4) L4 hp0 upd_same nb nm (cut_dp f4)
/-- what a built-in call does, told by trees -/
def CalD (T : List NTab) (K : Frag) (r : List V → Hp → VK → Prop) (ds : List D) (Δ : List En) (Q : QD) : Prop := ∀ σ B H vs R, Lc K T σ B H Δ → DpAll K B vs ds →
  (∀ d Δ' w B' H', Q d Δ' → Stp Δ Δ' B H B' H' → Lc K T σ B' H' Δ' → Dp K B' w d → R w H') → r vs H R
theorem de_callB {Q : QD} {id : String} {x : Str} {p : Pos} {r : List V → Hp → VK → Prop} (hc : CallR X (.builtin id) r) (hg : Gl X x) (hm : X.mg x = none) (hv : bootBuiltins x = some (.builtin id)) (h : DD T X Δ (e :: es) fun ds Δ1 => CalD T X.K r ds Δ1 Q)
    (hn : x ≠ "__name__" := by decide) (hdb : (x == ("__debug__" : Str)) = false := by decide) (he : starEach (e :: es) X.env = (false, eval e X.env) :: starEach es X.env := by rfl) (hpl : (backTo pos (starEach es X.env)).any (·.1) = false := by rfl) : DE T X Δ (.Call (.Name x p) (e :: es) [] pos) Q :=
  PE.weak (pe_callB hc hg hm hv h hn hdb he hpl) fun σ H R ⟨B, L, k⟩ => ⟨B, L, fun ds Δ' vs B' H' q S L' a => q σ B' H' vs R L' a fun d Δ2 w B2 H2 q2 S2 L2 dw => k d Δ2 w B2 H2 q2 (S.trans S2) L2 dw⟩
theorem de_callTy {Q : QD} {Ty : String} {x : Str} {p : Pos} {r : List V → Hp → VK → Prop} (hc : CallR X (.type Ty) r) (hg : Gl X x) (hm : X.mg x = none) (hv : bootBuiltins x = some (.type Ty)) (h : DD T X Δ (e :: es) fun ds Δ1 => CalD T X.K r ds Δ1 Q)
    (hn : x ≠ "__name__" := by decide) (hdb : (x == ("__debug__" : Str)) = false := by decide) (he : starEach (e :: es) X.env = (false, eval e X.env) :: starEach es X.env := by rfl) (hpl : (backTo pos (starEach es X.env)).any (·.1) = false := by rfl) : DE T X Δ (.Call (.Name x p) (e :: es) [] pos) Q :=
  PE.weak (pe_callTy hc hg hm hv h hn hdb he hpl) fun σ H R ⟨B, L, k⟩ => ⟨B, L, fun ds Δ' vs B' H' q S L' a => q σ B' H' vs R L' a fun d Δ2 w B2 H2 q2 S2 L2 dw => k d Δ2 w B2 H2 q2 (S.trans S2) L2 dw⟩
end
end DL

set_option Elab.async false
set_option linter.all false
set_option maxRecDepth 100000
set_option maxHeartbeats 4000000
namespace DL
open PySem PySem.Spec PyProof.Rows L2 NdefX
/-- a list (false) or a tuple (true) at a -/
def SqB (K : Frag) (t : Bool) (H : Hp) (a : Addr) (xs : List V) : Prop := if t then SqT K H a xs else SqL K H a xs
def ItAt (t : Bool) (h : Heap) (it a : Addr) (i : Nat) : Prop := if t then h.IsTupleIter it a i else h.IsListIter it a i
def HoldsIts (t : Bool) (h : Heap) (a : Addr) (its : Array Value) : Prop := if t then h.IsTuple a its else h.IsList a its
def iterO (t : Bool) (a : Addr) : Obj := { cls := .type (if t then "tuple_iterator" else "list_iterator"), data := .fields #[.ref a, .int 0 0] }
section
variable {X : Cx} {pins : List (Addr × Obj)} {σ : L2.St} {H : Hp} {s : Shared} {a : Addr} {xs ys : List V}
theorem sqB_its {t : Bool} (I : Inv X pins σ H s) (h : SqB X.K t H a xs) : ∃ its : List Value, Vals xs its ∧ HoldsIts t s.heap a its.toArray ∧ xs.length ≤ sizeLine ∧ a < s.heap.objs.size := by
  cases t with
  | true =>
    obtain ⟨its, r, p, z⟩ := I.tuple h
    exact ⟨its, r, p, z, p.lt⟩
  | false =>
    obtain ⟨its, r, p, z⟩ := I.list h
    exact ⟨its, r, p.isList, z, p.lt⟩
theorem sqB_inj {t : Bool} (I : Inv X pins σ H s) (h : SqB X.K t H a xs) (h' : SqB X.K t H a ys) : xs = ys := by
  cases t with
  | true => exact I.tuple_inj h h'
  | false => exact I.list_inj h h'
theorem itAt_obj {t : Bool} {h : Heap} {it a : Addr} {i : Nat} (st : ItAt t h it a i) : ∃ o, h.get? it = some o ∧ ∀ v, o.data ≠ .cell v := by
  cases t with
  | true => obtain ⟨o, e, _, d⟩ := st; exact ⟨o, e, fun v z => by rw [d] at z; cases z⟩
  | false => obtain ⟨o, e, _, d⟩ := st; exact ⟨o, e, fun v z => by rw [d] at z; cases z⟩
theorem itAt_at {t : Bool} {h h' : Heap} {it a : Addr} {i : Nat} (st : ItAt t h it a i) (k : ∀ o, h.get? it = some o → h'.get? it = some o) : ItAt t h' it a i := by
  cases t with
  | true => exact (show h.IsTupleIter it a i from st).at k
  | false => exact (show h.IsListIter it a i from st).at k
theorem begins_of (t : Bool) (a : Addr) (its : Array Value) : Begins (.ref a) (iterO t a) fun h => HoldsIts t h a its := by
  cases t with
  | true => exact begins_tuple a its
  | false => exact begins_list a its
theorem itAt_new {t : Bool} {h : Heap} {it a : Addr} (e : h.get? it = some (iterO t a)) : ItAt t h it a 0 := by
  cases t with
  | true => exact ⟨_, e, rfl, rfl⟩
  | false => exact ⟨_, e, rfl, rfl⟩
/-- the library's drawing of it -/
theorem draws_of {prog : Program} {w : World} {A : Around} (t : Bool) (hh : A.handled = none) (it a : Addr) (hne : a ≠ it) (its : Array Value) :
    Draws prog w A it [it, a] its.size (fun i v => its[i]? = some v) (fun i h => ItAt t h it a i ∧ HoldsIts t h a its) := by
  cases t with
  | true => exact Draws.tuple hh it a hne its
  | false => exact Draws.list hh it a hne its
end
/-- the sequences at a and b as they stand at each turn, the items in new pairs -/
def ItzG (K : Frag) (t u : Bool) (a b : Addr) : It :=
  ⟨fun i H => ∃ (xs ys : List V) (x y : V), SqB K t H a xs ∧ SqB K u H b ys ∧ xs[i]? = some x ∧ ys[i]? = some y,
    fun i H v H' => ∃ T x y, v = .ref T ∧ H T = none ∧ H' = upd H T (.tup [x, y]) ∧ (∀ xs, SqB K t H a xs → xs[i]? = some x) ∧ ∀ ys, SqB K u H b ys → ys[i]? = some y,
    fun i H => ∃ xs ys : List V, SqB K t H a xs ∧ SqB K u H b ys ∧ i = min xs.length ys.length⟩
theorem turn_zipG {P : Program} {w : World} {K : Frag} {elts : List Expr} {kk : Nat} {tpos : Pos} {t u : Bool} {a b z TI TO i1 i2 : Addr} (D : ZipSep2 z TI TO i1 i2 [i1, a] [i2, b]) (ne1 : a ≠ i1) (ne2 : b ≠ i2) :
    Turn P w K (.Tuple elts kk tpos) (ItzG K t u a b) [z, TI, TO, i1, i2] z (fun i h => IsZip h z TI TO .none ∧ IsTupOf2 h TI (.ref i1) (.ref i2) ∧ (∃ x y, IsTupOf2 h TO x y) ∧ ItAt t h i1 a i ∧ ItAt u h i2 b i) where
  mem := by simp
  obj := fun i h st c hc => by
    obtain ⟨hz, hTI, ⟨x, y, hTO⟩, h1, h2⟩ := st
    have e' : c = z ∨ c = TI ∨ c = TO ∨ c = i1 ∨ c = i2 := by simpa using hc
    rcases e' with q | q | q | q | q
    · rw [q]; exact ⟨_, hz, fun v q => nomatch q⟩
    · rw [q]; exact ⟨_, hTI, fun v q => nomatch q⟩
    · rw [q]; exact ⟨_, hTO, fun v q => nomatch q⟩
    · rw [q]; exact itAt_obj h1
    · rw [q]; exact itAt_obj h2
  keep := fun i h h' st k => by
    obtain ⟨hz, hTI, ⟨x, y, hTO⟩, h1, h2⟩ := st
    exact ⟨k z (by simp) _ hz, k TI (by simp) _ hTI, ⟨x, y, k TO (by simp) _ hTO⟩, itAt_at h1 fun o q => k i1 (by simp) o q, itAt_at h2 fun o q => k i2 (by simp) o q⟩
  item := by
    intro X hP hw hK hc i pins s σ H E I hf st hg
    subst hP hw hK
    obtain ⟨hz, hTI, ⟨x0, y0, hTO⟩, h1, h2⟩ := st
    obtain ⟨xs, ys, x, y, hqx, hqy, hx, hy⟩ := hg
    obtain ⟨its, rv, p, _, la⟩ := sqB_its I hqx
    obtain ⟨its2, rv2, p2, _, lb⟩ := sqB_its I hqy
    obtain ⟨v1, hu, ru⟩ := rv.get hx
    obtain ⟨v2, hu2, ru2⟩ := rv2.get hy
    have hh : X.A.in1.handled = none := I.ok.hd hc
    have il1 : i < its.toArray.size := by
      have := (List.getElem?_eq_some_iff.mp hu).1
      simpa using this
    have il2 : i < its2.toArray.size := by
      have := (List.getElem?_eq_some_iff.mp hu2).1
      simpa using this
    refine (GoesN.zip2 (prog := X.prog) (w := X.w) (A := X.A) (elts := elts) (x1 := kk) (pos := tpos) D (draws_of (prog := X.prog) (w := X.w) (A := X.A.in1) t hh i1 a ne1 its.toArray) (draws_of (prog := X.prog) (w := X.w) (A := X.A.in1) u hh i2 b ne2 its2.toArray)).goes i s _ E (by omega) ⟨hz, hTI, ⟨x0, y0, hTO⟩, ⟨h1, p⟩, ⟨h2, p2⟩⟩ fun v h' tk hY st' kp htk => ?_
    obtain ⟨Tp, w1, w2, rfl, hT, e1, e2, ⟨o, ho, hoc, nn, hod⟩⟩ := hY
    obtain ⟨hz', hTI', hTO', ⟨h1', _⟩, ⟨h2', _⟩⟩ := st'
    have q1 : w1 = v1 := by
      have : its.toArray[i]? = some v1 := by simpa using hu
      rw [this] at e1; cases e1; rfl
    have q2 : w2 = v2 := by
      have : its2.toArray[i]? = some v2 := by simpa using hu2
      rw [this] at e2; cases e2; rfl
    subst q1 q2
    have hn := I.hok.fresh hT
    have new : ObjOk X.prog X.w (upd H Tp (.tup [x, y])) h' Tp (.tup [x, y]) :=
      ⟨by show 2 ≤ sizeLine; decide, [w1, w2], .cons ru (.cons ru2 .nil), o, ho, hoc, nn, hod⟩
    have I1 : Inv X pins σ (upd H Tp (.tup [x, y])) { s with heap := h', toks := tk } :=
      I.turnedNew (t' := tk) (ch := [z, TI, TO, i1, i2]) (fun c o hb q => kp c o (fun q' => hb (by
        have e' : c = z ∨ c = TO ∨ c = i1 ∨ c = i2 := by simpa using q'
        rcases e' with q | q | q | q <;> simp [q])) q) hf hT new
    refine ⟨.ref Tp, _, I1, rfl, ⟨_, x, y, rfl, hn, rfl, fun l hl => by rw [sqB_inj I hl hqx]; exact hx, fun l hl => by rw [sqB_inj I hl hqy]; exact hy⟩, ⟨hz', hTI', hTO', h1', h2'⟩, fun c hcm => ?_⟩
    have hlt : c < s.heap.objs.size := by
      have e' : c = z ∨ c = TI ∨ c = TO ∨ c = i1 ∨ c = i2 := by simpa using hcm
      rcases e' with q | q | q | q | q
      · rw [q]; exact Heap.lt_size hz
      · rw [q]; exact Heap.lt_size hTI
      · rw [q]; exact Heap.lt_size hTO
      · rw [q]; obtain ⟨_, e1, _⟩ := itAt_obj h1; exact Heap.lt_size e1
      · rw [q]; obtain ⟨_, e2, _⟩ := itAt_obj h2; exact Heap.lt_size e2
    rw [upd_ne (Nat.ne_of_lt (Nat.lt_of_lt_of_le hlt hT))]
    exact (hf c hcm).1
  done := by
    intro X hP hw hK hc i pins s σ H E I hf st hg
    subst hP hw hK
    obtain ⟨hz, hTI, ⟨x0, y0, hTO⟩, h1, h2⟩ := st
    obtain ⟨xs, ys, hqx, hqy, hend⟩ := hg
    obtain ⟨its, rv, p, _, la⟩ := sqB_its I hqx
    obtain ⟨its2, rv2, p2, _, lb⟩ := sqB_its I hqy
    have l1 := rv.length
    have l2 := rv2.length
    have hh : X.A.in1.handled = none := I.ok.hd hc
    have st := (GoesN.zip2 (prog := X.prog) (w := X.w) (A := X.A) (elts := elts) (x1 := kk) (pos := tpos) D (draws_of (prog := X.prog) (w := X.w) (A := X.A.in1) t hh i1 a ne1 its.toArray) (draws_of (prog := X.prog) (w := X.w) (A := X.A.in1) u hh i2 b ne2 its2.toArray)).stops s (fun s1 => Inv X pins σ H s1) E
    have en : min its.toArray.size its2.toArray.size = i := by simp; omega
    rw [en] at st
    exact st ⟨hz, hTI, ⟨x0, y0, hTO⟩, ⟨h1, p⟩, ⟨h2, p2⟩⟩ fun h' tk kp htk => I.turnedL (t' := tk) (ch := [z, TI, TO, i1, i2]) (fun c o hb q => kp c o (fun q' => hb (by
        have e' : c = z ∨ c = TO ∨ c = i1 ∨ c = i2 := by simpa using q'
        rcases e' with q | q | q | q <;> simp [q])) q) hf
  self := fun A i s Q E st h => wpAny_pyIter_zip st.1 h

def iZipG (K : Frag) (ta : TA) : TI := fun σ H R => ta σ H fun vs H1 => ∃ t u a b xs ys, vs = [.ref a, .ref b] ∧ SqB K t H1 a xs ∧ SqB K u H1 b ys ∧ R (ItzG K t u a b) H1
theorem pi_zipG {X : Cx} {e e2 : Expr} {ta : TA} {p pos tpos : Pos} {elts : List Expr} {kk : Nat} (hg : Gl X "zip") (hm : X.mg "zip" = none) (ha : PA X [e, e2] ta)
    (hs : starEach [e, e2] X.env = (false, eval e X.env) :: starEach [e2] X.env := by rfl) (hpl : (backTo pos (starEach [e2] X.env)).any (·.1) = false := by rfl) :
    PI X (.Tuple elts kk tpos) (.Call (.Name "zip" p) [e, e2] [] pos) (iZipG X.K ta) := by
  refine ⟨fun pins s σ H R I h => ?_⟩
  refine Call_ (ld_blt I hg hm PyProof.Rows.boot_zip (PyProof.Rows.callWith_type1 (thn (ha.run pos pins s σ H _ I h) fun us s1 ⟨vs, H1, I1, r1, q1⟩ => ?_) hs hpl))
  obtain ⟨t, u, a, b, xs, ys, ex, hqx, hqy, q⟩ := q1
  subst ex
  cases r1 with
  | cons r rr =>
    cases rr with
    | cons r' rr =>
      cases rr
      cases r
      cases r'
      obtain ⟨its, rv, p1, _, la⟩ := sqB_its I1 hqx
      obtain ⟨its2, rv2, p2, _, lb⟩ := sqB_its I1 hqy
      refine zip_begins2 (begins_of t a its.toArray) (begins_of u b its2.toArray) p1 p2 fun h' hz hTI hTO h1 h2 hsz hk => wpAny_pyIter_zip hz ?_
      have I2 : Inv X pins σ H1 { s1 with heap := h' } := I1.kept (t' := s1.toks) hk
      refine ⟨s1.heap.objs.size + 4, [s1.heap.objs.size + 4, s1.heap.objs.size + 2, s1.heap.objs.size + 3, s1.heap.objs.size, s1.heap.objs.size + 1], _, _, H1, rfl, I2,
        turn_zipG (zip_sep2 (fp1 := [a]) (fp2 := [b]) (fun c hc => by rw [List.mem_singleton.mp hc]; exact la) (fun c hc => by rw [List.mem_singleton.mp hc]; exact lb)) (Nat.ne_of_lt la) (Nat.ne_of_lt (Nat.lt_succ_of_lt lb)), ⟨hz, hTI, ⟨_, _, hTO⟩, itAt_new h1, itAt_new h2⟩, fun c hcm => ?_, q⟩
      have e' : c = s1.heap.objs.size + 4 ∨ c = s1.heap.objs.size + 2 ∨ c = s1.heap.objs.size + 3 ∨ c = s1.heap.objs.size ∨ c = s1.heap.objs.size + 1 := by simpa using hcm
      have hle : s1.heap.objs.size ≤ c := by
        rcases e' with z | z | z | z | z
        · rw [z]; exact Nat.le_add_right _ _
        · rw [z]; exact Nat.le_add_right _ _
        · rw [z]; exact Nat.le_add_right _ _
        · rw [z]; exact Nat.le_refl _
        · rw [z]; exact Nat.le_add_right _ _
      exact I1.fpOk hle (I1.hok.fresh hle)
set_option maxHeartbeats 4000000 in
theorem meets_enumerate_newB1 {v : Value} {o : Obj} {H : Heap → Prop} (B : Begins v o H) :
    Meets (Builtin.«enumerate.__new__» ⟨[.type "enumerate", v], []⟩) (fun _ R s => H s.heap ∧
      R (.ok (.ret (.ref (s.heap.push o).objs.size))) { s with heap := (s.heap.push o).push { cls := .type "enumerate", data := .fields #[.none, .bool false, .ref s.heap.objs.size, rawInt 0, .none, .none] } }) :=
  .of_wp fun prog w A R s h => by
    obtain ⟨hp, g, d, tk, os⟩ := s; obtain ⟨h1, h⟩ := h
    have hsub := sub_enumerate
    have q1 : ∀ {A' : Around} {E : Value → Shared → Prop} {Q : Value → Shared → Prop}, Q (.ref hp.objs.size) ⟨hp.push o, g, d, tk, os⟩ → wpAny (model prog w) A' (pyIter v) Q E ⟨hp, g, d, tk, os⟩ :=
      fun q => B.iter prog w _ _ ⟨hp, g, d, tk, os⟩ _ h1 q
    wp_walk using q1
    refine wpAny_stack_any fun st => wpAny_pure ?_
    split
    · rename_i c _ _ _ _ _
      cases (c == Value.type "enumerate")
      · wp_walk using q1
        exact ⟨_, rfl, h⟩
      · wp_walk using q1
        exact ⟨_, rfl, h⟩
    · wp_walk using q1
      exact ⟨_, rfl, h⟩
theorem enum_begins1 {prog : Program} {w : World} {A : Around} {E : Value → Shared → Prop} {s : Shared} {v : Value} {o : Obj} {H : Heap → Prop} {Q : Value → Shared → Prop} (B : Begins v o H) (h1 : H s.heap)
    (h : ∀ h', IsEnum h' (s.heap.objs.size + 1) s.heap.objs.size 0 .none → h'.get? s.heap.objs.size = some o → h'.objs.size = s.heap.objs.size + 2 →
      (∀ b o, s.heap.get? b = some o → h'.get? b = some o) → Q (.ref (s.heap.objs.size + 1)) { s with heap := h' }) :
    wpAny (model prog w) A (call (.type "enumerate") [v]) Q E s := by
  refine callType_new F.called_enumerate (by decide) (F.typeCall_enumerate_1 _) (F.newCall_enumerate_1 _) (fun obj => F.args_object_init_2 obj _) F.entry_enumerate_new
    (meets_enumerate_newB1 B) ⟨h1, ?_⟩
  have hz : (s.heap.push o).objs.size = s.heap.objs.size + 1 := Heap.size_push ..
  show _ ∧ _
  rw [hz]
  have he : IsEnum ((s.heap.push o).push { cls := .type "enumerate", data := .fields #[.none, .bool false, .ref s.heap.objs.size, rawInt 0, .none, .none] }) (s.heap.objs.size + 1) s.heap.objs.size 0 .none := by
    have := Heap.get?_push_size (s.heap.push o) (o := { cls := .type "enumerate", data := .fields #[.none, .bool false, .ref s.heap.objs.size, rawInt 0, .none, .none] }) rfl
    rw [hz] at this; exact this
  refine ⟨⟨_, he, rfl⟩, h _ he (Heap.get?_push_of_some _ (Heap.get?_push_size _ B.free)) (by rw [Heap.size_push, hz]) fun b o x => Heap.get?_push_of_some _ (Heap.get?_push_of_some _ x)⟩
def IteG (K : Frag) (t : Bool) (a : Addr) : It :=
  ⟨fun i H => ∃ (xs : List V) (x : V), SqB K t H a xs ∧ xs[i]? = some x,
    fun i H v H' => ∃ T x, v = .ref T ∧ H T = none ∧ H' = upd H T (.tup [.int (i : Nat), x]) ∧ ∀ xs, SqB K t H a xs → xs[i]? = some x,
    fun i H => ∃ xs : List V, SqB K t H a xs ∧ i = xs.length⟩
theorem turn_enumG {P : Program} {w : World} {K : Frag} {elts : List Expr} {kk : Nat} {tpos : Pos} {t : Bool} {a e it : Addr} (ne1 : a ≠ it) (ne2 : e ≠ it) (ne3 : e ≠ a) :
    Turn P w K (.Tuple elts kk tpos) (IteG K t a) [e, it] e (fun i h => (∃ old, IsEnum h e it (0 + (i : Int)) old) ∧ ItAt t h it a i) where
  mem := by simp
  obj := fun i h st c hc => by
    obtain ⟨⟨old, he⟩, h1⟩ := st
    have e' : c = e ∨ c = it := by simpa using hc
    rcases e' with q | q
    · rw [q]; exact ⟨_, he, fun v q => nomatch q⟩
    · rw [q]; exact itAt_obj h1
  keep := fun i h h' st k => by
    obtain ⟨⟨old, he⟩, h1⟩ := st
    exact ⟨⟨old, k e (by simp) _ he⟩, itAt_at h1 fun o q => k it (by simp) o q⟩
  item := by
    intro X hP hw hK hc i pins s σ H E I hf st hg
    subst hP hw hK
    obtain ⟨⟨old, he⟩, h1⟩ := st
    obtain ⟨xs, x, hqx, hx⟩ := hg
    obtain ⟨its, rv, p, _, la⟩ := sqB_its I hqx
    obtain ⟨v1, hu, ru⟩ := rv.get hx
    have hh : X.A.in1.handled = none := I.ok.hd hc
    have il1 : i < its.toArray.size := by
      have := (List.getElem?_eq_some_iff.mp hu).1
      simpa using this
    refine (GoesN.enumFrom (prog := X.prog) (w := X.w) (A := X.A) (elts := elts) (x1 := kk) (pos := tpos) 0 (draws_of (prog := X.prog) (w := X.w) (A := X.A.in1) t hh it a ne1 its.toArray) e ne2 (by simp [ne2, ne3]) (by simp)).goes i s _ E il1 ⟨⟨old, he⟩, h1, p⟩ fun v h' tk hY st' kp htk => ?_
    obtain ⟨Tp, tk1, w1, rfl, hT, e1, ⟨o, ho, hoc, nn, hod⟩⟩ := hY
    obtain ⟨he', h1', _⟩ := st'
    have q1 : w1 = v1 := by
      have : its.toArray[i]? = some v1 := by simpa using hu
      rw [this] at e1; cases e1; rfl
    subst q1
    have hn := I.hok.fresh hT
    have e0 : (0 : Int) + (i : Int) = ((i : Nat) : Int) := Int.zero_add _
    have new : ObjOk X.prog X.w (upd H Tp (.tup [.int (i : Nat), x])) h' Tp (.tup [.int (i : Nat), x]) :=
      ⟨by show 2 ≤ sizeLine; decide, [.int (0 + (i : Int)) tk1, w1], .cons ⟨tk1, by rw [e0]⟩ (.cons ru .nil), o, ho, hoc, nn, hod⟩
    have I1 : Inv X pins σ (upd H Tp (.tup [.int (i : Nat), x])) { s with heap := h', toks := tk } :=
      I.turnedNew (t' := tk) (ch := [e, it]) (fun c o hb q => kp c o hb q) hf hT new
    refine ⟨.ref Tp, _, I1, rfl, ⟨_, x, rfl, hn, rfl, fun l hl => by rw [sqB_inj I hl hqx]; exact hx⟩, ⟨he', h1'⟩, fun c hcm => ?_⟩
    have hlt : c < s.heap.objs.size := by
      have e' : c = e ∨ c = it := by simpa using hcm
      rcases e' with q | q
      · rw [q]; exact Heap.lt_size he
      · rw [q]; obtain ⟨_, e1, _⟩ := itAt_obj h1; exact Heap.lt_size e1
    rw [upd_ne (Nat.ne_of_lt (Nat.lt_of_lt_of_le hlt hT))]
    exact (hf c hcm).1
  done := by
    intro X hP hw hK hc i pins s σ H E I hf st hg
    subst hP hw hK
    obtain ⟨⟨old, he⟩, h1⟩ := st
    obtain ⟨xs, hqx, hend⟩ := hg
    obtain ⟨its, rv, p, _, la⟩ := sqB_its I hqx
    have l1 := rv.length
    have hh : X.A.in1.handled = none := I.ok.hd hc
    have st := (GoesN.enumFrom (prog := X.prog) (w := X.w) (A := X.A) (elts := elts) (x1 := kk) (pos := tpos) 0 (draws_of (prog := X.prog) (w := X.w) (A := X.A.in1) t hh it a ne1 its.toArray) e ne2 (by simp [ne2, ne3]) (by simp)).stops s (fun s1 => Inv X pins σ H s1) E
    have en : its.toArray.size = i := by simp; omega
    rw [en] at st
    exact st ⟨⟨old, he⟩, h1, p⟩ fun h' tk kp htk => I.turnedL (t' := tk) (ch := [e, it]) (fun c o hb q => kp c o hb q) hf
  self := fun A i s Q E st h => let ⟨⟨_, he⟩, _⟩ := st; wpAny_pyIter_enum he h
def iEnumG (K : Frag) (ta : TA) : TI := fun σ H R => ta σ H fun vs H1 => ∃ t a xs, vs = [.ref a] ∧ SqB K t H1 a xs ∧ R (IteG K t a) H1
theorem pi_enumG {X : Cx} {e : Expr} {ta : TA} {p pos tpos : Pos} {elts : List Expr} {kk : Nat} (hg : Gl X "enumerate") (hm : X.mg "enumerate" = none) (ha : PA X [e] ta) (hs : starEach [e] X.env = [(false, eval e X.env)] := by rfl) :
    PI X (.Tuple elts kk tpos) (.Call (.Name "enumerate" p) [e] [] pos) (iEnumG X.K ta) := by
  refine ⟨fun pins s σ H R I h => ?_⟩
  refine Call_ (ld_blt I hg hm boot_enumerate (PyProof.Rows.callWith_type1 (thn (ha.run pos pins s σ H _ I h) fun us s1 ⟨vs, H1, I1, r1, q1⟩ => ?_) hs rfl))
  obtain ⟨t, a, xs, ex, hqx, q⟩ := q1
  subst ex
  cases r1 with
  | cons r rr =>
    cases rr
    cases r
    obtain ⟨its, rv, p1, _, la⟩ := sqB_its I1 hqx
    refine enum_begins1 (begins_of t a its.toArray) p1 fun h' he hit hsz hk => wpAny_pyIter_enum he ?_
    have I2 : Inv X pins σ H1 { s1 with heap := h' } := I1.kept (t' := s1.toks) hk
    refine ⟨s1.heap.objs.size + 1, [s1.heap.objs.size + 1, s1.heap.objs.size], _, _, H1, rfl, I2, turn_enumG (Nat.ne_of_lt la) (Nat.succ_ne_self _) (Ne.symm (Nat.ne_of_lt (Nat.lt_succ_of_lt la))), ⟨⟨.none, he⟩, itAt_new hit⟩, fun b hb => ?_, q⟩
    have e' : b = s1.heap.objs.size + 1 ∨ b = s1.heap.objs.size := by simpa using hb
    have hle : s1.heap.objs.size ≤ b := by
      rcases e' with z | z
      · rw [z]; exact Nat.le_add_right _ _
      · rw [z]; exact Nat.le_refl _
    exact I1.fpOk hle (I1.hok.fresh hle)
end DL

set_option Elab.async false
set_option linter.all false
set_option maxRecDepth 100000
set_option maxHeartbeats 4000000
namespace DL
open PySem PySem.Spec PyProof.Rows L2 NdefX
structure Src (K : Frag) (T : List NTab) (J : It) (B : Hp) (ds : List D) (I : List En → Prop) : Prop where
  goes : ∀ i σ B' H Δ, Sub B B' → Lc K T σ B' H Δ → I Δ → i < ds.length → J.go i H
  stops : ∀ σ B' H Δ, Sub B B' → Lc K T σ B' H Δ → I Δ → J.stop ds.length H
  yields : ∀ i σ B' H Δ x H', Sub B B' → Lc K T σ B' H Δ → I Δ → i < ds.length → J.yld i H x H' → ∃ B'' d, ds[i]? = some d ∧ Lc K T σ B'' H' Δ ∧ Stp Δ Δ B' H B'' H' ∧ Dp K B'' x d
abbrev yes : List En → Prop := fun _ => True
section
variable {K : Frag} {T : List NTab} {B : Hp} {a b : Addr} {xs ys : List V} {ds es : List D}
theorem src_list (h : SqL K B a xs) (al : DpAll K B xs ds) : Src K T (Itl K a) B ds yes where
  goes := fun i σ B' H Δ s L _ hi => ⟨xs, xs[i]'(by rw [al.length]; exact hi), L.bh.sqL (s.sqL h), by simp⟩
  stops := fun σ B' H Δ s L _ => ⟨xs, L.bh.sqL (s.sqL h), Nat.le_of_eq al.length⟩
  yields := fun i σ B' H Δ x H' s L _ hi ⟨e, y⟩ => by
    subst e
    obtain ⟨d, h1, h2⟩ := al.getV (y xs (L.bh.sqL (s.sqL h)))
    exact ⟨B', d, h1, L, Stp.refl, h2.sub s⟩
theorem src_tup (h : SqT K B a xs) (al : DpAll K B xs ds) : Src K T (Itt K a) B ds yes where
  goes := fun i σ B' H Δ s L _ hi => ⟨xs, xs[i]'(by rw [al.length]; exact hi), L.bh.sqT (s.sqT h), by simp⟩
  stops := fun σ B' H Δ s L _ => ⟨xs, L.bh.sqT (s.sqT h), Nat.le_of_eq al.length⟩
  yields := fun i σ B' H Δ x H' s L _ hi ⟨e, y⟩ => by
    subst e
    obtain ⟨d, h1, h2⟩ := al.getV (y xs (L.bh.sqT (s.sqT h)))
    exact ⟨B', d, h1, L, Stp.refl, h2.sub s⟩
theorem src_own (i0 : Nat) : Src K T (Itl K a) B ds (fun Δ => Δ[i0]? = some (.own a ds)) where
  goes := fun i σ B' H Δ s L h hi => by
    obtain ⟨_, _, vs, e, al⟩ := L.mutAt h
    exact ⟨vs, vs[i]'(by rw [al.length]; exact hi), .inl (.inl e), by simp⟩
  stops := fun σ B' H Δ s L h => by
    obtain ⟨_, _, vs, e, al⟩ := L.mutAt h
    exact ⟨vs, .inl (.inl e), Nat.le_of_eq al.length⟩
  yields := fun i σ B' H Δ x H' s L h hi ⟨e, y⟩ => by
    subst e
    obtain ⟨_, _, vs, e, al⟩ := L.mutAt h
    obtain ⟨d, h1, h2⟩ := al.getV (y vs (.inl (.inl e)))
    exact ⟨B', d, h1, L, Stp.refl, h2⟩
def rgD (lo : Int) (n : Nat) : List D := (List.range n).map fun i => .int (lo + (i : Nat))
theorem rgD_length (lo : Int) (n : Nat) : (rgD lo n).length = n := by unfold rgD; simp
theorem rgD_get {lo : Int} {n i : Nat} (h : i < n) : (rgD lo n)[i]? = some (.int (lo + (i : Nat))) := by unfold rgD; simp [h]
theorem src_range {lo : Int} {n : Nat} : Src K T (Itr lo n) B (rgD lo n) yes where
  goes := fun i σ B' H Δ s L h hi => by rw [rgD_length] at hi; exact hi
  stops := fun σ B' H Δ s L h => by rw [rgD_length]; exact Nat.le_refl n
  yields := fun i σ B' H Δ x H' s L h hi ⟨e1, e2⟩ => by
    subst e1 e2
    rw [rgD_length] at hi
    exact ⟨B', _, rgD_get hi, L, Stp.refl, .int _⟩
def zipD (ds es : List D) : List D := List.zipWith (fun x y => .tuple [x, y]) ds es
theorem _root_.DL.Lc.sqB {σ : L2.St} {B' H : Hp} {Δ : List En} {t : Bool} (L : Lc K T σ B' H Δ) (s : Sub B B') (h : SqB K t B a xs) : SqB K t H a xs := by
  cases t with
  | true => exact L.bh.sqT (s.sqT h)
  | false => exact L.bh.sqL (s.sqL h)
theorem src_zip {t u : Bool} (h1 : SqB K t B a xs) (a1 : DpAll K B xs ds) (h2 : SqB K u B b ys) (a2 : DpAll K B ys es) : Src K T (ItzG K t u a b) B (zipD ds es) yes where
  goes := fun i σ B' H Δ s L _ hi => by
    unfold zipD at hi
    rw [List.length_zipWith] at hi
    exact ⟨xs, ys, xs[i]'(by rw [a1.length]; omega), ys[i]'(by rw [a2.length]; omega), L.sqB s h1, L.sqB s h2, by simp, by simp⟩
  stops := fun σ B' H Δ s L _ => ⟨xs, ys, L.sqB s h1, L.sqB s h2, by unfold zipD; rw [List.length_zipWith, a1.length, a2.length]⟩
  yields := fun i σ B' H Δ x H' s L _ hi ⟨Tp, v, w, e1, e2, e3, e4, e5⟩ => by
    subst e1 e3
    obtain ⟨d, q1, q2⟩ := a1.getV (e4 xs (L.sqB s h1))
    obtain ⟨e, q3, q4⟩ := a2.getV (e5 ys (L.sqB s h2))
    obtain ⟨L2, S2, dp⟩ := L.newT e2 (.cons (q2.sub s) (.cons (q4.sub s) .nil))
    exact ⟨_, .tuple [d, e], by unfold zipD; rw [List.getElem?_zipWith, q1, q3], L2, S2, dp⟩
def enumD (ds : List D) : List D := ds.mapIdx fun i x => .tuple [.int (i : Nat), x]
theorem src_enum {t : Bool} (h1 : SqB K t B a xs) (a1 : DpAll K B xs ds) : Src K T (IteG K t a) B (enumD ds) yes where
  goes := fun i σ B' H Δ s L _ hi => by
    unfold enumD at hi
    rw [List.length_mapIdx] at hi
    exact ⟨xs, xs[i]'(by rw [a1.length]; omega), L.sqB s h1, by simp⟩
  stops := fun σ B' H Δ s L _ => ⟨xs, L.sqB s h1, by unfold enumD; rw [List.length_mapIdx, a1.length]⟩
  yields := fun i σ B' H Δ x H' s L _ hi ⟨Tp, w, e1, e2, e3, e4⟩ => by
    subst e1 e3
    obtain ⟨d, q1, q2⟩ := a1.getV (e4 xs (L.sqB s h1))
    obtain ⟨L2, S2, dp⟩ := L.newT e2 (.cons (.int _) (.cons (q2.sub s) .nil))
    exact ⟨_, .tuple [.int (i : Nat), d], by unfold enumD; rw [List.getElem?_mapIdx, q1]; rfl, L2, S2, dp⟩
end
abbrev QI := List D → (List En → Prop) → List En → Prop
def tI (K : Frag) (T : List NTab) (Δ : List En) (Q : QI) : TI := fun σ H R => ∃ B, Lc K T σ B H Δ ∧ ∀ J ds I Δ' B' H', Q ds I Δ' → Stp Δ Δ' B H B' H' → Lc K T σ B' H' Δ' → Src K T J B' ds I → R J H'
def DI (T : List NTab) (X : Cx) (Δ : List En) (tg iter : Expr) (Q : QI) : Prop := PI X tg iter (tI X.K T Δ Q)
theorem _root_.L2.PI.weak {X : Cx} {tg e : Expr} {t t' : TI} (h : PI X tg e t) (w : ∀ σ H R, t' σ H R → t σ H R) : PI X tg e t' := ⟨fun pins s σ H R I q => h.run pins s σ H R I (w σ H R q)⟩
section
variable {T : List NTab} {X : Cx} {Δ : List En} {e a b tg : Expr} {Q : QI} {pos p : Pos}
theorem di_tup (h : DE T X Δ e fun d Δ1 => ∃ ds, d = .tuple ds ∧ Q ds yes Δ1) : DI T X Δ tg e Q :=
  PI.weak (pi_tup h) fun σ H R ⟨B, L, k⟩ => ⟨B, L, fun d Δ' v B' H' ⟨ds, e, q⟩ S L' dv => by
    subst e
    cases dv with
    | tup hs al => exact ⟨_, rfl, ⟨_, L'.bh.sqT hs⟩, k _ ds yes Δ' B' H' q S L' (src_tup hs al)⟩⟩
theorem di_lst (h : DE T X Δ e fun d Δ1 => ∃ ds, d = .list ds ∧ Q ds yes Δ1) : DI T X Δ tg e Q :=
  PI.weak (pi_list h) fun σ H R ⟨B, L, k⟩ => ⟨B, L, fun d Δ' v B' H' ⟨ds, e, q⟩ S L' dv => by
    subst e
    cases dv with
    | lst hs al => exact ⟨_, rfl, ⟨_, L'.bh.sqL hs⟩, k _ ds yes Δ' B' H' q S L' (src_list hs al)⟩⟩
theorem di_new (h : DN T X Δ e fun ds Δ1 => Q ds yes Δ1) : DI T X Δ tg e Q := di_lst (de_new (PE.weak h fun σ H R ⟨B, L, k⟩ => ⟨B, L, fun ds Δ' l vs B' H' q => k ds Δ' l vs B' H' ⟨ds, rfl, q⟩⟩))
theorem di_own {i : Nat} {x : Str} {l : Addr} {ds : List D} (hN : X.N[i]? = some x) (hv : Vis X.env.scope x) (hd : Δ[i]? = some (.own l ds)) (q : Q ds (fun Δ => Δ[i]? = some (.own l ds)) Δ)
    (h1 : (x == ("__debug__" : Str)) = false := by decide) (h2 : (x == ("__classdict__" : Str)) = false := by decide) : DI T X Δ tg (.Name x pos) Q :=
  PI.weak (pi_list (pe_var hN hv h1 h2)) fun σ H R ⟨B, L, k⟩ => by
    obtain ⟨e1, e2, vs, e3, e4⟩ := L.mutAt hd
    exact ⟨.ref l, sl_some e1, l, rfl, ⟨_, .inl (.inl e3)⟩, k _ ds _ Δ B H q Stp.refl L (src_own i)⟩
/-- an entry of any sequence kind -/
theorem di_var {i : Nat} {x : Str} {en : En} {t : Bool} {ds : List D} (hN : X.N[i]? = some x) (hv : Vis X.env.scope x) (hd : Δ[i]? = some en) (hs : seqE en = some (t, ds)) (q : ∀ I, (∀ Δ', Δ'[i]? = some en → I Δ') → Q ds I Δ)
    (ht : (∃ l, en = .own l ds) ∨ en = .dat (.list ds)) (h1 : (x == ("__debug__" : Str)) = false := by decide) (h2 : (x == ("__classdict__" : Str)) = false := by decide) : DI T X Δ tg (.Name x pos) Q := by
  rcases ht with ⟨l, e⟩ | e
  · subst e
    exact di_own hN hv hd (q _ fun _ h => h) h1 h2
  · subst e
    exact di_lst (de_var hN hv hd ⟨ds, rfl, q _ fun _ _ => trivial⟩ h1 h2)
theorem di_range1 (hg : Gl X "range") (hm : X.mg "range" = none) (h : DE T X Δ a (isI fun n Δ1 => (0 ≤ n ∧ n < 2 ^ 62) ∧ Q (rgD 0 n.toNat) yes Δ1)) (hs : starEach [a] X.env = (false, eval a X.env) :: starEach [] X.env := by rfl) : DI T X Δ tg (.Call (.Name "range" p) [a] [] pos) Q :=
  PI.weak (pi_range1 hg hm (pa_cons h pa_nil hs) hs) fun σ H R ⟨B, L, k⟩ => ⟨B, L, fun d Δ' v B' H' ⟨n, e, hn, q⟩ S L' dv => by
    subst e
    cases dv
    refine ⟨n, rfl, by omega, by omega, ?_⟩
    have := k _ _ yes Δ' B' H' q S L' src_range
    first
      | exact this
      | (rw [show n - 0 = n by omega]; exact this)⟩
theorem di_range2 (hg : Gl X "range") (hm : X.mg "range" = none) (h : DE T X Δ a (isI fun m Δ1 => DE T X Δ1 b (isI fun n Δ2 => (0 ≤ m ∧ m < 2 ^ 62 ∧ 0 ≤ n ∧ n < 2 ^ 62) ∧ Q (rgD m (n - m).toNat) yes Δ2)))
    (hs : starEach [a, b] X.env = (false, eval a X.env) :: starEach [b] X.env := by rfl) (hs2 : starEach [b] X.env = (false, eval b X.env) :: starEach [] X.env := by rfl) : DI T X Δ tg (.Call (.Name "range" p) [a, b] [] pos) Q :=
  PI.weak (pi_range2 hg hm (pa_cons h (pa_cons (pe_l (T := T)) pa_nil hs2) hs) (hs.trans (by rw [hs2]; rfl)) hs2) fun σ H R ⟨B, L, k⟩ => ⟨B, L, fun d Δ1 v B1 H1 ⟨m, e, h1⟩ S1 L1 dv => ⟨Δ1, _, h1, B1, L1, fun d2 Δ2 v2 B2 H2 ⟨n, e2, hn, q⟩ S2 L2 dv2 => by
    subst e e2
    cases dv; cases dv2
    exact ⟨m, n, rfl, ⟨by omega, by omega, by omega, by omega⟩, k _ _ yes Δ2 B2 H2 q (S1.trans S2) L2 src_range⟩⟩⟩
/-- a tree that is a sequence -/
def seqD : D → Option (Bool × List D)
  | .list ds => some (false, ds)
  | .tuple ds => some (true, ds)
  | _ => none
theorem sqB_of {K : Frag} {B : Hp} {v : V} {d : D} {t : Bool} {ds : List D} (h : Dp K B v d) (e : seqD d = some (t, ds)) : ∃ a xs, v = .ref a ∧ SqB K t B a xs ∧ DpAll K B xs ds := by
  cases h with
  | lst hs al => cases e; exact ⟨_, _, rfl, hs, al⟩
  | tup hs al => cases e; exact ⟨_, _, rfl, hs, al⟩
  | _ => cases e
theorem di_zip {elts : List Expr} {kk : Nat} {tpos : Pos} (hg : Gl X "zip") (hm : X.mg "zip" = none) (h : DE T X Δ a fun x Δ1 => ∃ t ds, seqD x = some (t, ds) ∧ DE T X Δ1 b fun y Δ2 => ∃ u es, seqD y = some (u, es) ∧ Q (zipD ds es) yes Δ2)
    (hs : starEach [a, b] X.env = (false, eval a X.env) :: starEach [b] X.env := by rfl) (hs2 : starEach [b] X.env = (false, eval b X.env) :: starEach [] X.env := by rfl) (hpl : (backTo pos (starEach [b] X.env)).any (·.1) = false := by rfl) : DI T X Δ (.Tuple elts kk tpos) (.Call (.Name "zip" p) [a, b] [] pos) Q :=
  PI.weak (pi_zipG hg hm (pa_cons h (pa_cons (pe_l (T := T)) pa_nil hs2) hs) hs hpl) fun σ H R ⟨B, L, k⟩ => ⟨B, L, fun d Δ1 v B1 H1 ⟨t, ds, e, h1⟩ S1 L1 dv => ⟨Δ1, _, h1, B1, L1, fun d2 Δ2 v2 B2 H2 ⟨u, es, e2, q⟩ S2 L2 dv2 => by
    obtain ⟨a1, xs, rfl, q1, q2⟩ := sqB_of (dv.sub S2.bb) e
    obtain ⟨a2, ys, rfl, q3, q4⟩ := sqB_of dv2 e2
    exact ⟨t, u, a1, a2, xs, ys, rfl, L2.sqB (Sub.refl B2) q1, L2.sqB (Sub.refl B2) q3, k _ _ yes Δ2 B2 H2 q (S1.trans S2) L2 (src_zip q1 q2 q3 q4)⟩⟩⟩
theorem di_enum {elts : List Expr} {kk : Nat} {tpos : Pos} (hg : Gl X "enumerate") (hm : X.mg "enumerate" = none) (h : DE T X Δ a fun x Δ1 => ∃ t ds, seqD x = some (t, ds) ∧ Q (enumD ds) yes Δ1)
    (hs : starEach [a] X.env = [(false, eval a X.env)] := by rfl) (hs2 : starEach [a] X.env = (false, eval a X.env) :: starEach [] X.env := by rfl) : DI T X Δ (.Tuple elts kk tpos) (.Call (.Name "enumerate" p) [a] [] pos) Q :=
  PI.weak (pi_enumG hg hm (pa_cons h pa_nil hs2) hs) fun σ H R ⟨B, L, k⟩ => ⟨B, L, fun d Δ1 v B1 H1 ⟨t, ds, e, q⟩ S1 L1 dv => by
    obtain ⟨a1, xs, rfl, q1, q2⟩ := sqB_of dv e
    exact ⟨t, a1, xs, rfl, L1.sqB (Sub.refl B1) q1, k _ _ yes Δ1 B1 H1 q S1 L1 (src_enum q1 q2)⟩⟩
/-- what a target does with a tree: the entries behind it -/
abbrev FT := D → List En → (List En → Prop) → Prop
def OnlyAt (is : List Nat) (σ σ' : L2.St) : Prop := σ'.length = σ.length ∧ ∀ j, j ∉ is → σ'[j]? = σ[j]?
theorem OnlyAt.trans {is js : List Nat} {σ σ1 σ2 : L2.St} (a : OnlyAt is σ σ1) (b : OnlyAt js σ1 σ2) : OnlyAt (is ++ js) σ σ2 := ⟨b.1.trans a.1, fun j h => (b.2 j fun z => h (List.mem_append_right _ z)).trans (a.2 j fun z => h (List.mem_append_left _ z))⟩
theorem OnlyAt.wipe {is vs : List Nat} {σ σ' : L2.St} (a : OnlyAt is σ σ') (h : ∀ i ∈ is, i ∈ vs) : L2.wipe σ' vs = L2.wipe σ vs := by
  apply List.ext_getElem?
  intro j
  have key : ∀ (σ : L2.St) (vs : List Nat), (L2.wipe σ vs)[j]? = if j ∈ vs then (σ[j]?).map fun _ => none else σ[j]? := by
    intro σ vs
    induction vs with
    | nil => simp [L2.wipe]
    | cons v vs ih =>
      unfold L2.wipe
      by_cases hv : v = j
      · subst hv
        by_cases hl : v < σ.length
        · rw [List.getElem?_set_self (by rw [wipe_length]; exact hl), if_pos List.mem_cons_self, List.getElem?_eq_getElem hl]; rfl
        · rw [List.getElem?_eq_none (by rw [List.length_set, wipe_length]; omega), if_pos List.mem_cons_self, List.getElem?_eq_none (by omega)]; rfl
      · rw [List.getElem?_set_ne hv, ih]
        by_cases hm : j ∈ vs
        · rw [if_pos hm, if_pos (List.mem_cons_of_mem _ hm)]
        · rw [if_neg hm, if_neg (by simp only [List.mem_cons, not_or]; exact ⟨fun e => hv e.symm, hm⟩)]
  rw [key, key]
  by_cases hj : j ∈ vs
  · rw [if_pos hj, if_pos hj]
    by_cases hl : j < σ.length
    · rw [List.getElem?_eq_getElem hl, List.getElem?_eq_getElem (by rw [a.1]; exact hl)]; rfl
    · rw [List.getElem?_eq_none (Nat.le_of_not_lt hl), List.getElem?_eq_none (by rw [a.1]; exact Nat.le_of_not_lt hl)]
  · rw [if_neg hj, if_neg hj]
    exact a.2 j fun z => hj (h j z)
def gF (K : Frag) (T : List NTab) (f : FT) (is : List Nat) : TG := fun v σ H R => ∃ B d Δ, Lc K T σ B H Δ ∧ Dp K B v d ∧ f d Δ fun Δ' => ∀ σ' B' H', Stp Δ Δ' B H B' H' → Lc K T σ' B' H' Δ' → OnlyAt is σ σ' → R σ' H'
def DG (T : List NTab) (X : Cx) (tg : Expr) (f : FT) (is : List Nat) : Prop := PG X tg (gF X.K T f is)
theorem _root_.L2.PG.weak {X : Cx} {tg : Expr} {t t' : TG} (h : PG X tg t) (w : ∀ v σ H R, t' v σ H R → t v σ H R) : PG X tg t' := ⟨fun pins s σ H v u Q I r q => h.run pins s σ H v u Q I r (w v σ H Q q)⟩
abbrev fN (i : Nat) : FT := fun d Δ k => k (Δ.set i (.dat d))
abbrev f2 (f g : FT) : FT := fun d Δ k => ∃ x y, d = .tuple [x, y] ∧ f x Δ fun Δ1 => g y Δ1 k
abbrev f3 (f g h : FT) : FT := fun d Δ k => ∃ x y z, d = .tuple [x, y, z] ∧ f x Δ fun Δ1 => g y Δ1 fun Δ2 => h z Δ2 k
theorem stp_set {Δ : List En} {B H : Hp} {i : Nat} {e : En} (h : ∀ l ds, e = .own l ds → isMut Δ l) : Stp Δ (Δ.set i e) B H B H :=
  ⟨Sub.refl B, fun _ h h' => absurd h h', fun _ h => h, fun _ _ h _ _ => h, fun l ⟨j, ds, q⟩ => by
    by_cases hj : i = j
    · subst hj
      by_cases hl : i < Δ.length
      · rw [List.getElem?_set_self hl] at q; exact h l ds (Option.some.inj q)
      · rw [List.getElem?_eq_none (by simpa using hl)] at q; cases q
    · rw [List.getElem?_set_ne hj] at q; exact ⟨j, ds, q⟩⟩
theorem dg_name {i : Nat} {x : Str} (hN : X.N.Nodup) (hi : X.N[i]? = some x) (hx : Loc X.env.scope x) (hf : X.fn x = true ∨ X.env.scope.names.lookup x = some .local := by first | exact .inl rfl | exact .inr rfl | assumption) : DG T X (.Name x pos) (fN i) [i] :=
  PG.weak (pg_name hN hi hx hf) fun v σ H R ⟨B, d, Δ, L, dv, k⟩ => k _ B H (stp_set fun l ds e => nomatch e) (L.setD dv) ⟨by simp, fun j hj => List.getElem?_set_ne (fun e => hj (by simp [e]))⟩
theorem FT.mono_dummy : True := trivial
/-- f only asks its continuation more -/
def Mono (f : FT) : Prop := ∀ d Δ k k', f d Δ k → (∀ Δ', k Δ' → k' Δ') → f d Δ k'
theorem mono_n (i : Nat) : Mono (fN i) := fun _ _ _ _ h w => w _ h
theorem mono_2 {f g : FT} (hf : Mono f) (hg : Mono g) : Mono (f2 f g) := fun d Δ k k' ⟨x, y, e, h⟩ w => ⟨x, y, e, hf _ _ _ _ h fun _ h1 => hg _ _ _ _ h1 w⟩
theorem mono_3 {f g h : FT} (hf : Mono f) (hg : Mono g) (hh : Mono h) : Mono (f3 f g h) := fun d Δ k k' ⟨x, y, z, e, q⟩ w => ⟨x, y, z, e, hf _ _ _ _ q fun _ h1 => hg _ _ _ _ h1 fun _ h2 => hh _ _ _ _ h2 w⟩
theorem dg_2 {t1 t2 : Expr} {f g : FT} {is js : List Nat} {k : Nat} (hc : X.calm = true) (mf : Mono f) (mg : Mono g) (h1 : DG T X t1 f is) (h2 : DG T X t2 g js) (hs1 : (assignEach [t1, t2] X.env).map (·.2) = assign t1 X.env :: (assignEach [t2] X.env).map (·.2) := by rfl) (hs2 : (assignEach [t2] X.env).map (·.2) = assign t2 X.env :: (assignEach [] X.env).map (·.2) := by rfl)
    (hn : (assignEach [t1, t2] X.env).length = 2 := by rfl) (hst : (assignEach [t1, t2] X.env).findIdx? (·.1) = none := by rfl) : DG T X (.Tuple [t1, t2] k pos) (f2 f g) (is ++ js) :=
  PG.weak (pg_tup hc (pgs_cons h1 (pgs_cons h2 pgs_nil hs2) hs1) hn hst) fun v σ H R ⟨B, d, Δ, L, dv, x, y, e, k⟩ => by
    subst e
    cases dv with
    | @tup a xs _ hs al =>
      cases al with
      | @cons v1 _ _ _ d1 al =>
        cases al with
        | @cons v2 _ _ _ d2 al =>
          cases al
          refine ⟨a, [v1, v2], rfl, L.bh.sqT hs, rfl, v1, [v2], rfl, B, x, Δ, L, d1, mf _ _ _ _ k fun Δ1 k1 σ1 B1 H1 S1 L1 o1 => ?_⟩
          exact ⟨v2, [], rfl, B1, y, Δ1, L1, d2.sub S1.bb, mg _ _ _ _ k1 fun Δ2 k2 σ2 B2 H2 S2 L2 o2 => ⟨rfl, k2 σ2 B2 H2 (S1.trans S2) L2 (o1.trans o2)⟩⟩
theorem dg_3 {t1 t2 t3 : Expr} {f g h : FT} {is js ks : List Nat} {k : Nat} (hc : X.calm = true) (mf : Mono f) (mg : Mono g) (mh : Mono h) (h1 : DG T X t1 f is) (h2 : DG T X t2 g js) (h3 : DG T X t3 h ks) (hs1 : (assignEach [t1, t2, t3] X.env).map (·.2) = assign t1 X.env :: (assignEach [t2, t3] X.env).map (·.2) := by rfl) (hs2 : (assignEach [t2, t3] X.env).map (·.2) = assign t2 X.env :: (assignEach [t3] X.env).map (·.2) := by rfl)
    (hs3 : (assignEach [t3] X.env).map (·.2) = assign t3 X.env :: (assignEach [] X.env).map (·.2) := by rfl) (hn : (assignEach [t1, t2, t3] X.env).length = 3 := by rfl) (hst : (assignEach [t1, t2, t3] X.env).findIdx? (·.1) = none := by rfl) : DG T X (.Tuple [t1, t2, t3] k pos) (f3 f g h) (is ++ (js ++ ks)) :=
  PG.weak (pg_tup hc (pgs_cons h1 (pgs_cons h2 (pgs_cons h3 pgs_nil hs3) hs2) hs1) hn hst) fun v σ H R ⟨B, d, Δ, L, dv, x, y, z, e, k⟩ => by
    subst e
    cases dv with
    | @tup a xs _ hs al =>
      cases al with
      | @cons v1 _ _ _ d1 al =>
        cases al with
        | @cons v2 _ _ _ d2 al =>
          cases al with
          | @cons v3 _ _ _ d3 al =>
            cases al
            refine ⟨a, [v1, v2, v3], rfl, L.bh.sqT hs, rfl, v1, [v2, v3], rfl, B, x, Δ, L, d1, mf _ _ _ _ k fun Δ1 k1 σ1 B1 H1 S1 L1 o1 => ?_⟩
            refine ⟨v2, [v3], rfl, B1, y, Δ1, L1, d2.sub S1.bb, mg _ _ _ _ k1 fun Δ2 k2 σ2 B2 H2 S2 L2 o2 => ?_⟩
            exact ⟨v3, [], rfl, B2, z, Δ2, L2, (d3.sub S1.bb).sub S2.bb, mh _ _ _ _ k2 fun Δ3 k3 σ3 B3 H3 S3 L3 o3 => ⟨rfl, k3 σ3 B3 H3 ((S1.trans S2).trans S3) L3 (o1.trans (o2.trans o3))⟩⟩
def wipeE (Δ : List En) : List Nat → List En
  | [] => Δ
  | v :: vs => (wipeE Δ vs).set v .non
theorem isMut_wipe {Δ : List En} {l : Addr} : ∀ {vs : List Nat}, isMut (wipeE Δ vs) l → isMut Δ l
  | [], h => h
  | v :: vs, ⟨j, ds, e⟩ => by
    unfold wipeE at e
    by_cases hj : v = j
    · subst hj
      by_cases hl : v < (wipeE Δ vs).length
      · rw [List.getElem?_set_self hl] at e; cases e
      · rw [List.getElem?_eq_none (by simpa using hl)] at e; cases e
    · rw [List.getElem?_set_ne hj] at e
      exact isMut_wipe (vs := vs) ⟨j, ds, e⟩
theorem Lc.wipe {K : Frag} {σ : L2.St} {B H : Hp} {Δ : List En} (L : Lc K T σ B H Δ) : ∀ vs : List Nat, Lc K T (L2.wipe σ vs) B H (wipeE Δ vs)
  | [] => L
  | v :: vs => (Lc.wipe L vs).setN
theorem Lc.unwipe {K : Frag} {σ : L2.St} {B H : Hp} {Δ : List En} {vs : List Nat} (L : Lc K T (L2.wipe σ vs) B H Δ) : Lc K T σ B H Δ :=
  ⟨L.bh, L.nt, L.tb, by rw [← L.len, wipe_length], fun i e h => by
    have key : ∀ v, sl (L2.wipe σ vs) i = some v → sl σ i = some v := fun v q => by
      have := (wipe_some (sl_some q)).1
      unfold sl
      rw [this]; rfl
    have q := L.en i e h
    cases e with
    | non => trivial
    | dat d => obtain ⟨v, h1, h2⟩ := q; exact ⟨v, key v h1, h2⟩
    | own l ds => obtain ⟨h1, h2⟩ := q; exact ⟨key _ h1, h2⟩, L.ds⟩
theorem Stp.wipeR {Δ Δ' : List En} {B H B' H' : Hp} (S : Stp Δ Δ' B H B' H') (vs : List Nat) : Stp Δ (wipeE Δ' vs) B H B' H' := ⟨S.bb, S.fr, S.kp, S.hh, fun l h => S.mu l (isMut_wipe h)⟩
/-- a list that is nobody's yet changes -/
theorem Lc.updFree {K : Frag} {σ : L2.St} {B H : Hp} {Δ : List En} {l : Addr} {vs ws : List V} (L : Lc K T σ B H Δ) (hb : B l = none) (nm : ¬ isMut Δ l) (hl : H l = some (.lst vs)) : Lc K T σ B (upd H l (.lst ws)) Δ := by
  refine ⟨fun q o e => ?_, L.nt, ?_, L.len, fun j e hj => ?_, L.ds⟩
  · rw [upd_ne (fun z => by rw [z, hb] at e; cases e)]; exact L.bh q o e
  · intro q hq
    obtain ⟨ps, a1, a2, a3⟩ := L.tb q hq
    refine ⟨ps, ?_, a2, fun pos cv hc => ?_⟩
    · rw [upd_ne (fun z => by rw [z, hl] at a1; cases a1)]; exact a1
    · obtain ⟨c, e1, e2⟩ := a3 pos cv hc
      refine ⟨c, e1, ?_⟩
      rw [upd_ne (fun z => by rw [z, hl] at e2; exact absurd e2 (by unfold LamX.CodeO; simp))]; exact e2
  · refine (L.en j e hj).sub (Sub.refl B) fun l' ds' z => ?_
    subst z
    obtain ⟨_, q2, _⟩ := L.mutAt hj
    exact ⟨q2, fun xs q => by rw [upd_ne (fun z => nm (by rw [← z]; exact ⟨j, ds', hj⟩))]; exact q⟩
theorem Stp.updFree {Δ Δ' : List En} {B H B' H' : Hp} {l : Addr} {o : HO} (S : Stp Δ Δ' B H B' H') (h : H l = none) : Stp Δ Δ' B H B' (upd H' l o) :=
  ⟨S.bb, S.fr, fun a q => by
    by_cases z : a = l
    · subst z; rw [upd_same]; simp
    · rw [upd_ne z]; exact S.kp a q, fun b o' e n m => by rw [upd_ne (ne_of_none e h)]; exact S.hh b o' e n m, S.mu⟩
/-- in every context of the block -/
abbrev AllB (X : Cx) (scope : Scope) (P : Cx → Prop) : Prop := ∀ (s : Shared) (H : Hp) (C : Addr) (cl : List (Str × Addr)) (fp : List Addr), P (X.blk s H scope (compEnvC scope cl C X.env) fp)
def lEB (T : List NTab) (X : Cx) (scope : Scope) (e : Expr) : TE := fun σ H R => ∃ Δ Q, AllB X scope (fun Y => DE T Y Δ e Q) ∧ tD X.K T Δ Q σ H R
def lTB (T : List NTab) (X : Cx) (scope : Scope) (e : Expr) : TT := fun σ H R => ∃ Δ Q, AllB X scope (fun Y => DT T Y Δ e Q) ∧ tT X.K T Δ Q σ H R
theorem pe_lB {scope : Scope} : AllB X scope fun Y => PE Y e (lEB T X scope e) := fun s H C cl fp => ⟨fun pins s2 σ H2 R I ⟨_, _, h, q⟩ => PE.run (h s H C cl fp) pins s2 σ H2 R I q⟩
theorem pt_lB {scope : Scope} : AllB X scope fun Y => PT Y e (lTB T X scope e) := fun s H C cl fp => ⟨fun pins s2 σ H2 R I ⟨_, _, h, q⟩ => PT.run (h s H C cl fp) pins s2 σ H2 R I q⟩
/-- one turn of a comprehension: the tests (none, one), the element -/
def TurnD (T : List NTab) (X : Cx) (scope : Scope) (vs : List Nat) (elt : Expr) (ifs : List Expr) (G : List D → List En → Prop) (acc : List D) (Δ : List En) : Prop :=
  match ifs with
  | [] => AllB X scope fun Y => DE T Y Δ elt fun y Δ5 => G (acc ++ [y]) (wipeE Δ5 vs)
  | [c] => AllB X scope fun Y => DT T Y Δ c fun b Δ4 => (b = true → AllB X scope fun Y => DE T Y Δ4 elt fun y Δ5 => G (acc ++ [y]) (wipeE Δ5 vs)) ∧ (b = false → G acc (wipeE Δ4 vs))
  | _ => False
theorem lc_read {elt iter : Expr} {ifs : List Expr} {scope : Scope} {own : List (Str × Nat)} {f : FT} {is : List Nat} {Q : List D → List En → Prop} (hc : X.calm = true) (hN : X.N.Nodup) (ok : BlkOk X.N X.env.scope scope own) (hl : ifs = [] ∨ ∃ c, ifs = [c]) (mf : Mono f)
    (hg : AllB X scope fun Y => DG T Y tg f is) (his : ∀ i ∈ is, i ∈ own.map (·.2))
    (h : DI T X Δ tg iter fun ds I Δ1 => ∃ G : Nat → List D → List En → Prop, G 0 [] (wipeE Δ1 (own.map (·.2))) ∧ (∀ i acc Δ2, G i acc Δ2 → I Δ2) ∧
      (∀ i d acc Δ2, ds[i]? = some d → G i acc Δ2 → f d Δ2 fun Δ3 => TurnD T X scope (own.map (·.2)) elt ifs (G (i + 1)) acc Δ3) ∧ ds.length ≤ 10000 ∧ ∀ acc Δ2, G ds.length acc Δ2 → Q acc Δ2)
    :
    ∃ tt, (AllB X scope fun Y => PTs Y ifs tt) ∧ ∃ wi, PI X tg iter wi ∧ ∀ σ H R, tN X.K T Δ Q σ H R → tLc wi (gF X.K T f is) tt (lEB T X scope elt) (own.map (·.2)) σ H R := by
  have key : ∀ (tt : TT), (AllB X scope fun Y => PTs Y ifs tt) →
      (∀ σ Δ3 B H (G : List D → List En → Prop) acc (R : Bool → Hp → Prop), Lc X.K T σ B H Δ3 → TurnD T X scope (own.map (·.2)) elt ifs G acc Δ3 →
        (∀ b Δ4 B' H', Stp Δ3 Δ4 B H B' H' → Lc X.K T σ B' H' Δ4 → (b = true → AllB X scope fun Y => DE T Y Δ4 elt fun y Δ5 => G (acc ++ [y]) (wipeE Δ5 (own.map (·.2)))) → (b = false → G acc (wipeE Δ4 (own.map (·.2)))) → R b H') → tt σ H R) →
      ∃ tt, (AllB X scope fun Y => PTs Y ifs tt) ∧ ∃ wi, PI X tg iter wi ∧ ∀ σ H R, tN X.K T Δ Q σ H R → tLc wi (gF X.K T f is) tt (lEB T X scope elt) (own.map (·.2)) σ H R := fun tt ht htt => by
    refine ⟨tt, ht, _, h, fun σ H R ⟨B, L, k⟩ => ⟨B, L, fun J ds I Δ1 B1 H1 ⟨G, g0, gI, gs, gn, gd⟩ S1 L1 src Dl hDl => ?_⟩⟩
    have hDl0 : H Dl = none := by
      cases z : H Dl with
      | none => rfl
      | some o => exact absurd hDl (S1.kp Dl (by rw [z]; simp))
    obtain ⟨L1', S1', nm1, nb1⟩ := L1.newM (xs := []) hDl
    refine ⟨fun i m H' => m = ds.length - i ∧ i ≤ ds.length ∧ ∃ B' Δ2 vs' acc, Lc X.K T (L2.wipe σ (own.map (·.2))) B' H' Δ2 ∧ Stp Δ Δ2 B H B' H' ∧ Sub B1 B' ∧ B' Dl = none ∧ H' Dl = some (.lst vs') ∧ DpAll X.K B' vs' acc ∧ acc.length ≤ i ∧ G i acc Δ2,
      ⟨_, rfl, Nat.zero_le _, B1, _, [], [], L1'.wipe _, (S1.trans S1').wipeR _, Sub.refl B1, nb1, upd_same, .nil, Nat.le_refl _, g0⟩, ?_⟩
    rintro i m H' ⟨rfl, hi, B', Δ2, vs', acc, Lw, Sw, sb, bD, hD, al, hz, hG⟩
    have nmD : ∀ {Δ' : List En} {B'' H'' : Hp}, Stp Δ Δ' B H B'' H'' → ¬ isMut Δ' Dl := fun S z => L.mutNe (S.mu _ z) hDl0
    by_cases hlt : i < ds.length
    · refine .inr ⟨src.goes i _ B' H' Δ2 sb Lw (gI i acc Δ2 hG) hlt, fun H2 => ∃ B' Δ2 vs' acc, Lc X.K T (L2.wipe σ (own.map (·.2))) B' H2 Δ2 ∧ Stp Δ Δ2 B H B' H2 ∧ Sub B1 B' ∧ B' Dl = none ∧ H2 Dl = some (.lst vs') ∧ DpAll X.K B' vs' acc ∧ acc.length ≤ i + 1 ∧ G (i + 1) acc Δ2,
        fun H2 q => ⟨ds.length - (i + 1), by omega, rfl, hlt, q⟩, fun x H2 hy => ?_⟩
      obtain ⟨B2, d, hd, L2', S2, dx⟩ := src.yields i _ B' H' Δ2 x H2 sb Lw (gI i acc Δ2 hG) hlt hy
      refine ⟨B2, d, Δ2, L2', dx, mf _ _ _ _ (gs i d acc Δ2 hd hG) fun Δ3 ht3 σ2 B3 H3 S3 L3 oa => ?_⟩
      have ew := oa.wipe his
      have ew2 : L2.wipe (L2.wipe σ (own.map (·.2))) (own.map (·.2)) = L2.wipe σ (own.map (·.2)) := by
        refine OnlyAt.wipe (is := own.map (·.2)) ⟨wipe_length _ _, fun j hj => ?_⟩ fun i h => h
        have key : ∀ (vs : List Nat), j ∉ vs → (L2.wipe σ vs)[j]? = σ[j]? := by
          intro vs
          induction vs with
          | nil => intro _; rfl
          | cons v vs ih =>
            intro hm
            simp only [List.mem_cons, not_or] at hm
            unfold L2.wipe
            rw [List.getElem?_set_ne (fun e => hm.1 e.symm)]
            exact ih hm.2
        exact key _ hj
      refine ⟨ew.trans ew2, ?_⟩
      have ew3 := ew.trans ew2
      have fin : ∀ {Δ5 : List En} {B5 H5 : Hp}, Stp Δ2 Δ5 B' H' B5 H5 → H5 Dl = some (.lst vs') ∧ B5 Dl = none := fun {Δ5 B5 H5} S => by
        refine ⟨S.hh Dl _ hD noTbl_lst (nmD Sw), ?_⟩
        cases q : B5 Dl with
        | none => rfl
        | some o =>
          have := S.fr Dl bD (by rw [q]; simp)
          rw [hD] at this; cases this
      refine htt σ2 Δ3 B3 H3 (G (i + 1)) acc _ L3 ht3 fun b Δ4 B4 H4 S4 L4 q1 q2 => ?_
      have S24 := (S2.trans S3).trans S4
      cases b with
      | true =>
        rw [if_pos rfl]
        refine ⟨Δ4, _, q1 rfl, B4, L4, fun y Δ5 v B5 H5 g S5 L5 dv => ?_⟩
        have S25 := S24.trans S5
        obtain ⟨f1, f2⟩ := fin S25
        have L6 := (L5.updFree (ws := vs' ++ [v]) f2 (nmD (Sw.trans S25)) f1).wipe (own.map (·.2))
        rw [ew3] at L6
        refine ⟨vs', f1, by rw [al.length]; exact Nat.lt_of_le_of_lt hz (Nat.lt_of_lt_of_le hlt (Nat.le_trans gn (by decide))), B5, wipeE Δ5 (own.map (·.2)), vs' ++ [v], acc ++ [y], L6, ((Sw.trans S25).wipeR _).updFree hDl0, sb.trans S25.bb, f2, upd_same, (al.sub S25.bb).snoc dv, ?_, g⟩
        rw [List.length_append]
        exact Nat.succ_le_succ hz
      | false =>
        rw [if_neg Bool.false_ne_true]
        obtain ⟨f1, f2⟩ := fin S24
        have L6 := L4.wipe (own.map (·.2))
        rw [ew3] at L6
        exact ⟨B4, wipeE Δ4 (own.map (·.2)), vs', acc, L6, (Sw.trans S24).wipeR _, sb.trans S24.bb, f2, f1, al.sub S24.bb, Nat.le_succ_of_le hz, q2 rfl⟩
    · have e : i = ds.length := by omega
      subst e
      refine .inl ⟨src.stops _ B' H' Δ2 sb Lw (gI _ acc Δ2 hG), ?_⟩
      exact k acc Δ2 Dl vs' B' H' (gd acc Δ2 hG) Sw Lw.unwipe hDl0 hD bD (nmD Sw) al
  rcases hl with e | ⟨c, e⟩
  · subst e
    exact key tYes (fun _ _ _ _ _ => pts_nil) fun σ Δ3 B H G acc R L3 ht k => k true Δ3 B H Stp.refl L3 (fun _ => ht) (fun z => nomatch z)
  · subst e
    exact key (lTB T X scope c) (fun s H C cl fp => pts_one (pt_lB s H C cl fp)) fun σ Δ3 B H G acc R L3 ht k => ⟨Δ3, _, ht, B, L3, fun b Δ4 B' H' ⟨q1, q2⟩ S L' => k b Δ4 B' H' S L' q1 q2⟩
theorem dn_lc {elt iter : Expr} {ifs : List Expr} {scope : Scope} {own : List (Str × Nat)} {f : FT} {is : List Nat} {Q : List D → List En → Prop} (hc : X.calm = true) (hN : X.N.Nodup) (ok : BlkOk X.N X.env.scope scope own) (hl : ifs = [] ∨ ∃ c, ifs = [c]) (mf : Mono f)
    (hg : AllB X scope fun Y => DG T Y tg f is) (his : ∀ i ∈ is, i ∈ own.map (·.2))
    (h : DI T X Δ tg iter fun ds I Δ1 => ∃ G : Nat → List D → List En → Prop, G 0 [] (wipeE Δ1 (own.map (·.2))) ∧ (∀ i acc Δ2, G i acc Δ2 → I Δ2) ∧
      (∀ i d acc Δ2, ds[i]? = some d → G i acc Δ2 → f d Δ2 fun Δ3 => TurnD T X scope (own.map (·.2)) elt ifs (G (i + 1)) acc Δ3) ∧ ds.length ≤ 10000 ∧ ∀ acc Δ2, G ds.length acc Δ2 → Q acc Δ2)
    (hs : ∀ x, foldedSetIterable iter X.env x = pure x := by intro _; rfl) : DN T X Δ (.ListComp elt [⟨tg, iter, ifs, 0⟩] scope pos) Q := by
  obtain ⟨tt, ht, wi, hi, w⟩ := lc_read (elt := elt) hc hN ok hl mf hg his h
  have hg' : AllB X scope fun Y => PG Y tg (gF X.K T f is) := hg
  exact PE.weak (pe_lc hc hN hi ok hg' ht (pe_lB (T := T)) hs) w
/-- each item gives one -/
theorem lc_map {α : Type} {f : FT} {elt : Expr} {scope : Scope} {vs : List Nat} {Q : List D → List En → Prop} {ds : List D} {I : List En → Prop} {Δ1 : List En} (xs : List α) (g h : α → D) (Δw : List En) (hw : wipeE Δ1 vs = Δw) (hI : I Δw) (hds : ds = xs.map g) (mf : Mono f)
    (ht : ∀ x ∈ xs, f (g x) Δw fun Δ3 => AllB X scope fun Y => DE T Y Δ3 elt fun y Δ5 => y = h x ∧ wipeE Δ5 vs = Δw) (hz : xs.length ≤ 10000) (q : Q (xs.map h) Δw) :
    ∃ G : Nat → List D → List En → Prop, G 0 [] (wipeE Δ1 vs) ∧ (∀ i acc Δ2, G i acc Δ2 → I Δ2) ∧
      (∀ i d acc Δ2, ds[i]? = some d → G i acc Δ2 → f d Δ2 fun Δ3 => TurnD T X scope vs elt [] (G (i + 1)) acc Δ3) ∧ ds.length ≤ 10000 ∧ ∀ acc Δ2, G ds.length acc Δ2 → Q acc Δ2 := by
  subst hds
  refine ⟨fun i acc Δ2 => acc = (xs.take i).map h ∧ Δ2 = Δw, ⟨by simp, hw⟩, fun i acc Δ2 e => by rw [e.2]; exact hI, fun i d acc Δ2 hd ⟨e1, e2⟩ => ?_, by simpa using hz, fun acc Δ2 ⟨e1, e2⟩ => ?_⟩
  · subst e1 e2
    rw [List.getElem?_map] at hd
    cases hx : xs[i]? with
    | none => rw [hx] at hd; cases hd
    | some x =>
      rw [hx] at hd
      cases hd
      refine mf _ _ _ _ (ht x (List.mem_of_getElem? hx)) fun Δ3 q3 s H C cl fp => (q3 s H C cl fp).mono fun y Δ5 ⟨e3, e4⟩ => ⟨?_, e4⟩
      subst e3
      rw [List.take_add_one, hx, List.map_append]; rfl
  · subst e1 e2
    rw [List.length_map, List.take_length]
    exact q
/-- some items give one -/
theorem lc_fil {α : Type} {f : FT} {elt c : Expr} {scope : Scope} {vs : List Nat} {Q : List D → List En → Prop} {ds : List D} {I : List En → Prop} {Δ1 : List En} (xs : List α) (g h : α → D) (p : α → Bool) (Δw : List En) (hw : wipeE Δ1 vs = Δw) (hI : I Δw) (hds : ds = xs.map g) (mf : Mono f)
    (ht : ∀ x ∈ xs, f (g x) Δw fun Δ3 => AllB X scope fun Y => DT T Y Δ3 c fun b Δ4 => b = p x ∧ (p x = true → AllB X scope fun Y => DE T Y Δ4 elt fun y Δ5 => y = h x ∧ wipeE Δ5 vs = Δw) ∧ (p x = false → wipeE Δ4 vs = Δw)) (hz : xs.length ≤ 10000) (q : Q ((xs.filter p).map h) Δw) :
    ∃ G : Nat → List D → List En → Prop, G 0 [] (wipeE Δ1 vs) ∧ (∀ i acc Δ2, G i acc Δ2 → I Δ2) ∧
      (∀ i d acc Δ2, ds[i]? = some d → G i acc Δ2 → f d Δ2 fun Δ3 => TurnD T X scope vs elt [c] (G (i + 1)) acc Δ3) ∧ ds.length ≤ 10000 ∧ ∀ acc Δ2, G ds.length acc Δ2 → Q acc Δ2 := by
  subst hds
  refine ⟨fun i acc Δ2 => acc = ((xs.take i).filter p).map h ∧ Δ2 = Δw, ⟨by simp, hw⟩, fun i acc Δ2 e => by rw [e.2]; exact hI, fun i d acc Δ2 hd ⟨e1, e2⟩ => ?_, by simpa using hz, fun acc Δ2 ⟨e1, e2⟩ => ?_⟩
  · subst e1 e2
    rw [List.getElem?_map] at hd
    cases hx : xs[i]? with
    | none => rw [hx] at hd; cases hd
    | some x =>
      rw [hx] at hd
      cases hd
      have et : (xs.take (i + 1)).filter p = (xs.take i).filter p ++ (if p x = true then [x] else []) := by
        rw [List.take_add_one, hx, List.filter_append]
        show _ ++ [x].filter p = _
        by_cases hp : p x = true
        · rw [if_pos hp, List.filter_cons, if_pos hp]; rfl
        · rw [if_neg hp, List.filter_cons, if_neg hp]; rfl
      refine mf _ _ _ _ (ht x (List.mem_of_getElem? hx)) fun Δ3 q3 s H C cl fp => (q3 s H C cl fp).mono fun b Δ4 ⟨e3, e4, e5⟩ => ⟨fun hb s H C cl fp => ?_, fun hb => ?_⟩
      · rw [e3] at hb
        refine (e4 hb s H C cl fp).mono fun y Δ5 ⟨e6, e7⟩ => ⟨?_, e7⟩
        subst e6
        rw [et, if_pos hb, List.map_append]; rfl
      · rw [e3] at hb
        refine ⟨?_, e5 hb⟩
        rw [et, if_neg (by rw [hb]; decide), List.append_nil]
  · subst e1 e2
    rw [List.length_map, List.take_length]
    exact q
end
end DL

set_option Elab.async false
set_option linter.all false
set_option maxRecDepth 100000
set_option maxHeartbeats 4000000
namespace DL
open PySem PySem.Spec PyProof.Rows L2 NdefX
def rCatG (K : Frag) : R2 := fun x y H Q => ∃ l b xs zs, x = .ref l ∧ y = .ref b ∧ SqL K H l xs ∧ SqL K H b zs ∧ xs.length + zs.length ≤ sizeLine ∧ ∀ p, H p = none → Q (.ref p) (upd H p (.lst (xs ++ zs)))
theorem op_catG {X : Cx} : OpR X (binaryOp .Add) (rCatG X.K) := by
  intro pins s σ H x y v u Q I rx ry h
  obtain ⟨l, b, xs, zs, rfl, rfl, hH, hB, hz, q⟩ := h
  cases rx
  cases ry
  obtain ⟨its, r, p1, z1⟩ := I.list hH
  obtain ⟨its2, r2, p2, z2⟩ := I.list hB
  obtain ⟨⟨cls, dd, data, sl⟩, n, ho, hc, _, hd⟩ := p1
  obtain ⟨⟨cls2, dd2, data2, sl2⟩, n2, ho2, hc2, _, hd2⟩ := p2
  simp only at hc hd hc2 hd2
  subst hc hd hc2 hd2
  have ea : its.toArray ++ its2.toArray = (its ++ its2).toArray := by simp
  have l1 := r.length
  have l2 := r2.length
  refine concat_meets ⟨_, ho, rfl⟩ ⟨_, ho2, rfl⟩ noFill_list_add seq_list_add PySem.F.slot_list_add PySem.F.entry_list_add (PySem.F.args_list_add_2 _ _) (list_addW l b its.toArray its2.toArray n n2 dd dd2 sl sl2 (by simp only [List.size_toArray]; omega)) ⟨ho, ho2, ?_⟩
  rw [ea]
  exact ⟨.ref _, _, I.lnew (t' := s.toks) (r.append r2) (by rw [List.length_append]; omega), rfl, q _ I.fresh⟩
section
variable {T : List NTab} {X : Cx} {Δ : List En} {e a b : Expr} {es : List Expr} {Q : QD} {pos p : Pos}
theorem free_back {B H B' H' : Hp} {Δ Δ' : List En} (S : Stp Δ Δ' B H B' H') {q : Addr} (h : H' q = none) : H q = none := by
  cases z : H q with
  | none => rfl
  | some o => exact absurd h (S.kp q (by rw [z]; simp))
def lS (T : List NTab) (X : Cx) (e : Expr) : TE := fun σ H R => ∃ Δ Q, DS T X Δ e Q ∧ tS X.K T Δ Q σ H R
theorem ps_l : PE X e (lS T X e) := ⟨fun pins s σ H R I ⟨_, _, h, q⟩ => PE.run h pins s σ H R I q⟩
/-- len -/
theorem de_len (hg : Gl X "len") (hm : X.mg "len" = none) (h : DS T X Δ e fun t ds Δ1 => Q (.int ds.length) Δ1) (hs : starEach [e] X.env = (false, eval e X.env) :: starEach [] X.env := by rfl) (hpl : (backTo pos (starEach [] X.env)).any (·.1) = false := by rfl) : DE T X Δ (.Call (.Name "len" p) [e] [] pos) Q :=
  PE.weak (pe_callB call_len_seq hg hm PySem.boot_len (pa_cons h pa_nil hs) (by decide) (by decide) hs hpl) fun σ H R ⟨B, L, k⟩ => ⟨B, L, fun t ds Δ' a vs B' H' q S L' hs al => ⟨a, vs, rfl, by
    cases t with
    | true => exact .inr (L'.bh.sqT hs)
    | false => exact .inl hs, by rw [al.length]; exact k _ Δ' _ B' H' q S L' (.int _)⟩⟩
/-- tuple(x) -/
theorem de_tuple (hg : Gl X "tuple") (hm : X.mg "tuple" = none) (h : DS T X Δ e fun t ds Δ1 => Q (.tuple ds) Δ1) (hs : starEach [e] X.env = (false, eval e X.env) :: starEach [] X.env := by rfl) (hpl : (backTo pos (starEach [] X.env)).any (·.1) = false := by rfl) : DE T X Δ (.Call (.Name "tuple" p) [e] [] pos) Q :=
  PE.weak (pe_callTy call_tuple_of hg hm (by decide +kernel) (pa_cons h pa_nil hs) (by decide) (by decide) hs hpl) fun σ H R ⟨B, L, k⟩ => ⟨B, L, fun t ds Δ' a vs B' H' q S L' hs al => by
    cases t with
    | true => exact ⟨a, vs, rfl, .inr ⟨L'.bh.sqT hs, k _ Δ' _ B' H' q S L' (.tup hs al)⟩⟩
    | false =>
      refine ⟨a, vs, rfl, .inl ⟨hs, fun l hl => ?_⟩⟩
      obtain ⟨L2, S2, dp⟩ := L'.newT hl al
      exact k _ Δ' _ _ _ q (S.trans S2) L2 dp⟩
/-- list(x) -/
theorem dn_list {Q : List D → List En → Prop} (hg : Gl X "list") (hm : X.mg "list" = none) (h : DS T X Δ e fun t ds Δ1 => Q ds Δ1) (hs : starEach [e] X.env = (false, eval e X.env) :: starEach [] X.env := by rfl) (hpl : (backTo pos (starEach [] X.env)).any (·.1) = false := by rfl) : DN T X Δ (.Call (.Name "list" p) [e] [] pos) Q :=
  PE.weak (pe_callTy call_list_of hg hm (by decide +kernel) (pa_cons h pa_nil hs) (by decide) (by decide) hs hpl) fun σ H R ⟨B, L, k⟩ => ⟨B, L, fun t ds Δ' a vs B' H' q S L' hs al => ⟨a, vs, rfl, by
    cases t with
    | true => exact .inr (L'.bh.sqT hs)
    | false => exact .inl hs, fun l hl => by
      obtain ⟨L2, S2, nm, nb⟩ := L'.newM (xs := vs) hl
      exact k ds Δ' l vs _ _ q (S.trans S2) L2 (free_back S hl) upd_same nb nm al⟩⟩
/-- list(range(n)) -/
theorem dn_listRg {Q : List D → List En → Prop} {p2 pos2 : Pos} (hc : X.calm = true) (hg : Gl X "list") (hm : X.mg "list" = none) (hg2 : Gl X "range") (hm2 : X.mg "range" = none) (h : DE T X Δ e (isI fun n Δ1 => (0 ≤ n ∧ n ≤ 10000) ∧ Q (rgD 0 n.toNat) Δ1))
    (na : starEach [e] X.env = (false, eval e X.env) :: starEach [] X.env := by rfl) (na2 : starEach [.Call (.Name "range" p2) [e] [] pos2] X.env = (false, eval (.Call (.Name "range" p2) [e] [] pos2) X.env) :: starEach [] X.env := by rfl) : DN T X Δ (.Call (.Name "list" p) [.Call (.Name "range" p2) [e] [] pos2] [] pos) Q :=
  PE.weak (pe_listRg hc hg hm (prg_1 hg2 hm2 h na) na2) fun σ H R ⟨B, L, k⟩ => ⟨B, L, fun d Δ' v B' H' ⟨n, e, hn, q⟩ S L' dv => by
    subst e
    cases dv
    refine ⟨n, rfl, RgOk.of_le (by omega) (by omega) (by omega) (by omega), fun l hl => ?_⟩
    obtain ⟨L2, S2, nm, nb⟩ := L'.newM (xs := rgV 0 n) hl
    have al : DpAll X.K B' (rgV 0 n) (rgD 0 n.toNat) := by
      unfold rgV rgD
      rw [show (n - 0) = n by omega]
      generalize List.range n.toNat = is
      induction is with
      | nil => exact .nil
      | cons i is ih => exact .cons (.int _) ih
    exact k _ Δ' l _ _ _ q (S.trans S2) L2 (free_back S hl) upd_same nb nm al⟩
/-- sum, all, any of a list -/
theorem de_sum (hc : X.calm = true) (hg : Gl X "sum") (hm : X.mg "sum" = none) (h : DS T X Δ e fun t ds Δ1 => t = false ∧ ∃ ns : List Int, ds = ns.map .int ∧ Q (.int ns.sum) Δ1) (hs : starEach [e] X.env = (false, eval e X.env) :: starEach [] X.env := by rfl) (hpl : (backTo pos (starEach [] X.env)).any (·.1) = false := by rfl) : DE T X Δ (.Call (.Name "sum" p) [e] [] pos) Q :=
  PE.weak (pe_callB (cr_sum hc) hg hm (by decide +kernel) (pa_cons h pa_nil hs) (by decide) (by decide) hs hpl) fun σ H R ⟨B, L, k⟩ => ⟨B, L, fun t ds Δ' a vs B' H' ⟨ht, ns, e, q⟩ S L' hs al => by
    subst ht e
    have hs : SqL X.K H' a vs := hs
    rw [al.ints] at hs
    exact ⟨a, ns, rfl, hs, k _ Δ' _ B' H' q S L' (.int _)⟩⟩
theorem de_all (hc : X.calm = true) (hg : Gl X "all") (hm : X.mg "all" = none) (h : DS T X Δ e fun t ds Δ1 => t = false ∧ ∃ ns : List Bool, ds = ns.map .bool ∧ Q (.bool (ns.all id)) Δ1) (hs : starEach [e] X.env = (false, eval e X.env) :: starEach [] X.env := by rfl) (hpl : (backTo pos (starEach [] X.env)).any (·.1) = false := by rfl) : DE T X Δ (.Call (.Name "all" p) [e] [] pos) Q :=
  PE.weak (pe_callB (cr_all hc) hg hm (by decide +kernel) (pa_cons h pa_nil hs) (by decide) (by decide) hs hpl) fun σ H R ⟨B, L, k⟩ => ⟨B, L, fun t ds Δ' a vs B' H' ⟨ht, ns, e, q⟩ S L' hs al => by
    subst ht e
    have hs : SqL X.K H' a vs := hs
    rw [al.bls] at hs
    exact ⟨a, ns, rfl, hs, k _ Δ' _ B' H' q S L' (.bl _)⟩⟩
theorem de_any (hc : X.calm = true) (hg : Gl X "any") (hm : X.mg "any" = none) (h : DS T X Δ e fun t ds Δ1 => t = false ∧ ∃ ns : List Bool, ds = ns.map .bool ∧ Q (.bool (ns.any id)) Δ1) (hs : starEach [e] X.env = (false, eval e X.env) :: starEach [] X.env := by rfl) (hpl : (backTo pos (starEach [] X.env)).any (·.1) = false := by rfl) : DE T X Δ (.Call (.Name "any" p) [e] [] pos) Q :=
  PE.weak (pe_callB (cr_any hc) hg hm (by decide +kernel) (pa_cons h pa_nil hs) (by decide) (by decide) hs hpl) fun σ H R ⟨B, L, k⟩ => ⟨B, L, fun t ds Δ' a vs B' H' ⟨ht, ns, e, q⟩ S L' hs al => by
    subst ht e
    have hs : SqL X.K H' a vs := hs
    rw [al.bls] at hs
    exact ⟨a, ns, rfl, hs, k _ Δ' _ B' H' q S L' (.bl _)⟩⟩
/-- any of a tuple of ints: one is not 0 -/
theorem truth_ints {prog : Program} {w : World} {A : Around} {ns : List Int} {its : List Value} (e : IntsAre its ns) :
    TruthOf prog w A (fun i v => its.toArray[i]? = some v) (fun i => (ns.map fun n => n != 0).getD i false) := fun i v s Q E hv hq => by
  have hv' : its[i]? = some v := by simpa using hv
  have : ∀ {its : List Value} {ns : List Int} {i : Nat} {v : Value}, IntsAre its ns → its[i]? = some v → ∃ n t, ns[i]? = some n ∧ v = .int n t := by
    intro its ns i v e hv
    induction e generalizing i with
    | nil => simp at hv
    | cons n t h ih =>
      cases i with
      | zero => simp at hv; exact ⟨n, t, rfl, hv.symm⟩
      | succ i => exact ih (by simpa using hv)
  obtain ⟨n, t, hn, rfl⟩ := this e hv'
  have hg : (ns.map fun n => n != 0).getD i false = (n != 0) := by rw [List.getD_eq_getElem?_getD, List.getElem?_map, hn] <;> rfl
  have hq' : Q ((ns.map fun n => n != 0).getD i false) s := hq
  rw [hg] at hq'
  exact PySem.P.truthy_int hq'
theorem iter_anyT {prog : Program} {w : World} {A : Around} {E : Value → Shared → Prop} {s : Shared} {l : Addr} {items : Array Value} {Q : Value → Shared → Prop} (hl : s.heap.IsTuple l items)
    (h : ∀ s₂ : Shared, s₂ = { s with heap := s.heap.push { cls := .type "tuple_iterator", data := .fields #[.ref l, .int 0 0] } } →
      (s₂.heap.IsTupleIter s.heap.objs.size l 0 ∧ s₂.heap.IsTuple l items) → l ≠ s.heap.objs.size → Q (.ref s.heap.objs.size) s₂) : wpAny (model prog w) A (pyIter (.ref l)) Q E s := by
  have hlt : l < s.heap.objs.size := by obtain ⟨_, e, _⟩ := hl; exact Heap.lt_size e
  exact wpAny_pyIter_tuple hl (h _ rfl ⟨⟨_, Heap.get?_push_size _ rfl, rfl, rfl⟩, hl.at fun o e => Heap.get?_push_of_some _ e⟩ (Nat.ne_of_lt hlt))
def rAnyT (K : Frag) : List V → Hp → VK → Prop := fun vs H Q => ∃ (a : Addr) (ns : List Int), vs = [V.ref a] ∧ SqT K H a (ns.map V.int) ∧ Q (.bl (ns.any fun n => n != 0)) H
theorem cr_anyT (hc : X.calm = true) : CallR X (.builtin "any") (rAnyT X.K) := by
  intro pins s σ H vs us Q I r h
  obtain ⟨a, bs, rfl, hs, q⟩ := h
  obtain ⟨its, rv, hl, _⟩ := I.tuple hs
  rw [Vals.ref1 r]
  have hb := rv.ints
  have hlen := rv.length
  refine call_any_walk (iter_anyT (show s.heap.IsTuple a its.toArray from hl) fun s₂ e2 st hne => ?_)
  subst e2
  refine ⟨_, _, _, _, _, _, _, rfl, Walks.tuple (A := X.A.in1) (I.ok.hd hc) _ a hne its.toArray, st, truth_ints hb, fun h' tk hk => ?_⟩
  refine ⟨.bl _, H, I.kept fun b o eo => hk b o (fun hmem => ?_) (Heap.get?_push_of_some _ eo), ?_, q⟩
  · rcases List.mem_cons.mp hmem with e1 | hmem
    · exact absurd (e1 ▸ Heap.lt_size eo) (Nat.lt_irrefl _)
    · cases hmem
  · show Value.bool _ = Value.bool _
    have := any_range (bs.map fun n => n != 0)
    rw [List.length_map] at this
    rw [List.size_toArray, ← hlen, List.length_map, this, List.any_map]
    rfl
theorem de_anyT (hc : X.calm = true) (hg : Gl X "any") (hm : X.mg "any" = none) (h : DE T X Δ e fun d Δ1 => ∃ ns : List Int, d = .tuple (ns.map .int) ∧ Q (.bool (ns.any fun n => n != 0)) Δ1) (hs : starEach [e] X.env = (false, eval e X.env) :: starEach [] X.env := by rfl) (hpl : (backTo pos (starEach [] X.env)).any (·.1) = false := by rfl) : DE T X Δ (.Call (.Name "any" p) [e] [] pos) Q :=
  PE.weak (pe_callB (cr_anyT hc) hg hm (by decide +kernel) (pa_cons h pa_nil hs) (by decide) (by decide) hs hpl) fun σ H R ⟨B, L, k⟩ => ⟨B, L, fun d Δ' v B' H' ⟨ns, e, q⟩ S L' dv => by
    subst e
    cases dv with
    | tup hs al =>
      rw [al.ints] at hs
      exact ⟨_, ns, rfl, L'.bh.sqT hs, k _ Δ' _ B' H' q S L' (.bl _)⟩⟩
/-- int(x) -/
def intD : D → Option Int
  | .int i => some i
  | .bool b => some (if b then 1 else 0)
  | _ => none
theorem de_intC (hg : Gl X "int") (hm : X.mg "int" = none) (h : DE T X Δ e fun d Δ1 => ∃ i, intD d = some i ∧ Q (.int i) Δ1) (hs : starEach [e] X.env = (false, eval e X.env) :: starEach [] X.env := by rfl) (hpl : (backTo pos (starEach [] X.env)).any (·.1) = false := by rfl) : DE T X Δ (.Call (.Name "int" p) [e] [] pos) Q :=
  de_callTy call_int1 hg hm (by decide +kernel) (dd_cons (h.mono fun d Δ1 ⟨i, e, q⟩ => dd_nil fun σ B H vs R L al k => by
    cases al with
    | cons dv al =>
      cases al
      cases dv with
      | int j => cases e; exact .inl ⟨_, rfl, k _ Δ1 _ B H q Stp.refl L (.int _)⟩
      | bl b => cases e; exact .inr ⟨_, rfl, k _ Δ1 _ B H q Stp.refl L (.int _)⟩
      | _ => cases e) hs) (by decide) (by decide) hs hpl
/-- abs, min, divmod -/
theorem de_abs (hg : Gl X "abs") (hm : X.mg "abs" = none) (h : DE T X Δ e (isI fun i Δ1 => Q (.int (if i < 0 then -i else i)) Δ1)) (hs : starEach [e] X.env = (false, eval e X.env) :: starEach [] X.env := by rfl) (hpl : (backTo pos (starEach [] X.env)).any (·.1) = false := by rfl) : DE T X Δ (.Call (.Name "abs" p) [e] [] pos) Q :=
  de_callB call_abs hg hm (by decide +kernel) (dd_cons (h.mono fun d Δ1 ⟨i, e, q⟩ => dd_nil fun σ B H vs R L al k => by
    subst e
    cases al with
    | cons dv al => cases al; cases dv; exact ⟨i, rfl, k _ Δ1 _ B H q Stp.refl L (.int _)⟩) hs) (by decide) (by decide) hs hpl
theorem de_min (hc : X.calm = true) (hg : Gl X "min") (hm : X.mg "min" = none) (h : DE T X Δ a (isI fun i Δ1 => DE T X Δ1 b (isI fun j Δ2 => Q (.int (if j < i then j else i)) Δ2))) (hs : starEach [a, b] X.env = (false, eval a X.env) :: starEach [b] X.env := by rfl) (hs2 : starEach [b] X.env = (false, eval b X.env) :: starEach [] X.env := by rfl) (hpl : (backTo pos (starEach [b] X.env)).any (·.1) = false := by rfl) : DE T X Δ (.Call (.Name "min" p) [a, b] [] pos) Q :=
  de_callB (call_min2 hc) hg hm (by decide +kernel) (dd_cons (h.mono fun d Δ1 ⟨i, e, h1⟩ => dd_cons (h1.mono fun d2 Δ2 ⟨j, e2, q⟩ => dd_nil fun σ B H vs R L al k => by
    subst e e2
    cases al with
    | cons dv al => cases al with
      | cons dv2 al => cases al; cases dv; cases dv2; exact ⟨i, j, rfl, k _ Δ2 _ B H q Stp.refl L (.int _)⟩) hs2) hs) (by decide) (by decide) hs hpl
theorem call_divmodB : CallR X (.builtin "divmod") (fun xs H Q => ∃ i j, xs = [.int i, .int j] ∧ CDivB i j ∧ ∀ p, H p = none → Q (.ref p) (upd H p (.tup [.int (i.fdiv j), .int (i.fmod j)]))) := by
  intro pins s σ H xs us Q I r h
  obtain ⟨i, j, rfl, ⟨h1, h2⟩, q⟩ := h
  obtain ⟨u, w', rfl, ⟨t, rfl⟩, ⟨t', rfl⟩⟩ := vals2 r
  refine divmod_int h1 ?_ (.inl (PyProof.noPylong_of_log2 h2))
  have hn : H s.heap.objs.size = none := I.hok.fresh (Nat.le_refl _)
  refine ⟨.ref s.heap.objs.size, _, ?_, rfl, q _ hn⟩
  refine I.laid (fun b o e => Heap.get?_push_of_some _ e) (Nat.le_refl _) ⟨by simp only [List.length_cons, List.length_nil]; rw [sizeLine_eq]; decide, [.int (i.fdiv j) s.toks, .int (i.fmod j) (s.toks + 1)], .cons ⟨_, rfl⟩ (.cons ⟨_, rfl⟩ .nil), ?_⟩
  exact ⟨_, Heap.get?_push_size s.heap rfl, rfl, 0, rfl⟩
theorem de_divmod (hg : Gl X "divmod") (hm : X.mg "divmod" = none) (h : DE T X Δ a (isI fun i Δ1 => DE T X Δ1 b (isI fun j Δ2 => CDivB i j ∧ Q (.tuple [.int (i.fdiv j), .int (i.fmod j)]) Δ2))) (hs : starEach [a, b] X.env = (false, eval a X.env) :: starEach [b] X.env := by rfl) (hs2 : starEach [b] X.env = (false, eval b X.env) :: starEach [] X.env := by rfl) (hpl : (backTo pos (starEach [b] X.env)).any (·.1) = false := by rfl) : DE T X Δ (.Call (.Name "divmod" p) [a, b] [] pos) Q :=
  de_callB call_divmodB hg hm (by decide +kernel) (dd_cons (h.mono fun d Δ1 ⟨i, e, h1⟩ => dd_cons (h1.mono fun d2 Δ2 ⟨j, e2, hc, q⟩ => dd_nil fun σ B H vs R L al k => by
    subst e e2
    cases al with
    | cons dv al => cases al with
      | cons dv2 al =>
        cases al; cases dv; cases dv2
        refine ⟨i, j, rfl, hc, fun p hp => ?_⟩
        obtain ⟨L2, S2, dp⟩ := L.newT hp (.cons (.int _) (.cons (.int _) .nil))
        exact k _ Δ2 _ _ _ q S2 L2 dp) hs2) hs) (by decide) (by decide) hs hpl
/-- isinstance -/
def tyN : D → String
  | .none => "NoneType"
  | .bool _ => "bool"
  | .int _ => "int"
  | .str _ => "str"
  | .list _ => "list"
  | .tuple _ => "tuple"
  | .dict _ => "dict"
theorem tyX_of {K : Frag} {B H : Hp} {v : V} {d : D} (s : Sub B H) (h : Dp K B v d) : TyX K H v (.type (tyN d)) := by
  cases h with
  | non => exact .base .non
  | bl b => exact .base (.bl b)
  | int i => exact .base (.int i)
  | str x => exact .base (.str x)
  | lst hs _ =>
    rcases hs with (h | ⟨o, h⟩) | ⟨o, _, _, hk, hc, _⟩
    · exact .base (.lst (s _ _ h))
    · exact .base (.frz (s _ _ h))
    · exact .kList hk hc
  | tup hs _ =>
    rcases hs with (h | ⟨o, h⟩) | ⟨o, _, _, hk, hc, _⟩
    · exact .base (.tup (s _ _ h))
    · exact .fTuple (s _ _ h)
    · exact .kTuple hk hc
theorem de_isi1 {c : Str} {n : String} {pc : Pos} (f : D → Bool) (hg : Gl X "isinstance") (hm : X.mg "isinstance" = none) (hgc : Gl X c) (hmc : X.mg c = none) (hvc : bootBuiltins c = some (.type n)) (hn : c ≠ "__name__") (hd : (c == ("__debug__" : Str)) = false) (hk : ∀ K d, PySem.W.kitOne K (.type (tyN d)) (.type n) = some (f d))
    (h : DE T X Δ e fun d Δ1 => Q (.bool (f d)) Δ1) (hs : starEach [e, .Name c pc] X.env = (false, eval e X.env) :: starEach [.Name c pc] X.env := by rfl) (hs2 : starEach [.Name c pc] X.env = (false, eval (.Name c pc) X.env) :: starEach [] X.env := by rfl) (hpl : (backTo pos (starEach [.Name c pc] X.env)).any (·.1) = false := by rfl) : DE T X Δ (.Call (.Name "isinstance" p) [e, .Name c pc] [] pos) Q :=
  PE.weak (pe_callB call_isi hg hm (by decide +kernel) (pa_cons h (pa_cons (pe_bltn (v := .ty n) hgc hmc hvc rfl hn hd) pa_nil hs2) hs) (by decide) (by decide) hs hpl) fun σ H R ⟨B, L, k⟩ => ⟨B, L, fun d Δ' v B' H' q S L' dv =>
    ⟨v, .ty n, _, _, f d, rfl, .ty n, tyX_of L'.bh dv, hk _ d, k _ Δ' _ B' H' q S L' (.bl _)⟩⟩
theorem de_isi2 {c1 c2 : Str} {n1 n2 : String} {p1 p2 p3 : Pos} {j : Nat} (f : D → Bool) (hg : Gl X "isinstance") (hm : X.mg "isinstance" = none) (hgc : Gl X c1) (hmc : X.mg c1 = none) (hvc : bootBuiltins c1 = some (.type n1)) (hn : c1 ≠ "__name__") (hd : (c1 == ("__debug__" : Str)) = false)
    (hgc2 : Gl X c2) (hmc2 : X.mg c2 = none) (hvc2 : bootBuiltins c2 = some (.type n2)) (hn2 : c2 ≠ "__name__") (hd2 : (c2 == ("__debug__" : Str)) = false) (hk : ∀ K d, PySem.W.kitAny K (.type (tyN d)) [.type n1, .type n2] = some (f d))
    (h : DE T X Δ e fun d Δ1 => Q (.bool (f d)) Δ1) (hs : starEach [e, .Tuple [.Name c1 p1, .Name c2 p2] j p3] X.env = (false, eval e X.env) :: starEach [.Tuple [.Name c1 p1, .Name c2 p2] j p3] X.env := by rfl)
    (hs2 : starEach [.Tuple [.Name c1 p1, .Name c2 p2] j p3] X.env = (false, eval (.Tuple [.Name c1 p1, .Name c2 p2] j p3) X.env) :: starEach [] X.env := by rfl) (hs3 : starEach [.Name c1 p1, .Name c2 p2] X.env = (false, eval (.Name c1 p1) X.env) :: starEach [.Name c2 p2] X.env := by rfl)
    (hs4 : starEach [.Name c2 p2] X.env = (false, eval (.Name c2 p2) X.env) :: starEach [] X.env := by rfl) (hpl : (backTo pos (starEach [.Tuple [.Name c1 p1, .Name c2 p2] j p3] X.env)).any (·.1) = false := by rfl) : DE T X Δ (.Call (.Name "isinstance" p) [e, .Tuple [.Name c1 p1, .Name c2 p2] j p3] [] pos) Q :=
  PE.weak (pe_callB call_isiT hg hm (by decide +kernel) (pa_cons h (pa_cons (pe_tup (pa_cons (pe_bltn (v := .ty n1) hgc hmc hvc rfl hn hd) (pa_cons (pe_bltn (v := .ty n2) hgc2 hmc2 hvc2 rfl hn2 hd2) pa_nil hs4) hs3)) pa_nil hs2) hs) (by decide) (by decide) hs hpl) fun σ H R ⟨B, L, k⟩ => ⟨B, L, fun d Δ' v B' H' q S L' dv =>
    ⟨by show 2 ≤ sizeLine; decide, fun tp htp => by
      refine ⟨v, tp, [.ty n1, .ty n2], _, _, f d, rfl, upd_same, .cons (.ty n1) (.cons (.ty n2) .nil), tyX_of (L'.bh.trans (Sub.new htp)) dv, hk _ d, ?_⟩
      have tb := L'.tb.ext (H' := upd H' tp (.tup [.ty n1, .ty n2])) (Sub.new htp)
      have L2 : Lc X.K T σ B' (upd H' tp (.tup [.ty n1, .ty n2])) Δ' := ⟨L'.bh.trans (Sub.new htp), L'.nt, tb, L'.len, fun i e he => (L'.en i e he).sub (Sub.refl B') fun l ds z => by
        subst z
        exact ⟨(L'.mutAt he).2.1, fun ws hw => Sub.new htp _ _ hw⟩, L'.ds⟩
      have S2 : Stp Δ' Δ' B' H' B' (upd H' tp (.tup [.ty n1, .ty n2])) := ⟨Sub.refl B', fun _ h h' => absurd h h', fun a h => by
        by_cases z : a = tp
        · subst z; rw [upd_same]; simp
        · rw [upd_ne z]; exact h, fun b o e _ _ => Sub.new htp _ _ e, fun _ h => h⟩
      exact k _ Δ' _ B' _ q (S.trans S2) L2 (.bl _)⟩⟩
/-- tuple + tuple, tuple * int, list + list, list * int -/
theorem de_catT (h : DE T X Δ a fun x Δ1 => ∃ ds, x = .tuple ds ∧ DE T X Δ1 b fun y Δ2 => ∃ es, y = .tuple es ∧ ds.length + es.length ≤ 10000 ∧ Q (.tuple (ds ++ es)) Δ2) : DE T X Δ (.BinOp a .Add b pos) Q :=
  de_op op_catA (h.mono fun x Δ1 ⟨ds, e, h1⟩ => h1.mono fun y Δ2 ⟨es, e2, hz, q⟩ => fun σ B H v u R L dv du k => by
    subst e e2
    cases dv with
    | @tup a1 xs _ hs al =>
      cases du with
      | @tup a2 ys _ hs2 al2 =>
        refine ⟨_, _, xs, ys, rfl, rfl, L.bh.sqT hs, L.bh.sqT hs2, by rw [al.length, al2.length]; exact Nat.le_trans hz (by decide), fun e => ?_, fun _ e => ?_, fun _ _ p hp => ?_⟩
        · subst e
          cases al
          exact k _ Δ2 _ B H (by simpa using q) Stp.refl L (.tup hs2 al2)
        · subst e
          cases al2
          exact k _ Δ2 _ B H (by simpa using q) Stp.refl L (.tup hs al)
        · obtain ⟨L2, S2, dp⟩ := L.newT hp (al.append al2)
          exact k _ Δ2 _ _ _ q S2 L2 dp)
theorem dn_cat {Q : List D → List En → Prop} (h : DE T X Δ a fun x Δ1 => ∃ ds, x = .list ds ∧ DE T X Δ1 b fun y Δ2 => ∃ es, y = .list es ∧ ds.length + es.length ≤ 10000 ∧ Q (ds ++ es) Δ2) : DN T X Δ (.BinOp a .Add b pos) Q :=
  PE.weak (pe_op op_catG (pe_l (T := T)) (pe_l (T := T))) fun σ H R ⟨B, L, k⟩ => ⟨Δ, _, h, B, L, fun x Δ1 v B1 H1 ⟨ds, e, h1⟩ S1 L1 dv => ⟨Δ1, _, h1, B1, L1, fun y Δ2 u B2 H2 ⟨es, e2, hz, q⟩ S2 L2 du => by
    subst e e2
    cases dv.sub S2.bb with
    | @lst a1 xs _ hs al =>
      cases du with
      | @lst a2 ys _ hs2 al2 =>
        refine ⟨_, _, xs, ys, rfl, rfl, L2.bh.sqL hs, L2.bh.sqL hs2, by rw [al.length, al2.length]; exact Nat.le_trans hz (by decide), fun p hp => ?_⟩
        have S12 := S1.trans S2
        obtain ⟨L3, S3, nm, nb⟩ := L2.newM (xs := xs ++ ys) hp
        exact k _ Δ2 p _ _ _ q (S12.trans S3) L3 (free_back S12 hp) upd_same nb nm (al.append al2)⟩⟩
theorem dn_rep {Q : List D → List En → Prop} (h : DN T X Δ a fun ds Δ1 => DE T X Δ1 b (isI fun k Δ2 => (0 ≤ k ∧ k ≤ 1000 ∧ ds.length ≤ 1000) ∧ Q (List.replicate k.toNat ds).flatten Δ2)) : DN T X Δ (.BinOp a .Mult b pos) Q :=
  PE.weak (pe_op op_rep h (pe_l (T := T))) fun σ H R ⟨B, L, k⟩ => ⟨B, L, fun ds Δ1 l vs B1 H1 h1 S1 L1 n1 e1 b1 m1 al => ⟨Δ1, _, h1, B1, L1, fun y Δ2 u B2 H2 ⟨j, e2, hz, q⟩ S2 L2 du => by
    subst e2
    cases du
    have hH := S2.hh l _ e1 noTbl_lst m1
    refine ⟨l, j, vs, rfl, rfl, hH, by omega, by omega, ?_, fun p hp => ?_⟩
    · rw [al.length]
      have : ds.length * j.toNat ≤ 1000 * 1000 := Nat.mul_le_mul hz.2.2 (by omega)
      exact Nat.le_trans this (by decide)
    · have S12 := S1.trans S2
      obtain ⟨L3, S3, nm, nb⟩ := L2.newM (xs := (List.replicate j.toNat vs).flatten) hp
      exact k _ Δ2 p _ _ _ q (S12.trans S3) L3 (free_back S12 hp) upd_same nb nm ((al.sub S2.bb).rep _)⟩⟩
end
end DL

set_option Elab.async false
set_option linter.all false
set_option maxRecDepth 100000
set_option maxHeartbeats 4000000
namespace DL
open PySem PySem.Spec PyProof.Rows L2 NdefX
theorem tuple_mul1 (l : Addr) (items : Array Value) (n : Nat) (dd : Option Addr) (sl : Array (Option Value)) (u : Tok) :
    Meets (Builtin.«tuple.__mul__» ⟨[.ref l, .int 1 u], []⟩) (fun _ R s => s.heap.get? l = some { cls := .type "tuple", dict := dd, data := .seq items n, slots := sl } ∧
      R (.ok (.ret (Value.ref l))) s) :=
  .of_wp fun prog w A R s h => by
    obtain ⟨hp, g, d, tk, os⟩ := s
    obtain ⟨hl, h⟩ := h
    have f1 := AutoSeq1.idx_int
    wp_walk using wpAny_loadPart' hl
    exact ⟨_, rfl, h⟩
theorem tuple_mul0 (l : Addr) (items : Array Value) (n : Nat) (dd : Option Addr) (sl : Array (Option Value)) (u : Tok) (c1 : (items.isEmpty || (0 : Int) == 1) = false) :
    Meets (Builtin.«tuple.__mul__» ⟨[.ref l, .int 0 u], []⟩) (fun _ R s => s.heap.get? l = some { cls := .type "tuple", dict := dd, data := .seq items n, slots := sl } ∧
      R (.ok (.ret (Value.ref s.heap.objs.size))) { s with heap := s.heap.push { cls := Value.type "tuple", data := Data.seq #[] } }) :=
  .of_wp fun prog w A R s h => by
    obtain ⟨hp, g, d, tk, os⟩ := s
    obtain ⟨hl, h⟩ := h
    have f1 := AutoSeq1.idx_int
    wp_walk using wpAny_loadPart' hl
    repeat (first
      | (refine wpAny_ite_false (decide_eq_false (by rw [c1]; exact Bool.false_ne_true)) ?_; wp_walk using wpAny_loadPart' hl))
    exact ⟨_, rfl, h⟩
/-- a tuple of one item, so many times -/
def rRep1 (K : Frag) : R2 := fun x y H Q => ∃ l k v, x = .ref l ∧ y = .int k ∧ SqT K H l [v] ∧ 0 ≤ k ∧ k ≤ 1000 ∧ (k = 1 → Q (.ref l) H) ∧ (k ≠ 1 → ∀ p, H p = none → Q (.ref p) (upd H p (.tup (List.replicate k.toNat v))))
theorem flat_one {α : Type} (v : α) : ∀ n : Nat, (List.replicate n [v]).flatten = List.replicate n v
  | 0 => rfl
  | n + 1 => by rw [List.replicate_succ, List.replicate_succ, List.flatten_cons, flat_one v n]; rfl
theorem op_rep1 {X : Cx} : OpR X (binaryOp .Mult) (rRep1 X.K) := by
  intro pins s σ H x y v u Q I rx ry h
  obtain ⟨l, k, v0, rfl, rfl, hT, h0, h1, q1, q2⟩ := h
  by_cases hk1 : 2 ≤ k
  · refine op_repT pins s σ H _ _ v u Q I rx ry ⟨l, k, [v0], rfl, rfl, hT, by simp, hk1, h1, by simp, fun p hp => ?_⟩
    rw [flat_one]
    exact q2 (by omega) p hp
  · cases rx
    obtain ⟨t, rfl⟩ := ry
    obtain ⟨its, r, ⟨⟨cls, dd, data, sl⟩, ho, hc, n, hd⟩, hs⟩ := I.tuple hT
    simp only at hc hd
    subst hc hd
    by_cases hk : k = 1
    · subst hk
      exact wpAny_binaryOp_repeat_ref (T := "tuple") (U := "int") (by decide) ⟨_, ho, rfl⟩ (fun s' => typeIs_int s' 1 t) noFill_tuple_mul F.fills_int_mul F.slot_int_rmul repeat_tuple F.slot_int_index.lookup
        (call_meets F.slot_int_rmul (typeIs_int s 1 t) F.entry_int_rmul (F.args_int_rmul_2 _ _) (int_rmul_tuple 1 t l its.toArray n dd sl)
          ⟨ho, rfl, ⟨_, ho, rfl⟩, call_meets F.slot_tuple_mul ⟨_, ho, rfl⟩ F.entry_tuple_mul (F.args_tuple_mul_2 _ _) (tuple_mul1 l its.toArray n dd sl t) ⟨ho, .ref l, H, I, rfl, q1 rfl⟩⟩)
    · have e0 : k = 0 := by omega
      subst e0
      have c1 : (its.toArray.isEmpty || (0 : Int) == 1) = false := by
        cases its with
        | nil => cases r
        | cons a b => rfl
      refine wpAny_binaryOp_repeat_ref (T := "tuple") (U := "int") (by decide) ⟨_, ho, rfl⟩ (fun s' => typeIs_int s' 0 t) noFill_tuple_mul F.fills_int_mul F.slot_int_rmul repeat_tuple F.slot_int_index.lookup
        (call_meets F.slot_int_rmul (typeIs_int s 0 t) F.entry_int_rmul (F.args_int_rmul_2 _ _) (int_rmul_tuple 0 t l its.toArray n dd sl)
          ⟨ho, rfl, ⟨_, ho, rfl⟩, call_meets F.slot_tuple_mul ⟨_, ho, rfl⟩ F.entry_tuple_mul (F.args_tuple_mul_2 _ _) (tuple_mul0 l its.toArray n dd sl t c1) ⟨ho, ?_⟩⟩)
      exact ⟨.ref s.heap.objs.size, _, I.laid (t' := s.toks) (o := .tup []) (fun b ob q => Heap.get?_push_of_some _ q) (Nat.le_refl _) ⟨Nat.zero_le _, [], .nil, IsTup.new _ _⟩, rfl, q2 hk _ (I.hok.fresh (Nat.le_refl _))⟩
theorem dpRep {K : Frag} {B : Hp} {v : V} {d : D} (h : Dp K B v d) : ∀ n : Nat, DpAll K B (List.replicate n v) (List.replicate n d)
  | 0 => .nil
  | n + 1 => .cons h (dpRep h n)
theorem de_rep1 {T : List NTab} {X : Cx} {Δ : List En} {a b : Expr} {Q : QD} {pos : Pos} (h : DE T X Δ a fun x Δ1 => ∃ d, x = .tuple [d] ∧ DE T X Δ1 b (isI fun k Δ2 => (0 ≤ k ∧ k ≤ 1000) ∧ Q (.tuple (List.replicate k.toNat d)) Δ2)) : DE T X Δ (.BinOp a .Mult b pos) Q :=
  de_op op_rep1 (h.mono fun x Δ1 ⟨d, e, h1⟩ => h1.mono fun y Δ2 ⟨j, e2, hz, q⟩ => fun σ B H v u R L dv du k => by
    subst e e2
    cases du
    cases dv with
    | @tup a1 xs _ hs al =>
      cases al with
      | @cons v0 _ _ _ d0 al =>
        cases al
        refine ⟨a1, j, v0, rfl, rfl, L.bh.sqT hs, hz.1, hz.2, fun e => ?_, fun _ p hp => ?_⟩
        · subst e
          exact k _ Δ2 _ B H q Stp.refl L (.tup hs (.cons d0 .nil))
        · obtain ⟨L2, S2, dp⟩ := L.newT hp (dpRep d0 j.toNat)
          exact k _ Δ2 _ _ _ q S2 L2 dp)
end DL

set_option Elab.async false
set_option linter.all false
set_option maxRecDepth 100000
set_option maxHeartbeats 4000000
namespace DL
open PySem PySem.Spec PyProof.Rows L2 NdefX
/-- what a def does, told by entries: from the arguments, what must hold so that it ends with k of its value and the arguments behind it -/
abbrev SD := List En → (En → List En → Prop) → Prop
def RvOk (K : Frag) (H B' H' : Hp) (Δ' : List En) (v : V) : En → Prop
  | .dat d => Dp K B' v d
  | .own l ds => v = .ref l ∧ H l = none ∧ B' l = none ∧ ¬ isMut Δ' l ∧ ∃ vs, H' l = some (.lst vs) ∧ DpAll K B' vs ds
  | .non => True
def spS (T : List NTab) (K : Frag) (S : SD) : Sp := fun vs H R _ => ∃ B as, Lc K T (vs.map some) B H as ∧ S as fun r as' => ∀ v B' H', Stp as as' B H B' H' → Lc K T (vs.map some) B' H' as' → RvOk K H B' H' as' v r → R v H'
/-- a def of the program: where it stands and what it promises -/
structure Df (P : Program) (w : World) (K : Frag) (mg : Str → Option Value) (base : Heap) (T : List NTab) (k : Nat) (x : Str) (ps : List Str) (S : SD) : Prop where
  ex : ∃ f fd, FnOk P w K mg base CX0 k f fd ps (spS T K S) ∧ mg x = some (.ref f) ∧ PySem.W.keepIn K (.ref f) = true ∧ Binds K fd ps []
theorem notMut_dat {ds : List D} {l : Addr} : ¬ isMut (ds.map En.dat) l := fun ⟨i, es, e⟩ => by
  rw [List.getElem?_map] at e
  cases q : ds[i]? with
  | none => rw [q] at e; cases e
  | some d => rw [q] at e; cases e
theorem sl_map {vs : List V} {i : Nat} {v : V} (h : vs[i]? = some v) : sl (vs.map some) i = some v := by
  unfold sl
  rw [List.getElem?_map, h]; rfl
section
variable {T : List NTab} {X : Cx} {Δ : List En} {e a b : Expr} {es : List Expr} {Q : QD} {pos p : Pos}
/-- the state as a callee with trees alone sees it -/
theorem Lc.callee {K : Frag} {σ : L2.St} {B H : Hp} {vs : List V} {ds : List D} (L : Lc K T σ B H Δ) (al : DpAll K B vs ds) : Lc K T (vs.map some) B H (ds.map .dat) :=
  ⟨L.bh, L.nt, L.tb, by simpa using al.length, fun i e h => by
    rw [List.getElem?_map] at h
    cases q : ds[i]? with
    | none => rw [q] at h; cases h
    | some d =>
      rw [q] at h
      cases h
      obtain ⟨v, h1, h2⟩ := al.get q
      exact ⟨v, sl_map h1, h2⟩, fun i j l l' d d' _ h _ => absurd ⟨i, d, h⟩ notMut_dat⟩
/-- behind it -/
theorem Lc.behind {K : Frag} {σ σ' : L2.St} {B H B' H' : Hp} {as as' : List En} (L : Lc K T σ B H Δ) (hm : ∀ l, ¬ isMut as l) (S : Stp as as' B H B' H') (L' : Lc K T σ' B' H' as') : Lc K T σ B' H' Δ ∧ Stp Δ Δ B H B' H' := by
  have hh : ∀ b o, H b = some o → NoTbl o → H' b = some o := fun b o e n => S.hh b o e n (hm b)
  refine ⟨⟨L'.bh, L'.nt, L'.tb, L.len, fun i e h => (L.en i e h).sub S.bb fun l ds z => ?_, L.ds⟩, ⟨S.bb, S.fr, S.kp, fun b o e n _ => hh b o e n, fun _ h => h⟩⟩
  subst z
  obtain ⟨_, q2, vs, q3, _⟩ := L.mutAt h
  refine ⟨?_, fun ws hw => hh l _ hw noTbl_lst⟩
  cases q : B' l with
  | none => rfl
  | some o =>
    have := S.fr l q2 (by rw [q]; simp)
    rw [q3] at this; cases this
theorem call_read {K : Frag} {ds : List D} {S : SD} {σ : L2.St} {B H : Hp} {vs : List V} {R : VK} {Qr : En → List En → Prop} (L : Lc K T σ B H Δ) (al : DpAll K B vs ds) (h : S (ds.map .dat) fun r _ => Qr r Δ)
    (mono : ∀ as k k', S as k → (∀ r as', k r as' → k' r as') → S as k')
    (k : ∀ r v B' H', Qr r Δ → Stp Δ Δ B H B' H' → Lc K T σ B' H' Δ → RvOk K H B' H' [] v r → R v H') : spS T K S vs H R E0 :=
  ⟨B, ds.map .dat, L.callee al, mono _ _ _ h fun r as' q v B' H' S' L' rv => by
    obtain ⟨L2, S2⟩ := L.behind (fun l => notMut_dat) S' L'
    refine k r v B' H' q S2 L2 ?_
    cases r with
    | non => trivial
    | dat d => exact rv
    | own l es => obtain ⟨h1, h2, h3, _, h5⟩ := rv; exact ⟨h1, h2, h3, fun ⟨i, _, z⟩ => (by simp at z), h5⟩⟩
/-- the promise asks its continuation only more -/
def SMono (S : SD) : Prop := ∀ as k k', S as k → (∀ r as', k r as' → k' r as') → S as k'
/-- a call, trees as arguments, a tree as value -/
theorem de_call {k : Nat} {x : Str} {ps : List Str} {S : SD} (G : Df X.prog X.w X.K X.mg X.base T k x ps S) (hS : SMono S) (hr : Room k X.A) (hg : Gl X x) (h : DD T X Δ (e :: es) fun ds Δ1 => S (ds.map .dat) fun r _ => ∃ d, r = .dat d ∧ Q d Δ1)
    (hdb : (x == ("__debug__" : Str)) = false := by decide) (he : starEach (e :: es) X.env = (false, eval e X.env) :: starEach es X.env := by rfl) (hpl : (backTo pos (starEach es X.env)).any (·.1) = false := by rfl) : DE T X Δ (.Call (.Name x p) (e :: es) [] pos) Q := by
  obtain ⟨f, fd, F, hm, hk, hb⟩ := G.ex
  refine PE.weak (pe_call F hr hg hm hk hb .nil pass0 h hdb he hpl) fun σ H R ⟨B, L, k⟩ => ⟨B, L, fun ds Δ' vs B' H' q S1 L1 al => ?_⟩
  show spS T X.K S (vs ++ []) H' R E0
  rw [List.append_nil]
  exact call_read (Qr := fun r Δ1 => ∃ d, r = .dat d ∧ Q d Δ1) L1 al q hS fun r v B2 H2 ⟨d, e, q2⟩ S2 L2 rv => by
    subst e
    exact k d Δ' v B2 H2 q2 (S1.trans S2) L2 rv
theorem de_call0 {k : Nat} {x : Str} {ps : List Str} {S : SD} (G : Df X.prog X.w X.K X.mg X.base T k x ps S) (hS : SMono S) (hr : Room k X.A) (hg : Gl X x) (h : S [] fun r _ => ∃ d, r = .dat d ∧ Q d Δ)
    (hdb : (x == ("__debug__" : Str)) = false := by decide) : DE T X Δ (.Call (.Name x p) [] [] pos) Q := by
  obtain ⟨f, fd, F, hm, hk, hb⟩ := G.ex
  refine PE.weak (pe_call0 F hr hg hm hk hb .nil pass0 hdb) fun σ H R ⟨B, L, k⟩ => ?_
  show spS T X.K S ([] ++ []) H R E0
  exact call_read (ds := []) (vs := []) (Qr := fun r Δ1 => ∃ d, r = .dat d ∧ Q d Δ1) L .nil h hS fun r v B2 H2 ⟨d, e, q2⟩ S2 L2 rv => by
    subst e
    exact k d Δ v B2 H2 q2 S2 L2 rv
/-- .. a new list as value -/
theorem dn_call {Q : List D → List En → Prop} {k : Nat} {x : Str} {ps : List Str} {S : SD} (G : Df X.prog X.w X.K X.mg X.base T k x ps S) (hS : SMono S) (hr : Room k X.A) (hg : Gl X x) (h : DD T X Δ (e :: es) fun ds Δ1 => S (ds.map .dat) fun r _ => ∃ l d, r = .own l d ∧ Q d Δ1)
    (hdb : (x == ("__debug__" : Str)) = false := by decide) (he : starEach (e :: es) X.env = (false, eval e X.env) :: starEach es X.env := by rfl) (hpl : (backTo pos (starEach es X.env)).any (·.1) = false := by rfl) : DN T X Δ (.Call (.Name x p) (e :: es) [] pos) Q := by
  obtain ⟨f, fd, F, hm, hk, hb⟩ := G.ex
  refine PE.weak (pe_call F hr hg hm hk hb .nil pass0 h hdb he hpl) fun σ H R ⟨B, L, k⟩ => ⟨B, L, fun ds Δ' vs B' H' q S1 L1 al => ?_⟩
  show spS T X.K S (vs ++ []) H' R E0
  rw [List.append_nil]
  exact call_read (Qr := fun r Δ1 => ∃ l d, r = .own l d ∧ Q d Δ1) L1 al q hS fun r v B2 H2 ⟨l, d, e, q2⟩ S2 L2 rv => by
    subst e
    obtain ⟨h1, h2, h3, _, ws, h5, h6⟩ := rv
    subst h1
    exact k d Δ' l ws B2 H2 q2 (S1.trans S2) L2 (free_back S1 h2) h5 h3 (fun z => L1.mutNe (S2.mu _ z) h2) h6
def toEns (Δ : List En) : List Av → List En
  | [] => []
  | .d x :: r => .dat x :: toEns Δ r
  | .m i :: r => Δ.getD i .non :: toEns Δ r
  | .n _ _ :: r => .non :: toEns Δ r
def putB : List Av → List En → List En → List En
  | .m i :: r, e :: es, Δ => putB r es (Δ.set i e)
  | _ :: r, _ :: es, Δ => putB r es Δ
  | _, _, Δ => Δ
def slotsOf : List Av → List Nat
  | [] => []
  | .m i :: r => i :: slotsOf r
  | _ :: r => slotsOf r
theorem mem_slots {avs : List Av} {i : Nat} : i ∈ slotsOf avs ↔ ∃ j : Nat, avs[j]? = some (.m i) := by
  induction avs with
  | nil => simp [slotsOf]
  | cons a r ih =>
    constructor
    · intro h
      cases a with
      | m k =>
        rcases List.mem_cons.mp (show i ∈ k :: slotsOf r from h) with e | h
        · exact ⟨0, by rw [e]; rfl⟩
        · obtain ⟨j, hj⟩ := ih.mp h; exact ⟨j + 1, by simpa using hj⟩
      | d x => obtain ⟨j, hj⟩ := ih.mp h; exact ⟨j + 1, by simpa using hj⟩
      | n l ds => obtain ⟨j, hj⟩ := ih.mp h; exact ⟨j + 1, by simpa using hj⟩
    · rintro ⟨j, hj⟩
      cases j with
      | zero =>
        simp at hj
        subst hj
        exact List.mem_cons_self
      | succ j =>
        have := ih.mpr ⟨j, by simpa using hj⟩
        cases a with
        | m k => exact List.mem_cons_of_mem _ this
        | d x => exact this
        | n l ds => exact this
theorem putB_length {avs : List Av} : ∀ {as' Δ : List En}, (putB avs as' Δ).length = Δ.length := by
  induction avs with
  | nil => intro as' Δ; rfl
  | cons a r ih =>
    intro as' Δ
    cases as' with
    | nil => cases a <;> rfl
    | cons e es =>
      cases a with
      | m i => exact (ih (as' := es) (Δ := Δ.set i e)).trans (by simp)
      | d x => exact ih (as' := es)
      | n l ds => exact ih (as' := es)
theorem putB_get {avs : List Av} : ∀ {as' Δ : List En} {k : Nat} {e : En}, (slotsOf avs).Nodup → as'.length = avs.length → (putB avs as' Δ)[k]? = some e → (k ∉ slotsOf avs ∧ Δ[k]? = some e) ∨ ∃ j : Nat, avs[j]? = some (.m k) ∧ as'[j]? = some e := by
  induction avs with
  | nil => intro as' Δ k e _ _ h; exact .inl ⟨by simp [slotsOf], h⟩
  | cons a r ih =>
    intro as' Δ k e nd hl h
    cases as' with
    | nil => simp at hl
    | cons e0 es =>
      have hl' : es.length = r.length := by simpa using hl
      cases a with
      | m i =>
        have nd' := List.nodup_cons.mp (show (i :: slotsOf r).Nodup from nd)
        rcases ih (as' := es) nd'.2 hl' (show (putB r es (Δ.set i e0))[k]? = some e from h) with ⟨h1, h2⟩ | ⟨j, h1, h2⟩
        · by_cases hk : i = k
          · subst hk
            by_cases hi : i < Δ.length
            · rw [List.getElem?_set_self hi] at h2
              exact .inr ⟨0, rfl, by simpa using h2⟩
            · rw [List.getElem?_eq_none (by simpa using hi)] at h2; cases h2
          · rw [List.getElem?_set_ne hk] at h2
            exact .inl ⟨fun z => (List.mem_cons.mp (show k ∈ i :: slotsOf r from z)).elim (fun e => hk e.symm) h1, h2⟩
        · exact .inr ⟨j + 1, by simpa using h1, by simpa using h2⟩
      | d x =>
        rcases ih (as' := es) (show (slotsOf r).Nodup from nd) hl' (show (putB r es Δ)[k]? = some e from h) with h1 | ⟨j, h1, h2⟩
        · exact .inl h1
        · exact .inr ⟨j + 1, by simpa using h1, by simpa using h2⟩
      | n l ds =>
        rcases ih (as' := es) (show (slotsOf r).Nodup from nd) hl' (show (putB r es Δ)[k]? = some e from h) with h1 | ⟨j, h1, h2⟩
        · exact .inl h1
        · exact .inr ⟨j + 1, by simpa using h1, by simpa using h2⟩
theorem toEns_length {avs : List Av} : (toEns Δ avs).length = avs.length := by
  induction avs with
  | nil => rfl
  | cons a r ih => cases a <;> exact congrArg (· + 1) ih
theorem toEns_get {avs : List Av} : ∀ {j : Nat} {e : En}, (toEns Δ avs)[j]? = some e → (∃ x, avs[j]? = some (.d x) ∧ e = .dat x) ∨ (∃ i, avs[j]? = some (.m i) ∧ e = Δ.getD i .non) ∨ e = .non := by
  induction avs with
  | nil => intro j e h; simp [toEns] at h
  | cons a r ih =>
    intro j e h
    cases j with
    | zero =>
      cases a with
      | d x => simp [toEns] at h; exact .inl ⟨x, rfl, h.symm⟩
      | m i => simp [toEns] at h; exact .inr (.inl ⟨i, rfl, by rw [← h]; simp [List.getD_eq_getElem?_getD]⟩)
      | n l ds => simp [toEns] at h; exact .inr (.inr h.symm)
    | succ j =>
      have h' : (toEns Δ r)[j]? = some e := by cases a <;> simpa [toEns] using h
      rcases ih h' with ⟨x, h1, h2⟩ | ⟨i, h1, h2⟩ | h2
      · exact .inl ⟨x, by simpa using h1, h2⟩
      · exact .inr (.inl ⟨i, by simpa using h1, h2⟩)
      · exact .inr (.inr h2)
theorem Paired.getL {α β : Type} {F : α → β → Prop} : ∀ {l : List α} {m : List β}, Paired F l m → ∀ {i : Nat} {y : β}, m[i]? = some y → ∃ x, l[i]? = some x ∧ F x y
  | _, _, .nil, i, y, h => by simp at h
  | _, _, .cons q t, 0, y, h => by simp at h; subst h; exact ⟨_, rfl, q⟩
  | _, _, .cons q t, i + 1, y, h => by
    obtain ⟨x, h1, h2⟩ := Paired.getL t (i := i) (y := y) (by simpa using h)
    exact ⟨x, by simpa using h1, h2⟩
theorem getD_some {i : Nat} {e : En} (h : Δ.getD i .non = e) (hn : e ≠ .non) : Δ[i]? = some e := by
  rw [List.getD_eq_getElem?_getD] at h
  cases q : Δ[i]? with
  | none => rw [q] at h; exact absurd h.symm hn
  | some x => rw [q] at h; exact congrArg some h
/-- own slots among the arguments -/
theorem Lc.calleeM {K : Frag} {σ : L2.St} {B H : Hp} {vs : List V} {avs : List Av} (L : Lc K T σ B H Δ) (al : AvsOk K σ B H Δ vs avs) (nd : (slotsOf avs).Nodup) : Lc K T (vs.map some) B H (toEns Δ avs) := by
  have hv : ∀ {j : Nat} {a : Av}, avs[j]? = some a → ∃ v, vs[j]? = some v ∧ AvOk K σ B H Δ v a := fun h => Paired.getL al h
  refine ⟨L.bh, L.nt, L.tb, by rw [List.length_map, toEns_length]; exact Paired.length al, fun j e h => ?_, fun i j l l' d d' hij h1 h2 => ?_⟩
  · rcases toEns_get h with ⟨x, h1, rfl⟩ | ⟨i, h1, h2⟩ | rfl
    · obtain ⟨v, q1, q2⟩ := hv h1
      exact ⟨v, sl_map q1, q2⟩
    · obtain ⟨v, q1, q2⟩ := hv h1
      have q2 : sl σ i = some v := q2
      by_cases hn : e = .non
      · subst hn; trivial
      · have := L.en i e (getD_some h2.symm hn)
        rw [q2] at this
        rw [sl_map q1]
        exact this
    · trivial
  · rcases toEns_get h1 with ⟨x, _, z⟩ | ⟨k, a1, z⟩ | z
    · cases z
    · rcases toEns_get h2 with ⟨x, _, z2⟩ | ⟨k2, a2, z2⟩ | z2
      · cases z2
      · have e1 := getD_some z.symm (by simp)
        have e2 := getD_some z2.symm (by simp)
        by_cases hk : k = k2
        · subst hk
          exfalso
          -- the same slot twice
          have : ∀ (avs : List Av), (slotsOf avs).Nodup → ∀ i j : Nat, avs[i]? = some (.m k) → avs[j]? = some (.m k) → i = j := by
            intro avs
            induction avs with
            | nil => intro _ i j h; simp at h
            | cons a r ih =>
              intro nd i j hi hj
              cases i with
              | zero =>
                simp at hi
                subst hi
                have nd' := List.nodup_cons.mp (show (k :: slotsOf r).Nodup from nd)
                cases j with
                | zero => rfl
                | succ j => exact absurd (mem_slots.mpr ⟨j, by simpa using hj⟩) nd'.1
              | succ i =>
                cases j with
                | zero =>
                  simp at hj
                  subst hj
                  have nd' := List.nodup_cons.mp (show (k :: slotsOf r).Nodup from nd)
                  exact absurd (mem_slots.mpr ⟨i, by simpa using hi⟩) nd'.1
                | succ j =>
                  have nd' : (slotsOf r).Nodup := by
                    cases a with
                    | m i => exact (List.nodup_cons.mp (show (i :: slotsOf r).Nodup from nd)).2
                    | d x => exact nd
                    | n l ds => exact nd
                  exact congrArg (· + 1) (ih nd' i j (by simpa using hi) (by simpa using hj))
          exact hij (this avs nd i j a1 a2)
        · exact L.ds k k2 l l' d d' hk e1 e2
      · cases z2
    · cases z
theorem Lc.behindM {K : Frag} {σ : L2.St} {B H B' H' : Hp} {vs : List V} {avs : List Av} {as' : List En} (L : Lc K T σ B H Δ) (al : AvsOk K σ B H Δ vs avs) (nd : (slotsOf avs).Nodup) (hn : news avs = []) (hl : as'.length = avs.length) (S : Stp (toEns Δ avs) as' B H B' H')
    (L' : Lc K T (vs.map some) B' H' as') : Lc K T σ B' H' (putB avs as' Δ) ∧ Stp Δ (putB avs as' Δ) B H B' H' := by
  have hv : ∀ {j : Nat} {a : Av}, avs[j]? = some a → ∃ v, vs[j]? = some v ∧ AvOk K σ B H Δ v a := fun h => Paired.getL al h
  -- a list among the arguments is a slot's
  have am : ∀ l, isMut (toEns Δ avs) l → ∃ (j : Nat) (i : Nat) (d : List D), avs[j]? = some (.m i) ∧ Δ[i]? = some (.own l d) := fun l ⟨j, d, h⟩ => by
    rcases toEns_get h with ⟨x, _, z⟩ | ⟨k, a1, z⟩ | z
    · cases z
    · exact ⟨j, k, d, a1, getD_some z.symm (by simp)⟩
    · cases z
  have hh : ∀ b o, H b = some o → NoTbl o → ¬ isMut Δ b → H' b = some o := fun b o e n m => S.hh b o e n fun z => by
    obtain ⟨j, i, d, _, h2⟩ := am b z
    exact m ⟨i, d, h2⟩
  have argmut : ∀ {j : Nat} {l : Addr} {d : List D}, as'[j]? = some (.own l d) → ∃ (i' : Nat) (d' : List D), i' ∈ slotsOf avs ∧ Δ[i']? = some (.own l d') := fun {j l d} h2 => by
    obtain ⟨j', i', d', h3, h4⟩ := am l (S.mu l ⟨j, d, h2⟩)
    exact ⟨i', d', mem_slots.mpr ⟨j', h3⟩, h4⟩
  refine ⟨⟨L'.bh, L'.nt, L'.tb, by rw [putB_length]; exact L.len, fun k e h => ?_, fun k1 k2 l1 l2 d1 d2 hk h1 h2 => ?_⟩, ⟨S.bb, S.fr, S.kp, hh, fun l ⟨k, d, h⟩ => ?_⟩⟩
  · rcases putB_get nd hl h with ⟨hk, h1⟩ | ⟨j, h1, h2⟩
    · refine (L.en k e h1).sub S.bb fun l d z => ?_
      subst z
      obtain ⟨_, q2, vs', q3, _⟩ := L.mutAt h1
      have nm : ¬ isMut (toEns Δ avs) l := fun z => by
        obtain ⟨j, i, d', h3, h4⟩ := am l z
        exact L.ds i k l l d' d (fun e => hk (by rw [← e]; exact mem_slots.mpr ⟨j, h3⟩)) h4 h1 rfl
      refine ⟨?_, fun ws hw => S.hh l _ hw noTbl_lst nm⟩
      cases q : B' l with
      | none => rfl
      | some o =>
        have := S.fr l q2 (by rw [q]; simp)
        rw [q3] at this; cases this
    · obtain ⟨v, q1, q2⟩ := hv h1
      have q2 : sl σ k = some v := q2
      have := L'.en j e h2
      rw [sl_map q1] at this
      rw [q2]
      exact this
  · rcases putB_get nd hl h1 with ⟨n1, a1⟩ | ⟨j1, a1, b1⟩
    · rcases putB_get nd hl h2 with ⟨n2, a2⟩ | ⟨j2, a2, b2⟩
      · exact L.ds k1 k2 l1 l2 d1 d2 hk a1 a2
      · obtain ⟨i', d', m1, m2⟩ := argmut b2
        exact L.ds k1 i' l1 l2 d1 d' (fun e => n1 (by rw [e]; exact m1)) a1 m2
    · rcases putB_get nd hl h2 with ⟨n2, a2⟩ | ⟨j2, a2, b2⟩
      · obtain ⟨i', d', m1, m2⟩ := argmut b1
        exact (L.ds k2 i' l2 l1 d2 d' (fun e => n2 (by rw [e]; exact m1)) a2 m2).symm
      · refine L'.ds j1 j2 l1 l2 d1 d2 (fun e => ?_) b1 b2
        subst e
        rw [a1] at a2
        cases a2
        exact hk rfl
  · rcases putB_get nd hl h with ⟨_, h1⟩ | ⟨j, _, h2⟩
    · exact ⟨k, d, h1⟩
    · obtain ⟨i', d', _, h4⟩ := argmut h2
      exact ⟨i', d', h4⟩
/-- a call that may change lists of ours -/
theorem de_callM {k : Nat} {x : Str} {ps : List Str} {S : SD} (G : Df X.prog X.w X.K X.mg X.base T k x ps S) (hS : SMono S) (hr : Room k X.A) (hg : Gl X x)
    (h : DA T X Δ (e :: es) fun avs Δ1 => (slotsOf avs).Nodup ∧ news avs = [] ∧ S (toEns Δ1 avs) fun r as' => as'.length = avs.length ∧ ∃ d, r = .dat d ∧ Q d (putB avs as' Δ1))
    (hdb : (x == ("__debug__" : Str)) = false := by decide) (he : starEach (e :: es) X.env = (false, eval e X.env) :: starEach es X.env := by rfl) (hpl : (backTo pos (starEach es X.env)).any (·.1) = false := by rfl) : DE T X Δ (.Call (.Name x p) (e :: es) [] pos) Q := by
  obtain ⟨f, fd, F, hm, hk, hb⟩ := G.ex
  refine PE.weak (pe_call F hr hg hm hk hb .nil pass0 h hdb he hpl) fun σ H R ⟨B, L, k⟩ => ⟨B, L, fun avs Δ' vs B' H' ⟨nd, hn, q⟩ S1 L1 al _ _ => ?_⟩
  show spS T X.K S (vs ++ []) H' R E0
  rw [List.append_nil]
  refine ⟨B', toEns Δ' avs, L1.calleeM al nd, hS _ _ _ q fun r as' ⟨hl, d, e, q2⟩ v B2 H2 S2 L2 rv => ?_⟩
  subst e
  obtain ⟨L3, S3⟩ := L1.behindM al nd hn hl S2 L2
  exact k d _ v B2 H2 q2 (S1.trans S3) L3 rv
theorem dn_callM {Q : List D → List En → Prop} {k : Nat} {x : Str} {ps : List Str} {S : SD} (G : Df X.prog X.w X.K X.mg X.base T k x ps S) (hS : SMono S) (hr : Room k X.A) (hg : Gl X x)
    (h : DA T X Δ (e :: es) fun avs Δ1 => (slotsOf avs).Nodup ∧ news avs = [] ∧ S (toEns Δ1 avs) fun r as' => as'.length = avs.length ∧ ∃ l d, r = .own l d ∧ Q d (putB avs as' Δ1))
    (hdb : (x == ("__debug__" : Str)) = false := by decide) (he : starEach (e :: es) X.env = (false, eval e X.env) :: starEach es X.env := by rfl) (hpl : (backTo pos (starEach es X.env)).any (·.1) = false := by rfl) : DN T X Δ (.Call (.Name x p) (e :: es) [] pos) Q := by
  obtain ⟨f, fd, F, hm, hk, hb⟩ := G.ex
  refine PE.weak (pe_call F hr hg hm hk hb .nil pass0 h hdb he hpl) fun σ H R ⟨B, L, k⟩ => ⟨B, L, fun avs Δ' vs B' H' ⟨nd, hn, q⟩ S1 L1 al _ _ => ?_⟩
  show spS T X.K S (vs ++ []) H' R E0
  rw [List.append_nil]
  refine ⟨B', toEns Δ' avs, L1.calleeM al nd, hS _ _ _ q fun r as' ⟨hl, l, d, e, q2⟩ v B2 H2 S2 L2 rv => ?_⟩
  subst e
  obtain ⟨L3, S3⟩ := L1.behindM al nd hn hl S2 L2
  obtain ⟨h1, h2, h3, _, ws, h5, h6⟩ := rv
  subst h1
  exact k d _ l ws B2 H2 q2 (S1.trans S3) L3 (free_back S1 h2) h5 h3 (fun z => L1.mutNe (S3.mu _ z) h2) h6
mutual
def noL : D → Bool
  | .list _ => false
  | .tuple ds => noLs ds
  | .dict _ => false
  | _ => true
def noLs : List D → Bool
  | [] => true
  | d :: ds => noL d && noLs ds
end
def cutB (B : Hp) (ls : List Addr) : Hp := fun a => if a ∈ ls then none else B a
mutual
theorem Dp.cutB {K : Frag} {B : Hp} {ls : List Addr} (hl : ∀ l ∈ ls, ∃ xs, B l = some (.lst xs)) : ∀ {v : V} {d : D}, Dp K B v d → noL d = true → Dp K (cutB B ls) v d
  | _, _, .non, _ => .non
  | _, _, .bl b, _ => .bl b
  | _, _, .int i, _ => .int i
  | _, _, .str x, _ => .str x
  | _, _, .lst _ _, h => by simp [noL] at h
  | _, _, .tup (a := a) hs al, h => by
    refine .tup ?_ (DpAll.cutB hl al (by simpa [noL] using h))
    rcases hs with (h1 | ⟨o, h1⟩) | h1
    · refine .inl (.inl ?_)
      unfold DL.cutB
      rw [if_neg (fun z => by obtain ⟨xs, e⟩ := hl a z; rw [e] at h1; cases h1)]
      exact h1
    · refine .inl (.inr ⟨o, ?_⟩)
      unfold DL.cutB
      rw [if_neg (fun z => by obtain ⟨xs, e⟩ := hl a z; rw [e] at h1; cases h1)]
      exact h1
    · exact .inr h1
theorem DpAll.cutB {K : Frag} {B : Hp} {ls : List Addr} (hl : ∀ l ∈ ls, ∃ xs, B l = some (.lst xs)) : ∀ {vs : List V} {ds : List D}, DpAll K B vs ds → noLs ds = true → DpAll K (cutB B ls) vs ds
  | _, _, .nil, _ => .nil
  | _, _, .cons h t, q => by
    rw [noLs, Bool.and_eq_true] at q
    exact .cons (Dp.cutB hl h q.1) (DpAll.cutB hl t q.2)
end
def lendE (Δ : List En) : List Av → List D
  | [] => []
  | .d x :: r => x :: lendE Δ r
  | .m i :: r => (match Δ[i]? with
    | some (.own _ ds) => .list ds
    | _ => .none) :: lendE Δ r
  | .n _ _ :: r => .none :: lendE Δ r
def lendL (Δ : List En) : List Av → List Addr
  | .m i :: r => (match Δ[i]? with
    | some (.own l _) => l :: lendL Δ r
    | _ => lendL Δ r)
  | _ :: r => lendL Δ r
  | [] => []
def allOwn (Δ : List En) : List Av → Bool
  | [] => true
  | .m i :: r => (match Δ[i]? with
    | some (.own _ _) => true
    | _ => false) && allOwn Δ r
  | .d _ :: r => allOwn Δ r
  | .n _ _ :: r => false
theorem lendL_own {avs : List Av} {l : Addr} (h : l ∈ lendL Δ avs) : isMut Δ l := by
  induction avs with
  | nil => simp [lendL] at h
  | cons a r ih =>
    cases a with
    | d x => exact ih h
    | n l' ds => exact ih h
    | m i =>
      unfold lendL at h
      split at h
      · rename_i l' ds e
        rcases List.mem_cons.mp h with z | z
        · subst z; exact ⟨i, ds, e⟩
        · exact ih z
      · exact ih h
theorem lend_dp {K : Frag} {σ : L2.St} {B H Bp : Hp} {ls : List Addr} (L : Lc K T σ B H Δ) (sB : Sub B Bp) (hp : ∀ l ∈ ls, Bp l = H l) : ∀ {vs : List V} {avs : List Av}, AvsOk K σ B H Δ vs avs → allOwn Δ avs = true → (∀ l ∈ lendL Δ avs, l ∈ ls) → DpAll K Bp vs (lendE Δ avs)
  | _, _, .nil, _, _ => .nil
  | _, .d x :: r, .cons h t, ho, hl => .cons (Dp.sub sB h) (lend_dp L sB hp t ho hl)
  | _, .n _ _ :: r, .cons h t, ho, hl => by simp [allOwn] at ho
  | _, .m i :: r, .cons h t, ho, hl => by
    unfold allOwn at ho
    unfold lendL at hl
    unfold lendE
    cases e : Δ[i]? with
    | none => rw [e] at ho; simp at ho
    | some en =>
      rw [e] at ho hl
      cases en with
      | non => simp at ho
      | dat d => simp at ho
      | own l ds =>
        have ho' : allOwn Δ r = true := by simpa using ho
        have hl' : ∀ l', l' ∈ l :: lendL Δ r → l' ∈ ls := hl
        obtain ⟨h1, h2, ws, h3, h4⟩ := L.mutAt e
        have h := h1.symm.trans h
        cases h
        refine .cons (.lst (xs := ws) (.inl (.inl ?_)) (h4.sub sB)) (lend_dp L sB hp t ho' fun l' z => hl' l' (List.mem_cons_of_mem _ z))
        rw [hp l (hl' l List.mem_cons_self)]
        exact h3
/-- a call, lists of ours lent as trees, a value without lists -/
theorem de_callL {k : Nat} {x : Str} {ps : List Str} {S : SD} (G : Df X.prog X.w X.K X.mg X.base T k x ps S) (hS : SMono S) (hr : Room k X.A) (hg : Gl X x)
    (h : DA T X Δ (e :: es) fun avs Δ1 => allOwn Δ1 avs = true ∧ S ((lendE Δ1 avs).map .dat) fun r _ => ∃ d, r = .dat d ∧ noL d = true ∧ Q d Δ1)
    (hdb : (x == ("__debug__" : Str)) = false := by decide) (he : starEach (e :: es) X.env = (false, eval e X.env) :: starEach es X.env := by rfl) (hpl : (backTo pos (starEach es X.env)).any (·.1) = false := by rfl) : DE T X Δ (.Call (.Name x p) (e :: es) [] pos) Q := by
  obtain ⟨f, fd, F, hm, hk, hb⟩ := G.ex
  refine PE.weak (pe_call F hr hg hm hk hb .nil pass0 h hdb he hpl) fun σ H R ⟨B, L, k⟩ => ⟨B, L, fun avs Δ' vs B' H' ⟨ho, q⟩ S1 L1 al _ _ => ?_⟩
  show spS T X.K S (vs ++ []) H' R E0
  rw [List.append_nil]
  -- the lent lists as trees
  let Bp : Hp := fun a => if a ∈ lendL Δ' avs then H' a else B' a
  have own : ∀ l ∈ lendL Δ' avs, B' l = none ∧ ∃ ws, H' l = some (.lst ws) := fun l hl => by
    obtain ⟨i, ds, e⟩ := lendL_own hl
    obtain ⟨_, h2, ws, h3, _⟩ := L1.mutAt e
    exact ⟨h2, ws, h3⟩
  have inp : ∀ l ∈ lendL Δ' avs, Bp l = H' l := fun l hl => if_pos hl
  have sB : Sub B' Bp := fun a o e => by
    show (if a ∈ lendL Δ' avs then H' a else B' a) = some o
    rw [if_neg (fun z => by rw [(own a z).1] at e; cases e)]
    exact e
  have dp := lend_dp (Bp := Bp) L1 sB inp al ho fun l h => h
  have Lp : Lc X.K T (vs.map some) Bp H' ((lendE Δ' avs).map .dat) := by
    refine ⟨fun a o e => ?_, fun a o e => ?_, L1.tb, by simpa using dp.length, fun i e h => ?_, fun i j l l' d d' _ h _ => absurd ⟨i, d, h⟩ notMut_dat⟩
    · have e : (if a ∈ lendL Δ' avs then H' a else B' a) = some o := e
      by_cases ha : a ∈ lendL Δ' avs
      · rw [if_pos ha] at e; exact e
      · rw [if_neg ha] at e; exact L1.bh a o e
    · have e : (if a ∈ lendL Δ' avs then H' a else B' a) = some o := e
      by_cases ha : a ∈ lendL Δ' avs
      · rw [if_pos ha] at e
        obtain ⟨_, ws, h3⟩ := own a ha
        rw [h3] at e; cases e; exact noTbl_lst
      · rw [if_neg ha] at e; exact L1.nt a o e
    · rw [List.getElem?_map] at h
      cases q : (lendE Δ' avs)[i]? with
      | none => rw [q] at h; cases h
      | some d =>
        rw [q] at h
        cases h
        obtain ⟨v, h1, h2⟩ := dp.get q
        exact ⟨v, sl_map h1, h2⟩
  refine ⟨Bp, (lendE Δ' avs).map .dat, Lp, hS _ _ _ q fun r as' ⟨d, e, hn, q2⟩ v B2 H2 S2 L2 rv => ?_⟩
  subst e
  have rv : Dp X.K B2 v d := rv
  have hh : ∀ b o, H' b = some o → NoTbl o → H2 b = some o := fun b o e n => S2.hh b o e n notMut_dat
  have lst2 : ∀ l ∈ lendL Δ' avs, ∃ xs, B2 l = some (.lst xs) := fun l hl => by
    obtain ⟨_, ws, h3⟩ := own l hl
    exact ⟨ws, S2.bb l _ (by rw [inp l hl]; exact h3)⟩
  have sB2 : Sub B' (cutB B2 (lendL Δ' avs)) := fun a o e => by
    unfold cutB
    rw [if_neg (fun z => by rw [(own a z).1] at e; cases e)]
    exact S2.bb a o (sB a o e)
  have cb : ∀ a o, cutB B2 (lendL Δ' avs) a = some o → a ∉ lendL Δ' avs ∧ B2 a = some o := fun a o e => by
    unfold cutB at e
    by_cases ha : a ∈ lendL Δ' avs
    · rw [if_pos ha] at e; cases e
    · rw [if_neg ha] at e; exact ⟨ha, e⟩
  have fr : ∀ a, B' a = none → cutB B2 (lendL Δ' avs) a ≠ none → H' a = none := fun a h1 h2 => by
    cases z : cutB B2 (lendL Δ' avs) a with
    | none => exact absurd z h2
    | some o =>
      obtain ⟨c1, c2⟩ := cb a o z
      refine S2.fr a ?_ (by rw [c2]; simp)
      show (if a ∈ lendL Δ' avs then H' a else B' a) = none
      rw [if_neg c1]; exact h1
  refine k d Δ' v (cutB B2 (lendL Δ' avs)) H2 q2 (S1.trans ⟨sB2, fr, S2.kp, fun b o e n _ => hh b o e n, fun _ h => h⟩) ⟨fun a o e => L2.bh a o (cb a o e).2, fun a o e => L2.nt a o (cb a o e).2, L2.tb, L1.len, fun i e h => (L1.en i e h).sub sB2 fun l ds z => ?_, L1.ds⟩ (Dp.cutB lst2 rv hn)
  subst z
  obtain ⟨_, q3, ws, q4, _⟩ := L1.mutAt h
  refine ⟨?_, fun xs hx => hh l _ hx noTbl_lst⟩
  cases z : cutB B2 (lendL Δ' avs) l with
  | none => rfl
  | some o =>
    have := fr l q3 (by rw [z]; simp)
    rw [q4] at this; cases this
end
end DL

set_option Elab.async false
set_option linter.all false
set_option maxRecDepth 100000
set_option maxHeartbeats 4000000
namespace DL
open PySem PySem.Spec PyProof.Rows L2 NdefX
/-- a def's frame: its arguments, the trees and the heap at its entry -/
structure Fm where
  T : List NTab
  as : List En
  B0 : Hp
  H0 : Hp
structure Glb (F : Fm) (Δ : List En) (B H : Hp) : Prop where
  sub0 : Sub F.B0 B
  fr : ∀ a, F.B0 a = none → B a ≠ none → F.H0 a = none
  kp : ∀ a, F.H0 a ≠ none → H a ≠ none
  hh : ∀ b o, F.H0 b = some o → NoTbl o → ¬ isMut F.as b → H b = some o
  ow : ∀ l, isMut Δ l → F.H0 l = none ∨ isMut F.as l
  am : ∀ l, isMut F.as l → F.H0 l ≠ none
theorem Glb.step {F : Fm} {Δ Δ' : List En} {B H B' H' : Hp} (G : Glb F Δ B H) (S : Stp Δ Δ' B H B' H') : Glb F Δ' B' H' where
  sub0 := G.sub0.trans S.bb
  fr := fun a h h' => by
    by_cases h1 : B a = none
    · have := S.fr a h1 h'
      cases q : F.H0 a with
      | none => rfl
      | some o => exact absurd this (G.kp a (by rw [q]; simp))
    · exact G.fr a h h1
  kp := fun a h => S.kp a (G.kp a h)
  hh := fun b o e n m => S.hh b o (G.hh b o e n m) n fun z => (G.ow b z).elim (fun q => by rw [q] at e; cases e) m
  ow := fun l h => G.ow l (S.mu l h)
  am := G.am
theorem Glb.ent {F : Fm} {Δ Δ' : List En} {B H : Hp} (G : Glb F Δ B H) (h : ∀ l, isMut Δ' l → F.H0 l = none ∨ isMut F.as l) : Glb F Δ' B H := ⟨G.sub0, G.fr, G.kp, G.hh, h, G.am⟩
structure DEnds where
  nx : List En → Prop
  rt : En → List En → Prop
  bk : List En → Prop := fun _ => False
  ct : List En → Prop := fun _ => False
def tB (K : Frag) (F : Fm) (Δ : List En) (P : DEnds) : TS := fun D σ H => ∃ B, Lc K F.T σ B H Δ ∧ Glb F Δ B H ∧
  (∀ Δ' σ' B' H', P.nx Δ' → Lc K F.T σ' B' H' Δ' → Glb F Δ' B' H' → Sub B B' → D.nx σ' H') ∧
  (∀ r Δ' v σ' B' H', P.rt r Δ' → Lc K F.T σ' B' H' Δ' → Glb F Δ' B' H' → RvOk K F.H0 B' H' Δ' v r → D.rt v H') ∧
  (∀ Δ' σ' B' H', P.bk Δ' → Lc K F.T σ' B' H' Δ' → Glb F Δ' B' H' → Sub B B' → D.bk σ' H') ∧
  (∀ Δ' σ' B' H', P.ct Δ' → Lc K F.T σ' B' H' Δ' → Glb F Δ' B' H' → Sub B B' → D.ct σ' H')
/-- the same ends from a later base -/
theorem tB_sub {K : Frag} {F : Fm} {Δ1 : List En} {P : DEnds} {D : Ends} {σ : L2.St} {B B1 H1 : Hp} (sb : Sub B B1) (L : Lc K F.T σ B1 H1 Δ1) (G : Glb F Δ1 B1 H1)
    (k : (∀ Δ' σ' B' H', P.nx Δ' → Lc K F.T σ' B' H' Δ' → Glb F Δ' B' H' → Sub B B' → D.nx σ' H') ∧
  (∀ r Δ' v σ' B' H', P.rt r Δ' → Lc K F.T σ' B' H' Δ' → Glb F Δ' B' H' → RvOk K F.H0 B' H' Δ' v r → D.rt v H') ∧
  (∀ Δ' σ' B' H', P.bk Δ' → Lc K F.T σ' B' H' Δ' → Glb F Δ' B' H' → Sub B B' → D.bk σ' H') ∧
  (∀ Δ' σ' B' H', P.ct Δ' → Lc K F.T σ' B' H' Δ' → Glb F Δ' B' H' → Sub B B' → D.ct σ' H')) : tB K F Δ1 P D σ H1 :=
  ⟨B1, L, G, fun Δ' σ' B' H' q L' G' s => k.1 Δ' σ' B' H' q L' G' (sb.trans s), k.2.1, fun Δ' σ' B' H' q L' G' s => k.2.2.1 Δ' σ' B' H' q L' G' (sb.trans s), fun Δ' σ' B' H' q L' G' s => k.2.2.2 Δ' σ' B' H' q L' G' (sb.trans s)⟩
def BL (F : Fm) (X : Cx) (Δ : List En) (st : List Stmt) (P : DEnds) : Prop := PSs X st (tB X.K F Δ P)
def BS (F : Fm) (X : Cx) (Δ : List En) (st : Stmt) (P : DEnds) : Prop := PS X st (tB X.K F Δ P)
def lB (F : Fm) (X : Cx) (st : List Stmt) : TS := fun D σ H => ∃ Δ P, BL F X Δ st P ∧ tB X.K F Δ P D σ H
theorem pss_l {F : Fm} {X : Cx} {st : List Stmt} : PSs X st (lB F X st) := ⟨fun pins s σ H D I ⟨_, _, h, q⟩ => PSs.run h pins s σ H D I q⟩
section
variable {F : Fm} {X : Cx} {Δ : List En} {e a b : Expr} {st : Stmt} {rest : List Stmt} {P : DEnds} {pos p : Pos}
theorem bl_nil (h : P.nx Δ) : BL F X Δ [] P := PSs.weak pss_nil fun D σ H ⟨B, L, G, k1, _⟩ => k1 Δ σ B H h L G (Sub.refl B)
theorem bl_cons (h : BS F X Δ st { P with nx := fun Δ' => BL F X Δ' rest P }) : BL F X Δ (st :: rest) P :=
  PSs.weak (pss_cons h (pss_l (F := F))) fun D σ H ⟨B, L, G, k1, k2, k3, k4⟩ => ⟨B, L, G, fun Δ' σ' B' H' q L' G' s => ⟨Δ', P, q, tB_sub s L' G' ⟨k1, k2, k3, k4⟩⟩, k2, k3, k4⟩
theorem bl_one (h : BS F X Δ st P) : BL F X Δ [st] P := PSs.weak (pss_one h) fun D σ H q => q
theorem BL.mono {P' : DEnds} (h : BL F X Δ rest P) (w1 : ∀ Δ, P.nx Δ → P'.nx Δ) (w2 : ∀ r Δ, P.rt r Δ → P'.rt r Δ) (w3 : ∀ Δ, P.bk Δ → P'.bk Δ) (w4 : ∀ Δ, P.ct Δ → P'.ct Δ) : BL F X Δ rest P' :=
  PSs.weak h fun D σ H ⟨B, L, G, k1, k2, k3, k4⟩ => ⟨B, L, G, fun Δ' σ' B' H' q => k1 Δ' σ' B' H' (w1 _ q), fun r Δ' v σ' B' H' q => k2 r Δ' v σ' B' H' (w2 _ _ q), fun Δ' σ' B' H' q => k3 Δ' σ' B' H' (w3 _ q), fun Δ' σ' B' H' q => k4 Δ' σ' B' H' (w4 _ q)⟩
/-- a list of ours becomes a tree for good -/
theorem bl_frz {i : Nat} {l : Addr} {ds : List D} (hd : Δ[i]? = some (.own l ds)) (nm : ¬ isMut F.as l) (h : BL F X (Δ.set i (.dat (.list ds))) rest P) : BL F X Δ rest P :=
  PSs.weak h fun D σ H ⟨B, L, G, k1, k2, k3, k4⟩ => by
    obtain ⟨e1, e2, vs, e3, e4⟩ := L.mutAt hd
    have hi : i < Δ.length := (List.getElem?_eq_some_iff.mp hd).1
    have h0 : F.H0 l = none := (G.ow l ⟨i, ds, hd⟩).resolve_right nm
    -- first the slot is forgotten, then the list is a tree
    have L1 : Lc X.K F.T (σ.set i (some (.ref l))) B H (Δ.set i .non) := L.setN
    have nm1 : ¬ isMut (Δ.set i .non) l := fun ⟨j, d, q⟩ => by
      by_cases hj : i = j
      · subst hj; rw [List.getElem?_set_self hi] at q; cases q
      · rw [List.getElem?_set_ne hj] at q
        exact L.ds i j l l ds d hj hd q rfl
    obtain ⟨L2, dp⟩ := L1.froze e3 e2 e4 nm1
    have es : σ.set i (some (.ref l)) = σ := by
      apply List.ext_getElem?
      intro j
      by_cases hj : i = j
      · subst hj
        rw [List.getElem?_set_self (by rw [L.len]; exact hi), sl_some e1]
      · rw [List.getElem?_set_ne hj]
    have L3 := L2.setD (i := i) dp
    have e5 : (Δ.set i En.non).set i (.dat (.list ds)) = Δ.set i (.dat (.list ds)) := by simp
    rw [e5, es, es] at L3
    refine tB_sub (Sub.new (o := .lst vs) e2) L3 ⟨G.sub0.trans (Sub.new e2), fun a q q' => ?_, G.kp, G.hh, fun l' ⟨j, d, q⟩ => ?_, G.am⟩ ⟨k1, k2, k3, k4⟩
    · by_cases ha : a = l
      · subst ha; exact h0
      · rw [upd_ne ha] at q'; exact G.fr a q q'
    · by_cases hj : i = j
      · subst hj; rw [List.getElem?_set_self hi] at q; cases q
      · rw [List.getElem?_set_ne hj] at q; exact G.ow l' ⟨j, d, q⟩
theorem isMut_set {i : Nat} {e : En} {l : Addr} (h : isMut (Δ.set i e) l) : isMut Δ l ∨ ∃ ds, e = .own l ds := by
  obtain ⟨j, ds, q⟩ := h
  by_cases hj : i = j
  · subst hj
    by_cases hl : i < Δ.length
    · rw [List.getElem?_set_self hl] at q; exact .inr ⟨ds, Option.some.inj q⟩
    · rw [List.getElem?_eq_none (by simpa using hl)] at q; cases q
  · rw [List.getElem?_set_ne hj] at q; exact .inl ⟨j, ds, q⟩
theorem Glb.setD {i : Nat} {d : D} {B H : Hp} (G : Glb F Δ B H) : Glb F (Δ.set i (.dat d)) B H := G.ent fun l h => (isMut_set h).elim (G.ow l) fun ⟨_, z⟩ => nomatch z
theorem Glb.setN {i : Nat} {B H : Hp} (G : Glb F Δ B H) : Glb F (Δ.set i .non) B H := G.ent fun l h => (isMut_set h).elim (G.ow l) fun ⟨_, z⟩ => nomatch z
theorem Glb.setO {i : Nat} {l : Addr} {ds : List D} {B H : Hp} (G : Glb F Δ B H) (h0 : F.H0 l = none ∨ isMut F.as l) : Glb F (Δ.set i (.own l ds)) B H := G.ent fun l' h => (isMut_set h).elim (G.ow l') fun ⟨_, z⟩ => by cases z; exact h0
/-- x = e -/
theorem bs_set {i : Nat} {x : Str} (hN : X.N.Nodup) (hi : X.N[i]? = some x) (hx : Loc X.env.scope x) (h : DE F.T X Δ e fun d Δ' => P.nx (Δ'.set i (.dat d))) (hs : swapsWith e (some (.Name x p)) pos.line X.env = pure false := by rfl)
    (hf : X.fn x = true ∨ X.env.scope.names.lookup x = some .local := by first | exact .inl rfl | exact .inr rfl | assumption) : BS F X Δ (.Assign [.Name x p] e pos) P :=
  PS.weak (ps_set hN hi hx h hs hf) fun D σ H ⟨B, L, G, k1, k2, k3, k4⟩ => ⟨B, L, fun d Δ' v B' H' q S L' dv => k1 _ _ B' H' q (L'.setD dv) (G.step S).setD S.bb⟩
/-- x = e, e a new list that stays ours -/
theorem bs_setN {i : Nat} {x : Str} (hN : X.N.Nodup) (hi : X.N[i]? = some x) (hx : Loc X.env.scope x) (h : DN F.T X Δ e fun ds Δ' => ∀ l, ¬ isMut F.as l → ¬ isMut Δ' l → P.nx (Δ'.set i (.own l ds))) (hs : swapsWith e (some (.Name x p)) pos.line X.env = pure false := by rfl)
    (hf : X.fn x = true ∨ X.env.scope.names.lookup x = some .local := by first | exact .inl rfl | exact .inr rfl | assumption) : BS F X Δ (.Assign [.Name x p] e pos) P :=
  PS.weak (ps_set hN hi hx h hs hf) fun D σ H ⟨B, L, G, k1, k2, k3, k4⟩ => ⟨B, L, fun ds Δ' l vs B' H' q S L' n e1 b1 m1 al => by
    have h0 : F.H0 l = none := by
      cases z : F.H0 l with
      | none => rfl
      | some o => exact absurd n (G.kp l (by rw [z]; simp))
    exact k1 _ _ B' H' (q l (fun z => G.am l z h0) m1) (L'.setE ⟨rfl, b1, vs, e1, al⟩ fun l2 d2 z j ds' hj hq => by cases z; exact m1 ⟨j, ds', hq⟩) ((G.step S).setO (.inl h0)) S.bb⟩
/-- x = [.. for ..] on one line, a local name -/
theorem bs_lc {i : Nat} {x : Str} {elt tg iter : Expr} {ifs : List Expr} {scope : Scope} {own : List (Str × Nat)} {f : FT} {is : List Nat} {spos : Pos} (hc : X.calm = true) (hN : X.N.Nodup) (hi : X.N[i]? = some x) (hxl : X.env.scope.names.lookup x = some .local)
    (hsw : swapsWith (.ListComp elt [⟨tg, iter, ifs, 0⟩] scope pos) (some (.Name x p)) spos.line X.env = pure true) (ok : BlkOk X.N X.env.scope scope own) (hl : ifs = [] ∨ ∃ c, ifs = [c]) (mf : Mono f) (hg : AllB X scope fun Y => DG F.T Y tg f is) (his : ∀ i ∈ is, i ∈ own.map (·.2))
    (h : DI F.T X Δ tg iter fun ds I Δ1 => ∃ G : Nat → List D → List En → Prop, G 0 [] (wipeE Δ1 (own.map (·.2))) ∧ (∀ i acc Δ2, G i acc Δ2 → I Δ2) ∧
      (∀ i d acc Δ2, ds[i]? = some d → G i acc Δ2 → f d Δ2 fun Δ3 => TurnD F.T X scope (own.map (·.2)) elt ifs (G (i + 1)) acc Δ3) ∧ ds.length ≤ 10000 ∧ ∀ acc Δ2, G ds.length acc Δ2 → P.nx (Δ2.set i (.dat (.list acc))))
    (hs : ∀ x, foldedSetIterable iter X.env x = pure x := by intro _; rfl) : BS F X Δ (.Assign [.Name x p] (.ListComp elt [⟨tg, iter, ifs, 0⟩] scope pos) spos) P := by
  obtain ⟨tt, ht, wi, hw, w⟩ := lc_read (elt := elt) (Q := fun acc Δ2 => P.nx (Δ2.set i (.dat (.list acc)))) hc hN ok hl mf hg his h
  have hg' : AllB X scope fun Y => PG Y tg (gF X.K F.T f is) := hg
  refine PS.weak (ps_setLc hc hN hi hxl hsw hw ok hg' ht (pe_lB (T := F.T)) hs) fun D σ H ⟨B, L, G, k1, k2, k3, k4⟩ => ?_
  refine w σ H _ ⟨B, L, fun ds Δ' l vs B' H' q S L' n e1 b1 m1 al => ?_⟩
  obtain ⟨L2, dp⟩ := L'.froze e1 b1 al m1
  exact k1 _ _ _ H' q (L2.setD dp) (G.step (S.froze' n b1)).setD (S.froze' n b1).bb
theorem bs_lcN {i : Nat} {x : Str} {elt tg iter : Expr} {ifs : List Expr} {scope : Scope} {own : List (Str × Nat)} {f : FT} {is : List Nat} {spos : Pos} (hc : X.calm = true) (hN : X.N.Nodup) (hi : X.N[i]? = some x) (hxl : X.env.scope.names.lookup x = some .local)
    (hsw : swapsWith (.ListComp elt [⟨tg, iter, ifs, 0⟩] scope pos) (some (.Name x p)) spos.line X.env = pure true) (ok : BlkOk X.N X.env.scope scope own) (hl : ifs = [] ∨ ∃ c, ifs = [c]) (mf : Mono f) (hg : AllB X scope fun Y => DG F.T Y tg f is) (his : ∀ i ∈ is, i ∈ own.map (·.2))
    (h : DI F.T X Δ tg iter fun ds I Δ1 => ∃ G : Nat → List D → List En → Prop, G 0 [] (wipeE Δ1 (own.map (·.2))) ∧ (∀ i acc Δ2, G i acc Δ2 → I Δ2) ∧
      (∀ i d acc Δ2, ds[i]? = some d → G i acc Δ2 → f d Δ2 fun Δ3 => TurnD F.T X scope (own.map (·.2)) elt ifs (G (i + 1)) acc Δ3) ∧ ds.length ≤ 10000 ∧ ∀ acc Δ2, G ds.length acc Δ2 → ∀ l, ¬ isMut F.as l → ¬ isMut Δ2 l → P.nx (Δ2.set i (.own l acc)))
    (hs : ∀ x, foldedSetIterable iter X.env x = pure x := by intro _; rfl) : BS F X Δ (.Assign [.Name x p] (.ListComp elt [⟨tg, iter, ifs, 0⟩] scope pos) spos) P := by
  obtain ⟨tt, ht, wi, hw, w⟩ := lc_read (elt := elt) (Q := fun acc Δ2 => ∀ l, ¬ isMut F.as l → ¬ isMut Δ2 l → P.nx (Δ2.set i (.own l acc))) hc hN ok hl mf hg his h
  have hg' : AllB X scope fun Y => PG Y tg (gF X.K F.T f is) := hg
  refine PS.weak (ps_setLc hc hN hi hxl hsw hw ok hg' ht (pe_lB (T := F.T)) hs) fun D σ H ⟨B, L, G, k1, k2, k3, k4⟩ => ?_
  refine w σ H _ ⟨B, L, fun ds Δ' l vs B' H' q S L' n e1 b1 m1 al => ?_⟩
  have h0 : F.H0 l = none := by
    cases z : F.H0 l with
    | none => rfl
    | some o => exact absurd n (G.kp l (by rw [z]; simp))
  exact k1 _ _ B' H' (q l (fun z => G.am l z h0) m1) (L'.setE ⟨rfl, b1, vs, e1, al⟩ fun l2 d2 z j ds' hj hq => by cases z; exact m1 ⟨j, ds', hq⟩) ((G.step S).setO (.inl h0)) S.bb
/-- target = e, any target of trees -/
theorem bs_asg {tg : Expr} {f : FT} {is : List Nat} (mf : Mono f) (hg : DG F.T X tg f is) (h : DE F.T X Δ e fun d Δ' => f d Δ' P.nx) (hs : swapsWithSole [tg] e pos.line X.env = pure false := by rfl) (hw : swappedStores [tg] e X.env = pure none := by rfl)
    (h1 : (assignEach [tg] X.env).map (·.2) = [assign tg X.env] := by rfl) : BS F X Δ (.Assign [tg] e pos) P :=
  PS.weak (ps_asg h hg hs hw h1) fun D σ H ⟨B, L, G, k1, k2, k3, k4⟩ => ⟨B, L, fun d Δ' v B' H' q S L' dv => ⟨B', d, Δ', L', dv, mf _ _ _ _ q fun Δ2 q2 σ2 B2 H2 S2 L2 _ => k1 Δ2 σ2 B2 H2 q2 L2 (G.step (S.trans S2)) (S.trans S2).bb⟩⟩
/-- own[i] = .. as a target -/
abbrev fS (T : List NTab) (X : Cx) (i : Nat) (ix : Expr) : FT := fun d Δ k => (∃ l ds, Δ[i]? = some (.own l ds)) ∧ DE T X Δ ix (isI fun j Δ1 => ∃ l ds n, Δ1[i]? = some (.own l ds) ∧ ixN ds.length j = some n ∧ k (Δ1.set i (.own l (ds.set n d))))
theorem mono_s {T : List NTab} {i : Nat} {ix : Expr} : Mono (fS T X i ix) := fun d Δ k k' ⟨h0, h⟩ w => ⟨h0, h.mono fun d Δ1 ⟨j, e, l, ds, n, h1, h2, h3⟩ => ⟨j, e, l, ds, n, h1, h2, w _ h3⟩⟩
theorem dg_sub {T : List NTab} {i : Nat} {x : Str} {ix : Expr} {p2 : Pos} (hN : X.N[i]? = some x) (hv : Vis X.env.scope x) (h1 : (x == ("__debug__" : Str)) = false := by decide) (h2 : (x == ("__classdict__" : Str)) = false := by decide)
    (ha : ∀ v, assign (.Subscript (.Name x p2) ix pos) X.env v = (do
      let ov ← holding [v] (eval (.Name x p2) X.env)
      let iv ← holding [v, ov] (eval ix X.env)
      standAt pos
      holding [v, ov, iv] (setItem ov iv v)
      release [v, ov, iv] []) := by intro _; rfl) : DG T X (.Subscript (.Name x p2) ix pos) (fS T X i ix) [] :=
  PG.weak (pg_sub (pe_var hN hv h1 h2) (pe_l (T := T)) set_list ha) fun v σ H R ⟨B, d, Δ, L, dv, ⟨l0, ds0, hd⟩, h⟩ => by
    obtain ⟨e1, _, _⟩ := L.mutAt hd
    refine ⟨.ref l0, sl_some e1, Δ, _, h.mono fun y Δ1 q => q, B, L, fun y Δ2 u B2 H2 ⟨j, e2, l, ds, n, h3, h4, q⟩ S2 L2 du => ?_⟩
    subst e2; cases du
    obtain ⟨f1, f2, vs, f3, f4⟩ := L2.mutAt h3
    rw [e1] at f1
    cases f1
    obtain ⟨L3, S3⟩ := L2.setM h3 (f4.set (dv.sub S2.bb) n)
    refine ⟨l0, vs, j, n, rfl, rfl, f3, by rw [f4.length]; exact h4, ?_⟩
    exact q σ _ _ (S2.trans S3) L3 ⟨rfl, fun _ _ => rfl⟩
def avE : Av → En
  | .d x => .dat x
  | .n l ds => .own l ds
  | .m _ => .non
theorem avE_ok {K : Frag} {σ : L2.St} {B H : Hp} {v : V} {a : Av} (h : AvOk K σ B H Δ v a) : EnOk K B H (some v) (avE a) := by
  cases a with
  | d x => exact ⟨v, rfl, h⟩
  | m i => trivial
  | n l ds => obtain ⟨h1, h2, _, h3⟩ := h; exact ⟨by rw [h1], h2, h3⟩
/-- storing an argument value: what stays known of the others -/
theorem store_av {K : Frag} {T : List NTab} {σ : L2.St} {B H : Hp} {v : V} {a : Av} {i : Nat} (L : Lc K T σ B H Δ) (h : AvOk K σ B H Δ v a) : Lc K T (σ.set i (some v)) B H (Δ.set i (avE a)) := by
  refine L.setE (avE_ok h) fun l ds e j ds' hj hq => ?_
  cases a with
  | d x => cases e
  | m i => cases e
  | n l' ds2 =>
    cases e
    obtain ⟨_, _, h3, _⟩ := h
    exact h3 ⟨j, ds', hq⟩
theorem av_later {K : Frag} {σ σ' : L2.St} {B H : Hp} {v : V} {a a0 : Av} {i : Nat} (h : AvOk K σ B H Δ v a) (hm : ∀ k, a ≠ .m k) (hd : ∀ l ds ds', a = .n l ds → a0 ≠ .n l ds') : AvOk K σ' B H (Δ.set i (avE a0)) v a := by
  cases a with
  | d x => exact h
  | m k => exact absurd rfl (hm k)
  | n l ds =>
    obtain ⟨h1, h2, h3, h4⟩ := h
    refine ⟨h1, h2, fun z => ?_, h4⟩
    rcases isMut_set z with z | ⟨ds', z⟩
    · exact h3 z
    · cases a0 with
      | d x => cases z
      | m i => cases z
      | n l' d' => cases z; exact hd l ds ds' rfl rfl
theorem Glb.setAv {B H : Hp} {i : Nat} {a : Av} (G : Glb F Δ B H) (h : ∀ l ds, a = .n l ds → F.H0 l = none) : Glb F (Δ.set i (avE a)) B H := by
  cases a with
  | d x => exact G.setD
  | m k => exact G.setN
  | n l ds => exact G.setO (.inl (h l ds rfl))
abbrev noM (a : Av) : Prop := match a with | .m _ => False | _ => True
theorem noM_ne {a : Av} (h : noM a) : ∀ k, a ≠ .m k := fun k e => by subst e; exact h
theorem news_mem {avs : List Av} {l : Addr} {ds : List D} (h : Av.n l ds ∈ avs) : l ∈ news avs := by
  induction avs with
  | nil => simp at h
  | cons a r ih =>
    rcases List.mem_cons.mp h with e | h'
    · subst e; exact List.mem_cons_self
    · have q := ih h'
      cases a with
      | n l' d' => exact List.mem_cons_of_mem _ q
      | d x => exact q
      | m i => exact q
theorem bs_par2 {i j : Nat} {x y : Str} {px py pt : Pos} {kt k2 pt2} (hc : X.calm = true) (hN : X.N.Nodup) (hi : X.N[i]? = some x) (hj : X.N[j]? = some y) (hij : i ≠ j) (hx : X.env.scope.names.lookup x = some .local) (hy : X.env.scope.names.lookup y = some .local)
    (h : DA F.T X Δ [a, b] fun avs Δ' => ∃ u v, avs = [u, v] ∧ noM u ∧ noM v ∧ ((∀ l ds, (u = .n l ds ∨ v = .n l ds) → ¬ isMut F.as l ∧ ¬ isMut Δ' l) → P.nx ((Δ'.set i (avE u)).set j (avE v))))
    (hw : swappedStores [.Tuple [.Name x px, .Name y py] kt pt] (.Tuple [a, b] k2 pt2) X.env = pure (some [x, y]))
    (hs : swapsWithSole [.Tuple [.Name x px, .Name y py] kt pt] (.Tuple [a, b] k2 pt2) pos.line X.env = pure false := by rfl) :
    BS F X Δ (.Assign [.Tuple [.Name x px, .Name y py] kt pt] (.Tuple [a, b] k2 pt2) pos) P :=
  PS.weak (ps_par hc hN hi hj hij hx hy h hw hs) fun D σ H ⟨B, L, G, k1, k2, k3, k4⟩ => ⟨B, L, fun avs Δ' vs B' H' ⟨u, v, e, n1, n2, q⟩ S L' al nd fr => by
    subst e
    cases al with
    | cons a1 al =>
      cases al with
      | cons a2 al =>
        cases al
        have h0 : ∀ l ds, (u = .n l ds ∨ v = .n l ds) → F.H0 l = none := fun l ds z => by
          have hl : l ∈ news [u, v] := news_mem (ds := ds) (by rcases z with z | z <;> simp [z])
          have := fr l hl
          cases w : F.H0 l with
          | none => rfl
          | some o => exact absurd this (G.kp l (by rw [w]; simp))
        have hne : ∀ l ds ds', v = .n l ds → u ≠ .n l ds' := fun l ds ds' e1 e2 => by
          subst e1 e2
          have : (l :: l :: []).Nodup := nd
          simp at this
        have hm : ∀ l ds, (u = .n l ds ∨ v = .n l ds) → ¬ isMut F.as l ∧ ¬ isMut Δ' l := fun l ds z => ⟨fun y => G.am l y (h0 l ds z), by
          rcases z with z | z
          · subst z; exact a1.2.2.1
          · subst z; exact a2.2.2.1⟩
        exact ⟨_, _, rfl, k1 _ _ B' H' (q hm) (store_av (store_av L' a1) (av_later a2 (noM_ne n2) fun l ds ds' e => hne l ds ds' e)) (((G.step S).setAv fun l ds z => h0 l ds (.inl z)).setAv fun l ds z => h0 l ds (.inr z)) S.bb⟩⟩
theorem bs_par3 {i j k : Nat} {x y z : Str} {c : Expr} {px py pz pt : Pos} {kt k2 pt2} (hc : X.calm = true) (hN : X.N.Nodup) (hi : X.N[i]? = some x) (hj : X.N[j]? = some y) (hk : X.N[k]? = some z) (hij : i ≠ j) (hik : i ≠ k) (hjk : j ≠ k) (hx : X.env.scope.names.lookup x = some .local) (hy : X.env.scope.names.lookup y = some .local) (hz : X.env.scope.names.lookup z = some .local)
    (h : DA F.T X Δ [a, b, c] fun avs Δ' => ∃ u v w, avs = [u, v, w] ∧ noM u ∧ noM v ∧ noM w ∧ ((∀ l ds, (u = .n l ds ∨ v = .n l ds ∨ w = .n l ds) → ¬ isMut F.as l ∧ ¬ isMut Δ' l) → (∀ l l' ds ds', u = .n l ds → v = .n l' ds' → l ≠ l') → P.nx (((Δ'.set i (avE u)).set j (avE v)).set k (avE w))))
    (hw : swappedStores [.Tuple [.Name x px, .Name y py, .Name z pz] kt pt] (.Tuple [a, b, c] k2 pt2) X.env = pure (some [x, y, z]))
    (hs : swapsWithSole [.Tuple [.Name x px, .Name y py, .Name z pz] kt pt] (.Tuple [a, b, c] k2 pt2) pos.line X.env = pure false := by rfl) :
    BS F X Δ (.Assign [.Tuple [.Name x px, .Name y py, .Name z pz] kt pt] (.Tuple [a, b, c] k2 pt2) pos) P :=
  PS.weak (ps_par3 hc hN hi hj hk hij hik hjk hx hy hz h hw hs) fun D σ H ⟨B, L, G, k1, k2, k3, k4⟩ => ⟨B, L, fun avs Δ' vs B' H' ⟨u, v, w, e, n1, n2, n3, q⟩ S L' al nd fr => by
    subst e
    cases al with
    | cons a1 al =>
      cases al with
      | cons a2 al =>
        cases al with
        | cons a3 al =>
          cases al
          have h0 : ∀ l ds, (u = .n l ds ∨ v = .n l ds ∨ w = .n l ds) → F.H0 l = none := fun l ds z => by
            have hl : l ∈ news [u, v, w] := news_mem (ds := ds) (by rcases z with z | z | z <;> simp [z])
            have := fr l hl
            cases w : F.H0 l with
            | none => rfl
            | some o => exact absurd this (G.kp l (by rw [w]; simp))
          have ne12 : ∀ l ds ds', v = .n l ds → u ≠ .n l ds' := fun l ds ds' e1 e2 => by
            subst e1 e2
            have : (l :: l :: news [w]).Nodup := nd
            simp at this
          have ne13 : ∀ l ds ds', w = .n l ds → u ≠ .n l ds' := fun l ds ds' e1 e2 => by
            subst e1 e2
            have : (l :: news [v, .n l ds]).Nodup := nd
            exact (List.nodup_cons.mp this).1 (news_mem (ds := ds) (by simp))
          have ne23 : ∀ l ds ds', w = .n l ds → v ≠ .n l ds' := fun l ds ds' e1 e2 => by
            subst e1 e2
            have h2 : (news [Av.n l ds', Av.n l ds]).Nodup := by
              cases u with
              | n l' d' => exact (List.nodup_cons.mp (show (l' :: news [Av.n l ds', Av.n l ds]).Nodup from nd)).2
              | d x => exact nd
              | m i => exact nd
            have : (l :: l :: []).Nodup := h2
            simp at this
          have hm : ∀ l ds, (u = .n l ds ∨ v = .n l ds ∨ w = .n l ds) → ¬ isMut F.as l ∧ ¬ isMut Δ' l := fun l ds z => ⟨fun y => G.am l y (h0 l ds z), by
            rcases z with z | z | z
            · subst z; exact a1.2.2.1
            · subst z; exact a2.2.2.1
            · subst z; exact a3.2.2.1⟩
          exact ⟨_, _, _, rfl, k1 _ _ B' H' (q hm fun l l' ds ds' e1 e2 e3 => by subst e3; exact ne12 l ds' ds e2 e1) (store_av (i := k) (store_av (i := j) (store_av (i := i) L' a1) (av_later a2 (noM_ne n2) fun l ds ds' e => ne12 l ds ds' e)) (av_later (av_later (σ' := σ) a3 (noM_ne n3) fun l ds ds' e => ne13 l ds ds' e) (noM_ne n3) fun l ds ds' e => ne23 l ds ds' e)) ((((G.step S).setAv fun l ds z => h0 l ds (.inl z)).setAv fun l ds z => h0 l ds (.inr (.inl z))).setAv fun l ds z => h0 l ds (.inr (.inr z))) S.bb⟩⟩
theorem bs_pass (h : P.nx Δ) : BS F X Δ (.Pass pos) P := PS.weak ps_pass fun D σ H ⟨B, L, G, k1, _⟩ => k1 Δ σ B H h L G (Sub.refl B)
/-- an expression dropped -/
theorem bs_expr (h : DE F.T X Δ e fun _ Δ' => P.nx Δ') (hs : swapsWith e none pos.line X.env = pure false := by rfl) : BS F X Δ (.Expr e pos) P :=
  PS.weak (ps_expr h hs) fun D σ H ⟨B, L, G, k1, _⟩ => ⟨B, L, fun d Δ' v B' H' q S L' dv => k1 Δ' σ B' H' q L' (G.step S) S.bb⟩
theorem bs_ret (h : DE F.T X Δ e fun d Δ' => P.rt (.dat d) Δ') : BS F X Δ (.Return (some e) pos) P :=
  PS.weak (ps_ret h) fun D σ H ⟨B, L, G, k1, k2, _⟩ => ⟨B, L, fun d Δ' v B' H' q S L' dv => k2 _ Δ' v σ B' H' q L' (G.step S) dv⟩
theorem bs_retN (h : DN F.T X Δ e fun ds Δ' => ∀ l, P.rt (.own l ds) Δ') : BS F X Δ (.Return (some e) pos) P :=
  PS.weak (ps_ret h) fun D σ H ⟨B, L, G, k1, k2, _⟩ => ⟨B, L, fun ds Δ' l vs B' H' q S L' n e1 b1 m1 al => k2 _ Δ' _ σ B' H' (q l) L' (G.step S) ⟨rfl, by
    cases z : F.H0 l with
    | none => rfl
    | some o => exact absurd n (G.kp l (by rw [z]; simp)), b1, m1, vs, e1, al⟩⟩
/-- return x, x a list of ours that no argument is -/
theorem bs_retO {i : Nat} {x : Str} {l : Addr} {ds : List D} (hN : X.N[i]? = some x) (hv : Vis X.env.scope x) (hd : Δ[i]? = some (.own l ds)) (nm : ¬ isMut F.as l) (h : P.rt (.own l ds) (Δ.set i .non)) (h1 : (x == ("__debug__" : Str)) = false := by decide) (h2 : (x == ("__classdict__" : Str)) = false := by decide) : BS F X Δ (.Return (some (.Name x p)) pos) P :=
  PS.weak (ps_ret (pe_var hN hv h1 h2)) fun D σ H ⟨B, L, G, k1, k2, _⟩ => by
    obtain ⟨e1, e2, vs, e3, e4⟩ := L.mutAt hd
    have hi : i < Δ.length := (List.getElem?_eq_some_iff.mp hd).1
    refine ⟨.ref l, sl_some e1, k2 _ _ _ (σ.set i (some (.ref l))) B H h L.setN G.setN ⟨rfl, (G.ow l ⟨i, ds, hd⟩).resolve_right nm, e2, fun ⟨j, d, q⟩ => ?_, vs, e3, e4⟩⟩
    by_cases hj : i = j
    · subst hj; rw [List.getElem?_set_self hi] at q; cases q
    · rw [List.getElem?_set_ne hj] at q
      exact L.ds i j l l ds d hj hd q rfl
theorem bs_if {c : Expr} {yes no : List Stmt} (h : DT F.T X Δ c fun t Δ' => (t = true → BL F X Δ' yes P) ∧ (t = false → BL F X Δ' no P)) : BS F X Δ (.If c yes no pos) P :=
  PS.weak (ps_if h (pss_l (F := F)) (pss_l (F := F))) fun D σ H ⟨B, L, G, k⟩ => ⟨B, L, fun t Δ' B' H' ⟨q1, q2⟩ S L' => by
    cases t with
    | true => exact ⟨Δ', P, q1 rfl, tB_sub S.bb L' (G.step S) k⟩
    | false => exact ⟨Δ', P, q2 rfl, tB_sub S.bb L' (G.step S) k⟩⟩
/-- x op= e, ints -/
theorem bs_augAdd {i : Nat} {x : Str} {n : Int} (hN : X.N.Nodup) (hi : X.N[i]? = some x) (hx : Loc X.env.scope x) (hd : Δ[i]? = some (.dat (.int n))) (h : DE F.T X Δ e (isI fun m Δ' => P.nx (Δ'.set i (.dat (.int (n + m))))))
    (hf : X.fn x = true ∨ X.env.scope.names.lookup x = some .local := by first | exact .inl rfl | exact .inr rfl | assumption) : BS F X Δ (.AugAssign (.Name x p) .Add e pos) P :=
  PS.weak (ps_aug hN hi hx h ip_add hf) fun D σ H ⟨B, L, G, k1, _⟩ => by
    obtain ⟨v, e1, dv0⟩ := L.datAt hd
    cases dv0
    exact ⟨_, sl_some e1, B, L, fun d Δ' v B' H' ⟨m, e, q⟩ S L' dv => by subst e; cases dv; exact ⟨n, m, rfl, rfl, k1 _ _ B' H' q (L'.setD (.int _)) (G.step S).setD S.bb⟩⟩
theorem get_list : PGet X (rIxL X.K) := fun pins s σ H o i ov iv Q I r1 r2 h => by
  obtain ⟨p, xs, j, v, rfl, rfl, hs, ha, q⟩ := h
  cases r1
  obtain ⟨t, rfl⟩ := r2
  obtain ⟨its, r, pl, hz⟩ := I.list hs
  obtain ⟨n, h1, h2, h3, h4, h5⟩ := atI_get ha
  obtain ⟨u, hu, ru⟩ := r.get h2
  have hl := r.length
  have hn := line63
  by_cases h0 : 0 ≤ j
  · have hj : j.toNat = n := by
      rw [seqIndex_of h0 h5] at h1
      exact Option.some.inj h1
    exact wpAny_getItem_list pl.isList h0 (by omega) (by rw [hj]; simpa using hu) ⟨v, H, I, ru, q⟩
  · have hj : (j + (its.toArray.size : Int)).toNat = n := by
      rw [seqIndex_neg (by omega) h4] at h1
      rw [List.size_toArray, ← hl]
      exact Option.some.inj h1
    exact wpAny_getItem_list_neg pl.isList (by omega) (by rw [List.size_toArray] <;> omega) (by omega) (by rw [hj]; simpa using hu) ⟨v, H, I, ru, q⟩
end
end DL

set_option Elab.async false
set_option linter.all false
set_option maxRecDepth 100000
set_option maxHeartbeats 4000000
namespace DL
open PySem PySem.Spec PyProof.Rows L2 NdefX
section
variable {F : Fm} {X : Cx} {Δ : List En} {e a b : Expr} {st : Stmt} {rest body : List Stmt} {P : DEnds} {pos p : Pos}
/-- own[i] op= e -/
theorem bs_augOwn {op : Operator} {f : Int → Int → Int} {i : Nat} {x : Str} {ix : Expr} {p2 p3 : Pos} (ho : PIp X op (ipI f)) (hN : X.N[i]? = some x) (hv : Vis X.env.scope x) (hd : ∃ l ds, Δ[i]? = some (.own l ds))
    (h : DE F.T X Δ ix (isI fun j Δ1 => (∃ l ds, Δ1[i]? = some (.own l ds) ∧ ∃ m, atI ds j = some (.int m) ∧ DE F.T X Δ1 e (isI fun n Δ2 => ∃ l ds k, Δ2[i]? = some (.own l ds) ∧ ixN ds.length j = some k ∧ P.nx (Δ2.set i (.own l (ds.set k (.int (f m n))))))))) 
    (h1 : (x == ("__debug__" : Str)) = false := by decide) (h2 : (x == ("__classdict__" : Str)) = false := by decide)
    (ha : ∀ ov iv new, augStore ix ov iv new = (do holding [new, ov, iv] (setItem ov iv new); release [new, ov, iv] []; pure .next) := by intros; rfl) : BS F X Δ (.AugAssign (.Subscript (.Name x p2) ix p3) op e pos) P :=
  PS.weak (ps_augS (pe_var hN hv h1 h2) (pe_l (T := F.T)) get_list (pe_l (T := F.T)) ho set_list ha) fun D σ H ⟨B, L, G, k1, _⟩ => by
    obtain ⟨l0, ds0, hd⟩ := hd
    obtain ⟨e1, _, _⟩ := L.mutAt hd
    refine ⟨.ref l0, sl_some e1, Δ, _, h, B, L, fun y Δ1 u B1 H1 ⟨j, ej, l, ds, h3, m, h4, h5⟩ S1 L1 du => ?_⟩
    subst ej; cases du
    obtain ⟨f1, f2, vs, f3, f4⟩ := L1.mutAt h3
    rw [e1] at f1
    cases f1
    obtain ⟨w, g1, g2⟩ := atI_dp f4 h4
    cases g2
    refine ⟨l0, vs, j, _, rfl, rfl, .inl (.inl f3), g1, Δ1, _, h5, B1, L1, fun z Δ2 u2 B2 H2 ⟨n, en, l', ds', k, q1, q2, q3⟩ S2 L2 du2 => ?_⟩
    subst en; cases du2
    obtain ⟨f1, f2', vs', f3', f4'⟩ := L2.mutAt q1
    rw [e1] at f1
    cases f1
    obtain ⟨L3, S3⟩ := L2.setM q1 (f4'.set (.int (f m n)) k)
    exact ⟨m, n, rfl, rfl, l0, vs', j, k, rfl, rfl, f3', by rw [f4'.length]; exact q2, k1 _ σ _ _ q3 L3 (G.step ((S1.trans S2).trans S3)) ((S1.trans S2).trans S3).bb⟩
/-- own.append(e) -/
theorem bs_append {i : Nat} {x : Str} {p2 p3 p4 : Pos} (hN : X.N[i]? = some x) (hv : Vis X.env.scope x) (hd : ∃ l ds, Δ[i]? = some (.own l ds)) (h : DE F.T X Δ e fun d Δ1 => ∃ l ds, Δ1[i]? = some (.own l ds) ∧ ds.length < 10000 ∧ P.nx (Δ1.set i (.own l (ds ++ [d]))))
    (hpe : ∀ {to : TE} {t : TA}, PE X (.Name x p2) to → PA X [e] t → PE X (.Call (.Attribute (.Name x p2) "append" p3) [e] [] pos) (tBM X.K "list" rAppend to t))
    (hs : swapsWith (.Call (.Attribute (.Name x p2) "append" p3) [e] [] pos) none p4.line X.env = pure false := by rfl) (he : starEach [e] X.env = (false, eval e X.env) :: starEach [] X.env := by rfl)
    (h1 : (x == ("__debug__" : Str)) = false := by decide) (h2 : (x == ("__classdict__" : Str)) = false := by decide) : BS F X Δ (.Expr (.Call (.Attribute (.Name x p2) "append" p3) [e] [] pos) p4) P :=
  PS.weak (ps_expr (hpe (pe_var hN hv h1 h2) (pa_cons (pe_l (T := F.T)) pa_nil he)) hs) fun D σ H ⟨B, L, G, k1, _⟩ => by
    obtain ⟨l0, ds0, hd⟩ := hd
    obtain ⟨e1, _, ws, e3, _⟩ := L.mutAt hd
    refine ⟨.ref l0, sl_some e1, .inl ⟨rfl, ws, .inl (.inl e3)⟩, Δ, _, h, B, L, fun d Δ1 v B1 H1 ⟨l, ds, h3, hz, q⟩ S1 L1 dv => ?_⟩
    obtain ⟨f1, f2, vs, f3, f4⟩ := L1.mutAt h3
    rw [e1] at f1
    cases f1
    obtain ⟨L3, S3⟩ := L1.setM h3 (f4.snoc dv)
    exact ⟨l0, vs, v, rfl, rfl, f3, by rw [f4.length]; exact Nat.lt_trans hz (by decide), k1 _ σ _ _ q L3 (G.step (S1.trans S3)) (S1.trans S3).bb⟩
/-- own.pop(e), a place that is there -/
theorem de_pop {T : List NTab} {Q : QD} {i : Nat} {x : Str} {p2 p3 : Pos} (hN : X.N[i]? = some x) (hv : Vis X.env.scope x) (hd : ∃ l ds, Δ[i]? = some (.own l ds)) (h : DE T X Δ e (isI fun j Δ1 => ∃ l ds d, Δ1[i]? = some (.own l ds) ∧ 0 ≤ j ∧ j < 2 ^ 62 ∧ ds[j.toNat]? = some d ∧ Q d (Δ1.set i (.own l (ds.eraseIdx j.toNat)))))
    (hpe : ∀ {to : TE} {t : TA}, PE X (.Name x p2) to → PA X [e] t → PE X (.Call (.Attribute (.Name x p2) "pop" p3) [e] [] pos) (tBM X.K "list" rPopAt to t)) (he : starEach [e] X.env = (false, eval e X.env) :: starEach [] X.env := by rfl)
    (h1 : (x == ("__debug__" : Str)) = false := by decide) (h2 : (x == ("__classdict__" : Str)) = false := by decide) : DE T X Δ (.Call (.Attribute (.Name x p2) "pop" p3) [e] [] pos) Q :=
  PE.weak (hpe (pe_var hN hv h1 h2) (pa_cons (pe_l (T := T)) pa_nil he)) fun σ H R ⟨B, L, k⟩ => by
    obtain ⟨l0, ds0, hd⟩ := hd
    obtain ⟨e1, _, ws, e3, _⟩ := L.mutAt hd
    refine ⟨.ref l0, sl_some e1, .inl ⟨rfl, ws, .inl (.inl e3)⟩, Δ, _, h, B, L, fun d Δ1 v B1 H1 ⟨j, ej, l, ds, d, h3, j0, j1, h4, q⟩ S1 L1 dv => ?_⟩
    subst ej; cases dv
    obtain ⟨f1, f2, vs, f3, f4⟩ := L1.mutAt h3
    rw [e1] at f1
    cases f1
    obtain ⟨w, g1, g2⟩ := f4.get h4
    obtain ⟨L3, S3⟩ := L1.setM h3 (f4.eraseIdx j.toNat)
    have hj : j.toNat < vs.length := (List.getElem?_eq_some_iff.mp g1).1
    refine ⟨l0, vs, j, j.toNat, w, rfl, rfl, f3, by omega, by omega, ?_, g1, k d _ w _ _ q (S1.trans S3) L3 g2⟩
    rw [seqIndex_of j0 (by omega)]
theorem bs_for {tg iter : Expr} {f : FT} {is : List Nat} (hp : PassesOwn (model X.prog X.w) X.A X.env X.xe) (hc : X.calm = true) (mf : Mono f) (hg : DG F.T X tg f is)
    (h : DI F.T X Δ tg iter fun ds I Δ1 => ∃ G : Nat → List En → Prop, G 0 Δ1 ∧ (∀ i Δ2, G i Δ2 → I Δ2) ∧ (∀ i d Δ2, ds[i]? = some d → G i Δ2 → f d Δ2 fun Δ3 => BL F X Δ3 body { nx := G (i + 1), rt := P.rt, bk := P.nx, ct := G (i + 1) }) ∧ ∀ Δ2, G ds.length Δ2 → P.nx Δ2)
    (hs : ∀ x, foldedSetIterable iter X.env x = pure x := by intro _; rfl) : BS F X Δ (.For tg iter body [] pos) P :=
  PS.weak (ps_for hp hc h hg (pss_l (F := F)) hs) fun D σ H ⟨B, L, G, k1, k2, k3, k4⟩ => ⟨B, L, fun J ds I Δ1 B1 H1 ⟨Gv, g0, gI, gs, gd⟩ S1 L1 src => by
    refine ⟨fun i m σ' H' => m = ds.length - i ∧ i ≤ ds.length ∧ ∃ B' Δ2, Lc X.K F.T σ' B' H' Δ2 ∧ Glb F Δ2 B' H' ∧ Sub B1 B' ∧ Gv i Δ2, ⟨_, rfl, Nat.zero_le _, B1, Δ1, L1, G.step S1, Sub.refl _, g0⟩, ?_⟩
    rintro i m σ' H' ⟨rfl, hi, B', Δ2, L2, G2, sb, g⟩
    by_cases hlt : i < ds.length
    · refine .inr ⟨src.goes i _ B' H' Δ2 sb L2 (gI i Δ2 g) hlt, fun σ3 H3 => ∃ B3 Δ3, Lc X.K F.T σ3 B3 H3 Δ3 ∧ Glb F Δ3 B3 H3 ∧ Sub B1 B3 ∧ Gv (i + 1) Δ3, fun σ3 H3 q => ⟨ds.length - (i + 1), by omega, rfl, hlt, q⟩, fun x H2 hy => ?_⟩
      obtain ⟨B3, d, hd, L3, S3, dx⟩ := src.yields i _ B' H' Δ2 x H2 sb L2 (gI i Δ2 g) hlt hy
      refine ⟨B3, d, Δ2, L3, dx, mf _ _ _ _ (gs i d Δ2 hd g) fun Δ4 hb σ4 B4 H4 S4 L4 _ => ?_⟩
      -- the body's trees stand above the loop's own
      have sb4 : Sub B1 B4 := (sb.trans S3.bb).trans S4.bb
      exact ⟨Δ4, _, hb, B4, L4, G2.step (S3.trans S4), fun Δ' σ' B' H' q L' G' s => ⟨B', Δ', L', G', sb4.trans s, q⟩, k2, fun Δ' σ' B' H' q L' G' s => k1 Δ' σ' B' H' q L' G' ((S1.bb.trans sb4).trans s), fun Δ' σ' B' H' q L' G' s => ⟨B', Δ', L', G', sb4.trans s, q⟩⟩
    · have e : i = ds.length := by omega
      subst e
      exact .inl ⟨src.stops _ B' H' Δ2 sb L2 (gI _ Δ2 g), k1 _ _ B' H' (gd Δ2 g) L2 G2 (S1.bb.trans sb)⟩⟩
/-- while c: body, the invariant W by a measure -/
theorem bs_while {c : Expr} (hp : PassesOwn (model X.prog X.w) X.A X.env X.xe) (W : Nat → List En → Prop) (h0 : ∃ m, W m Δ)
    (h : ∀ m Δ1, W m Δ1 → DT F.T X Δ1 c fun t Δ2 => (t = true → BL F X Δ2 body { nx := fun Δ3 => ∃ m', m' < m ∧ W m' Δ3, rt := P.rt, bk := P.nx, ct := fun Δ3 => ∃ m', m' < m ∧ W m' Δ3 }) ∧ (t = false → P.nx Δ2)) : BS F X Δ (.While c body [] pos) P :=
  PS.weak (ps_while hp (pt_l (T := F.T)) (pss_l (F := F))) fun D σ H ⟨B, L, G, k1, k2, k3, k4⟩ => by
    obtain ⟨m0, w0⟩ := h0
    refine ⟨fun m σ' H' => ∃ B' Δ', Lc X.K F.T σ' B' H' Δ' ∧ Glb F Δ' B' H' ∧ Sub B B' ∧ W m Δ', ⟨m0, B, Δ, L, G, Sub.refl B, w0⟩, ?_⟩
    rintro m σ1 H1 ⟨B1, Δ1, L1, G1, sb, w1⟩
    refine ⟨Δ1, _, h m Δ1 w1, B1, L1, fun t Δ2 B2 H2 ⟨q1, q2⟩ S L2 => ?_⟩
    cases t with
    | true =>
      rw [if_pos rfl]
      have sb2 := sb.trans S.bb
      refine ⟨fun σ3 H3 => ∃ B3 Δ3, Lc X.K F.T σ3 B3 H3 Δ3 ∧ Glb F Δ3 B3 H3 ∧ Sub B B3 ∧ ∃ m', m' < m ∧ W m' Δ3, fun σ3 H3 ⟨B3, Δ3, L3, G3, s3, m', lt, w3⟩ => ⟨m', lt, B3, Δ3, L3, G3, s3, w3⟩, ?_⟩
      exact ⟨Δ2, _, q1 rfl, B2, L2, G1.step S, fun Δ' σ' B' H' q L' G' s => ⟨B', Δ', L', G', sb2.trans s, q⟩, k2, fun Δ' σ' B' H' q L' G' s => k1 Δ' σ' B' H' q L' G' (sb2.trans s), fun Δ' σ' B' H' q L' G' s => ⟨B', Δ', L', G', sb2.trans s, q⟩⟩
    | false =>
      rw [if_neg Bool.false_ne_true]
      exact k1 _ _ _ _ (q2 rfl) L2 (G1.step S) (sb.trans S.bb)
end
end DL

set_option Elab.async false
set_option linter.all false
set_option maxRecDepth 100000
set_option maxHeartbeats 4000000
namespace DL
open PySem PySem.Spec PyProof.Rows L2 NdefX
/-- what the caller still knows of its arguments -/
structure Back (as Δ as' : List En) : Prop where
  len : as'.length = as.length
  en : ∀ (i : Nat) (e : En), as'[i]? = some e → e = .non ∨ (∃ d, e = .dat d ∧ as[i]? = some (.dat d)) ∨ ∃ l ds ds', e = .own l ds ∧ as[i]? = some (.own l ds') ∧ ∃ j : Nat, Δ[j]? = some (.own l ds)
theorem Back.dat {ds : List D} {Δ : List En} : Back (ds.map .dat) Δ (ds.map .dat) := ⟨rfl, fun i e h => .inr (.inl (by
  rw [List.getElem?_map] at h ⊢
  cases q : ds[i]? with
  | none => rw [q] at h; cases h
  | some d => rw [q] at h; cases h; exact ⟨d, rfl, rfl⟩))⟩
def rtB (as : List En) (k : En → List En → Prop) : DEnds where
  nx Δ := ∃ as', Back as Δ as' ∧ k (.dat .none) as'
  rt r Δ := ∃ as', Back as Δ as' ∧ k r as'
theorem Lc.start {K : Frag} {T : List NTab} {B H : Hp} {as : List En} {vs : List V} {N : List Str} (L : Lc K T (vs.map some) B H as) : Lc K T (L2.start N vs) B H (as ++ List.replicate (N.length - as.length) .non) := by
  have hl : vs.length = as.length := by simpa using L.len
  refine ⟨L.bh, L.nt, L.tb, by unfold L2.start; simp [hl], fun i e h => ?_, fun i j l l' ds ds' hij h1 h2 => ?_⟩
  · by_cases hi : i < as.length
    · rw [List.getElem?_append_left hi] at h
      have q := L.en i e h
      have : sl (L2.start N vs) i = sl (vs.map some) i := by
        unfold sl L2.start
        rw [List.getElem?_append_left (by simpa [hl] using hi)]
      rw [this]; exact q
    · rw [List.getElem?_append_right (by omega), List.getElem?_replicate] at h
      split at h
      · cases h; trivial
      · cases h
  · have key : ∀ {i : Nat} {l : Addr} {ds : List D}, (as ++ List.replicate (N.length - as.length) En.non)[i]? = some (.own l ds) → as[i]? = some (.own l ds) := fun {i l ds} h => by
      by_cases hi : i < as.length
      · rwa [List.getElem?_append_left hi] at h
      · rw [List.getElem?_append_right (by omega), List.getElem?_replicate] at h
        split at h <;> cases h
    exact L.ds i j l l' ds ds' hij (key h1) (key h2)
theorem isMut_start {as : List En} {n : Nat} {l : Addr} (h : isMut (as ++ List.replicate n .non) l) : isMut as l := by
  obtain ⟨i, ds, h⟩ := h
  by_cases hi : i < as.length
  · rw [List.getElem?_append_left hi] at h; exact ⟨i, ds, h⟩
  · rw [List.getElem?_append_right (by omega), List.getElem?_replicate] at h
    split at h <;> cases h
theorem back_end {K : Frag} {T : List NTab} {B H B' H' : Hp} {as Δ' as' : List En} {vs : List V} {σ' : L2.St} (L : Lc K T (vs.map some) B H as) (L' : Lc K T σ' B' H' Δ') (G : Glb ⟨T, as, B, H⟩ Δ' B' H') (b : Back as Δ' as') :
    Stp as as' B H B' H' ∧ Lc K T (vs.map some) B' H' as' ∧ ∀ l, isMut as' l → isMut Δ' l := by
  have mu : ∀ l, isMut as' l → isMut as l := fun l ⟨i, ds, q⟩ => by
    rcases b.en i _ q with e | ⟨d, e, _⟩ | ⟨l', ds', ds2, e, h1, _⟩
    · cases e
    · cases e
    · cases e; exact ⟨i, ds2, h1⟩
  refine ⟨⟨G.sub0, G.fr, G.kp, G.hh, mu⟩, ⟨L'.bh, L'.nt, L'.tb, by rw [b.len]; exact L.len, fun i e h => ?_, fun i j l l' ds ds' hij h1 h2 => ?_⟩, fun l ⟨i, ds, q⟩ => ?_⟩
  · rcases b.en i e h with e | ⟨d, e, h1⟩ | ⟨l', ds', ds2, e, h1, j, h2⟩
    · subst e; trivial
    · subst e
      obtain ⟨v, q1, q2⟩ := L.datAt h1
      exact ⟨v, q1, q2.sub G.sub0⟩
    · subst e
      obtain ⟨q1, _⟩ := L.mutAt h1
      obtain ⟨_, q2⟩ := L'.mutAt h2
      exact ⟨q1, q2⟩
  · rcases b.en i _ h1 with e | ⟨d, e, _⟩ | ⟨l1, ds1, ds2, e, a1, _⟩
    · cases e
    · cases e
    · cases e
      rcases b.en j _ h2 with e | ⟨d, e, _⟩ | ⟨l3, ds3, ds4, e, a2, _⟩
      · cases e
      · cases e
      · cases e
        exact L.ds i j _ _ _ _ hij a1 a2
  · rcases b.en i _ q with e | ⟨d, e, _⟩ | ⟨l', ds', ds2, e, h1, j, h2⟩
    · cases e
    · cases e
    · cases e; exact ⟨j, ds, h2⟩
theorem glb_start {T : List NTab} {K : Frag} {B H : Hp} {as : List En} {vs : List V} {n : Nat} (L : Lc K T (vs.map some) B H as) : Glb ⟨T, as, B, H⟩ (as ++ List.replicate n .non) B H :=
  ⟨Sub.refl B, fun a h h' => absurd h h', fun a h => h, fun b o e _ _ => e, fun l h => .inr (isMut_start h), fun l h => L.mutNe h⟩
section
variable {P : Program} {w : World} {K : Frag} {mg : Str → Option Value} {base : Heap} {T : List NTab}
/-- the context of a def's body -/
abbrev cxD (P : Program) (w : World) (K : Frag) (mg : Str → Option Value) (base : Heap) (N : List Str) (x : Str) (sc : Scope) (f : Addr) (cdv : Value) (A : Around) (outer : List Env) (s : Shared) (H : Hp) (E : XK) : Cx := (cxOf CX0 P w K mg base N x sc f cdv A outer s H E).nox
/-- a def of the text, by its body -/
theorem df_ok {k : Nat} {x : Str} {params : Arguments} {body : List Stmt} {sc : Scope} {ps N : List Str} {S : SD} {f : Addr} {fd : FuncData} (F : FunD K x x params body sc [] [] f fd) (hm : mg x = some (.ref f)) (hb : Binds K fd ps []) (SC : C8.scC N ps sc = true) (hl : ∀ as k, S as k → as.length = ps.length)
    (h : ∀ (cdv : Value) (A : Around) (outer : List Env) (s : Shared) (H : Hp) (E : XK), Room k (cxD P w K mg base N x sc f cdv A outer s H E).A → ∀ B as k', S as k' → BL ⟨T, as, B, H⟩ (cxD P w K mg base N x sc f cdv A outer s H E) (as ++ List.replicate (N.length - as.length) .non) body (rtB as k')) :
    Df P w K mg base T (k + 1) x ps S :=
  ⟨f, fd, F.ok (C8.fnScope_by SC) (fun vs H R E ⟨B, as, L, q⟩ => by rw [← hl _ _ q]; simpa using L.len) fun cdv A outer s H vs Q E hr ⟨B, as, L, q⟩ => by
    refine ⟨_, (h cdv A outer s H E hr B as _ q).nox, B, L.start, glb_start L, ?_, ?_, fun Δ' σ' B' H' z => z.elim, fun Δ' σ' B' H' z => z.elim⟩
    · rintro Δ' σ' B' H' ⟨as', b, q2⟩ L' G' _
      obtain ⟨S', L2, _⟩ := back_end L L' G' b
      exact q2 .non B' H' S' L2 .non
    · rintro r Δ' v σ' B' H' ⟨as', b, q2⟩ L' G' rv
      obtain ⟨S', L2, m⟩ := back_end L L' G' b
      refine q2 v B' H' S' L2 ?_
      cases r with
      | non => trivial
      | dat d => exact rv
      | own l ds => obtain ⟨a1, a2, a3, a4, a5⟩ := rv; exact ⟨a1, a2, a3, fun z => a4 (m l z), a5⟩, hm, F.kp, hb⟩
end
/-- from these trees that tree -/
def SP (n : Nat) (pre : List D → D → Prop) : SD := fun as k => ∃ ds r, as = ds.map .dat ∧ ds.length = n ∧ pre ds r ∧ k (.dat r) as
/-- from these trees a new list -/
def SL (n : Nat) (pre : List D → List D → Prop) : SD := fun as k => ∃ ds r, as = ds.map .dat ∧ ds.length = n ∧ pre ds r ∧ ∀ l, k (.own l r) as
theorem SP.mono {n : Nat} {pre : List D → D → Prop} : SMono (SP n pre) := fun as k k' ⟨ds, r, e, hn, h, q⟩ w => ⟨ds, r, e, hn, h, w _ _ q⟩
theorem SL.mono {n : Nat} {pre : List D → List D → Prop} : SMono (SL n pre) := fun as k k' ⟨ds, r, e, hn, h, q⟩ w => ⟨ds, r, e, hn, h, fun l => w _ _ (q l)⟩
theorem map_dat_inj {as bs : List D} (h : as.map En.dat = bs.map En.dat) : as = bs := (List.map_inj_right fun x y e => En.dat.inj e).mp h
section
variable {P : Program} {w : World} {K : Frag} {mg : Str → Option Value} {base : Heap} {T : List NTab}
theorem dp_ok {k n : Nat} {x : Str} {params : Arguments} {body : List Stmt} {sc : Scope} {ps N : List Str} {pre : List D → D → Prop} {f : Addr} {fd : FuncData} (F : FunD K x x params body sc [] [] f fd) (hm : mg x = some (.ref f)) (hb : Binds K fd ps []) (SC : C8.scC N ps sc = true) (hn : n = ps.length)
    (h : ∀ (cdv : Value) (A : Around) (outer : List Env) (s : Shared) (H : Hp) (E : XK), Room k (cxD P w K mg base N x sc f cdv A outer s H E).A → ∀ B ds r, ds.length = n → pre ds r → BL ⟨T, ds.map .dat, B, H⟩ (cxD P w K mg base N x sc f cdv A outer s H E) (ds.map .dat ++ List.replicate (N.length - ds.length) .non) body { nx := fun _ => r = .none, rt := fun r' _ => r' = .dat r }) :
    Df P w K mg base T (k + 1) x ps (SP n pre) :=
  df_ok F hm hb SC (fun as k' ⟨ds, r, e, h1, _⟩ => by rw [e, List.length_map, h1, hn]) fun cdv A outer s H E hr B as k' ⟨ds, r, e, h1, h2, q⟩ => by
    subst e
    have := h cdv A outer s H E hr B ds r h1 h2
    rw [show (ds.map En.dat).length = ds.length from List.length_map ..]
    exact BL.mono this (fun Δ e => ⟨_, Back.dat, by rw [← e]; exact q⟩) (fun r' Δ e => ⟨_, Back.dat, by rw [e]; exact q⟩) (fun _ z => z) fun _ z => z
theorem dl_ok {k n : Nat} {x : Str} {params : Arguments} {body : List Stmt} {sc : Scope} {ps N : List Str} {pre : List D → List D → Prop} {f : Addr} {fd : FuncData} (F : FunD K x x params body sc [] [] f fd) (hm : mg x = some (.ref f)) (hb : Binds K fd ps []) (SC : C8.scC N ps sc = true) (hn : n = ps.length)
    (h : ∀ (cdv : Value) (A : Around) (outer : List Env) (s : Shared) (H : Hp) (E : XK), Room k (cxD P w K mg base N x sc f cdv A outer s H E).A → ∀ B ds r, ds.length = n → pre ds r → BL ⟨T, ds.map .dat, B, H⟩ (cxD P w K mg base N x sc f cdv A outer s H E) (ds.map .dat ++ List.replicate (N.length - ds.length) .non) body { nx := fun _ => False, rt := fun r' _ => ∃ l, r' = .own l r }) :
    Df P w K mg base T (k + 1) x ps (SL n pre) :=
  df_ok F hm hb SC (fun as k' ⟨ds, r, e, h1, _⟩ => by rw [e, List.length_map, h1, hn]) fun cdv A outer s H E hr B as k' ⟨ds, r, e, h1, h2, q⟩ => by
    subst e
    have := h cdv A outer s H E hr B ds r h1 h2
    rw [show (ds.map En.dat).length = ds.length from List.length_map ..]
    exact BL.mono this (fun Δ e => e.elim) (fun r' Δ ⟨l, e⟩ => ⟨_, Back.dat, by rw [e]; exact q l⟩) (fun _ z => z) fun _ z => z
end
section
variable {T : List NTab} {X : Cx} {Δ : List En} {e : Expr} {es : List Expr} {Q : QD} {pos p : Pos}
theorem de_callP {k n : Nat} {x : Str} {ps : List Str} {pre : List D → D → Prop} (G : Df X.prog X.w X.K X.mg X.base T k x ps (SP n pre)) (hr : Room k X.A) (hg : Gl X x) (h : DD T X Δ (e :: es) fun ds Δ1 => ds.length = n ∧ ∃ r, pre ds r ∧ Q r Δ1)
    (hdb : (x == ("__debug__" : Str)) = false := by decide) (he : starEach (e :: es) X.env = (false, eval e X.env) :: starEach es X.env := by rfl) (hpl : (backTo pos (starEach es X.env)).any (·.1) = false := by rfl) : DE T X Δ (.Call (.Name x p) (e :: es) [] pos) Q :=
  de_call G SP.mono hr hg (PA.weak h fun σ H R ⟨B, L, k⟩ => ⟨B, L, fun ds Δ' vs B' H' ⟨hn, r, h1, h2⟩ => k ds Δ' vs B' H' ⟨ds, r, rfl, hn, h1, r, rfl, h2⟩⟩) hdb he hpl
theorem dn_callL {Q : List D → List En → Prop} {k n : Nat} {x : Str} {ps : List Str} {pre : List D → List D → Prop} (G : Df X.prog X.w X.K X.mg X.base T k x ps (SL n pre)) (hr : Room k X.A) (hg : Gl X x) (h : DD T X Δ (e :: es) fun ds Δ1 => ds.length = n ∧ ∃ r, pre ds r ∧ Q r Δ1)
    (hdb : (x == ("__debug__" : Str)) = false := by decide) (he : starEach (e :: es) X.env = (false, eval e X.env) :: starEach es X.env := by rfl) (hpl : (backTo pos (starEach es X.env)).any (·.1) = false := by rfl) : DN T X Δ (.Call (.Name x p) (e :: es) [] pos) Q :=
  dn_call G SL.mono hr hg (PA.weak h fun σ H R ⟨B, L, k⟩ => ⟨B, L, fun ds Δ' vs B' H' ⟨hn, r, h1, h2⟩ => k ds Δ' vs B' H' ⟨ds, r, rfl, hn, h1, fun l => ⟨l, r, rfl, h2⟩⟩⟩) hdb he hpl
end
end DL

set_option Elab.async false
set_option linter.all false
set_option maxRecDepth 100000
set_option maxHeartbeats 4000000
namespace DL
open PySem PySem.Spec PyProof.Rows L2 NdefX
theorem Lc.forget1 {K : Frag} {T : List NTab} {σ : L2.St} {B H : Hp} {Δ : List En} {i : Nat} (L : Lc K T σ B H Δ) : Lc K T σ B H (Δ.set i .non) := by
  refine ⟨L.bh, L.nt, L.tb, by simpa using L.len, fun j e h => ?_, fun j k l l' ds ds' hjk h1 h2 => ?_⟩
  · by_cases hij : i = j
    · subst hij
      by_cases hl : i < Δ.length
      · rw [List.getElem?_set_self hl] at h; cases h; trivial
      · rw [List.getElem?_eq_none (by simpa using hl)] at h; cases h
    · rw [List.getElem?_set_ne hij] at h; exact L.en j e h
  · have key : ∀ {j : Nat} {l : Addr} {ds : List D}, (Δ.set i En.non)[j]? = some (.own l ds) → Δ[j]? = some (.own l ds) := fun {j l ds} h => by
      by_cases hij : i = j
      · subst hij
        by_cases hl : i < Δ.length
        · rw [List.getElem?_set_self hl] at h; cases h
        · rw [List.getElem?_eq_none (by simpa using hl)] at h; cases h
      · rwa [List.getElem?_set_ne hij] at h
    exact L.ds j k l l' ds ds' hjk (key h1) (key h2)
theorem Lc.forget {K : Frag} {T : List NTab} {σ : L2.St} {B H : Hp} {Δ : List En} (L : Lc K T σ B H Δ) : ∀ vs : List Nat, Lc K T σ B H (wipeE Δ vs)
  | [] => L
  | v :: vs => (L.forget vs).forget1
theorem Glb.forget {F : Fm} {B H : Hp} {Δ : List En} (G : Glb F Δ B H) (vs : List Nat) : Glb F (wipeE Δ vs) B H := G.ent fun l h => G.ow l (isMut_wipe h)
section
variable {F : Fm} {X : Cx} {Δ : List En} {e a b : Expr} {st : Stmt} {rest body : List Stmt} {P : DEnds} {pos p : Pos}
/-- slots forgotten -/
theorem bl_forget (vs : List Nat) (h : BL F X (wipeE Δ vs) rest P) : BL F X Δ rest P :=
  PSs.weak h fun D σ H ⟨B, L, G, k⟩ => ⟨B, L.forget vs, G.forget vs, k⟩
/-- the state in another writing -/
theorem bl_as {Δ' : List En} (e : Δ = Δ') (h : BL F X Δ' rest P) : BL F X Δ rest P := e ▸ h
theorem bs_forJ {α β : Type} {tg iter : Expr} {f : FT} {is : List Nat} (hp : PassesOwn (model X.prog X.w) X.A X.env X.xe) (hc : X.calm = true) (mf : Mono f) (hg : DG F.T X tg f is) (vs : List Nat) (xs : List α) (g : α → D) (mk : β → List En) (J : List α → β → Prop)
    (h : DI F.T X Δ tg iter fun ds I Δ1 => ds = xs.map g ∧ (∃ b0, wipeE Δ1 vs = mk b0 ∧ J xs b0) ∧ (∀ b, I (mk b)) ∧
      (∀ x rest b, J (x :: rest) b → f (g x) (mk b) fun Δ3 => BL F X Δ3 body { nx := fun Δ4 => ∃ b', wipeE Δ4 vs = mk b' ∧ J rest b', rt := P.rt, bk := P.nx, ct := fun Δ4 => ∃ b', wipeE Δ4 vs = mk b' ∧ J rest b' }) ∧ ∀ b, J [] b → P.nx (mk b))
    (hs : ∀ x, foldedSetIterable iter X.env x = pure x := by intro _; rfl) : BS F X Δ (.For tg iter body [] pos) P :=
  PS.weak (ps_for hp hc h hg (pss_l (F := F)) hs) fun D σ H ⟨B, L, G, k1, k2, k3, k4⟩ => ⟨B, L, fun J' ds I Δ1 B1 H1 ⟨eds, ⟨b0, w0, j0⟩, gI, gs, gd⟩ S1 L1 src => by
    subst eds
    refine ⟨fun i m σ' H' => m = xs.length - i ∧ i ≤ xs.length ∧ ∃ B' b, Lc X.K F.T σ' B' H' (mk b) ∧ Glb F (mk b) B' H' ∧ Sub B1 B' ∧ J (xs.drop i) b, ⟨_, rfl, Nat.zero_le _, B1, b0, by rw [← w0]; exact L1.forget vs, by rw [← w0]; exact (G.step S1).forget vs, Sub.refl _, j0⟩, ?_⟩
    rintro i m σ' H' ⟨rfl, hi, B', b, L2, G2, sb, g0⟩
    by_cases hlt : i < xs.length
    · refine .inr ⟨src.goes i _ B' H' _ sb L2 (gI b) (by simpa using hlt), fun σ3 H3 => ∃ B3 b', Lc X.K F.T σ3 B3 H3 (mk b') ∧ Glb F (mk b') B3 H3 ∧ Sub B1 B3 ∧ J (xs.drop (i + 1)) b', fun σ3 H3 q => ⟨xs.length - (i + 1), by omega, rfl, hlt, q⟩, fun x H2 hy => ?_⟩
      obtain ⟨B3, d, hd, L3, S3, dx⟩ := src.yields i _ B' H' _ x H2 sb L2 (gI b) (by simpa using hlt) hy
      have hx : xs[i]? = some xs[i] := List.getElem?_eq_getElem hlt
      rw [List.getElem?_map, hx] at hd
      cases hd
      rw [List.drop_eq_getElem_cons hlt] at g0
      refine ⟨B3, _, _, L3, dx, mf _ _ _ _ (gs _ _ b g0) fun Δ4 hb σ4 B4 H4 S4 L4 _ => ?_⟩
      have sb4 : Sub B1 B4 := (sb.trans S3.bb).trans S4.bb
      have nxt : ∀ Δ' σ' B' H', (∃ b', wipeE Δ' vs = mk b' ∧ J (xs.drop (i + 1)) b') → Lc X.K F.T σ' B' H' Δ' → Glb F Δ' B' H' → Sub B4 B' → ∃ B3 b', Lc X.K F.T σ' B3 H' (mk b') ∧ Glb F (mk b') B3 H' ∧ Sub B1 B3 ∧ J (xs.drop (i + 1)) b' := fun Δ' σ' B' H' ⟨b', e, q⟩ L' G' s => ⟨B', b', by rw [← e]; exact L'.forget vs, by rw [← e]; exact G'.forget vs, sb4.trans s, q⟩
      exact ⟨Δ4, _, hb, B4, L4, G2.step (S3.trans S4), nxt, k2, fun Δ' σ' B' H' q L' G' s => k1 Δ' σ' B' H' q L' G' ((S1.bb.trans sb4).trans s), nxt⟩
    · have e : i = xs.length := by omega
      subst e
      refine .inl ⟨?_, k1 _ _ B' H' (gd b (by simpa using g0)) L2 G2 (S1.bb.trans sb)⟩
      have := src.stops _ B' H' _ sb L2 (gI b)
      rwa [List.length_map] at this⟩
/-- while c: body -/
theorem bs_whileJ {β : Type} {c : Expr} (hp : PassesOwn (model X.prog X.w) X.A X.env X.xe) (vs : List Nat) (mk : β → List En) (J : β → Prop) (ms : β → Nat) (h0 : ∃ b0, wipeE Δ vs = mk b0 ∧ J b0)
    (h : ∀ b, J b → DT F.T X (mk b) c fun t Δ2 => (t = true → BL F X Δ2 body { nx := fun Δ3 => ∃ b', wipeE Δ3 vs = mk b' ∧ J b' ∧ ms b' < ms b, rt := P.rt, bk := P.nx, ct := fun Δ3 => ∃ b', wipeE Δ3 vs = mk b' ∧ J b' ∧ ms b' < ms b }) ∧ (t = false → P.nx Δ2)) : BS F X Δ (.While c body [] pos) P :=
  PS.weak (ps_while hp (pt_l (T := F.T)) (pss_l (F := F))) fun D σ H ⟨B, L, G, k1, k2, k3, k4⟩ => by
    obtain ⟨b0, w0, j0⟩ := h0
    refine ⟨fun m σ' H' => ∃ B' b, Lc X.K F.T σ' B' H' (mk b) ∧ Glb F (mk b) B' H' ∧ Sub B B' ∧ J b ∧ ms b = m, ⟨_, B, b0, by rw [← w0]; exact L.forget vs, by rw [← w0]; exact G.forget vs, Sub.refl B, j0, rfl⟩, ?_⟩
    rintro m σ1 H1 ⟨B1, b, L1, G1, sb, w1, rfl⟩
    refine ⟨mk b, _, h b w1, B1, L1, fun t Δ2 B2 H2 ⟨q1, q2⟩ S L2 => ?_⟩
    cases t with
    | true =>
      rw [if_pos rfl]
      have sb2 := sb.trans S.bb
      refine ⟨fun σ3 H3 => ∃ B3 b', Lc X.K F.T σ3 B3 H3 (mk b') ∧ Glb F (mk b') B3 H3 ∧ Sub B B3 ∧ J b' ∧ ms b' < ms b, fun σ3 H3 ⟨B3, b', L3, G3, s3, j3, lt⟩ => ⟨_, lt, B3, b', L3, G3, s3, j3, rfl⟩, ?_⟩
      have nxt : ∀ Δ' σ' B' H', (∃ b', wipeE Δ' vs = mk b' ∧ J b' ∧ ms b' < ms b) → Lc X.K F.T σ' B' H' Δ' → Glb F Δ' B' H' → Sub B2 B' → ∃ B3 b', Lc X.K F.T σ' B3 H' (mk b') ∧ Glb F (mk b') B3 H' ∧ Sub B B3 ∧ J b' ∧ ms b' < ms b := fun Δ' σ' B' H' ⟨b', e, j, lt⟩ L' G' s => ⟨B', b', by rw [← e]; exact L'.forget vs, by rw [← e]; exact G'.forget vs, sb2.trans s, j, lt⟩
      exact ⟨Δ2, _, q1 rfl, B2, L2, G1.step S, nxt, k2, fun Δ' σ' B' H' q L' G' s => k1 Δ' σ' B' H' q L' G' (sb2.trans s), nxt⟩
    | false =>
      rw [if_neg Bool.false_ne_true]
      exact k1 _ _ _ _ (q2 rfl) L2 (G1.step S) (sb.trans S.bb)
end
end DL

set_option Elab.async false
set_option linter.all false
set_option maxRecDepth 100000
set_option maxHeartbeats 4000000
namespace DL
open PySem PySem.Spec PyProof.Rows L2 NdefX
section
variable {T : List NTab} {X : Cx} {Δ : List En} {e a b : Expr} {es : List Expr} {Q : QD} {pos p : Pos}
def seqOf (t : Bool) (ds : List D) : D := if t then .tuple ds else .list ds
def rInS (K : Frag) (neg : Bool) : R2 := fun x y H Q => ∃ d ds t, Dp K H x d ∧ Dp K H y (seqOf t ds) ∧ SeqAt.shaped d = true ∧ SeqAt.shaped (seqOf t ds) = true ∧ Q (.bl (if neg then !(ds.any fun z => PyData.eqv z d) else ds.any fun z => PyData.eqv z d)) H
theorem op_inS (hu : X.A.units + 65 < cLine) : OpR X (compareOp .In) (rInS X.K false) := by
  intro pins s σ H x y v u Q I rx ry h
  obtain ⟨d, ds, t, hd, he, sd, se, q⟩ := h
  obtain ⟨as, r1⟩ := Dp.reads I d x v hd rx
  cases t with
  | true =>
    obtain ⟨bs, r2⟩ := Dp.reads I (.tuple ds) y u he ry
    exact SeqAt.in_tuple_reads r2 r1 (SeqAt.canLay_of_shaped se) (SeqAt.canLay_of_shaped sd) (room_in_shaped sd hu) ⟨.bl _, H, I, rfl, q⟩
  | false =>
    obtain ⟨bs, r2⟩ := Dp.reads I (.list ds) y u he ry
    exact SeqAt.in_list_reads r2 r1 (SeqAt.canLay_of_shaped se) (SeqAt.canLay_of_shaped sd) (room_in_shaped sd hu) ⟨.bl _, H, I, rfl, q⟩
theorem op_notInS (hu : X.A.units + 65 < cLine) : OpR X (compareOp .NotIn) (rInS X.K true) := by
  intro pins s σ H x y v u Q I rx ry h
  obtain ⟨d, ds, t, hd, he, sd, se, q⟩ := h
  obtain ⟨as, r1⟩ := Dp.reads I d x v hd rx
  cases t with
  | true =>
    obtain ⟨bs, r2⟩ := Dp.reads I (.tuple ds) y u he ry
    exact SeqAt.notIn_tuple_reads r2 r1 (SeqAt.canLay_of_shaped se) (SeqAt.canLay_of_shaped sd) (room_in_shaped sd hu) ⟨.bl _, H, I, rfl, q⟩
  | false =>
    obtain ⟨bs, r2⟩ := Dp.reads I (.list ds) y u he ry
    exact SeqAt.notIn_list_reads r2 r1 (SeqAt.canLay_of_shaped se) (SeqAt.canLay_of_shaped sd) (room_in_shaped sd hu) ⟨.bl _, H, I, rfl, q⟩
theorem o_in {neg : Bool} {x y : D} {t : Bool} {ds : List D} (hy : seqD y = some (t, ds)) (sx : SeqAt.shaped x = true) (sy : SeqAt.shaped y = true) (q : Q (.bool (if neg then !(ds.any fun z => PyData.eqv z x) else ds.any fun z => PyData.eqv z x)) Δ) : Op2 T X.K (rInS X.K neg) x y Δ Q := fun σ B H v u R L dv du k => by
  have ey : y = seqOf t ds := by
    cases y <;> simp [seqD] at hy
    all_goals (obtain ⟨h1, h2⟩ := hy; subst h1 h2; rfl)
  subst ey
  exact ⟨x, ds, t, dv.sub L.bh, du.sub L.bh, sx, sy, k _ Δ _ B H q Stp.refl L (.bl _)⟩
theorem de_in (hu : X.A.units + 65 < cLine) (hm : behindInMarks .In b = false) (h : DE T X Δ a fun x Δ1 => DE T X Δ1 b fun y Δ2 => ∃ t ds, seqD y = some (t, ds) ∧ SeqAt.shaped x = true ∧ SeqAt.shaped y = true ∧ Q (.bool (ds.any fun z => PyData.eqv z x)) Δ2) : DE T X Δ (.Compare a [.In] [b] pos) Q :=
  de_cmp (op_inS hu) hm (h.mono fun x Δ1 h => h.mono fun y Δ2 ⟨t, ds, h1, h2, h3, q⟩ => o_in h1 h2 h3 q)
theorem de_notIn (hu : X.A.units + 65 < cLine) (hm : behindInMarks .NotIn b = false) (h : DE T X Δ a fun x Δ1 => DE T X Δ1 b fun y Δ2 => ∃ t ds, seqD y = some (t, ds) ∧ SeqAt.shaped x = true ∧ SeqAt.shaped y = true ∧ Q (.bool (!ds.any fun z => PyData.eqv z x)) Δ2) : DE T X Δ (.Compare a [.NotIn] [b] pos) Q :=
  de_cmp (op_notInS hu) hm (h.mono fun x Δ1 h => h.mono fun y Δ2 ⟨t, ds, h1, h2, h3, q⟩ => o_in h1 h2 h3 q)
theorem dt_in {Q : Bool → List En → Prop} (hu : X.A.units + 65 < cLine) (hm : behindInMarks .In b = false) (h : DE T X Δ a fun x Δ1 => DE T X Δ1 b fun y Δ2 => ∃ t ds, seqD y = some (t, ds) ∧ SeqAt.shaped x = true ∧ SeqAt.shaped y = true ∧ Q (ds.any fun z => PyData.eqv z x) Δ2) : DT T X Δ (.Compare a [.In] [b] pos) Q :=
  dt_cmp (op_inS hu) hm (h.mono fun x Δ1 h => h.mono fun y Δ2 ⟨t, ds, h1, h2, h3, q⟩ => o_in h1 h2 h3 ⟨_, rfl, q⟩)
theorem dt_notIn {Q : Bool → List En → Prop} (hu : X.A.units + 65 < cLine) (hm : behindInMarks .NotIn b = false) (h : DE T X Δ a fun x Δ1 => DE T X Δ1 b fun y Δ2 => ∃ t ds, seqD y = some (t, ds) ∧ SeqAt.shaped x = true ∧ SeqAt.shaped y = true ∧ Q (!ds.any fun z => PyData.eqv z x) Δ2) : DT T X Δ (.Compare a [.NotIn] [b] pos) Q :=
  dt_cmp (op_notInS hu) hm (h.mono fun x Δ1 h => h.mono fun y Δ2 ⟨t, ds, h1, h2, h3, q⟩ => o_in h1 h2 h3 ⟨_, rfl, q⟩)
/-- a new list, or (it is empty) another -/
theorem dn_or {Q : List D → List En → Prop} (h : DN T X Δ a fun ds Δ1 => (ds ≠ [] → Q ds Δ1) ∧ (ds = [] → DN T X Δ1 b Q)) : DN T X Δ (.BoolOp .Or [a, b] pos) Q :=
  PE.weak (pe_orT h (pe_one (pos := pos) (op := .Or) (⟨fun pins s σ H R I ⟨_, _, h, q⟩ => PE.run h pins s σ H R I q⟩ : PE X b fun σ H R => ∃ Δ Q, DN T X Δ b Q ∧ tN X.K T Δ Q σ H R))) fun σ H R ⟨B, L, k⟩ => ⟨B, L, fun ds Δ' l vs B' H' ⟨q1, q2⟩ S L' n e1 b1 m1 al => by
    refine ⟨!vs.isEmpty, .inl ⟨vs, .inl (.inl e1), rfl⟩, ?_⟩
    cases al with
    | nil =>
      refine ⟨Δ', _, q2 rfl, B', L', fun ds Δ2 l2 ws B2 H2 q S2 L2 n2 f1 b2 m2 al2 => k ds Δ2 l2 ws B2 H2 q (S.trans S2) L2 (free_back S n2) f1 b2 m2 al2⟩
    | cons a1 al =>
      exact k _ Δ' l _ B' H' (q1 (by simp)) S L' n e1 b1 m1 (.cons a1 al)⟩
end
end DL

set_option Elab.async false
set_option linter.all false
set_option maxRecDepth 100000
set_option maxHeartbeats 400000
namespace Wk
open PySem PySem.Spec PyProof.Rows L2 NdefX DL
/-- a def of the text as it stands -/
structure Fd (K : DL.Frag) (mg : Str → Option Value) (x : Str) (i : Nat) (f : Addr) (fd : FuncData) : Prop where
  fn : FunD K x x (defArgs (Hd.top i)) (defBody (Hd.top i)) (defScope (Hd.top i)) [] [] f fd
  mg : mg x = some (.ref f)
section
variable {K : DL.Frag} {mg : Str → Option Value} {f : Addr} {fd : FuncData}
/- 0 matter  1 bit -/
def N_tupled : List Str := ["matter", "bit"]
theorem nd_tupled : N_tupled.Nodup := by decide +kernel
theorem sc_tupled : C8.scC N_tupled ["matter"] (defScope (Hd.top 4)) = true := by decide +kernel
theorem bn_tupled (F : Fd K mg "tupled" 4 f fd) : Binds K fd ["matter"] [] := F.fn.bindsN fun _ _ _ _ _ _ us hl => match us, hl with | [_], _ => rfl
/- 0 size -/
def N_nothing : List Str := ["size"]
theorem nd_nothing : N_nothing.Nodup := by decide +kernel
theorem sc_nothing : C8.scC N_nothing ["size"] (defScope (Hd.top 5)) = true := by decide +kernel
theorem bn_nothing (F : Fd K mg "nothing" 5 f fd) : Binds K fd ["size"] [] := F.fn.bindsN fun _ _ _ _ _ _ us hl => match us, hl with | [_], _ => rfl
/- 0 place  1 size  2 spot -/
def N_unit : List Str := ["place", "size", "spot"]
theorem nd_unit : N_unit.Nodup := by decide +kernel
theorem sc_unit : C8.scC N_unit ["place", "size"] (defScope (Hd.top 6)) = true := by decide +kernel
theorem bn_unit (F : Fd K mg "unit" 6 f fd) : Binds K fd ["place", "size"] [] := F.fn.bindsN fun _ _ _ _ _ _ us hl => match us, hl with | [_, _], _ => rfl
/- 0 size  1 place -/
def N_units : List Str := ["size", "place"]
theorem nd_units : N_units.Nodup := by decide +kernel
theorem sc_units : C8.scC N_units ["size"] (defScope (Hd.top 7)) = true := by decide +kernel
theorem bn_units (F : Fd K mg "units" 7 f fd) : Binds K fd ["size"] [] := F.fn.bindsN fun _ _ _ _ _ _ us hl => match us, hl with | [_], _ => rfl
/- 0 row  1 other  2 bit  3 its -/
def N_shown : List Str := ["row", "other", "bit", "its"]
theorem nd_shown : N_shown.Nodup := by decide +kernel
theorem sc_shown : C8.scC N_shown ["row", "other"] (defScope (Hd.top 8)) = true := by decide +kernel
theorem bn_shown (F : Fd K mg "shown" 8 f fd) : Binds K fd ["row", "other"] [] := F.fn.bindsN fun _ _ _ _ _ _ us hl => match us, hl with | [_, _], _ => rfl
/- 0 one  1 other  2 bit  3 its -/
def N_rows_plus : List Str := ["one", "other", "bit", "its"]
theorem nd_rows_plus : N_rows_plus.Nodup := by decide +kernel
theorem sc_rows_plus : C8.scC N_rows_plus ["one", "other"] (defScope (Hd.top 9)) = true := by decide +kernel
theorem bn_rows_plus (F : Fd K mg "rows_plus" 9 f fd) : Binds K fd ["one", "other"] [] := F.fn.bindsN fun _ _ _ _ _ _ us hl => match us, hl with | [_, _], _ => rfl
/- 0 one  1 other  2 bit  3 its -/
def N_rows_less : List Str := ["one", "other", "bit", "its"]
theorem nd_rows_less : N_rows_less.Nodup := by decide +kernel
theorem sc_rows_less : C8.scC N_rows_less ["one", "other"] (defScope (Hd.top 10)) = true := by decide +kernel
theorem bn_rows_less (F : Fd K mg "rows_less" 10 f fd) : Binds K fd ["one", "other"] [] := F.fn.bindsN fun _ _ _ _ _ _ us hl => match us, hl with | [_, _], _ => rfl
/- 0 row  1 times  2 bit -/
def N_row_times : List Str := ["row", "times", "bit"]
theorem nd_row_times : N_row_times.Nodup := by decide +kernel
theorem sc_row_times : C8.scC N_row_times ["row", "times"] (defScope (Hd.top 11)) = true := by decide +kernel
theorem bn_row_times (F : Fd K mg "row_times" 11 f fd) : Binds K fd ["row", "times"] [] := F.fn.bindsN fun _ _ _ _ _ _ us hl => match us, hl with | [_, _], _ => rfl
/- 0 times  1 rows  2 size  3 found  4 many  5 row -/
def N_rows_added : List Str := ["times", "rows", "size", "found", "many", "row"]
theorem nd_rows_added : N_rows_added.Nodup := by decide +kernel
theorem sc_rows_added : C8.scC N_rows_added ["times", "rows", "size"] (defScope (Hd.top 12)) = true := by decide +kernel
theorem bn_rows_added (F : Fd K mg "rows_added" 12 f fd) : Binds K fd ["times", "rows", "size"] [] := F.fn.bindsN fun _ _ _ _ _ _ us hl => match us, hl with | [_, _, _], _ => rfl
/- 0 rows  1 size  2 place  3 row -/
def N_columns : List Str := ["rows", "size", "place", "row"]
theorem nd_columns : N_columns.Nodup := by decide +kernel
theorem sc_columns : C8.scC N_columns ["rows", "size"] (defScope (Hd.top 13)) = true := by decide +kernel
theorem bn_columns (F : Fd K mg "columns" 13 f fd) : Binds K fd ["rows", "size"] [] := F.fn.bindsN fun _ _ _ _ _ _ us hl => match us, hl with | [_, _], _ => rfl
/- 0 number  1 size -/
def N_round_by : List Str := ["number", "size"]
theorem nd_round_by : N_round_by.Nodup := by decide +kernel
theorem sc_round_by : C8.scC N_round_by ["number", "size"] (defScope (Hd.top 14)) = true := by decide +kernel
theorem bn_round_by (F : Fd K mg "round_by" 14 f fd) : Binds K fd ["number", "size"] [] := F.fn.bindsN fun _ _ _ _ _ _ us hl => match us, hl with | [_, _], _ => rfl
/- 0 place  1 far_off -/
def N_led_by : List Str := ["place", "far_off"]
theorem nd_led_by : N_led_by.Nodup := by decide +kernel
theorem sc_led_by : C8.scC N_led_by ["place"] (defScope (Hd.top 16)) = true := by decide +kernel
theorem bn_led_by (F : Fd K mg "led_by" 16 f fd) : Binds K fd ["place"] [] := F.fn.bindsN fun _ _ _ _ _ _ us hl => match us, hl with | [_], _ => rfl
/- 0 rows  1 long  2 found  3 left  4 place  5 some  6 rest  7 head  8 row -/
def N_stepped : List Str := ["rows", "long", "found", "left", "place", "some", "rest", "head", "row"]
theorem nd_stepped : N_stepped.Nodup := by decide +kernel
theorem sc_stepped : C8.scC N_stepped ["rows", "long"] (defScope (Hd.top 17)) = true := by decide +kernel
theorem bn_stepped (F : Fd K mg "stepped" 17 f fd) : Binds K fd ["rows", "long"] [] := F.fn.bindsN fun _ _ _ _ _ _ us hl => match us, hl with | [_, _], _ => rfl
/- 0 row  1 place  2 number -/
def N_whole_lead : List Str := ["row", "place", "number"]
theorem nd_whole_lead : N_whole_lead.Nodup := by decide +kernel
theorem sc_whole_lead : C8.scC N_whole_lead ["row"] (defScope (Hd.top 18)) = true := by decide +kernel
theorem bn_whole_lead (F : Fd K mg "whole_lead" 18 f fd) : Binds K fd ["row"] [] := F.fn.bindsN fun _ _ _ _ _ _ us hl => match us, hl with | [_], _ => rfl
/- 0 rows  1 row  2 long  3 many  4 made  5 left  6 own  7 place  8 often  9 rest  10 near  11 unit -/
def N_times_for : List Str := ["rows", "row", "long", "many", "made", "left", "own", "place", "often", "rest", "near", "unit"]
theorem nd_times_for : N_times_for.Nodup := by decide +kernel
theorem sc_times_for : C8.scC N_times_for ["rows", "row"] (defScope (Hd.top 19)) = true := by decide +kernel
theorem bn_times_for (F : Fd K mg "times_for" 19 f fd) : Binds K fd ["rows", "row"] [] := F.fn.bindsN fun _ _ _ _ _ _ us hl => match us, hl with | [_, _], _ => rfl
/- 0 rows  1 row -/
def N_is_made : List Str := ["rows", "row"]
theorem nd_is_made : N_is_made.Nodup := by decide +kernel
theorem sc_is_made : C8.scC N_is_made ["rows", "row"] (defScope (Hd.top 20)) = true := by decide +kernel
theorem bn_is_made (F : Fd K mg "is_made" 20 f fd) : Binds K fd ["rows", "row"] [] := F.fn.bindsN fun _ _ _ _ _ _ us hl => match us, hl with | [_, _], _ => rfl
/- 0 rows  1 row  2 found -/
def N_made_by : List Str := ["rows", "row", "found"]
theorem nd_made_by : N_made_by.Nodup := by decide +kernel
theorem sc_made_by : C8.scC N_made_by ["rows", "row"] (defScope (Hd.top 21)) = true := by decide +kernel
theorem bn_made_by (F : Fd K mg "made_by" 21 f fd) : Binds K fd ["rows", "row"] [] := F.fn.bindsN fun _ _ _ _ _ _ us hl => match us, hl with | [_, _], _ => rfl
/- 0 rows  1 size  2 column -/
def N_turned_about : List Str := ["rows", "size", "column"]
theorem nd_turned_about : N_turned_about.Nodup := by decide +kernel
theorem sc_turned_about : C8.scC N_turned_about ["rows", "size"] (defScope (Hd.top 22)) = true := by decide +kernel
theorem bn_turned_about (F : Fd K mg "turned_about" 22 f fd) : Binds K fd ["rows", "size"] [] := F.fn.bindsN fun _ _ _ _ _ _ us hl => match us, hl with | [_, _], _ => rfl
/- 0 rows  1 at  2 found  3 near  4 row  5 far  6 number -/
def N_least_spot : List Str := ["rows", "at", "found", "near", "row", "far", "number"]
theorem nd_least_spot : N_least_spot.Nodup := by decide +kernel
theorem sc_least_spot : C8.scC N_least_spot ["rows", "at"] (defScope (Hd.top 23)) = true := by decide +kernel
theorem bn_least_spot (F : Fd K mg "least_spot" 23 f fd) : Binds K fd ["rows", "at"] [] := F.fn.bindsN fun _ _ _ _ _ _ us hl => match us, hl with | [_, _], _ => rfl
/- 0 rows  1 one  2 other -/
def N_exchanged : List Str := ["rows", "one", "other"]
theorem nd_exchanged : N_exchanged.Nodup := by decide +kernel
theorem sc_exchanged : C8.scC N_exchanged ["rows", "one", "other"] (defScope (Hd.top 24)) = true := by decide +kernel
theorem bn_exchanged (F : Fd K mg "exchanged" 24 f fd) : Binds K fd ["rows", "one", "other"] [] := F.fn.bindsN fun _ _ _ _ _ _ us hl => match us, hl with | [_, _, _], _ => rfl
/- 0 rows  1 at  2 from_row  3 often  4 near  5 far -/
def N_taken_from : List Str := ["rows", "at", "from_row", "often", "near", "far"]
theorem nd_taken_from : N_taken_from.Nodup := by decide +kernel
theorem sc_taken_from : C8.scC N_taken_from ["rows", "at", "from_row", "often"] (defScope (Hd.top 25)) = true := by decide +kernel
theorem bn_taken_from (F : Fd K mg "taken_from" 25 f fd) : Binds K fd ["rows", "at", "from_row", "often"] [] := F.fn.bindsN fun _ _ _ _ _ _ us hl => match us, hl with | [_, _, _, _], _ => rfl
/- 0 rows  1 beside  2 at  3 number  4 often  5 row -/
def N_cleared : List Str := ["rows", "beside", "at", "number", "often", "row"]
theorem nd_cleared : N_cleared.Nodup := by decide +kernel
theorem sc_cleared : C8.scC N_cleared ["rows", "beside", "at"] (defScope (Hd.top 26)) = true := by decide +kernel
theorem bn_cleared (F : Fd K mg "cleared" 26 f fd) : Binds K fd ["rows", "beside", "at"] [] := F.fn.bindsN fun _ _ _ _ _ _ us hl => match us, hl with | [_, _, _], _ => rfl
/- 0 rows  1 at  2 number  3 bit -/
def N_first_odd : List Str := ["rows", "at", "number", "bit"]
theorem nd_first_odd : N_first_odd.Nodup := by decide +kernel
theorem sc_first_odd : C8.scC N_first_odd ["rows", "at"] (defScope (Hd.top 27)) = true := by decide +kernel
theorem bn_first_odd (F : Fd K mg "first_odd" 27 f fd) : Binds K fd ["rows", "at"] [] := F.fn.bindsN fun _ _ _ _ _ _ us hl => match us, hl with | [_, _], _ => rfl
/- 0 rows  1 left  2 right  3 at  4 wide  5 near  6 far  7 beside  8 odd -/
def N_corner_made : List Str := ["rows", "left", "right", "at", "wide", "near", "far", "beside", "odd"]
theorem nd_corner_made : N_corner_made.Nodup := by decide +kernel
theorem sc_corner_made : C8.scC N_corner_made ["rows", "left", "right", "at"] (defScope (Hd.top 28)) = true := by decide +kernel
theorem bn_corner_made (F : Fd K mg "corner_made" 28 f fd) : Binds K fd ["rows", "left", "right", "at"] [] := F.fn.bindsN fun _ _ _ _ _ _ us hl => match us, hl with | [_, _, _, _], _ => rfl
/- 0 table  1 rows  2 many  3 wide  4 left  5 right  6 at  7 row  8 bit  9 place -/
def N_diagonal : List Str := ["table", "rows", "many", "wide", "left", "right", "at", "row", "bit", "place"]
theorem nd_diagonal : N_diagonal.Nodup := by decide +kernel
theorem sc_diagonal : C8.scC N_diagonal ["table"] (defScope (Hd.top 29)) = true := by decide +kernel
theorem bn_diagonal (F : Fd K mg "diagonal" 29 f fd) : Binds K fd ["table"] [] := F.fn.bindsN fun _ _ _ _ _ _ us hl => match us, hl with | [_], _ => rfl
/- 0 table -/
def N_steps_of : List Str := ["table"]
theorem nd_steps_of : N_steps_of.Nodup := by decide +kernel
theorem sc_steps_of : C8.scC N_steps_of ["table"] (defScope (Hd.top 30)) = true := by decide +kernel
theorem bn_steps_of (F : Fd K mg "steps_of" 30 f fd) : Binds K fd ["table"] [] := F.fn.bindsN fun _ _ _ _ _ _ us hl => match us, hl with | [_], _ => rfl
/- 0 wish  1 near  2 _ -/
def N_near_of : List Str := ["wish", "near", "_"]
theorem nd_near_of : N_near_of.Nodup := by decide +kernel
theorem sc_near_of : C8.scC N_near_of ["wish"] (defScope (Hd.top 32)) = true := by decide +kernel
theorem bn_near_of (F : Fd K mg "near_of" 32 f fd) : Binds K fd ["wish"] [] := F.fn.bindsN fun _ _ _ _ _ _ us hl => match us, hl with | [_], _ => rfl
/- 0 wish  1 _  2 far -/
def N_far_of : List Str := ["wish", "_", "far"]
theorem nd_far_of : N_far_of.Nodup := by decide +kernel
theorem sc_far_of : C8.scC N_far_of ["wish"] (defScope (Hd.top 33)) = true := by decide +kernel
theorem bn_far_of (F : Fd K mg "far_of" 33 f fd) : Binds K fd ["wish"] [] := F.fn.bindsN fun _ _ _ _ _ _ us hl => match us, hl with | [_], _ => rfl
/- 0 wish  1 size  2 hours  3 goal  4 rows  5 found  6 near  7 own  8 hour -/
def N_hidden_for : List Str := ["wish", "size", "hours", "goal", "rows", "found", "near", "own", "hour"]
theorem nd_hidden_for : N_hidden_for.Nodup := by decide +kernel
theorem sc_hidden_for : C8.scC N_hidden_for ["wish", "size", "hours"] (defScope (Hd.top 34)) = true := by decide +kernel
theorem bn_hidden_for (F : Fd K mg "hidden_for" 34 f fd) : Binds K fd ["wish", "size", "hours"] [] := F.fn.bindsN fun _ _ _ _ _ _ us hl => match us, hl with | [_, _, _], _ => rfl
/- 0 wish  1 world  2 found  3 place  4 size  5 own  6 row -/
def N_hidden_all : List Str := ["wish", "world", "found", "place", "size", "own", "row"]
theorem nd_hidden_all : N_hidden_all.Nodup := by decide +kernel
theorem sc_hidden_all : C8.scC N_hidden_all ["wish", "world"] (defScope (Hd.top 35)) = true := by decide +kernel
theorem bn_hidden_all (F : Fd K mg "hidden_all" 35 f fd) : Binds K fd ["wish", "world"] [] := F.fn.bindsN fun _ _ _ _ _ _ us hl => match us, hl with | [_, _], _ => rfl
/- 0 wish  1 world -/
def N_keeps : List Str := ["wish", "world"]
theorem nd_keeps : N_keeps.Nodup := by decide +kernel
theorem sc_keeps : C8.scC N_keeps ["wish", "world"] (defScope (Hd.top 36)) = true := by decide +kernel
theorem bn_keeps (F : Fd K mg "keeps" 36 f fd) : Binds K fd ["wish", "world"] [] := F.fn.bindsN fun _ _ _ _ _ _ us hl => match us, hl with | [_, _], _ => rfl
/- 0 places  1 ties  2 row  3 found  4 near  5 far  6 many -/
def N_border_of : List Str := ["places", "ties", "row", "found", "near", "far", "many"]
theorem nd_border_of : N_border_of.Nodup := by decide +kernel
theorem sc_border_of : C8.scC N_border_of ["places", "ties", "row"] (defScope (Hd.top 38)) = true := by decide +kernel
theorem bn_border_of (F : Fd K mg "border_of" 38 f fd) : Binds K fd ["places", "ties", "row"] [] := F.fn.bindsN fun _ _ _ _ _ _ us hl => match us, hl with | [_, _, _], _ => rfl
/- 0 places  1 ties  2 parts  3 found  4 number  5 near  6 far  7 gone  8 kept  9 part -/
def N_branches_of : List Str := ["places", "ties", "parts", "found", "number", "near", "far", "gone", "kept", "part"]
theorem nd_branches_of : N_branches_of.Nodup := by decide +kernel
theorem sc_branches_of : C8.scC N_branches_of ["places", "ties"] (defScope (Hd.top 39)) = true := by decide +kernel
theorem bn_branches_of (F : Fd K mg "branches_of" 39 f fd) : Binds K fd ["places", "ties"] [] := F.fn.bindsN fun _ _ _ _ _ _ us hl => match us, hl with | [_, _], _ => rfl
/- 0 places  1 ties  2 branches  3 number -/
def N_other_ties : List Str := ["places", "ties", "branches", "number"]
theorem nd_other_ties : N_other_ties.Nodup := by decide +kernel
theorem sc_other_ties : C8.scC N_other_ties ["places", "ties"] (defScope (Hd.top 40)) = true := by decide +kernel
theorem bn_other_ties (F : Fd K mg "other_ties" 40 f fd) : Binds K fd ["places", "ties"] [] := F.fn.bindsN fun _ _ _ _ _ _ us hl => match us, hl with | [_, _], _ => rfl
/- 0 places  1 ties  2 found  3 root -/
def N_ways_from_roots : List Str := ["places", "ties", "found", "root"]
theorem nd_ways_from_roots : N_ways_from_roots.Nodup := by decide +kernel
theorem sc_ways_from_roots : C8.scC N_ways_from_roots ["places", "ties"] (defScope (Hd.top 41)) = true := by decide +kernel
theorem bn_ways_from_roots (F : Fd K mg "ways_from_roots" 41 f fd) : Binds K fd ["places", "ties"] [] := F.fn.bindsN fun _ _ _ _ _ _ us hl => match us, hl with | [_, _], _ => rfl
/- 0 ties  1 branches  2 found  3 _  4 number  5 near  6 far  7 at  8 to  9 many -/
def N_grown_ways : List Str := ["ties", "branches", "found", "_", "number", "near", "far", "at", "to", "many"]
theorem nd_grown_ways : N_grown_ways.Nodup := by decide +kernel
theorem sc_grown_ways : C8.scC N_grown_ways ["ties", "branches", "found"] (defScope (Hd.top 42)) = true := by decide +kernel
theorem bn_grown_ways (F : Fd K mg "grown_ways" 42 f fd) : Binds K fd ["ties", "branches", "found"] [] := F.fn.bindsN fun _ _ _ _ _ _ us hl => match us, hl with | [_, _, _], _ => rfl
/- 0 way  1 number  2 many  3 tie  4 much -/
def N_stepped_on : List Str := ["way", "number", "many", "tie", "much"]
theorem nd_stepped_on : N_stepped_on.Nodup := by decide +kernel
theorem sc_stepped_on : C8.scC N_stepped_on ["way", "number", "many"] (defScope (Hd.top 43)) = true := by decide +kernel
theorem bn_stepped_on (F : Fd K mg "stepped_on" 43 f fd) : Binds K fd ["way", "number", "many"] [] := F.fn.bindsN fun _ _ _ _ _ _ us hl => match us, hl with | [_, _, _], _ => rfl
/- 0 web  1 places  2 ties  3 _  4 ways  5 found  6 number  7 near  8 far  9 row -/
def N_ring_rows : List Str := ["web", "places", "ties", "_", "ways", "found", "number", "near", "far", "row"]
theorem nd_ring_rows : N_ring_rows.Nodup := by decide +kernel
theorem sc_ring_rows : C8.scC N_ring_rows ["web"] (defScope (Hd.top 44)) = true := by decide +kernel
theorem bn_ring_rows (F : Fd K mg "ring_rows" 44 f fd) : Binds K fd ["web"] [] := F.fn.bindsN fun _ _ _ _ _ _ us hl => match us, hl with | [_], _ => rfl
/- 0 web  1 ring  2 own  3 row -/
def N_sure_ring : List Str := ["web", "ring", "own", "row"]
theorem nd_sure_ring : N_sure_ring.Nodup := by decide +kernel
theorem sc_sure_ring : C8.scC N_sure_ring ["web", "ring"] (defScope (Hd.top 45)) = true := by decide +kernel
theorem bn_sure_ring (F : Fd K mg "sure_ring" 45 f fd) : Binds K fd ["web", "ring"] [] := F.fn.bindsN fun _ _ _ _ _ _ us hl => match us, hl with | [_, _], _ => rfl
/- 0 web  1 ring  2 own  3 row -/
def N_filling : List Str := ["web", "ring", "own", "row"]
theorem nd_filling : N_filling.Nodup := by decide +kernel
theorem sc_filling : C8.scC N_filling ["web", "ring"] (defScope (Hd.top 46)) = true := by decide +kernel
theorem bn_filling (F : Fd K mg "filling" 46 f fd) : Binds K fd ["web", "ring"] [] := F.fn.bindsN fun _ _ _ _ _ _ us hl => match us, hl with | [_, _], _ => rfl
/- 0 web  1 places  2 ties  3 cells  4 others  5 cell  6 number -/
def N_cells_over : List Str := ["web", "places", "ties", "cells", "others", "cell", "number"]
theorem nd_cells_over : N_cells_over.Nodup := by decide +kernel
theorem sc_cells_over : C8.scC N_cells_over ["web"] (defScope (Hd.top 47)) = true := by decide +kernel
theorem bn_cells_over (F : Fd K mg "cells_over" 47 f fd) : Binds K fd ["web"] [] := F.fn.bindsN fun _ _ _ _ _ _ us hl => match us, hl with | [_], _ => rfl
/- 0 web  1 table  2 long  3 steps  4 step -/
def N_holes : List Str := ["web", "table", "long", "steps", "step"]
theorem nd_holes : N_holes.Nodup := by decide +kernel
theorem sc_holes : C8.scC N_holes ["web"] (defScope (Hd.top 48)) = true := by decide +kernel
theorem bn_holes (F : Fd K mg "holes" 48 f fd) : Binds K fd ["web"] [] := F.fn.bindsN fun _ _ _ _ _ _ us hl => match us, hl with | [_], _ => rfl
/- 0 web  1 size  2 hours  3 places  4 ties  5 _  6 told  7 found  8 near  9 far  10 hour  11 way -/
def N_heights_on : List Str := ["web", "size", "hours", "places", "ties", "_", "told", "found", "near", "far", "hour", "way"]
theorem nd_heights_on : N_heights_on.Nodup := by decide +kernel
theorem sc_heights_on : C8.scC N_heights_on ["web", "size", "hours"] (defScope (Hd.top 49)) = true := by decide +kernel
theorem bn_heights_on (F : Fd K mg "heights_on" 49 f fd) : Binds K fd ["web", "size", "hours"] [] := F.fn.bindsN fun _ _ _ _ _ _ us hl => match us, hl with | [_, _, _], _ => rfl
/- 0 wish  1 near  2 far -/
def N_relations_of : List Str := ["wish", "near", "far"]
theorem nd_relations_of : N_relations_of.Nodup := by decide +kernel
theorem sc_relations_of : C8.scC N_relations_of ["wish"] (defScope (Hd.top 51)) = true := by decide +kernel
theorem bn_relations_of (F : Fd K mg "relations_of" 51 f fd) : Binds K fd ["wish"] [] := F.fn.bindsN fun _ _ _ _ _ _ us hl => match us, hl with | [_], _ => rfl
/- 0 one  1 other  2 size  3 row -/
def N_table_times : List Str := ["one", "other", "size", "row"]
theorem nd_table_times : N_table_times.Nodup := by decide +kernel
theorem sc_table_times : C8.scC N_table_times ["one", "other", "size"] (defScope (Hd.top 52)) = true := by decide +kernel
theorem bn_table_times (F : Fd K mg "table_times" 52 f fd) : Binds K fd ["one", "other", "size"] [] := F.fn.bindsN fun _ _ _ _ _ _ us hl => match us, hl with | [_, _, _], _ => rfl
/- 0 wish  1 many  2 hidden -/
def N_levelled : List Str := ["wish", "many", "hidden"]
theorem nd_levelled : N_levelled.Nodup := by decide +kernel
theorem sc_levelled : C8.scC N_levelled ["wish"] (defScope (Hd.top 53)) = true := by decide +kernel
theorem bn_levelled (F : Fd K mg "levelled" 53 f fd) : Binds K fd ["wish"] [] := F.fn.bindsN fun _ _ _ _ _ _ us hl => match us, hl with | [_], _ => rfl
/- 0 one  1 other  2 left  3 steps  4 _  5 wide  6 found  7 place  8 row  9 step  10 more  11 own -/
def N_wanted_rows : List Str := ["one", "other", "left", "steps", "_", "wide", "found", "place", "row", "step", "more", "own"]
theorem nd_wanted_rows : N_wanted_rows.Nodup := by decide +kernel
theorem sc_wanted_rows : C8.scC N_wanted_rows ["one", "other"] (defScope (Hd.top 54)) = true := by decide +kernel
theorem bn_wanted_rows (F : Fd K mg "wanted_rows" 54 f fd) : Binds K fd ["one", "other"] [] := F.fn.bindsN fun _ _ _ _ _ _ us hl => match us, hl with | [_, _], _ => rfl
/- 0 one  1 other  2 rows  3 row -/
def N_follows : List Str := ["one", "other", "rows", "row"]
theorem nd_follows : N_follows.Nodup := by decide +kernel
theorem sc_follows : C8.scC N_follows ["one", "other"] (defScope (Hd.top 55)) = true := by decide +kernel
theorem bn_follows (F : Fd K mg "follows" 55 f fd) : Binds K fd ["one", "other"] [] := F.fn.bindsN fun _ _ _ _ _ _ us hl => match us, hl with | [_, _], _ => rfl
/- 0 _law_script  1 _law_k  2 _law_cell_so -/
def N_law_box : List Str := ["_law_script", "_law_k", "_law_cell_so"]
theorem nd_law_box : N_law_box.Nodup := by decide +kernel
theorem sc_law_box : C8.scC N_law_box ["_law_script", "_law_k"] (defScope (Hd.top 57)) = true := by decide +kernel
theorem bn_law_box (F : Fd K mg "_law_box" 57 f fd) : Binds K fd ["_law_script", "_law_k"] [] := F.fn.bindsN fun _ _ _ _ _ _ us hl => match us, hl with | [_, _], _ => rfl
/- 0 _law_tin  1 _law_below_so  2 _law_drawn  3 _law_once_so  4 _law_wide_so  5 _law_twice_so -/
def N_law_take : List Str := ["_law_tin", "_law_below_so", "_law_drawn", "_law_once_so", "_law_wide_so", "_law_twice_so"]
theorem nd_law_take : N_law_take.Nodup := by decide +kernel
theorem sc_law_take : C8.scC N_law_take ["_law_tin", "_law_below_so"] (defScope (Hd.top 58)) = true := by decide +kernel
theorem bn_law_take (F : Fd K mg "_law_take" 58 f fd) : Binds K fd ["_law_tin", "_law_below_so"] [] := F.fn.bindsN fun _ _ _ _ _ _ us hl => match us, hl with | [_, _], _ => rfl
/- 0 _law_script  1 _law_most_so  2 _law_cells_so  3 _law_k  4 _law_cell_so  5 _law_at_so -/
def N_law_cells : List Str := ["_law_script", "_law_most_so", "_law_cells_so", "_law_k", "_law_cell_so", "_law_at_so"]
theorem nd_law_cells : N_law_cells.Nodup := by decide +kernel
theorem sc_law_cells : C8.scC N_law_cells ["_law_script", "_law_most_so"] (defScope (Hd.top 59)) = true := by decide +kernel
theorem bn_law_cells (F : Fd K mg "_law_cells" 59 f fd) : Binds K fd ["_law_script", "_law_most_so"] [] := F.fn.bindsN fun _ _ _ _ _ _ us hl => match us, hl with | [_, _], _ => rfl
/- 0 _law_tin  1 _law_goods_so -/
def N_law_of : List Str := ["_law_tin", "_law_goods_so"]
theorem nd_law_of : N_law_of.Nodup := by decide +kernel
theorem sc_law_of : C8.scC N_law_of ["_law_tin", "_law_goods_so"] (defScope (Hd.top 60)) = true := by decide +kernel
theorem bn_law_of (F : Fd K mg "_law_of" 60 f fd) : Binds K fd ["_law_tin", "_law_goods_so"] [] := F.fn.bindsN fun _ _ _ _ _ _ us hl => match us, hl with | [_, _], _ => rfl
/- 0 _law_tin  1 _law_goods_so  2 _law_count_so  3 _law_pool_so  4 _law_found  5 _law_lap -/
def N_law_pick : List Str := ["_law_tin", "_law_goods_so", "_law_count_so", "_law_pool_so", "_law_found", "_law_lap"]
theorem nd_law_pick : N_law_pick.Nodup := by decide +kernel
theorem sc_law_pick : C8.scC N_law_pick ["_law_tin", "_law_goods_so", "_law_count_so"] (defScope (Hd.top 61)) = true := by decide +kernel
theorem bn_law_pick (F : Fd K mg "_law_pick" 61 f fd) : Binds K fd ["_law_tin", "_law_goods_so", "_law_count_so"] [] := F.fn.bindsN fun _ _ _ _ _ _ us hl => match us, hl with | [_, _, _], _ => rfl
/- 0 _law_matter  1 _law_bit -/
def N_law_lists : List Str := ["_law_matter", "_law_bit"]
theorem nd_law_lists : N_law_lists.Nodup := by decide +kernel
theorem sc_law_lists : C8.scC N_law_lists ["_law_matter"] (defScope (Hd.top 62)) = true := by decide +kernel
theorem bn_law_lists (F : Fd K mg "_law_lists" 62 f fd) : Binds K fd ["_law_matter"] [] := F.fn.bindsN fun _ _ _ _ _ _ us hl => match us, hl with | [_], _ => rfl
/- 0 _law_got  1 _law_due  2 _law_mine  3 _law_its -/
def N_law_same : List Str := ["_law_got", "_law_due", "_law_mine", "_law_its"]
theorem nd_law_same : N_law_same.Nodup := by decide +kernel
theorem sc_law_same : C8.scC N_law_same ["_law_got", "_law_due"] (defScope (Hd.top 63)) = true := by decide +kernel
theorem bn_law_same (F : Fd K mg "_law_same" 63 f fd) : Binds K fd ["_law_got", "_law_due"] [] := F.fn.bindsN fun _ _ _ _ _ _ us hl => match us, hl with | [_, _], _ => rfl
/- 0 _law_one_so  1 _law_two_so  2 _law_bit  3 _law_its -/
def N_law_dot : List Str := ["_law_one_so", "_law_two_so", "_law_bit", "_law_its"]
theorem nd_law_dot : N_law_dot.Nodup := by decide +kernel
theorem sc_law_dot : C8.scC N_law_dot ["_law_one_so", "_law_two_so"] (defScope (Hd.top 64)) = true := by decide +kernel
theorem bn_law_dot (F : Fd K mg "_law_dot" 64 f fd) : Binds K fd ["_law_one_so", "_law_two_so"] [] := F.fn.bindsN fun _ _ _ _ _ _ us hl => match us, hl with | [_, _], _ => rfl
/- 0 _law_one_so  1 _law_two_so  2 _law_bit  3 _law_its -/
def N_law_plus : List Str := ["_law_one_so", "_law_two_so", "_law_bit", "_law_its"]
theorem nd_law_plus : N_law_plus.Nodup := by decide +kernel
theorem sc_law_plus : C8.scC N_law_plus ["_law_one_so", "_law_two_so"] (defScope (Hd.top 65)) = true := by decide +kernel
theorem bn_law_plus (F : Fd K mg "_law_plus" 65 f fd) : Binds K fd ["_law_one_so", "_law_two_so"] [] := F.fn.bindsN fun _ _ _ _ _ _ us hl => match us, hl with | [_, _], _ => rfl
/- 0 _law_row_so  1 _law_times_so  2 _law_bit -/
def N_law_many : List Str := ["_law_row_so", "_law_times_so", "_law_bit"]
theorem nd_law_many : N_law_many.Nodup := by decide +kernel
theorem sc_law_many : C8.scC N_law_many ["_law_row_so", "_law_times_so"] (defScope (Hd.top 66)) = true := by decide +kernel
theorem bn_law_many (F : Fd K mg "_law_many" 66 f fd) : Binds K fd ["_law_row_so", "_law_times_so"] [] := F.fn.bindsN fun _ _ _ _ _ _ us hl => match us, hl with | [_, _], _ => rfl
/- 0 _law_size_so -/
def N_law_idle : List Str := ["_law_size_so"]
theorem nd_law_idle : N_law_idle.Nodup := by decide +kernel
theorem sc_law_idle : C8.scC N_law_idle ["_law_size_so"] (defScope (Hd.top 67)) = true := by decide +kernel
theorem bn_law_idle (F : Fd K mg "_law_idle" 67 f fd) : Binds K fd ["_law_size_so"] [] := F.fn.bindsN fun _ _ _ _ _ _ us hl => match us, hl with | [_], _ => rfl
/- 0 _law_place_so  1 _law_size_so  2 _law_k -/
def N_law_unit : List Str := ["_law_place_so", "_law_size_so", "_law_k"]
theorem nd_law_unit : N_law_unit.Nodup := by decide +kernel
theorem sc_law_unit : C8.scC N_law_unit ["_law_place_so", "_law_size_so"] (defScope (Hd.top 68)) = true := by decide +kernel
theorem bn_law_unit (F : Fd K mg "_law_unit" 68 f fd) : Binds K fd ["_law_place_so", "_law_size_so"] [] := F.fn.bindsN fun _ _ _ _ _ _ us hl => match us, hl with | [_, _], _ => rfl
/- 0 _law_parts_so  1 _law_rows_so  2 _law_size_so  3 _law_found  4 _law_bit  5 _law_row_so -/
def N_law_mixed : List Str := ["_law_parts_so", "_law_rows_so", "_law_size_so", "_law_found", "_law_bit", "_law_row_so"]
theorem nd_law_mixed : N_law_mixed.Nodup := by decide +kernel
theorem sc_law_mixed : C8.scC N_law_mixed ["_law_parts_so", "_law_rows_so", "_law_size_so"] (defScope (Hd.top 69)) = true := by decide +kernel
theorem bn_law_mixed (F : Fd K mg "_law_mixed" 69 f fd) : Binds K fd ["_law_parts_so", "_law_rows_so", "_law_size_so"] [] := F.fn.bindsN fun _ _ _ _ _ _ us hl => match us, hl with | [_, _, _], _ => rfl
/- 0 _law_number_so  1 _law_size_so -/
def N_law_round : List Str := ["_law_number_so", "_law_size_so"]
theorem nd_law_round : N_law_round.Nodup := by decide +kernel
theorem sc_law_round : C8.scC N_law_round ["_law_number_so", "_law_size_so"] (defScope (Hd.top 70)) = true := by decide +kernel
theorem bn_law_round (F : Fd K mg "_law_round" 70 f fd) : Binds K fd ["_law_number_so", "_law_size_so"] [] := F.fn.bindsN fun _ _ _ _ _ _ us hl => match us, hl with | [_, _], _ => rfl
/- 0 _law_tin -/
def N_law_number : List Str := ["_law_tin"]
theorem nd_law_number : N_law_number.Nodup := by decide +kernel
theorem sc_law_number : C8.scC N_law_number ["_law_tin"] (defScope (Hd.top 71)) = true := by decide +kernel
theorem bn_law_number (F : Fd K mg "_law_number" 71 f fd) : Binds K fd ["_law_tin"] [] := F.fn.bindsN fun _ _ _ _ _ _ us hl => match us, hl with | [_], _ => rfl
/- 0 _law_tin  1 _law_size_so  2 _law_many_so  3 _law_k -/
def N_law_hours : List Str := ["_law_tin", "_law_size_so", "_law_many_so", "_law_k"]
theorem nd_law_hours : N_law_hours.Nodup := by decide +kernel
theorem sc_law_hours : C8.scC N_law_hours ["_law_tin", "_law_size_so", "_law_many_so"] (defScope (Hd.top 72)) = true := by decide +kernel
theorem bn_law_hours (F : Fd K mg "_law_hours" 72 f fd) : Binds K fd ["_law_tin", "_law_size_so", "_law_many_so"] [] := F.fn.bindsN fun _ _ _ _ _ _ us hl => match us, hl with | [_, _, _], _ => rfl
/- 0 _law_web_so  1 _law_parts_so  2 _law_found  3 _law_number_so  4 _law_near_so  5 _law_far_so  6 _law_one_so  7 _law_two_so  8 _law_k  9 _law_own -/
def N_law_branches : List Str := ["_law_web_so", "_law_parts_so", "_law_found", "_law_number_so", "_law_near_so", "_law_far_so", "_law_one_so", "_law_two_so", "_law_k", "_law_own"]
theorem nd_law_branches : N_law_branches.Nodup := by decide +kernel
theorem sc_law_branches : C8.scC N_law_branches ["_law_web_so"] (defScope (Hd.top 73)) = true := by decide +kernel
theorem bn_law_branches (F : Fd K mg "_law_branches" 73 f fd) : Binds K fd ["_law_web_so"] [] := F.fn.bindsN fun _ _ _ _ _ _ us hl => match us, hl with | [_], _ => rfl
/- 0 _law_web_so  1 _law_branches_so  2 _law_from_so  3 _law_to_so  4 _law_gone_so  5 _law_number_so  6 _law_ends_so  7 _law_next_so  8 _law_rest_so -/
def N_law_way : List Str := ["_law_web_so", "_law_branches_so", "_law_from_so", "_law_to_so", "_law_gone_so", "_law_number_so", "_law_ends_so", "_law_next_so", "_law_rest_so"]
theorem nd_law_way : N_law_way.Nodup := by decide +kernel
theorem sc_law_way : C8.scC N_law_way ["_law_web_so", "_law_branches_so", "_law_from_so", "_law_to_so", "_law_gone_so"] (defScope (Hd.top 74)) = true := by decide +kernel
theorem bn_law_way (F : Fd K mg "_law_way" 74 f fd) : Binds K fd ["_law_web_so", "_law_branches_so", "_law_from_so", "_law_to_so", "_law_gone_so"] [] := F.fn.bindsN fun _ _ _ _ _ _ us hl => match us, hl with | [_, _, _, _, _], _ => rfl
/- 0 _law_web_so  1 _law_branches_so  2 _law_found  3 _law_number_so  4 _law_near_so  5 _law_far_so -/
def N_law_ring_rows : List Str := ["_law_web_so", "_law_branches_so", "_law_found", "_law_number_so", "_law_near_so", "_law_far_so"]
theorem nd_law_ring_rows : N_law_ring_rows.Nodup := by decide +kernel
theorem sc_law_ring_rows : C8.scC N_law_ring_rows ["_law_web_so"] (defScope (Hd.top 75)) = true := by decide +kernel
theorem bn_law_ring_rows (F : Fd K mg "_law_ring_rows" 75 f fd) : Binds K fd ["_law_web_so"] [] := F.fn.bindsN fun _ _ _ _ _ _ us hl => match us, hl with | [_], _ => rfl
/- 0 _law_tin  1 _law_most_so  2 _law_places_so  3 _law_ties_so  4 _law_rings_so  5 _law_cells_so  6 _law_lap  7 _law_own  8 _law_row_so -/
def N_law_web : List Str := ["_law_tin", "_law_most_so", "_law_places_so", "_law_ties_so", "_law_rings_so", "_law_cells_so", "_law_lap", "_law_own", "_law_row_so"]
theorem nd_law_web : N_law_web.Nodup := by decide +kernel
theorem sc_law_web : C8.scC N_law_web ["_law_tin", "_law_most_so"] (defScope (Hd.top 76)) = true := by decide +kernel
theorem bn_law_web (F : Fd K mg "_law_web" 76 f fd) : Binds K fd ["_law_tin", "_law_most_so"] [] := F.fn.bindsN fun _ _ _ _ _ _ us hl => match us, hl with | [_, _], _ => rfl
/- 0 _law_tin  1 _law_web_so  2 _law_rows_so  3 _law_row_so -/
def N_law_some_ring : List Str := ["_law_tin", "_law_web_so", "_law_rows_so", "_law_row_so"]
theorem nd_law_some_ring : N_law_some_ring.Nodup := by decide +kernel
theorem sc_law_some_ring : C8.scC N_law_some_ring ["_law_tin", "_law_web_so"] (defScope (Hd.top 77)) = true := by decide +kernel
theorem bn_law_some_ring (F : Fd K mg "_law_some_ring" 77 f fd) : Binds K fd ["_law_tin", "_law_web_so"] [] := F.fn.bindsN fun _ _ _ _ _ _ us hl => match us, hl with | [_, _], _ => rfl
/- 0 _law_web_here  1 _law_size  2 _law_hours_here  3 error -/
def N_law_heard : List Str := ["_law_web_here", "_law_size", "_law_hours_here", "error"]
theorem nd_law_heard : N_law_heard.Nodup := by decide +kernel
theorem sc_law_heard : C8.scC N_law_heard ["_law_web_here", "_law_size", "_law_hours_here"] (defScope (Hd.top 78)) = true := by decide +kernel
theorem bn_law_heard (F : Fd K mg "_law_heard" 78 f fd) : Binds K fd ["_law_web_here", "_law_size", "_law_hours_here"] [] := F.fn.bindsN fun _ _ _ _ _ _ us hl => match us, hl with | [_, _, _], _ => rfl
/- 0 _law_web_here  1 _law_ring -/
def N_law_has_filling : List Str := ["_law_web_here", "_law_ring"]
theorem nd_law_has_filling : N_law_has_filling.Nodup := by decide +kernel
theorem sc_law_has_filling : C8.scC N_law_has_filling ["_law_web_here", "_law_ring"] (defScope (Hd.top 79)) = true := by decide +kernel
theorem bn_law_has_filling (F : Fd K mg "_law_has_filling" 79 f fd) : Binds K fd ["_law_web_here", "_law_ring"] [] := F.fn.bindsN fun _ _ _ _ _ _ us hl => match us, hl with | [_, _], _ => rfl
/- 0 _law_web_here  1 _law_found  2 _law_lap  3 _law_near  4 _law_far  5 _law_low -/
def N_law_roots : List Str := ["_law_web_here", "_law_found", "_law_lap", "_law_near", "_law_far", "_law_low"]
theorem nd_law_roots : N_law_roots.Nodup := by decide +kernel
theorem sc_law_roots : C8.scC N_law_roots ["_law_web_here"] (defScope (Hd.top 80)) = true := by decide +kernel
theorem bn_law_roots (F : Fd K mg "_law_roots" 80 f fd) : Binds K fd ["_law_web_here"] [] := F.fn.bindsN fun _ _ _ _ _ _ us hl => match us, hl with | [_], _ => rfl
/- 0 _law_web_here  1 _law_lines  2 _law_k  3 _law_near  4 _law_far  5 _law_row -/
def N_law_wish_of_heights : List Str := ["_law_web_here", "_law_lines", "_law_k", "_law_near", "_law_far", "_law_row"]
theorem nd_law_wish_of_heights : N_law_wish_of_heights.Nodup := by decide +kernel
theorem sc_law_wish_of_heights : C8.scC N_law_wish_of_heights ["_law_web_here"] (defScope (Hd.top 81)) = true := by decide +kernel
theorem bn_law_wish_of_heights (F : Fd K mg "_law_wish_of_heights" 81 f fd) : Binds K fd ["_law_web_here"] [] := F.fn.bindsN fun _ _ _ _ _ _ us hl => match us, hl with | [_], _ => rfl
/- 0 _law_tin  1 _law_web_here  2 _law_size  3 _law_tops  4 _law_roots_here  5 _law_hours_here  6 _law_due  7 _law_k  8 _law_other  9 _law_so  10 _law_wish  11 _law_got  12 _law_near  13 _law_far  14 _law_top  15 _law_root  16 _law_row  17 _law_own  18 _law_hour -/
def N_law_case_right : List Str := ["_law_tin", "_law_web_here", "_law_size", "_law_tops", "_law_roots_here", "_law_hours_here", "_law_due", "_law_k", "_law_other", "_law_so", "_law_wish", "_law_got", "_law_near", "_law_far", "_law_top", "_law_root", "_law_row", "_law_own", "_law_hour"]
theorem nd_law_case_right : N_law_case_right.Nodup := by decide +kernel
theorem sc_law_case_right : C8.scC N_law_case_right ["_law_tin", "_law_web_here", "_law_size"] (defScope (Hd.top 82)) = true := by decide +kernel
theorem bn_law_case_right (F : Fd K mg "_law_case_right" 82 f fd) : Binds K fd ["_law_tin", "_law_web_here", "_law_size"] [] := F.fn.bindsN fun _ _ _ _ _ _ us hl => match us, hl with | [_, _, _], _ => rfl
/- 0 _law_tri  1 _law_loop  2 _law_back  3 _law_filled  4 _law_got  5 _law_due  6 _law_even -/
def N_law_by_hand_right : List Str := ["_law_tri", "_law_loop", "_law_back", "_law_filled", "_law_got", "_law_due", "_law_even"]
theorem nd_law_by_hand_right : N_law_by_hand_right.Nodup := by decide +kernel
theorem sc_law_by_hand_right : C8.scC N_law_by_hand_right [] (defScope (Hd.top 83)) = true := by decide +kernel
theorem bn_law_by_hand_right (F : Fd K mg "_law_by_hand_right" 83 f fd) : Binds K fd [] [] := F.fn.bindsN fun _ _ _ _ _ _ us hl => match us, hl with | [], _ => rfl
/- 0 _law_tin  1 _law_web_here  2 _law_ring  3 _law_many_here  4 _law_cells_here  5 _law_got  6 _law_cell -/
def N_law_right : List Str := ["_law_tin", "_law_web_here", "_law_ring", "_law_many_here", "_law_cells_here", "_law_got", "_law_cell"]
theorem nd_law_right : N_law_right.Nodup := by decide +kernel
theorem sc_law_right : C8.scC N_law_right ["_law_tin"] (defScope (Hd.top 84)) = true := by decide +kernel
theorem bn_law_right (F : Fd K mg "_law_right" 84 f fd) : Binds K fd ["_law_tin"] [] := F.fn.bindsN fun _ _ _ _ _ _ us hl => match us, hl with | [_], _ => rfl
/- 0 _law_script -/
def N_law : List Str := ["_law_script"]
theorem nd_law : N_law.Nodup := by decide +kernel
theorem sc_law : C8.scC N_law ["_law_script"] (defScope (Hd.top 85)) = true := by decide +kernel
theorem bn_law (F : Fd K mg "law" 85 f fd) : Binds K fd ["_law_script"] [] := F.fn.bindsN fun _ _ _ _ _ _ us hl => match us, hl with | [_], _ => rfl
end
end Wk

set_option Elab.async false
set_option linter.all false
set_option maxRecDepth 100000
set_option maxHeartbeats 400000
namespace Wk
open PySem PySem.Spec PyProof.Rows L2 NdefX DL
/-- the built-in names stand free -/
structure Blt (mg : Str → Option Value) : Prop where
  «abs» : mg "abs" = none
  «all» : mg "all" = none
  «any» : mg "any" = none
  bool : mg "bool" = none
  divmod : mg "divmod" = none
  enumerate : mg "enumerate" = none
  int : mg "int" = none
  isinstance : mg "isinstance" = none
  len : mg "len" = none
  list : mg "list" = none
  min : mg "min" = none
  range : mg "range" = none
  sorted : mg "sorted" = none
  str : mg "str" = none
  sum : mg "sum" = none
  tuple : mg "tuple" = none
  zip : mg "zip" = none
  ValueError : mg "ValueError" = none
abbrev iT (xs : List Int) : DL.D := .tuple (xs.map .int)
abbrev iL (xs : List Int) : DL.D := .list (xs.map .int)
abbrev mT (rows : List (List Int)) : DL.D := .tuple (rows.map iT)
abbrev tL (rows : List (List Int)) : DL.D := .list (rows.map iT)
section
variable {T : List NTab} {X : Cx} {Δ : List En} {a b c e : Expr} {Q : QD} {pos : Pos}
theorem dv (i : Nat) {x : Str} {d : D} (hd : Δ[i]? = some (.dat d)) (q : Q d Δ) (hN : X.N[i]? = some x := by rfl) (hv : Vis X.env.scope x := by first | exact Or.inl rfl | exact Or.inr (Or.inl rfl) | exact Or.inr (Or.inr rfl)) (h1 : (x == ("__debug__" : Str)) = false := by decide) (h2 : (x == ("__classdict__" : Str)) = false := by decide) : DE T X Δ (.Name x pos) Q := de_var hN hv hd q h1 h2
/-- a sequence in slot i -/
theorem sv (i : Nat) {x : Str} {en : En} {t : Bool} {ds : List D} {Q : Bool → List D → List En → Prop} (hd : Δ[i]? = some en) (hs : seqE en = some (t, ds)) (q : Q t ds Δ) (hN : X.N[i]? = some x := by rfl) (hv : Vis X.env.scope x := by first | exact Or.inl rfl | exact Or.inr (Or.inl rfl) | exact Or.inr (Or.inr rfl)) (h1 : (x == ("__debug__" : Str)) = false := by decide) (h2 : (x == ("__classdict__" : Str)) = false := by decide) : DS T X Δ (.Name x pos) Q := ds_var hN hv hd hs q h1 h2
theorem g1 (nd : X.N.Nodup) (i : Nat) {x : Str} (hi : X.N[i]? = some x := by rfl) (hx : Loc X.env.scope x := by first | exact Or.inl rfl | exact Or.inr rfl) (hf : X.fn x = true ∨ X.env.scope.names.lookup x = some .local := by first | exact .inl rfl | exact .inr rfl) : DG T X (.Name x pos) (fN i) [i] := dg_name nd hi hx hf
theorem n_lc {elt tg iter : Expr} {ifs : List Expr} {scope : Scope} {f : FT} {is : List Nat} {Q : List D → List En → Prop} (nd : X.N.Nodup) (own : List (Str × Nat)) (hg : AllB X scope fun Y => DG T Y tg f is) (mf : Mono f)
    (h : DI T X Δ tg iter fun ds I Δ1 => ∃ G : Nat → List D → List En → Prop, G 0 [] (wipeE Δ1 (own.map (·.2))) ∧ (∀ i acc Δ2, G i acc Δ2 → I Δ2) ∧
      (∀ i d acc Δ2, ds[i]? = some d → G i acc Δ2 → f d Δ2 fun Δ3 => TurnD T X scope (own.map (·.2)) elt ifs (G (i + 1)) acc Δ3) ∧ ds.length ≤ 10000 ∧ ∀ acc Δ2, G ds.length acc Δ2 → Q acc Δ2)
    (hc : X.calm = true := by rfl) (ok : blkC X.N X.env.scope scope own = true := by kernel_rfl) (hl : ifs = [] ∨ ∃ c, ifs = [c] := by first | exact .inl rfl | exact .inr ⟨_, rfl⟩) (his : ∀ i ∈ is, i ∈ own.map (·.2) := by decide) (hs : ∀ x, foldedSetIterable iter X.env x = pure x := by intro _; rfl) : DN T X Δ (.ListComp elt [⟨tg, iter, ifs, 0⟩] scope pos) Q :=
  dn_lc hc nd (blkOk_by ok) hl mf hg his h hs
end
abbrev mn (i : Nat) : Mono (fN i) := mono_n i
theorem at_nat {α : Type} {xs : List α} {i : Nat} {x : α} (h : xs[i]? = some x) (hz : xs.length < 2 ^ 62) : atI xs (i : Int) = some x := by
  have hi := (List.getElem?_eq_some_iff.mp h).1
  unfold atI
  rw [show (ixN xs.length (i : Int)) = some i by unfold ixN; simp [hi]]
  exact h
end Wk

set_option Elab.async false
set_option linter.all false
set_option maxRecDepth 100000
set_option maxHeartbeats 400000
namespace Wk
open PySem PySem.Spec PyProof.Rows L2 NdefX DL
theorem zipD_int (xs ys : List Int) : zipD (xs.map .int) (ys.map .int) = (xs.zip ys).map fun p => .tuple [.int p.1, .int p.2] := by
  unfold zipD
  rw [List.zipWith_map, List.zip_eq_zipWith, List.map_zipWith]
def oneAt (p : Int) (n : Nat) : List Int := (List.range n).map fun (i : Nat) => if (i : Int) = p then 1 else 0
def dotM (xs ys : List Int) : Int := ((xs.zip ys).map fun p => p.1 * p.2).sum
def addR (xs ys : List Int) : List Int := (xs.zip ys).map fun p => p.1 + p.2
def subR (xs ys : List Int) : List Int := (xs.zip ys).map fun p => p.1 - p.2
def scal (xs : List Int) (t : Int) : List Int := xs.map fun x => x * t
def zerR (n : Nat) : List Int := List.replicate n 0
def roundM (x s : Int) : Int := if s = 0 then x else x.fmod s
/-- no product is too great -/
def MulAll (xs ys : List Int) : Prop := ∀ p ∈ xs.zip ys, IntMulOk p.1 p.2
def ScalOk (xs : List Int) (t : Int) : Prop := ∀ x ∈ xs, IntMulOk x t
section
variable {P : Program} {w : World} {K : DL.Frag} {mg : Str → Option Value} {base : Heap} {T : List NTab} {f : Addr} {fd : FuncData}
abbrev pNothing : List DL.D → DL.D → Prop := fun ds r => ∃ n : Nat, ds = [.int n] ∧ n ≤ 1000 ∧ r = iT (zerR n)
abbrev pUnit : List DL.D → DL.D → Prop := fun ds r => ∃ (p : Int) (n : Nat), ds = [.int p, .int n] ∧ n ≤ 1000 ∧ r = iT (oneAt p n)
abbrev pShown : List DL.D → DL.D → Prop := fun ds r => ∃ xs ys, ds = [iT xs, iT ys] ∧ (xs.length ≤ 1000 ∧ MulAll xs ys) ∧ r = .int (dotM xs ys)
abbrev pPlus : List DL.D → DL.D → Prop := fun ds r => ∃ xs ys, ds = [iT xs, iT ys] ∧ xs.length ≤ 1000 ∧ r = iT (addR xs ys)
abbrev pLess : List DL.D → DL.D → Prop := fun ds r => ∃ xs ys, ds = [iT xs, iT ys] ∧ xs.length ≤ 1000 ∧ r = iT (subR xs ys)
abbrev pTimes : List DL.D → DL.D → Prop := fun ds r => ∃ xs t, ds = [iT xs, .int t] ∧ (xs.length ≤ 1000 ∧ ScalOk xs t) ∧ r = iT (scal xs t)
abbrev pRound : List DL.D → DL.D → Prop := fun ds r => ∃ x s : Int, ds = [.int x, .int s] ∧ r = .int (roundM x s)
theorem beq_one (i : Nat) (p : Int) : DL.intD (.bool (PyData.eqv (.int (i : Int)) (.int p))) = some (if (i : Int) = p then 1 else 0) := by
  by_cases h : (i : Int) = p
  · rw [if_pos h, h]; simp [DL.intD, PyData.eqv]
  · rw [if_neg h]
    have : PyData.eqv (.int (i : Int)) (.int p) = false := by simp [PyData.eqv, h]
    rw [this]; rfl
theorem nothing_ok (b : Blt mg) (F : Fd K mg "nothing" 5 f fd) : Df P w K mg base T 1 "nothing" ["size"] (SP 1 pNothing) :=
  dp_ok F.fn F.mg (bn_nothing F) sc_nothing rfl fun cdv A outer s H E hr B ds r hn h => by
    obtain ⟨n, rfl, h1, rfl⟩ := h
    exact bl_one (bs_ret (de_rep1 (de_tup (dd_cons (de_int (dd_nil ⟨by decide, _, rfl, dv 0 rfl ⟨_, rfl, by omega, by rw [iT, zerR, List.map_replicate]; rfl⟩⟩))))))
theorem unit_ok (b : Blt mg) (F : Fd K mg "unit" 6 f fd) : Df P w K mg base T 1 "unit" ["place", "size"] (SP 2 pUnit) :=
  dp_ok F.fn F.mg (bn_unit F) sc_unit rfl fun cdv A outer s H E hr B ds r hn h => by
    obtain ⟨p, n, rfl, h1, rfl⟩ := h
    have nd := nd_unit
    refine bl_one (bs_ret (de_tuple rfl b.tuple (ds_new (n_lc nd [("spot", 2)] (fun _ _ _ _ _ => g1 nd 2) (mn 2) (di_range1 rfl b.range (dv 1 rfl ⟨_, rfl, by omega, lc_map (List.range n) (fun i => .int (0 + (i : Nat))) (fun (i : Nat) => .int (if (i : Int) = p then 1 else 0)) _ rfl trivial rfl (mn 2)
      (fun i hi s H C cl fp => de_intC rfl b.int (de_eq hr.units (dv 2 rfl (dv 0 rfl ⟨rfl, rfl, _, by rw [Int.zero_add]; exact beq_one i p, rfl, rfl⟩)))) (by simp; omega) (by rw [iT, oneAt, List.map_map]; rfl)⟩)))))) 
theorem shown_ok (b : Blt mg) (F : Fd K mg "shown" 8 f fd) : Df P w K mg base T 1 "shown" ["row", "other"] (SP 2 pShown) :=
  dp_ok F.fn F.mg (bn_shown F) sc_shown rfl fun cdv A outer s H E hr B ds r hn h => by
    obtain ⟨xs, ys, rfl, ⟨h1, h2⟩, rfl⟩ := h
    have nd := nd_shown
    refine bl_one (bs_ret (de_sum rfl rfl b.sum (ds_new (n_lc nd [("bit", 2), ("its", 3)] (fun _ _ _ _ _ => dg_2 rfl (mn 2) (mn 3) (g1 nd 2) (g1 nd 3)) (mono_2 (mn 2) (mn 3)) (di_zip rfl b.zip (dv 0 rfl ⟨_, _, rfl, dv 1 rfl ⟨_, _, rfl, lc_map (xs.zip ys) (fun p => .tuple [.int p.1, .int p.2]) (fun p => .int (p.1 * p.2)) _ rfl trivial (zipD_int xs ys) (mono_2 (mn 2) (mn 3))
      (fun p hp => ⟨_, _, rfl, fun s H C cl fp => de_mul (dv 2 rfl ⟨_, rfl, dv 3 rfl ⟨_, rfl, h2 p hp, rfl, rfl⟩⟩)⟩) (by simp; omega) ⟨rfl, (xs.zip ys).map fun p => p.1 * p.2, by rw [List.map_map]; rfl, rfl⟩⟩⟩))))))
theorem rows_plus_ok (b : Blt mg) (F : Fd K mg "rows_plus" 9 f fd) : Df P w K mg base T 1 "rows_plus" ["one", "other"] (SP 2 pPlus) :=
  dp_ok F.fn F.mg (bn_rows_plus F) sc_rows_plus rfl fun cdv A outer s H E hr B ds r hn h => by
    obtain ⟨xs, ys, rfl, h1, rfl⟩ := h
    have nd := nd_rows_plus
    refine bl_one (bs_ret (de_tuple rfl b.tuple (ds_new (n_lc nd [("bit", 2), ("its", 3)] (fun _ _ _ _ _ => dg_2 rfl (mn 2) (mn 3) (g1 nd 2) (g1 nd 3)) (mono_2 (mn 2) (mn 3)) (di_zip rfl b.zip (dv 0 rfl ⟨_, _, rfl, dv 1 rfl ⟨_, _, rfl, lc_map (xs.zip ys) (fun p => .tuple [.int p.1, .int p.2]) (fun p => .int (p.1 + p.2)) _ rfl trivial (zipD_int xs ys) (mono_2 (mn 2) (mn 3))
      (fun p hp => ⟨_, _, rfl, fun s H C cl fp => de_add (dv 2 rfl ⟨_, rfl, dv 3 rfl ⟨_, rfl, rfl, rfl⟩⟩)⟩) (by simp; omega) (by rw [iT, addR, List.map_map]; rfl)⟩⟩))))))
theorem row_times_ok (b : Blt mg) (F : Fd K mg "row_times" 11 f fd) : Df P w K mg base T 1 "row_times" ["row", "times"] (SP 2 pTimes) :=
  dp_ok F.fn F.mg (bn_row_times F) sc_row_times rfl fun cdv A outer s H E hr B ds r hn h => by
    obtain ⟨xs, t, rfl, ⟨h1, h2⟩, rfl⟩ := h
    have nd := nd_row_times
    refine bl_one (bs_ret (de_tuple rfl b.tuple (ds_new (n_lc nd [("bit", 2)] (fun _ _ _ _ _ => g1 nd 2) (mn 2) (di_tup (dv 0 rfl ⟨_, rfl, lc_map xs PyData.int (fun x => .int (x * t)) _ rfl trivial rfl (mn 2)
      (fun x hx s H C cl fp => de_mul (dv 2 rfl ⟨_, rfl, dv 1 rfl ⟨_, rfl, h2 x hx, rfl, rfl⟩⟩)) (by omega) (by rw [iT, scal, List.map_map]; rfl)⟩))))))
theorem round_by_ok (b : Blt mg) (F : Fd K mg "round_by" 14 f fd) : Df P w K mg base T 1 "round_by" ["number", "size"] (SP 2 pRound) :=
  dp_ok F.fn F.mg (bn_round_by F) sc_round_by rfl fun cdv A outer s H E hr B ds r hn h => by
    obtain ⟨x, z, rfl, rfl⟩ := h
    refine bl_one (bs_ret (de_if (dt_eq hr.units (dv 1 rfl (de_int ⟨rfl, rfl, fun h => ?_, fun h => ?_⟩)))))
    · have h : z = 0 := by simpa [PyData.eqv] using h
      exact dv 0 rfl (by rw [roundM, if_pos h])
    · have h : z ≠ 0 := by simpa [PyData.eqv] using h
      exact de_mod (dv 0 rfl ⟨_, rfl, dv 1 rfl ⟨_, rfl, h, by rw [roundM, if_neg h]⟩⟩)
theorem law_idle_ok (b : Blt mg) (F : Fd K mg "_law_idle" 67 f fd) : Df P w K mg base T 1 "_law_idle" ["_law_size_so"] (SP 1 pNothing) :=
  dp_ok F.fn F.mg (bn_law_idle F) sc_law_idle rfl fun cdv A outer s H E hr B ds r hn h => by
    obtain ⟨n, rfl, h1, rfl⟩ := h
    exact bl_one (bs_ret (de_rep1 (de_tup (dd_cons (de_int (dd_nil ⟨by decide, _, rfl, dv 0 rfl ⟨_, rfl, by omega, by rw [iT, zerR, List.map_replicate]; rfl⟩⟩))))))
theorem law_unit_ok (b : Blt mg) (F : Fd K mg "_law_unit" 68 f fd) : Df P w K mg base T 1 "_law_unit" ["_law_place_so", "_law_size_so"] (SP 2 pUnit) :=
  dp_ok F.fn F.mg (bn_law_unit F) sc_law_unit rfl fun cdv A outer s H E hr B ds r hn h => by
    obtain ⟨p, n, rfl, h1, rfl⟩ := h
    have nd := nd_law_unit
    refine bl_one (bs_ret (de_tuple rfl b.tuple (ds_new (n_lc nd [("_law_k", 2)] (fun _ _ _ _ _ => g1 nd 2) (mn 2) (di_range1 rfl b.range (dv 1 rfl ⟨_, rfl, by omega, lc_map (List.range n) (fun i => .int (0 + (i : Nat))) (fun (i : Nat) => .int (if (i : Int) = p then 1 else 0)) _ rfl trivial rfl (mn 2)
      (fun i hi s H C cl fp => de_intC rfl b.int (de_eq hr.units (dv 2 rfl (dv 0 rfl ⟨rfl, rfl, _, by rw [Int.zero_add]; exact beq_one i p, rfl, rfl⟩)))) (by simp; omega) (by rw [iT, oneAt, List.map_map]; rfl)⟩)))))) 
theorem law_dot_ok (b : Blt mg) (F : Fd K mg "_law_dot" 64 f fd) : Df P w K mg base T 1 "_law_dot" ["_law_one_so", "_law_two_so"] (SP 2 pShown) :=
  dp_ok F.fn F.mg (bn_law_dot F) sc_law_dot rfl fun cdv A outer s H E hr B ds r hn h => by
    obtain ⟨xs, ys, rfl, ⟨h1, h2⟩, rfl⟩ := h
    have nd := nd_law_dot
    refine bl_one (bs_ret (de_sum rfl rfl b.sum (ds_new (n_lc nd [("_law_bit", 2), ("_law_its", 3)] (fun _ _ _ _ _ => dg_2 rfl (mn 2) (mn 3) (g1 nd 2) (g1 nd 3)) (mono_2 (mn 2) (mn 3)) (di_zip rfl b.zip (dv 0 rfl ⟨_, _, rfl, dv 1 rfl ⟨_, _, rfl, lc_map (xs.zip ys) (fun p => .tuple [.int p.1, .int p.2]) (fun p => .int (p.1 * p.2)) _ rfl trivial (zipD_int xs ys) (mono_2 (mn 2) (mn 3))
      (fun p hp => ⟨_, _, rfl, fun s H C cl fp => de_mul (dv 2 rfl ⟨_, rfl, dv 3 rfl ⟨_, rfl, h2 p hp, rfl, rfl⟩⟩)⟩) (by simp; omega) ⟨rfl, (xs.zip ys).map fun p => p.1 * p.2, by rw [List.map_map]; rfl, rfl⟩⟩⟩))))))
theorem law_plus_ok (b : Blt mg) (F : Fd K mg "_law_plus" 65 f fd) : Df P w K mg base T 1 "_law_plus" ["_law_one_so", "_law_two_so"] (SP 2 pPlus) :=
  dp_ok F.fn F.mg (bn_law_plus F) sc_law_plus rfl fun cdv A outer s H E hr B ds r hn h => by
    obtain ⟨xs, ys, rfl, h1, rfl⟩ := h
    have nd := nd_law_plus
    refine bl_one (bs_ret (de_tuple rfl b.tuple (ds_new (n_lc nd [("_law_bit", 2), ("_law_its", 3)] (fun _ _ _ _ _ => dg_2 rfl (mn 2) (mn 3) (g1 nd 2) (g1 nd 3)) (mono_2 (mn 2) (mn 3)) (di_zip rfl b.zip (dv 0 rfl ⟨_, _, rfl, dv 1 rfl ⟨_, _, rfl, lc_map (xs.zip ys) (fun p => .tuple [.int p.1, .int p.2]) (fun p => .int (p.1 + p.2)) _ rfl trivial (zipD_int xs ys) (mono_2 (mn 2) (mn 3))
      (fun p hp => ⟨_, _, rfl, fun s H C cl fp => de_add (dv 2 rfl ⟨_, rfl, dv 3 rfl ⟨_, rfl, rfl, rfl⟩⟩)⟩) (by simp; omega) (by rw [iT, addR, List.map_map]; rfl)⟩⟩))))))
theorem law_many_ok (b : Blt mg) (F : Fd K mg "_law_many" 66 f fd) : Df P w K mg base T 1 "_law_many" ["_law_row_so", "_law_times_so"] (SP 2 pTimes) :=
  dp_ok F.fn F.mg (bn_law_many F) sc_law_many rfl fun cdv A outer s H E hr B ds r hn h => by
    obtain ⟨xs, t, rfl, ⟨h1, h2⟩, rfl⟩ := h
    have nd := nd_law_many
    refine bl_one (bs_ret (de_tuple rfl b.tuple (ds_new (n_lc nd [("_law_bit", 2)] (fun _ _ _ _ _ => g1 nd 2) (mn 2) (di_tup (dv 0 rfl ⟨_, rfl, lc_map xs PyData.int (fun x => .int (x * t)) _ rfl trivial rfl (mn 2)
      (fun x hx s H C cl fp => de_mul (dv 2 rfl ⟨_, rfl, dv 1 rfl ⟨_, rfl, h2 x hx, rfl, rfl⟩⟩)) (by omega) (by rw [iT, scal, List.map_map]; rfl)⟩))))))
theorem law_round_ok (b : Blt mg) (F : Fd K mg "_law_round" 70 f fd) : Df P w K mg base T 1 "_law_round" ["_law_number_so", "_law_size_so"] (SP 2 pRound) :=
  dp_ok F.fn F.mg (bn_law_round F) sc_law_round rfl fun cdv A outer s H E hr B ds r hn h => by
    obtain ⟨x, z, rfl, rfl⟩ := h
    refine bl_one (bs_ret (de_if (dt_eq hr.units (dv 1 rfl (de_int ⟨rfl, rfl, fun h => ?_, fun h => ?_⟩)))))
    · have h : z = 0 := by simpa [PyData.eqv] using h
      exact dv 0 rfl (by rw [roundM, if_pos h])
    · have h : z ≠ 0 := by simpa [PyData.eqv] using h
      exact de_mod (dv 0 rfl ⟨_, rfl, dv 1 rfl ⟨_, rfl, h, by rw [roundM, if_neg h]⟩⟩)
theorem rows_less_ok (b : Blt mg) (F : Fd K mg "rows_less" 10 f fd) : Df P w K mg base T 1 "rows_less" ["one", "other"] (SP 2 pLess) :=
  dp_ok F.fn F.mg (bn_rows_less F) sc_rows_less rfl fun cdv A outer s H E hr B ds r hn h => by
    obtain ⟨xs, ys, rfl, h1, rfl⟩ := h
    have nd := nd_rows_less
    refine bl_one (bs_ret (de_tuple rfl b.tuple (ds_new (n_lc nd [("bit", 2), ("its", 3)] (fun _ _ _ _ _ => dg_2 rfl (mn 2) (mn 3) (g1 nd 2) (g1 nd 3)) (mono_2 (mn 2) (mn 3)) (di_zip rfl b.zip (dv 0 rfl ⟨_, _, rfl, dv 1 rfl ⟨_, _, rfl, lc_map (xs.zip ys) (fun p => .tuple [.int p.1, .int p.2]) (fun p => .int (p.1 - p.2)) _ rfl trivial (zipD_int xs ys) (mono_2 (mn 2) (mn 3))
      (fun p hp => ⟨_, _, rfl, fun s H C cl fp => de_sub (dv 2 rfl ⟨_, rfl, dv 3 rfl ⟨_, rfl, rfl, rfl⟩⟩)⟩) (by simp; omega) (by rw [iT, subR, List.map_map]; rfl)⟩⟩))))))
end
end Wk

set_option Elab.async false
set_option linter.all false
set_option maxRecDepth 100000
set_option maxHeartbeats 400000
namespace Wk
open PySem PySem.Spec PyProof.Rows L2 NdefX DL
theorem zipD_row (xs : List Int) (ys : List (List Int)) : zipD (xs.map .int) (ys.map iT) = (xs.zip ys).map fun p => .tuple [.int p.1, iT p.2] := by
  unfold zipD
  rw [List.zipWith_map, List.zip_eq_zipWith, List.map_zipWith]
def unitsM (n : Nat) : List (List Int) := (List.range n).map fun (p : Nat) => oneAt p n
def addedM (times : List Int) (rows : List (List Int)) (n : Nat) : List Int := (times.zip rows).foldl (fun f p => addR f (scal p.2 p.1)) (zerR n)
def colsM (rows : List (List Int)) (n : Nat) : List (List Int) := (List.range n).map fun p => rows.map fun r => r.getD p 0
def AddOk (times : List Int) (rows : List (List Int)) : Prop := ∀ p ∈ times.zip rows, p.2.length ≤ 1000 ∧ ScalOk p.2 p.1
theorem addR_length (xs ys : List Int) : (addR xs ys).length = min xs.length ys.length := by simp [addR]
theorem subR_length (xs ys : List Int) : (subR xs ys).length = min xs.length ys.length := by simp [subR]
theorem scal_length (xs : List Int) (t : Int) : (scal xs t).length = xs.length := by simp [scal]
theorem zerR_length (n : Nat) : (zerR n).length = n := by simp [zerR]
theorem oneAt_length (p : Int) (n : Nat) : (oneAt p n).length = n := by simp [oneAt]
theorem unitsM_length (n : Nat) : (unitsM n).length = n := by simp [unitsM]
theorem oneAt_mem {p : Int} {n : Nat} {x : Int} (h : x ∈ oneAt p n) : x = 0 ∨ x = 1 := by
  unfold oneAt at h
  obtain ⟨i, _, e⟩ := List.mem_map.mp h
  by_cases q : (i : Int) = p
  · rw [if_pos q] at e; exact .inr e.symm
  · rw [if_neg q] at e; exact .inl e.symm
/-- rows in a list or a tuple, each a list or a tuple -/
inductive RowsD : DL.D → List (List Int) → Prop
  | tt (rows) : RowsD (mT rows) rows
  | tl (rows) : RowsD (tL rows) rows
  | ll (rows : List (List Int)) : RowsD (.list (rows.map iL)) rows
section
variable {P : Program} {w : World} {K : DL.Frag} {mg : Str → Option Value} {base : Heap} {T : List NTab} {f : Addr} {fd : FuncData}
abbrev pUnits : List DL.D → DL.D → Prop := fun ds r => ∃ n : Nat, ds = [.int n] ∧ n ≤ 1000 ∧ r = mT (unitsM n)
abbrev pAdded : List DL.D → DL.D → Prop := fun ds r => ∃ dt dr t u times rows, ∃ n : Nat, ds = [dt, dr, .int n] ∧ (seqD dt = some (t, times.map .int) ∧ seqD dr = some (u, rows.map iT) ∧ n ≤ 1000 ∧ times.length ≤ 1000 ∧ AddOk times rows) ∧ r = iT (addedM times rows n)
abbrev pCols : List DL.D → DL.D → Prop := fun ds r => ∃ d rows, ∃ n : Nat, ds = [d, .int n] ∧ (RowsD d rows ∧ n ≤ 1000 ∧ rows.length ≤ 1000 ∧ ∀ r ∈ rows, n ≤ r.length) ∧ r = mT (colsM rows n)
theorem units_ok (b : Blt mg) (GU : Df P w K mg base T 1 "unit" ["place", "size"] (SP 2 pUnit)) (F : Fd K mg "units" 7 f fd) : Df P w K mg base T 2 "units" ["size"] (SP 1 pUnits) :=
  dp_ok F.fn F.mg (bn_units F) sc_units rfl fun cdv A outer s H E hr B ds r hn h => by
    obtain ⟨n, rfl, h1, rfl⟩ := h
    have nd := nd_units
    refine bl_one (bs_ret (de_tuple rfl b.tuple (ds_new (n_lc nd [("place", 1)] (fun _ _ _ _ _ => g1 nd 1) (mn 1) (di_range1 rfl b.range (dv 0 rfl ⟨_, rfl, by omega, lc_map (List.range n) (fun i => .int (0 + (i : Nat))) (fun (i : Nat) => iT (oneAt i n)) _ rfl trivial rfl (mn 1)
      (fun i hi s H C cl fp => de_callP GU (hr.mono (by decide)) rfl (dd_cons (dv 1 rfl (dd_cons (dv 0 rfl (dd_nil ⟨rfl, _, ⟨_, n, rfl, h1, rfl⟩, by rw [Int.zero_add], rfl⟩)))))) (by simp; omega) (by rw [mT, unitsM, List.map_map]; rfl)⟩))))))
theorem columns_ok (b : Blt mg) (F : Fd K mg "columns" 13 f fd) : Df P w K mg base T 1 "columns" ["rows", "size"] (SP 2 pCols) :=
  dp_ok F.fn F.mg (bn_columns F) sc_columns rfl fun cdv A outer s H E hr B ds r hn h => by
    obtain ⟨d, rows, n, rfl, ⟨h1, h2, h3, h4⟩, rfl⟩ := h
    have nd := nd_columns
    have get : ∀ row ∈ rows, ∀ i ∈ List.range n, atI (row.map PyData.int) (0 + (i : Int)) = some (.int (row.getD i 0)) := fun row hrow i hi => by
      rw [Int.zero_add]
      refine atI_nat ?_
      have : i < row.length := Nat.lt_of_lt_of_le (List.mem_range.mp hi) (h4 row hrow)
      rw [List.getElem?_map, List.getD_eq_getElem?_getD, List.getElem?_eq_getElem this]; rfl
    refine bl_one (bs_ret (de_tuple rfl b.tuple (ds_new (n_lc nd [("place", 2)] (fun _ _ _ _ _ => g1 nd 2) (mn 2) (di_range1 rfl b.range (dv 1 rfl ⟨_, rfl, by omega, lc_map (List.range n) (fun i => .int (0 + (i : Nat))) (fun (i : Nat) => iT (rows.map fun r => r.getD i 0)) _ rfl trivial rfl (mn 2)
      (fun i hi s H C cl fp => de_tuple rfl b.tuple (ds_new ?_)) (by simp; omega) (by rw [mT, colsM, List.map_map]; rfl)⟩))))))
    cases h1 with
    | tt => exact n_lc nd [("row", 3)] (fun _ _ _ _ _ => g1 nd 3) (mn 3) (di_tup (dv 0 rfl ⟨_, rfl, lc_map rows iT (fun r => .int (r.getD i 0)) _ rfl trivial rfl (mn 3) (fun row hrow s H C cl fp => de_ixT (fun _ _ => rfl) (dv 3 rfl ⟨_, rfl, dv 2 rfl ⟨_, rfl, _, get row hrow i hi, rfl, rfl⟩⟩)) (by omega) ⟨by rw [iT, List.map_map]; rfl, rfl⟩⟩))
    | tl => exact n_lc nd [("row", 3)] (fun _ _ _ _ _ => g1 nd 3) (mn 3) (di_lst (dv 0 rfl ⟨_, rfl, lc_map rows iT (fun r => .int (r.getD i 0)) _ rfl trivial rfl (mn 3) (fun row hrow s H C cl fp => de_ixT (fun _ _ => rfl) (dv 3 rfl ⟨_, rfl, dv 2 rfl ⟨_, rfl, _, get row hrow i hi, rfl, rfl⟩⟩)) (by omega) ⟨by rw [iT, List.map_map]; rfl, rfl⟩⟩))
    | ll => exact n_lc nd [("row", 3)] (fun _ _ _ _ _ => g1 nd 3) (mn 3) (di_lst (dv 0 rfl ⟨_, rfl, lc_map rows iL (fun r => .int (r.getD i 0)) _ rfl trivial rfl (mn 3) (fun row hrow s H C cl fp => de_ixL (fun _ _ => rfl) (dv 3 rfl ⟨_, rfl, dv 2 rfl ⟨_, rfl, _, get row hrow i hi, rfl, rfl⟩⟩)) (by omega) ⟨by rw [iT, List.map_map]; rfl, rfl⟩⟩))
theorem rows_added_ok (b : Blt mg) (GN : Df P w K mg base T 1 "nothing" ["size"] (SP 1 pNothing)) (GP : Df P w K mg base T 1 "rows_plus" ["one", "other"] (SP 2 pPlus)) (GM : Df P w K mg base T 1 "row_times" ["row", "times"] (SP 2 pTimes)) (F : Fd K mg "rows_added" 12 f fd) : Df P w K mg base T 2 "rows_added" ["times", "rows", "size"] (SP 3 pAdded) :=
  dp_ok F.fn F.mg (bn_rows_added F) sc_rows_added rfl fun cdv A outer s H E hr B ds r hn h => by
    obtain ⟨dt, dr, t, u, times, rows, n, rfl, ⟨h1, h2, h3, h4, h5⟩, rfl⟩ := h
    have nd := nd_rows_added
    refine bl_cons (bs_set nd (i := 3) rfl (.inl rfl) (de_callP GN (hr.mono (by decide)) rfl (dd_cons (dv 2 rfl (dd_nil ⟨rfl, _, ⟨n, rfl, h3, rfl⟩, ?_⟩)))))
    refine bl_cons (bs_forJ PassesOwn.never rfl (mono_2 (mn 4) (mn 5)) (dg_2 rfl (mn 4) (mn 5) (g1 nd 4) (g1 nd 5)) [4, 5] (times.zip rows) (fun p => .tuple [.int p.1, iT p.2]) (fun (f : List Int) => [.dat dt, .dat dr, .dat (.int n), .dat (iT f), .non, .non])
      (fun rest f => rest.foldl (fun f p => addR f (scal p.2 p.1)) f = addedM times rows n ∧ f.length ≤ 1000 ∧ ∀ p ∈ rest, p.2.length ≤ 1000 ∧ ScalOk p.2 p.1)
      (di_zip rfl b.zip (dv 0 rfl ⟨_, _, h1, dv 1 rfl ⟨_, _, h2, zipD_row times rows, ⟨_, rfl, rfl, by rw [zerR_length]; exact h3, h5⟩, fun _ => trivial, ?_, ?_⟩⟩)))
    · rintro ⟨m, row⟩ rest f ⟨e, hf, ho⟩
      obtain ⟨o1, o2⟩ := ho _ List.mem_cons_self
      refine ⟨_, _, rfl, ?_⟩
      refine bl_one (bs_set nd (i := 3) rfl (.inl rfl) (de_callP GP (hr.mono (by decide)) rfl (dd_cons (dv 3 rfl (dd_cons (de_callP GM (hr.mono (by decide)) rfl (dd_cons (dv 5 rfl (dd_cons (dv 4 rfl (dd_nil ⟨rfl, _, ⟨row, m, rfl, ⟨o1, o2⟩, rfl⟩, dd_nil ⟨rfl, _, ⟨_, _, rfl, hf, rfl⟩, ?_⟩⟩)))))))))))
      exact ⟨_, rfl, e, by rw [addR_length]; omega, fun p hp => ho p (List.mem_cons_of_mem _ hp)⟩
    · rintro f ⟨e, _⟩
      exact bl_one (bs_ret (dv 3 rfl (by rw [← e]; rfl)))
theorem law_mixed_ok (b : Blt mg) (GN : Df P w K mg base T 1 "_law_idle" ["_law_size_so"] (SP 1 pNothing)) (GP : Df P w K mg base T 1 "_law_plus" ["_law_one_so", "_law_two_so"] (SP 2 pPlus)) (GM : Df P w K mg base T 1 "_law_many" ["_law_row_so", "_law_times_so"] (SP 2 pTimes)) (F : Fd K mg "_law_mixed" 69 f fd) : Df P w K mg base T 2 "_law_mixed" ["_law_parts_so", "_law_rows_so", "_law_size_so"] (SP 3 pAdded) :=
  dp_ok F.fn F.mg (bn_law_mixed F) sc_law_mixed rfl fun cdv A outer s H E hr B ds r hn h => by
    obtain ⟨dt, dr, t, u, times, rows, n, rfl, ⟨h1, h2, h3, h4, h5⟩, rfl⟩ := h
    have nd := nd_law_mixed
    refine bl_cons (bs_set nd (i := 3) rfl (.inl rfl) (de_callP GN (hr.mono (by decide)) rfl (dd_cons (dv 2 rfl (dd_nil ⟨rfl, _, ⟨n, rfl, h3, rfl⟩, ?_⟩)))))
    refine bl_cons (bs_forJ PassesOwn.never rfl (mono_2 (mn 4) (mn 5)) (dg_2 rfl (mn 4) (mn 5) (g1 nd 4) (g1 nd 5)) [4, 5] (times.zip rows) (fun p => .tuple [.int p.1, iT p.2]) (fun (f : List Int) => [.dat dt, .dat dr, .dat (.int n), .dat (iT f), .non, .non])
      (fun rest f => rest.foldl (fun f p => addR f (scal p.2 p.1)) f = addedM times rows n ∧ f.length ≤ 1000 ∧ ∀ p ∈ rest, p.2.length ≤ 1000 ∧ ScalOk p.2 p.1)
      (di_zip rfl b.zip (dv 0 rfl ⟨_, _, h1, dv 1 rfl ⟨_, _, h2, zipD_row times rows, ⟨_, rfl, rfl, by rw [zerR_length]; exact h3, h5⟩, fun _ => trivial, ?_, ?_⟩⟩)))
    · rintro ⟨m, row⟩ rest f ⟨e, hf, ho⟩
      obtain ⟨o1, o2⟩ := ho _ List.mem_cons_self
      refine ⟨_, _, rfl, ?_⟩
      refine bl_one (bs_set nd (i := 3) rfl (.inl rfl) (de_callP GP (hr.mono (by decide)) rfl (dd_cons (dv 3 rfl (dd_cons (de_callP GM (hr.mono (by decide)) rfl (dd_cons (dv 5 rfl (dd_cons (dv 4 rfl (dd_nil ⟨rfl, _, ⟨row, m, rfl, ⟨o1, o2⟩, rfl⟩, dd_nil ⟨rfl, _, ⟨_, _, rfl, hf, rfl⟩, ?_⟩⟩)))))))))))
      exact ⟨_, rfl, e, by rw [addR_length]; omega, fun p hp => ho p (List.mem_cons_of_mem _ hp)⟩
    · rintro f ⟨e, _⟩
      exact bl_one (bs_ret (dv 3 rfl (by rw [← e]; rfl)))
end
end Wk

set_option Elab.async false
set_option linter.all false
set_option maxRecDepth 100000
set_option maxHeartbeats 400000
namespace Wk
open PySem PySem.Spec PyProof.Rows L2 NdefX DL
mutual
def tupD : DL.D → DL.D
  | .list ds => .tuple (tupDs ds)
  | .tuple ds => .tuple (tupDs ds)
  | .none => .none
  | .bool b => .bool b
  | .int i => .int i
  | .str s => .str s
  | .dict k => .dict k
def tupDs : List DL.D → List DL.D
  | [] => []
  | d :: ds => tupD d :: tupDs ds
end
mutual
def lstD : DL.D → DL.D
  | .list ds => .list (lstDs ds)
  | .tuple ds => .list (lstDs ds)
  | .none => .none
  | .bool b => .bool b
  | .int i => .int i
  | .str s => .str s
  | .dict k => .dict k
def lstDs : List DL.D → List DL.D
  | [] => []
  | d :: ds => lstD d :: lstDs ds
end
theorem tupDs_map : ∀ ds, tupDs ds = ds.map tupD
  | [] => rfl
  | d :: ds => by rw [tupDs, tupDs_map ds]; rfl
theorem lstDs_map : ∀ ds, lstDs ds = ds.map lstD
  | [] => rfl
  | d :: ds => by rw [lstDs, lstDs_map ds]; rfl
def isSq : DL.D → Bool
  | .list _ => true
  | .tuple _ => true
  | _ => false
def isBS : DL.D → Bool
  | .bool _ => true
  | .str _ => true
  | _ => false
def isLs : DL.D → Bool
  | .list _ => true
  | _ => false
def isTp : DL.D → Bool
  | .tuple _ => true
  | _ => false
def isBo : DL.D → Bool
  | .bool _ => true
  | _ => false
def isIn : DL.D → Bool
  | .bool _ => true
  | .int _ => true
  | _ => false
/-- no deeper than n, no sequence too long -/
def fit : Nat → DL.D → Prop
  | 0, d => isSq d = false
  | n + 1, d => ∀ t ds, seqD d = some (t, ds) → ds.length ≤ 1000 ∧ ∀ x ∈ ds, fit n x
def leafOk : DL.D → Prop
  | .list _ => True
  | .tuple _ => True
  | .dict _ => False
  | .str x => SeqAt.shaped (.str x) = true
  | _ => True
def sameOk : Nat → DL.D → Prop
  | 0, d => isSq d = false ∧ leafOk d
  | n + 1, d => leafOk d ∧ ∀ t ds, seqD d = some (t, ds) → ds.length ≤ 1000 ∧ ∀ x ∈ ds, sameOk n x
theorem sameOk_leaf : ∀ {n : Nat} {d : DL.D}, sameOk n d → leafOk d
  | 0, _, h => h.2
  | _ + 1, _, h => h.1
theorem zip_self {ds : List DL.D} : zipD ds ds = ds.map fun x => .tuple [x, x] := by
  unfold zipD
  induction ds with
  | nil => rfl
  | cons x xs ih => rw [List.zipWith_cons_cons, ih]; rfl
theorem fit_leaf {d : DL.D} (h : isSq d = false) : ∀ n, fit n d
  | 0 => h
  | n + 1 => fun t ds e => by cases d <;> simp [seqD, isSq] at e h
theorem fit_up : ∀ {n : Nat} {d : DL.D}, fit n d → fit (n + 1) d
  | 0, d, h => fit_leaf h 1
  | n + 1, d, h => fun t ds e => ⟨(h t ds e).1, fun x hx => fit_up ((h t ds e).2 x hx)⟩
theorem seqD_of {d : DL.D} (h : isSq d = true) : ∃ t ds, seqD d = some (t, ds) := by cases d <;> simp [isSq] at h <;> exact ⟨_, _, rfl⟩
theorem tup_leaf {d : DL.D} (h : isSq d = false) : tupD d = d := by cases d <;> simp [isSq] at h <;> simp [tupD]
theorem lst_leaf {d : DL.D} (h : isSq d = false) : lstD d = d := by cases d <;> simp [isSq] at h <;> simp [lstD]
theorem tup_seq {d : DL.D} {t : Bool} {ds : List DL.D} (h : seqD d = some (t, ds)) : tupD d = .tuple (ds.map tupD) := by
  cases d <;> simp [seqD] at h <;> (obtain ⟨_, rfl⟩ := h; rw [tupD, tupDs_map])
theorem lst_seq {d : DL.D} {t : Bool} {ds : List DL.D} (h : seqD d = some (t, ds)) : lstD d = .list (ds.map lstD) := by
  cases d <;> simp [seqD] at h <;> (obtain ⟨_, rfl⟩ := h; rw [lstD, lstDs_map])
section
variable {T : List NTab} {X : Cx} {Δ : List En} {e : Expr} {Q : QD} {pos p p1 p2 p3 pc : Pos} {j : Nat}
theorem di_sq {tg : Expr} {Q : QI} (i : Nat) {x : Str} {d : DL.D} {t : Bool} {ds : List DL.D} (hd : Δ[i]? = some (.dat d)) (hs : seqD d = some (t, ds)) (q : Q ds yes Δ) (hN : X.N[i]? = some x := by rfl) (hv : Vis X.env.scope x := by first | exact Or.inl rfl | exact Or.inr (Or.inl rfl) | exact Or.inr (Or.inr rfl)) (h1 : (x == ("__debug__" : Str)) = false := by decide) (h2 : (x == ("__classdict__" : Str)) = false := by decide) : DI T X Δ tg (.Name x pos) Q := by
  cases d with
  | list xs => cases hs; exact di_lst (dv i hd ⟨_, rfl, q⟩ hN hv h1 h2)
  | tuple xs => cases hs; exact di_tup (dv i hd ⟨_, rfl, q⟩ hN hv h1 h2)
  | _ => cases hs
/-- isinstance(e, (list, tuple)) -/
theorem isi_LT (b : Blt X.mg) (h : DE T X Δ e fun d Δ1 => Q (.bool (isSq d)) Δ1) (hg : Gl X "isinstance" := by rfl) (hg1 : Gl X "list" := by rfl) (hg2 : Gl X "tuple" := by rfl) (hs : starEach [e, .Tuple [.Name "list" p1, .Name "tuple" p2] j p3] X.env = (false, eval e X.env) :: starEach [.Tuple [.Name "list" p1, .Name "tuple" p2] j p3] X.env := by rfl) :
    DE T X Δ (.Call (.Name "isinstance" p) [e, .Tuple [.Name "list" p1, .Name "tuple" p2] j p3] [] pos) Q :=
  de_isi2 (n1 := "list") (n2 := "tuple") isSq hg b.isinstance hg1 b.list (by decide +kernel) (by decide) (by decide) hg2 b.tuple (by decide +kernel) (by decide) (by decide) (fun K d => by cases d <;> rfl) h hs
theorem isi_BS (b : Blt X.mg) (h : DE T X Δ e fun d Δ1 => Q (.bool (isBS d)) Δ1) (hg : Gl X "isinstance" := by rfl) (hg1 : Gl X "bool" := by rfl) (hg2 : Gl X "str" := by rfl) (hs : starEach [e, .Tuple [.Name "bool" p1, .Name "str" p2] j p3] X.env = (false, eval e X.env) :: starEach [.Tuple [.Name "bool" p1, .Name "str" p2] j p3] X.env := by rfl) :
    DE T X Δ (.Call (.Name "isinstance" p) [e, .Tuple [.Name "bool" p1, .Name "str" p2] j p3] [] pos) Q :=
  de_isi2 (n1 := "bool") (n2 := "str") isBS hg b.isinstance hg1 b.bool (by decide +kernel) (by decide) (by decide) hg2 b.str (by decide +kernel) (by decide) (by decide) (fun K d => by cases d <;> rfl) h hs
theorem isi_L (b : Blt X.mg) (h : DE T X Δ e fun d Δ1 => Q (.bool (isLs d)) Δ1) (hg : Gl X "isinstance" := by rfl) (hg1 : Gl X "list" := by rfl) (hs : starEach [e, .Name "list" pc] X.env = (false, eval e X.env) :: starEach [.Name "list" pc] X.env := by rfl) :
    DE T X Δ (.Call (.Name "isinstance" p) [e, .Name "list" pc] [] pos) Q :=
  de_isi1 (n := "list") isLs hg b.isinstance hg1 b.list (by decide +kernel) (by decide) (by decide) (fun K d => by cases d <;> rfl) h hs
theorem isi_T (b : Blt X.mg) (h : DE T X Δ e fun d Δ1 => Q (.bool (isTp d)) Δ1) (hg : Gl X "isinstance" := by rfl) (hg1 : Gl X "tuple" := by rfl) (hs : starEach [e, .Name "tuple" pc] X.env = (false, eval e X.env) :: starEach [.Name "tuple" pc] X.env := by rfl) :
    DE T X Δ (.Call (.Name "isinstance" p) [e, .Name "tuple" pc] [] pos) Q :=
  de_isi1 (n := "tuple") isTp hg b.isinstance hg1 b.tuple (by decide +kernel) (by decide) (by decide) (fun K d => by cases d <;> rfl) h hs
theorem isi_B (b : Blt X.mg) (h : DE T X Δ e fun d Δ1 => Q (.bool (isBo d)) Δ1) (hg : Gl X "isinstance" := by rfl) (hg1 : Gl X "bool" := by rfl) (hs : starEach [e, .Name "bool" pc] X.env = (false, eval e X.env) :: starEach [.Name "bool" pc] X.env := by rfl) :
    DE T X Δ (.Call (.Name "isinstance" p) [e, .Name "bool" pc] [] pos) Q :=
  de_isi1 (n := "bool") isBo hg b.isinstance hg1 b.bool (by decide +kernel) (by decide) (by decide) (fun K d => by cases d <;> rfl) h hs
theorem isi_I (b : Blt X.mg) (h : DE T X Δ e fun d Δ1 => Q (.bool (isIn d)) Δ1) (hg : Gl X "isinstance" := by rfl) (hg1 : Gl X "int" := by rfl) (hs : starEach [e, .Name "int" pc] X.env = (false, eval e X.env) :: starEach [.Name "int" pc] X.env := by rfl) :
    DE T X Δ (.Call (.Name "isinstance" p) [e, .Name "int" pc] [] pos) Q :=
  de_isi1 (n := "int") isIn hg b.isinstance hg1 b.int (by decide +kernel) (by decide) (by decide) (fun K d => by cases d <;> rfl) h hs
end
section
variable {P : Program} {w : World} {K : DL.Frag} {mg : Str → Option Value} {base : Heap} {T : List NTab} {f : Addr} {fd : FuncData}
abbrev pTup (n : Nat) : List DL.D → DL.D → Prop := fun ds r => ∃ d, ds = [d] ∧ fit n d ∧ r = tupD d
abbrev pLst (n : Nat) : List DL.D → DL.D → Prop := fun ds r => ∃ d, ds = [d] ∧ fit n d ∧ r = lstD d
abbrev pSame (n : Nat) : List DL.D → DL.D → Prop := fun ds r => ∃ d, ds = [d, d] ∧ sameOk n d ∧ r = .bool true
theorem tupled_ok (b : Blt mg) (F : Fd K mg "tupled" 4 f fd) : ∀ n, Df P w K mg base T (n + 1) "tupled" ["matter"] (SP 1 (pTup n))
  | 0 => dp_ok F.fn F.mg (bn_tupled F) sc_tupled rfl fun cdv A outer s H E hr B ds r hn h => by
    obtain ⟨d, rfl, h1, rfl⟩ := h
    refine bl_one (bs_ret (de_if (dt_val (isi_LT b (dv 0 rfl ⟨_, rfl, fun h => ?_, fun h => dv 0 rfl (by rw [tup_leaf h1])⟩)))))
    rw [h1] at h; cases h
  | n + 1 => dp_ok F.fn F.mg (bn_tupled F) sc_tupled rfl fun cdv A outer s H E hr B ds r hn h => by
    obtain ⟨d, rfl, h1, rfl⟩ := h
    have nd := nd_tupled
    refine bl_one (bs_ret (de_if (dt_val (isi_LT b (dv 0 rfl ⟨_, rfl, fun h => ?_, fun h => dv 0 rfl (by rw [tup_leaf h])⟩)))))
    obtain ⟨t, xs, e⟩ := seqD_of h
    obtain ⟨h2, h3⟩ := h1 t xs e
    refine de_tuple rfl b.tuple (ds_new (n_lc nd [("bit", 1)] (fun _ _ _ _ _ => g1 nd 1) (mn 1) (di_sq 0 rfl e (lc_map xs id tupD _ rfl trivial (by simp) (mn 1)
      (fun x hx s H C cl fp => de_callP (tupled_ok b F n) (hr.mono (by omega)) rfl (dd_cons (dv 1 rfl (dd_nil ⟨rfl, _, ⟨x, rfl, h3 x hx, rfl⟩, rfl, rfl⟩)))) (by omega) (by rw [tup_seq e])))))
theorem law_lists_ok (b : Blt mg) (F : Fd K mg "_law_lists" 62 f fd) : ∀ n, Df P w K mg base T (n + 1) "_law_lists" ["_law_matter"] (SP 1 (pLst n))
  | 0 => dp_ok F.fn F.mg (bn_law_lists F) sc_law_lists rfl fun cdv A outer s H E hr B ds r hn h => by
    obtain ⟨d, rfl, h1, rfl⟩ := h
    refine bl_one (bs_ret (de_if (dt_val (isi_LT b (dv 0 rfl ⟨_, rfl, fun h => ?_, fun h => dv 0 rfl (by rw [lst_leaf h1])⟩)))))
    rw [h1] at h; cases h
  | n + 1 => dp_ok F.fn F.mg (bn_law_lists F) sc_law_lists rfl fun cdv A outer s H E hr B ds r hn h => by
    obtain ⟨d, rfl, h1, rfl⟩ := h
    have nd := nd_law_lists
    refine bl_one (bs_ret (de_if (dt_val (isi_LT b (dv 0 rfl ⟨_, rfl, fun h => ?_, fun h => dv 0 rfl (by rw [lst_leaf h])⟩)))))
    obtain ⟨t, xs, e⟩ := seqD_of h
    obtain ⟨h2, h3⟩ := h1 t xs e
    exact de_new (n_lc nd [("_law_bit", 1)] (fun _ _ _ _ _ => g1 nd 1) (mn 1) (di_sq 0 rfl e (lc_map xs id lstD _ rfl trivial (by simp) (mn 1)
      (fun x hx s H C cl fp => de_callP (law_lists_ok b F n) (hr.mono (by omega)) rfl (dd_cons (dv 1 rfl (dd_nil ⟨rfl, _, ⟨x, rfl, h3 x hx, rfl⟩, rfl, rfl⟩)))) (by omega) (by rw [lst_seq e]; rfl))))

theorem eqb (v : Bool) : PyData.eqv (.bool v) (.bool v) = true := by cases v <;> rfl
theorem law_same_ok (b : Blt mg) (F : Fd K mg "_law_same" 63 f fd) : ∀ n, Df P w K mg base T (n + 1) "_law_same" ["_law_got", "_law_due"] (SP 2 (pSame n)) := by
  have step : ∀ k, (∀ j, k = j + 1 → Df P w K mg base T (j + 1) "_law_same" ["_law_got", "_law_due"] (SP 2 (pSame j))) → Df P w K mg base T (k + 1) "_law_same" ["_law_got", "_law_due"] (SP 2 (pSame k)) := fun k ih => by
    refine dp_ok F.fn F.mg (bn_law_same F) sc_law_same rfl fun cdv A outer s H E hr B ds r hn h => ?_
    obtain ⟨d, rfl, h1, rfl⟩ := h
    have nd := nd_law_same
    refine bl_cons (bs_if (dt_val (isi_LT b (dv 1 rfl ⟨_, rfl, fun hq => ?_, fun hq => bl_nil ?_⟩))))
    · -- a sequence
      refine bl_cons (bs_if (dw_dt (dw_or (dt_ne hr.units (isi_L b (dv 0 rfl (isi_L b (dv 1 rfl ⟨rfl, rfl, fun h => ?_, fun _ => dw_or1 (dt_ne hr.units (isi_T b (dv 0 rfl (isi_T b (dv 1 rfl ⟨rfl, rfl, fun h => ?_, fun h => bl_nil ?_⟩)))))⟩))))))))
      · rw [eqb] at h; cases h
      · rw [eqb] at h; cases h
      obtain ⟨t, xs, e⟩ := seqD_of hq
      cases k with
      | zero => rw [h1.1] at hq; cases hq
      | succ k =>
        obtain ⟨h2, h3⟩ := h1.2 t xs e
        have es : ∀ a : DL.D, seqE (.dat d) = some (t, xs) := fun _ => by cases d <;> first | exact e | cases e
        refine bl_one (bs_ret (de_and (de_eq hr.units (de_len rfl b.len (sv 0 rfl (es d) (de_len rfl b.len (sv 1 rfl (es d) ⟨rfl, rfl, _, rfl, fun _ => de_one ?_, fun h => ?_⟩)))))))
        · refine de_all rfl rfl b.all (ds_new (n_lc nd [("_law_mine", 2), ("_law_its", 3)] (fun _ _ _ _ _ => dg_2 rfl (mn 2) (mn 3) (g1 nd 2) (g1 nd 3)) (mono_2 (mn 2) (mn 3)) (di_zip rfl b.zip (dv 0 rfl ⟨_, _, e, dv 1 rfl ⟨_, _, e, lc_map xs (fun x => .tuple [x, x]) (fun _ => .bool true) _ rfl trivial zip_self (mono_2 (mn 2) (mn 3))
            (fun x hx => ⟨_, _, rfl, fun s H C cl fp => de_callP (ih k rfl) (hr.mono (by omega)) rfl (dd_cons (dv 2 rfl (dd_cons (dv 3 rfl (dd_nil ⟨rfl, _, ⟨x, rfl, h3 x hx, rfl⟩, rfl, rfl⟩)))))⟩) (by omega) ⟨rfl, xs.map fun _ => true, by rw [List.map_map]; rfl, ?_⟩⟩⟩))))
          rw [show (xs.map fun _ => true).all id = true by simp]
        · simp [PyData.eqv] at h
    · have hl := sameOk_leaf h1
      refine bl_cons (bs_if (dw_dt (dw_or (dt_isN (dv 1 rfl ⟨fun hN => ⟨fun _ => ?_, fun z => nomatch z⟩, fun hN => dw_or1 (dt_val (isi_BS b (dv 1 rfl ⟨_, rfl, fun hB => ?_, fun hB => bl_nil ?_⟩)))⟩)))))
      · have q : SeqAt.shaped d = true ∧ PyData.eqv d d = true := by cases d <;> simp [isNoneD] at hN; exact ⟨rfl, rfl⟩
        refine bl_one (bs_ret (de_and (de_eq hr.units (dv 0 rfl (dv 1 rfl ⟨q.1, q.1, _, rfl, fun _ => de_and (de_eq hr.units (isi_B b (dv 0 rfl (isi_B b (dv 1 rfl ⟨rfl, rfl, _, rfl, fun _ => de_one (de_eq hr.units (de_isN (dv 0 rfl (de_isN (dv 1 rfl ⟨rfl, rfl, ?_⟩))))), fun h => by rw [eqb] at h; cases h⟩))))), fun h => by rw [q.2] at h; cases h⟩)))))
        rw [hN]; rfl
      · have q : SeqAt.shaped d = true ∧ PyData.eqv d d = true ∧ isNoneD d = false := by
          cases d <;> simp [isBS] at hB
          · exact ⟨rfl, eqb _, rfl⟩
          · exact ⟨hl, by simp [PyData.eqv], rfl⟩
        exact bl_one (bs_ret (de_and (de_eq hr.units (dv 0 rfl (dv 1 rfl ⟨q.1, q.1, _, rfl, fun _ => de_and (de_eq hr.units (isi_B b (dv 0 rfl (isi_B b (dv 1 rfl ⟨rfl, rfl, _, rfl, fun _ => de_one (de_eq hr.units (de_isN (dv 0 rfl (de_isN (dv 1 rfl ⟨rfl, rfl, by rw [q.2.2]; rfl⟩))))), fun h => by rw [eqb] at h; cases h⟩))))), fun h => by rw [q.2.1] at h; cases h⟩)))))
      · have q : isIn d = true ∧ isBo d = false ∧ SeqAt.shaped d = true ∧ PyData.eqv d d = true := by
          cases d <;> simp [isBS, isNoneD, isSq, leafOk] at hB hN hq hl
          exact ⟨rfl, rfl, rfl, by simp [PyData.eqv]⟩
        exact bl_one (bs_ret (de_and (isi_I b (dv 0 rfl ⟨_, rfl, fun _ => de_and (de_not (isi_B b (dv 0 rfl ⟨_, rfl, _, rfl, fun _ => de_one (de_eq hr.units (dv 0 rfl (dv 1 rfl ⟨q.2.2.1, q.2.2.1, by rw [q.2.2.2]⟩))), fun h => by rw [q.2.1] at h; cases h⟩))), fun h => by rw [q.1] at h; cases h⟩))))
  intro n
  induction n with
  | zero => exact step 0 fun j h => nomatch h
  | succ n ih => exact step (n + 1) fun j h => by cases h; exact ih
end
end Wk

set_option Elab.async false
set_option linter.all false
set_option maxRecDepth 100000
set_option maxHeartbeats 400000
namespace Wk
open PySem PySem.Spec PyProof.Rows L2 NdefX DL
def swapM {α : Type} (xs : List α) (i j : Nat) : List α := match xs[i]?, xs[j]? with
  | some x, some y => (xs.set i y).set j x
  | _, _ => xs
def subS (xs ys : List Int) (q : Int) : List Int := (xs.zip ys).map fun p => p.1 - q * p.2
def takeM (R : List (List Int)) (a b : Nat) (q : Int) : List (List Int) := R.set b (subS (R.getD b []) (R.getD a []) q)
def ent (R : List (List Int)) (i j : Nat) : Int := (R.getD i []).getD j 0
theorem cut_from {α : Type} (xs : List α) (k : Nat) : DL.cutD xs (some (k : Int)) none = xs.drop k := by
  unfold DL.cutD
  rw [HT.sIx_nat, HT.sIx_none]
  by_cases h : k ≤ xs.length
  · rw [Nat.min_eq_left h, List.take_of_length_le (by simp)]
  · rw [Nat.min_eq_right (by omega), List.drop_length, List.drop_eq_nil_of_le (by omega)]; simp
theorem cut_to {α : Type} (xs : List α) (k : Nat) : DL.cutD xs none (some (k : Int)) = xs.take k := by
  unfold DL.cutD
  rw [HT.sIx_nat, HT.sIx_none, List.drop_zero, Nat.sub_zero]
  by_cases h : k ≤ xs.length
  · rw [Nat.min_eq_left h]
  · rw [Nat.min_eq_right (by omega), List.take_length, List.take_of_length_le (by omega)]
section
variable {T : List NTab} {X : Cx} {Δ : List En} {b e : Expr} {es : List Expr} {Q : QD} {pos p : Pos}
theorem xv (i : Nat) {x : Str} {en : En} {t : Bool} {ds : List DL.D} (hd : Δ[i]? = some en) (he : seqE en = some (t, ds)) (h : DE T X Δ b (isI fun j Δ2 => Δ2 = Δ ∧ ∃ d, atI ds j = some d ∧ Q d Δ))
    (hN : X.N[i]? = some x := by rfl) (hv : Vis X.env.scope x := by first | exact Or.inl rfl | exact Or.inr (Or.inl rfl) | exact Or.inr (Or.inr rfl)) (hs : PlainIx b := by exact fun _ _ => rfl) (h1 : (x == ("__debug__" : Str)) = false := by decide) (h2 : (x == ("__classdict__" : Str)) = false := by decide) : DE T X Δ (.Subscript (.Name x p) b pos) Q := de_ixV hN hv hs hd he h h1 h2
/-- an own list as an argument -/
theorem am (i : Nat) {x : Str} {l : Addr} {ds : List DL.D} {Q : List Av → List En → Prop} (hd : Δ[i]? = some (.own l ds)) (h : DA T X Δ es fun as Δ2 => Q (.m i :: as) Δ2)
    (hN : X.N[i]? = some x := by rfl) (hv : Vis X.env.scope x := by first | exact Or.inl rfl | exact Or.inr (Or.inl rfl) | exact Or.inr (Or.inr rfl)) (hs : starEach (.Name x p :: es) X.env = (false, eval (.Name x p) X.env) :: starEach es X.env := by rfl) (h1 : (x == ("__debug__" : Str)) = false := by decide) (h2 : (x == ("__classdict__" : Str)) = false := by decide) : DA T X Δ (.Name x p :: es) Q := da_m hN hv hd h hs h1 h2
/-- a slice of an own list -/
theorem slO {p2 : Pos} (i : Nat) {x : Str} {lo hi : Option Expr} {Q : List D → List En → Prop} (hd : ∃ l ds, Δ[i]? = some (.own l ds)) (h : DO T X Δ lo fun l Δ2 => DO T X Δ2 hi fun u Δ3 => ∃ a ds, Δ3[i]? = some (.own a ds) ∧ Q (DL.cutD ds l u) Δ3)
    (hN : X.N[i]? = some x := by rfl) (hv : Vis X.env.scope x := by first | exact Or.inl rfl | exact Or.inr (Or.inl rfl) | exact Or.inr (Or.inr rfl)) (h1 : (x == ("__debug__" : Str)) = false := by decide) (h2 : (x == ("__classdict__" : Str)) = false := by decide) : DN T X Δ (.Subscript (.Name x p) (.Slice lo hi none p2) pos) Q := dn_slO hN hv hd h h1 h2
/-- own[i] as a target -/
theorem gs (i : Nat) {x : Str} {ix : Expr} (hN : X.N[i]? = some x := by rfl) (hv : Vis X.env.scope x := by first | exact Or.inl rfl | exact Or.inr (Or.inl rfl) | exact Or.inr (Or.inr rfl)) (h1 : (x == ("__debug__" : Str)) = false := by decide) (h2 : (x == ("__classdict__" : Str)) = false := by decide)
    (ha : ∀ v, assign (.Subscript (.Name x p) ix pos) X.env v = (do
      let ov ← holding [v] (eval (.Name x p) X.env)
      let iv ← holding [v, ov] (eval ix X.env)
      standAt pos
      holding [v, ov, iv] (setItem ov iv v)
      release [v, ov, iv] []) := by intro _; rfl) : DG T X (.Subscript (.Name x p) ix pos) (fS T X i ix) [] := dg_sub hN hv h1 h2 ha
end
theorem ixN_nat {n i : Nat} (h : i < n) : ixN n (i : Int) = some i := by
  unfold ixN
  rw [if_pos (by omega), if_pos (by omega)]; simp
theorem row_at {R : List (List Int)} {i : Nat} (h : i < R.length) : atI (R.map iL) (i : Int) = some (iL (R.getD i [])) := by
  refine atI_nat ?_
  rw [List.getElem?_map, List.getD_eq_getElem?_getD, List.getElem?_eq_getElem h]; rfl
theorem int_at {xs : List Int} {i : Nat} (h : i < xs.length) : atI (xs.map PyData.int) (i : Int) = some (.int (xs.getD i 0)) := by
  refine atI_nat ?_
  rw [List.getElem?_map, List.getD_eq_getElem?_getD, List.getElem?_eq_getElem h]; rfl
theorem noLs_ints (xs : List Int) : noLs (xs.map PyData.int) = true := by
  induction xs with
  | nil => rfl
  | cons x xs ih => rw [List.map_cons, noLs, ih]; rfl
theorem noL_iT (xs : List Int) : noL (iT xs) = true := by rw [noL]; exact noLs_ints xs
theorem noL_mT (rows : List (List Int)) : noL (mT rows) = true := by
  rw [noL]
  induction rows with
  | nil => rfl
  | cons x xs ih => rw [List.map_cons, noLs, ih, noL_iT]; rfl
/-- all arguments as they were -/
theorem back_same {as Δ : List En} (h : ∀ (i : Nat) (l : Addr) (ds : List DL.D), as[i]? = some (.own l ds) → ∃ j : Nat, Δ[j]? = some (.own l ds)) : Back as Δ as := ⟨rfl, fun i e he => by
  cases e with
  | non => exact .inl rfl
  | dat d => exact .inr (.inl ⟨d, rfl, he⟩)
  | own l ds => exact .inr (.inr ⟨l, ds, ds, rfl, he, h i l ds he⟩)⟩
section
variable {P : Program} {w : World} {K : DL.Frag} {mg : Str → Option Value} {base : Heap} {T : List NTab} {f : Addr} {fd : FuncData}
/-- an own list is read, a new list of lists is handed back -/
def sTurn : SD := fun as k => ∃ l R, ∃ n : Nat, as = [.own l (R.map iL), .dat (.int n)] ∧ (n ≤ 1000 ∧ R.length ≤ 1000 ∧ ∀ r ∈ R, n ≤ r.length) ∧ ∀ l', k (.own l' ((colsM R n).map iL)) [.own l (R.map iL), .dat (.int n)]
theorem sTurn_mono : SMono sTurn := fun as k k' ⟨l, R, n, e, h, q⟩ w => ⟨l, R, n, e, h, fun l' => w _ _ (q l')⟩
theorem turned_ok (b : Blt mg) (GC : Df P w K mg base T 1 "columns" ["rows", "size"] (SP 2 pCols)) (F : Fd K mg "turned_about" 22 f fd) : Df P w K mg base T 2 "turned_about" ["rows", "size"] sTurn :=
  df_ok F.fn F.mg (bn_turned_about F) sc_turned_about (fun as k ⟨l, R, n, e, _⟩ => by rw [e]; rfl) fun cdv A outer s H E hr B as k ⟨l, R, n, e, ⟨h1, h2, h3⟩, q⟩ => by
    subst e
    have nd := nd_turned_about
    refine bl_one <| bs_retN <| n_lc nd [("column", 2)] (fun _ _ _ _ _ => g1 nd 2) (mn 2) <| di_tup <| de_callL GC SP.mono (hr.mono (by decide)) rfl <| am 0 rfl <| da_d <| dv 1 rfl <| da_nil ⟨rfl, [_, _], _, rfl, rfl, ⟨_, R, n, rfl, ⟨.ll R, h1, h2, h3⟩, rfl⟩, _, rfl, noL_mT _, _, rfl, lc_map (colsM R n) iT iL _ rfl trivial rfl (mn 2)
      (fun r hr' s H C cl fp => de_new <| dn_list rfl b.list <| ds_tup <| dv 2 rfl ⟨_, rfl, rfl, rfl⟩) (by simp [colsM]; omega) ?_⟩
    intro l'
    refine ⟨_, back_same fun i l2 ds h => ?_, q l'⟩
    cases i with
    | zero => cases h; exact ⟨0, rfl⟩
    | succ i => cases i with
      | zero => cases h
      | succ i => cases h
/-- two items change places -/
def sExch : SD := fun as k => ∃ l ds, ∃ i j : Nat, as = [.own l ds, .dat (.int i), .dat (.int j)] ∧ (i < ds.length ∧ j < ds.length) ∧ k (.dat .none) [.own l (swapM ds i j), .dat (.int i), .dat (.int j)]
theorem sExch_mono : SMono sExch := fun as k k' ⟨l, R, i, j, e, h, q⟩ w => ⟨l, R, i, j, e, h, w _ _ q⟩
theorem exch_ok (F : Fd K mg "exchanged" 24 f fd) : Df P w K mg base T 1 "exchanged" ["rows", "one", "other"] sExch :=
  df_ok F.fn F.mg (bn_exchanged F) sc_exchanged (fun as k ⟨l, R, i, j, e, _⟩ => by rw [e]; rfl) fun cdv A outer s H E hr B as k ⟨l, ds, i, j, e, ⟨h1, h2⟩, q⟩ => by
    subst e
    have nd := nd_exchanged
    have ei : ds[i]? = some ds[i] := List.getElem?_eq_getElem h1
    have ej : ds[j]? = some ds[j] := List.getElem?_eq_getElem h2
    refine bl_one <| bs_asg (mono_2 mono_s mono_s) (dg_2 rfl mono_s mono_s (gs 0) (gs 0)) <| de_tup <| dd_cons <| xv 0 rfl rfl <| dv 2 rfl ⟨_, rfl, rfl, _, atI_nat ej, dd_cons <| xv 0 rfl rfl <| dv 1 rfl ⟨_, rfl, rfl, _, atI_nat ei, dd_nil ⟨by simp, _, _, rfl, ⟨_, _, rfl⟩, dv 1 rfl ⟨_, rfl, _, _, _, rfl, ixN_nat h1, ⟨_, _, rfl⟩, dv 2 rfl ⟨_, rfl, _, _, _, rfl, ixN_nat (by simpa using h2), ?_⟩⟩⟩⟩⟩
    have e : swapM ds i j = (ds.set i ds[j]).set j ds[i] := by unfold swapM; rw [ei, ej]
    refine ⟨[.own l (swapM ds i j), .dat (.int i), .dat (.int j)], ⟨rfl, fun n en h => ?_⟩, q⟩
    match n, h with
    | 0, h => cases h; exact .inr (.inr ⟨l, _, ds, rfl, rfl, 0, by rw [e]; rfl⟩)
    | 1, h => cases h; exact .inr (.inl ⟨_, rfl, rfl⟩)
    | 2, h => cases h; exact .inr (.inl ⟨_, rfl, rfl⟩)
/-- a multiple of a row is taken from another -/
def sTaken : SD := fun as k => ∃ l R, ∃ (a c : Nat) (q : Int), as = [.own l (R.map iL), .dat (.int a), .dat (.int c), .dat (.int q)] ∧ (a < R.length ∧ c < R.length ∧ (R.getD c []).length ≤ 1000 ∧ ∀ y ∈ R.getD a [], IntMulOk q y) ∧ k (.dat .none) [.own l ((takeM R a c q).map iL), .dat (.int a), .dat (.int c), .dat (.int q)]
theorem sTaken_mono : SMono sTaken := fun as k k' ⟨l, R, a, c, q, e, h, q'⟩ w => ⟨l, R, a, c, q, e, h, w _ _ q'⟩
theorem taken_ok (b : Blt mg) (F : Fd K mg "taken_from" 25 f fd) : Df P w K mg base T 1 "taken_from" ["rows", "at", "from_row", "often"] sTaken :=
  df_ok F.fn F.mg (bn_taken_from F) sc_taken_from (fun as k ⟨l, R, a, c, q, e, _⟩ => by rw [e]; rfl) fun cdv A outer s H E hr B as k ⟨l, R, a, c, q, e, ⟨h1, h2, h3, h4⟩, qq⟩ => by
    subst e
    have nd := nd_taken_from
    refine bl_one <| bs_asg mono_s (gs 0) <| de_new <| n_lc nd [("near", 4), ("far", 5)] (fun _ _ _ _ _ => dg_2 rfl (mn 4) (mn 5) (g1 nd 4) (g1 nd 5)) (mono_2 (mn 4) (mn 5)) <| di_zip rfl b.zip <| xv 0 rfl rfl <| dv 2 rfl ⟨_, rfl, rfl, _, row_at h2, _, _, rfl, xv 0 rfl rfl <| dv 1 rfl ⟨_, rfl, rfl, _, row_at h1, _, _, rfl,
      lc_map ((R.getD c []).zip (R.getD a [])) (fun p => .tuple [.int p.1, .int p.2]) (fun p => .int (p.1 - q * p.2)) _ rfl trivial (zipD_int _ _) (mono_2 (mn 4) (mn 5)) (fun p hp => ⟨_, _, rfl, fun s H C cl fp => de_sub <| dv 4 rfl ⟨_, rfl, de_mul <| dv 3 rfl ⟨_, rfl, dv 5 rfl ⟨_, rfl, h4 _ (List.of_mem_zip hp).2, _, rfl, rfl, rfl⟩⟩⟩⟩) (by rw [List.length_zip]; omega) ⟨⟨_, _, rfl⟩, dv 2 rfl ⟨_, rfl, _, _, _, rfl, ixN_nat (by simpa using h2), ?_⟩⟩⟩⟩
    have e : (takeM R a c q).map iL = (R.map iL).set c (.list (((R.getD c []).zip (R.getD a [])).map fun p => .int (p.1 - q * p.2))) := by
      unfold takeM subS
      rw [List.map_set, iL, List.map_map]; rfl
    refine ⟨[.own l ((takeM R a c q).map iL), .dat (.int a), .dat (.int c), .dat (.int q)], ⟨rfl, fun n en h => ?_⟩, qq⟩
    match n, h with
    | 0, h => cases h; exact .inr (.inr ⟨l, _, _, rfl, rfl, 0, by rw [e]; rfl⟩)
    | 1, h => cases h; exact .inr (.inl ⟨_, rfl, rfl⟩)
    | 2, h => cases h; exact .inr (.inl ⟨_, rfl, rfl⟩)
    | 3, h => cases h; exact .inr (.inl ⟨_, rfl, rfl⟩)
end
end Wk

set_option Elab.async false
set_option linter.all false
set_option maxRecDepth 100000
set_option maxHeartbeats 400000
namespace Wk
open PySem PySem.Spec PyProof.Rows L2 NdefX DL
theorem enumD_map {α : Type} (g : α → DL.D) (xs : List α) : enumD (xs.map g) = xs.zipIdx.map fun p => .tuple [.int (p.2 : Nat), g p.1] := by
  unfold enumD
  apply List.ext_getElem?
  intro i
  simp only [List.getElem?_mapIdx, List.getElem?_map, List.getElem?_zipIdx]
  cases xs[i]? <;> simp
theorem mul_small {q y : Int} (h : q.natAbs < 2 ^ 63) : IntMulOk q y := by
  refine IntMulOk.of_left ?_
  unfold Builtin.Int.intBits
  split
  · omega
  · rename_i hz
    have hz : q.natAbs ≠ 0 := by simpa using hz
    have := (Nat.log2_lt hz).mpr (show q.natAbs < 2 ^ 63 from h)
    omega
theorem div_small {i j : Int} (h0 : j ≠ 0) (h : j.natAbs < 2 ^ 63) : CDivB i j := by
  refine ⟨h0, ?_⟩
  have := (Nat.log2_lt (n := j.natAbs) (by omega)).mpr (show j.natAbs < 2 ^ 63 from h)
  omega
/-- m rows of n each -/
structure Mat (R : List (List Int)) (m n : Nat) : Prop where
  len : R.length = m
  row : ∀ r ∈ R, r.length = n
theorem Mat.rowD {R : List (List Int)} {m n i : Nat} (M : Mat R m n) (h : i < m) : (R.getD i []).length = n := by
  have hi : i < R.length := by rw [M.len]; exact h
  rw [List.getD_eq_getElem?_getD, List.getElem?_eq_getElem hi]
  exact M.row _ (List.getElem_mem hi)
theorem subS_length (xs ys : List Int) (q : Int) : (subS xs ys q).length = min xs.length ys.length := by simp [subS]
theorem Mat.take {R : List (List Int)} {m n a c : Nat} {q : Int} (M : Mat R m n) (ha : a < m) (hc : c < m) : Mat (takeM R a c q) m n := by
  refine ⟨by simp [takeM, M.len], fun r hr => ?_⟩
  unfold takeM at hr
  rcases List.mem_or_eq_of_mem_set hr with h | h
  · exact M.row r h
  · rw [h, subS_length, M.rowD ha, M.rowD hc, Nat.min_self]
/-- the pivot and the quotient are small -/
def numOk (R : List (List Int)) (a c : Nat) : Bool := decide (ent R a a ≠ 0) && decide ((ent R a a).natAbs < 2 ^ 63) && decide (((ent R c a).fdiv (ent R a a)).natAbs < 2 ^ 63)
def clearM (a : Nat) : List Nat → List (List Int) → List (List Int) → Option (List (List Int) × List (List Int))
  | [], R, S => some (R, S)
  | i :: is, R, S => if numOk R a (a + 1 + i) then clearM a is (takeM R a (a + 1 + i) ((ent R (a + 1 + i) a).fdiv (ent R a a))) (takeM S a (a + 1 + i) ((ent R (a + 1 + i) a).fdiv (ent R a a))) else none
def allZero (R : List (List Int)) (a : Nat) : Bool := ((R.drop (a + 1)).map fun r => decide (r.getD a 0 = 0)).all id
theorem eqi (x y : Int) : PyData.eqv (.int x) (.int y) = decide (x = y) := by simp [PyData.eqv]; rfl
/-- found so far -/
abbrev Spot := Option (Nat × Nat × Nat)
def spotD : Spot → DL.D
  | none => .none
  | some (a, i, j) => .tuple [.int a, .int i, .int j]
def spotR : Spot → DL.D
  | none => .none
  | some (_, i, j) => .tuple [.int i, .int j]
def better (i j a : Nat) (x : Int) (f : Spot) : Bool := decide (a ≤ i) && (decide (a ≤ j) && (decide (x ≠ 0) && match f with
  | none => true
  | some (b, _, _) => decide (x.natAbs < b)))
def spotRow (i a : Nat) (row : List (Int × Nat)) (f : Spot) : Spot := row.foldl (fun f p => if better i p.2 a p.1 f then some (p.1.natAbs, i, p.2) else f) f
def spotM (R : List (List Int)) (a : Nat) : Spot := R.zipIdx.foldl (fun f p => spotRow p.2 a p.1.zipIdx f) none
theorem absI (x : Int) : (if x < 0 then -x else x) = (x.natAbs : Int) := by split <;> omega
theorem back_cons {as Δ as' : List En} {e e' : En} (h : e' = .non ∨ (∃ d, e' = .dat d ∧ e = .dat d) ∨ ∃ l ds ds', e' = .own l ds ∧ e = .own l ds' ∧ ∃ j : Nat, Δ[j]? = some (.own l ds)) (t : Back as Δ as') : Back (e :: as) Δ (e' :: as') := ⟨congrArg (· + 1) t.len, fun i x hx => match i, hx with
  | 0, hx => by
    have hx : e' = x := Option.some.inj hx
    subst hx
    rcases h with h | ⟨d, h, h'⟩ | ⟨l, ds, ds', h, h', j⟩
    · exact .inl h
    · exact .inr (.inl ⟨d, h, congrArg some h'⟩)
    · exact .inr (.inr ⟨l, ds, ds', h, congrArg some h', j⟩)
  | i + 1, hx => t.en i x hx⟩
theorem back_nil {Δ : List En} : Back [] Δ [] := ⟨rfl, fun i x hx => by simp at hx⟩
theorem back_dat {as Δ as' : List En} {d : DL.D} (t : Back as Δ as') : Back (.dat d :: as) Δ (.dat d :: as') := back_cons (.inr (.inl ⟨d, rfl, rfl⟩)) t
theorem back_own {as Δ as' : List En} {l : Addr} {ds ds' : List DL.D} (j : Nat) (h : Δ[j]? = some (.own l ds)) (t : Back as Δ as') : Back (.own l ds' :: as) Δ (.own l ds :: as') := back_cons (.inr (.inr ⟨l, ds, ds', rfl, rfl, j, h⟩)) t
theorem back_non {as Δ as' : List En} {e : En} (t : Back as Δ as') : Back (e :: as) Δ (.non :: as') := back_cons (.inl rfl) t
section
variable {P : Program} {w : World} {K : DL.Frag} {mg : Str → Option Value} {base : Heap} {T : List NTab} {f : Addr} {fd : FuncData}
def sClear : SD := fun as k => ∃ l1 l2 R S, ∃ a m n n2 : Nat, ∃ R' S', as = [.own l1 (R.map iL), .own l2 (S.map iL), .dat (.int a)] ∧ (Mat R m n ∧ Mat S m n2 ∧ a < m ∧ a < n ∧ m ≤ 1000 ∧ n ≤ 1000 ∧ n2 ≤ 1000 ∧ clearM a (List.range (m - (a + 1))) R S = some (R', S')) ∧
  k (.dat (.bool (allZero R' a))) [.own l1 (R'.map iL), .own l2 (S'.map iL), .dat (.int a)]
theorem sClear_mono : SMono sClear := fun as k k' ⟨l1, l2, R, S, a, m, n, n2, R', S', e, h, q⟩ w => ⟨l1, l2, R, S, a, m, n, n2, R', S', e, h, w _ _ q⟩
theorem cleared_ok (b : Blt mg) (GT : Df P w K mg base T 1 "taken_from" ["rows", "at", "from_row", "often"] sTaken) (F : Fd K mg "cleared" 26 f fd) : Df P w K mg base T 2 "cleared" ["rows", "beside", "at"] sClear :=
  df_ok F.fn F.mg (bn_cleared F) sc_cleared (fun as k ⟨l1, l2, R, S, a, m, n, n2, R', S', e, _⟩ => by rw [e]; rfl) fun cdv A outer s H E hr B as k ⟨l1, l2, R, S, a, m, n, n2, R', S', e, ⟨M1, M2, h1, h2, h3, h4, h5, h6⟩, qq⟩ => by
    subst e
    have nd := nd_cleared
    refine bl_cons <| bs_forJ (β := List (List Int) × List (List Int)) PassesOwn.never rfl (mn 3) (g1 nd 3) [3, 4] (List.range (m - (a + 1))) (fun i => .int ((a : Int) + 1 + (i : Nat))) (fun st => [.own l1 (st.1.map iL), .own l2 (st.2.map iL), .dat (.int a), .non, .non, .non])
      (fun rest st => Mat st.1 m n ∧ Mat st.2 m n2 ∧ (∀ i ∈ rest, i < m - (a + 1)) ∧ clearM a rest st.1 st.2 = some (R', S'))
      <| di_range2 rfl b.range <| de_add <| dv 2 rfl ⟨_, rfl, de_int ⟨_, rfl, _, rfl, de_len rfl b.len <| sv 0 rfl rfl ⟨_, rfl, ?_, ?_, ⟨(R, S), rfl, M1, M2, fun i hi => List.mem_range.mp hi, h6⟩, fun _ => trivial, ?_, ?_⟩⟩⟩
    · rw [List.length_map, M1.len]; omega
    · rw [List.length_map, M1.len, rgD, show ((m : Int) - ((a : Int) + 1)).toNat = m - (a + 1) by omega]
    · rintro i rest ⟨R1, S1⟩ ⟨N1, N2, hi, hc⟩
      have hi0 : a + 1 + i < m := by have := hi i List.mem_cons_self; omega
      have ei : ((a : Int) + 1 + (i : Nat)) = ((a + 1 + i : Nat) : Int) := by omega
      unfold clearM at hc
      by_cases hg : numOk R1 a (a + 1 + i) = true
      · rw [if_pos hg] at hc
        have hg' := hg
        unfold numOk at hg'
        simp only [Bool.and_eq_true, decide_eq_true_eq] at hg'
        obtain ⟨⟨g0, g1'⟩, g2⟩ := hg'
        show BL _ _ _ _ _
        rw [ei]
        refine bl_cons <| bs_set nd (i := 4) rfl (.inl rfl) <| de_fdiv <| de_ixL (fun _ _ => rfl) <| xv 0 rfl rfl <| dv 3 rfl ⟨_, rfl, rfl, _, row_at (by rw [N1.len]; exact hi0), _, rfl, dv 2 rfl ⟨_, rfl, _, int_at (by rw [N1.rowD hi0]; exact h2), _, rfl, de_ixL (fun _ _ => rfl) <| xv 0 rfl rfl <| dv 2 rfl ⟨_, rfl, rfl, _, row_at (by rw [N1.len]; exact h1), _, rfl, dv 2 rfl ⟨_, rfl, _, int_at (by rw [N1.rowD h1]; exact h2), _, rfl, div_small g0 g1', ?_⟩⟩⟩⟩
        refine bl_cons <| bs_expr <| de_callM GT sTaken_mono (hr.mono (by decide)) rfl <| am 0 rfl <| da_d <| dv 2 rfl <| da_d <| dv 3 rfl <| da_d <| dv 4 rfl <| da_nil ⟨by simp [slotsOf], rfl, l1, R1, a, a + 1 + i, _, rfl, ⟨by rw [N1.len]; exact h1, by rw [N1.len]; exact hi0, by rw [N1.rowD hi0]; exact h4, fun y hy => mul_small g2⟩, rfl, _, rfl, ?_⟩
        refine bl_cons <| bs_expr <| de_callM GT sTaken_mono (hr.mono (by decide)) rfl <| am 1 rfl <| da_d <| dv 2 rfl <| da_d <| dv 3 rfl <| da_d <| dv 4 rfl <| da_nil ⟨by simp [slotsOf], rfl, l2, S1, a, a + 1 + i, _, rfl, ⟨by rw [N2.len]; exact h1, by rw [N2.len]; exact hi0, by rw [N2.rowD hi0]; exact h5, fun y hy => mul_small g2⟩, rfl, _, rfl, ?_⟩
        exact bl_nil ⟨(_, _), rfl, N1.take h1 hi0, N2.take h1 hi0, fun j hj => hi j (List.mem_cons_of_mem _ hj), hc⟩
      · rw [if_neg hg] at hc; cases hc
    · rintro ⟨R1, S1⟩ ⟨N1, N2, _, hc⟩
      cases hc
      refine bl_one <| bs_ret <| de_all rfl rfl b.all <| ds_new <| n_lc nd [("row", 5)] (fun _ _ _ _ _ => g1 nd 5) (mn 5) <| di_new <| slO 0 ⟨_, _, rfl⟩ <| do_some <| de_add <| dv 2 rfl ⟨_, rfl, de_int ⟨_, rfl, _, rfl, do_none ⟨_, _, rfl, lc_map (R1.drop (a + 1)) iL (fun r => .bool (decide (r.getD a 0 = 0))) _ rfl trivial ?_ (mn 5)
        (fun r hr' s H C cl fp => de_eq hr.units <| de_ixL (fun _ _ => rfl) <| dv 5 rfl ⟨_, rfl, dv 2 rfl ⟨_, rfl, _, int_at (by rw [N1.row r (List.mem_of_mem_drop hr')]; exact h2), de_int ⟨rfl, rfl, by rw [eqi], rfl⟩⟩⟩) (by rw [List.length_drop, N1.len]; omega) ⟨rfl, (R1.drop (a + 1)).map fun r => decide (r.getD a 0 = 0), by rw [List.map_map]; rfl, ?_⟩⟩⟩⟩
      · rw [show ((a : Int) + 1) = ((a + 1 : Nat) : Int) by omega, cut_from, List.map_drop]
      · exact ⟨_, back_own 0 rfl (back_own 1 rfl (back_dat back_nil)), qq⟩
abbrev pSpot : List DL.D → DL.D → Prop := fun ds r => ∃ R, ∃ a m n : Nat, ds = [.list (R.map iL), .int a] ∧ (Mat R m n ∧ m ≤ 1000 ∧ n ≤ 1000) ∧ r = spotR (spotM R a)
theorem least_spot_ok (b : Blt mg) (F : Fd K mg "least_spot" 23 f fd) : Df P w K mg base T 1 "least_spot" ["rows", "at"] (SP 2 pSpot) :=
  dp_ok F.fn F.mg (bn_least_spot F) sc_least_spot rfl fun cdv A outer s H E hr B ds r hn h => by
    obtain ⟨R, a, m, n, rfl, ⟨M, h1, h2⟩, rfl⟩ := h
    have nd := nd_least_spot
    refine bl_cons <| bs_set nd (i := 2) rfl (.inl rfl) <| de_non ?_
    refine bl_cons <| bs_forJ (β := Spot) PassesOwn.never rfl (mono_2 (mn 3) (mn 4)) (dg_2 rfl (mn 3) (mn 4) (g1 nd 3) (g1 nd 4)) [3, 4, 5, 6] R.zipIdx (fun p => .tuple [.int (p.2 : Nat), iL p.1]) (fun f => [.dat (.list (R.map iL)), .dat (.int a), .dat (spotD f), .non, .non, .non, .non])
      (fun rest f => (∀ p ∈ rest, p.1.length ≤ 1000) ∧ rest.foldl (fun f p => spotRow p.2 a p.1.zipIdx f) f = spotM R a)
      <| di_enum rfl b.enumerate <| dv 0 rfl ⟨_, _, rfl, enumD_map iL R, ⟨none, rfl, fun p hp => ?_, rfl⟩, fun _ => trivial, ?_, ?_⟩
    · rw [M.row p.1 (List.fst_mem_of_mem_zipIdx hp)]; exact h2
    · rintro ⟨row, i⟩ rest f0 ⟨hw, hf⟩
      refine ⟨_, _, rfl, ?_⟩
      refine bl_one <| bs_forJ (β := Spot) PassesOwn.never rfl (mono_2 (mn 5) (mn 6)) (dg_2 rfl (mn 5) (mn 6) (g1 nd 5) (g1 nd 6)) [5, 6] row.zipIdx (fun p => .tuple [.int (p.2 : Nat), .int p.1]) (fun f => [.dat (.list (R.map iL)), .dat (.int a), .dat (spotD f), .dat (.int i), .dat (iL row), .non, .non])
        (fun rest f => rest.foldl (fun f p => if better i p.2 a p.1 f then some (p.1.natAbs, i, p.2) else f) f = spotRow i a row.zipIdx f0)
        <| di_enum rfl b.enumerate <| dv 4 rfl ⟨_, _, rfl, enumD_map .int row, ⟨f0, rfl, rfl⟩, fun _ => trivial, ?_, ?_⟩
      · rintro ⟨x, j⟩ rest f1 hf1
        refine ⟨_, _, rfl, ?_⟩
        refine bl_one <| bs_if <| DT.mono (Q := fun t Δ' => t = better i j a x f1 ∧ Δ' = [.dat (.list (R.map iL)), .dat (.int a), .dat (spotD f1), .dat (.int i), .dat (iL row), .dat (.int (j : Nat)), .dat (.int x)]) ?_ fun t Δ' ⟨e1, e2⟩ => ?_
        · refine dw_dt <| dw_and <| dt_ge <| dv 3 rfl ⟨_, rfl, dv 1 rfl ⟨_, rfl, fun c1 => dw_and <| dt_ge <| dv 5 rfl ⟨_, rfl, dv 1 rfl ⟨_, rfl, fun c2 => dw_and <| dt_ne hr.units <| dv 6 rfl <| de_int ⟨rfl, rfl, fun c3 => dw_and1 <| dw_dt ?_, fun c3 => ⟨?_, rfl⟩⟩, fun c2 => ⟨?_, rfl⟩⟩⟩, fun c1 => ⟨?_, rfl⟩⟩⟩
          · rw [eqi] at c3
            have c3' : x ≠ 0 := by simpa using c3
            have c1' : a ≤ i := by simpa using c1
            have c2' : a ≤ j := by simpa using c2
            refine dw_or <| dt_isN <| dv 2 rfl ⟨fun c4 => ⟨?_, rfl⟩, fun c4 => dw_or1 <| dt_lt <| de_abs rfl b.abs <| dv 6 rfl ⟨_, rfl, ?_⟩⟩
            · cases f1 with
              | none => simp [better, c1', c2', c3']
              | some q => simp [spotD, isNoneD] at c4
            · cases f1 with
              | none => simp [spotD, isNoneD] at c4
              | some q =>
                obtain ⟨q0, q1, q2⟩ := q
                refine ⟨_, rfl, de_ixT (fun _ _ => rfl) <| dv 2 rfl ⟨_, rfl, de_int ⟨_, rfl, _, rfl, _, rfl, ?_, rfl⟩⟩⟩
                rw [absI]
                simp [better, c1', c2', c3']
          · rw [eqi] at c3
            have c3' : x = 0 := by simpa using c3
            simp [better, c3']
          · have c2' : ¬ a ≤ j := by simpa using c2
            simp [better, c2']
          · have c1' : ¬ a ≤ i := by simpa using c1
            simp [better, c1']
        · subst e2
          refine ⟨fun ht => ?_, fun ht => bl_nil ⟨f1, rfl, ?_⟩⟩
          · refine bl_one <| bs_set nd (i := 2) rfl (.inl rfl) <| de_tup <| dd_cons <| de_abs rfl b.abs <| dv 6 rfl ⟨_, rfl, dd_cons <| dv 3 rfl <| dd_cons <| dv 5 rfl <| dd_nil ⟨by simp, some (x.natAbs, i, j), by rw [absI]; rfl, ?_⟩⟩
            rw [← hf1, List.foldl_cons]
            show _ = List.foldl _ (if better i j a x f1 then _ else f1) rest
            rw [← e1, ht, if_pos rfl]
          · rw [← hf1, List.foldl_cons]
            show _ = List.foldl _ (if better i j a x f1 then _ else f1) rest
            rw [← e1, ht, if_neg Bool.false_ne_true]
      · rintro f1 hf1
        exact ⟨f1, rfl, fun p hp => hw p (List.mem_cons_of_mem _ hp), by rw [← hf, List.foldl_cons, ← hf1]; rfl⟩
    · rintro f1 ⟨_, hf⟩
      rw [← hf]
      refine bl_one <| bs_ret <| de_if <| dt_isN <| dv 2 rfl ⟨fun hN => ?_, fun hN => ?_⟩
      · cases f1 with
        | none => exact de_non rfl
        | some q => simp [spotD, isNoneD] at hN
      · cases f1 with
        | none => simp [spotD, isNoneD] at hN
        | some q => 
          obtain ⟨q0, q1, q2⟩ := q
          exact de_slT <| dv 2 rfl ⟨_, rfl, do_some <| de_int ⟨_, rfl, do_none rfl⟩⟩
/-- the first row with an entry that the pivot does not divide -/
def oddRow (R : List (List Int)) (a i : Nat) : Bool := (R.getD (a + 1 + i) []).any fun x => decide (x.fmod (ent R a a) ≠ 0)
def oddM (R : List (List Int)) (a : Nat) : Option Nat := ((List.range (R.length - (a + 1))).find? (oddRow R a)).map (a + 1 + ·)
def optD : Option Nat → DL.D
  | none => .none
  | some n => .int n
abbrev pOdd : List DL.D → DL.D → Prop := fun ds r => ∃ R, ∃ a m n : Nat, ds = [.list (R.map iL), .int a] ∧ (Mat R m n ∧ m ≤ 1000 ∧ n ≤ 1000 ∧ a < m ∧ a < n ∧ ent R a a ≠ 0) ∧ r = optD (oddM R a)
theorem first_odd_ok (b : Blt mg) (F : Fd K mg "first_odd" 27 f fd) : Df P w K mg base T 1 "first_odd" ["rows", "at"] (SP 2 pOdd) :=
  dp_ok F.fn F.mg (bn_first_odd F) sc_first_odd rfl fun cdv A outer s H E hr B ds r hn h => by
    obtain ⟨R, a, m, n, rfl, ⟨M, h1, h2, h3, h4, h5⟩, rfl⟩ := h
    have nd := nd_first_odd
    refine bl_cons <| bs_forJ (β := Unit) PassesOwn.never rfl (mn 2) (g1 nd 2) [2] (List.range (m - (a + 1))) (fun i => .int ((a : Int) + 1 + (i : Nat))) (fun _ => [.dat (.list (R.map iL)), .dat (.int a), .non, .non])
      (fun rest _ => (∀ i ∈ rest, i < m - (a + 1)) ∧ (rest.find? (oddRow R a)).map (a + 1 + ·) = oddM R a)
      <| di_range2 rfl b.range <| de_add <| dv 1 rfl ⟨_, rfl, de_int ⟨_, rfl, _, rfl, de_len rfl b.len <| sv 0 rfl rfl ⟨_, rfl, ?_, ?_, ⟨(), rfl, fun i hi => List.mem_range.mp hi, by rw [oddM, M.len]⟩, fun _ => trivial, ?_, ?_⟩⟩⟩
    · rw [List.length_map, M.len]; omega
    · rw [List.length_map, M.len, rgD, show ((m : Int) - ((a : Int) + 1)).toNat = m - (a + 1) by omega]
    · rintro i rest _ ⟨hi, hc⟩
      have hi0 : a + 1 + i < m := by have := hi i List.mem_cons_self; omega
      have ei : ((a : Int) + 1 + (i : Nat)) = ((a + 1 + i : Nat) : Int) := by omega
      show BL _ _ _ _ _
      rw [ei]
      refine bl_one <| bs_if <| dt_val <| de_any rfl rfl b.any <| ds_new <| n_lc nd [("bit", 3)] (fun _ _ _ _ _ => g1 nd 3) (mn 3) <| di_lst <| xv 0 rfl rfl <| dv 2 rfl ⟨_, rfl, rfl, _, row_at (by rw [M.len]; exact hi0), _, rfl, lc_map (R.getD (a + 1 + i) []) .int (fun x => .bool (decide (x.fmod (ent R a a) ≠ 0))) _ rfl trivial rfl (mn 3)
        (fun x hx s H C cl fp => de_ne hr.units <| de_mod <| dv 3 rfl ⟨_, rfl, de_ixL (fun _ _ => rfl) <| xv 0 rfl rfl <| dv 1 rfl ⟨_, rfl, rfl, _, row_at (by rw [M.len]; exact h3), _, rfl, dv 1 rfl ⟨_, rfl, _, int_at (by rw [M.rowD h3]; exact h4), _, rfl, h5, de_int ⟨rfl, rfl, by rw [eqi]; simp; rfl, rfl⟩⟩⟩⟩) (by rw [M.rowD hi0]; omega) ⟨rfl, (R.getD (a + 1 + i) []).map fun x => decide (x.fmod (ent R a a) ≠ 0), by rw [List.map_map]; rfl, _, rfl, fun ht => ?_, fun ht => bl_nil ?_⟩⟩
      · have hodd : oddRow R a i = true := by rw [← ht]; unfold oddRow; rw [List.any_map]; rfl
        refine bl_one <| bs_ret <| dv 2 rfl ?_
        rw [← hc, List.find?_cons_of_pos hodd]; rfl
      · have hodd : ¬ oddRow R a i = true := by
          have : oddRow R a i = false := by rw [← ht]; unfold oddRow; rw [List.any_map]; rfl
          rw [this]; exact Bool.false_ne_true
        exact ⟨(), rfl, fun j hj => hi j (List.mem_cons_of_mem _ hj), by rw [← hc, List.find?_cons_of_neg hodd]⟩
    · rintro _ ⟨_, hc⟩
      rw [← hc]
      exact bl_one <| bs_ret <| de_non rfl
end
end Wk

set_option Elab.async false
set_option linter.all false
set_option maxRecDepth 100000
set_option maxHeartbeats 4000000
namespace Wk
open PySem PySem.Spec PyProof.Rows L2 NdefX DL LamX
def farSt : Stmt := (defBody (Hd.top 16)).getD 0 (.Pass ⟨0, 0, 0, 0⟩)
abbrev farPos : Pos := ⟨35, 4, 36, 30⟩
theorem far_eq : farSt = .FunctionDef "far_off" (C8.fnArgs farSt) (C8.fnBody farSt) [] none [] (C8.fnScope farSt) none "far_off" farPos := by kernel_rfl
theorem led_body : defBody (Hd.top 16) = [farSt, .Return (some (.Name "far_off" ⟨37, 11, 37, 18⟩)) ⟨37, 4, 37, 18⟩] := by kernel_rfl
abbrev farQ : Str := "led_by" ++ ".<locals>." ++ "far_off"
abbrev mkFar (cl : List (Str × Addr)) (c' : Addr) : NF := NF.of farSt "far_off" farQ cl c'
def CellO (c : Addr) (p : Int) : HO := .ext fun h => ∃ t, h.IsCell c (some (.int p t))
/-- led_by: a new function, its cell beside it -/
def spLed (T : List NTab) : Sp := fun vs H R _ => ∃ p : Int, vs = [.int p] ∧ TabsN T H ∧ ∀ (f c c' : Addr) (H' : Hp), ExtN H H' → (∀ b, H' b = none → H b = none) → TabsN T H' → H f = none → H c = none →
  H' f = some (FnO f (mkFar [("place", c)] c')) → H' c' = some (CodeO c' farQ) → H' c = some (CellO c p) → R (.ref f) H'
section
variable {P : Program} {w : World} {K : DL.Frag} {mg : Str → Option Value} {base : Heap} {T : List NTab} {f : Addr} {fd : FuncData} {c0 P0 : Addr} {nm : Nat → Nat → Str}
theorem led_names : (defScope (Hd.top 16)).names = [(("place" : Str), NameKind.cell), (("far_off" : Str), NameKind.local)] := by kernel_rfl
theorem far_names : (C8.fnScope farSt).names = [(("row" : Str), NameKind.local), (("place" : Str), NameKind.free), (("abs" : Str), NameKind.globalImplicit)] := by kernel_rfl
theorem led_ok (F : Fd K mg "led_by" 16 f fd) (hcode : fd.code = .ref c0) (TB : TabB base mg c0 P0) (hn : nm 35 4 = farQ) (hT : T = [(P0, nm)]) : FnOk P w K mg base CX0 2 f fd ["place"] (spLed T) := by
  obtain ⟨oc, od, dV, kV, doc, pm, an, cdv, ct, osl, efd, lk, hcd, _, _⟩ := F.fn.ex
  have S := C8.fnScope_by sc_led_by
  have hcdv : cdv = .ref c0 := by rw [efd] at hcode; exact hcode
  subst hcdv
  rw [efd]
  refine ⟨fun vs H Q E ⟨p, e, _⟩ => by rw [e]; rfl, fun A outer s H args us vs Q E hr e0 hb r hsp => ?_⟩
  have hl : vs.length = 1 := by obtain ⟨p, e, _⟩ := hsp; rw [e]; rfl
  have KX : K.In s.heap := e0.mod.kin.keeps fun b o e => (e0.bs b o e).1
  have lim : s.heap.NoLimit := e0.mod.nolimit.keeps fun b o e => (e0.bs b o e).1
  have hkind : ∀ y ∈ (["place"] : List Str).zip us, (defScope (Hd.top 16)).names.lookup y.1 = some .local ∨ ((defScope (Hd.top 16)).names.lookup y.1 = some .cell ∧ ((cellsFrom (s.heap.objs.size + 1) (defScope (Hd.top 16)).names []).lookup y.1).isSome = true) := fun ⟨n, v⟩ hy => by
    rcases S.par n (List.of_mem_zip hy).1 with q | q
    · exact .inl q
    · exact .inr ⟨q, PySem.W.cellsFrom_some _ _ _ (.inl q)⟩
  refine codeAny_call_function hr.depth (KX _ _ lk) (by rw [efd]) S.co S.gen rfl (PySem.W.codeRec_of KX hcd) (hb _ _ _ _ ?_)
  refine wpAny_newFunctionEnv_cells S.kind hkind fun env he s1 x => ?_
  subst he
  refine ⟨lim.keeps x.toInCall.keep, codeAny_func ?_⟩
  obtain ⟨p, rfl, tT, q⟩ := hsp
  have I : Inv (cxOf CX0 P w K mg base N_led_by "led_by" (defScope (Hd.top 16)) f (.ref c0) A outer s H E) [] (L2.start N_led_by [.int p]) H s1 := inv_start S hr.hd e0 hl r x
  rw [led_body]
  have hcells : (cxOf CX0 P w K mg base N_led_by "led_by" (defScope (Hd.top 16)) f (.ref c0) A outer s H E).env.cells = [(("place" : Str), s.heap.objs.size + 1)] := by
    show cellsFrom (s.heap.objs.size + 1) (defScope (Hd.top 16)).names [] = _
    rw [led_names]; rfl
  have hclo : cloFrom (cxOf CX0 P w K mg base N_led_by "led_by" (defScope (Hd.top 16)) f (.ref c0) A outer s H E).env.cells (C8.fnScope farSt).names [] = [(("place" : Str), s.heap.objs.size + 1)] := by
    rw [hcells, far_names]; rfl
  have hps := ps_ndefMS (X := cxOf CX0 P w K mg base N_led_by "led_by" (defScope (Hd.top 16)) f (.ref c0) A outer s H E) (T := T) (nm := nm) (c := c0) (P := P0) (i := 1) far_eq TB rfl (by rw [hT]; exact List.mem_cons_self) hn
    (fun p hp _ => by rw [hT] at hp; rw [List.mem_singleton.mp hp]) (by rw [far_names]; intro y hy e; simp at hy; rcases hy with rfl | rfl | rfl <;> first | cases e | skip
                                                                        exact .inl (by show (defScope (Hd.top 16)).names.lookup ("place" : Str) = _; rw [led_names]; rfl)) (by kernel_rfl) (by kernel_rfl) (by kernel_rfl) nd_led_by rfl (.inl (by show (defScope (Hd.top 16)).names.lookup ("far_off" : Str) = _; rw [led_names]; rfl)) (.inr (by show (defScope (Hd.top 16)).names.lookup ("far_off" : Str) = _; rw [led_names]; rfl))
  have hcell0 : H (s.heap.objs.size + 1) = none := e0.hok.fresh (Nat.le_succ _)
  refine wpAny_execs_cons (wpAny_mono (hps.run [] s1 _ H { nx := fun σ' H' => ∃ fo c', σ' = (L2.start N_led_by [.int p]).set 1 (some (.ref fo)) ∧ ExtN H H' ∧ (∀ b, H' b = none → H b = none) ∧ TabsN T H' ∧ H fo = none ∧ H' fo = some (FnO fo (mkFar [("place", s.heap.objs.size + 1)] c')) ∧ H' c' = some (CodeO c' farQ), rt := fun _ _ => False } I
    ⟨tT, fun fo c' H1 e1 e2 e3 e4 e5 e6 => ⟨fo, c', rfl, e1, e2, e3, e4, by rw [hclo] at e5; exact e5, e6⟩⟩) (fun fl s2 hs => ?_) fun e s' hs => hs)
  cases fl with
  | ret u => obtain ⟨_, _, _, _, _, z⟩ := hs; exact z.elim
  | brk => obtain ⟨_, _, _, z⟩ := hs; exact z.elim
  | cont => obtain ⟨_, _, _, z⟩ := hs; exact z.elim
  | next =>
    obtain ⟨σ', H', I2, fo, c', eσ, e1, e2, e3, e4, e5, e6⟩ := hs
    refine wpAny_execs_cons (wpAny_Return_some (wpAny_mono ((pe_var (i := 1) (x := "far_off") rfl (.inl (by show (defScope (Hd.top 16)).names.lookup ("far_off" : Str) = _; rw [led_names]; rfl))).run [] s2 σ' H' (fun v H1 => v = .ref fo ∧ H1 = H') I2 ⟨.ref fo, by rw [eσ]; rfl, rfl, rfl⟩) (fun u s3 ⟨v, H1, I3, r1, ev, eH⟩ => ?_) fun e s' hs => hs))
    subst ev eH
    obtain rfl : u = Value.ref fo := r1
    -- what the cell holds
    obtain ⟨m, hns, hl⟩ := I3.loc
    have hk : (defScope (Hd.top 16)).names.lookup ("place" : Str) = some .cell := by rw [led_names]; rfl
    obtain ⟨u, ru, lk2⟩ := hl 0 "place" (.int p) rfl (by rw [eσ]; rfl) (.inr (.inl hk))
    obtain ⟨t, rfl⟩ := ru
    have hcl : s3.heap.IsCell (s.heap.objs.size + 1) (some (.int p t)) := by
      rcases lk2 with ⟨z, _⟩ | ⟨_, c, hc, h⟩
      · rw [show (cxOf CX0 P w K mg base N_led_by "led_by" (defScope (Hd.top 16)) f (.ref c0) A outer s H E).env.kindOf "place" = some .cell from hk] at z; cases z
      · rw [hcells] at hc; cases hc; exact h
    have hcn : H1 (s.heap.objs.size + 1) = none := I3.freeC "place" _ (by rw [hcells]; rfl)
    have ne : ∀ b o, H1 b = some o → b ≠ s.heap.objs.size + 1 := fun b o e z => by rw [z, hcn] at e; cases e
    have hok : HOk P w (upd H1 (s.heap.objs.size + 1) (CellO (s.heap.objs.size + 1) p)) s3.heap := fun b o e => by
      by_cases hb : b = s.heap.objs.size + 1
      · subst hb
        rw [upd_same] at e
        cases e
        obtain ⟨ob, ho, hd⟩ := hcl
        exact ⟨⟨t, ob, ho, hd⟩, ⟨ob, ho⟩, fun h1 h2 ⟨t, ob, ho, hd⟩ st => ⟨t, ob, st _ ho, hd⟩⟩
      · rw [upd_ne hb] at e
        exact (I3.hok b o e).stay (fun _ _ _ q => q) (fun c q => by rw [upd_ne (ne _ _ q)]; exact q) fun c xs q => by rw [upd_ne (ne _ _ q)]; exact q
    have un : Un (frs outer) [] H H1 s.heap s3.heap := I3.base
    refine ⟨.ref fo, upd H1 (s.heap.objs.size + 1) (CellO (s.heap.objs.size + 1) p), I3.os, I3.bare, ⟨un.keep, un.slot, fun b o h1 h2 h3 => ?_, un.there, fun b xs h => ?_, fun b o u h => ?_, fun b ps h => ?_⟩, hok, rfl, q fo (s.heap.objs.size + 1) c' _ (fun b o h n => ?_) (fun b h => ?_) (e3.ext fun b o h => ?_) e4 hcell0 ?_ ?_ upd_same⟩
    · have hb : b ≠ s.heap.objs.size + 1 := fun z => by have h := Heap.lt_size h1; rw [z] at h; exact absurd h (Nat.not_lt.mpr (Nat.le_succ _))
      rw [upd_ne hb]; exact un.free b o h1 h2 h3
    · have := un.tups b xs h; rw [upd_ne (ne _ _ this)]; exact this
    · have := un.frzs b o u h; rw [upd_ne (ne _ _ this)]; exact this
    · obtain ⟨more, this⟩ := un.tbls b ps h; exact ⟨more, by rw [upd_ne (ne _ _ this)]; exact this⟩
    · have := e1 b o h n; rw [upd_ne (ne _ _ this)]; exact this
    · by_cases hb : b = s.heap.objs.size + 1
      · subst hb; exact hcell0
      · rw [upd_ne hb] at h; exact e2 b h
    · rw [upd_ne (ne _ _ h)]; exact h
    · rw [upd_ne (ne _ _ e5)]; exact e5
    · rw [upd_ne (ne _ _ e6)]; exact e6
end
theorem far_body : C8.fnBody farSt = [.Return (some (.Call (.Name "abs" ⟨36, 15, 36, 18⟩) [.Subscript (.Name "row" ⟨36, 19, 36, 22⟩) (.Name "place" ⟨36, 23, 36, 28⟩) ⟨36, 19, 36, 29⟩] [] ⟨36, 15, 36, 30⟩)) ⟨36, 8, 36, 30⟩] := by kernel_rfl
theorem far_kind : (C8.fnScope farSt).kind = .function := by kernel_rfl
/-- a call of the closure: the greatness at the place -/
theorem far_call {prog : Program} {w : World} {A : Around} {s : Shared} {f c c' t : Addr} {p : Int} {tk : Tok} {items : Array Value} {j : Nat} {z : Int} {u : Tok} {mg mb : Str → Option Value} {od : Option Addr} {sl : Array (Option Value)} {doc pm ctv : Value}
    (hr : A.depth < recursionLimit) (hlim : s.heap.NoLimit) (ho : s.heap.get? f = some (⟨.type "function", od, .func ((mkFar [("place", c)] c').fd doc pm ctv), sl⟩ : Obj)) (hcd : s.heap.CodeRec (.ref c') farQ) (hc : s.heap.IsCell c (some (.int p tk)))
    (hg : s.heap.Ns mainGlobals mg) (hma : mg "abs" = none) (hb : s.heap.Ns builtinsNs mb) (hmb : mb "abs" = bootBuiltins "abs") (ht : IsTup s.heap t items) (h1 : -(2 ^ 63) ≤ p) (h2 : p < 2 ^ 63) (hj : seqIndex? p items.size = some j) (hx : items[j]? = some (.int z u)) :
    wpAny (model prog w) A (call (.ref f) [.ref t]) (PySem.W.KeyPure (.int (if z < 0 then -z else z)) s) (fun _ _ => False) s := by
  refine wpAny_call (codeAny_call_def (body := C8.fnBody farSt) (binds := [("row", .ref t)]) hr ho rfl hlim hcd rfl (BindsTo.of_eq ?_) ?_ ?_ (fun h0 hns hkeep => ?_) ?_ ?_ ?_)
  · kernel_rfl
  · show ∀ x ∈ (C8.fnScope farSt).names, x.2 ≠ .cell
    rw [far_names]; intro x hx; simp at hx; rcases hx with rfl | rfl | rfl <;> decide
  · intro x hx
    rw [List.mem_singleton.mp hx]
    show (C8.fnScope farSt).names.lookup ("row" : Str) = _
    rw [far_names]; rfl
  · rw [far_body]
    refine wpAny_execs_cons (wpAny_Return_some (wpAny_Call_Name_kw ?_))
    refine Calls.Name_function_global far_kind (show (C8.fnScope farSt).names.lookup ("abs" : Str) = _ by rw [far_names]; rfl) (Calls.loadGlobal_builtin (mg := mg) (mb := mb) (hg.keeps hkeep) hma (hb.keeps hkeep) (hmb.trans (show bootBuiltins "abs" = some (.builtin "abs") by decide +kernel)) ?_)
    refine PySem.callWith_builtin1 (Subscript_ ?_)
    refine wpAny_Name (wpAny_loadName_local far_kind (show (C8.fnScope farSt).names.lookup ("row" : Str) = _ by rw [far_names]; rfl) hns (v := .ref t) rfl ?_)
    refine wpAny_Name (wpAny_loadName_free far_kind (show (C8.fnScope farSt).names.lookup ("place" : Str) = _ by rw [far_names]; rfl) (c := c) rfl (v := .int p tk) (by obtain ⟨o, q1, q2⟩ := hc; exact ⟨o, hkeep _ _ q1, q2⟩) ?_)
    refine subscriptTail_builtinR (x := .int z u) (ht.keeps hkeep).typeIs slot_tuple_getitem.lookup (getItem_tuple (ht.keeps hkeep) h1 h2 hj hx ⟨rfl, ?_⟩)
    refine PyProof.Rows.call_abs_int fun u tk => ?_
    exact ⟨h0, tk, rfl, hkeep, .int _ _⟩
  · kernel_rfl
  · kernel_rfl
  · kernel_rfl
end Wk

set_option Elab.async false
set_option linter.all false
set_option maxRecDepth 100000
set_option maxHeartbeats 4000000
namespace Wk
open PySem PySem.Spec PyProof.Rows L2 NdefX DL LamX
def sortR (p : Nat) (rows : List (List Int)) : List (List Int) := rows.mergeSort fun a b => decide ((a.getD p 0).natAbs ≤ (b.getD p 0).natAbs)
def rSL (K : DL.Frag) (p : Nat) : List V → List V → Hp → VK → Prop := fun vs zs H Q => ∃ (a f c c' : Addr) (xs : List V) (rows : List (List Int)), vs = [.ref a] ∧ zs = [.ref f] ∧ SqL K H a xs ∧ DpAll K H xs (rows.map iT) ∧ (∀ r ∈ rows, p < r.length) ∧ p < 1000 ∧ rows.length ≤ 1000 ∧
  H f = some (FnO f (mkFar [("place", c)] c')) ∧ H c' = some (CodeO c' farQ) ∧ H c = some (CellO c (p : Int)) ∧ ∀ (zss : List (V × List Int)) (l : Addr), H l = none → (∀ z ∈ zss, z ∈ xs.zip rows) → zss.map (·.2) = sortR p rows → Q (.ref l) (upd H l (.lst (zss.map (·.1))))
theorem each_of_vals {R : Value → V × List Int → Prop} : ∀ {xs : List V} {its : List Value} {rows : List (List Int)}, Vals xs its → xs.length = rows.length → (∀ u x r, RelV x u → R u (x, r)) → PySem.W.EachIs R its (xs.zip rows)
  | _, _, [], .nil, _, _ => .nil
  | _, _, _ :: _, .nil, h, _ => by simp at h
  | _, _, [], .cons _ _, h, _ => by simp at h
  | _, _, r :: rows, .cons q t, h, w => .cons (w _ _ _ q) (each_of_vals t (by simpa using h) w)
theorem vals_of_each {its : List Value} {bs : List (V × List Int)} (e : PySem.W.EachIs (fun u b => RelV b.1 u) its bs) : Vals (bs.map (·.1)) its := by
  induction e with
  | nil => exact .nil
  | cons q _ ih => exact .cons q ih
theorem zip_dp {K : DL.Frag} {H : Hp} : ∀ {xs : List V} {rows : List (List Int)}, DpAll K H xs (rows.map iT) → ∀ b ∈ xs.zip rows, Dp K H b.1 (iT b.2)
  | _, [], .nil, b, h => by simp at h
  | _, r :: rows, .cons q t, b, h => by
    rw [List.zip_cons_cons] at h
    rcases List.mem_cons.mp h with rfl | h
    · exact q
    · exact zip_dp t b h
section
variable {X : Cx} {k p : Nat}
theorem cr_sortLed (hr : Room (k + 2) X.A) (hma : X.mg "abs" = none) : CallRK X (.builtin "sorted") [Str.ofString "key"] (rSL X.K p) := by
  intro pins s σ H vs zs us ws Q I r rz h
  obtain ⟨a, f, c, c', xs, rows, rfl, rfl, hs, hd, hp, hp2, hz, hf, hc', hc, q⟩ := h
  obtain rfl := Vals.ref1 r
  obtain ⟨w1, rfl, e1⟩ := vals1 rz
  obtain rfl : w1 = Value.ref f := e1
  obtain ⟨its, rv, hl, hzl⟩ := I.list hs
  have hxr : xs.length = rows.length := by have := hd.length; simpa using this
  obtain ⟨od, sl, doc, pm, ctv, ho⟩ := fnO_at I.hok hf
  have hcd := codeO_at I.hok hc'
  obtain ⟨tk0, hcell⟩ : ∃ t, s.heap.IsCell c (some (.int (p : Int) t)) := (I.hok c _ hc).1
  obtain ⟨mb, hb1, hb2⟩ := I.mod.blt
  have key := PySem.W.sorted_key_data (prog := X.prog) (w := X.w) (A := X.A) (E := X.xe) (s := s) (b := false) (l := a) (f := .ref f) (kw := [(Str.ofString "key", .ref f)]) (Q := EP X pins σ Q) (vs := its) (bs := xs.zip rows) (R := fun u b => RelV b.1 u)
    (fun b => .int ((b.2.getD p 0).natAbs : Int)) hl.isList (each_of_vals rv hxr fun u x r h => h) (PySem.W.AllAlike.of fun _ _ => by simp [PySem.W.alike]) (PySem.W.Sortable.others fun _ => ⟨by simp, fun _ => by simp⟩) (by rw [List.length_zip]; rw [sizeLine_eq]; omega) (fun b _ => by have := hr.un; simp [PyData.depth]; omega)
    (ksk_s1 _ _) (fun _ => ksk_l1 _ _) (fun _ => ksk_t1 _ _)
  refine key (fun v b hR hm h tk kp => ?_) fun out c2 h' tk kp hn hD hlo eo => ?_
  · obtain ⟨x, row⟩ := b
    have hR : RelV x v := hR
    have dx := zip_dp hd _ hm
    have hrow : row ∈ rows := (List.of_mem_zip hm).2
    have dx : Dp X.K H x (iT row) := dx
    cases dx with
    | @tup t ys _ ht al =>
      obtain rfl : v = Value.ref t := hR
      have ey := al.ints
      subst ey
      obtain ⟨items, ri, hti, hsz⟩ := I.tuple ht
      have lt : p < row.length := hp row hrow
      have li : items.length = row.length := by have := ri.length; simpa using this.symm
      obtain ⟨uu, hu, ru⟩ := ri.get (i := p) (x := V.int (row.getD p 0)) (by rw [List.getElem?_map, List.getElem?_eq_getElem lt, List.getD_eq_getElem?_getD, List.getElem?_eq_getElem lt]; rfl)
      obtain ⟨tu, rfl⟩ := ru
      have e : ((row.getD p 0).natAbs : Int) = if row.getD p 0 < 0 then -(row.getD p 0) else row.getD p 0 := (absI _).symm
      show wpAny _ _ _ (PySem.W.KeyPure (.int ((row.getD p 0).natAbs : Int)) _) _ _
      rw [e]
      obtain ⟨oc, h1c, h2c⟩ := hcell
      refine far_call (s := { s with heap := h, toks := tk }) (mg := X.mg) (mb := mb) (by have := hr.dp; simp; omega) (I.nolimit.keeps kp) (kp _ _ ho) (hcd.keeps kp) ⟨oc, kp _ _ h1c, h2c⟩ ((I.mod.glob.keeps I.bk).keeps kp) hma ((hb1.keeps I.bk).keeps kp) (hb2 _ (by decide)) (hti.keeps kp) (by omega) (by omega) (j := p) ?_ (by simpa using hu)
      rw [List.size_toArray, li]
      rw [seqIndex_of (by omega) (by omega)]; rfl
  · rw [PySem.W.dataLe_int] at eo
    have em : (((xs.zip rows).mergeSort fun a b => decide (((a.2.getD p 0).natAbs : Int) ≤ ((b.2.getD p 0).natAbs : Int))).map (·.2)) = sortR p rows := by
      unfold sortR
      rw [List.map_mergeSort (r := fun a b => decide (((a.2.getD p 0).natAbs : Int) ≤ ((b.2.getD p 0).natAbs : Int))) (s := fun a b => decide ((a.getD p 0).natAbs ≤ (b.getD p 0).natAbs)) (f := fun (b : V × List Int) => b.2) (fun a _ b _ => by simp)]
      rw [show (xs.zip rows).map (fun b => b.2) = rows from List.map_snd_zip (by omega)]
    have hfr : H (s.heap.objs.size + 1) = none := I.hok.fresh (Nat.le_succ _)
    refine ⟨.ref (s.heap.objs.size + 1), upd H (s.heap.objs.size + 1) (.lst _), I.laid (t' := tk) kp (Nat.le_succ _) ⟨?_, out, c2, vals_of_each eo, hD⟩, rfl, q _ _ hfr (fun z hz' => ?_) em⟩
    · rw [List.length_map, List.length_mergeSort, List.length_zip, sizeLine_eq]; omega
    · exact (List.mergeSort_perm _ _).mem_iff.mp hz'
end
end Wk

set_option Elab.async false
set_option linter.all false
set_option maxRecDepth 100000
set_option maxHeartbeats 4000000
namespace Wk
open PySem PySem.Spec PyProof.Rows L2 NdefX DL LamX
theorem Lc.extN {K : DL.Frag} {T : List NTab} {σ : L2.St} {B H H' : Hp} {Δ : List En} (L : Lc K T σ B H Δ) (e : ExtN H H') (n : ∀ b, H' b = none → H b = none) (t : TabsN T H') : Lc K T σ B H' Δ ∧ Stp Δ Δ B H B H' :=
  ⟨⟨fun a o h => e a o (L.bh a o h) (L.nt a o h), L.nt, t, L.len, fun i en h => (L.en i en h).sub (Sub.refl B) fun l ds z => by
    subst z
    exact ⟨(L.mutAt h).2.1, fun vs q => e l _ q noTbl_lst⟩, L.ds⟩, ⟨Sub.refl B, fun a h h' => absurd h h', fun a h z => h (n a z), fun b o h nt _ => e b o h nt, fun _ h => h⟩⟩
/-- a def by its own promise: what the closure's maker is called by -/
structure Led (P : Program) (w : World) (K : DL.Frag) (mg : Str → Option Value) (base : Heap) (T : List NTab) : Prop where
  ex : ∃ f fd, FnOk P w K mg base CX0 2 f fd ["place"] (spLed T) ∧ mg "led_by" = some (.ref f) ∧ PySem.W.keepIn K (.ref f) = true ∧ Binds K fd ["place"] []
theorem zip_map1 {rows : List (List Int)} {xs : List V} {K : DL.Frag} {H : Hp} (hd : DpAll K H xs (rows.map iT)) : ∀ (zss : List (V × List Int)), (∀ z ∈ zss, z ∈ xs.zip rows) → DpAll K H (zss.map (·.1)) ((zss.map (·.2)).map iT)
  | [], _ => .nil
  | z :: zs, h => .cons (zip_dp hd z (h z List.mem_cons_self)) (zip_map1 hd zs fun y hy => h y (List.mem_cons_of_mem _ hy))
section
variable {T : List NTab} {X : Cx} {Δ : List En} {e b : Expr} {pos p p3 p4 pk : Pos} {Q : List D → List En → Prop} {k : Nat}
theorem dn_sortLed (p0 : Nat) (G : Led X.prog X.w X.K X.mg X.base T) (hr : Room (k + 2) X.A) (hg : Gl X "sorted") (hg2 : Gl X "led_by") (hm : X.mg "sorted" = none) (hma : X.mg "abs" = none)
    (h : DE T X Δ e fun d Δ1 => ∃ rows, d = tL rows ∧ DE T X Δ1 b (isI fun i Δ2 => i = (p0 : Int) ∧ ((∀ r ∈ rows, p0 < r.length) ∧ p0 < 1000 ∧ rows.length ≤ 1000) ∧ Q ((sortR p0 rows).map iT) Δ2))
    (he : starEach [e] X.env = (false, eval e X.env) :: starEach [] X.env := by rfl) (hb : starEach [b] X.env = (false, eval b X.env) :: starEach [] X.env := by rfl)
    (hs0 : backTo pos (starEach [e] X.env) = (false, eval e X.env) :: backTo pos (starEach [] X.env) := by rfl) (hpl : (backTo pos (starEach [e] X.env)).any (·.1) = false := by rfl)
    (hall : (backToKw pos (keywordEach [⟨some "key", .Call (.Name "led_by" p3) [b] [] p4, pk⟩] X.env)).all (·.1.isSome) = true := by rfl) (hnone : (backToKw pos (keywordEach [⟨some "key", .Call (.Name "led_by" p3) [b] [] p4, pk⟩] X.env)).any (·.1.isNone) = false := by rfl)
    (hks : (backToKw pos (keywordEach [⟨some "key", .Call (.Name "led_by" p3) [b] [] p4, pk⟩] X.env)).filterMap (·.1) = [Str.ofString "key"] := by rfl)
    (hpl2 : (backTo p4 (starEach [] X.env)).any (·.1) = false := by rfl) : DN T X Δ (.Call (.Name "sorted" p) [e] [⟨some "key", .Call (.Name "led_by" p3) [b] [] p4, pk⟩] pos) Q := by
  obtain ⟨f, fd, F, hmf, hkf, hbf⟩ := G.ex
  refine PE.weak (pe_callBK (cr_sortLed (k := k) (p := p0) hr hma) hg hm (by decide +kernel) (pa_cons h pa_nil he) (pk_cons (pe_call F (hr.mono (by omega)) hg2 hmf hkf hbf .nil pass0 (pa_cons (pe_l (T := T)) pa_nil hb) (by decide) hb hpl2) pk_nil) (by decide) (by decide) hs0 hpl hall hnone hks) fun σ H R ⟨B, L, kk⟩ => ?_
  refine ⟨B, L, fun d Δ1 v B1 H1 ⟨rows, ed, h1⟩ S1 L1 dv => ⟨Δ1, _, h1, B1, L1, fun y Δ2 u B2 H2 ⟨i, ei, ep, ⟨b1, b2, b3⟩, q⟩ S2 L2 du => ?_⟩⟩
  subst ed ei ep
  cases du
  refine ⟨(p0 : Int), rfl, L2.tb, fun fo c c' H' eN nn tT n1 n2 e1 e2 e3 => ?_⟩
  obtain ⟨L3, S3⟩ := Lc.extN L2 eN nn tT
  cases (dv.sub S2.bb) with
  | @lst a xs _ hs al =>
    refine ⟨a, fo, c, c', xs, rows, rfl, rfl, L3.bh.sqL hs, al.sub L3.bh, b1, b2, b3, e1, e2, e3, fun zss l hl hm em => ?_⟩
    obtain ⟨L4, S4, nm, nb⟩ := L3.newM (xs := zss.map (·.1)) hl
    have S03 := (S1.trans S2).trans S3
    refine kk _ Δ2 l _ B2 _ q (S03.trans S4) L4 (free_back S03 hl) upd_same nb nm ?_
    rw [← em]
    exact zip_map1 al zss hm
end
end Wk

set_option Elab.async false
set_option linter.all false
set_option maxRecDepth 100000
set_option maxHeartbeats 1000000
namespace Wk
open PySem PySem.Spec PyProof.Rows L2 NdefX DL
def quoR (p : Nat) (h r : List Int) : Int := (r.getD p 0).fdiv (h.getD p 0)
def redR (p : Nat) (h r : List Int) : List Int := subR r (scal h (quoR p h r))
/-- the numbers are not too great -/
def RedOk (p : Nat) (h r : List Int) : Prop := CDivB (r.getD p 0) (h.getD p 0) ∧ ScalOk h (quoR p h r)
def nzR (p : Nat) (r : List Int) : Bool := decide (r.getD p 0 ≠ 0)
def zzR (p : Nat) (r : List Int) : Bool := decide (r.getD p 0 = 0)
def turnR (p : Nat) : List (List Int) → List (List Int)
  | [] => []
  | h :: t => h :: t.map (redR p h)
/-- the turns of the while: how many, some and rest at first, at last -/
inductive Loop (p : Nat) : Nat → List (List Int) → List (List Int) → List (List Int) → List (List Int) → Prop
  | done {S R} : S.length ≤ 1 → Loop p 0 S R S R
  | turn {n S R S' R' h t} : 1 < S.length → sortR p S = h :: t → (∀ r ∈ t, RedOk p h r) → Loop p n ((turnR p (h :: t)).filter (nzR p)) (R ++ (turnR p (h :: t)).filter (zzR p)) S' R' → Loop p (n + 1) S R S' R'
def posR (p : Nat) (h : List Int) : List Int := if 0 < h.getD p 0 then h else scal h (-1)
inductive Pls : List Nat → List (List Int) → List (List Int) → List (List Int) → List (List Int) → Prop
  | nil {F L} : Pls [] F L F L
  | skip {p ps n F L R F' L'} : Loop p n (L.filter (nzR p)) (L.filter (zzR p)) [] R → Pls ps F R F' L' → Pls (p :: ps) F L F' L'
  | take {p ps n F L h R F' L'} : Loop p n (L.filter (nzR p)) (L.filter (zzR p)) [h] R → (∀ r ∈ F, RedOk p (posR p h) r) → Pls ps (F.map (redR p (posR p h)) ++ [posR p h]) R F' L' → Pls (p :: ps) F L F' L'
theorem sortR_perm (p : Nat) (S : List (List Int)) : (sortR p S).Perm S := List.mergeSort_perm _ _
theorem redR_length (p : Nat) (h r : List Int) : (redR p h r).length = min r.length h.length := by rw [redR, subR_length, scal_length]
theorem posR_length (p : Nat) (h : List Int) : (posR p h).length = h.length := by unfold posR; split <;> simp [scal_length]
/-- all of one length -/
def Wd (W : Nat) (S : List (List Int)) : Prop := ∀ r ∈ S, r.length = W
theorem Wd.filter {W : Nat} {S : List (List Int)} {p} (h : Wd W S) : Wd W (S.filter p) := fun r hr => h r (List.mem_filter.mp hr).1
theorem Wd.app {W : Nat} {S R : List (List Int)} (h : Wd W S) (h' : Wd W R) : Wd W (S ++ R) := fun r hr => (List.mem_append.mp hr).elim (h r) (h' r)
theorem Wd.sort {W p : Nat} {S : List (List Int)} (h : Wd W S) : Wd W (sortR p S) := fun r hr => h r ((sortR_perm p S).mem_iff.mp hr)
theorem Wd.turn {W p : Nat} {S : List (List Int)} (h : Wd W S) : Wd W (turnR p S) := by
  cases S with
  | nil => exact h
  | cons a t =>
    intro r hr
    rcases List.mem_cons.mp hr with rfl | hr
    · exact h _ List.mem_cons_self
    · obtain ⟨r0, h0, rfl⟩ := List.mem_map.mp hr
      rw [redR_length, h _ (List.mem_cons_of_mem _ h0), h _ List.mem_cons_self, Nat.min_self]
theorem Wd.red {W p : Nat} {S : List (List Int)} {a : List Int} (h : Wd W S) (ha : a.length = W) : Wd W (S.map (redR p a)) := by
  intro r hr
  obtain ⟨r0, h0, rfl⟩ := List.mem_map.mp hr
  rw [redR_length, h _ h0, ha, Nat.min_self]
theorem turnR_length (p : Nat) (S : List (List Int)) : (turnR p S).length = S.length := by cases S <;> simp [turnR]
theorem fil_sum (p : Nat) (S : List (List Int)) : (S.filter (nzR p)).length + (S.filter (zzR p)).length = S.length := by
  induction S with
  | nil => rfl
  | cons a t ih =>
    by_cases h : a.getD p 0 = 0
    · rw [List.filter_cons_of_neg (by rw [nzR, decide_eq_false (fun z => z h)]; exact Bool.false_ne_true), List.filter_cons_of_pos (by rw [zzR]; exact decide_eq_true h)]; simp only [List.length_cons]; omega
    · rw [List.filter_cons_of_pos (by rw [nzR]; exact decide_eq_true h), List.filter_cons_of_neg (by rw [zzR, decide_eq_false h]; exact Bool.false_ne_true)]; simp only [List.length_cons]; omega
theorem row_atT {R : List (List Int)} {i : Nat} (h : i < R.length) : atI (R.map iT) (i : Int) = some (iT (R.getD i [])) := by
  refine atI_nat ?_
  rw [List.getElem?_map, List.getD_eq_getElem?_getD, List.getElem?_eq_getElem h]; rfl
section
variable {P : Program} {w : World} {K : DL.Frag} {mg : Str → Option Value} {base : Heap} {T : List NTab} {f : Addr} {fd : FuncData}
abbrev pStep : List DL.D → DL.D → Prop := fun ds r => ∃ rows F L, ∃ long W : Nat, ds = [tL rows, .int long] ∧ (long ≤ W ∧ W ≤ 900 ∧ rows.length ≤ 900 ∧ Wd W rows ∧ Pls (List.range long) [] rows F L) ∧ r = .tuple [tL F, tL L]
theorem stepped_ok (b : Blt mg) (GL : Led P w K mg base T) (GM : Df P w K mg base T 1 "row_times" ["row", "times"] (SP 2 pTimes)) (GS : Df P w K mg base T 1 "rows_less" ["one", "other"] (SP 2 pLess)) (F : Fd K mg "stepped" 17 f fd) : Df P w K mg base T 3 "stepped" ["rows", "long"] (SP 2 pStep) :=
  dp_ok F.fn F.mg (bn_stepped F) sc_stepped rfl fun cdv A outer s H E hr B ds r hn h => by
    obtain ⟨rows, F', L', long, W, rfl, ⟨h1, h2, h3, h4, h5⟩, rfl⟩ := h
    have nd := nd_stepped
    refine bl_cons <| bs_par2 (i := 2) (j := 3) rfl nd rfl rfl (by decide) rfl rfl (da_d <| de_new <| dn_lst <| dd_nil ⟨by simp, da_d <| de_new <| n_lc nd [("row", 8)] (fun _ _ _ _ _ => g1 nd 8) (mn 8) <| di_lst <| dv 0 rfl ⟨_, rfl, lc_map rows iT iT _ rfl trivial rfl (mn 8)
      (fun r hr' s H C cl fp => de_tuple rfl b.tuple <| ds_tup <| dv 8 rfl ⟨_, rfl, rfl, rfl⟩) (by omega) (da_nil ⟨_, _, rfl, trivial, trivial, fun _ => ?_⟩)⟩⟩) (by rfl)
    refine bl_cons <| bs_forJ (β := List (List Int) × List (List Int)) PassesOwn.never rfl (mn 4) (g1 nd 4) [4, 5, 6, 7, 8] (List.range long) (fun i => .int ((0 : Int) + (i : Nat))) (fun st => [.dat (tL rows), .dat (.int long), .dat (tL st.1), .dat (tL st.2), .non, .non, .non, .non, .non])
      (fun rest st => Wd W st.1 ∧ Wd W st.2 ∧ st.1.length + rest.length ≤ 900 ∧ st.2.length ≤ 900 ∧ (∀ i ∈ rest, i < W) ∧ Pls rest st.1 st.2 F' L')
      <| di_range1 rfl b.range <| dv 1 rfl ⟨_, rfl, by omega, rfl, ⟨([], rows), rfl, by intro r hr; simp at hr, h4, by simp; omega, h3, fun i hi => by have := List.mem_range.mp hi; omega, h5⟩, fun _ => trivial, ?_, ?_⟩
    · rintro i rest ⟨F, L⟩ ⟨w1, w2, z1, z2, hi, hp⟩
      show BL _ _ _ _ _
      rw [Int.zero_add]
      have z2 : L.length ≤ 900 := z2
      have hiW : i < W := hi i List.mem_cons_self
      have ix : ∀ r : List Int, r.length = W → atI (r.map PyData.int) (i : Int) = some (.int (r.getD i 0)) := fun r hr => int_at (by rw [hr]; exact hiW)
      refine bl_cons <| bs_par2 (i := 5) (j := 6) rfl nd rfl rfl (by decide) rfl rfl (da_d <| de_new <| n_lc nd [("row", 8)] (fun _ _ _ _ _ => g1 nd 8) (mn 8) <| di_lst <| dv 3 rfl ⟨_, rfl, lc_fil L iT iT (nzR i) _ rfl trivial rfl (mn 8)
        (fun r hr' s H C cl fp => dt_ne hr.units <| de_ixT (fun _ _ => rfl) <| dv 8 rfl ⟨_, rfl, dv 4 rfl ⟨_, rfl, _, ix r (w2 r hr'), de_int ⟨rfl, rfl, by rw [eqi]; simp [nzR], fun _ s H C cl fp => dv 8 rfl ⟨rfl, rfl⟩, fun _ => rfl⟩⟩⟩) (by omega)
        (da_d <| de_new <| n_lc nd [("row", 8)] (fun _ _ _ _ _ => g1 nd 8) (mn 8) <| di_lst <| dv 3 rfl ⟨_, rfl, lc_fil L iT iT (zzR i) _ rfl trivial rfl (mn 8)
        (fun r hr' s H C cl fp => dt_eq hr.units <| de_ixT (fun _ _ => rfl) <| dv 8 rfl ⟨_, rfl, dv 4 rfl ⟨_, rfl, _, ix r (w2 r hr'), de_int ⟨rfl, rfl, by rw [eqi]; simp [zzR], fun _ s H C cl fp => dv 8 rfl ⟨rfl, rfl⟩, fun _ => rfl⟩⟩⟩) (by omega) (da_nil ⟨_, _, rfl, trivial, trivial, fun _ => ?_⟩)⟩)⟩) (by rfl)
      have hz0 := fil_sum i L
      obtain ⟨n, S', R', hlp, hend⟩ : ∃ n S' R', Loop i n (L.filter (nzR i)) (L.filter (zzR i)) S' R' ∧ ((S' = [] ∧ Pls rest F R' F' L') ∨ ∃ h, S' = [h] ∧ (∀ r ∈ F, RedOk i (posR i h) r) ∧ Pls rest (F.map (redR i (posR i h)) ++ [posR i h]) R' F' L') := by
        cases hp with
        | skip h1 h2 => exact ⟨_, _, _, h1, .inl ⟨rfl, h2⟩⟩
        | take h1 h2 h3 => exact ⟨_, _, _, h1, .inr ⟨_, rfl, h2, h3⟩⟩
      refine bl_cons <| bs_whileJ (β := Nat × List (List Int) × List (List Int)) PassesOwn.never [7, 8] (fun st => [.dat (tL rows), .dat (.int long), .dat (tL F), .dat (tL L), .dat (.int i), .dat (tL st.2.1), .dat (tL st.2.2), .non, .non])
        (fun st => Wd W st.2.1 ∧ Wd W st.2.2 ∧ st.2.1.length + st.2.2.length ≤ 900 ∧ Loop i st.1 st.2.1 st.2.2 S' R') (·.1) ⟨(n, _, _), rfl, w2.filter, w2.filter, by show (L.filter (nzR i)).length + (L.filter (zzR i)).length ≤ 900; omega, hlp⟩ ?_
      rintro ⟨m, S, R⟩ ⟨v1, v2, v3, v4⟩
      have v1 : Wd W S := v1
      have v2 : Wd W R := v2
      have v3 : S.length + R.length ≤ 900 := v3
      have v4 : Loop i m S R S' R' := v4
      refine dt_gt <| de_len rfl b.len <| sv 5 rfl rfl ⟨_, rfl, de_int ⟨_, rfl, fun ht => ?_, fun hf => ?_⟩⟩
      · -- a turn
        have hlt : 1 < S.length := by have ht2 : (1 : Int) < ((S.map iT).length : Int) := of_decide_eq_true ht; rw [List.length_map] at ht2; omega
        cases v4 with
        | done h => omega
        | @turn m _ _ _ _ hd tl hl hs hb hlp2 =>
          have ws : Wd W (sortR i S) := v1.sort
          have hd1 : hd.length = W := ws hd (by rw [hs]; exact List.mem_cons_self)
          have hz3 : (sortR i S).length = S.length := (sortR_perm i S).length_eq
          rw [hs, List.length_cons] at hz3
          have hz4 := fil_sum i (turnR i (hd :: tl))
          rw [turnR_length, List.length_cons] at hz4
          have wt : Wd W (turnR i (hd :: tl)) := by rw [← hs]; exact ws.turn
          refine bl_cons <| bs_set nd (i := 5) rfl (.inl rfl) <| de_new <| dn_sortLed (k := 0) i GL (hr.mono (by decide)) rfl rfl b.sorted b.abs <| dv 5 rfl ⟨S, rfl, dv 4 rfl ⟨_, rfl, rfl, ⟨fun r hr' => by rw [v1 r hr']; exact hiW, by omega, by omega⟩, ?_⟩⟩
          refine bl_cons <| bs_set nd (i := 7) rfl (.inr rfl) <| de_ixL (fun _ _ => rfl) <| dv 5 rfl ⟨_, rfl, de_int ⟨_, rfl, iT hd, by rw [hs]; exact row_atT (R := hd :: tl) (i := 0) (by simp), ?_⟩⟩
          refine bl_cons <| bs_set nd (i := 5) rfl (.inl rfl) <| de_new <| dn_cat <| de_new <| dn_lst <| dd_cons <| dv 7 rfl <| dd_nil ⟨by simp, _, rfl, de_new <| n_lc nd [("row", 8)] (fun _ _ _ _ _ => g1 nd 8) (mn 8) <| di_new <| dn_slL <| dv 5 rfl ⟨_, rfl, do_some <| de_int ⟨_, rfl, do_none <| lc_map tl iT (fun r => iT (redR i hd r)) _ rfl trivial ?_ (mn 8)
            (fun r hr' s H C cl fp => ?_) (by omega) ⟨_, rfl, by simp; omega, ?_⟩⟩⟩⟩
          · rw [hs, show ((1 : Int)) = ((1 : Nat) : Int) from rfl, cut_from]; rfl
          · obtain ⟨q1, q2⟩ := hb r hr'
            have hrW : r.length = W := ws r (by rw [hs]; exact List.mem_cons_of_mem _ hr')
            refine de_callP GS (hr.mono (by decide)) rfl <| dd_cons <| dv 8 rfl <| dd_cons <| de_callP GM (hr.mono (by decide)) rfl <| dd_cons <| dv 7 rfl <| dd_cons <| de_fdiv <| de_ixT (fun _ _ => rfl) <| dv 8 rfl ⟨_, rfl, dv 4 rfl ⟨_, rfl, _, ix r hrW, _, rfl, de_ixT (fun _ _ => rfl) <| dv 7 rfl ⟨_, rfl, dv 4 rfl ⟨_, rfl, _, ix hd hd1, _, rfl, q1, ?_⟩⟩⟩⟩
            exact dd_nil ⟨rfl, _, ⟨hd, _, rfl, ⟨by omega, q2⟩, rfl⟩, dd_nil ⟨rfl, _, ⟨r, _, rfl, by omega, rfl⟩, rfl, rfl⟩⟩
          · have et : [iT hd] ++ tl.map (fun r => iT (redR i hd r)) = (turnR i (hd :: tl)).map iT := by rw [turnR, List.map_cons, List.map_map]; rfl
            rw [et]
            refine bl_cons <| bs_set nd (i := 6) rfl (.inl rfl) <| de_new <| dn_cat <| dv 6 rfl ⟨_, rfl, de_new <| n_lc nd [("row", 8)] (fun _ _ _ _ _ => g1 nd 8) (mn 8) <| di_lst <| dv 5 rfl ⟨_, rfl, lc_fil (turnR i (hd :: tl)) iT iT (zzR i) _ rfl trivial rfl (mn 8)
              (fun r hr' s H C cl fp => dt_eq hr.units <| de_ixT (fun _ _ => rfl) <| dv 8 rfl ⟨_, rfl, dv 4 rfl ⟨_, rfl, _, ix r (wt r hr'), de_int ⟨rfl, rfl, by rw [eqi]; simp [zzR], fun _ s H C cl fp => dv 8 rfl ⟨rfl, rfl⟩, fun _ => rfl⟩⟩⟩) (by rw [turnR_length]; simp; omega) ⟨_, rfl, by simp only [List.length_map]; omega, ?_⟩⟩⟩
            rw [← List.map_append]
            refine bl_one <| bs_lc (i := 5) (own := [("row", 8)]) rfl nd rfl rfl (by rfl) (blkOk_by (by kernel_rfl)) (.inr ⟨_, rfl⟩) (mn 8) (fun _ _ _ _ _ => g1 nd 8) (by decide) <| di_lst <| dv 5 rfl ⟨_, rfl, lc_fil (turnR i (hd :: tl)) iT iT (nzR i) _ rfl trivial rfl (mn 8)
              (fun r hr' s H C cl fp => dt_ne hr.units <| de_ixT (fun _ _ => rfl) <| dv 8 rfl ⟨_, rfl, dv 4 rfl ⟨_, rfl, _, ix r (wt r hr'), de_int ⟨rfl, rfl, by rw [eqi]; simp [nzR], fun _ s H C cl fp => dv 8 rfl ⟨rfl, rfl⟩, fun _ => rfl⟩⟩⟩) (by rw [turnR_length]; simp; omega) ⟨(m, _, _), rfl, ⟨wt.filter, v2.app wt.filter, by show ((turnR i (hd :: tl)).filter (nzR i)).length + (R ++ (turnR i (hd :: tl)).filter (zzR i)).length ≤ 900; rw [List.length_append]; omega, hlp2⟩, Nat.lt_succ_self m⟩⟩
      · have hle : S.length ≤ 1 := by have hf2 : ¬ (1 : Int) < ((S.map iT).length : Int) := of_decide_eq_false hf; rw [List.length_map] at hf2; omega
        cases v4 with
        | turn hl => omega
        | done _ =>
          have z1' : F.length + (rest.length + 1) ≤ 900 := z1
          refine bl_cons <| bs_set nd (i := 3) rfl (.inl rfl) <| dv 6 rfl ?_
          refine bl_one <| bs_if <| dt_eq hr.units <| de_len rfl b.len <| sv 5 rfl rfl <| de_int ⟨rfl, rfl, fun ht => ?_, fun hf => bl_nil ?_⟩
          · rw [eqi, List.length_map] at ht
            have hl1 : S'.length = 1 := by have ht2 : (S'.length : Int) = 1 := of_decide_eq_true ht; omega
            rcases hend with ⟨e, _⟩ | ⟨hd, e, hb, hpl⟩
            · rw [e] at hl1; cases hl1
            subst e
            have hdW : hd.length = W := v1 hd List.mem_cons_self
            have g0 : atI ([hd].map iT) 0 = some (iT hd) := row_atT (R := [hd]) (i := 0) (by simp)
            refine bl_cons <| bs_set nd (i := 7) rfl (.inr rfl) <| DE.mono (Q := fun d Δ' => d = iT (posR i hd) ∧ Δ' = [.dat (tL rows), .dat (.int long), .dat (tL F), .dat (tL R'), .dat (.int i), .dat (tL [hd]), .dat (tL R'), .non, .non]) (de_if <| dt_gt <| de_ixT (fun _ _ => rfl) <| de_ixL (fun _ _ => rfl) <| dv 5 rfl ⟨_, rfl, de_int ⟨_, rfl, iT hd, g0, _, rfl, dv 4 rfl ⟨_, rfl, _, ix hd hdW, _, rfl, de_int ⟨_, rfl, fun hpos => ?_, fun hneg => ?_⟩⟩⟩⟩) (fun d Δ' ⟨e1, e2⟩ => ?_)
            · have hpos : 0 < hd.getD i 0 := of_decide_eq_true hpos
              exact de_ixL (fun _ _ => rfl) <| dv 5 rfl ⟨_, rfl, de_int ⟨_, rfl, iT hd, g0, by rw [posR, if_pos hpos], rfl⟩⟩
            · have hneg : ¬ 0 < hd.getD i 0 := of_decide_eq_false hneg
              exact de_callP GM (hr.mono (by decide)) rfl <| dd_cons <| de_ixL (fun _ _ => rfl) <| dv 5 rfl ⟨_, rfl, de_int ⟨_, rfl, iT hd, g0, dd_cons <| de_neg <| de_int ⟨_, rfl, dd_nil ⟨rfl, _, ⟨hd, _, rfl, ⟨by omega, fun x _ => .of_right (by decide)⟩, rfl⟩, by rw [posR, if_neg hneg], rfl⟩⟩⟩⟩
            · subst e1 e2
              have phW : (posR i hd).length = W := by rw [posR_length]; exact hdW
              refine bl_one <| bs_set nd (i := 2) rfl (.inl rfl) <| de_new <| dn_cat <| de_new <| n_lc nd [("row", 8)] (fun _ _ _ _ _ => g1 nd 8) (mn 8) <| di_lst <| dv 2 rfl ⟨_, rfl, lc_map F iT (fun r => iT (redR i (posR i hd) r)) _ rfl trivial rfl (mn 8)
                (fun r hr' s H C cl fp => ?_) (by omega) ⟨_, rfl, de_new <| dn_lst <| dd_cons <| dv 7 rfl <| dd_nil ⟨by simp, _, rfl, by simp; omega, ?_⟩⟩⟩
              · obtain ⟨q1, q2⟩ := hb r hr'
                have hrW : r.length = W := w1 r hr'
                refine de_callP GS (hr.mono (by decide)) rfl <| dd_cons <| dv 8 rfl <| dd_cons <| de_callP GM (hr.mono (by decide)) rfl <| dd_cons <| dv 7 rfl <| dd_cons <| de_fdiv <| de_ixT (fun _ _ => rfl) <| dv 8 rfl ⟨_, rfl, dv 4 rfl ⟨_, rfl, _, ix r hrW, _, rfl, de_ixT (fun _ _ => rfl) <| dv 7 rfl ⟨_, rfl, dv 4 rfl ⟨_, rfl, _, ix _ phW, _, rfl, q1, ?_⟩⟩⟩⟩
                exact dd_nil ⟨rfl, _, ⟨posR i hd, _, rfl, ⟨by omega, q2⟩, rfl⟩, dd_nil ⟨rfl, _, ⟨r, _, rfl, by omega, rfl⟩, rfl, rfl⟩⟩
              · have et : F.map (fun r => iT (redR i (posR i hd) r)) ++ [iT (posR i hd)] = (F.map (redR i (posR i hd)) ++ [posR i hd]).map iT := by rw [List.map_append, List.map_map]; rfl
                rw [et]
                exact ⟨(_, R'), rfl, (w1.red phW).app (fun r hr' => by rw [List.mem_singleton.mp hr']; exact phW), v2, by show (F.map (redR i (posR i hd)) ++ [posR i hd]).length + rest.length ≤ 900; rw [List.length_append, List.length_map]; show F.length + 1 + rest.length ≤ 900; omega, by show R'.length ≤ 900; have v3' : [hd].length + R'.length ≤ 900 := v3; omega, fun j hj => hi j (List.mem_cons_of_mem _ hj), hpl⟩
          · rw [eqi, List.length_map] at hf
            have hl0 : S' = [] := by have := of_decide_eq_false hf; cases S' with
              | nil => rfl
              | cons a t => simp at this hle; simp [hle] at this
            rcases hend with ⟨_, hpl⟩ | ⟨hd, e, _⟩
            · exact ⟨(F, R'), rfl, w1, v2, by show F.length + rest.length ≤ 900; omega, by show R'.length ≤ 900; have v3' : S'.length + R'.length ≤ 900 := v3; omega, fun j hj => hi j (List.mem_cons_of_mem _ hj), hpl⟩
            · rw [e] at hl0; cases hl0
    · rintro ⟨F, L⟩ ⟨_, _, _, _, _, hp⟩
      cases hp
      exact bl_one <| bs_ret <| de_tup <| dd_cons <| dv 2 rfl <| dd_cons <| dv 3 rfl <| dd_nil ⟨by simp, rfl⟩
end
end Wk

set_option Elab.async false
set_option linter.all false
set_option maxRecDepth 100000
set_option maxHeartbeats 1000000
namespace Wk
open PySem PySem.Spec PyProof.Rows L2 NdefX DL
def leadR (own : List Int) : Option Nat := ((own.zipIdx.filter fun p => decide (p.1 ≠ 0)).map (·.2))[0]?
def extR (rows : List (List Int)) (m : Nat) : List (List Int) := (rows.zip (unitsM m)).map fun p => p.1 ++ p.2
/-- the walk down the stairs -/
inductive Tms (long many : Nat) : List (List Int) → List Int → List Int → Option (List Int × List Int) → Prop
  | nil {M L} : Tms long many [] M L (some (M, L))
  | no {own rest M L p} : leadR own = some p → p < long → CDivB (L.getD p 0) (own.getD p 0) → (L.getD p 0).fmod (own.getD p 0) ≠ 0 → Tms long many (own :: rest) M L none
  | go {own rest M L p r} : leadR own = some p → p < long → CDivB (L.getD p 0) (own.getD p 0) → (L.getD p 0).fmod (own.getD p 0) = 0 → ScalOk (own.take long) (quoR p own L) → AddOk [1, quoR p own L] [M, own.drop long] →
      Tms long many rest (addedM [1, quoR p own L] [M, own.drop long] many) (subR L (scal (own.take long) (quoR p own L))) r → Tms long many (own :: rest) M L r
def tmsR (long : Nat) : Option (List Int × List Int) → Option (List Int)
  | none => none
  | some (M, L) => if L = zerR long then some M else none
def optT : Option (List Int) → DL.D
  | none => .none
  | some xs => iT xs
/-- times_for: what is asked of rows and row, what comes of it -/
def TimesR (rows : List (List Int)) (row : List Int) (r : Option (List Int)) : Prop := ∃ F L res, Pls (List.range row.length) [] (extR rows rows.length) F L ∧ Tms row.length rows.length F (zerR rows.length) row res ∧ r = tmsR row.length res
theorem eqvAll_ints : ∀ xs ys : List Int, PyData.eqvAll (xs.map .int) (ys.map .int) = decide (xs = ys)
  | [], [] => rfl
  | x :: xs, y :: ys => by
    rw [List.map_cons, List.map_cons, PyData.eqvAll, eqvAll_ints xs ys, eqi]
    by_cases h : x = y
    · by_cases h2 : xs = ys <;> simp [h, h2]
    · simp [h]
  | [], _ :: _ => by simp [PyData.eqvAll]
  | _ :: _, [] => by simp [PyData.eqvAll]
theorem eqv_iT (xs ys : List Int) : PyData.eqv (iT xs) (iT ys) = decide (xs = ys) := by rw [PyData.eqv]; exact eqvAll_ints xs ys
theorem eqv_iL (xs ys : List Int) : PyData.eqv (iL xs) (iL ys) = decide (xs = ys) := by rw [PyData.eqv]; exact eqvAll_ints xs ys
theorem canLay_ints : ∀ xs : List Int, PyData.canLayAll0 (xs.map .int) = true
  | [] => by simp [PyData.canLayAll0]
  | x :: xs => by rw [List.map_cons, PyData.canLayAll0, canLay_ints xs]; simp [PyData.canLay0]
theorem depth_ints : ∀ xs : List Int, PyData.depthAll (xs.map .int) = 0
  | [] => by simp [PyData.depthAll]
  | x :: xs => by rw [List.map_cons, PyData.depthAll, depth_ints xs]; simp [PyData.depth]
theorem shaped_iT (xs : List Int) : SeqAt.shaped (iT xs) = true := by
  unfold SeqAt.shaped
  rw [PyData.canLay0, canLay_ints, PyData.depth, depth_ints]; rfl
theorem shaped_iL (xs : List Int) : SeqAt.shaped (iL xs) = true := by
  unfold SeqAt.shaped
  rw [PyData.canLay0, canLay_ints, PyData.depth, depth_ints]; rfl
theorem cat_ints (xs ys : List Int) : xs.map PyData.int ++ ys.map PyData.int = (xs ++ ys).map PyData.int := List.map_append.symm
theorem extR_length (rows : List (List Int)) : (extR rows rows.length).length = rows.length := by simp [extR, unitsM_length]
theorem extR_wd {rows : List (List Int)} {n : Nat} (h : Wd n rows) : Wd (n + rows.length) (extR rows rows.length) := by
  intro r hr
  obtain ⟨p, hp, rfl⟩ := List.mem_map.mp hr
  obtain ⟨h1, h2⟩ := List.of_mem_zip (show (p.1, p.2) ∈ _ from hp)
  have : p.2.length = rows.length := by
    obtain ⟨i, _, e⟩ := List.mem_map.mp h2
    rw [← e, oneAt_length]
  show (p.1 ++ p.2).length = _
  rw [List.length_append, h p.1 h1, this]
theorem zipD_rows (xs ys : List (List Int)) : zipD (xs.map iT) (ys.map iT) = (xs.zip ys).map fun p => .tuple [iT p.1, iT p.2] := by
  unfold zipD
  rw [List.zipWith_map, List.zip_eq_zipWith, List.map_zipWith]
theorem Loop.wd {p n W : Nat} {S R S' R' : List (List Int)} (h : Loop p n S R S' R') : Wd W S → Wd W R → Wd W S' ∧ Wd W R' := by
  induction h with
  | done _ => exact fun a b => ⟨a, b⟩
  | turn _ e _ _ ih =>
    intro a b
    have wt := a.sort (p := p)
    rw [e] at wt
    exact ih wt.turn.filter (b.app wt.turn.filter)
theorem Pls.wd {ps : List Nat} {W : Nat} {F L F' L' : List (List Int)} (h : Pls ps F L F' L') : Wd W F → Wd W L → Wd W F' ∧ Wd W L' := by
  induction h with
  | nil => exact fun a b => ⟨a, b⟩
  | skip hl _ ih => exact fun a b => ih a (hl.wd b.filter b.filter).2
  | take hl _ _ ih =>
    intro a b
    obtain ⟨c, d⟩ := hl.wd b.filter b.filter
    have hp := c _ List.mem_cons_self
    refine ih (Wd.app (a.red (by rw [posR_length]; exact hp)) fun r hr => ?_) d
    rw [List.mem_singleton.mp hr, posR_length]; exact hp
section
variable {P : Program} {w : World} {K : DL.Frag} {mg : Str → Option Value} {base : Heap} {T : List NTab} {f : Addr} {fd : FuncData}
abbrev pLead : List DL.D → DL.D → Prop := fun ds r => ∃ own, ∃ p : Nat, ds = [iT own] ∧ (own.length ≤ 1000 ∧ leadR own = some p) ∧ r = .int p
theorem whole_lead_ok (b : Blt mg) (F : Fd K mg "whole_lead" 18 f fd) : Df P w K mg base T 1 "whole_lead" ["row"] (SP 1 pLead) :=
  dp_ok F.fn F.mg (bn_whole_lead F) sc_whole_lead rfl fun cdv A outer s H E hr B ds r hn h => by
    obtain ⟨own, p, rfl, ⟨h1, h2⟩, rfl⟩ := h
    have nd := nd_whole_lead
    refine bl_one <| bs_ret <| de_ixL (fun _ _ => rfl) <| de_new <| n_lc nd [("place", 1), ("number", 2)] (fun _ _ _ _ _ => dg_2 rfl (mn 1) (mn 2) (g1 nd 1) (g1 nd 2)) (mono_2 (mn 1) (mn 2)) <| di_enum rfl b.enumerate <| dv 0 rfl ⟨_, _, rfl, lc_fil own.zipIdx (fun p => .tuple [.int (p.2 : Nat), .int p.1]) (fun p => .int (p.2 : Nat)) (fun p => decide (p.1 ≠ 0)) _ rfl trivial (enumD_map .int own) (mono_2 (mn 1) (mn 2))
      (fun q hq => ⟨_, _, rfl, fun s H C cl fp => dt_ne hr.units <| dv 2 rfl <| de_int ⟨rfl, rfl, by rw [eqi]; simp, fun _ s H C cl fp => dv 1 rfl ⟨rfl, rfl⟩, fun _ => rfl⟩⟩) (by simp; omega) ⟨_, rfl, de_int ⟨_, rfl, .int (p : Nat), ?_, rfl⟩⟩⟩
    unfold leadR at h2
    cases e : (own.zipIdx.filter fun p => decide (p.1 ≠ 0)) with
    | nil => rw [e] at h2; cases h2
    | cons q t =>
      rw [e] at h2
      have h2 : some q.2 = some p := h2
      rw [List.map_cons, Option.some.inj h2]
      exact (atI_nat (xs := PyData.int (p : Nat) :: t.map fun p => PyData.int (p.2 : Nat)) (j := 0) rfl : atI _ ((0 : Nat) : Int) = _)
abbrev pTms : List DL.D → DL.D → Prop := fun ds r => ∃ rows row res, ds = [mT rows, iT row] ∧ (row.length ≤ 400 ∧ rows.length ≤ 400 ∧ Wd row.length rows ∧ TimesR rows row res) ∧ r = optT res
theorem times_for_ok (b : Blt mg) (GN : Df P w K mg base T 1 "nothing" ["size"] (SP 1 pNothing)) (GU : Df P w K mg base T 2 "units" ["size"] (SP 1 pUnits)) (GM : Df P w K mg base T 1 "row_times" ["row", "times"] (SP 2 pTimes)) (GS : Df P w K mg base T 1 "rows_less" ["one", "other"] (SP 2 pLess))
    (GA : Df P w K mg base T 2 "rows_added" ["times", "rows", "size"] (SP 3 pAdded)) (GT : Df P w K mg base T 3 "stepped" ["rows", "long"] (SP 2 pStep)) (GW : Df P w K mg base T 1 "whole_lead" ["row"] (SP 1 pLead)) (F : Fd K mg "times_for" 19 f fd) : Df P w K mg base T 4 "times_for" ["rows", "row"] (SP 2 pTms) :=
  dp_ok F.fn F.mg (bn_times_for F) sc_times_for rfl fun cdv A outer s H E hr B ds r hn h => by
    obtain ⟨rows, row, res0, rfl, ⟨h1, h2, h3, F0, L0, res, hp, ht, he⟩, rfl⟩ := h
    have nd := nd_times_for
    refine bl_cons <| bs_par2 (i := 2) (j := 3) rfl nd rfl rfl (by decide) rfl rfl (da_d <| de_len rfl b.len <| sv 1 rfl rfl <| da_d <| de_len rfl b.len <| sv 0 rfl rfl <| da_nil ⟨_, _, rfl, trivial, trivial, fun _ => ?_⟩) (by rfl)
    rw [List.length_map, List.length_map]
    refine bl_cons <| bs_par2 (i := 4) (j := 5) rfl nd rfl rfl (by decide) rfl rfl (da_d <| de_callP GN (hr.mono (by decide)) rfl <| dd_cons <| dv 3 rfl <| dd_nil ⟨rfl, _, ⟨rows.length, rfl, by omega, rfl⟩, da_d <| dv 1 rfl <| da_nil ⟨_, _, rfl, trivial, trivial, fun _ => ?_⟩⟩) (by rfl)
    have we := extR_wd h3
    refine bl_cons <| bs_forJ (β := List Int × List Int) PassesOwn.never rfl (mn 6) (g1 nd 6) [6, 7, 8, 9, 10, 11] F0 iT (fun st => [.dat (mT rows), .dat (iT row), .dat (.int row.length), .dat (.int rows.length), .dat (iT st.1), .dat (iT st.2), .non, .non, .non, .non, .non, .non])
      (fun rest st => Wd (row.length + rows.length) rest ∧ st.2.length = row.length ∧ Tms row.length rows.length rest st.1 st.2 res)
      <| di_lst <| de_ixT (fun _ _ => rfl) <| de_callP GT (hr.mono (by decide)) rfl <| dd_cons <| de_new <| n_lc nd [("near", 10), ("unit", 11)] (fun _ _ _ _ _ => dg_2 rfl (mn 10) (mn 11) (g1 nd 10) (g1 nd 11)) (mono_2 (mn 10) (mn 11)) <| di_zip rfl b.zip <| dv 0 rfl ⟨_, _, rfl, de_callP GU (hr.mono (by decide)) rfl <| dd_cons <| dv 3 rfl <| dd_nil ⟨rfl, _, ⟨rows.length, rfl, by omega, rfl⟩, _, _, rfl,
        lc_map (rows.zip (unitsM rows.length)) (fun p => .tuple [iT p.1, iT p.2]) (fun p => iT (p.1 ++ p.2)) _ rfl trivial (zipD_rows _ _) (mono_2 (mn 10) (mn 11)) (fun p hp => ⟨_, _, rfl, fun s H C cl fp => de_catT <| dv 10 rfl ⟨_, rfl, dv 11 rfl ⟨_, rfl, ?_, by rw [cat_ints], rfl⟩⟩⟩) (by simp; omega) ?_⟩⟩
    · obtain ⟨q1, q2⟩ := List.of_mem_zip (show (p.1, p.2) ∈ _ from hp)
      have : p.2.length = rows.length := by obtain ⟨i, _, e⟩ := List.mem_map.mp q2; rw [← e, oneAt_length]
      rw [List.length_map, List.length_map, h3 p.1 q1, this]; omega
    refine dd_cons <| dv 2 rfl <| dd_nil ⟨rfl, _, ⟨extR rows rows.length, F0, L0, row.length, row.length + rows.length, ?_, ⟨by omega, by omega, by rw [extR_length]; omega, we, hp⟩, rfl⟩, _, rfl, de_int ⟨_, rfl, tL F0, rfl, F0.map iT, rfl, rfl, ⟨(zerR rows.length, row), rfl, ?_, rfl, ht⟩, fun _ => trivial, ?_, ?_⟩⟩
    · rw [tL, extR, List.map_map]; rfl
    · exact (hp.wd (by intro r hr'; simp at hr') we).1
    · rintro own rest ⟨M, L⟩ ⟨w1, w2, hl⟩
      have w2 : L.length = row.length := w2
      have wo : own.length = row.length + rows.length := w1 own List.mem_cons_self
      have lead : ∃ p, leadR own = some p ∧ p < row.length ∧ CDivB (L.getD p 0) (own.getD p 0) := by cases hl with
        | no a1 a2 a3 => exact ⟨_, a1, a2, a3⟩
        | go a1 a2 a3 => exact ⟨_, a1, a2, a3⟩
      obtain ⟨p, l1, l2, l3⟩ := lead
      refine bl_cons <| bs_set nd (i := 7) rfl (.inl rfl) <| de_callP GW (hr.mono (by decide)) rfl <| dd_cons <| dv 6 rfl <| dd_nil ⟨rfl, _, ⟨own, p, rfl, ⟨by omega, l1⟩, rfl⟩, ?_⟩
      refine bl_cons <| bs_asg (mono_2 (mn 8) (mn 9)) (dg_2 rfl (mn 8) (mn 9) (g1 nd 8) (g1 nd 9)) <| de_divmod rfl b.divmod <| de_ixT (fun _ _ => rfl) <| dv 5 rfl ⟨_, rfl, dv 7 rfl ⟨_, rfl, _, int_at (by rw [w2]; exact l2), _, rfl, de_ixT (fun _ _ => rfl) <| dv 6 rfl ⟨_, rfl, dv 7 rfl ⟨_, rfl, _, int_at (by omega), _, rfl, l3, _, _, rfl, ?_⟩⟩⟩⟩
      refine bl_cons <| bs_if <| dt_ne hr.units <| dv 9 rfl <| de_int ⟨rfl, rfl, fun hne => ?_, fun heq => bl_nil ?_⟩
      · rw [eqi] at hne
        have hne : (L.getD p 0).fmod (own.getD p 0) ≠ 0 := by simpa using hne
        refine bl_one <| bs_ret <| de_non ?_
        cases hl with
        | no => rw [he]; rfl
        | go a1 a2 a3 a4 => rw [l1] at a1; cases a1; exact absurd a4 hne
      · rw [eqi] at heq
        have heq : (L.getD p 0).fmod (own.getD p 0) = 0 := by simpa using heq
        cases hl with
        | no a1 a2 a3 a4 => rw [l1] at a1; cases a1; exact absurd heq a4
        | go a1 a2 a3 a4 a5 a6 a7 =>
          rw [l1] at a1; cases a1
          refine bl_cons <| bs_set nd (i := 5) rfl (.inl rfl) <| de_callP GS (hr.mono (by decide)) rfl <| dd_cons <| dv 5 rfl <| dd_cons <| de_callP GM (hr.mono (by decide)) rfl <| dd_cons <| de_slT <| dv 6 rfl ⟨_, rfl, do_none <| do_some <| dv 2 rfl ⟨_, rfl, dd_cons <| dv 8 rfl <| dd_nil ⟨rfl, _, ⟨own.take row.length, quoR p own L, by rw [cut_to, iT, List.map_take]; rfl, ⟨by rw [List.length_take]; omega, a5⟩, rfl⟩, dd_nil ⟨rfl, _, ⟨L, _, rfl, by omega, rfl⟩, ?_⟩⟩⟩⟩
          refine bl_one <| bs_set nd (i := 4) rfl (.inl rfl) <| de_callP GA (hr.mono (by decide)) rfl <| dd_cons <| de_tup <| dd_cons <| de_int <| dd_cons <| dv 8 rfl <| dd_nil ⟨by simp, dd_cons <| de_tup <| dd_cons <| dv 4 rfl <| dd_cons <| de_slT <| dv 6 rfl ⟨_, rfl, do_some <| dv 2 rfl ⟨_, rfl, do_none <| dd_nil ⟨by simp, dd_cons <| dv 3 rfl <| dd_nil ⟨rfl, _, ⟨_, _, true, true, [1, quoR p own L], [M, own.drop row.length], rows.length, rfl, ⟨rfl, ?_, by omega, by simp, a6⟩, rfl⟩, ?_⟩⟩⟩⟩⟩
          · rw [cut_from, List.map_cons, List.map_cons, iT, iT, List.map_drop]; rfl
          · exact ⟨(addedM [1, quoR p own L] [M, own.drop row.length] rows.length, subR L (scal (own.take row.length) (quoR p own L))), rfl, fun r hr' => w1 r (List.mem_cons_of_mem _ hr'), by show (subR L (scal (own.take row.length) (quoR p own L))).length = _; rw [subR_length, scal_length, List.length_take]; omega, a7⟩
    · rintro ⟨M, L⟩ ⟨_, w2, hl⟩
      cases hl
      refine bl_one <| bs_ret <| de_if <| dt_eq hr.units <| dv 5 rfl <| de_callP GN (hr.mono (by decide)) rfl <| dd_cons <| dv 2 rfl <| dd_nil ⟨rfl, _, ⟨row.length, rfl, by omega, rfl⟩, shaped_iT _, shaped_iT _, fun h => ?_, fun h => ?_⟩
      · rw [eqv_iT] at h
        exact dv 4 rfl (by rw [he, tmsR, if_pos (of_decide_eq_true h)]; rfl)
      · rw [eqv_iT] at h
        exact de_non (by rw [he, tmsR, if_neg (of_decide_eq_false h)]; rfl)
end
end Wk

set_option Elab.async false
set_option linter.all false
set_option maxRecDepth 100000
set_option maxHeartbeats 1000000
namespace Wk
open PySem PySem.Spec PyProof.Rows L2 NdefX DL
abbrev veB : List Value := [.type "ValueError", .type "Exception", .type "BaseException", .type "object"]
/-- what is known of the error class at C -/
structure ExN (K : DL.Frag) (mg : Str → Option Value) (x : Str) (C : Addr) : Prop where
  g : mg x = some (.ref C)
  k : PySem.W.keepIn K (.ref C) = true
  e : PySem.W.excIn K C veB "ValueError.__new__" = true
  b : PySem.W.subIn K (.ref C) (.type "BaseException") = some true
  t : PySem.W.typeIn K (.ref C) = some (.type "type")
  te : PySem.W.exmOne K (.ref C) (.ref C) = some true
  is : ExcC K C
  kit : PySem.W.kitOne K (.ref C) (.type "ValueError") = some true
section
variable {X : Cx} {C : Addr} {x : Str} {p pos : Pos}
theorem pmk_own0 (xN : ExN X.K X.mg x C) (hg : Gl X x) (hdb : (x == ("__debug__" : Str)) = false := by decide) : PMk X (.Call (.Name x p) [] [] pos) (fun _ H Q => Q (.ref C) none H) := by
  intro pins s σ H Q I h
  refine wpAny_Call_Name_kw (ld_glob I hg xN.g ?_ hdb)
  refine PySem.W.callWith_K0 I.kIn xN.k ?_
  show wpAny _ _ (call (.ref C) []) _ _ _
  obtain ⟨bm, N, nm, qn, bs, hdct, sn, sub, ab, col, dd, k0, k1, k2, k3, k5, mN, hC, hN, hni, T⟩ := exc_obj I.kIn xN.e
  refine wpAny_call_exc_subT PySem.F.excBase_ValueError T hC hN hni (fun h' e hm => ?_) (Nat.zero_le _)
  exact mk_of I hm (raises_own xN.b xN.t) h (I.hok.gone hm.new)
end
/-- the promise of a def that may raise: from these trees that tree, or (none) the error -/
def spX (T : List NTab) (K : DL.Frag) (C : Addr) (n : Nat) (pre : List DL.D → Option DL.D → Prop) : Sp := fun vs H R E => ∃ B ds o, Lc K T (vs.map some) B H (ds.map .dat) ∧ ds.length = n ∧ pre ds o ∧
  (∀ r, o = some r → ∀ v B' H', Stp (ds.map .dat) (ds.map .dat) B H B' H' → Lc K T (vs.map some) B' H' (ds.map .dat) → Dp K B' v r → R v H') ∧
  (o = none → ∀ B' H', Stp (ds.map .dat) (ds.map .dat) B H B' H' → Lc K T (vs.map some) B' H' (ds.map .dat) → E (.ref C) none H')
structure Dx (P : Program) (w : World) (K : DL.Frag) (mg : Str → Option Value) (base : Heap) (T : List NTab) (C : Addr) (k : Nat) (x : Str) (ps : List Str) (n : Nat) (pre : List DL.D → Option DL.D → Prop) : Prop where
  ex : ∃ f fd, FnOk P w K mg base (L2.CX P w) k f fd ps (spX T K C n pre) ∧ mg x = some (.ref f) ∧ PySem.W.keepIn K (.ref f) = true ∧ Binds K fd ps [] ∧ ∃ oc od osl, K.lookup f = some ⟨oc, od, .func fd, osl⟩
abbrev cxX (P : Program) (w : World) (K : DL.Frag) (mg : Str → Option Value) (base : Heap) (N : List Str) (x : Str) (sc : Scope) (f : Addr) (cdv : Value) (A : Around) (outer : List Env) (s : Shared) (H : Hp) (E : XK) : Cx := cxOf (L2.CX P w) P w K mg base N x sc f cdv A outer s H E
section
variable {P : Program} {w : World} {K : DL.Frag} {mg : Str → Option Value} {base : Heap} {T : List NTab} {C : Addr}
theorem dx_ok {k n : Nat} {x : Str} {params : Arguments} {body : List Stmt} {sc : Scope} {ps N : List Str} {pre : List DL.D → Option DL.D → Prop} {f : Addr} {fd : FuncData} (F : FunD K x x params body sc [] [] f fd) (hm : mg x = some (.ref f)) (hb : Binds K fd ps []) (SC : C8.scC N ps sc = true) (hn : n = ps.length)
    (h : ∀ (cdv : Value) (A : Around) (outer : List Env) (s : Shared) (H : Hp) (E : XK), Room k (cxX P w K mg base N x sc f cdv A outer s H E).A → ∀ B ds o, ds.length = n → pre ds o →
      (o = none → ∀ Δ σ B' H', Lc K T σ B' H' Δ → Glb ⟨T, ds.map .dat, B, H⟩ Δ B' H' → E (.ref C) none H') →
      BL ⟨T, ds.map .dat, B, H⟩ (cxX P w K mg base N x sc f cdv A outer s H E) (ds.map .dat ++ List.replicate (N.length - ds.length) .non) body { nx := fun _ => False, rt := fun r' _ => ∃ r, o = some r ∧ r' = .dat r }) : Dx P w K mg base T C (k + 1) x ps n pre :=
  ⟨f, fd, F.ok (C8.fnScope_by SC) (fun vs H R E ⟨B, ds, o, L, hl, _⟩ => by have := L.len; rw [List.length_map, List.length_map] at this; rw [this, hl, hn]) fun cdv A outer s H vs Q E hr ⟨B, ds, o, L, hl, hp, q1, q2⟩ => by
    refine ⟨_, h cdv A outer s H E hr B ds o hl hp fun ho Δ σ B' H' L' G' => ?_, B, ?_⟩
    · obtain ⟨S', L2, _⟩ := back_end L L' G' Back.dat
      exact q2 ho B' H' S' L2
    · have L1 := L.start (N := N)
      have G1 := glb_start (n := N.length - (ds.map En.dat).length) L
      rw [List.length_map] at L1 G1
      refine ⟨L1, G1, fun Δ' σ' B' H' z => z.elim, ?_, fun Δ' σ' B' H' z => z.elim, fun Δ' σ' B' H' z => z.elim⟩
      rintro r Δ' v σ' B' H' ⟨r0, e, rfl⟩ L' G' rv
      obtain ⟨S', L2, _⟩ := back_end L L' G' Back.dat
      exact q1 r0 e v B' H' S' L2 rv, hm, F.kp, hb, by obtain ⟨oc, od, _, _, _, _, _, _, _, osl, _, lk, _⟩ := F.ex; exact ⟨oc, od, osl, lk⟩⟩
end
section
variable {F : Fm} {X : Cx} {Δ : List En} {e : Expr} {es : List Expr} {P : DEnds} {pos p p2 p3 : Pos} {C : Addr} {W : WX} {x : Str} {Q : QD} {T : List NTab}
/-- raise x() -/
theorem bs_raise (xN : ExN X.K X.mg x C) (tk : Takes X W) (hg : Gl X x) (hc : X.calm = true) (hW : ∀ σ B H, Lc X.K F.T σ B H Δ → Glb F Δ B H → W (.ref C) none σ H) (hdb : (x == ("__debug__" : Str)) = false := by decide) : BS F X Δ (.Raise (some (.Call (.Name x p) [] [] p2)) none pos) P :=
  PS.weak (ps_raise hc tk (pmk_own0 xN hg hdb)) fun D σ H ⟨B, L, G, _⟩ => hW σ B H L G
/-- a call of such a def, told by what it does to the trees -/
theorem call_x {n : Nat} {pre : List DL.D → Option DL.D → Prop} {ds : List DL.D} {o : Option DL.D} {σ : L2.St} {B H : Hp} {vs : List V} {R : VK} {E : XK} {T : List NTab} (L : Lc X.K T σ B H Δ) (al : DpAll X.K B vs ds) (hn : ds.length = n) (hp : pre ds o)
    (k1 : ∀ r, o = some r → ∀ v B' H', Stp Δ Δ B H B' H' → Lc X.K T σ B' H' Δ → Dp X.K B' v r → R v H') (k2 : o = none → ∀ B' H', Stp Δ Δ B H B' H' → Lc X.K T σ B' H' Δ → E (.ref C) none H') : spX T X.K C n pre vs H R E := by
  refine ⟨B, ds, o, L.callee al, hn, hp, fun r e v B' H' S L' dv => ?_, fun e B' H' S L' => ?_⟩
  · obtain ⟨L2, S2⟩ := L.behind (fun l => notMut_dat) S L'
    exact k1 r e v B' H' S2 L2 dv
  · obtain ⟨L2, S2⟩ := L.behind (fun l => notMut_dat) S L'
    exact k2 e B' H' S2 L2
/-- called where it doesn't raise -/
theorem de_callX {k n : Nat} {ps : List Str} {pre : List DL.D → Option DL.D → Prop} (G : Dx X.prog X.w X.K X.mg X.base T C k x ps n pre) (hr : Room k X.A) (hg : Gl X x) (h : DD T X Δ (e :: es) fun ds Δ1 => ds.length = n ∧ ∃ r, pre ds (some r) ∧ Q r Δ1)
    (hdb : (x == ("__debug__" : Str)) = false := by decide) (he : starEach (e :: es) X.env = (false, eval e X.env) :: starEach es X.env := by rfl) (hpl : (backTo pos (starEach es X.env)).any (·.1) = false := by rfl) : DE T X Δ (.Call (.Name x p) (e :: es) [] pos) Q := by
  obtain ⟨f, fd, F, hm, hk, hb, _⟩ := G.ex
  refine PE.weak (pe_call (E := fun _ _ _ => False) F hr hg hm hk hb .nil (fun _ _ _ _ _ _ _ c => by obtain ⟨_, _, _, _, _, _, _, _, _, _, _, _, z⟩ := c; exact z.elim) h hdb he hpl) fun σ H R ⟨B, L, k⟩ => ⟨B, L, fun ds Δ' vs B' H' ⟨hn, r, hp, q⟩ S1 L1 al => ?_⟩
  show spX T X.K C n pre (vs ++ []) H' R _
  rw [List.append_nil]
  exact call_x L1 al hn hp (fun r' e v B2 H2 S2 L2 dv => by cases e; exact k r Δ' v B2 H2 q (S1.trans S2) L2 dv) fun e => nomatch e
/-- return f(..), dropped f(..): f may raise -/
theorem bs_retX {k n : Nat} {ps : List Str} {pre : List DL.D → Option DL.D → Prop} (G : Dx X.prog X.w X.K X.mg X.base F.T C k x ps n pre) (tk : Takes X W) (hr : Room k X.A) (hg : Gl X x)
    (h : DD F.T X Δ (e :: es) fun ds Δ1 => ds.length = n ∧ ∃ o, pre ds o ∧ (∀ r, o = some r → P.rt (.dat r) Δ1) ∧ (o = none → ∀ σ B H, Lc X.K F.T σ B H Δ1 → Glb F Δ1 B H → W (.ref C) none σ H))
    (hdb : (x == ("__debug__" : Str)) = false := by decide) (he : starEach (e :: es) X.env = (false, eval e X.env) :: starEach es X.env := by rfl) (hpl : (backTo p2 (starEach es X.env)).any (·.1) = false := by rfl) : BS F X Δ (.Return (some (.Call (.Name x p) (e :: es) [] p2)) pos) P := by
  obtain ⟨f, fd, F', hm, hk, hb, _⟩ := G.ex
  refine PS.weak (ps_ret (pe_callS F' hr hg hm hk hb (fun σ => passAt tk σ) h hdb he hpl)) fun D σ H ⟨B, L, Gl, k1, k2, _⟩ => ⟨B, L, fun ds Δ' vs B' H' ⟨hn, o, hp, q1, q2⟩ S1 L1 al => ?_⟩
  exact call_x L1 al hn hp (fun r e v B2 H2 S2 L2 dv => k2 _ Δ' v σ B2 H2 (q1 r e) L2 (Gl.step (S1.trans S2)) dv) fun e B2 H2 S2 L2 => q2 e σ B2 H2 L2 (Gl.step (S1.trans S2))
theorem bs_exprX {k n : Nat} {ps : List Str} {pre : List DL.D → Option DL.D → Prop} (G : Dx X.prog X.w X.K X.mg X.base F.T C k x ps n pre) (tk : Takes X W) (hr : Room k X.A) (hg : Gl X x)
    (h : DD F.T X Δ (e :: es) fun ds Δ1 => ds.length = n ∧ ∃ o, pre ds o ∧ (∀ r, o = some r → P.nx Δ1) ∧ (o = none → ∀ σ B H, Lc X.K F.T σ B H Δ1 → Glb F Δ1 B H → W (.ref C) none σ H))
    (hs : swapsWith (.Call (.Name x p) (e :: es) [] p2) none pos.line X.env = pure false := by rfl) (hdb : (x == ("__debug__" : Str)) = false := by decide) (he : starEach (e :: es) X.env = (false, eval e X.env) :: starEach es X.env := by rfl) (hpl : (backTo p2 (starEach es X.env)).any (·.1) = false := by rfl) : BS F X Δ (.Expr (.Call (.Name x p) (e :: es) [] p2) pos) P := by
  obtain ⟨f, fd, F', hm, hk, hb, _⟩ := G.ex
  refine PS.weak (ps_expr (pe_callS F' hr hg hm hk hb (fun σ => passAt tk σ) h hdb he hpl) hs) fun D σ H ⟨B, L, Gl, k1, k2, _⟩ => ⟨B, L, fun ds Δ' vs B' H' ⟨hn, o, hp, q1, q2⟩ S1 L1 al => ?_⟩
  exact call_x L1 al hn hp (fun r e v B2 H2 S2 L2 dv => k1 Δ' σ B2 H2 (q1 r e) L2 (Gl.step (S1.trans S2)) (S1.trans S2).bb) fun e B2 H2 S2 L2 => q2 e σ B2 H2 L2 (Gl.step (S1.trans S2))
end
section
variable {F : Fm} {X : Cx} {Δ : List En} {body suite : List Stmt} {b₀ : Stmt} {P : DEnds} {pos pos' np p1 p2 p3 p4 p5 p6 p7 : Pos} {C : Addr} {x n : Str}
/-- try: .. except x: a suite that returns -/
theorem bs_try1 (Qr : List En → Prop) (hs : X.stack = X.env :: X.outer) (hf : X.env.frame = some X.env.locals) (xN : ExN X.K X.mg x C) (hg : Gl X x)
    (h : ∀ W pn xe, Takes (X.tr pn xe) W → PassesOwn (model X.prog X.w) X.A X.env xe → (∀ Δ' σ B H, Qr Δ' → Lc X.K F.T σ B H Δ' → Glb F Δ' B H → W (.ref C) none σ H) → BL F (X.tr pn xe) Δ body P)
    (hsu : ∀ a oe pn Δ', Qr Δ' → BL F (X.suite a ((a, oe) :: pn)) Δ' (b₀ :: suite) { nx := fun _ => False, rt := P.rt }) (hdb : (x == ("__debug__" : Str)) = false := by decide) : BS F X Δ (.Try body [.ExceptHandler (some (.Name x np)) none (b₀ :: suite) pos'] [] [] pos) P := by
  refine PS.weak (ps_try_only (Wout := fun _ _ _ _ => False) (tb := fun W D σ H => (∀ Δ' σ B H, Qr Δ' → Lc X.K F.T σ B H Δ' → Glb F Δ' B H → W (.ref C) none σ H) ∧ tB X.K F Δ P D σ H)
    (ts := fun a cls d D σ H => cls = .ref C ∧ d = none ∧ ∃ Δ', Qr Δ' ∧ tB X.K F Δ' { nx := fun _ => False, rt := P.rt } D σ H) hs hf ⟨hg, hdb, .inl xN.g⟩ takes0
    (fun W pn xe tk po => ⟨fun pins s σ H D I ⟨wc, t⟩ => (h W pn xe tk po wc).run pins s σ H D I t⟩) fun a oe cls d pn hz hv => ⟨fun pins s σ H D I ⟨_, _, Δ', q, t⟩ => (hsu a oe pn Δ' q).run pins s σ H D I t⟩) fun D σ H t => ?_
  refine ⟨fun Δ' σ' B' H' q L' G' => ?_, t⟩
  obtain ⟨B, L, G, k1, k2, k3, k4⟩ := t
  exact ⟨true, xN.te, fun _ a ha => ⟨rfl, rfl, Δ', q, B', L', G', fun _ _ _ _ z => z.elim, k2, fun _ _ _ _ z => z.elim, fun _ _ _ _ z => z.elim⟩, fun z => nomatch z⟩
/-- try: .. except x as n: return [text, isinstance(n, ValueError)] -/
theorem bs_try2 {i j : Nat} {tx : Str} (Qr : List En → Prop) (hs : X.stack = X.env :: X.outer) (hf : X.env.frame = some X.env.locals) (xN : ExN X.K X.mg x C) (hg : Gl X x) (hN : X.N.Nodup) (hi : X.N[i]? = some n) (hln : X.env.kindOf n = some .local)
    (hgi : Gl X "isinstance") (hmi : X.mg "isinstance" = none) (hgv : Gl X "ValueError") (hmv : X.mg "ValueError" = none)
    (h : ∀ W pn xe, Takes (X.tr pn xe) W → PassesOwn (model X.prog X.w) X.A X.env xe → (∀ Δ' σ B H, Qr Δ' → Lc X.K F.T σ B H Δ' → Glb F Δ' B H → W (.ref C) none σ H) → BL F (X.tr pn xe) Δ body P)
    (hlen : ∀ Δ', Qr Δ' → i < Δ'.length) (hq : ∀ Δ', Qr Δ' → P.rt (.dat (.list [.str tx, .bool true])) (Δ'.set i .non)) (hdb : (x == ("__debug__" : Str)) = false := by decide) (hn1 : (n == ("__debug__" : Str)) = false := by decide) (hn2 : (n == ("__classdict__" : Str)) = false := by decide)
    (e1 : starEach [.Constant (.str tx) j p1, .Call (.Name "isinstance" p2) [.Name n p3, .Name "ValueError" p4] [] p5] X.env = (false, eval (.Constant (.str tx) j p1) X.env) :: starEach [.Call (.Name "isinstance" p2) [.Name n p3, .Name "ValueError" p4] [] p5] X.env := by rfl)
    (e2 : starEach [.Call (.Name "isinstance" p2) [.Name n p3, .Name "ValueError" p4] [] p5] X.env = (false, eval (.Call (.Name "isinstance" p2) [.Name n p3, .Name "ValueError" p4] [] p5) X.env) :: starEach [] X.env := by rfl)
    (e3 : starEach [.Name n p3, .Name "ValueError" p4] X.env = (false, eval (.Name n p3) X.env) :: starEach [.Name "ValueError" p4] X.env := by rfl) (e4 : starEach [.Name "ValueError" p4] X.env = (false, eval (.Name "ValueError" p4) X.env) :: starEach [] X.env := by rfl)
    (hpl : (backTo p5 (starEach [.Name "ValueError" p4] X.env)).any (·.1) = false := by rfl) :
    BS F X Δ (.Try body [.ExceptHandler (some (.Name x np)) (some n) [.Return (some (.List [.Constant (.str tx) j p1, .Call (.Name "isinstance" p2) [.Name n p3, .Name "ValueError" p4] [] p5] p6)) p7] pos'] [] [] pos) P := by
  refine PS.weak (ps_try_as (Wout := fun _ _ _ _ => False) (tb := fun W D σ H => (∀ Δ' σ B H, Qr Δ' → Lc X.K F.T σ B H Δ' → Glb F Δ' B H → W (.ref C) none σ H) ∧ tB X.K F Δ P D σ H)
    (ts := fun a cls d D σ H => cls = .ref C ∧ d = none ∧ σ[i]? = some (some (.ref a)) ∧ ∃ Δ', Qr Δ' ∧ tB X.K F (Δ'.set i .non) { nx := fun _ => False, rt := P.rt } D σ H) hs hf hN hi hln ⟨hg, hdb, .inl xN.g⟩ takes0
    (fun W pn xe tk po => ⟨fun pins s σ H D I ⟨wc, t⟩ => (h W pn xe tk po wc).run pins s σ H D I t⟩) fun a oe cls d pn hz hv => ⟨fun pins s σ H D I ⟨ec, ed, hsl, Δ', q, B, L, G, k1, k2, _⟩ => ?_⟩) fun D σ H t => ?_
  · subst ec ed
    refine (pss_one (ps_ret (pe_lst (pa_cons pe_str (pa_cons (pe_callB (call_isE xN.is hz hv) hgi hmi (by decide +kernel) (pa_cons (pe_var (i := i) hi (.inl hln) hn1 hn2) (pa_cons (pe_bltn (v := .ty "ValueError") hgv hmv (by decide +kernel) rfl (by decide) (by decide)) pa_nil e4) e3) (by decide) (by decide) e3 hpl) pa_nil e2) e1)))).run pins s σ H D I ?_
    refine ⟨.ref a, hsl, .ty "ValueError", .type "ValueError", true, rfl, fun u r => r, xN.kit, by show 2 ≤ sizeLine; rw [sizeLine_eq]; decide, fun l hl => ?_⟩
    obtain ⟨L4, S4, nm, nb⟩ := L.newM (xs := [.str tx, .bl true]) hl
    obtain ⟨L5, dp⟩ := L4.froze (es := [.str tx, .bool true]) upd_same nb (.cons (.str tx) (.cons (.bl true) .nil)) nm
    exact k2 _ _ _ σ _ _ (hq Δ' q) L5 (G.step (S4.froze' hl nb)) dp
  · refine ⟨fun Δ' σ' B' H' q L' G' => ?_, t⟩
    obtain ⟨B, L, G, k1, k2, k3, k4⟩ := t
    have hil : i < σ'.length := by rw [L'.len]; exact hlen Δ' q
    exact ⟨true, xN.te, fun _ a ha => ⟨rfl, rfl, by rw [List.getElem?_set_self hil], Δ', q, B', L'.setN, G'.setN, fun _ _ _ _ z => z.elim, k2, fun _ _ _ _ z => z.elim, fun _ _ _ _ z => z.elim⟩, fun z => nomatch z⟩
end
end Wk

set_option Elab.async false
set_option linter.all false
set_option maxRecDepth 100000
set_option maxHeartbeats 1000000
namespace Wk
open PySem PySem.Spec PyProof.Rows L2 NdefX DL
theorem tup_iT (xs : List Int) : tupD (iT xs) = iT xs := by
  rw [iT, tupD, tupDs_map, List.map_map]
  congr 1
theorem fit_iT {xs : List Int} (h : xs.length ≤ 1000) : fit 1 (iT xs) := fun t ds e => by
  cases e
  exact ⟨by simpa using h, fun x hx => by obtain ⟨i, _, rfl⟩ := List.mem_map.mp hx; rfl⟩
theorem tup_mT (rows : List (List Int)) : tupD (mT rows) = mT rows := by
  rw [mT, tupD, tupDs_map, List.map_map]
  congr 1
  exact List.map_congr_left fun r _ => tup_iT r
theorem fit_mT {rows : List (List Int)} (h : rows.length ≤ 1000) (h2 : ∀ r ∈ rows, r.length ≤ 1000) : fit 2 (mT rows) := fun t ds e => by
  cases e
  exact ⟨by simpa using h, fun x hx => by obtain ⟨i, hi, rfl⟩ := List.mem_map.mp hx; exact fit_iT (h2 i hi)⟩
section
variable {P : Program} {w : World} {K : DL.Frag} {mg : Str → Option Value} {base : Heap} {T : List NTab} {f : Addr} {fd : FuncData} {C : Addr}
abbrev pMade : List DL.D → DL.D → Prop := fun ds r => ∃ rows row res, ds = [mT rows, iT row] ∧ (row.length ≤ 400 ∧ rows.length ≤ 400 ∧ Wd row.length rows ∧ TimesR rows row res) ∧ r = .bool res.isSome
theorem isNone_opt (res : Option (List Int)) : isNoneD (optT res) = !res.isSome := by cases res <;> rfl
theorem is_made_ok (GT : Df P w K mg base T 3 "tupled" ["matter"] (SP 1 (pTup 2))) (GF : Df P w K mg base T 4 "times_for" ["rows", "row"] (SP 2 pTms)) (F : Fd K mg "is_made" 20 f fd) : Df P w K mg base T 5 "is_made" ["rows", "row"] (SP 2 pMade) :=
  dp_ok F.fn F.mg (bn_is_made F) sc_is_made rfl fun cdv A outer s H E hr B ds r hn h => by
    obtain ⟨rows, row, res, rfl, ⟨h1, h2, h3, h4⟩, rfl⟩ := h
    refine bl_one <| bs_ret <| de_notN <| de_callP GF (hr.mono (by decide)) rfl <| dd_cons <| de_callP GT (hr.mono (by decide)) rfl <| dd_cons <| dv 0 rfl <| dd_nil ⟨rfl, _, ⟨mT rows, rfl, fit_mT (by omega) fun r hr' => by rw [h3 r hr']; omega, rfl⟩, dd_cons <| de_callP GT (hr.mono (by decide)) rfl <| dd_cons <| dv 1 rfl <| dd_nil ⟨rfl, _, ⟨iT row, rfl, fit_up (fit_iT (by omega)), rfl⟩, dd_nil ⟨rfl, _, ⟨rows, row, res, by rw [tup_mT, tup_iT], ⟨h1, h2, h3, h4⟩, rfl⟩, ?_⟩⟩⟩
    rw [isNone_opt]; simp
/-- the row, or the error -/
abbrev pMadeX : List DL.D → Option DL.D → Prop := fun ds o => ∃ rows row res, ds = [mT rows, iT row] ∧ (row.length ≤ 400 ∧ rows.length ≤ 400 ∧ Wd row.length rows ∧ TimesR rows row res) ∧ o = res.map iT
theorem made_by_ok (xN : ExN K mg "NoPaper" C) (GT : Df P w K mg base T 3 "tupled" ["matter"] (SP 1 (pTup 2))) (GF : Df P w K mg base T 4 "times_for" ["rows", "row"] (SP 2 pTms)) (F : Fd K mg "made_by" 21 f fd) : Dx P w K mg base T C 5 "made_by" ["rows", "row"] 2 pMadeX :=
  dx_ok F.fn F.mg (bn_made_by F) sc_made_by rfl fun cdv A outer s H E hr B ds o hn h hx => by
    obtain ⟨rows, row, res, rfl, ⟨h1, h2, h3, h4⟩, rfl⟩ := h
    have nd := nd_made_by
    have tk : Takes (cxX P w K mg base N_made_by "made_by" (defScope (Hd.top 21)) f cdv A outer s H E) (fun cls d _ H => E cls d H) := takes_of rfl rfl rfl rfl
    refine bl_cons <| bs_set nd (i := 2) rfl (.inl rfl) <| de_callP GF (hr.mono (by decide)) rfl <| dd_cons <| de_callP GT (hr.mono (by decide)) rfl <| dd_cons <| dv 0 rfl <| dd_nil ⟨rfl, _, ⟨mT rows, rfl, fit_mT (by omega) fun r hr' => by rw [h3 r hr']; omega, rfl⟩, dd_cons <| de_callP GT (hr.mono (by decide)) rfl <| dd_cons <| dv 1 rfl <| dd_nil ⟨rfl, _, ⟨iT row, rfl, fit_up (fit_iT (by omega)), rfl⟩, dd_nil ⟨rfl, _, ⟨rows, row, res, by rw [tup_mT, tup_iT], ⟨h1, h2, h3, h4⟩, rfl⟩, ?_⟩⟩⟩
    refine bl_cons <| bs_if <| dt_isN <| dv 2 rfl ⟨fun ht => ?_, fun hf => bl_nil ?_⟩
    · rw [isNone_opt] at ht
      have e : res = none := by cases res with
        | none => rfl
        | some _ => cases ht
      exact bl_one <| bs_raise xN tk rfl rfl fun σ B H L G => hx (by rw [e]; rfl) _ σ B H L G
    · rw [isNone_opt] at hf
      cases res with
      | none => cases hf
      | some m => exact bl_one <| bs_ret <| dv 2 rfl ⟨_, rfl, rfl⟩
end
end Wk

set_option Elab.async false
set_option linter.all false
set_option maxRecDepth 100000
set_option maxHeartbeats 1000000
namespace Wk
open PySem PySem.Spec PyProof.Rows L2 NdefX DL
abbrev Ties := List (Nat × Nat)
def tieD1 (p : Nat × Nat) : DL.D := .tuple [.int p.1, .int p.2]
abbrev tieD (ties : Ties) : DL.D := .tuple (ties.map tieD1)
def Ends (n : Nat) (ties : Ties) : Prop := ∀ p ∈ ties, p.1 < n ∧ p.2 < n
def bordStep (f : List Int) (p : (Nat × Nat) × Int) : List Int :=
  let g := f.set p.1.1 (f.getD p.1.1 0 - p.2)
  g.set p.1.2 (g.getD p.1.2 0 + p.2)
def bordM (n : Nat) (ties : Ties) (row : List Int) : List Int := (ties.zip row).foldl bordStep (zerR n)
def brStep (st : List Nat × List Nat) (p : (Nat × Nat) × Nat) : List Nat × List Nat :=
  if st.1.getD p.1.1 0 = st.1.getD p.1.2 0 then st else (st.1.map fun x => if x = st.1.getD p.1.1 0 then st.1.getD p.1.2 0 else x, st.2 ++ [p.2])
def brM (n : Nat) (ties : Ties) : List Nat := (ties.zipIdx.foldl brStep (List.range n, [])).2
def otM (n : Nat) (ties : Ties) : List Nat := (List.range ties.length).filter fun i => !(brM n ties).contains i
def onM (w : List Int) (number : Nat) (many : Int) : List Int := w.zipIdx.map fun p => if p.2 = number then p.1 + many else p.1
abbrev Ways := List (Option (List Int))
def growAt (number a t : Nat) (many : Int) (f : Ways) : Ways := match f.getD a none, f.getD t none with
  | some w, none => f.set t (some (onM w number many))
  | _, _ => f
def growOne (ties : Ties) (f : Ways) (i : Nat) : Ways := match ties[i]? with
  | some (a, t) => growAt i t a (-1) (growAt i a t 1 f)
  | none => f
def growM (ties : Ties) (br : List Nat) (f : Ways) : Ways := br.foldl (fun f _ => br.foldl (growOne ties) f) f
def wayStep (n : Nat) (ties : Ties) (f : Ways) (r : Nat) : Ways := match f.getD r none with
  | none => growM ties (brM n ties) (f.set r (some (zerR ties.length)))
  | some _ => f
def waysM (n : Nat) (ties : Ties) : Ways := (List.range n).foldl (wayStep n ties) (List.replicate n none)
theorem zipD_ties (ties : Ties) (row : List Int) : zipD (ties.map tieD1) (row.map .int) = (ties.zip row).map fun p => .tuple [tieD1 p.1, .int p.2] := by
  unfold zipD
  rw [List.zipWith_map, List.zip_eq_zipWith, List.map_zipWith]
theorem bordStep_length (f : List Int) (p) : (bordStep f p).length = f.length := by simp [bordStep]
section
variable {F : Fm} {X : Cx} {Δ : List En} {e : Expr} {P : DEnds} {pos p2 p3 p4 : Pos}
/-- own.append(e) -/
theorem ap (i : Nat) {x : Str} (hd : ∃ l ds, Δ[i]? = some (.own l ds)) (h : DE F.T X Δ e fun d Δ1 => ∃ l ds, Δ1[i]? = some (.own l ds) ∧ ds.length < 10000 ∧ P.nx (Δ1.set i (.own l (ds ++ [d]))))
    (hN : X.N[i]? = some x := by rfl) (hv : Vis X.env.scope x := by first | exact Or.inl rfl | exact Or.inr (Or.inl rfl) | exact Or.inr (Or.inr rfl))
    (hs : swapsWith (.Call (.Attribute (.Name x p2) "append" p3) [e] [] pos) none p4.line X.env = pure false := by rfl) (he : starEach [e] X.env = (false, eval e X.env) :: starEach [] X.env := by rfl)
    (hbase : ∀ {to : TE} {t : TA}, PE X (.Name x p2) to → PA X [e] t → PE X (.Call (.Attribute (.Name x p2) "append" p3) [e] [] pos) (tBM X.K "list" rAppend to t) := by exact fun ho ha => pe_bm PySem.F.plainAttrs_list PySem.F.slot_list_append PySem.F.type_list_append mt_append ho ha)
    (h1 : (x == ("__debug__" : Str)) = false := by decide) (h2 : (x == ("__classdict__" : Str)) = false := by decide) : BS F X Δ (.Expr (.Call (.Attribute (.Name x p2) "append" p3) [e] [] pos) p4) P :=
  bs_append hN hv hd h hbase hs he h1 h2
end
section
variable {P : Program} {w : World} {K : DL.Frag} {mg : Str → Option Value} {base : Heap} {T : List NTab} {f : Addr} {fd : FuncData} {C : Addr}
abbrev pBord : List DL.D → DL.D → Prop := fun ds r => ∃ ties row, ∃ n : Nat, ds = [.int n, tieD ties, iT row] ∧ (n ≤ 1000 ∧ ties.length ≤ 1000 ∧ Ends n ties) ∧ r = iT (bordM n ties row)
theorem border_of_ok (b : Blt mg) (F : Fd K mg "border_of" 38 f fd) : Df P w K mg base T 1 "border_of" ["places", "ties", "row"] (SP 3 pBord) :=
  dp_ok F.fn F.mg (bn_border_of F) sc_border_of rfl fun cdv A outer s H E hr B ds r hn h => by
    obtain ⟨ties, row, n, rfl, ⟨h1, h2, h3⟩, rfl⟩ := h
    have nd := nd_border_of
    refine bl_cons <| bs_setN nd (i := 3) rfl (.inl rfl) <| dn_rep <| dn_lst <| dd_cons <| de_int <| dd_nil ⟨by simp, dv 0 rfl ⟨_, rfl, ⟨by omega, by omega, by simp⟩, fun l nm nm2 => ?_⟩⟩
    have e0 : (List.replicate (n : Int).toNat [PyData.int 0]).flatten = (zerR n).map .int := by
      rw [flat_one, Int.toNat_natCast, zerR, List.map_replicate]
    rw [e0]
    refine bl_cons <| bs_forJ (β := List Int) PassesOwn.never rfl (mono_2 (mono_2 (mn 4) (mn 5)) (mn 6)) (dg_2 rfl (mono_2 (mn 4) (mn 5)) (mn 6) (dg_2 rfl (mn 4) (mn 5) (g1 nd 4) (g1 nd 5)) (g1 nd 6)) [4, 5, 6] (ties.zip row) (fun p => .tuple [tieD1 p.1, .int p.2]) (fun f => [.dat (.int n), .dat (tieD ties), .dat (iT row), .own l (f.map .int), .non, .non, .non])
      (fun rest f => f.length = n ∧ (∀ p ∈ rest, p.1.1 < n ∧ p.1.2 < n) ∧ rest.foldl bordStep f = bordM n ties row)
      <| di_zip rfl b.zip <| dv 1 rfl ⟨_, _, rfl, dv 2 rfl ⟨_, _, rfl, zipD_ties ties row, ⟨zerR n, rfl, zerR_length n, fun p hp => h3 p.1 (List.of_mem_zip (show (p.1, p.2) ∈ _ from hp)).1, rfl⟩, fun _ => trivial, ?_, ?_⟩⟩
    · rintro ⟨⟨a, t⟩, m⟩ rest f ⟨f1, f2, f3⟩
      obtain ⟨l1, l2⟩ := f2 _ List.mem_cons_self
      have l1 : a < n := l1
      have l2 : t < n := l2
      refine ⟨_, _, rfl, ⟨_, _, rfl, ?_⟩⟩
      have hf : f.length = n := f1
      have l4 : a < (f.map PyData.int).length := by rw [List.length_map, hf]; exact l1
      refine bl_cons <| bs_augOwn (i := 3) ip_sub rfl (.inl rfl) ⟨_, _, rfl⟩ <| dv 4 rfl ⟨_, rfl, l, _, rfl, _, int_at (by rw [hf]; exact l1), dv 6 rfl ⟨_, rfl, l, f.map PyData.int, a, rfl, ixN_nat l4, ?_⟩⟩
      refine bl_as (Δ' := [.dat (.int n), .dat (tieD ties), .dat (iT row), .own l ((f.set a (f.getD a 0 - m)).map .int), .dat (.int a), .dat (.int t), .dat (.int m)]) (by rw [List.map_set]; rfl) ?_
      have l3 : t < ((f.set a (f.getD a 0 - m)).map PyData.int).length := by rw [List.length_map, List.length_set, hf]; exact l2
      refine bl_one <| bs_augOwn (i := 3) ip_add rfl (.inl rfl) ⟨_, _, rfl⟩ <| dv 5 rfl ⟨_, rfl, l, _, rfl, _, int_at (by simpa using l3), dv 6 rfl ⟨_, rfl, l, _, t, rfl, ixN_nat l3, ?_⟩⟩
      exact ⟨bordStep f ((a, t), m), by have e : (bordStep f ((a, t), m)).map PyData.int = ((f.set a (f.getD a 0 - m)).map PyData.int).set t (.int ((f.set a (f.getD a 0 - m)).getD t 0 + m)) := (by rw [bordStep]; exact List.map_set); rw [e]; rfl, (bordStep_length _ _).trans hf, fun p hp => f2 p (List.mem_cons_of_mem _ hp), f3⟩
    · rintro f ⟨_, _, f3⟩
      exact bl_one <| bs_ret <| de_tuple rfl b.tuple <| sv 3 rfl rfl (by rw [← f3]; rfl)
abbrev pBr : List DL.D → List DL.D → Prop := fun ds r => ∃ ties, ∃ n : Nat, ds = [.int n, tieD ties] ∧ (n ≤ 1000 ∧ ties.length ≤ 1000 ∧ Ends n ties) ∧ r = (brM n ties).map fun i => .int (i : Nat)
theorem nat_at {xs : List Nat} {i : Nat} (h : i < xs.length) : atI (xs.map fun x => PyData.int (x : Nat)) (i : Int) = some (.int (xs.getD i 0 : Nat)) := by
  refine atI_nat ?_
  rw [List.getElem?_map, List.getD_eq_getElem?_getD, List.getElem?_eq_getElem h]; rfl
theorem tie_at {ties : Ties} {i : Nat} {a t : Nat} (h : ties[i]? = some (a, t)) : atI (ties.map tieD1) (i : Int) = some (.tuple [.int a, .int t]) := by
  refine atI_nat ?_
  rw [List.getElem?_map, h]; rfl
theorem eqn (a b : Nat) : PyData.eqv (.int (a : Int)) (.int (b : Int)) = decide (a = b) := by rw [eqi]; exact decide_eq_decide.mpr ⟨fun h => by omega, fun h => by omega⟩
theorem branches_of_ok (b : Blt mg) (F : Fd K mg "branches_of" 39 f fd) : Df P w K mg base T 1 "branches_of" ["places", "ties"] (SL 2 pBr) :=
  dl_ok F.fn F.mg (bn_branches_of F) sc_branches_of rfl fun cdv A outer s H E hr B ds r hn h => by
    obtain ⟨ties, n, rfl, ⟨h1, h2, h3⟩, rfl⟩ := h
    have nd := nd_branches_of
    refine bl_cons <| bs_par2 (i := 2) (j := 3) rfl nd rfl rfl (by decide) rfl rfl (da_d <| de_new <| dn_listRg rfl rfl b.list rfl b.range <| dv 0 rfl ⟨_, rfl, by omega, da_n <| dn_lst <| dd_nil ⟨by simp, fun l => da_nil ⟨_, _, rfl, trivial, trivial, fun nm => ?_⟩⟩⟩) (by rfl)
    have nml := (nm l [] (.inr rfl)).1
    have e0 : rgD 0 (n : Int).toNat = (List.range n).map fun i => .int (i : Nat) := by rw [rgD, Int.toNat_natCast]; simp
    rw [e0]
    refine bl_cons <| bs_forJ (β := List Nat × List Nat) PassesOwn.never rfl (mono_2 (mn 4) (mono_2 (mn 5) (mn 6))) (dg_2 rfl (mn 4) (mono_2 (mn 5) (mn 6)) (g1 nd 4) (dg_2 rfl (mn 5) (mn 6) (g1 nd 5) (g1 nd 6))) [4, 5, 6, 7, 8, 9] ties.zipIdx (fun p => .tuple [.int (p.2 : Nat), tieD1 p.1]) (fun st => [.dat (.int n), .dat (tieD ties), .dat (.list (st.1.map fun i => .int (i : Nat))), .own l (st.2.map fun i => .int (i : Nat)), .non, .non, .non, .non, .non, .non])
      (fun rest st => st.1.length = n ∧ (∀ p ∈ rest, p.1.1 < n ∧ p.1.2 < n) ∧ st.2.length + rest.length ≤ 1000 ∧ (rest.foldl brStep st).2 = brM n ties)
      <| di_enum rfl b.enumerate <| dv 1 rfl ⟨_, _, rfl, enumD_map tieD1 ties, ⟨(List.range n, []), rfl, by simp, fun p hp => h3 p.1 (List.fst_mem_of_mem_zipIdx hp), by simp; omega, rfl⟩, fun _ => trivial, ?_, ?_⟩
    · rintro ⟨⟨a, t⟩, i⟩ rest ⟨ps, fo⟩ ⟨f1, f2, f3, f4⟩
      obtain ⟨l1, l2⟩ := f2 _ List.mem_cons_self
      have f1 : ps.length = n := f1
      have l1 : a < ps.length := by rw [f1]; exact l1
      have l2 : t < ps.length := by rw [f1]; exact l2
      have f3 : fo.length + (rest.length + 1) ≤ 1000 := f3
      refine ⟨_, _, rfl, ⟨_, _, rfl, ?_⟩⟩
      refine bl_one <| bs_if <| dt_ne hr.units <| de_ixL (fun _ _ => rfl) <| dv 2 rfl ⟨_, rfl, dv 5 rfl ⟨_, rfl, _, nat_at l1, de_ixL (fun _ _ => rfl) <| dv 2 rfl ⟨_, rfl, dv 6 rfl ⟨_, rfl, _, nat_at l2, rfl, rfl, fun ht => ?_, fun hf => bl_nil ?_⟩⟩⟩⟩
      · rw [eqn] at ht
        have hne : ps.getD a 0 ≠ ps.getD t 0 := by simpa using ht
        refine bl_cons <| bs_asg (mono_2 (mn 7) (mn 8)) (dg_2 rfl (mn 7) (mn 8) (g1 nd 7) (g1 nd 8)) <| de_tup <| dd_cons <| de_ixL (fun _ _ => rfl) <| dv 2 rfl ⟨_, rfl, dv 5 rfl ⟨_, rfl, _, nat_at l1, dd_cons <| de_ixL (fun _ _ => rfl) <| dv 2 rfl ⟨_, rfl, dv 6 rfl ⟨_, rfl, _, nat_at l2, dd_nil ⟨by simp, _, _, rfl, ?_⟩⟩⟩⟩⟩
        refine bl_cons <| bs_lc (i := 2) (own := [("part", 9)]) rfl nd rfl rfl (by rfl) (blkOk_by (by kernel_rfl)) (.inl rfl) (mn 9) (fun _ _ _ _ _ => g1 nd 9) (by decide) <| di_lst <| dv 2 rfl ⟨_, rfl, lc_map ps (fun i => .int (i : Nat)) (fun x => .int ((if x = ps.getD a 0 then ps.getD t 0 else x : Nat) : Int)) _ rfl trivial rfl (mn 9)
          (fun x hx s H C cl fp => de_if <| dt_eq hr.units <| dv 9 rfl <| dv 7 rfl ⟨rfl, rfl, fun h => ?_, fun h => ?_⟩) (by omega) ?_⟩
        · rw [eqn] at h
          exact dv 8 rfl ⟨by rw [if_pos (of_decide_eq_true h)], rfl⟩
        · rw [eqn] at h
          exact dv 9 rfl ⟨by rw [if_neg (of_decide_eq_false h)], rfl⟩
        refine bl_one <| ap 3 ⟨_, _, rfl⟩ <| dv 4 rfl ⟨l, _, rfl, by rw [List.length_map]; omega, ?_⟩
        refine ⟨brStep (ps, fo) ((a, t), i), by rw [brStep, if_neg hne, List.map_map, List.map_append]; rfl, by rw [brStep, if_neg hne, List.length_map]; exact f1, fun p hp => f2 p (List.mem_cons_of_mem _ hp), by rw [brStep, if_neg hne, List.length_append]; show fo.length + 1 + rest.length ≤ 1000; omega, by rw [← f4, List.foldl_cons]⟩
      · rw [eqn] at hf
        have he : ps.getD a 0 = ps.getD t 0 := by simpa using hf
        exact ⟨(ps, fo), rfl, f1, fun p hp => f2 p (List.mem_cons_of_mem _ hp), by show fo.length + rest.length ≤ 1000; omega, by rw [← f4, List.foldl_cons, brStep, if_pos he]⟩
    · rintro ⟨ps, fo⟩ ⟨_, _, _, f4⟩
      exact bl_one <| bs_retO (i := 3) rfl (.inl rfl) rfl nml ⟨l, by rw [← f4]; rfl⟩
end
end Wk

set_option Elab.async false
set_option linter.all false
set_option maxRecDepth 100000
set_option maxHeartbeats 1000000
namespace Wk
open PySem PySem.Spec PyProof.Rows L2 NdefX DL
theorem u65 {k : Nat} {A : Around} (r : Room k A) : A.units + 65 < cLine := by have := r.un; omega
abbrev nL (xs : List Nat) : DL.D := .list (xs.map fun i => .int (i : Nat))
theorem nL_iL (xs : List Nat) : nL xs = iL (xs.map fun (i : Nat) => (i : Int)) := by rw [iL, List.map_map]; rfl
theorem shaped_nL (xs : List Nat) : SeqAt.shaped (nL xs) = true := by rw [nL_iL]; exact shaped_iL _
theorem any_nat (xs : List Nat) (j : Nat) : ((xs.map fun i => PyData.int (i : Nat)).any fun z => PyData.eqv z (.int (j : Nat))) = xs.contains j := by
  induction xs with
  | nil => rfl
  | cons a t ih =>
    rw [List.map_cons, List.any_cons, ih, eqn, List.contains_cons]
    congr 1
    by_cases h : a = j
    · subst h; simp
    · rw [decide_eq_false h]; exact (beq_eq_false_iff_ne.mpr (Ne.symm h)).symm
theorem way_at {f : Ways} {i : Nat} (h : i < f.length) : atI (f.map optT) (i : Int) = some (optT (f.getD i none)) := by
  refine atI_nat ?_
  rw [List.getElem?_map, List.getD_eq_getElem?_getD, List.getElem?_eq_getElem h]; rfl
/-- all ways so far no longer than this -/
def Wfit (f : Ways) : Prop := ∀ w, some w ∈ f → w.length ≤ 1000
theorem onM_length (w : List Int) (i : Nat) (m : Int) : (onM w i m).length = w.length := by simp [onM]
theorem Wfit.at {f : Ways} (h : Wfit f) {a t number : Nat} {many : Int} : Wfit (growAt number a t many f) := by
  unfold growAt
  split
  · rename_i w e1 e2
    intro u hu
    rcases List.mem_or_eq_of_mem_set hu with q | q
    · exact h u q
    · rw [Option.some.inj q, onM_length]
      refine h w ?_
      rw [List.getD_eq_getElem?_getD] at e1
      cases e : f[a]? with
      | none => rw [e] at e1; cases e1
      | some o => rw [e] at e1; rw [← show o = some w from e1]; exact List.mem_of_getElem? e
  · exact h
theorem growAt_length (number a t : Nat) (many : Int) (f : Ways) : (growAt number a t many f).length = f.length := by
  unfold growAt; split <;> simp
section
variable {P : Program} {w : World} {K : DL.Frag} {mg : Str → Option Value} {base : Heap} {T : List NTab} {f : Addr} {fd : FuncData} {C : Addr}
abbrev pOt : List DL.D → List DL.D → Prop := fun ds r => ∃ ties, ∃ n : Nat, ds = [.int n, tieD ties] ∧ (n ≤ 1000 ∧ ties.length ≤ 1000 ∧ Ends n ties) ∧ r = (otM n ties).map fun i => .int (i : Nat)
theorem other_ties_ok (b : Blt mg) (GB : Df P w K mg base T 1 "branches_of" ["places", "ties"] (SL 2 pBr)) (F : Fd K mg "other_ties" 40 f fd) : Df P w K mg base T 2 "other_ties" ["places", "ties"] (SL 2 pOt) :=
  dl_ok F.fn F.mg (bn_other_ties F) sc_other_ties rfl fun cdv A outer s H E hr B ds r hn h => by
    obtain ⟨ties, n, rfl, ⟨h1, h2, h3⟩, rfl⟩ := h
    have nd := nd_other_ties
    refine bl_cons <| bs_set nd (i := 2) rfl (by first | exact .inl rfl | exact .inr rfl) <| de_new <| dn_callL GB (hr.mono (by decide)) rfl <| dd_cons <| dv 0 rfl <| dd_cons <| dv 1 rfl <| dd_nil ⟨rfl, _, ⟨ties, n, rfl, ⟨h1, h2, h3⟩, rfl⟩, ?_⟩
    refine bl_one <| bs_retN <| n_lc nd [("number", 3)] (fun _ _ _ _ _ => g1 nd 3) (mn 3) <| di_range1 rfl b.range <| de_len rfl b.len <| sv 1 rfl rfl ⟨_, rfl, by rw [List.length_map]; omega, lc_fil (List.range ties.length) (fun i => .int ((0 : Int) + (i : Nat))) (fun i => .int (i : Nat)) (fun i => !(brM n ties).contains i) _ rfl trivial (by rw [rgD, List.length_map]; rfl) (mn 3)
      (fun i hi s H C cl fp => dt_notIn (u65 hr) rfl <| dv 3 rfl <| dv 2 rfl ⟨false, _, rfl, rfl, shaped_nL _, by rw [Int.zero_add, any_nat], fun _ s H C cl fp => dv 3 rfl ⟨by rw [Int.zero_add], rfl⟩, fun _ => rfl⟩) (by simp; omega) fun l => ⟨l, rfl⟩⟩
abbrev pOn : List DL.D → DL.D → Prop := fun ds r => ∃ w many, ∃ i : Nat, ds = [iT w, .int i, .int many] ∧ w.length ≤ 1000 ∧ r = iT (onM w i many)
theorem stepped_on_ok (b : Blt mg) (F : Fd K mg "stepped_on" 43 f fd) : Df P w K mg base T 1 "stepped_on" ["way", "number", "many"] (SP 3 pOn) :=
  dp_ok F.fn F.mg (bn_stepped_on F) sc_stepped_on rfl fun cdv A outer s H E hr B ds r hn h => by
    obtain ⟨w, many, i, rfl, h1, rfl⟩ := h
    have nd := nd_stepped_on
    refine bl_one <| bs_ret <| de_tuple rfl b.tuple <| ds_new <| n_lc nd [("tie", 3), ("much", 4)] (fun _ _ _ _ _ => dg_2 rfl (mn 3) (mn 4) (g1 nd 3) (g1 nd 4)) (mono_2 (mn 3) (mn 4)) <| di_enum rfl b.enumerate <| dv 0 rfl ⟨_, _, rfl, lc_map w.zipIdx (fun p => .tuple [.int (p.2 : Nat), .int p.1]) (fun p => .int (if p.2 = i then p.1 + many else p.1)) _ rfl trivial (enumD_map .int w) (mono_2 (mn 3) (mn 4))
      (fun p hp => ⟨_, _, rfl, fun s H C cl fp => de_if <| dt_eq hr.units <| dv 3 rfl <| dv 1 rfl ⟨rfl, rfl, fun h => ?_, fun h => ?_⟩⟩) (by simp; omega) (by rw [iT, onM, List.map_map]; rfl)⟩
    · rw [eqn] at h
      exact de_add <| dv 4 rfl ⟨_, rfl, dv 2 rfl ⟨_, rfl, by rw [if_pos (of_decide_eq_true h)], rfl⟩⟩
    · rw [eqn] at h
      exact dv 4 rfl ⟨by rw [if_neg (of_decide_eq_false h)], rfl⟩
def sGrow : SD := fun as k => ∃ l ties br f, as = [.dat (tieD ties), .dat (nL br), .own l (f.map optT)] ∧ (ties.length ≤ 1000 ∧ br.length ≤ 1000 ∧ f.length ≤ 1000 ∧ Ends f.length ties ∧ Wfit f ∧ ∀ i ∈ br, i < ties.length) ∧ k (.dat .none) [.dat (tieD ties), .dat (nL br), .own l ((growM ties br f).map optT)]
theorem sGrow_mono : SMono sGrow := fun as k k' ⟨l, ties, br, f, e, h, q⟩ w => ⟨l, ties, br, f, e, h, w _ _ q⟩
theorem grown_ways_ok (b : Blt mg) (GO : Df P w K mg base T 1 "stepped_on" ["way", "number", "many"] (SP 3 pOn)) (F : Fd K mg "grown_ways" 42 f fd) : Df P w K mg base T 2 "grown_ways" ["ties", "branches", "found"] sGrow :=
  df_ok F.fn F.mg (bn_grown_ways F) sc_grown_ways (fun as k ⟨l, ties, br, f, e, _⟩ => by rw [e]; rfl) fun cdv A outer s H E hr B as k ⟨l, ties, br, f0, e, ⟨h1, h2, h3, h4, h5, h6⟩, qq⟩ => by
    subst e
    have nd := nd_grown_ways
    refine bl_one <| bs_forJ (β := Ways) PassesOwn.never rfl (mn 3) (g1 nd 3) [3, 4, 5, 6, 7, 8, 9] br (fun i => .int (i : Nat)) (fun f => [.dat (tieD ties), .dat (nL br), .own l (f.map optT), .non, .non, .non, .non, .non, .non, .non])
      (fun rest f => f.length = f0.length ∧ Wfit f ∧ rest.foldl (fun f _ => br.foldl (growOne ties) f) f = growM ties br f0)
      <| di_lst <| dv 1 rfl ⟨_, rfl, rfl, ⟨f0, rfl, rfl, h5, rfl⟩, fun _ => trivial, ?_, ?_⟩
    · rintro i rest f ⟨f1, f2, f3⟩
      refine bl_one <| bs_forJ (β := Ways) PassesOwn.never rfl (mn 4) (g1 nd 4) [3, 4, 5, 6, 7, 8, 9] br (fun i => .int (i : Nat)) (fun f => [.dat (tieD ties), .dat (nL br), .own l (f.map optT), .non, .non, .non, .non, .non, .non, .non])
        (fun rest' f' => f'.length = f0.length ∧ Wfit f' ∧ (∀ j ∈ rest', j < ties.length) ∧ rest'.foldl (growOne ties) f' = br.foldl (growOne ties) f)
        <| di_lst <| dv 1 rfl ⟨_, rfl, rfl, ⟨f, rfl, f1, f2, h6, rfl⟩, fun _ => trivial, ?_, ?_⟩
      · rintro j rest' f' ⟨e1, e2, e3, e4⟩
        have hj : j < ties.length := e3 j List.mem_cons_self
        obtain ⟨⟨a, t⟩, ht⟩ : ∃ p, ties[j]? = some p := ⟨_, List.getElem?_eq_getElem hj⟩
        obtain ⟨ha, ht'⟩ := h4 _ (List.mem_of_getElem? ht)
        refine bl_cons <| bs_asg (mono_2 (mn 5) (mn 6)) (dg_2 rfl (mn 5) (mn 6) (g1 nd 5) (g1 nd 6)) <| de_ixT (fun _ _ => rfl) <| dv 0 rfl ⟨_, rfl, dv 4 rfl ⟨_, rfl, _, tie_at ht, _, _, rfl, ?_⟩⟩
        refine bl_one <| bs_forJ (β := Ways) PassesOwn.never rfl (mono_3 (mn 7) (mn 8) (mn 9)) (dg_3 rfl (mn 7) (mn 8) (mn 9) (g1 nd 7) (g1 nd 8) (g1 nd 9)) [3, 7, 8, 9] [(a, t, (1 : Int)), (t, a, -1)] (fun p => .tuple [.int (p.1 : Nat), .int (p.2.1 : Nat), .int p.2.2]) (fun f => [.dat (tieD ties), .dat (nL br), .own l (f.map optT), .non, .dat (.int j), .dat (.int a), .dat (.int t), .non, .non, .non])
          (fun r2 f2 => f2.length = f0.length ∧ Wfit f2 ∧ (∀ p ∈ r2, p.1 < f0.length ∧ p.2.1 < f0.length) ∧ r2.foldl (fun f q => growAt j q.1 q.2.1 q.2.2 f) f2 = growOne ties f' j)
          <| di_tup <| de_tup <| dd_cons <| de_tup <| dd_cons <| dv 5 rfl <| dd_cons <| dv 6 rfl <| dd_cons <| de_int <| dd_nil ⟨by simp, dd_cons <| de_tup <| dd_cons <| dv 6 rfl <| dd_cons <| dv 5 rfl <| dd_cons <| de_neg <| de_int ⟨_, rfl, dd_nil ⟨by simp, dd_nil ⟨by simp, _, rfl, rfl, ⟨f', rfl, e1, e2, ?_, ?_⟩, fun _ => trivial, ?_, ?_⟩⟩⟩⟩
        · intro p hp
          simp only [List.mem_cons, List.not_mem_nil, or_false] at hp
          rcases hp with rfl | rfl
          · exact ⟨ha, ht'⟩
          · exact ⟨ht', ha⟩
        · rw [growOne, ht]; rfl
        · rintro ⟨x, y, m⟩ r2 g ⟨g1', g2, g3, g4⟩
          have g1'' : g.length = f0.length := g1'
          obtain ⟨lx, ly⟩ := g3 _ List.mem_cons_self
          have lx : x < g.length := by rw [g1'']; exact lx
          have ly : y < g.length := by rw [g1'']; exact ly
          refine ⟨_, _, _, rfl, ?_⟩
          refine bl_one <| bs_if <| DT.mono (Q := fun c Δ' => c = ((g.getD x none).isSome && !(g.getD y none).isSome) ∧ Δ' = [.dat (tieD ties), .dat (nL br), .own l (g.map optT), .non, .dat (.int j), .dat (.int a), .dat (.int t), .dat (.int x), .dat (.int y), .dat (.int m)]) (dw_dt <| dw_and <| dt_notN <| xv 2 rfl rfl <| dv 7 rfl ⟨_, rfl, rfl, _, way_at lx, fun c1 => ?_, fun c1 => ?_⟩) fun c Δ' ⟨ec, eΔ⟩ => ?_
          · rw [isNone_opt] at c1
            refine dw_and1 <| dt_isN <| xv 2 rfl rfl <| dv 8 rfl ⟨_, rfl, rfl, _, way_at ly, ?_, rfl⟩
            rw [isNone_opt]
            cases e : (g.getD x none).isSome with
            | true => simp
            | false => rw [e] at c1; cases c1
          · rw [isNone_opt] at c1
            refine ⟨?_, rfl⟩
            cases e : (g.getD x none).isSome with
            | true => rw [e] at c1; cases c1
            | false => rfl
          · subst ec eΔ
            refine ⟨fun hc => ?_, fun hc => bl_nil ⟨g, rfl, g1'', g2, fun p hp => g3 p (List.mem_cons_of_mem _ hp), ?_⟩⟩
            · cases ex : g.getD x none with
              | none => rw [ex] at hc; cases hc
              | some wv =>
                cases ey : g.getD y none with
                | some _ => rw [ex, ey] at hc; cases hc
                | none =>
                  have hw : wv.length ≤ 1000 := g2 wv (by
                    rw [List.getD_eq_getElem?_getD, List.getElem?_eq_getElem lx] at ex
                    rw [← show g[x] = some wv from ex]; exact List.getElem_mem lx)
                  refine bl_one <| bs_asg mono_s (gs 2) <| de_callP GO (hr.mono (by decide)) rfl <| dd_cons <| xv 2 rfl rfl <| dv 7 rfl ⟨_, rfl, rfl, _, way_at lx, dd_cons <| dv 4 rfl <| dd_cons <| dv 9 rfl <| dd_nil ⟨rfl, _, ⟨wv, m, j, by rw [ex]; rfl, hw, rfl⟩, ⟨_, _, rfl⟩, dv 8 rfl ⟨_, rfl, l, _, y, rfl, ixN_nat (by rw [List.length_map]; exact ly), ?_⟩⟩⟩
                  have eg : growAt j x y m g = g.set y (some (onM wv j m)) := by unfold growAt; rw [ex, ey]
                  refine ⟨growAt j x y m g, by rw [eg, List.map_set]; rfl, by rw [growAt_length]; exact g1'', g2.at, fun p hp => g3 p (List.mem_cons_of_mem _ hp), g4⟩
            · have eg : growAt j x y m g = g := by
                unfold growAt
                cases ex : g.getD x none with
                | none => rfl
                | some wv =>
                  cases ey : g.getD y none with
                  | some _ => rfl
                  | none => rw [ex, ey] at hc; cases hc
              rw [← g4, List.foldl_cons, eg]
        · rintro g ⟨g1', g2, _, g4⟩
          refine ⟨g, rfl, g1', g2, fun p hp => e3 p (List.mem_cons_of_mem _ hp), ?_⟩
          rw [← e4, List.foldl_cons, ← g4]; rfl
      · rintro f' ⟨e1, e2, _, e4⟩
        exact ⟨f', rfl, e1, e2, by rw [← f3, List.foldl_cons, ← e4]; rfl⟩
    · rintro f ⟨_, _, f3⟩
      have f3 : f = growM ties br f0 := f3
      subst f3
      exact ⟨_, back_dat (back_dat (back_own 2 rfl back_nil)), qq⟩
end
end Wk

set_option Elab.async false
set_option linter.all false
set_option maxRecDepth 100000
set_option maxHeartbeats 1000000
namespace Wk
open PySem PySem.Spec PyProof.Rows L2 NdefX DL
abbrev webD (n : Nat) (ties : Ties) (cells : List (List Int)) : DL.D := .tuple [.int n, tieD ties, mT cells]
theorem brFold_mem : ∀ (l : List ((Nat × Nat) × Nat)) (st : List Nat × List Nat), ∀ i ∈ (l.foldl brStep st).2, i ∈ st.2 ∨ i ∈ l.map (·.2)
  | [], st, i, h => .inl h
  | p :: l, st, i, h => by
    rcases brFold_mem l (brStep st p) i h with q | q
    · unfold brStep at q
      split at q
      · exact .inl q
      · rcases List.mem_append.mp q with q | q
        · exact .inl q
        · rw [List.mem_singleton.mp q]; exact .inr (by simp)
    · exact .inr (by rw [List.map_cons]; exact List.mem_cons_of_mem _ q)
theorem brFold_len : ∀ (l : List ((Nat × Nat) × Nat)) (st : List Nat × List Nat), (l.foldl brStep st).2.length ≤ st.2.length + l.length
  | [], st => Nat.le_refl _
  | p :: l, st => by
    have h := brFold_len l (brStep st p)
    have h2 : (brStep st p).2.length ≤ st.2.length + 1 := by unfold brStep; split <;> simp
    rw [List.foldl_cons, List.length_cons]; omega
theorem brM_lt {n : Nat} {ties : Ties} : ∀ i ∈ brM n ties, i < ties.length := fun i h => by
  rcases brFold_mem _ _ i h with q | q
  · cases q
  · obtain ⟨p, hp, e⟩ := List.mem_map.mp q
    have h2 := List.mem_zipIdx_iff_getElem?.mp hp
    rw [← e]
    exact (List.getElem?_eq_some_iff.mp h2).1
theorem brM_len {n : Nat} {ties : Ties} : (brM n ties).length ≤ ties.length := by
  have := brFold_len ties.zipIdx (List.range n, [])
  unfold brM
  simpa using this
theorem otM_lt {n : Nat} {ties : Ties} : ∀ i ∈ otM n ties, i < ties.length := fun i h => List.mem_range.mp (List.mem_filter.mp h).1
theorem otM_len {n : Nat} {ties : Ties} : (otM n ties).length ≤ ties.length := by
  have := List.length_filter_le (fun i => !(brM n ties).contains i) (List.range ties.length)
  rwa [List.length_range] at this
theorem growOne_length (ties : Ties) (f : Ways) (i : Nat) : (growOne ties f i).length = f.length := by
  unfold growOne; split <;> simp [growAt_length]
theorem growFold_length (ties : Ties) : ∀ (l : List Nat) (f : Ways), (l.foldl (growOne ties) f).length = f.length
  | [], f => rfl
  | i :: l, f => (growFold_length ties l _).trans (growOne_length ties f i)
theorem growM_length (ties : Ties) (br : List Nat) (f : Ways) : (growM ties br f).length = f.length := by
  unfold growM
  have : ∀ (l : List Nat) (f : Ways), (l.foldl (fun f _ => br.foldl (growOne ties) f) f).length = f.length := by
    intro l
    induction l with
    | nil => intro f; rfl
    | cons a t ih => intro f; rw [List.foldl_cons, ih, growFold_length]
  exact this br f
theorem Wfit.one {ties : Ties} {f : Ways} (h : Wfit f) (i : Nat) : Wfit (growOne ties f i) := by
  unfold growOne; split
  · exact h.at.at
  · exact h
theorem Wfit.grow {ties : Ties} {br : List Nat} {f : Ways} (h : Wfit f) : Wfit (growM ties br f) := by
  unfold growM
  have h1 : ∀ (l : List Nat) (f : Ways), Wfit f → Wfit (l.foldl (growOne ties) f) := by
    intro l
    induction l with
    | nil => intro f h; exact h
    | cons a t ih => intro f h; exact ih _ (h.one a)
  have : ∀ (l : List Nat) (f : Ways), Wfit f → Wfit (l.foldl (fun f _ => br.foldl (growOne ties) f) f) := by
    intro l
    induction l with
    | nil => intro f h; exact h
    | cons a t ih => intro f h; exact ih _ (h1 br f h)
  exact this br f h
def wayAt (n : Nat) (ties : Ties) (v : Nat) : List Int := ((waysM n ties).getD v none).getD []
def ringOf (n : Nat) (ties : Ties) (i : Nat) : List Int := onM (addedM [1, -1] [wayAt n ties (ties.getD i (0, 0)).1, wayAt n ties (ties.getD i (0, 0)).2] ties.length) i 1
def ringM (n : Nat) (ties : Ties) : List (List Int) := (otM n ties).map (ringOf n ties)
/-- a web whose places all have ways -/
structure WebOk (n : Nat) (ties : Ties) : Prop where
  n1 : n ≤ 900
  k1 : ties.length ≤ 900
  en : Ends n ties
  wl : (waysM n ties).length = n
  ws : ∀ v, v < n → (waysM n ties).getD v none = some (wayAt n ties v)
  wk : ∀ v, v < n → (wayAt n ties v).length = ties.length
section
variable {P : Program} {w : World} {K : DL.Frag} {mg : Str → Option Value} {base : Heap} {T : List NTab} {f : Addr} {fd : FuncData} {C : Addr}
abbrev pWays : List DL.D → List DL.D → Prop := fun ds r => ∃ ties, ∃ n : Nat, ds = [.int n, tieD ties] ∧ (n ≤ 900 ∧ ties.length ≤ 900 ∧ Ends n ties) ∧ r = (waysM n ties).map optT
theorem ways_ok (b : Blt mg) (GN : Df P w K mg base T 1 "nothing" ["size"] (SP 1 pNothing)) (GB : Df P w K mg base T 1 "branches_of" ["places", "ties"] (SL 2 pBr)) (GG : Df P w K mg base T 2 "grown_ways" ["ties", "branches", "found"] sGrow) (F : Fd K mg "ways_from_roots" 41 f fd) : Df P w K mg base T 3 "ways_from_roots" ["places", "ties"] (SL 2 pWays) :=
  dl_ok F.fn F.mg (bn_ways_from_roots F) sc_ways_from_roots rfl fun cdv A outer s H E hr B ds r hn h => by
    obtain ⟨ties, n, rfl, ⟨h1, h2, h3⟩, rfl⟩ := h
    have nd := nd_ways_from_roots
    refine bl_cons <| bs_setN nd (i := 2) rfl (.inl rfl) <| dn_rep <| dn_lst <| dd_cons <| de_non <| dd_nil ⟨by simp, dv 0 rfl ⟨_, rfl, ⟨by omega, by omega, by simp⟩, fun l nm nm2 => ?_⟩⟩
    have e0 : (List.replicate (n : Int).toNat [PyData.none]).flatten = (List.replicate n (none : Option (List Int))).map optT := by
      rw [flat_one, Int.toNat_natCast, List.map_replicate]; rfl
    rw [e0]
    refine bl_cons <| bs_forJ (β := Ways) PassesOwn.never rfl (mn 3) (g1 nd 3) [3] (List.range n) (fun i => .int ((0 : Int) + (i : Nat))) (fun f => [.dat (.int n), .dat (tieD ties), .own l (f.map optT), .non])
      (fun rest f => f.length = n ∧ Wfit f ∧ (∀ i ∈ rest, i < n) ∧ rest.foldl (wayStep n ties) f = waysM n ties)
      <| di_range1 rfl b.range <| dv 0 rfl ⟨_, rfl, by omega, rfl, ⟨List.replicate n none, rfl, by simp, fun w hw => (by have := List.eq_of_mem_replicate hw; cases this), fun i hi => List.mem_range.mp hi, rfl⟩, fun _ => trivial, ?_, ?_⟩
    · rintro i rest f ⟨f1, f2, f3, f4⟩
      show BL _ _ _ _ _
      rw [Int.zero_add]
      have f1 : f.length = n := f1
      have hi : i < f.length := by rw [f1]; exact f3 i List.mem_cons_self
      refine bl_one <| bs_if <| dt_isN <| xv 2 rfl rfl <| dv 3 rfl ⟨_, rfl, rfl, _, way_at hi, fun c1 => ?_, fun c1 => bl_nil ?_⟩
      · rw [isNone_opt] at c1
        have e : f.getD i none = none := by cases e : f.getD i none with
          | none => rfl
          | some _ => rw [e] at c1; cases c1
        refine bl_cons <| bs_asg mono_s (gs 2) <| de_callP GN (hr.mono (by decide)) rfl <| dd_cons <| de_len rfl b.len <| sv 1 rfl rfl <| dd_nil ⟨rfl, _, ⟨ties.length, by rw [List.length_map], by omega, rfl⟩, ⟨_, _, rfl⟩, dv 3 rfl ⟨_, rfl, l, _, i, rfl, ixN_nat (by rw [List.length_map]; exact hi), ?_⟩⟩
        refine bl_as (Δ' := [.dat (.int n), .dat (tieD ties), .own l ((f.set i (some (zerR ties.length))).map optT), .dat (.int i)]) (by rw [List.map_set]; rfl) ?_
        have w2 : Wfit (f.set i (some (zerR ties.length))) := fun u hu => by
          rcases List.mem_or_eq_of_mem_set hu with q | q
          · exact f2 u q
          · rw [Option.some.inj q, zerR_length]; omega
        refine bl_one <| bs_expr <| de_callM GG sGrow_mono (hr.mono (by decide)) rfl <| da_d <| dv 1 rfl <| da_d <| de_new <| dn_callL GB (hr.mono (by decide)) rfl <| dd_cons <| dv 0 rfl <| dd_cons <| dv 1 rfl <| dd_nil ⟨rfl, _, ⟨ties, n, rfl, ⟨by omega, by omega, h3⟩, rfl⟩, am 2 rfl <| da_nil ⟨by simp [slotsOf], rfl, l, ties, brM n ties, f.set i (some (zerR ties.length)), rfl, ⟨by omega, by have := brM_len (n := n) (ties := ties); omega, by rw [List.length_set, f1]; omega, by rw [List.length_set, f1]; exact h3, w2, brM_lt⟩, rfl, _, rfl, ?_⟩⟩
        have es : wayStep n ties f i = growM ties (brM n ties) (f.set i (some (zerR ties.length))) := by unfold wayStep; rw [e]
        exact ⟨wayStep n ties f i, by rw [es]; rfl, by rw [es, growM_length, List.length_set]; exact f1, by rw [es]; exact w2.grow, fun j hj => f3 j (List.mem_cons_of_mem _ hj), f4⟩
      · rw [isNone_opt] at c1
        have es : wayStep n ties f i = f := by
          unfold wayStep
          cases e : f.getD i none with
          | none => rw [e] at c1; cases c1
          | some _ => rfl
        exact ⟨f, rfl, f1, f2, fun j hj => f3 j (List.mem_cons_of_mem _ hj), by rw [← f4, List.foldl_cons, es]⟩
    · rintro f ⟨_, _, _, f4⟩
      exact bl_one <| bs_retO (i := 2) rfl (.inl rfl) rfl nm ⟨l, by rw [← f4]; rfl⟩
abbrev pRing : List DL.D → DL.D → Prop := fun ds r => ∃ d ties cells, ∃ n : Nat, ds = [d] ∧ (fit 3 d ∧ tupD d = webD n ties cells ∧ WebOk n ties) ∧ r = mT (ringM n ties)
theorem ring_rows_ok (b : Blt mg) (GT : Df P w K mg base T 4 "tupled" ["matter"] (SP 1 (pTup 3))) (GW : Df P w K mg base T 3 "ways_from_roots" ["places", "ties"] (SL 2 pWays)) (GO : Df P w K mg base T 2 "other_ties" ["places", "ties"] (SL 2 pOt))
    (GA : Df P w K mg base T 2 "rows_added" ["times", "rows", "size"] (SP 3 pAdded)) (GS : Df P w K mg base T 1 "stepped_on" ["way", "number", "many"] (SP 3 pOn)) (F : Fd K mg "ring_rows" 44 f fd) : Df P w K mg base T 5 "ring_rows" ["web"] (SP 1 pRing) :=
  dp_ok F.fn F.mg (bn_ring_rows F) sc_ring_rows rfl fun cdv A outer s H E hr B ds r hn h => by
    obtain ⟨d, ties, cells, n, rfl, ⟨h1, h2, W⟩, rfl⟩ := h
    have nd := nd_ring_rows
    have hk := W.k1
    have hn1 := W.n1
    refine bl_cons <| bs_asg (mono_3 (mn 1) (mn 2) (mn 3)) (dg_3 rfl (mn 1) (mn 2) (mn 3) (g1 nd 1) (g1 nd 2) (g1 nd 3)) <| de_callP GT (hr.mono (by decide)) rfl <| dd_cons <| dv 0 rfl <| dd_nil ⟨rfl, _, ⟨d, rfl, h1, rfl⟩, _, _, _, h2, ?_⟩
    refine bl_cons <| bs_par2 (i := 4) (j := 5) rfl nd rfl rfl (by decide) rfl rfl (da_d <| de_new <| dn_callL GW (hr.mono (by decide)) rfl <| dd_cons <| dv 1 rfl <| dd_cons <| dv 2 rfl <| dd_nil ⟨rfl, _, ⟨ties, n, rfl, ⟨W.n1, W.k1, W.en⟩, rfl⟩, da_n <| dn_lst <| dd_nil ⟨by simp, fun l => da_nil ⟨_, _, rfl, trivial, trivial, fun nm => ?_⟩⟩⟩) (by rfl)
    refine bl_cons <| bs_forJ (β := List (List Int)) PassesOwn.never rfl (mn 6) (g1 nd 6) [6, 7, 8, 9] (otM n ties) (fun i => .int (i : Nat)) (fun fo => [.dat d, .dat (.int n), .dat (tieD ties), .dat (mT cells), .dat (.list ((waysM n ties).map optT)), .own l (fo.map iT), .non, .non, .non, .non])
      (fun rest fo => (∀ i ∈ rest, i < ties.length) ∧ fo.length + rest.length ≤ 900 ∧ fo ++ rest.map (ringOf n ties) = ringM n ties)
      <| di_new <| dn_callL GO (hr.mono (by decide)) rfl <| dd_cons <| dv 1 rfl <| dd_cons <| dv 2 rfl <| dd_nil ⟨rfl, _, ⟨ties, n, rfl, ⟨by omega, by omega, W.en⟩, rfl⟩, rfl, ⟨[], rfl, otM_lt, by have := otM_len (n := n) (ties := ties); simp; omega, rfl⟩, fun _ => trivial, ?_, ?_⟩
    · rintro i rest fo ⟨f1, f2, f3⟩
      have f2 : fo.length + (rest.length + 1) ≤ 900 := f2
      have hi : i < ties.length := f1 i List.mem_cons_self
      obtain ⟨⟨a, t⟩, ht⟩ : ∃ p, ties[i]? = some p := ⟨_, List.getElem?_eq_getElem hi⟩
      obtain ⟨ha, ht'⟩ := W.en _ (List.mem_of_getElem? ht)
      have ha : a < n := ha
      have ht' : t < n := ht'
      refine bl_cons <| bs_asg (mono_2 (mn 7) (mn 8)) (dg_2 rfl (mn 7) (mn 8) (g1 nd 7) (g1 nd 8)) <| de_ixT (fun _ _ => rfl) <| dv 2 rfl ⟨_, rfl, dv 6 rfl ⟨_, rfl, _, tie_at ht, _, _, rfl, ?_⟩⟩
      have wa : atI ((waysM n ties).map optT) (a : Int) = some (iT (wayAt n ties a)) := by rw [way_at (by rw [W.wl]; exact ha), W.ws a ha]; rfl
      have wt : atI ((waysM n ties).map optT) (t : Int) = some (iT (wayAt n ties t)) := by rw [way_at (by rw [W.wl]; exact ht'), W.ws t ht']; rfl
      refine bl_cons <| bs_set nd (i := 9) rfl (.inl rfl) <| de_callP GA (hr.mono (by decide)) rfl <| dd_cons <| de_tup <| dd_cons <| de_int <| dd_cons <| de_neg <| de_int ⟨_, rfl, dd_nil ⟨by simp, dd_cons <| de_tup <| dd_cons <| xv 4 rfl rfl <| dv 7 rfl ⟨_, rfl, rfl, _, wa, dd_cons <| xv 4 rfl rfl <| dv 8 rfl ⟨_, rfl, rfl, _, wt, dd_nil ⟨by simp, dd_cons <| de_len rfl b.len <| sv 2 rfl rfl <| dd_nil ⟨rfl, _, ⟨_, _, true, true, [1, -1], [wayAt n ties a, wayAt n ties t], ties.length, by rw [List.length_map], ⟨rfl, rfl, by omega, by simp, ?_⟩, rfl⟩, ?_⟩⟩⟩⟩⟩⟩
      · intro p hp
        simp only [List.zip_cons_cons, List.zip_nil_left, List.mem_cons, List.not_mem_nil, or_false] at hp
        rcases hp with rfl | rfl
        · exact ⟨by show (wayAt n ties a).length ≤ 1000; rw [W.wk a ha]; omega, fun x _ => .of_right (show Builtin.Int.intBits (1 : Int) ≤ 64 by decide)⟩
        · exact ⟨by show (wayAt n ties t).length ≤ 1000; rw [W.wk t ht']; omega, fun x _ => .of_right (show Builtin.Int.intBits (-1 : Int) ≤ 64 by decide)⟩
      · have hl : (addedM [1, -1] [wayAt n ties a, wayAt n ties t] ties.length).length ≤ 1000 := by
          have : (addedM [1, -1] [wayAt n ties a, wayAt n ties t] ties.length) = addR (addR (zerR ties.length) (scal (wayAt n ties a) 1)) (scal (wayAt n ties t) (-1)) := rfl
          rw [this, addR_length, addR_length, zerR_length]; omega
        refine bl_one <| ap 5 ⟨_, _, rfl⟩ <| de_callP GS (hr.mono (by decide)) rfl <| dd_cons <| dv 9 rfl <| dd_cons <| dv 6 rfl <| dd_cons <| de_int <| dd_nil ⟨rfl, _, ⟨_, 1, i, rfl, hl, rfl⟩, l, _, rfl, by rw [List.length_map]; omega, ?_⟩
        have er : ringOf n ties i = onM (addedM [1, -1] [wayAt n ties a, wayAt n ties t] ties.length) i 1 := by
          unfold ringOf
          rw [List.getD_eq_getElem?_getD, ht]; rfl
        refine ⟨fo ++ [ringOf n ties i], by rw [List.map_append, er]; rfl, fun j hj => f1 j (List.mem_cons_of_mem _ hj), by rw [List.length_append]; show fo.length + 1 + rest.length ≤ 900; omega, by rw [← f3, List.map_cons]; simp⟩
    · rintro fo ⟨_, _, f3⟩
      have f3 : fo = ringM n ties := by rw [← f3]; simp
      subst f3
      exact bl_one <| bs_ret <| de_tuple rfl b.tuple <| sv 5 rfl rfl rfl
end
end Wk

set_option Elab.async false
set_option linter.all false
set_option maxRecDepth 100000
set_option maxHeartbeats 1000000
namespace Wk
open PySem PySem.Spec PyProof.Rows L2 NdefX DL
def overM (n : Nat) (ties : Ties) (cells : List (List Int)) : List (List Int) := cells.map fun c => (otM n ties).map fun i => c.getD i 0
/-- the heights: hours of the places, or none -/
def foundM (n : Nat) (ties : Ties) (z : Int) (hs : List Int) : List Int := (List.range n).map fun v => roundM (dotM (wayAt n ties v) hs) z
def tieOk (fo : List Int) (z : Int) (p : (Nat × Nat) × Int) : Bool := decide (roundM (fo.getD p.1.2 0 - fo.getD p.1.1 0 - p.2) z = 0)
def heightsM (n : Nat) (ties : Ties) (z : Int) (hs : List Int) : Option (List Int) := if (ties.zip hs).all (tieOk (foundM n ties z hs) z) then some (foundM n ties z hs) else none
theorem anyz (xs : List Int) (h : ∀ x ∈ xs, x = 0) : (xs.any fun n => n != 0) = false := by
  rw [List.any_eq_false]
  intro x hx
  simp [h x hx]
section
variable {P : Program} {w : World} {K : DL.Frag} {mg : Str → Option Value} {base : Heap} {T : List NTab} {f : Addr} {fd : FuncData} {C : Addr}
abbrev pSure : List DL.D → DL.D → Prop := fun ds r => ∃ d e ties cells row, ∃ n : Nat, ds = [d, e] ∧ (fit 3 d ∧ tupD d = webD n ties cells ∧ fit 3 e ∧ tupD e = iT row ∧ n ≤ 900 ∧ ties.length ≤ 900 ∧ Ends n ties ∧ ∀ x ∈ bordM n ties row, x = 0) ∧ r = .tuple [webD n ties cells, iT row]
theorem sure_ring_ok (b : Blt mg) (GT : Df P w K mg base T 4 "tupled" ["matter"] (SP 1 (pTup 3))) (GB : Df P w K mg base T 1 "border_of" ["places", "ties", "row"] (SP 3 pBord)) (F : Fd K mg "sure_ring" 45 f fd) : Df P w K mg base T 5 "sure_ring" ["web", "ring"] (SP 2 pSure) :=
  dp_ok F.fn F.mg (bn_sure_ring F) sc_sure_ring rfl fun cdv A outer s H E hr B ds r hn h => by
    obtain ⟨d, e, ties, cells, row, n, rfl, ⟨h1, h2, h3, h4, h5, h6, h7, h8⟩, rfl⟩ := h
    have nd := nd_sure_ring
    refine bl_cons <| bs_par2 (i := 2) (j := 3) rfl nd rfl rfl (by decide) rfl rfl (da_d <| de_callP GT (hr.mono (by decide)) rfl <| dd_cons <| dv 0 rfl <| dd_nil ⟨rfl, _, ⟨d, rfl, h1, rfl⟩, da_d <| de_callP GT (hr.mono (by decide)) rfl <| dd_cons <| dv 1 rfl <| dd_nil ⟨rfl, _, ⟨e, rfl, h3, rfl⟩, da_nil ⟨_, _, rfl, trivial, trivial, fun _ => ?_⟩⟩⟩) (by rfl)
    rw [h2, h4]
    refine bl_cons <| bs_if <| dt_val <| de_anyT rfl rfl b.any <| de_callP GB (hr.mono (by decide)) rfl <| dd_cons <| de_ixT (fun _ _ => rfl) <| dv 2 rfl ⟨_, rfl, de_int ⟨_, rfl, .int n, rfl, dd_cons <| de_ixT (fun _ _ => rfl) <| dv 2 rfl ⟨_, rfl, de_int ⟨_, rfl, tieD ties, rfl, dd_cons <| dv 3 rfl <| dd_nil ⟨rfl, _, ⟨ties, row, n, rfl, ⟨by omega, by omega, h7⟩, rfl⟩, _, rfl, _, rfl, fun hc => ?_, fun hc => bl_nil ?_⟩⟩⟩⟩⟩
    · rw [anyz _ h8] at hc; cases hc
    · exact bl_one <| bs_ret <| de_tup <| dd_cons <| dv 2 rfl <| dd_cons <| dv 3 rfl <| dd_nil ⟨by simp, rfl⟩
abbrev pFill : List DL.D → Option DL.D → Prop := fun ds o => ∃ d e ties cells row res, ∃ n : Nat, ds = [d, e] ∧ (fit 3 d ∧ tupD d = webD n ties cells ∧ fit 3 e ∧ tupD e = iT row ∧ n ≤ 900 ∧ ties.length ≤ 900 ∧ Ends n ties ∧ (∀ x ∈ bordM n ties row, x = 0) ∧ row.length ≤ 400 ∧ cells.length ≤ 400 ∧ Wd row.length cells ∧ TimesR cells row res) ∧ o = res.map iT
theorem filling_ok (GR : Df P w K mg base T 5 "sure_ring" ["web", "ring"] (SP 2 pSure)) (GM : Dx P w K mg base T C 5 "made_by" ["rows", "row"] 2 pMadeX) (F : Fd K mg "filling" 46 f fd) : Dx P w K mg base T C 6 "filling" ["web", "ring"] 2 pFill :=
  dx_ok F.fn F.mg (bn_filling F) sc_filling rfl fun cdv A outer s H E hr B ds o hn h hx => by
    obtain ⟨d, e, ties, cells, row, res, n, rfl, ⟨h1, h2, h3, h4, h5, h6, h7, h8, h9, h10, h11, h12⟩, rfl⟩ := h
    have nd := nd_filling
    have tk : Takes (cxX P w K mg base N_filling "filling" (defScope (Hd.top 46)) f cdv A outer s H E) (fun cls d _ H => E cls d H) := takes_of rfl rfl rfl rfl
    refine bl_cons <| bs_asg (mono_2 (mn 2) (mn 3)) (dg_2 rfl (mn 2) (mn 3) (g1 nd 2) (g1 nd 3)) <| de_callP GR (hr.mono (by decide)) rfl <| dd_cons <| dv 0 rfl <| dd_cons <| dv 1 rfl <| dd_nil ⟨rfl, _, ⟨d, e, ties, cells, row, n, rfl, ⟨h1, h2, h3, h4, h5, h6, h7, h8⟩, rfl⟩, _, _, rfl, ?_⟩
    exact bl_one <| bs_retX GM tk (hr.mono (by decide)) rfl <| dd_cons <| de_ixT (fun _ _ => rfl) <| dv 2 rfl ⟨_, rfl, de_int ⟨_, rfl, mT cells, rfl, dd_cons <| dv 3 rfl <| dd_nil ⟨rfl, _, ⟨cells, row, res, rfl, ⟨h9, h10, h11, h12⟩, rfl⟩, fun r e => ⟨r, e, rfl⟩, fun e σ B H L G => hx e _ σ B H L G⟩⟩⟩
abbrev pHasF : List DL.D → DL.D → Prop := fun ds r => ∃ o, pFill ds o ∧ r = .bool o.isSome
theorem law_has_filling_ok (xN : ExN K mg "NoPaper" C) (GF : Dx P w K mg base T C 6 "filling" ["web", "ring"] 2 pFill) (F : Fd K mg "_law_has_filling" 79 f fd) : Df P w K mg base T 7 "_law_has_filling" ["_law_web_here", "_law_ring"] (SP 2 pHasF) :=
  dp_ok F.fn F.mg (bn_law_has_filling F) sc_law_has_filling rfl fun cdv A outer s H E hr B ds r hn h => by
    obtain ⟨o, hp, rfl⟩ := h
    have hp' := hp
    obtain ⟨d, e, _, _, _, _, _, rfl, _⟩ := hp'
    refine bl_cons <| bs_try1 (fun Δ' => Δ' = [.dat d, .dat e] ∧ o = none) rfl rfl xN rfl (fun W pn xe tk po wc => ?_) fun a oe pn Δ' ⟨e1, e2⟩ => ?_
    · refine bl_one <| bs_exprX GF tk (hr.mono (by decide)) rfl <| dd_cons <| dv 0 rfl <| dd_cons <| dv 1 rfl <| dd_nil ⟨rfl, o, hp, fun r e => ?_, fun e σ B H L G => wc _ σ B H ⟨rfl, e⟩ L G⟩
      exact bl_one <| bs_ret <| de_bl (by rw [e]; rfl)
    · subst e1 e2
      exact bl_one <| bs_ret <| de_bl rfl
abbrev pOver : List DL.D → DL.D → Prop := fun ds r => ∃ ties cells, ∃ n : Nat, ds = [webD n ties cells] ∧ (n ≤ 900 ∧ ties.length ≤ 900 ∧ Ends n ties ∧ cells.length ≤ 900 ∧ Wd ties.length cells) ∧ r = .tuple [mT (overM n ties cells), .int (otM n ties).length]
theorem cells_over_ok (b : Blt mg) (GO : Df P w K mg base T 2 "other_ties" ["places", "ties"] (SL 2 pOt)) (F : Fd K mg "cells_over" 47 f fd) : Df P w K mg base T 3 "cells_over" ["web"] (SP 1 pOver) :=
  dp_ok F.fn F.mg (bn_cells_over F) sc_cells_over rfl fun cdv A outer s H E hr B ds r hn h => by
    obtain ⟨ties, cells, n, rfl, ⟨h1, h2, h3, h4, h5⟩, rfl⟩ := h
    have nd := nd_cells_over
    have hol := otM_len (n := n) (ties := ties)
    refine bl_cons <| bs_asg (mono_3 (mn 1) (mn 2) (mn 3)) (dg_3 rfl (mn 1) (mn 2) (mn 3) (g1 nd 1) (g1 nd 2) (g1 nd 3)) <| dv 0 rfl ⟨_, _, _, rfl, ?_⟩
    refine bl_cons <| bs_set nd (i := 4) rfl (by first | exact .inl rfl | exact .inr rfl) <| de_new <| dn_callL GO (hr.mono (by decide)) rfl <| dd_cons <| dv 1 rfl <| dd_cons <| dv 2 rfl <| dd_nil ⟨rfl, _, ⟨ties, n, rfl, ⟨by omega, by omega, h3⟩, rfl⟩, ?_⟩
    have eo : cells.map (fun c => iT ((otM n ties).map fun i => c.getD i 0)) = (overM n ties cells).map iT := by rw [overM, List.map_map]; rfl
    refine bl_one <| bs_ret <| de_tup <| dd_cons <| de_tuple rfl b.tuple <| ds_new <| n_lc nd [("cell", 5)] (fun _ _ _ _ _ => g1 nd 5) (mn 5) <| di_tup <| dv 3 rfl ⟨_, rfl, lc_map cells iT (fun c => iT ((otM n ties).map fun i => c.getD i 0)) _ rfl trivial rfl (mn 5)
      (fun c hc s H C cl fp => de_tuple rfl b.tuple <| ds_new <| n_lc nd [("number", 6)] (fun _ _ _ _ _ => g1 nd 6) (mn 6) <| di_lst <| dv 4 rfl ⟨_, rfl, lc_map (otM n ties) (fun i => .int (i : Nat)) (fun i => .int (c.getD i 0)) _ rfl trivial rfl (mn 6)
        (fun i hi s H C cl fp => de_ixT (fun _ _ => rfl) <| dv 5 rfl ⟨_, rfl, dv 6 rfl ⟨_, rfl, _, int_at (by rw [h5 c hc]; exact otM_lt i hi), rfl, rfl⟩⟩) (by omega) ⟨by rw [iT, List.map_map]; rfl, rfl⟩⟩) (by omega) (dd_cons <| de_len rfl b.len <| sv 4 rfl rfl <| dd_nil ⟨by simp, by rw [List.length_map]; exact congrArg (fun l => En.dat (.tuple [.tuple l, .int (otM n ties).length])) eo⟩)⟩
abbrev pHeights : List DL.D → Option DL.D → Prop := fun ds o => ∃ d e ties cells hs, ∃ (n : Nat) (z : Int), ds = [d, .int z, e] ∧ (fit 3 d ∧ tupD d = webD n ties cells ∧ WebOk n ties ∧ fit 3 e ∧ tupD e = iT hs ∧ hs.length ≤ 900 ∧ ∀ v, v < n → MulAll (wayAt n ties v) hs) ∧ o = (heightsM n ties z hs).map iT
theorem heights_on_ok (b : Blt mg) (xN : ExN K mg "NoPaper" C) (GT : Df P w K mg base T 4 "tupled" ["matter"] (SP 1 (pTup 3))) (GW : Df P w K mg base T 3 "ways_from_roots" ["places", "ties"] (SL 2 pWays)) (GS : Df P w K mg base T 1 "shown" ["row", "other"] (SP 2 pShown)) (GR : Df P w K mg base T 1 "round_by" ["number", "size"] (SP 2 pRound))
    (F : Fd K mg "heights_on" 49 f fd) : Dx P w K mg base T C 5 "heights_on" ["web", "size", "hours"] 3 pHeights :=
  dx_ok F.fn F.mg (bn_heights_on F) sc_heights_on rfl fun cdv A outer s H E hr B ds o hn h hx => by
    obtain ⟨d, e, ties, cells, hs, n, z, rfl, ⟨h1, h2, W, h3, h4, h5, h6⟩, rfl⟩ := h
    have nd := nd_heights_on
    have hk := W.k1
    have hn1 := W.n1
    have tk : Takes (cxX P w K mg base N_heights_on "heights_on" (defScope (Hd.top 49)) f cdv A outer s H E) (fun cls d _ H => E cls d H) := takes_of rfl rfl rfl rfl
    refine bl_cons <| bs_asg (mono_3 (mn 3) (mn 4) (mn 5)) (dg_3 rfl (mn 3) (mn 4) (mn 5) (g1 nd 3) (g1 nd 4) (g1 nd 5)) <| de_callP GT (hr.mono (by decide)) rfl <| dd_cons <| dv 0 rfl <| dd_nil ⟨rfl, _, ⟨d, rfl, h1, rfl⟩, _, _, _, h2, ?_⟩
    refine bl_cons <| bs_set nd (i := 6) rfl (by first | exact .inl rfl | exact .inr rfl) <| de_callP GT (hr.mono (by decide)) rfl <| dd_cons <| dv 2 rfl <| dd_nil ⟨rfl, _, ⟨e, rfl, h3, rfl⟩, ?_⟩
    rw [h4]
    have ew : (waysM n ties).map optT = ((List.range n).map fun v => iT (wayAt n ties v)) := by
      apply List.ext_getElem?
      intro i
      rw [List.getElem?_map, List.getElem?_map]
      by_cases hi : i < n
      · rw [List.getElem?_range hi]
        have q := W.ws i hi
        rw [List.getD_eq_getElem?_getD] at q
        cases e : (waysM n ties)[i]? with
        | none => rw [e] at q; cases q
        | some o => rw [e] at q; rw [show o = _ from q]; rfl
      · rw [List.getElem?_eq_none (by rw [W.wl]; omega), List.getElem?_eq_none (by rw [List.length_range]; omega)]; rfl
    have efm : (foundM n ties z hs).map PyData.int = (List.range n).map fun v => PyData.int (roundM (dotM (wayAt n ties v) hs) z) := by rw [foundM, List.map_map]; rfl
    refine bl_cons <| bs_lc (i := 7) (own := [("way", 11)]) rfl nd rfl rfl (by rfl) (blkOk_by (by kernel_rfl)) (.inl rfl) (mn 11) (fun _ _ _ _ _ => g1 nd 11) (by decide) <| di_new <| dn_callL GW (hr.mono (by decide)) rfl <| dd_cons <| dv 3 rfl <| dd_cons <| dv 4 rfl <| dd_nil ⟨rfl, _, ⟨ties, n, rfl, ⟨hn1, hk, W.en⟩, rfl⟩, lc_map (List.range n) (fun v => iT (wayAt n ties v)) (fun v => .int (roundM (dotM (wayAt n ties v) hs) z)) _ rfl trivial ew (mn 11)
      (fun v hv s H C cl fp => de_callP GR (hr.mono (by decide)) rfl <| dd_cons <| de_callP GS (hr.mono (by decide)) rfl <| dd_cons <| dv 11 rfl <| dd_cons <| dv 6 rfl <| dd_nil ⟨rfl, _, ⟨_, _, rfl, ⟨by rw [W.wk v (List.mem_range.mp hv)]; omega, h6 v (List.mem_range.mp hv)⟩, rfl⟩, dd_cons <| dv 1 rfl <| dd_nil ⟨rfl, _, ⟨_, _, rfl, rfl⟩, rfl, rfl⟩⟩) (by simp; omega) ?_⟩
    rw [← efm]
    have hfl : (foundM n ties z hs).length = n := by simp [foundM]
    refine bl_cons <| bs_forJ (β := Unit) (passes_of rfl) rfl (mono_2 (mono_2 (mn 8) (mn 9)) (mn 10)) (dg_2 rfl (mono_2 (mn 8) (mn 9)) (mn 10) (dg_2 rfl (mn 8) (mn 9) (g1 nd 8) (g1 nd 9)) (g1 nd 10)) [8, 9, 10, 11] (ties.zip hs) (fun p => .tuple [tieD1 p.1, .int p.2]) (fun _ => [.dat d, .dat (.int z), .dat e, .dat (.int n), .dat (tieD ties), .dat (mT cells), .dat (iT hs), .dat (iL (foundM n ties z hs)), .non, .non, .non, .non])
      (fun rest _ => (∀ p ∈ rest, p.1.1 < n ∧ p.1.2 < n) ∧ rest.all (tieOk (foundM n ties z hs) z) = (ties.zip hs).all (tieOk (foundM n ties z hs) z))
      <| di_zip rfl b.zip <| dv 4 rfl ⟨_, _, rfl, dv 6 rfl ⟨_, _, rfl, zipD_ties ties hs, ⟨(), rfl, fun p hp => W.en p.1 (List.of_mem_zip (show (p.1, p.2) ∈ _ from hp)).1, rfl⟩, fun _ => trivial, ?_, ?_⟩⟩
    · rintro ⟨⟨a, t⟩, m⟩ rest _ ⟨f1, f2⟩
      obtain ⟨l1, l2⟩ := f1 _ List.mem_cons_self
      have l1 : a < (foundM n ties z hs).length := by rw [hfl]; exact l1
      have l2 : t < (foundM n ties z hs).length := by rw [hfl]; exact l2
      refine ⟨_, _, rfl, ⟨_, _, rfl, ?_⟩⟩
      refine bl_one <| bs_if <| dt_ne hr.units <| de_callP GR (hr.mono (by decide)) rfl <| dd_cons <| de_sub <| de_sub <| de_ixL (fun _ _ => rfl) <| dv 7 rfl ⟨_, rfl, dv 9 rfl ⟨_, rfl, _, int_at l2, _, rfl, de_ixL (fun _ _ => rfl) <| dv 7 rfl ⟨_, rfl, dv 8 rfl ⟨_, rfl, _, int_at l1, _, rfl, _, rfl, dv 10 rfl ⟨_, rfl, dd_cons <| dv 1 rfl <| dd_nil ⟨rfl, _, ⟨_, _, rfl, rfl⟩, de_int ⟨rfl, rfl, fun hc => ?_, fun hc => bl_nil ?_⟩⟩⟩⟩⟩⟩⟩
      · rw [eqi] at hc
        have ho : (heightsM n ties z hs).map iT = none := by
          unfold heightsM
          have : ((ties.zip hs).all (tieOk (foundM n ties z hs) z)) = false := by
            rw [← f2, List.all_cons]
            have : tieOk (foundM n ties z hs) z ((a, t), m) = false := by
              unfold tieOk
              simpa using hc
            rw [this]; rfl
          rw [this]; rfl
        exact bl_one <| bs_raise xN tk rfl rfl fun σ B H L G => hx ho _ σ B H L G
      · rw [eqi] at hc
        refine ⟨(), rfl, fun p hp => f1 p (List.mem_cons_of_mem _ hp), ?_⟩
        rw [← f2, List.all_cons]
        have : tieOk (foundM n ties z hs) z ((a, t), m) = true := by
          unfold tieOk
          simpa using hc
        rw [this]; rfl
    · rintro _ ⟨_, f2⟩
      have f2 : true = (ties.zip hs).all (tieOk (foundM n ties z hs) z) := f2
      refine bl_one <| bs_ret <| de_tuple rfl b.tuple <| sv 7 rfl rfl ⟨iT (foundM n ties z hs), ?_, rfl⟩
      unfold heightsM
      rw [← f2]; rfl
abbrev pHeard : List DL.D → DL.D → Prop := fun ds r => ∃ o, pHeights ds o ∧ r = o.getD (.list [.str "none", .bool true])
theorem law_heard_ok (b : Blt mg) (xN : ExN K mg "NoPaper" C) (GH : Dx P w K mg base T C 5 "heights_on" ["web", "size", "hours"] 3 pHeights) (F : Fd K mg "_law_heard" 78 f fd) : Df P w K mg base T 6 "_law_heard" ["_law_web_here", "_law_size", "_law_hours_here"] (SP 3 pHeard) :=
  dp_ok F.fn F.mg (bn_law_heard F) sc_law_heard rfl fun cdv A outer s H E hr B ds r hn h => by
    obtain ⟨o, hp, rfl⟩ := h
    have hp' := hp
    obtain ⟨d, e, _, _, _, _, z, rfl, _⟩ := hp'
    have nd := nd_law_heard
    refine bl_one <| bs_try2 (i := 3) (fun Δ' => Δ' = [.dat d, .dat (.int z), .dat e, .non] ∧ o = none) rfl rfl xN rfl nd rfl rfl rfl b.isinstance rfl b.ValueError (fun W pn xe tk po wc => ?_) (fun Δ' ⟨e1, _⟩ => by rw [e1]; exact Nat.lt_succ_self 3) fun Δ' ⟨e1, e2⟩ => by rw [e2]; rfl
    exact bl_one <| bs_retX GH tk (hr.mono (by decide)) rfl <| dd_cons <| dv 0 rfl <| dd_cons <| dv 1 rfl <| dd_cons <| dv 2 rfl <| dd_nil ⟨rfl, o, hp, fun r e => by rw [e]; rfl, fun e σ B H L G => wc _ σ B H ⟨rfl, e⟩ L G⟩
end
end Wk

set_option Elab.async false
set_option linter.all false
set_option maxRecDepth 100000
set_option maxHeartbeats 1000000
namespace Wk
open PySem PySem.Spec PyProof.Rows L2 NdefX DL
abbrev M3 := List (List Int) × List (List Int) × List (List Int)
/-- one turn at a corner: done?, the table, what turned it -/
def turnM (a m n : Nat) (R L Q : List (List Int)) : Option (Bool × M3) := match spotM R a with
  | none => none
  | some (_, i, j) => if i < m ∧ j < n then
      match clearM a (List.range (n - (a + 1))) (swapM (colsM (swapM R a i) n) a j) (swapM Q a j) with
      | none => none
      | some (C2, Q2) => match clearM a (List.range (m - (a + 1))) (colsM C2 m) (swapM L a i) with
        | none => none
        | some (R3, L2) => if ent R3 a a = 0 then none else if allZero R3 a && allZero C2 a then
            match oddM R3 a with
            | none => some (true, R3, L2, Q2)
            | some o => some (false, takeM R3 o a (-1), takeM L2 o a (-1), Q2)
          else some (false, R3, L2, Q2)
    else none
def cornerM (a m n : Nat) : Nat → M3 → Option M3
  | 0, _ => none
  | f + 1, (R, L, Q) => match turnM a m n R L Q with
    | none => none
    | some (true, X) => some X
    | some (false, X) => cornerM a m n f X
def negR (xs : List Int) : List Int := xs.map fun x => -x
def signM (a : Nat) (R L : List (List Int)) : List (List Int) × List (List Int) := if ent R a a < 0 then (R.set a (negR (R.getD a [])), L.set a (negR (L.getD a []))) else (R, L)
/-- fuel of a corner, corners at most -/
def diagM (f m n : Nat) : Nat → Nat → M3 → Option (Nat × M3)
  | 0, a, X => if a < m ∧ a < n ∧ (spotM X.1 a).isSome then none else some (a, X)
  | g + 1, a, X => if a < m ∧ a < n ∧ (spotM X.1 a).isSome then
      match cornerM a m n f X with
      | none => none
      | some (R, L, Q) => diagM f m n g (a + 1) ((signM a R L).1, (signM a R L).2, Q)
    else some (a, X)
theorem swapM_map {α β : Type} (g : α → β) (xs : List α) (i j : Nat) : swapM (xs.map g) i j = (swapM xs i j).map g := by
  unfold swapM
  rw [List.getElem?_map, List.getElem?_map]
  cases xs[i]? with
  | none => rfl
  | some x => cases xs[j]? with
    | none => rfl
    | some y => show ((xs.map g).set i (g y)).set j (g x) = ((xs.set i y).set j x).map g; rw [List.map_set, List.map_set]
theorem swapM_length {α : Type} (xs : List α) (i j : Nat) : (swapM xs i j).length = xs.length := by
  unfold swapM; split <;> simp
theorem swapM_mem {α : Type} {xs : List α} {i j : Nat} {x : α} (h : x ∈ swapM xs i j) : x ∈ xs := by
  unfold swapM at h
  split at h
  · rename_i u v e1 e2
    rcases List.mem_or_eq_of_mem_set h with h | h
    · rcases List.mem_or_eq_of_mem_set h with h | h
      · exact h
      · rw [h]; exact List.mem_of_getElem? e2
    · rw [h]; exact List.mem_of_getElem? e1
  · exact h
theorem Mat.swap {R : List (List Int)} {m n i j : Nat} (M : Mat R m n) : Mat (swapM R i j) m n := ⟨by rw [swapM_length]; exact M.len, fun r hr => M.row r (swapM_mem hr)⟩
theorem Mat.cols {R : List (List Int)} {m n k : Nat} (M : Mat R m n) : Mat (colsM R k) k m := ⟨by simp [colsM], fun r hr => by
  obtain ⟨i, _, rfl⟩ := List.mem_map.mp hr
  rw [List.length_map, M.len]⟩
theorem clearM_mat {a m n n2 : Nat} : ∀ {is : List Nat} {R S R' S' : List (List Int)}, clearM a is R S = some (R', S') → Mat R m n → Mat S m n2 → a < m → (∀ i ∈ is, i < m - (a + 1)) → Mat R' m n ∧ Mat S' m n2
  | [], R, S, R', S', h, M1, M2, _, _ => by cases h; exact ⟨M1, M2⟩
  | i :: is, R, S, R', S', h, M1, M2, ha, hi => by
    unfold clearM at h
    have hi0 : a + 1 + i < m := by have := hi i List.mem_cons_self; omega
    split at h
    · exact clearM_mat h (M1.take ha hi0) (M2.take ha hi0) ha fun j hj => hi j (List.mem_cons_of_mem _ hj)
    · cases h
theorem oddM_lt {R : List (List Int)} {a o : Nat} (h : oddM R a = some o) : o < R.length := by
  unfold oddM at h
  cases e : (List.range (R.length - (a + 1))).find? (oddRow R a) with
  | none => rw [e] at h; cases h
  | some i =>
    rw [e] at h
    have := List.mem_range.mp (List.mem_of_find?_eq_some e)
    have h : some (a + 1 + i) = some o := h
    cases h
    omega
theorem Mat.neg {R : List (List Int)} {m n a : Nat} (M : Mat R m n) (ha : a < m) : Mat (R.set a (negR (R.getD a []))) m n := ⟨by rw [List.length_set]; exact M.len, fun r hr => by
  rcases List.mem_or_eq_of_mem_set hr with h | h
  · exact M.row r h
  · rw [h, negR, List.length_map, M.rowD ha]⟩
theorem Mat.sign {R L : List (List Int)} {m n a : Nat} (M : Mat R m n) (M2 : Mat L m m) (ha : a < m) : Mat (signM a R L).1 m n ∧ Mat (signM a R L).2 m m := by
  unfold signM
  split
  · exact ⟨M.neg ha, M2.neg ha⟩
  · exact ⟨M, M2⟩
structure Mats (m n : Nat) (X : M3) : Prop where
  r : Mat X.1 m n
  l : Mat X.2.1 m m
  q : Mat X.2.2 n n
theorem turnM_mats {a m n : Nat} {R L Q : List (List Int)} {c : Bool} {Y : M3} (h : turnM a m n R L Q = some (c, Y)) (M : Mats m n (R, L, Q)) (ha : a < m) (hb : a < n) : Mats m n Y := by
  unfold turnM at h
  split at h
  · cases h
  · rename_i q0 i j hs
    split at h
    · split at h
      · cases h
      · rename_i C2 Q2 hc
        obtain ⟨c1, c2⟩ := clearM_mat hc (M.r.swap.cols.swap) M.q.swap hb fun i hi => List.mem_range.mp hi
        split at h
        · cases h
        · rename_i R3 L2 hc2
          obtain ⟨d1, d2⟩ := clearM_mat hc2 c1.cols M.l.swap ha fun i hi => List.mem_range.mp hi
          split at h
          · cases h
          · split at h
            · split at h
              · cases h; exact ⟨d1, d2, c2⟩
              · rename_i o ho
                have := oddM_lt ho
                cases h; exact ⟨d1.take (by rw [← d1.len]; exact this) ha, d2.take (by rw [← d1.len]; exact this) ha, c2⟩
            · cases h; exact ⟨d1, d2, c2⟩
    · cases h
theorem cornerM_mats {a m n : Nat} (ha : a < m) (hb : a < n) : ∀ {f : Nat} {X Y : M3}, cornerM a m n f X = some Y → Mats m n X → Mats m n Y
  | 0, _, _, h, _ => by cases h
  | f + 1, (R, L, Q), Y, h, M => by
    unfold cornerM at h
    split at h
    · cases h
    · rename_i X e; cases h; exact turnM_mats e M ha hb
    · rename_i X e; exact cornerM_mats ha hb h (turnM_mats e M ha hb)
section
variable {P : Program} {w : World} {K : DL.Frag} {mg : Str → Option Value} {base : Heap} {T : List NTab} {f : Addr} {fd : FuncData} {C : Addr}
def sCorner : SD := fun as k => ∃ l1 l2 l3 R L Q, ∃ a m n fu : Nat, ∃ Y, as = [.own l1 (R.map iL), .own l2 (L.map iL), .own l3 (Q.map iL), .dat (.int a)] ∧ (Mats m n (R, L, Q) ∧ a < m ∧ a < n ∧ m ≤ 900 ∧ n ≤ 900 ∧ cornerM a m n fu (R, L, Q) = some Y) ∧
  ∀ l', k (.own l' (Y.1.map iL)) [.non, .own l2 (Y.2.1.map iL), .own l3 (Y.2.2.map iL), .dat (.int a)]
theorem sCorner_mono : SMono sCorner := fun as k k' ⟨l1, l2, l3, R, L, Q, a, m, n, fu, Y, e, h, q⟩ w => ⟨l1, l2, l3, R, L, Q, a, m, n, fu, Y, e, h, fun l' => w _ _ (q l')⟩
theorem corner_made_ok (b : Blt mg) (GL : Df P w K mg base T 1 "least_spot" ["rows", "at"] (SP 2 pSpot)) (GE : Df P w K mg base T 1 "exchanged" ["rows", "one", "other"] sExch) (GT : Df P w K mg base T 2 "turned_about" ["rows", "size"] sTurn) (GC : Df P w K mg base T 2 "cleared" ["rows", "beside", "at"] sClear)
    (GO : Df P w K mg base T 1 "first_odd" ["rows", "at"] (SP 2 pOdd)) (GK : Df P w K mg base T 1 "taken_from" ["rows", "at", "from_row", "often"] sTaken) (F : Fd K mg "corner_made" 28 f fd) : Df P w K mg base T 3 "corner_made" ["rows", "left", "right", "at"] sCorner :=
  df_ok F.fn F.mg (bn_corner_made F) sc_corner_made (fun as k ⟨l1, l2, l3, R, L, Q, a, m, n, fu, Y, e, _⟩ => by rw [e]; rfl) fun cdv A outer s H E hr B as k ⟨l1, l2, l3, R, L, Q, a, m, n, fu, Y, e, ⟨M0, h1, h2, h3, h4, h5⟩, qq⟩ => by
    subst e
    have nd := nd_corner_made
    have hR0 : 0 < R.length := by rw [M0.r.len]; omega
    refine bl_cons <| bs_set nd (i := 4) rfl (.inl rfl) <| de_len rfl b.len <| ds_lst <| xv 0 rfl rfl <| de_int ⟨_, rfl, rfl, _, row_at (i := 0) hR0, _, rfl, ?_⟩
    rw [List.length_map, M0.r.rowD (i := 0) (by omega)]
    refine bl_one <| bs_whileJ (β := Nat × Addr × M3) PassesOwn.never [5, 6, 7, 8] (fun st => [.own st.2.1 (st.2.2.1.map iL), .own l2 (st.2.2.2.1.map iL), .own l3 (st.2.2.2.2.map iL), .dat (.int a), .dat (.int n), .non, .non, .non, .non])
      (fun st => Mats m n st.2.2 ∧ cornerM a m n st.1 st.2.2 = some Y) (·.1) ⟨(fu, l1, R, L, Q), rfl, M0, h5⟩ ?_
    rintro ⟨g, lr, R, L, Q⟩ ⟨M, hc⟩
    have M : Mats m n (R, L, Q) := M
    have hc : cornerM a m n g (R, L, Q) = some Y := hc
    refine dt_val (de_bl ⟨_, rfl, fun _ => ?_, fun z => nomatch z⟩)
    cases g with
    | zero => cases hc
    | succ g =>
      unfold cornerM at hc
      obtain ⟨c, Z, ht, hZ⟩ : ∃ c Z, turnM a m n R L Q = some (c, Z) ∧ ((c = true ∧ Z = Y) ∨ (c = false ∧ cornerM a m n g Z = some Y)) := by
        split at hc
        · cases hc
        · rename_i X e; exact ⟨_, _, e, .inl ⟨rfl, Option.some.inj hc⟩⟩
        · rename_i X e; exact ⟨_, _, e, .inr ⟨rfl, hc⟩⟩
      have MZ := turnM_mats ht M h1 h2
      unfold turnM at ht
      split at ht
      · cases ht
      rename_i q0 i j hs
      split at ht
      case isFalse => cases ht
      rename_i hij
      split at ht
      · cases ht
      rename_i C2 Q2 hcl
      split at ht
      · cases ht
      rename_i R3 L2 hcl2
      split at ht
      · cases ht
      rename_i hpiv
      have hRl : R.length = m := M.r.len
      have hLl : L.length = m := M.l.len
      have hQl : Q.length = n := M.q.len
      have MR1 : Mat (swapM R a i) m n := M.r.swap
      have MC : Mat (colsM (swapM R a i) n) n m := MR1.cols
      have MC1 : Mat (swapM (colsM (swapM R a i) n) a j) n m := MC.swap
      obtain ⟨MC2, MQ2⟩ := clearM_mat hcl MC1 M.q.swap h2 fun i hi => List.mem_range.mp hi
      have MR2 : Mat (colsM C2 m) m n := MC2.cols
      obtain ⟨MR3, ML2⟩ := clearM_mat hcl2 MR2 M.l.swap h1 fun i hi => List.mem_range.mp hi
      refine bl_cons <| bs_asg (mono_2 (mn 5) (mn 6)) (dg_2 rfl (mn 5) (mn 6) (g1 nd 5) (g1 nd 6)) <| de_callL GL SP.mono (hr.mono (by decide)) rfl <| am 0 rfl <| da_d <| dv 3 rfl <| da_nil ⟨rfl, [_, _], _, rfl, rfl, ⟨R, a, m, n, rfl, ⟨M.r, by omega, by omega⟩, rfl⟩, _, rfl, by rw [hs]; rfl, ?_⟩
      rw [hs]
      refine ⟨_, _, rfl, ?_⟩
      refine bl_cons <| bs_expr <| de_callM GE sExch_mono (hr.mono (by decide)) rfl <| am 0 rfl <| da_d <| dv 3 rfl <| da_d <| dv 5 rfl <| da_nil ⟨by simp [slotsOf], rfl, lr, R.map iL, a, i, rfl, ⟨by rw [List.length_map]; omega, by rw [List.length_map]; omega⟩, rfl, _, rfl, ?_⟩
      rw [swapM_map]
      refine bl_cons <| bs_expr <| de_callM GE sExch_mono (hr.mono (by decide)) rfl <| am 1 rfl <| da_d <| dv 3 rfl <| da_d <| dv 5 rfl <| da_nil ⟨by simp [slotsOf], rfl, l2, L.map iL, a, i, rfl, ⟨by rw [List.length_map]; omega, by rw [List.length_map]; omega⟩, rfl, _, rfl, ?_⟩
      rw [swapM_map]
      refine bl_cons <| bs_setN nd (i := 0) rfl (.inl rfl) <| dn_callM GT sTurn_mono (hr.mono (by decide)) rfl <| am 0 rfl <| da_d <| dv 4 rfl <| da_nil ⟨by simp [slotsOf], rfl, lr, swapM R a i, n, rfl, ⟨by omega, by rw [MR1.len]; omega, fun r hr' => by rw [MR1.row r hr']; omega⟩, fun l' => ⟨rfl, l', _, rfl, fun la nma1 nma2 => ?_⟩⟩
      refine bl_cons <| bs_expr <| de_callM GE sExch_mono (hr.mono (by decide)) rfl <| am 0 rfl <| da_d <| dv 3 rfl <| da_d <| dv 6 rfl <| da_nil ⟨by simp [slotsOf], rfl, la, (colsM (swapM R a i) n).map iL, a, j, rfl, ⟨by rw [List.length_map, MC.len]; omega, by rw [List.length_map, MC.len]; omega⟩, rfl, _, rfl, ?_⟩
      rw [swapM_map]
      refine bl_cons <| bs_expr <| de_callM GE sExch_mono (hr.mono (by decide)) rfl <| am 2 rfl <| da_d <| dv 3 rfl <| da_d <| dv 6 rfl <| da_nil ⟨by simp [slotsOf], rfl, l3, Q.map iL, a, j, rfl, ⟨by rw [List.length_map]; omega, by rw [List.length_map]; omega⟩, rfl, _, rfl, ?_⟩
      rw [swapM_map]
      refine bl_cons <| bs_set nd (i := 7) rfl (.inl rfl) <| de_callM GC sClear_mono (hr.mono (by decide)) rfl <| am 0 rfl <| am 2 rfl <| da_d <| dv 3 rfl <| da_nil ⟨by simp [slotsOf], rfl, la, l3, swapM (colsM (swapM R a i) n) a j, swapM Q a j, a, n, m, n, C2, Q2, rfl, ⟨MC1, M.q.swap, h2, h1, by omega, by omega, by omega, hcl⟩, rfl, _, rfl, ?_⟩
      refine bl_cons <| bs_setN nd (i := 0) rfl (.inl rfl) <| dn_callM GT sTurn_mono (hr.mono (by decide)) rfl <| am 0 rfl <| da_d <| de_len rfl b.len <| sv 1 rfl rfl <| da_nil ⟨by simp [slotsOf], rfl, la, C2, m, by rw [List.length_map, swapM_length, hLl]; rfl, ⟨by omega, by rw [MC2.len]; omega, fun r hr' => by rw [MC2.row r hr']; omega⟩, fun l' => ⟨rfl, l', _, rfl, fun lb nmb1 nmb2 => ?_⟩⟩
      refine bl_one <| bs_if <| DT.mono (Q := fun t Δ' => t = (allZero R3 a && allZero C2 a) ∧ Δ' = [.own lb (R3.map iL), .own l2 (L2.map iL), .own l3 (Q2.map iL), .dat (.int a), .dat (.int n), .dat (.int i), .dat (.int j), .dat (.bool (allZero C2 a)), .non]) (dw_dt <| dw_and <| dt_val <| de_callM GC sClear_mono (hr.mono (by decide)) rfl <| am 0 rfl <| am 1 rfl <| da_d <| dv 3 rfl <| da_nil ⟨by simp [slotsOf], rfl, lb, l2, colsM C2 m, swapM L a i, a, m, n, m, R3, L2, rfl, ⟨MR2, M.l.swap, h1, h2, by omega, by omega, by omega, hcl2⟩, rfl, _, rfl, _, rfl, fun c1 => dw_and1 <| dt_val <| dv 7 rfl ⟨_, rfl, by rw [c1]; rfl, rfl⟩, fun c1 => ⟨by rw [c1]; rfl, rfl⟩⟩) fun t Δ' ⟨et, eΔ⟩ => ?_
      subst et eΔ
      refine ⟨fun hz => ?_, fun hz => bl_nil ?_⟩
      · rw [if_pos hz] at ht
        have lo : R3.length = m := MR3.len
        refine bl_cons <| bs_set nd (i := 8) rfl (.inl rfl) <| de_callL GO SP.mono (hr.mono (by decide)) rfl <| am 0 rfl <| da_d <| dv 3 rfl <| da_nil ⟨rfl, [_, _], _, rfl, rfl, ⟨R3, a, m, n, rfl, ⟨MR3, by omega, by omega, h1, h2, hpiv⟩, rfl⟩, _, rfl, by cases oddM R3 a <;> rfl, ?_⟩
        split at ht
        · rename_i ho
          cases ht
          rw [ho]
          refine bl_cons <| bs_if <| dt_isN <| dv 8 rfl ⟨fun _ => ?_, fun z => nomatch z⟩
          have hY : Y = (R3, L2, Q2) := by
            rcases hZ with ⟨_, e⟩ | ⟨e, _⟩
            · exact e.symm
            · cases e
          subst hY
          exact bl_one <| bs_retO (i := 0) rfl (.inl rfl) rfl nmb1 ⟨_, back_non (back_own 1 rfl (back_own 2 rfl (back_dat back_nil))), qq lb⟩
        · rename_i o ho
          cases ht
          rw [ho]
          have hlt : o < m := by have := oddM_lt ho; omega
          refine bl_cons <| bs_if <| dt_isN <| dv 8 rfl ⟨(fun z => nomatch z), fun _ => bl_nil ?_⟩
          refine bl_cons <| bs_expr <| de_callM GK sTaken_mono (hr.mono (by decide)) rfl <| am 0 rfl <| da_d <| dv 8 rfl <| da_d <| dv 3 rfl <| da_d <| de_neg <| de_int ⟨_, rfl, da_nil ⟨by simp [slotsOf], rfl, lb, R3, o, a, -1, rfl, ⟨by rw [lo]; exact hlt, by rw [lo]; exact h1, by rw [MR3.rowD h1]; omega, fun y _ => .of_left (show Builtin.Int.intBits (-1 : Int) ≤ 64 by decide)⟩, rfl, _, rfl, ?_⟩⟩
          refine bl_one <| bs_expr <| de_callM GK sTaken_mono (hr.mono (by decide)) rfl <| am 1 rfl <| da_d <| dv 8 rfl <| da_d <| dv 3 rfl <| da_d <| de_neg <| de_int ⟨_, rfl, da_nil ⟨by simp [slotsOf], rfl, l2, L2, o, a, -1, rfl, ⟨by rw [ML2.len]; exact hlt, by rw [ML2.len]; exact h1, by rw [ML2.rowD h1]; omega, fun y _ => .of_left (show Builtin.Int.intBits (-1 : Int) ≤ 64 by decide)⟩, rfl, _, rfl, ?_⟩⟩
          rcases hZ with ⟨e, _⟩ | ⟨_, hc2⟩
          · cases e
          · exact ⟨(g, lb, _), rfl, ⟨MZ, hc2⟩, Nat.lt_succ_self g⟩
      · rw [if_neg (by rw [hz]; exact Bool.false_ne_true)] at ht
        cases ht
        rcases hZ with ⟨e, _⟩ | ⟨_, hc2⟩
        · cases e
        · exact ⟨(g, lb, _), rfl, ⟨MZ, hc2⟩, Nat.lt_succ_self g⟩
end
end Wk

set_option Elab.async false
set_option linter.all false
set_option maxRecDepth 100000
set_option maxHeartbeats 1000000
namespace Wk
open PySem PySem.Spec PyProof.Rows L2 NdefX DL
theorem tup_iL (xs : List Int) : tupD (iL xs) = iT xs := by
  rw [iL, tupD, tupDs_map, List.map_map]
  congr 1
theorem tup_mL (rows : List (List Int)) : tupD (.list (rows.map iL)) = mT rows := by
  rw [tupD, tupDs_map, List.map_map]
  congr 1
  exact List.map_congr_left fun r _ => tup_iL r
theorem fit_mL {rows : List (List Int)} (h : rows.length ≤ 1000) (h2 : ∀ r ∈ rows, r.length ≤ 1000) : fit 2 (.list (rows.map iL)) := fun t ds e => by
  cases e
  exact ⟨by simpa using h, fun x hx => by
    obtain ⟨i, hi, rfl⟩ := List.mem_map.mp hx
    intro t ds e
    cases e
    exact ⟨by simpa using h2 i hi, fun x hx => by obtain ⟨i, _, rfl⟩ := List.mem_map.mp hx; rfl⟩⟩
theorem unitsM_mat (n : Nat) : Mat (unitsM n) n n := ⟨unitsM_length n, fun r hr => by
  obtain ⟨i, _, rfl⟩ := List.mem_map.mp hr
  exact oneAt_length _ _⟩
/-- a table's diagonal: fuel, corners -/
def DiagR (m n : Nat) (tab : List (List Int)) (a : Nat) (R L Q : List (List Int)) : Prop := ∃ f g, diagM f m n g 0 (tab, unitsM m, unitsM n) = some (a, R, L, Q)
def stepsM (a : Nat) (R : List (List Int)) : List Int := (List.range a).map fun p => ent R p p
theorem diagM_mats {f m n : Nat} : ∀ {g a : Nat} {X : M3} {b : Nat} {Y : M3}, diagM f m n g a X = some (b, Y) → Mats m n X → a ≤ m → a ≤ n → Mats m n Y ∧ b ≤ m ∧ b ≤ n
  | 0, a, X, b, Y, h, M, h1, h2 => by
    unfold diagM at h
    split at h
    · cases h
    · cases h; exact ⟨M, h1, h2⟩
  | g + 1, a, X, b, Y, h, M, h1, h2 => by
    unfold diagM at h
    split at h
    · rename_i hc
      split at h
      · cases h
      · rename_i R L Q e
        have M2 := cornerM_mats hc.1 hc.2.1 e M
        obtain ⟨s1, s2⟩ := Mat.sign M2.r M2.l hc.1
        exact diagM_mats h ⟨s1, s2, M2.q⟩ hc.1 hc.2.1
    · cases h; exact ⟨M, h1, h2⟩
section
variable {P : Program} {w : World} {K : DL.Frag} {mg : Str → Option Value} {base : Heap} {T : List NTab} {f : Addr} {fd : FuncData} {C : Addr}
abbrev pDiag : List DL.D → DL.D → Prop := fun ds r => ∃ tab R L Q, ∃ a m n : Nat, ds = [mT tab] ∧ (Mat tab m n ∧ 0 < m ∧ m ≤ 900 ∧ n ≤ 900 ∧ DiagR m n tab a R L Q) ∧ r = .tuple [mT L, iT (stepsM a R), mT (colsM Q n)]
theorem spotD_none (s : Spot) : isNoneD (spotR s) = !s.isSome := by cases s with
  | none => rfl
  | some p => obtain ⟨_, _, _⟩ := p; rfl
theorem diagonal_ok (b : Blt mg) (GU : Df P w K mg base T 2 "units" ["size"] (SP 1 pUnits)) (GL : Df P w K mg base T 1 "least_spot" ["rows", "at"] (SP 2 pSpot)) (GC : Df P w K mg base T 3 "corner_made" ["rows", "left", "right", "at"] sCorner) (GT : Df P w K mg base T 4 "tupled" ["matter"] (SP 1 (pTup 3)))
    (GO : Df P w K mg base T 1 "columns" ["rows", "size"] (SP 2 pCols)) (F : Fd K mg "diagonal" 29 f fd) : Df P w K mg base T 5 "diagonal" ["table"] (SP 1 pDiag) :=
  dp_ok F.fn F.mg (bn_diagonal F) sc_diagonal rfl fun cdv A outer s H E hr B ds r hn h => by
    obtain ⟨tab, R', L', Q', a', m, n, rfl, ⟨M0, h0, h1, h2, fu, gg, hd⟩, rfl⟩ := h
    have nd := nd_diagonal
    have hl : tab.length = m := M0.len
    refine bl_cons <| bs_setN nd (i := 1) rfl (by first | exact .inl rfl | exact .inr rfl) <| n_lc nd [("row", 7)] (fun _ _ _ _ _ => g1 nd 7) (mn 7) <| di_tup <| dv 0 rfl ⟨_, rfl, lc_map tab iT iL _ rfl trivial rfl (mn 7) (fun r hr' s H C cl fp => de_new <| dn_list rfl b.list <| ds_tup <| dv 7 rfl ⟨_, rfl, rfl, rfl⟩) (by omega) fun lr nm1 nm2 => ?_⟩
    refine bl_cons <| bs_par2 (i := 2) (j := 3) rfl nd rfl rfl (by decide) rfl rfl (da_d <| de_len rfl b.len <| sv 1 rfl rfl <| da_d <| de_len rfl b.len <| ds_lst <| xv 1 rfl rfl <| de_int ⟨_, rfl, rfl, _, row_at (i := 0) (by omega), _, rfl, da_nil ⟨_, _, rfl, trivial, trivial, fun _ => ?_⟩⟩) (by rfl)
    rw [List.length_map, List.length_map, hl, M0.rowD (i := 0) h0]
    refine bl_cons <| bs_par3 (i := 4) (j := 5) (k := 6) rfl nd rfl rfl rfl (by decide) (by decide) (by decide) rfl rfl rfl (da_n <| n_lc nd [("row", 7)] (fun _ _ _ _ _ => g1 nd 7) (mn 7) <| di_tup <| de_callP GU (hr.mono (by decide)) rfl <| dd_cons <| dv 2 rfl <| dd_nil ⟨rfl, _, ⟨m, rfl, by omega, rfl⟩, _, rfl, lc_map (unitsM m) iT iL _ rfl trivial rfl (mn 7) (fun r hr' s H C cl fp => de_new <| dn_list rfl b.list <| ds_tup <| dv 7 rfl ⟨_, rfl, rfl, rfl⟩) (by rw [unitsM_length]; omega) fun l2 =>
      da_n <| n_lc nd [("row", 7)] (fun _ _ _ _ _ => g1 nd 7) (mn 7) <| di_tup <| de_callP GU (hr.mono (by decide)) rfl <| dd_cons <| dv 3 rfl <| dd_nil ⟨rfl, _, ⟨n, rfl, by omega, rfl⟩, _, rfl, lc_map (unitsM n) iT iL _ rfl trivial rfl (mn 7) (fun r hr' s H C cl fp => de_new <| dn_list rfl b.list <| ds_tup <| dv 7 rfl ⟨_, rfl, rfl, rfl⟩) (by rw [unitsM_length]; omega) fun l3 =>
      da_d <| de_int <| da_nil ⟨_, _, _, rfl, trivial, trivial, trivial, fun _ _ => ?_⟩⟩⟩) (by rfl)
    refine bl_cons <| bs_whileJ (β := Nat × Nat × Addr × M3) PassesOwn.never [7, 8, 9] (fun st => [.dat (mT tab), .own st.2.2.1 (st.2.2.2.1.map iL), .dat (.int m), .dat (.int n), .own l2 (st.2.2.2.2.1.map iL), .own l3 (st.2.2.2.2.2.map iL), .dat (.int (st.2.1 : Nat)), .non, .non, .non])
      (fun st => Mats m n st.2.2.2 ∧ st.2.1 ≤ m ∧ st.2.1 ≤ n ∧ diagM fu m n st.1 st.2.1 st.2.2.2 = some (a', R', L', Q')) (·.1) ⟨(gg, 0, lr, tab, unitsM m, unitsM n), rfl, ⟨M0, unitsM_mat m, unitsM_mat n⟩, Nat.zero_le _, Nat.zero_le _, hd⟩ ?_
    rintro ⟨g, a, lr, R, L, Q⟩ ⟨M, ha1, ha2, hd⟩
    have M : Mats m n (R, L, Q) := M
    have ha1 : a ≤ m := ha1
    have ha2 : a ≤ n := ha2
    have hd : diagM fu m n g a (R, L, Q) = some (a', R', L', Q') := hd
    refine DT.mono (Q := fun t Δ' => t = decide (a < m ∧ a < n ∧ (spotM R a).isSome = true) ∧ Δ' = [.dat (mT tab), .own lr (R.map iL), .dat (.int m), .dat (.int n), .own l2 (L.map iL), .own l3 (Q.map iL), .dat (.int a), .non, .non, .non])
      (dw_dt <| dw_and <| dt_lt <| dv 6 rfl ⟨_, rfl, dv 2 rfl ⟨_, rfl, fun c1 => dw_and <| dt_lt <| dv 6 rfl ⟨_, rfl, dv 3 rfl ⟨_, rfl, fun c2 => dw_and1 <| dt_notN <| de_callL GL SP.mono (hr.mono (by decide)) rfl <| am 1 rfl <| da_d <| dv 6 rfl <| da_nil ⟨rfl, [_, _], _, rfl, rfl, ⟨R, a, m, n, rfl, ⟨M.r, by omega, by omega⟩, rfl⟩, _, rfl, ?_, ?_, rfl⟩, fun c2 => ⟨?_, rfl⟩⟩⟩, fun c1 => ⟨?_, rfl⟩⟩⟩) fun t Δ' ⟨et, eΔ⟩ => ?_
    · cases spotM R a with
      | none => rfl
      | some p => obtain ⟨_, _, _⟩ := p; rfl
    · rw [spotD_none]
      have c1 : a < m := by have q : (a : Int) < (m : Int) := of_decide_eq_true c1; omega
      have c2 : a < n := by have q : (a : Int) < (n : Int) := of_decide_eq_true c2; omega
      cases spotM R a <;> simp [c1, c2]
    · have c2 : ¬ a < n := by have q : ¬ (a : Int) < (n : Int) := of_decide_eq_false c2; omega
      simp [c2]
    · have c1 : ¬ a < m := by have q : ¬ (a : Int) < (m : Int) := of_decide_eq_false c1; omega
      simp [c1]
    · subst eΔ
      refine ⟨fun ht => ?_, fun hf => ?_⟩
      · have hcon := of_decide_eq_true (et.symm.trans ht)
        cases g with
        | zero => unfold diagM at hd; rw [if_pos hcon] at hd; cases hd
        | succ g =>
          unfold diagM at hd
          rw [if_pos hcon] at hd
          split at hd
          · cases hd
          · rename_i R1 L1 Q1 hc
            have M2 : Mats m n (R1, L1, Q1) := cornerM_mats hcon.1 hcon.2.1 hc M
            refine bl_cons <| bs_setN nd (i := 1) rfl (by first | exact .inl rfl | exact .inr rfl) <| dn_callM GC sCorner_mono (hr.mono (by decide)) rfl <| am 1 rfl <| am 4 rfl <| am 5 rfl <| da_d <| dv 6 rfl <| da_nil ⟨by simp [slotsOf], rfl, lr, l2, l3, R, L, Q, a, m, n, fu, (R1, L1, Q1), rfl, ⟨M, hcon.1, hcon.2.1, h1, h2, hc⟩, fun l' => ⟨rfl, l', _, rfl, fun lb nb1 nb2 => ?_⟩⟩
            have r1 : a < R1.length := by rw [M2.r.len]; exact hcon.1
            have r2 : a < L1.length := by rw [M2.l.len]; exact hcon.1
            have e1 : atI ((R1.getD a []).map PyData.int) (a : Int) = some (.int (ent R1 a a)) := int_at (by rw [M2.r.rowD hcon.1]; exact hcon.2.1)
            obtain ⟨s1, s2⟩ := Mat.sign M2.r M2.l hcon.1
            refine bl_cons <| bs_if <| dt_lt <| de_ixL (fun _ _ => rfl) <| xv 1 rfl rfl <| dv 6 rfl ⟨_, rfl, rfl, _, row_at r1, _, rfl, dv 6 rfl ⟨_, rfl, _, e1, _, rfl, de_int ⟨_, rfl, fun hlt => ?_, fun hge => bl_nil ?_⟩⟩⟩
            · have hlt : ent R1 a a < 0 := of_decide_eq_true hlt
              have es : signM a R1 L1 = (R1.set a (negR (R1.getD a [])), L1.set a (negR (L1.getD a []))) := by unfold signM; rw [if_pos hlt]
              refine bl_one <| bs_asg (mono_2 mono_s mono_s) (dg_2 rfl mono_s mono_s (gs 1) (gs 4)) <| de_tup <| dd_cons <| de_new <| n_lc nd [("bit", 8)] (fun _ _ _ _ _ => g1 nd 8) (mn 8) <| di_lst <| xv 1 rfl rfl <| dv 6 rfl ⟨_, rfl, rfl, _, row_at r1, _, rfl, lc_map (R1.getD a []) .int (fun x => .int (-x)) _ rfl trivial rfl (mn 8) (fun x hx s H C cl fp => de_neg <| dv 8 rfl ⟨_, rfl, rfl, rfl⟩) (by rw [M2.r.rowD hcon.1]; omega)
                (dd_cons <| de_new <| n_lc nd [("bit", 8)] (fun _ _ _ _ _ => g1 nd 8) (mn 8) <| di_lst <| xv 4 rfl rfl <| dv 6 rfl ⟨_, rfl, rfl, _, row_at r2, _, rfl, lc_map (L1.getD a []) .int (fun x => .int (-x)) _ rfl trivial rfl (mn 8) (fun x hx s H C cl fp => de_neg <| dv 8 rfl ⟨_, rfl, rfl, rfl⟩) (by rw [M2.l.rowD hcon.1]; omega) (dd_nil ⟨by simp, _, _, rfl, ⟨_, _, rfl⟩, dv 6 rfl ⟨_, rfl, _, _, _, rfl, ixN_nat (by rw [List.length_map]; exact r1), ⟨_, _, rfl⟩, dv 6 rfl ⟨_, rfl, _, _, _, rfl, ixN_nat (by rw [List.length_map]; exact r2), ?_⟩⟩⟩)⟩)⟩
              have en : ∀ xs : List Int, xs.map (fun x => PyData.int (-x)) = (negR xs).map .int := fun xs => by rw [negR, List.map_map]; rfl
              refine bl_as (Δ' := [.dat (mT tab), .own lb ((signM a R1 L1).1.map iL), .dat (.int m), .dat (.int n), .own l2 ((signM a R1 L1).2.map iL), .own l3 (Q1.map iL), .dat (.int a), .non, .non, .non]) (by rw [es, List.map_set, List.map_set, en, en]; rfl) ?_
              refine bl_one <| bs_augAdd nd (i := 6) rfl (.inl rfl) rfl <| de_int ⟨_, rfl, ?_⟩
              exact ⟨(g, a + 1, lb, (signM a R1 L1).1, (signM a R1 L1).2, Q1), rfl, ⟨⟨s1, s2, M2.q⟩, hcon.1, hcon.2.1, hd⟩, Nat.lt_succ_self g⟩
            · have hge : ¬ ent R1 a a < 0 := of_decide_eq_false hge
              have es : signM a R1 L1 = (R1, L1) := by unfold signM; rw [if_neg hge]
              rw [es] at hd s1 s2
              refine bl_one <| bs_augAdd nd (i := 6) rfl (.inl rfl) rfl <| de_int ⟨_, rfl, ?_⟩
              exact ⟨(g, a + 1, lb, R1, L1, Q1), rfl, ⟨⟨s1, s2, M2.q⟩, hcon.1, hcon.2.1, hd⟩, Nat.lt_succ_self g⟩
      · have hcon : ¬ (a < m ∧ a < n ∧ (spotM R a).isSome = true) := of_decide_eq_false (et.symm.trans hf)
        have hY : a' = a ∧ R' = R ∧ L' = L ∧ Q' = Q := by
          cases g with
          | zero => unfold diagM at hd; rw [if_neg hcon] at hd; cases hd; exact ⟨rfl, rfl, rfl, rfl⟩
          | succ g => unfold diagM at hd; rw [if_neg hcon] at hd; cases hd; exact ⟨rfl, rfl, rfl, rfl⟩
        obtain ⟨rfl, rfl, rfl, rfl⟩ := hY
        refine bl_one <| bs_ret <| de_tup <| dd_cons <| de_callL GT SP.mono (hr.mono (by decide)) rfl <| am 4 rfl <| da_nil ⟨rfl, [.list (L'.map iL)], mT L', rfl, rfl, ⟨_, rfl, fit_up (fit_mL (by rw [M.l.len]; omega) fun r hr' => by rw [M.l.row r hr']; omega), (tup_mL L').symm⟩, _, rfl, noL_mT _, dd_cons <| de_tuple rfl b.tuple <| ds_new <| n_lc nd [("place", 9)] (fun _ _ _ _ _ => g1 nd 9) (mn 9) <| di_range1 rfl b.range <| dv 6 rfl ⟨_, rfl, by omega, lc_map (List.range a') (fun i => .int (0 + (i : Nat))) (fun (i : Nat) => .int (ent R' i i)) _ rfl trivial rfl (mn 9)
          (fun i hi s H C cl fp => ?_) (by simp; omega) (dd_cons <| de_callL GO SP.mono (hr.mono (by decide)) rfl <| am 5 rfl <| da_d <| dv 3 rfl <| da_nil ⟨rfl, [_, _], _, rfl, rfl, ⟨_, Q', n, rfl, ⟨.ll Q', by omega, by rw [M.q.len]; omega, fun r hr' => by rw [M.q.row r hr']; exact Nat.le_refl n⟩, rfl⟩, _, rfl, noL_mT _, dd_nil ⟨by simp, ?_⟩⟩)⟩⟩
        · have hi' := List.mem_range.mp hi
          have q1 : i < m := by omega
          have q2 : i < n := by omega
          rw [Int.zero_add]
          exact de_ixL (fun _ _ => rfl) <| xv 1 rfl rfl <| dv 9 rfl ⟨_, rfl, rfl, _, row_at (by rw [M.r.len]; exact q1), _, rfl, dv 9 rfl ⟨_, rfl, _, int_at (by rw [M.r.rowD q1]; exact q2), rfl, rfl⟩⟩
        · have es : (List.range a').map (fun (i : Nat) => PyData.int (ent R' i i)) = (stepsM a' R').map .int := by rw [stepsM, List.map_map]; rfl
          rw [es]
end
end Wk

set_option Elab.async false
set_option linter.all false
set_option maxRecDepth 100000
set_option maxHeartbeats 1000000
namespace Wk
open PySem PySem.Spec PyProof.Rows L2 NdefX DL
abbrev Lines := List (List Int × List Int)
def lineD (p : List Int × List Int) : DL.D := .tuple [iT p.1, iT p.2]
abbrev wishD (n m : Nat) (lines : Lines) : DL.D := .tuple [.int n, .int m, .tuple (lines.map lineD)]
abbrev worldD (z : Int) (hs : List Int) : DL.D := .tuple [.tuple [.int z], .tuple (hs.map fun h => .tuple [.int h])]
/-- lines of n letters, m hidden ones -/
def LinesOk (n m : Nat) (lines : Lines) : Prop := ∀ p ∈ lines, p.1.length = n ∧ p.2.length = m
def goalM (lines : Lines) (hs : List Int) : List Int := lines.map fun p => dotM p.1 hs
def hidRows (m : Nat) (lines : Lines) (z : Int) : List (List Int) := colsM (lines.map (·.2)) m ++ if 0 < z then (unitsM lines.length).map fun u => scal u z else []
theorem mT_app (a b : List (List Int)) : a.map iT ++ b.map iT = (a ++ b).map iT := List.map_append.symm
section
variable {P : Program} {w : World} {K : DL.Frag} {mg : Str → Option Value} {base : Heap} {T : List NTab} {f : Addr} {fd : FuncData} {C : Addr}
abbrev pSteps : List DL.D → DL.D → Prop := fun ds r => ∃ tab R L Q, ∃ a m n : Nat, ds = [mT tab] ∧ (Mat tab m n ∧ 0 < m ∧ m ≤ 900 ∧ n ≤ 900 ∧ DiagR m n tab a R L Q) ∧ r = iT (stepsM a R)
theorem steps_of_ok (GD : Df P w K mg base T 5 "diagonal" ["table"] (SP 1 pDiag)) (F : Fd K mg "steps_of" 30 f fd) : Df P w K mg base T 6 "steps_of" ["table"] (SP 1 pSteps) :=
  dp_ok F.fn F.mg (bn_steps_of F) sc_steps_of rfl fun cdv A outer s H E hr B ds r hn h => by
    obtain ⟨tab, R, L, Q, a, m, n, rfl, h, rfl⟩ := h
    exact bl_one <| bs_ret <| de_ixT (fun _ _ => rfl) <| de_callP GD (hr.mono (by decide)) rfl <| dd_cons <| dv 0 rfl <| dd_nil ⟨rfl, _, ⟨tab, R, L, Q, a, m, n, rfl, h, rfl⟩, _, rfl, de_int ⟨_, rfl, iT (stepsM a R), rfl, rfl⟩⟩
abbrev pNear : List DL.D → DL.D → Prop := fun ds r => ∃ lines, ∃ n m : Nat, ds = [wishD n m lines] ∧ lines.length ≤ 900 ∧ r = mT (lines.map (·.1))
theorem near_of_ok (b : Blt mg) (F : Fd K mg "near_of" 32 f fd) : Df P w K mg base T 1 "near_of" ["wish"] (SP 1 pNear) :=
  dp_ok F.fn F.mg (bn_near_of F) sc_near_of rfl fun cdv A outer s H E hr B ds r hn h => by
    obtain ⟨lines, n, m, rfl, h1, rfl⟩ := h
    have nd := nd_near_of
    exact bl_one <| bs_ret <| de_tuple rfl b.tuple <| ds_new <| n_lc nd [("near", 1), ("_", 2)] (fun _ _ _ _ _ => dg_2 rfl (mn 1) (mn 2) (g1 nd 1) (g1 nd 2)) (mono_2 (mn 1) (mn 2)) <| di_tup <| de_ixT (fun _ _ => rfl) <| dv 0 rfl ⟨_, rfl, de_int ⟨_, rfl, .tuple (lines.map lineD), rfl, _, rfl, lc_map lines lineD (fun p => iT p.1) _ rfl trivial rfl (mono_2 (mn 1) (mn 2)) (fun p hp => ⟨_, _, rfl, fun s H C cl fp => dv 1 rfl ⟨rfl, rfl⟩⟩) (by omega) (by rw [mT, List.map_map]; rfl)⟩⟩
abbrev pFar : List DL.D → DL.D → Prop := fun ds r => ∃ lines, ∃ n m : Nat, ds = [wishD n m lines] ∧ lines.length ≤ 900 ∧ r = mT (lines.map (·.2))
theorem far_of_ok (b : Blt mg) (F : Fd K mg "far_of" 33 f fd) : Df P w K mg base T 1 "far_of" ["wish"] (SP 1 pFar) :=
  dp_ok F.fn F.mg (bn_far_of F) sc_far_of rfl fun cdv A outer s H E hr B ds r hn h => by
    obtain ⟨lines, n, m, rfl, h1, rfl⟩ := h
    have nd := nd_far_of
    exact bl_one <| bs_ret <| de_tuple rfl b.tuple <| ds_new <| n_lc nd [("_", 1), ("far", 2)] (fun _ _ _ _ _ => dg_2 rfl (mn 1) (mn 2) (g1 nd 1) (g1 nd 2)) (mono_2 (mn 1) (mn 2)) <| di_tup <| de_ixT (fun _ _ => rfl) <| dv 0 rfl ⟨_, rfl, de_int ⟨_, rfl, .tuple (lines.map lineD), rfl, _, rfl, lc_map lines lineD (fun p => iT p.2) _ rfl trivial rfl (mono_2 (mn 1) (mn 2)) (fun p hp => ⟨_, _, rfl, fun s H C cl fp => dv 2 rfl ⟨rfl, rfl⟩⟩) (by omega) (by rw [mT, List.map_map]; rfl)⟩⟩
abbrev pHid : List DL.D → DL.D → Prop := fun ds r => ∃ lines hs res, ∃ (n m : Nat) (z : Int), ds = [wishD n m lines, .int z, iT hs] ∧ (lines.length ≤ 300 ∧ n ≤ 300 ∧ m ≤ 100 ∧ LinesOk n m lines ∧ (∀ p ∈ lines, MulAll p.1 hs) ∧ z.natAbs < 2 ^ 63 ∧ TimesR (hidRows m lines z) (goalM lines hs) res) ∧ r = optT (res.map fun xs => (xs.take m).map fun x => roundM x z)
theorem hidden_for_ok (b : Blt mg) (GN : Df P w K mg base T 1 "near_of" ["wish"] (SP 1 pNear)) (GF : Df P w K mg base T 1 "far_of" ["wish"] (SP 1 pFar)) (GS : Df P w K mg base T 1 "shown" ["row", "other"] (SP 2 pShown)) (GC : Df P w K mg base T 1 "columns" ["rows", "size"] (SP 2 pCols))
    (GM : Df P w K mg base T 1 "row_times" ["row", "times"] (SP 2 pTimes)) (GU : Df P w K mg base T 2 "units" ["size"] (SP 1 pUnits)) (GT : Df P w K mg base T 4 "times_for" ["rows", "row"] (SP 2 pTms)) (GR : Df P w K mg base T 1 "round_by" ["number", "size"] (SP 2 pRound))
    (F : Fd K mg "hidden_for" 34 f fd) : Df P w K mg base T 5 "hidden_for" ["wish", "size", "hours"] (SP 3 pHid) :=
  dp_ok F.fn F.mg (bn_hidden_for F) sc_hidden_for rfl fun cdv A outer s H E hr B ds r hn h => by
    obtain ⟨lines, hs, res, n, m, z, rfl, ⟨h1, h2, h3, h4, h5, h6, h7⟩, rfl⟩ := h
    have nd := nd_hidden_for
    have hgl : (goalM lines hs).length = lines.length := by simp [goalM]
    refine bl_cons <| bs_set nd (i := 3) rfl (by first | exact .inl rfl | exact .inr rfl) <| de_tuple rfl b.tuple <| ds_new <| n_lc nd [("near", 6)] (fun _ _ _ _ _ => g1 nd 6) (mn 6) <| di_tup <| de_callP GN (hr.mono (by decide)) rfl <| dd_cons <| dv 0 rfl <| dd_nil ⟨rfl, _, ⟨lines, n, m, rfl, by omega, rfl⟩, _, rfl, lc_map lines (fun p => iT p.1) (fun p => .int (dotM p.1 hs)) _ rfl trivial (by rw [List.map_map]; rfl) (mn 6)
      (fun p hp s H C cl fp => de_callP GS (hr.mono (by decide)) rfl <| dd_cons <| dv 6 rfl <| dd_cons <| dv 2 rfl <| dd_nil ⟨rfl, _, ⟨p.1, hs, rfl, ⟨by rw [(h4 p hp).1]; omega, h5 p hp⟩, rfl⟩, rfl, rfl⟩) (by omega) ?_⟩
    rw [show (lines.map fun p => PyData.int (dotM p.1 hs)) = (goalM lines hs).map .int by rw [goalM, List.map_map]; rfl]
    refine bl_cons <| bs_set nd (i := 4) rfl (by first | exact .inl rfl | exact .inr rfl) <| de_callP GC (hr.mono (by decide)) rfl <| dd_cons <| de_callP GF (hr.mono (by decide)) rfl <| dd_cons <| dv 0 rfl <| dd_nil ⟨rfl, _, ⟨lines, n, m, rfl, by omega, rfl⟩, dd_cons <| de_ixT (fun _ _ => rfl) <| dv 0 rfl ⟨_, rfl, de_int ⟨_, rfl, .int m, rfl, dd_nil ⟨rfl, _, ⟨_, lines.map (·.2), m, rfl, ⟨.tt _, by omega, by rw [List.length_map]; omega, fun r hr' => ?_⟩, rfl⟩, ?_⟩⟩⟩⟩
    · obtain ⟨p, hp, rfl⟩ := List.mem_map.mp hr'
      rw [(h4 p hp).2]; exact Nat.le_refl m
    have hcl : (colsM (lines.map (·.2)) m).length = m := by simp [colsM]
    have wrow : Wd lines.length (hidRows m lines z) := fun r hr' => by
      unfold hidRows at hr'
      rcases List.mem_append.mp hr' with q | q
      · obtain ⟨i, _, rfl⟩ := List.mem_map.mp q
        simp
      · split at q
        · obtain ⟨u, hu, rfl⟩ := List.mem_map.mp q
          rw [scal_length]; exact (unitsM_mat _).row u hu
        · cases q
    have hlen : (hidRows m lines z).length ≤ 400 := by
      unfold hidRows
      rw [List.length_append, hcl]
      split
      · rw [List.length_map, unitsM_length]; omega
      · simp; omega
    -- the rows
    have fin : BL ⟨T, [wishD n m lines, .int z, iT hs].map .dat, B, H⟩ (cxD P w K mg base N_hidden_for "hidden_for" (defScope (Hd.top 34)) f cdv A outer s H E) [.dat (wishD n m lines), .dat (.int z), .dat (iT hs), .dat (iT (goalM lines hs)), .dat (mT (hidRows m lines z)), .non, .non, .non, .non] ((defBody (Hd.top 34)).drop 3) { nx := fun _ => optT (res.map fun xs => (xs.take m).map fun x => roundM x z) = .none, rt := fun r' _ => r' = .dat (optT (res.map fun xs => (xs.take m).map fun x => roundM x z)) } := by
      refine bl_cons <| bs_set nd (i := 5) rfl (by first | exact .inl rfl | exact .inr rfl) <| de_callP GT (hr.mono (by decide)) rfl <| dd_cons <| dv 4 rfl <| dd_cons <| dv 3 rfl <| dd_nil ⟨rfl, _, ⟨_, _, res, rfl, ⟨by rw [hgl]; omega, hlen, by rw [hgl]; exact wrow, h7⟩, rfl⟩, ?_⟩
      refine bl_one <| bs_ret <| de_if <| dt_isN <| dv 5 rfl ⟨fun hN => ?_, fun hN => ?_⟩
      · cases res with
        | none => exact de_non rfl
        | some xs => cases hN
      · cases res with
        | none => cases hN
        | some xs =>
          refine de_tuple rfl b.tuple <| ds_new <| n_lc nd [("hour", 8)] (fun _ _ _ _ _ => g1 nd 8) (mn 8) <| di_tup <| de_slT <| dv 5 rfl ⟨_, rfl, do_none <| do_some <| de_ixT (fun _ _ => rfl) <| dv 0 rfl ⟨_, rfl, de_int ⟨_, rfl, .int m, rfl, _, rfl, _, rfl, lc_map (xs.take m) .int (fun x => .int (roundM x z)) _ rfl trivial (by rw [cut_to, List.map_take]) (mn 8)
            (fun x hx s H C cl fp => de_callP GR (hr.mono (by decide)) rfl <| dd_cons <| dv 8 rfl <| dd_cons <| dv 1 rfl <| dd_nil ⟨rfl, _, ⟨x, z, rfl, rfl⟩, rfl, rfl⟩) (by rw [List.length_take]; omega) ?_⟩⟩⟩
          show En.dat _ = En.dat _
          rw [Option.map_some, optT, iT, List.map_map]; rfl
    refine bl_cons <| bs_if <| dt_gt <| dv 1 rfl ⟨_, rfl, de_int ⟨_, rfl, fun hz => ?_, fun hz => bl_nil ?_⟩⟩
    · have hz : 0 < z := of_decide_eq_true hz
      refine bl_one <| bs_set nd (i := 4) rfl (by first | exact .inl rfl | exact .inr rfl) <| de_catT <| dv 4 rfl ⟨_, rfl, de_tuple rfl b.tuple <| ds_new <| n_lc nd [("own", 7)] (fun _ _ _ _ _ => g1 nd 7) (mn 7) <| di_tup <| de_callP GU (hr.mono (by decide)) rfl <| dd_cons <| de_len rfl b.len <| sv 3 rfl rfl <| dd_nil ⟨rfl, _, ⟨lines.length, by rw [List.length_map, hgl], by omega, rfl⟩, _, rfl, lc_map (unitsM lines.length) iT (fun u => iT (scal u z)) _ rfl trivial rfl (mn 7)
        (fun u hu s H C cl fp => de_callP GM (hr.mono (by decide)) rfl <| dd_cons <| dv 7 rfl <| dd_cons <| dv 1 rfl <| dd_nil ⟨rfl, _, ⟨u, z, rfl, ⟨by rw [(unitsM_mat _).row u hu]; omega, fun x hx => ?_⟩, rfl⟩, rfl, rfl⟩) (by rw [unitsM_length]; omega) ⟨_, rfl, by rw [List.length_map, hcl, List.length_map, unitsM_length]; omega, ?_⟩⟩⟩
      · obtain ⟨i, _, rfl⟩ := List.mem_map.mp hu
        rcases oneAt_mem hx with e | e <;> rw [e] <;> exact .of_left (by decide)
      · have e : (colsM (lines.map (·.2)) m).map iT ++ (unitsM lines.length).map (fun u => iT (scal u z)) = (hidRows m lines z).map iT := by
          rw [hidRows, if_pos hz, List.map_append, List.map_map]; rfl
        rw [e]
        exact fin
    · have hz : ¬ 0 < z := of_decide_eq_false hz
      have e : colsM (lines.map (·.2)) m = hidRows m lines z := by rw [hidRows, if_neg hz, List.append_nil]
      rw [e]
      exact fin
end
end Wk

set_option Elab.async false
set_option linter.all false
set_option maxRecDepth 100000
set_option maxHeartbeats 1000000
namespace Wk
open PySem PySem.Spec PyProof.Rows L2 NdefX DL
def HidOk (n m : Nat) (lines : Lines) (z : Int) (hs : List Int) (res : Option (List Int)) : Prop := lines.length ≤ 300 ∧ n ≤ 300 ∧ m ≤ 100 ∧ LinesOk n m lines ∧ (∀ p ∈ lines, MulAll p.1 hs) ∧ z.natAbs < 2 ^ 63 ∧ TimesR (hidRows m lines z) (goalM lines hs) res
def relM (lines : Lines) : List (List Int) := lines.map fun p => p.1 ++ scal p.2 (-1)
section
variable {P : Program} {w : World} {K : DL.Frag} {mg : Str → Option Value} {base : Heap} {T : List NTab} {f : Addr} {fd : FuncData} {C : Addr}
/-- None, or a new list -/
def sAll : SD := fun as k => ∃ lines hs res, ∃ (n m : Nat) (z : Int), as = [.dat (wishD n m lines), .dat (worldD z hs)] ∧ (HidOk n m lines z hs res ∧ hs.length ≤ 900) ∧ (res = none → k (.dat .none) as) ∧ (∀ xs, res = some xs → ∀ l ds, k (.own l ds) as)
theorem sAll_mono : SMono sAll := fun as k k' ⟨lines, hs, res, n, m, z, e, h, q1, q2⟩ w => ⟨lines, hs, res, n, m, z, e, h, fun e => w _ _ (q1 e), fun xs e l ds => w _ _ (q2 xs e l ds)⟩
theorem hidden_all_ok (b : Blt mg) (GH : Df P w K mg base T 5 "hidden_for" ["wish", "size", "hours"] (SP 3 pHid)) (F : Fd K mg "hidden_all" 35 f fd) : Df P w K mg base T 6 "hidden_all" ["wish", "world"] sAll :=
  df_ok F.fn F.mg (bn_hidden_all F) sc_hidden_all (fun as k ⟨lines, hs, res, n, m, z, e, _⟩ => by rw [e]; rfl) fun cdv A outer s H E hr B as k ⟨lines, hs, res, n, m, z, e, ⟨h1, h2⟩, q1, q2⟩ => by
    subst e
    have nd := nd_hidden_all
    obtain ⟨a1, a2, a3, a4, a5, a6, a7⟩ := h1
    have back : Back [.dat (wishD n m lines), .dat (worldD z hs)] ([] : List En) [.dat (wishD n m lines), .dat (worldD z hs)] := back_dat (back_dat back_nil)
    refine bl_cons <| bs_setN nd (i := 2) rfl (.inl rfl) <| dn_lst <| dd_nil ⟨by simp, fun l nm _ => ?_⟩
    refine bl_cons <| bs_forJ (β := List DL.D) PassesOwn.never rfl (mono_2 (mn 3) (mn 4)) (dg_2 rfl (mn 3) (mn 4) (g1 nd 3) (g1 nd 4)) [3, 4, 5, 6] [z] (fun z => .tuple [.int 0, .int z]) (fun fo => [.dat (wishD n m lines), .dat (worldD z hs), .own l fo, .non, .non, .non, .non])
      (fun rest fo => (rest = [z] ∧ fo = []) ∨ (rest = [] ∧ ∃ xs, res = some xs))
      <| di_enum rfl b.enumerate <| de_ixT (fun _ _ => rfl) <| dv 1 rfl ⟨_, rfl, de_int ⟨_, rfl, .tuple [.int z], rfl, _, _, rfl, rfl, ⟨[], rfl, .inl ⟨rfl, rfl⟩⟩, fun _ => trivial, ?_, ?_⟩⟩
    · rintro z' rest fo hj
      rcases hj with ⟨e1, e2⟩ | ⟨e1, _⟩
      · cases e1
        have e2 : fo = [] := e2
        subst e2
        refine ⟨_, _, rfl, ?_⟩
        refine bl_cons <| bs_set nd (i := 5) rfl (by first | exact .inl rfl | exact .inr rfl) <| de_callP GH (hr.mono (by decide)) rfl <| dd_cons <| dv 0 rfl <| dd_cons <| dv 4 rfl <| dd_cons <| de_tuple rfl b.tuple <| ds_new <| n_lc nd [("row", 6)] (fun _ _ _ _ _ => g1 nd 6) (mn 6) <| di_tup <| de_ixT (fun _ _ => rfl) <| dv 1 rfl ⟨_, rfl, de_int ⟨_, rfl, .tuple (hs.map fun h => .tuple [.int h]), rfl, _, rfl, lc_map hs (fun h => .tuple [.int h]) .int _ rfl trivial rfl (mn 6)
          (fun h hh s H C cl fp => de_ixT (fun _ _ => rfl) <| dv 6 rfl ⟨_, rfl, dv 3 rfl ⟨_, rfl, .int h, rfl, rfl, rfl⟩⟩) (by omega) (dd_nil ⟨rfl, _, ⟨lines, hs, res, n, m, z, rfl, ⟨a1, a2, a3, a4, a5, a6, a7⟩, rfl⟩, ?_⟩)⟩⟩
        refine bl_cons <| bs_if <| dt_isN <| dv 5 rfl ⟨fun hN => ?_, fun hN => bl_nil ?_⟩
        · cases res with
          | some xs => cases hN
          | none => exact bl_one <| bs_ret <| de_non ⟨_, back_dat (back_dat back_nil), q1 rfl⟩
        · cases res with
          | none => cases hN
          | some xs => exact bl_one <| ap 2 ⟨_, _, rfl⟩ <| dv 5 rfl ⟨l, _, rfl, by simp, _, rfl, .inr ⟨rfl, xs, rfl⟩⟩
      · cases e1
    · rintro fo hj
      rcases hj with ⟨e1, _⟩ | ⟨_, xs, e⟩
      · cases e1
      · exact bl_one <| bs_retO (i := 2) rfl (.inl rfl) rfl nm ⟨_, back_dat (back_dat back_nil), q2 xs e l fo⟩
abbrev pKeeps : List DL.D → DL.D → Prop := fun ds r => ∃ d e lines hs res, ∃ (n m : Nat) (z : Int), ds = [d, e] ∧ (fit 4 d ∧ tupD d = wishD n m lines ∧ fit 4 e ∧ tupD e = worldD z hs ∧ HidOk n m lines z hs res ∧ hs.length ≤ 900) ∧ r = .bool res.isSome
theorem keeps_ok (GT : Df P w K mg base T 5 "tupled" ["matter"] (SP 1 (pTup 4))) (GA : Df P w K mg base T 6 "hidden_all" ["wish", "world"] sAll) (F : Fd K mg "keeps" 36 f fd) : Df P w K mg base T 7 "keeps" ["wish", "world"] (SP 2 pKeeps) :=
  dp_ok F.fn F.mg (bn_keeps F) sc_keeps rfl fun cdv A outer s H E hr B ds r hn h => by
    obtain ⟨d, e, lines, hs, res, n, m, z, rfl, ⟨h1, h2, h3, h4, h5, h6⟩, rfl⟩ := h
    cases res with
    | none =>
      refine bl_one <| bs_ret <| de_notN <| de_call GA sAll_mono (hr.mono (by decide)) rfl <| dd_cons <| de_callP GT (hr.mono (by decide)) rfl <| dd_cons <| dv 0 rfl <| dd_nil ⟨rfl, _, ⟨d, rfl, h1, rfl⟩, dd_cons <| de_callP GT (hr.mono (by decide)) rfl <| dd_cons <| dv 1 rfl <| dd_nil ⟨rfl, _, ⟨e, rfl, h3, rfl⟩, dd_nil ⟨lines, hs, none, n, m, z, by rw [h2, h4]; rfl, ⟨h5, h6⟩, fun _ => ⟨_, rfl, rfl⟩, fun xs e => nomatch e⟩⟩⟩
    | some xs =>
      refine bl_one <| bs_ret <| de_notN <| de_new <| dn_call GA sAll_mono (hr.mono (by decide)) rfl <| dd_cons <| de_callP GT (hr.mono (by decide)) rfl <| dd_cons <| dv 0 rfl <| dd_nil ⟨rfl, _, ⟨d, rfl, h1, rfl⟩, dd_cons <| de_callP GT (hr.mono (by decide)) rfl <| dd_cons <| dv 1 rfl <| dd_nil ⟨rfl, _, ⟨e, rfl, h3, rfl⟩, dd_nil ⟨lines, hs, some xs, n, m, z, by rw [h2, h4]; rfl, ⟨h5, h6⟩, (fun e => nomatch e), fun xs _ l ds => ⟨l, ds, rfl, rfl⟩⟩⟩⟩
abbrev pRel : List DL.D → DL.D → Prop := fun ds r => ∃ lines, ∃ n m : Nat, ds = [wishD n m lines] ∧ (lines.length ≤ 900 ∧ n ≤ 400 ∧ m ≤ 400 ∧ LinesOk n m lines) ∧ r = mT (relM lines)
theorem relations_of_ok (b : Blt mg) (GM : Df P w K mg base T 1 "row_times" ["row", "times"] (SP 2 pTimes)) (F : Fd K mg "relations_of" 51 f fd) : Df P w K mg base T 2 "relations_of" ["wish"] (SP 1 pRel) :=
  dp_ok F.fn F.mg (bn_relations_of F) sc_relations_of rfl fun cdv A outer s H E hr B ds r hn h => by
    obtain ⟨lines, n, m, rfl, ⟨h1, h2, h3, h4⟩, rfl⟩ := h
    have nd := nd_relations_of
    exact bl_one <| bs_ret <| de_tuple rfl b.tuple <| ds_new <| n_lc nd [("near", 1), ("far", 2)] (fun _ _ _ _ _ => dg_2 rfl (mn 1) (mn 2) (g1 nd 1) (g1 nd 2)) (mono_2 (mn 1) (mn 2)) <| di_tup <| de_ixT (fun _ _ => rfl) <| dv 0 rfl ⟨_, rfl, de_int ⟨_, rfl, .tuple (lines.map lineD), rfl, _, rfl, lc_map lines lineD (fun p => iT (p.1 ++ scal p.2 (-1))) _ rfl trivial rfl (mono_2 (mn 1) (mn 2))
      (fun p hp => ⟨_, _, rfl, fun s H C cl fp => de_catT <| dv 1 rfl ⟨_, rfl, de_callP GM (hr.mono (by decide)) rfl <| dd_cons <| dv 2 rfl <| dd_cons <| de_neg <| de_int ⟨_, rfl, dd_nil ⟨rfl, _, ⟨p.2, _, rfl, ⟨by rw [(h4 p hp).2]; omega, fun x _ => .of_right (by decide)⟩, rfl⟩, _, rfl, by rw [List.length_map, List.length_map, scal_length, (h4 p hp).1, (h4 p hp).2]; omega, by rw [cat_ints], rfl⟩⟩⟩⟩) (by omega) (by rw [mT, relM, List.map_map]; rfl)⟩⟩
def tabM (A : List (List Int)) (Bm : List (List Int)) (n : Nat) : List (List Int) := A.map fun row => addedM row Bm n
abbrev pTab : List DL.D → DL.D → Prop := fun ds r => ∃ A B, ∃ n : Nat, ds = [mT A, mT B, .int n] ∧ (A.length ≤ 900 ∧ n ≤ 900 ∧ ∀ row ∈ A, row.length ≤ 900 ∧ AddOk row B) ∧ r = mT (tabM A B n)
theorem table_times_ok (b : Blt mg) (GA : Df P w K mg base T 2 "rows_added" ["times", "rows", "size"] (SP 3 pAdded)) (F : Fd K mg "table_times" 52 f fd) : Df P w K mg base T 3 "table_times" ["one", "other", "size"] (SP 3 pTab) :=
  dp_ok F.fn F.mg (bn_table_times F) sc_table_times rfl fun cdv A outer s H E hr B ds r hn h => by
    obtain ⟨A', B', n, rfl, ⟨h1, h2, h3⟩, rfl⟩ := h
    have nd := nd_table_times
    exact bl_one <| bs_ret <| de_tuple rfl b.tuple <| ds_new <| n_lc nd [("row", 3)] (fun _ _ _ _ _ => g1 nd 3) (mn 3) <| di_tup <| dv 0 rfl ⟨_, rfl, lc_map A' iT (fun row => iT (addedM row B' n)) _ rfl trivial rfl (mn 3)
      (fun row hrow s H C cl fp => de_callP GA (hr.mono (by decide)) rfl <| dd_cons <| dv 3 rfl <| dd_cons <| dv 1 rfl <| dd_cons <| dv 2 rfl <| dd_nil ⟨rfl, _, ⟨_, _, true, true, row, B', n, rfl, ⟨rfl, rfl, by omega, by have := (h3 row hrow).1; omega, (h3 row hrow).2⟩, rfl⟩, rfl, rfl⟩) (by omega) (by rw [mT, tabM, List.map_map]; rfl)⟩
/-- the level form of a wish's second rows -/
inductive LevR (m : Nat) (lines : Lines) : List (List Int) → List Int → List (List Int) → Prop
  | diag {a R L Q} : 0 < lines.length → 0 < m → Mat (lines.map (·.2)) lines.length m → DiagR lines.length m (lines.map (·.2)) a R L Q → LevR m lines L (stepsM a R) (colsM Q m)
  | triv : ¬ (0 < lines.length ∧ 0 < m) → LevR m lines (unitsM lines.length) [] (unitsM m)
abbrev pLev : List DL.D → DL.D → Prop := fun ds r => ∃ lines L S Q, ∃ n m : Nat, ds = [wishD n m lines] ∧ (lines.length ≤ 900 ∧ m ≤ 900 ∧ LevR m lines L S Q) ∧ r = .tuple [mT L, iT S, mT Q]
theorem levelled_ok (b : Blt mg) (GD : Df P w K mg base T 5 "diagonal" ["table"] (SP 1 pDiag)) (GF : Df P w K mg base T 1 "far_of" ["wish"] (SP 1 pFar)) (GU : Df P w K mg base T 2 "units" ["size"] (SP 1 pUnits)) (F : Fd K mg "levelled" 53 f fd) : Df P w K mg base T 6 "levelled" ["wish"] (SP 1 pLev) :=
  dp_ok F.fn F.mg (bn_levelled F) sc_levelled rfl fun cdv A outer s H E hr B ds r hn h => by
    obtain ⟨lines, L, S, Q, n, m, rfl, ⟨h1, h2, h3⟩, rfl⟩ := h
    have nd := nd_levelled
    refine bl_cons <| bs_par2 (i := 1) (j := 2) rfl nd rfl rfl (by decide) rfl rfl (da_d <| de_len rfl b.len <| ds_tup <| de_ixT (fun _ _ => rfl) <| dv 0 rfl ⟨_, rfl, de_int ⟨_, rfl, .tuple (lines.map lineD), rfl, _, rfl, da_d <| de_ixT (fun _ _ => rfl) <| dv 0 rfl ⟨_, rfl, de_int ⟨_, rfl, .int m, rfl, da_nil ⟨_, _, rfl, trivial, trivial, fun _ => ?_⟩⟩⟩⟩⟩) (by rfl)
    rw [List.length_map]
    refine bl_one <| bs_ret <| de_if <| DT.mono (Q := fun t Δ' => t = decide (0 < lines.length ∧ 0 < m) ∧ Δ' = [.dat (wishD n m lines), .dat (.int lines.length), .dat (.int m)]) (dw_dt <| dw_and <| dt_gt <| dv 1 rfl ⟨_, rfl, de_int ⟨_, rfl, fun c1 => dw_and1 <| dt_gt <| dv 2 rfl ⟨_, rfl, de_int ⟨_, rfl, ?_, rfl⟩⟩, fun c1 => ⟨?_, rfl⟩⟩⟩) fun t Δ' ⟨et, eΔ⟩ => ?_
    · have c1 : (0 : Int) < (lines.length : Int) := of_decide_eq_true c1
      have c1 : 0 < lines.length := by omega
      simp [c1]
    · have c1 : ¬ (0 : Int) < (lines.length : Int) := of_decide_eq_false c1
      have c1 : ¬ 0 < lines.length := by omega
      simp [c1]
    · subst eΔ
      refine ⟨fun ht => ?_, fun hf => ?_⟩
      · have hc := of_decide_eq_true (et.symm.trans ht)
        cases h3 with
        | triv z => exact absurd hc z
        | diag p1 p2 p3 p4 => exact de_callP GD (hr.mono (by decide)) rfl <| dd_cons <| de_callP GF (hr.mono (by decide)) rfl <| dd_cons <| dv 0 rfl <| dd_nil ⟨rfl, _, ⟨lines, n, m, rfl, h1, rfl⟩, dd_nil ⟨rfl, _, ⟨_, _, _, _, _, _, _, rfl, ⟨p3, p1, h1, h2, p4⟩, rfl⟩, rfl⟩⟩
      · have hc := of_decide_eq_false (et.symm.trans hf)
        cases h3 with
        | diag p1 p2 => exact absurd ⟨p1, p2⟩ hc
        | triv => exact de_tup <| dd_cons <| de_callP GU (hr.mono (by decide)) rfl <| dd_cons <| dv 1 rfl <| dd_nil ⟨rfl, _, ⟨lines.length, rfl, by omega, rfl⟩, dd_cons <| de_tup <| dd_nil ⟨by simp, dd_cons <| de_callP GU (hr.mono (by decide)) rfl <| dd_cons <| dv 2 rfl <| dd_nil ⟨rfl, _, ⟨m, rfl, by omega, rfl⟩, dd_nil ⟨by simp, rfl⟩⟩⟩⟩
end
end Wk

set_option Elab.async false
set_option linter.all false
set_option maxRecDepth 100000
set_option maxHeartbeats 1000000
namespace Wk
open PySem PySem.Spec PyProof.Rows L2 NdefX DL
def stepAt (S : List Int) (i : Nat) : Int := if i < S.length then S.getD i 0 else 0
def moreM (wide : Nat) (s : Int) : List (List Int) := if 0 < s then (unitsM wide).map fun u => scal u s else []
/-- line by line: the rows, the row -/
def wantOne (lines1 : Lines) (n m1 : Nat) (S : List Int) (p : List Int × Nat) : List (List Int) × List Int := (relM lines1 ++ moreM (n + m1) (stepAt S p.2), p.1 ++ zerR m1)
def wantM (lines1 : Lines) (n m1 : Nat) (L : List (List Int)) (S : List Int) (nears2 : List (List Int)) : List (List (List Int) × List Int) := (tabM L nears2 n).zipIdx.map (wantOne lines1 n m1 S)
def wantD (p : List (List Int) × List Int) : DL.D := .tuple [mT p.1, iT p.2]
structure WantOk (lines1 lines2 : Lines) (n m1 m2 : Nat) (L : List (List Int)) (S : List Int) (Q : List (List Int)) : Prop where
  z1 : lines1.length ≤ 200
  z2 : lines2.length ≤ 200
  zn : n ≤ 100
  zm : m1 ≤ 100
  zm2 : m2 ≤ 100
  ok1 : LinesOk n m1 lines1
  ok2 : LinesOk n m2 lines2
  lev : LevR m2 lines2 L S Q
  zl : L.length ≤ 200
  add : ∀ row ∈ L, row.length ≤ 900 ∧ AddOk row (lines2.map (·.1))
  wd : Wd n (tabM L (lines2.map (·.1)) n)
theorem relM_wd {lines : Lines} {n m : Nat} (h : LinesOk n m lines) : Wd (n + m) (relM lines) := fun r hr => by
  obtain ⟨p, hp, rfl⟩ := List.mem_map.mp hr
  rw [List.length_append, scal_length, (h p hp).1, (h p hp).2]
theorem moreM_wd {w : Nat} {s : Int} : Wd w (moreM w s) := fun r hr => by
  unfold moreM at hr
  split at hr
  · obtain ⟨u, hu, rfl⟩ := List.mem_map.mp hr
    rw [scal_length]; exact (unitsM_mat _).row u hu
  · cases hr
theorem moreM_len {w : Nat} {s : Int} : (moreM w s).length ≤ w := by
  unfold moreM; split
  · rw [List.length_map, unitsM_length]; exact Nat.le_refl w
  · exact Nat.zero_le w
section
variable {P : Program} {w : World} {K : DL.Frag} {mg : Str → Option Value} {base : Heap} {T : List NTab} {f : Addr} {fd : FuncData} {C : Addr}
abbrev pWant : List DL.D → List DL.D → Prop := fun ds r => ∃ lines1 lines2 L S Q, ∃ n m1 m2 : Nat, ds = [wishD n m1 lines1, wishD n m2 lines2] ∧ WantOk lines1 lines2 n m1 m2 L S Q ∧ r = (wantM lines1 n m1 L S (lines2.map (·.1))).map wantD
theorem wanted_rows_ok (b : Blt mg) (GL : Df P w K mg base T 6 "levelled" ["wish"] (SP 1 pLev)) (GT : Df P w K mg base T 3 "table_times" ["one", "other", "size"] (SP 3 pTab)) (GN : Df P w K mg base T 1 "near_of" ["wish"] (SP 1 pNear)) (GM : Df P w K mg base T 1 "row_times" ["row", "times"] (SP 2 pTimes))
    (GU : Df P w K mg base T 2 "units" ["size"] (SP 1 pUnits)) (GR : Df P w K mg base T 2 "relations_of" ["wish"] (SP 1 pRel)) (GO : Df P w K mg base T 1 "nothing" ["size"] (SP 1 pNothing)) (F : Fd K mg "wanted_rows" 54 f fd) : Df P w K mg base T 7 "wanted_rows" ["one", "other"] (SL 2 pWant) :=
  dl_ok F.fn F.mg (bn_wanted_rows F) sc_wanted_rows rfl fun cdv A outer s H E hr B ds r hn h => by
    obtain ⟨lines1, lines2, L, S, Q, n, m1, m2, rfl, W, rfl⟩ := h
    have nd := nd_wanted_rows
    have z1 := W.z1
    have z2 := W.z2
    have zn := W.zn
    have zm := W.zm
    have zm2 := W.zm2
    have zl := W.zl
    refine bl_cons <| bs_asg (mono_3 (mn 2) (mn 3) (mn 4)) (dg_3 rfl (mn 2) (mn 3) (mn 4) (g1 nd 2) (g1 nd 3) (g1 nd 4)) <| de_callP GL (hr.mono (by decide)) rfl <| dd_cons <| dv 1 rfl <| dd_nil ⟨rfl, _, ⟨lines2, L, S, Q, n, m2, rfl, ⟨by omega, by omega, W.lev⟩, rfl⟩, _, _, _, rfl, ?_⟩
    refine bl_cons <| bs_par2 (i := 5) (j := 6) rfl nd rfl rfl (by decide) rfl rfl (da_d <| de_add <| de_ixT (fun _ _ => rfl) <| dv 0 rfl ⟨_, rfl, de_int ⟨_, rfl, .int n, rfl, _, rfl, de_ixT (fun _ _ => rfl) <| dv 0 rfl ⟨_, rfl, de_int ⟨_, rfl, .int m1, rfl, _, rfl, da_n <| dn_lst <| dd_nil ⟨by simp, fun l => da_nil ⟨_, _, rfl, trivial, trivial, fun nm => ?_⟩⟩⟩⟩⟩⟩) (by rfl)
    have nml := (nm l [] (.inr rfl)).1
    have tl : (tabM L (lines2.map (·.1)) n).length = L.length := by simp [tabM]
    refine bl_cons <| bs_forJ (β := List (List (List Int) × List Int)) PassesOwn.never rfl (mono_2 (mn 7) (mn 8)) (dg_2 rfl (mn 7) (mn 8) (g1 nd 7) (g1 nd 8)) [7, 8, 9, 10, 11] (tabM L (lines2.map (·.1)) n).zipIdx (fun p => .tuple [.int (p.2 : Nat), iT p.1]) (fun fo => [.dat (wishD n m1 lines1), .dat (wishD n m2 lines2), .dat (mT L), .dat (iT S), .dat (mT Q), .dat (.int ((n : Int) + (m1 : Int))), .own l (fo.map wantD), .non, .non, .non, .non, .non])
      (fun rest fo => (∀ p ∈ rest, p.1.length = n) ∧ fo.length + rest.length ≤ 900 ∧ fo ++ rest.map (wantOne lines1 n m1 S) = wantM lines1 n m1 L S (lines2.map (·.1)))
      <| di_enum rfl b.enumerate <| de_callP GT (hr.mono (by decide)) rfl <| dd_cons <| dv 2 rfl <| dd_cons <| de_callP GN (hr.mono (by decide)) rfl <| dd_cons <| dv 1 rfl <| dd_nil ⟨rfl, _, ⟨lines2, n, m2, rfl, by omega, rfl⟩, dd_cons <| de_ixT (fun _ _ => rfl) <| dv 0 rfl ⟨_, rfl, de_int ⟨_, rfl, .int n, rfl, dd_nil ⟨rfl, _, ⟨L, lines2.map (·.1), n, rfl, ⟨by omega, by omega, W.add⟩, rfl⟩, _, _, rfl, enumD_map iT _, ⟨[], rfl, fun p hp => W.wd p.1 (List.fst_mem_of_mem_zipIdx hp), by simp [tl]; omega, rfl⟩, fun _ => trivial, ?_, ?_⟩⟩⟩⟩
    · rintro ⟨row, i⟩ rest fo ⟨f1, f2, f3⟩
      have hrow : row.length = n := f1 _ List.mem_cons_self
      have f2 : fo.length + (rest.length + 1) ≤ 900 := f2
      refine ⟨_, _, rfl, ?_⟩
      refine bl_cons <| bs_set nd (i := 9) rfl (by first | exact .inl rfl | exact .inr rfl) <| DE.mono (Q := fun d Δ' => d = .int (stepAt S i) ∧ Δ' = [.dat (wishD n m1 lines1), .dat (wishD n m2 lines2), .dat (mT L), .dat (iT S), .dat (mT Q), .dat (.int ((n : Int) + (m1 : Int))), .own l (fo.map wantD), .dat (.int i), .dat (iT row), .non, .non, .non])
        (de_if <| dt_lt <| dv 7 rfl ⟨_, rfl, de_len rfl b.len <| sv 3 rfl rfl ⟨_, rfl, fun hc => ?_, fun hc => ?_⟩⟩) fun d Δ' ⟨ed, eΔ⟩ => ?_
      · have hc : (i : Int) < ((S.map PyData.int).length : Int) := of_decide_eq_true hc
        rw [List.length_map] at hc
        have hi : i < S.length := by omega
        exact de_ixT (fun _ _ => rfl) <| dv 3 rfl ⟨_, rfl, dv 7 rfl ⟨_, rfl, _, int_at hi, by rw [stepAt, if_pos hi], rfl⟩⟩
      · have hc : ¬ (i : Int) < ((S.map PyData.int).length : Int) := of_decide_eq_false hc
        rw [List.length_map] at hc
        have hi : ¬ i < S.length := by omega
        exact de_int ⟨by rw [stepAt, if_neg hi], rfl⟩
      · subst ed eΔ
        refine bl_cons <| bs_set nd (i := 10) rfl (by first | exact .inl rfl | exact .inr rfl) <| DE.mono (Q := fun d Δ' => d = mT (moreM (n + m1) (stepAt S i)) ∧ Δ' = [.dat (wishD n m1 lines1), .dat (wishD n m2 lines2), .dat (mT L), .dat (iT S), .dat (mT Q), .dat (.int ((n : Int) + (m1 : Int))), .own l (fo.map wantD), .dat (.int i), .dat (iT row), .dat (.int (stepAt S i)), .non, .non])
          (de_if <| dt_gt <| dv 9 rfl ⟨_, rfl, de_int ⟨_, rfl, fun hc => ?_, fun hc => ?_⟩⟩) fun d Δ' ⟨ed, eΔ⟩ => ?_
        · have hc : 0 < stepAt S i := of_decide_eq_true hc
          refine de_tuple rfl b.tuple <| ds_new <| n_lc nd [("own", 11)] (fun _ _ _ _ _ => g1 nd 11) (mn 11) <| di_tup <| de_callP GU (hr.mono (by decide)) rfl <| dd_cons <| dv 5 rfl <| dd_nil ⟨rfl, _, ⟨n + m1, by rfl, by omega, rfl⟩, _, rfl, lc_map (unitsM (n + m1)) iT (fun u => iT (scal u (stepAt S i))) _ rfl trivial rfl (mn 11)
            (fun u hu s H C cl fp => de_callP GM (hr.mono (by decide)) rfl <| dd_cons <| dv 11 rfl <| dd_cons <| dv 9 rfl <| dd_nil ⟨rfl, _, ⟨u, _, rfl, ⟨by rw [(unitsM_mat _).row u hu]; omega, fun x hx => ?_⟩, rfl⟩, rfl, rfl⟩) (by rw [unitsM_length]; omega) ⟨by rw [moreM, if_pos hc, mT, List.map_map]; rfl, rfl⟩⟩
          obtain ⟨j, _, rfl⟩ := List.mem_map.mp hu
          rcases oneAt_mem hx with e | e <;> rw [e] <;> exact .of_left (by decide)
        · have hc : ¬ 0 < stepAt S i := of_decide_eq_false hc
          exact de_tup <| dd_nil ⟨by simp, by rw [moreM, if_neg hc]; rfl, rfl⟩
        · subst ed eΔ
          have ml := moreM_len (w := n + m1) (s := stepAt S i)
          have rl : (relM lines1).length = lines1.length := by simp [relM]
          refine bl_one <| ap 6 ⟨_, _, rfl⟩ <| de_tup <| dd_cons <| de_catT <| de_callP GR (hr.mono (by decide)) rfl <| dd_cons <| dv 0 rfl <| dd_nil ⟨rfl, _, ⟨lines1, n, m1, rfl, ⟨by omega, by omega, by omega, W.ok1⟩, rfl⟩, _, rfl, dv 10 rfl ⟨_, rfl, by rw [List.length_map, List.length_map, rl]; omega, dd_cons <| de_catT <| dv 8 rfl ⟨_, rfl, de_callP GO (hr.mono (by decide)) rfl <| dd_cons <| de_ixT (fun _ _ => rfl) <| dv 0 rfl ⟨_, rfl, de_int ⟨_, rfl, .int m1, rfl, dd_nil ⟨rfl, _, ⟨m1, rfl, by omega, rfl⟩, _, rfl, by rw [List.length_map, List.length_map, zerR_length, hrow]; omega, dd_nil ⟨by simp, l, _, rfl, by rw [List.length_map]; omega, ?_⟩⟩⟩⟩⟩⟩⟩
          have e : wantD (wantOne lines1 n m1 S (row, i)) = .tuple [.tuple ((relM lines1).map iT ++ (moreM (n + m1) (stepAt S i)).map iT), .tuple (row.map .int ++ (zerR m1).map .int)] := by rw [mT_app, cat_ints]; rfl
          exact ⟨fo ++ [wantOne lines1 n m1 S (row, i)], by rw [List.map_append, List.map_cons, e]; rfl, fun p hp => f1 p (List.mem_cons_of_mem _ hp), by rw [List.length_append]; show fo.length + 1 + rest.length ≤ 900; omega, by rw [← f3, List.map_cons]; simp⟩
    · rintro fo ⟨_, _, f3⟩
      have f3 : fo = wantM lines1 n m1 L S (lines2.map (·.1)) := by rw [← f3]; simp
      subst f3
      exact bl_one <| bs_retO (i := 6) rfl (.inl rfl) rfl nml ⟨l, rfl⟩
/-- line by line: made or not -/
def FollowsR (lines1 : Lines) (n m1 : Nat) (L : List (List Int)) (S : List Int) (nears2 : List (List Int)) (g : List (List Int) × List Int → Bool) : Prop := ∀ p ∈ wantM lines1 n m1 L S nears2, ∃ res, TimesR p.1 p.2 res ∧ g p = res.isSome
abbrev pFollows : List DL.D → DL.D → Prop := fun ds r => ∃ d e lines1 lines2 L S Q g, ∃ n m1 m2 : Nat, ds = [d, e] ∧ (fit 4 d ∧ tupD d = wishD n m1 lines1 ∧ fit 4 e ∧ tupD e = wishD n m2 lines2 ∧ WantOk lines1 lines2 n m1 m2 L S Q ∧ FollowsR lines1 n m1 L S (lines2.map (·.1)) g) ∧ r = .bool ((wantM lines1 n m1 L S (lines2.map (·.1))).all g)
theorem follows_ok (b : Blt mg) (GT : Df P w K mg base T 5 "tupled" ["matter"] (SP 1 (pTup 4))) (GW : Df P w K mg base T 7 "wanted_rows" ["one", "other"] (SL 2 pWant)) (GM : Df P w K mg base T 5 "is_made" ["rows", "row"] (SP 2 pMade)) (F : Fd K mg "follows" 55 f fd) : Df P w K mg base T 8 "follows" ["one", "other"] (SP 2 pFollows) :=
  dp_ok F.fn F.mg (bn_follows F) sc_follows rfl fun cdv A outer s H E hr B ds r hn h => by
    obtain ⟨d, e, lines1, lines2, L, S, Q, g, n, m1, m2, rfl, ⟨h1, h2, h3, h4, W, h5⟩, rfl⟩ := h
    have nd := nd_follows
    have tl : (tabM L (lines2.map (·.1)) n).length = L.length := by simp [tabM]
    have wl : (wantM lines1 n m1 L S (lines2.map (·.1))).length = L.length := by rw [wantM, List.length_map, List.length_zipIdx, tl]
    have zl := W.zl
    have zn := W.zn
    have zm := W.zm
    have z1 := W.z1
    refine bl_one <| bs_ret <| de_all rfl rfl b.all <| ds_new <| n_lc nd [("rows", 2), ("row", 3)] (fun _ _ _ _ _ => dg_2 rfl (mn 2) (mn 3) (g1 nd 2) (g1 nd 3)) (mono_2 (mn 2) (mn 3)) <| di_new <| dn_callL GW (hr.mono (by decide)) rfl <| dd_cons <| de_callP GT (hr.mono (by decide)) rfl <| dd_cons <| dv 0 rfl <| dd_nil ⟨rfl, _, ⟨d, rfl, h1, rfl⟩, dd_cons <| de_callP GT (hr.mono (by decide)) rfl <| dd_cons <| dv 1 rfl <| dd_nil ⟨rfl, _, ⟨e, rfl, h3, rfl⟩, dd_nil ⟨rfl, _, ⟨lines1, lines2, L, S, Q, n, m1, m2, by rw [h2, h4], W, rfl⟩, lc_map (wantM lines1 n m1 L S (lines2.map (·.1))) wantD (fun p => .bool (g p)) _ rfl trivial rfl (mono_2 (mn 2) (mn 3))
      (fun p hp => ⟨_, _, rfl, fun s H C cl fp => ?_⟩) (by omega) ⟨rfl, (wantM lines1 n m1 L S (lines2.map (·.1))).map g, by rw [List.map_map]; rfl, by rw [List.all_map]; rfl⟩⟩⟩⟩
    obtain ⟨res, t1, t2⟩ := h5 p hp
    have hw : p.2.length = n + m1 ∧ Wd (n + m1) p.1 ∧ p.1.length ≤ 400 := by
      obtain ⟨q, hq, rfl⟩ := List.mem_map.mp hp
      have := W.wd q.1 (List.fst_mem_of_mem_zipIdx hq)
      refine ⟨by show (q.1 ++ zerR m1).length = _; rw [List.length_append, zerR_length, this], (relM_wd W.ok1).app moreM_wd, ?_⟩
      show (relM lines1 ++ moreM (n + m1) (stepAt S q.2)).length ≤ 400
      have ml := moreM_len (w := n + m1) (s := stepAt S q.2)
      rw [List.length_append]
      have : (relM lines1).length = lines1.length := by simp [relM]
      omega
    exact de_callP GM (hr.mono (by decide)) rfl <| dd_cons <| dv 2 rfl <| dd_cons <| dv 3 rfl <| dd_nil ⟨rfl, _, ⟨p.1, p.2, res, rfl, ⟨by rw [hw.1]; omega, hw.2.2, by rw [hw.1]; exact hw.2.1, t1⟩, rfl⟩, by rw [t2], rfl⟩
/-- the steps of the cells over the other ties -/
inductive HoleR (n : Nat) (ties : Ties) (cells : List (List Int)) : List Int → Prop
  | some {a R L Q} : 0 < cells.length → 0 < (otM n ties).length → DiagR cells.length (otM n ties).length (overM n ties cells) a R L Q → HoleR n ties cells (stepsM a R)
  | none : ¬ (0 < cells.length ∧ 0 < (otM n ties).length) → HoleR n ties cells []
abbrev pHoles : List DL.D → DL.D → Prop := fun ds r => ∃ d ties cells S, ∃ n : Nat, ds = [d] ∧ (fit 3 d ∧ tupD d = webD n ties cells ∧ n ≤ 900 ∧ ties.length ≤ 900 ∧ Ends n ties ∧ cells.length ≤ 900 ∧ Wd ties.length cells ∧ HoleR n ties cells S) ∧ r = .tuple [.int ((otM n ties).length - S.length : Int), iT (S.filter fun x => decide (1 < x))]
theorem stepsM_length (a : Nat) (R : List (List Int)) : (stepsM a R).length = a := by simp [stepsM]
theorem holes_ok (b : Blt mg) (GT : Df P w K mg base T 4 "tupled" ["matter"] (SP 1 (pTup 3))) (GO : Df P w K mg base T 3 "cells_over" ["web"] (SP 1 pOver)) (GS : Df P w K mg base T 6 "steps_of" ["table"] (SP 1 pSteps)) (F : Fd K mg "holes" 48 f fd) : Df P w K mg base T 7 "holes" ["web"] (SP 1 pHoles) :=
  dp_ok F.fn F.mg (bn_holes F) sc_holes rfl fun cdv A outer s H E hr B ds r hn h => by
    obtain ⟨d, ties, cells, S, n, rfl, ⟨h1, h2, h3, h4, h5, h6, h7, h8⟩, rfl⟩ := h
    have nd := nd_holes
    have ol : (overM n ties cells).length = cells.length := by simp [overM]
    have hol := otM_len (n := n) (ties := ties)
    have zS : S.length ≤ 900 := by
      cases h8 with
      | some p1 p2 p3 =>
        obtain ⟨f, g, p3⟩ := p3
        rw [stepsM_length]
        have M : Mat (overM n ties cells) cells.length (otM n ties).length := ⟨ol, fun r hr' => by obtain ⟨c, _, rfl⟩ := List.mem_map.mp hr'; simp⟩
        have := (diagM_mats p3 ⟨M, unitsM_mat _, unitsM_mat _⟩ (Nat.zero_le _) (Nat.zero_le _)).2.1
        omega
      | none => simp
    refine bl_cons <| bs_asg (mono_2 (mn 1) (mn 2)) (dg_2 rfl (mn 1) (mn 2) (g1 nd 1) (g1 nd 2)) <| de_callP GO (hr.mono (by decide)) rfl <| dd_cons <| de_callP GT (hr.mono (by decide)) rfl <| dd_cons <| dv 0 rfl <| dd_nil ⟨rfl, _, ⟨d, rfl, h1, rfl⟩, dd_nil ⟨rfl, _, ⟨ties, cells, n, by rw [h2], ⟨h3, h4, h5, h6, h7⟩, rfl⟩, _, _, rfl, ?_⟩⟩
    refine bl_cons <| bs_set nd (i := 3) rfl (by first | exact .inl rfl | exact .inr rfl) <| DE.mono (Q := fun d' Δ' => d' = iT S ∧ Δ' = [.dat d, .dat (mT (overM n ties cells)), .dat (.int (otM n ties).length), .non, .non]) (de_if <| DT.mono (Q := fun t Δ' => t = decide (0 < cells.length ∧ 0 < (otM n ties).length) ∧ Δ' = [.dat d, .dat (mT (overM n ties cells)), .dat (.int (otM n ties).length), .non, .non])
      (dw_dt <| dw_and <| dt_gt <| de_len rfl b.len <| sv 1 rfl rfl ⟨_, rfl, de_int ⟨_, rfl, fun c1 => dw_and1 <| dt_gt <| dv 2 rfl ⟨_, rfl, de_int ⟨_, rfl, ?_, rfl⟩⟩, fun c1 => ⟨?_, rfl⟩⟩⟩) fun t Δ' ⟨et, eΔ⟩ => ?_) fun d' Δ' ⟨ed, eΔ⟩ => ?_
    · have c1 : (0 : Int) < (((overM n ties cells).map iT).length : Int) := of_decide_eq_true c1
      rw [List.length_map, ol] at c1
      have c1 : 0 < cells.length := by omega
      simp [c1]
    · have c1 : ¬ (0 : Int) < (((overM n ties cells).map iT).length : Int) := of_decide_eq_false c1
      rw [List.length_map, ol] at c1
      have c1 : ¬ 0 < cells.length := by omega
      simp [c1]
    · subst eΔ
      refine ⟨fun ht => ?_, fun hf => ?_⟩
      · have hc := of_decide_eq_true (et.symm.trans ht)
        cases h8 with
        | none z => exact absurd hc z
        | some p1 p2 p3 => exact de_callP GS (hr.mono (by decide)) rfl <| dd_cons <| dv 1 rfl <| dd_nil ⟨rfl, _, ⟨_, _, _, _, _, cells.length, (otM n ties).length, rfl, ⟨⟨ol, fun r hr' => by obtain ⟨c, _, rfl⟩ := List.mem_map.mp hr'; simp⟩, p1, h6, by omega, p3⟩, rfl⟩, rfl, rfl⟩
      · have hc := of_decide_eq_false (et.symm.trans hf)
        cases h8 with
        | some p1 p2 => exact absurd ⟨p1, p2⟩ hc
        | none => exact de_tup <| dd_nil ⟨by simp, rfl, rfl⟩
    · subst ed eΔ
      refine bl_one <| bs_ret <| de_tup <| dd_cons <| de_sub <| dv 2 rfl ⟨_, rfl, de_len rfl b.len <| sv 3 rfl rfl ⟨_, rfl, dd_cons <| de_tuple rfl b.tuple <| ds_new <| n_lc nd [("step", 4)] (fun _ _ _ _ _ => g1 nd 4) (mn 4) <| di_tup <| dv 3 rfl ⟨_, rfl, lc_fil S .int .int (fun x => decide (1 < x)) _ rfl trivial rfl (mn 4)
        (fun x hx s H C cl fp => dt_gt <| dv 4 rfl ⟨_, rfl, de_int ⟨_, rfl, rfl, fun _ s H C cl fp => dv 4 rfl ⟨rfl, rfl⟩, fun _ => rfl⟩⟩) (by omega) (dd_nil ⟨by simp, by rw [List.length_map]⟩)⟩⟩⟩
end
end Wk

set_option Elab.async false
set_option linter.all false
set_option maxRecDepth 100000
set_option maxHeartbeats 1000000
namespace Wk
open PySem PySem.Spec PyProof.Rows L2 NdefX DL
/-- the source of draws after at most c draws of the mixed kind -/
structure Tin (c : Nat) (t : List Int) : Prop where
  ex : ∃ t0 t1 t2 : Int, t = [t0, t1, t2] ∧ 0 ≤ t0 ∧ 0 ≤ t1 ∧ t1 < 2 ^ 62 ∧ 0 ≤ t2 ∧ t2 ≤ (c : Int)
theorem Tin.mono {c d : Nat} {t : List Int} (h : Tin c t) (hd : c ≤ d) : Tin d t := by
  obtain ⟨t0, t1, t2, e, a, b, c1, d1, e1⟩ := h.ex
  exact ⟨t0, t1, t2, e, a, b, c1, d1, by omega⟩
theorem mul_r {x y : Int} (h : y.natAbs < 2 ^ 63) : IntMulOk x y := by
  refine IntMulOk.of_right ?_
  unfold Builtin.Int.intBits
  split
  · omega
  · rename_i hz
    have hz : y.natAbs ≠ 0 := by simpa using hz
    have := (Nat.log2_lt hz).mpr (show y.natAbs < 2 ^ 63 from h)
    omega
section
variable {P : Program} {w : World} {K : DL.Frag} {mg : Str → Option Value} {base : Heap} {T : List NTab} {f : Addr} {fd : FuncData} {C : Addr}
def sTake : SD := fun as k => ∃ l t, ∃ (c : Nat) (z : Int), as = [.own l (t.map .int), .dat (.int z)] ∧ (Tin c t ∧ c ≤ 100000 ∧ 0 < z ∧ z < 2 ^ 62) ∧ ∀ d t', 0 ≤ d → d < z → Tin (c + 1) t' → k (.dat (.int d)) [.own l (t'.map .int), .dat (.int z)]
theorem sTake_mono : SMono sTake := fun as k k' ⟨l, t, c, z, e, h, q⟩ w => ⟨l, t, c, z, e, h, fun d t' a b c => w _ _ (q d t' a b c)⟩
theorem law_take_ok (b : Blt mg) (F : Fd K mg "_law_take" 58 f fd) : Df P w K mg base T 1 "_law_take" ["_law_tin", "_law_below_so"] sTake :=
  df_ok F.fn F.mg (bn_law_take F) sc_law_take (fun as k ⟨l, t, c, z, e, _⟩ => by rw [e]; rfl) fun cdv A outer s H E hr B as k ⟨l, t, c, z, e, ⟨h1, h2, h3, h4⟩, qq⟩ => by
    subst e
    obtain ⟨t0, t1, t2, rfl, a0, a1, a2, a3, a4⟩ := h1.ex
    have nd := nd_law_take
    have hz0 : z ≠ 0 := by omega
    have i0 : ∀ a b c : Int, atI ([a, b, c].map PyData.int) (0 : Int) = some (.int a) := fun a b c => int_at (xs := [a, b, c]) (i := 0) (by simp)
    have i1 : ∀ a b c : Int, atI ([a, b, c].map PyData.int) (1 : Int) = some (.int b) := fun a b c => int_at (xs := [a, b, c]) (i := 1) (by simp)
    have i2 : ∀ a b c : Int, atI ([a, b, c].map PyData.int) (2 : Int) = some (.int c) := fun a b c => int_at (xs := [a, b, c]) (i := 2) (by simp)
    refine bl_cons <| bs_if <| dt_gt <| xv 0 rfl rfl <| de_int ⟨_, rfl, rfl, _, i0 _ _ _, _, rfl, de_int ⟨_, rfl, fun hp => ?_, fun hp => bl_nil ?_⟩⟩
    · have hp : 0 < t0 := of_decide_eq_true hp
      refine bl_cons <| bs_set nd (i := 2) rfl (.inl rfl) <| de_mod <| de_intC rfl b.int <| xv 0 rfl rfl <| de_int ⟨_, rfl, rfl, _, i0 _ _ _, t0, rfl, _, rfl, dv 1 rfl ⟨_, rfl, hz0, ?_⟩⟩
      refine bl_cons <| bs_asg mono_s (gs 0) <| de_fdiv <| xv 0 rfl rfl <| de_int ⟨_, rfl, rfl, _, i0 _ _ _, _, rfl, dv 1 rfl ⟨_, rfl, div_small hz0 (by omega), ⟨_, _, rfl⟩, de_int ⟨_, rfl, l, _, 0, rfl, by rfl, ?_⟩⟩⟩
      refine bl_one <| bs_ret <| dv 2 rfl ?_
      refine ⟨_, back_own 0 (ds := [t0.fdiv z, t1, t2].map .int) rfl (back_dat back_nil), qq (t0.fmod z) _ (Int.fmod_nonneg_of_pos _ h3) (Int.fmod_lt_of_pos _ h3) ⟨t0.fdiv z, t1, t2, rfl, ?_, a1, a2, a3, by omega⟩⟩
      exact Int.fdiv_nonneg a0 (by omega)
    · have u2 : 0 ≤ t2 + 1 := by omega
      have u3 : t2 + 1 ≤ 100001 := by omega
      refine bl_cons <| bs_asg mono_s (gs 0) <| de_add <| xv 0 rfl rfl <| de_int ⟨_, rfl, rfl, _, i2 _ _ _, _, rfl, de_int ⟨_, rfl, ⟨_, _, rfl⟩, de_int ⟨_, rfl, l, _, 2, rfl, by rfl, ?_⟩⟩⟩
      refine bl_as (Δ' := [.own l ([t0, t1, t2 + 1].map .int), .dat (.int z), .non, .non, .non, .non]) rfl ?_
      refine bl_cons <| bs_set nd (i := 3) rfl (.inl rfl) <| de_mod <| de_intC rfl b.int <| de_mul <| de_add <| xv 0 rfl rfl <| de_int ⟨_, rfl, rfl, _, i1 _ _ _, _, rfl, de_mul <| de_int ⟨_, rfl, xv 0 rfl rfl <| de_int ⟨_, rfl, rfl, _, i2 _ _ _, _, rfl, mul_r (by omega), _, rfl, _, rfl, de_add <| de_int ⟨_, rfl, xv 0 rfl rfl <| de_int ⟨_, rfl, rfl, _, i2 _ _ _, _, rfl, _, rfl, mul_r (by omega), _, rfl, _, rfl, de_int ⟨_, rfl, by decide, ?_⟩⟩⟩⟩⟩⟩
      generalize ((t1 + 48271 * (t2 + 1)) * (39373 + (t2 + 1))).fmod 2147483647 = o1
      refine bl_cons <| bs_set nd (i := 4) rfl (.inl rfl) <| de_add <| de_mod <| de_intC rfl b.int <| dv 3 rfl ⟨o1, rfl, _, rfl, de_int ⟨_, rfl, by decide, _, rfl, de_int ⟨_, rfl, ?_⟩⟩⟩
      have w1 : 0 ≤ o1.fmod 40009 := Int.fmod_nonneg_of_pos _ (by decide)
      have w2 : o1.fmod 40009 < 40009 := Int.fmod_lt_of_pos _ (by decide)
      generalize o1.fmod 40009 = wd at w1 w2 ⊢
      refine bl_cons <| bs_set nd (i := 5) rfl (.inl rfl) <| de_mod <| de_intC rfl b.int <| de_mul <| de_add <| de_add <| dv 3 rfl ⟨_, rfl, xv 0 rfl rfl <| de_int ⟨_, rfl, rfl, _, i2 _ _ _, _, rfl, _, rfl, de_fdiv <| xv 0 rfl rfl <| de_int ⟨_, rfl, rfl, _, i1 _ _ _, _, rfl, de_int ⟨_, rfl, div_small (by decide) (by decide), _, rfl, _, rfl, dv 4 rfl ⟨_, rfl, mul_r (by omega), _, rfl, _, rfl, de_int ⟨_, rfl, by decide, ?_⟩⟩⟩⟩⟩⟩
      generalize ((o1 + (t2 + 1) + t1.fdiv 1000003) * (wd + 7)).fmod 2147483629 = o2
      refine bl_one <| bs_ret <| de_mod <| de_intC rfl b.int <| de_fdiv <| de_mod <| de_intC rfl b.int <| de_add <| de_mul <| dv 5 rfl ⟨_, rfl, de_int ⟨_, rfl, mul_r (by decide), _, rfl, dv 3 rfl ⟨_, rfl, _, rfl, _, rfl, de_int ⟨_, rfl, by decide, _, rfl, de_int ⟨_, rfl, div_small (by decide) (by decide), _, rfl, _, rfl, dv 1 rfl ⟨_, rfl, hz0, ?_⟩⟩⟩⟩⟩⟩
      refine ⟨_, back_own 0 (ds := [t0, t1, t2 + 1].map .int) rfl (back_dat back_nil), qq _ _ (Int.fmod_nonneg_of_pos _ h3) (Int.fmod_lt_of_pos _ h3) ⟨t0, t1, t2 + 1, rfl, a0, a1, a2, u2, by omega⟩⟩
end
end Wk

set_option Elab.async false
set_option linter.all false
set_option maxRecDepth 100000
set_option maxHeartbeats 1000000
namespace Wk
open PySem PySem.Spec PyProof.Rows L2 NdefX DL
def numL : List Int := [0, 1, 2, -1, 3, 0, 4, -2, 6, 1]
section
variable {P : Program} {w : World} {K : DL.Frag} {mg : Str → Option Value} {base : Heap} {T : List NTab} {f : Addr} {fd : FuncData} {C : Addr}
def sOf : SD := fun as k => ∃ l t gs, ∃ c : Nat, as = [.own l (t.map .int), .dat (iL gs)] ∧ (Tin c t ∧ c ≤ 100000 ∧ gs ≠ [] ∧ gs.length ≤ 1000) ∧ ∀ x ∈ gs, ∀ t', Tin (c + 1) t' → k (.dat (.int x)) [.own l (t'.map .int), .dat (iL gs)]
theorem sOf_mono : SMono sOf := fun as k k' ⟨l, t, gs, c, e, h, q⟩ w => ⟨l, t, gs, c, e, h, fun x hx t' a => w _ _ (q x hx t' a)⟩
theorem law_of_ok (b : Blt mg) (GT : Df P w K mg base T 1 "_law_take" ["_law_tin", "_law_below_so"] sTake) (F : Fd K mg "_law_of" 60 f fd) : Df P w K mg base T 2 "_law_of" ["_law_tin", "_law_goods_so"] sOf :=
  df_ok F.fn F.mg (bn_law_of F) sc_law_of (fun as k ⟨l, t, gs, c, e, _⟩ => by rw [e]; rfl) fun cdv A outer s H E hr B as k ⟨l, t, gs, c, e, ⟨h1, h2, h3, h4⟩, qq⟩ => by
    subst e
    have nd := nd_law_of
    have hl : 0 < gs.length := List.length_pos_iff.mpr h3
    refine bl_one <| bs_ret <| de_ixL (fun _ _ => rfl) <| dv 1 rfl ⟨_, rfl, de_callM GT sTake_mono (hr.mono (by decide)) rfl <| am 0 rfl <| da_d <| de_len rfl b.len <| sv 1 rfl rfl <| da_nil ⟨by simp [slotsOf], rfl, l, t, c, gs.length, by rw [List.length_map]; rfl, ⟨h1, h2, by omega, by omega⟩, fun d t' d0 d1 ht => ⟨rfl, _, rfl, d, rfl, .int (gs.getD d.toNat 0), ?_, ?_⟩⟩⟩
    · have : d = ((d.toNat : Nat) : Int) := by omega
      rw [this, Int.toNat_natCast]
      exact int_at (by omega)
    · refine ⟨_, back_own 0 (ds := t'.map .int) rfl (back_dat back_nil), qq _ ?_ t' ht⟩
      have hd : d.toNat < gs.length := by omega
      rw [List.getD_eq_getElem?_getD, List.getElem?_eq_getElem hd]
      exact List.getElem_mem hd
def sNum : SD := fun as k => ∃ l t, ∃ c : Nat, as = [.own l (t.map .int)] ∧ (Tin c t ∧ c ≤ 100000) ∧ ∀ x ∈ numL, ∀ t', Tin (c + 1) t' → k (.dat (.int x)) [.own l (t'.map .int)]
theorem sNum_mono : SMono sNum := fun as k k' ⟨l, t, c, e, h, q⟩ w => ⟨l, t, c, e, h, fun x hx t' a => w _ _ (q x hx t' a)⟩
theorem law_number_ok (GO : Df P w K mg base T 2 "_law_of" ["_law_tin", "_law_goods_so"] sOf) (F : Fd K mg "_law_number" 71 f fd) : Df P w K mg base T 3 "_law_number" ["_law_tin"] sNum :=
  df_ok F.fn F.mg (bn_law_number F) sc_law_number (fun as k ⟨l, t, c, e, _⟩ => by rw [e]; rfl) fun cdv A outer s H E hr B as k ⟨l, t, c, e, ⟨h1, h2⟩, qq⟩ => by
    subst e
    refine bl_one <| bs_ret <| de_callM GO sOf_mono (hr.mono (by decide)) rfl <| am 0 rfl <| da_d <| de_new <| dn_lst <| dd_cons <| de_int <| dd_cons <| de_int <| dd_cons <| de_int <| dd_cons <| de_neg <| de_int ⟨_, rfl, dd_cons <| de_int <| dd_cons <| de_int <| dd_cons <| de_int <| dd_cons <| de_neg <| de_int ⟨_, rfl, dd_cons <| de_int <| dd_cons <| de_int <| dd_nil ⟨by simp, da_nil ⟨by simp [slotsOf], rfl, l, t, numL, c, rfl, ⟨h1, h2, by decide, by decide⟩, fun x hx t' ht => ⟨rfl, _, rfl, ?_⟩⟩⟩⟩⟩
    exact ⟨_, back_own 0 (ds := t'.map .int) rfl back_nil, qq x hx t' ht⟩
def HourOk (z h : Int) : Prop := (0 < z → 0 ≤ h ∧ h < z) ∧ (¬ 0 < z → h ∈ numL)
def sHours : SD := fun as k => ∃ l t, ∃ (c n : Nat) (z : Int), as = [.own l (t.map .int), .dat (.int z), .dat (.int n)] ∧ (Tin c t ∧ c + n ≤ 100000 ∧ n ≤ 900 ∧ z < 2 ^ 62) ∧ ∀ hs : List Int, hs.length = n → (∀ h ∈ hs, HourOk z h) → ∀ t', Tin (c + n) t' → k (.dat (iT hs)) [.own l (t'.map .int), .dat (.int z), .dat (.int n)]
theorem sHours_mono : SMono sHours := fun as k k' ⟨l, t, c, n, z, e, h, q⟩ w => ⟨l, t, c, n, z, e, h, fun hs h1 h2 t' a => w _ _ (q hs h1 h2 t' a)⟩
theorem law_hours_ok (b : Blt mg) (GT : Df P w K mg base T 1 "_law_take" ["_law_tin", "_law_below_so"] sTake) (GN : Df P w K mg base T 3 "_law_number" ["_law_tin"] sNum) (F : Fd K mg "_law_hours" 72 f fd) : Df P w K mg base T 4 "_law_hours" ["_law_tin", "_law_size_so", "_law_many_so"] sHours :=
  df_ok F.fn F.mg (bn_law_hours F) sc_law_hours (fun as k ⟨l, t, c, n, z, e, _⟩ => by rw [e]; rfl) fun cdv A outer s H E hr B as k ⟨l, t, c, n, z, e, ⟨h1, h2, h3, h4⟩, qq⟩ => by
    subst e
    have nd := nd_law_hours
    refine bl_one <| bs_ret <| de_tuple rfl b.tuple <| ds_new <| n_lc nd [("_law_k", 3)] (fun _ _ _ _ _ => g1 nd 3) (mn 3) <| di_range1 rfl b.range <| dv 2 rfl ⟨_, rfl, by omega, fun i acc Δ2 => i ≤ n ∧ ∃ (hs : List Int) (t' : List Int), acc = hs.map .int ∧ hs.length = i ∧ (∀ h ∈ hs, HourOk z h) ∧ Tin (c + i) t' ∧ Δ2 = [.own l (t'.map .int), .dat (.int z), .dat (.int n), .non],
      ⟨Nat.zero_le _, [], t, rfl, rfl, by simp, h1, rfl⟩, fun _ _ _ _ => trivial, ?_, by rw [rgD_length, Int.toNat_natCast]; omega, ?_⟩
    · rintro i d acc Δ2 hd ⟨hi, hs, t', rfl, hl, ho, ht, rfl⟩
      have hin : i < n := by
        have := (List.getElem?_eq_some_iff.mp hd).1
        rw [rgD_length, Int.toNat_natCast] at this; exact this
      have step : ∀ (x : Int) (t2 : List Int), HourOk z x → Tin (c + i + 1) t2 → i + 1 ≤ n ∧ ∃ (hs2 : List Int) (t' : List Int), hs.map .int ++ [PyData.int x] = hs2.map .int ∧ hs2.length = i + 1 ∧ (∀ h ∈ hs2, HourOk z h) ∧ Tin (c + (i + 1)) t' ∧ [En.own l (t2.map .int), .dat (.int z), .dat (.int n), .non] = [.own l (t'.map .int), .dat (.int z), .dat (.int n), .non] := fun x t2 hx ht2 =>
        ⟨hin, hs ++ [x], t2, by simp, by simp [hl], fun h hh => by
          rcases List.mem_append.mp hh with q | q
          · exact ho h q
          · rw [List.mem_singleton.mp q]; exact hx, ht2, rfl⟩
      show TurnD _ _ _ _ _ _ _ _ _
      intro s H C cl fp
      refine de_if <| dt_gt <| dv 1 rfl ⟨_, rfl, de_int ⟨_, rfl, fun hz => ?_, fun hz => ?_⟩⟩
      · have hz : 0 < z := of_decide_eq_true hz
        refine de_callM GT sTake_mono (hr.mono (by decide)) rfl <| am 0 rfl <| da_d <| dv 1 rfl <| da_nil ⟨by simp [slotsOf], rfl, l, t', c + i, z, rfl, ⟨ht, by omega, hz, by omega⟩, fun d t2 d0 d1 ht2 => ⟨rfl, _, rfl, ?_⟩⟩
        exact step d t2 ⟨fun _ => ⟨d0, d1⟩, fun h => absurd hz h⟩ ht2
      · have hz : ¬ 0 < z := of_decide_eq_false hz
        refine de_callM GN sNum_mono (hr.mono (by decide)) rfl <| am 0 rfl <| da_nil ⟨by simp [slotsOf], rfl, l, t', c + i, rfl, ⟨ht, by omega⟩, fun x hx t2 ht2 => ⟨rfl, _, rfl, ?_⟩⟩
        exact step x t2 ⟨fun h => absurd h hz, fun _ => hx⟩ ht2
    · rintro acc Δ2 ⟨_, hs, t', rfl, hl, ho, ht, rfl⟩
      rw [rgD_length, Int.toNat_natCast] at hl ht
      exact ⟨_, back_own 0 (ds := t'.map .int) rfl (back_dat (back_dat back_nil)), qq hs hl ho t' ht⟩
end
end Wk

set_option Elab.async false
set_option linter.all false
set_option maxRecDepth 100000
set_option maxHeartbeats 1000000
namespace Wk
open PySem PySem.Spec PyProof.Rows L2 NdefX DL
section
variable {T : List NTab} {X : Cx} {Δ : List En} {e : Expr} {Q : QD} {pos p2 p3 : Pos}
theorem pp (i : Nat) {x : Str} (hd : ∃ l ds, Δ[i]? = some (.own l ds)) (h : DE T X Δ e (isI fun j Δ1 => ∃ l ds d, Δ1[i]? = some (.own l ds) ∧ 0 ≤ j ∧ j < 2 ^ 62 ∧ ds[j.toNat]? = some d ∧ Q d (Δ1.set i (.own l (ds.eraseIdx j.toNat)))))
    (hN : X.N[i]? = some x := by rfl) (hv : Vis X.env.scope x := by first | exact Or.inl rfl | exact Or.inr (Or.inl rfl) | exact Or.inr (Or.inr rfl)) (he : starEach [e] X.env = (false, eval e X.env) :: starEach [] X.env := by rfl)
    (hbase : ∀ {to : TE} {t : TA}, PE X (.Name x p2) to → PA X [e] t → PE X (.Call (.Attribute (.Name x p2) "pop" p3) [e] [] pos) (tBM X.K "list" rPopAt to t) := by exact fun ho ha => pe_bm PySem.F.plainAttrs_list PySem.F.slot_list_pop PySem.F.type_list_pop mt_popAt ho ha)
    (h1 : (x == ("__debug__" : Str)) = false := by decide) (h2 : (x == ("__classdict__" : Str)) = false := by decide) : DE T X Δ (.Call (.Attribute (.Name x p2) "pop" p3) [e] [] pos) Q := de_pop hN hv hd h hbase he h1 h2
end
theorem erase_perm {α : Type} : ∀ (l : List α) (i : Nat) (x : α), l[i]? = some x → (x :: l.eraseIdx i).Perm l
  | [], i, x, h => by simp at h
  | a :: l, 0, x, h => by simp at h; subst h; exact List.Perm.refl _
  | a :: l, i + 1, x, h => by
    have := erase_perm l i x (by simpa using h)
    exact (List.Perm.swap a x _).trans (this.cons a)
theorem map_erase {α β : Type} (g : α → β) : ∀ (l : List α) (i : Nat), (l.map g).eraseIdx i = (l.eraseIdx i).map g
  | [], i => rfl
  | a :: l, 0 => rfl
  | a :: l, i + 1 => congrArg (g a :: ·) (map_erase g l i)
section
variable {P : Program} {w : World} {K : DL.Frag} {mg : Str → Option Value} {base : Heap} {T : List NTab} {f : Addr} {fd : FuncData} {C : Addr}
def sPick : SD := fun as k => ∃ l t rows, ∃ (c cnt : Nat), as = [.own l (t.map .int), .dat (tL rows), .dat (.int cnt)] ∧ (Tin c t ∧ c + cnt ≤ 100000 ∧ cnt ≤ 900 ∧ rows.length ≤ 900) ∧
  ∀ (fo po : List (List Int)) (t' : List Int), (fo ++ po).Perm rows → fo.length ≤ cnt → Tin (c + cnt) t' → ∀ l', k (.own l' (fo.map iT)) [.own l (t'.map .int), .dat (tL rows), .dat (.int cnt)]
theorem sPick_mono : SMono sPick := fun as k k' ⟨l, t, rows, c, cnt, e, h, q⟩ w => ⟨l, t, rows, c, cnt, e, h, fun fo po t' h1 h2 h3 l' => w _ _ (q fo po t' h1 h2 h3 l')⟩
theorem law_pick_ok (b : Blt mg) (GT : Df P w K mg base T 1 "_law_take" ["_law_tin", "_law_below_so"] sTake) (F : Fd K mg "_law_pick" 61 f fd) : Df P w K mg base T 2 "_law_pick" ["_law_tin", "_law_goods_so", "_law_count_so"] sPick :=
  df_ok F.fn F.mg (bn_law_pick F) sc_law_pick (fun as k ⟨l, t, rows, c, cnt, e, _⟩ => by rw [e]; rfl) fun cdv A outer s H E hr B as k ⟨l, t, rows, c, cnt, e, ⟨h1, h2, h3, h4⟩, qq⟩ => by
    subst e
    have nd := nd_law_pick
    refine bl_cons <| bs_par2 (i := 3) (j := 4) rfl nd rfl rfl (by decide) rfl rfl (da_n <| dn_list rfl b.list <| ds_lst <| dv 1 rfl ⟨_, rfl, fun lp => da_n <| dn_lst <| dd_nil ⟨by simp, fun lf => da_nil ⟨_, _, rfl, trivial, trivial, fun nm => ?_⟩⟩⟩) (by rfl)
    have nmf := (nm lf [] (.inr rfl)).1
    have em : ∀ a b : Nat, (if (b : Int) < (a : Int) then (b : Int) else (a : Int)) = ((min a b : Nat) : Int) := fun a b => by split <;> omega
    refine bl_cons <| bs_forJ (β := List (List Int) × List (List Int) × List Int) PassesOwn.never rfl (mn 5) (g1 nd 5) [5] (List.range (min cnt rows.length)) (fun i => .int ((0 : Int) + (i : Nat))) (fun st => [.own l (st.2.2.map .int), .dat (tL rows), .dat (.int cnt), .own lp (st.2.1.map iT), .own lf (st.1.map iT), .non])
      (fun rest st => (st.1 ++ st.2.1).Perm rows ∧ st.1.length + rest.length = min cnt rows.length ∧ Tin (c + st.1.length) st.2.2)
      <| di_range1 rfl b.range <| de_min rfl rfl b.min <| de_intC rfl b.int <| dv 2 rfl ⟨_, rfl, _, rfl, de_len rfl b.len <| sv 3 rfl rfl ⟨_, rfl, _, rfl, ?_, ?_, ⟨([], rows, t), rfl, by simpa using List.Perm.refl rows, by simp, h1⟩, fun _ => trivial, ?_, ?_⟩⟩
    · rw [List.length_map, em]; omega
    · rw [List.length_map, em, Int.toNat_natCast]; rfl
    · rintro i rest ⟨fo, po, t1⟩ ⟨f1, f2, f3⟩
      have f1 : (fo ++ po).Perm rows := f1
      have f2 : fo.length + (rest.length + 1) = min cnt rows.length := f2
      have f3 : Tin (c + fo.length) t1 := f3
      have hl := f1.length_eq
      rw [List.length_append] at hl
      have hpo : 0 < po.length := by omega
      refine bl_one <| ap 4 ⟨_, _, rfl⟩ <| pp 3 ⟨_, _, rfl⟩ <| de_callM GT sTake_mono (hr.mono (by decide)) rfl <| am 0 rfl <| da_d <| de_len rfl b.len <| sv 3 rfl rfl <| da_nil ⟨by simp [slotsOf], rfl, l, t1, c + fo.length, po.length, by rw [List.length_map]; rfl, ⟨f3, by omega, by omega, by omega⟩, fun d t2 d0 d1 ht => ⟨rfl, _, rfl, d, rfl, lp, po.map iT, iT (po.getD d.toNat []), rfl, d0, by omega, ?_, lf, fo.map iT, rfl, by rw [List.length_map]; omega, ?_⟩⟩
      · have hd : d.toNat < po.length := by omega
        rw [List.getElem?_map, List.getD_eq_getElem?_getD, List.getElem?_eq_getElem hd]; rfl
      · have hd : d.toNat < po.length := by omega
        have eg : po[d.toNat]? = some (po.getD d.toNat []) := by rw [List.getD_eq_getElem?_getD, List.getElem?_eq_getElem hd]; rfl
        rw [map_erase]
        refine ⟨(fo ++ [po.getD d.toNat []], po.eraseIdx d.toNat, t2), by rw [List.map_append]; rfl, ?_, by rw [List.length_append]; show fo.length + 1 + rest.length = _; omega, by rw [List.length_append]; exact ht⟩
        show ((fo ++ [po.getD d.toNat []]) ++ po.eraseIdx d.toNat).Perm rows
        rw [List.append_assoc]
        exact ((erase_perm po _ _ eg).append_left fo).trans f1
    · rintro ⟨fo, po, t1⟩ ⟨f1, f2, f3⟩
      have f2 : fo.length + 0 = min cnt rows.length := f2
      refine bl_one <| bs_retO (i := 4) rfl (.inl rfl) rfl nmf ⟨_, back_own 0 (ds := t1.map .int) rfl (back_dat (back_dat back_nil)), qq fo po t1 f1 (by omega) (Tin.mono f3 (by show c + fo.length ≤ _; omega)) lf⟩
def sBox : SD := fun as k => ∃ cs : List Int, as = [.dat (iL cs), .dat (.int 0)] ∧ cs ≠ [] ∧ ∀ l t, Tin 0 t → k (.own l (t.map .int)) as
theorem sBox_mono : SMono sBox := fun as k k' ⟨cs, e, h, q⟩ w => ⟨cs, e, h, fun l t ht => w _ _ (q l t ht)⟩
theorem law_box_ok (b : Blt mg) (F : Fd K mg "_law_box" 57 f fd) : Df P w K mg base T 1 "_law_box" ["_law_script", "_law_k"] sBox :=
  df_ok F.fn F.mg (bn_law_box F) sc_law_box (fun as k ⟨cs, e, _⟩ => by rw [e]; rfl) fun cdv A outer s H E hr B as k ⟨cs, e, h1, qq⟩ => by
    subst e
    have nd := nd_law_box
    cases cs with
    | nil => exact absurd rfl h1
    | cons c0 cs =>
      refine bl_cons <| bs_set nd (i := 2) rfl (.inl rfl) <| DE.mono (Q := fun d Δ' => d = .int c0 ∧ Δ' = [.dat (iL (c0 :: cs)), .dat (.int 0), .non]) (de_if <| dt_lt <| dv 1 rfl ⟨_, rfl, de_len rfl b.len <| sv 0 rfl rfl ⟨_, rfl, fun hc => ?_, fun hc => ?_⟩⟩) fun d Δ' ⟨ed, eΔ⟩ => ?_
      · exact de_ixL (fun _ _ => rfl) <| dv 0 rfl ⟨_, rfl, dv 1 rfl ⟨_, rfl, .int c0, int_at (xs := c0 :: cs) (i := 0) (by simp), rfl, rfl⟩⟩
      · have hc : ¬ (0 : Int) < (((c0 :: cs).map PyData.int).length : Int) := of_decide_eq_false hc
        rw [List.length_map, List.length_cons] at hc
        omega
      · subst ed eΔ
        have nn : (0 : Int) ≤ (if c0 < 0 then -c0 else c0) := by split <;> omega
        refine bl_one <| bs_retN <| dn_lst <| dd_cons <| de_mul <| de_abs rfl b.abs <| dv 2 rfl ⟨_, rfl, _, rfl, de_intC rfl b.int <| de_ge <| de_abs rfl b.abs <| dv 2 rfl ⟨_, rfl, _, rfl, de_pow <| de_int ⟨_, rfl, de_int ⟨_, rfl, ⟨by decide, by decide, by decide⟩, _, rfl, _, rfl, _, rfl, ?_, dd_cons <| de_add <| de_add <| de_mod <| de_intC rfl b.int <| dv 2 rfl ⟨_, rfl, _, rfl, de_int ⟨_, rfl, by decide, _, rfl, de_mul <| de_int ⟨_, rfl, dv 1 rfl ⟨_, rfl, mul_small (by decide), _, rfl, _, rfl, de_int ⟨_, rfl, dd_cons <| de_int <| dd_nil ⟨by simp, fun l => ?_⟩⟩⟩⟩⟩⟩⟩⟩⟩⟩
        · have q : ∀ p : Bool, (if p = true then (1 : Int) else 0).natAbs < 2 ^ 63 := by intro p; cases p <;> decide
          exact mul_r (q _)
        · have m1 : 0 ≤ c0.fmod 2305843009213693951 := Int.fmod_nonneg_of_pos _ (by decide)
          have m2 : c0.fmod 2305843009213693951 < 2305843009213693951 := Int.fmod_lt_of_pos _ (by decide)
          refine ⟨_, back_dat (back_dat back_nil), qq l [_, _, 0] ⟨_, _, _, rfl, ?_, ?_, ?_, by decide, by decide⟩⟩
          · have q : ∀ p : Bool, (0 : Int) ≤ (if p = true then (1 : Int) else 0) := by intro p; cases p <;> decide
            exact Int.mul_nonneg nn (q _)
          · omega
          · omega
def sCells : SD := fun as k => ∃ ns : List Int, as = [.dat (iL ns), .dat (.int 1)] ∧ ns.length ≤ 63 ∧ ∀ l cs, cs ≠ [] → k (.own l (cs.map .int)) as
theorem sCells_mono : SMono sCells := fun as k k' ⟨ns, e, h, q⟩ w => ⟨ns, e, h, fun l cs hc => w _ _ (q l cs hc)⟩
theorem law_cells_ok (b : Blt mg) (F : Fd K mg "_law_cells" 59 f fd) : Df P w K mg base T 1 "_law_cells" ["_law_script", "_law_most_so"] sCells :=
  df_ok F.fn F.mg (bn_law_cells F) sc_law_cells (fun as k ⟨ns, e, _⟩ => by rw [e]; rfl) fun cdv A outer s H E hr B as k ⟨ns, e, h1, qq⟩ => by
    subst e
    have nd := nd_law_cells
    have c1 : DL.cutD (ns.map PyData.int) none (some (1 : Int)) = (ns.take 1).map .int := by rw [show (1 : Int) = ((1 : Nat) : Int) from rfl, cut_to, List.map_take]
    have c2 : ∃ ms : List Int, DL.cutD (ns.map PyData.int) (some (1 : Int)) (some (63 : Int)) = ms.map .int ∧ ms.length ≤ 63 := by
      refine ⟨DL.cutD ns (some 1) (some 63), ?_, ?_⟩
      · unfold DL.cutD
        rw [List.length_map, List.map_take, List.map_drop]
      · unfold DL.cutD
        rw [List.length_take, List.length_drop]; omega
    obtain ⟨ms, c2, c3⟩ := c2
    -- the first ones
    have fin : ∀ (l : Addr) (c0 : Int), ¬ isMut [En.dat (iL ns), .dat (.int 1)] l → BL ⟨T, [.dat (iL ns), .dat (.int 1)], B, H⟩ (cxD P w K mg base N_law_cells "_law_cells" (defScope (Hd.top 59)) f cdv A outer s H E) [.dat (iL ns), .dat (.int 1), .own l ([c0].map .int), .non, .non, .non] ((defBody (Hd.top 59)).drop 1) (rtB [.dat (iL ns), .dat (.int 1)] k) := fun l c0 nm => by
      refine bl_cons <| bs_forJ (β := Int) PassesOwn.never rfl (mono_2 (mn 3) (mn 4)) (dg_2 rfl (mn 3) (mn 4) (g1 nd 3) (g1 nd 4)) [3, 4, 5] ms.zipIdx (fun p => .tuple [.int (p.2 : Nat), .int p.1]) (fun c => [.dat (iL ns), .dat (.int 1), .own l ([c].map .int), .non, .non, .non]) (fun rest _ => ∀ p ∈ rest, p.2 < 100)
        <| di_enum rfl b.enumerate <| de_new <| dn_slL <| dv 0 rfl ⟨_, rfl, do_some <| dv 1 rfl ⟨_, rfl, do_some <| de_int ⟨_, rfl, ?_⟩⟩⟩
      dsimp only
      rw [c2]
      refine ⟨_, _, rfl, enumD_map .int ms, ⟨c0, rfl, fun p hp => ?_⟩, fun _ => trivial, ?_, ?_⟩
      · have h2 := List.mem_zipIdx_iff_getElem?.mp hp
        have := (List.getElem?_eq_some_iff.mp h2).1
        omega
      · rintro ⟨x, i⟩ rest c hj
        have hi : i < 100 := hj _ List.mem_cons_self
        refine ⟨_, _, rfl, ?_⟩
        have m0 : ((i : Nat) : Int).fmod 1 = ((0 : Nat) : Int) := by simp
        refine bl_cons <| bs_set nd (i := 5) rfl (.inl rfl) <| de_mod <| de_intC rfl b.int <| dv 3 rfl ⟨_, rfl, _, rfl, dv 1 rfl ⟨_, rfl, by decide, ?_⟩⟩
        rw [m0]
        refine bl_one <| bs_asg mono_s (gs 2) <| de_add <| xv 2 rfl rfl <| dv 5 rfl ⟨_, rfl, rfl, _, int_at (xs := [c]) (i := 0) (by simp), _, rfl, de_mul <| dv 4 rfl ⟨_, rfl, de_add <| dv 3 rfl ⟨_, rfl, de_int ⟨_, rfl, _, rfl, mul_r (by omega), _, rfl, ⟨_, _, rfl⟩, dv 5 rfl ⟨_, rfl, l, _, 0, rfl, by rfl, ?_⟩⟩⟩⟩⟩
        exact ⟨_, rfl, fun p hp => hj p (List.mem_cons_of_mem _ hp)⟩
      · rintro c _
        exact bl_one <| bs_retO (i := 2) rfl (.inl rfl) rfl nm ⟨_, back_dat (back_dat back_nil), qq l [c] (by simp)⟩
    refine bl_cons <| bs_setN nd (i := 2) rfl (.inl rfl) <| dn_or <| dn_list rfl b.list <| ds_new <| dn_slL <| dv 0 rfl ⟨_, rfl, do_none <| do_some <| dv 1 rfl ⟨_, rfl, ?_⟩⟩
    dsimp only
    rw [c1]
    refine ⟨fun hne => ?_, fun he => ?_⟩
    · intro l nm _
      cases ns with
      | nil => exact absurd rfl hne
      | cons a t => exact fin l a nm
    · exact dn_lst <| dd_cons <| de_int <| dd_nil ⟨by simp, fun l nm _ => fin l 0 nm⟩
end
end Wk

set_option Elab.async false
set_option linter.all false
set_option maxRecDepth 100000
set_option maxHeartbeats 1000000
namespace Wk
open PySem PySem.Spec PyProof.Rows L2 NdefX DL
def hasP (parts : List (List Nat)) (x : Nat) : List (List Nat) := parts.filter fun o => o.contains x
def lbStep (st : Option (List (List Nat) × List Nat)) (p : (Nat × Nat) × Nat) : Option (List (List Nat) × List Nat) := match st with
  | none => none
  | some (ps, fo) => match hasP ps p.1.1, hasP ps p.1.2 with
    | one :: _, two :: _ => if one = two then some (ps, fo) else some (ps.filter (fun o => !(decide (one = o) || decide (two = o))) ++ [one ++ two], fo ++ [p.2])
    | _, _ => none
def lawBr (n : Nat) (ties : Ties) : Option (List Nat) := (ties.zipIdx.foldl lbStep (some ((List.range n).map fun k => [k], []))).map (·.2)
def wayLoop (rec : Nat → List Nat → Option (Option (List Int))) (ties : Ties) (fr : Nat) (gone : List Nat) : List Nat → Option (Option (List Int))
  | [] => some none
  | i :: is => match ties[i]? with
    | none => none
    | some (a, t) => if (a = fr ∨ t = fr) ∧ gone.contains i = false then
        match rec (if a = fr then t else a) (gone ++ [i]) with
        | none => none
        | some none => wayLoop rec ties fr gone is
        | some (some r) => some (some (addR r (scal (oneAt i ties.length) (if a = fr then 1 else -1))))
      else wayLoop rec ties fr gone is
def lawWay (ties : Ties) (br : List Nat) (to : Nat) : Nat → Nat → List Nat → Option (Option (List Int))
  | 0, _, _ => none
  | f + 1, fr, gone => if fr = to then some (some (zerR ties.length)) else wayLoop (lawWay ties br to f) ties fr gone br
def lrStep (ties : Ties) (br : List Nat) (st : Option (List (List Int))) (p : (Nat × Nat) × Nat) : Option (List (List Int)) := match st with
  | none => none
  | some fo => if br.contains p.2 then some fo else match lawWay ties br p.1.1 4 p.1.2 [] with
    | some (some r) => some (fo ++ [addR (oneAt p.2 ties.length) r])
    | _ => none
def lawRings (n : Nat) (ties : Ties) : Option (List (List Int)) := match lawBr n ties with
  | none => none
  | some br => ties.zipIdx.foldl (lrStep ties br) (some [])
theorem eqv_nL (a b : List Nat) : PyData.eqv (nL a) (nL b) = decide (a = b) := by
  rw [nL_iL, nL_iL, eqv_iL]
  refine decide_eq_decide.mpr ⟨fun h => ?_, fun h => by rw [h]⟩
  exact (List.map_inj_right fun x y e => by omega).mp h
theorem shaped_nL2 (a b : List Nat) : SeqAt.shaped (.tuple [nL a, nL b]) = true := by
  rw [nL_iL, nL_iL]
  unfold SeqAt.shaped
  rw [PyData.canLay0, PyData.canLayAll0, PyData.canLayAll0, PyData.canLayAll0, PyData.canLay0, PyData.canLay0, canLay_ints, canLay_ints, PyData.depth, PyData.depthAll, PyData.depthAll, PyData.depthAll, PyData.depth, PyData.depth, depth_ints, depth_ints]; rfl
theorem lbFold_none (l : List ((Nat × Nat) × Nat)) : l.foldl lbStep none = none := by
  induction l with
  | nil => rfl
  | cons a t ih => exact ih
theorem lrFold_none (ties : Ties) (br : List Nat) (l : List ((Nat × Nat) × Nat)) : l.foldl (lrStep ties br) none = none := by
  induction l with
  | nil => rfl
  | cons a t ih => exact ih
theorem hasP_mem {ps : List (List Nat)} {x : Nat} {one : List Nat} {t : List (List Nat)} (h : hasP ps x = one :: t) : one ∈ ps := (List.mem_filter.mp (by rw [show ps.filter (fun o => o.contains x) = one :: t from h]; exact List.mem_cons_self)).1
section
variable {P : Program} {w : World} {K : DL.Frag} {mg : Str → Option Value} {base : Heap} {T : List NTab} {f : Addr} {fd : FuncData} {C : Addr}
abbrev pLB : List DL.D → List DL.D → Prop := fun ds r => ∃ ties cells br, ∃ n : Nat, ds = [webD n ties cells] ∧ (n ≤ 10 ∧ ties.length ≤ 10 ∧ lawBr n ties = some br) ∧ r = br.map fun i => .int (i : Nat)
theorem law_branches_ok (b : Blt mg) (F : Fd K mg "_law_branches" 73 f fd) : Df P w K mg base T 1 "_law_branches" ["_law_web_so"] (SL 1 pLB) :=
  dl_ok F.fn F.mg (bn_law_branches F) sc_law_branches rfl fun cdv A outer s H E hr B ds r hn h => by
    obtain ⟨ties, cells, br, n, rfl, ⟨h1, h2, h3⟩, rfl⟩ := h
    have nd := nd_law_branches
    refine bl_cons <| bs_par2 (i := 1) (j := 2) rfl nd rfl rfl (by decide) rfl rfl (da_d <| de_new <| n_lc nd [("_law_k", 8)] (fun _ _ _ _ _ => g1 nd 8) (mn 8) <| di_range1 rfl b.range <| de_ixT (fun _ _ => rfl) <| dv 0 rfl ⟨_, rfl, de_int ⟨_, rfl, .int n, rfl, _, rfl, by omega, lc_map (List.range n) (fun i => .int (0 + (i : Nat))) (fun i => nL [i]) _ rfl trivial rfl (mn 8)
      (fun i hi s H C cl fp => de_new <| dn_lst <| dd_cons <| dv 8 rfl <| dd_nil ⟨by simp, by rw [Int.zero_add]; rfl, rfl⟩) (by simp; omega) (da_n <| dn_lst <| dd_nil ⟨by simp, fun l => da_nil ⟨_, _, rfl, trivial, trivial, fun nm => ?_⟩⟩)⟩⟩) (by rfl)
    have nml := (nm l [] (.inr rfl)).1
    have e0 : (List.range n).map (fun i => nL [i]) = ((List.range n).map fun k => [k]).map nL := by rw [List.map_map]; rfl
    rw [e0]
    unfold lawBr at h3
    refine bl_cons <| bs_forJ (β := List (List Nat) × List Nat) PassesOwn.never rfl (mono_2 (mn 3) (mono_2 (mn 4) (mn 5))) (dg_2 rfl (mn 3) (mono_2 (mn 4) (mn 5)) (g1 nd 3) (dg_2 rfl (mn 4) (mn 5) (g1 nd 4) (g1 nd 5))) [3, 4, 5, 6, 7, 8, 9] ties.zipIdx (fun p => .tuple [.int (p.2 : Nat), tieD1 p.1]) (fun st => [.dat (webD n ties cells), .dat (.list (st.1.map nL)), .own l (st.2.map fun i => .int (i : Nat)), .non, .non, .non, .non, .non, .non, .non])
      (fun rest st => st.1.length ≤ 10 ∧ (∀ o ∈ st.1, o.length ≤ 2 ^ (10 - rest.length)) ∧ rest.length ≤ 10 ∧ st.2.length + rest.length ≤ 10 ∧ (rest.foldl lbStep (some st)).map (·.2) = some br)
      <| di_enum rfl b.enumerate <| de_ixT (fun _ _ => rfl) <| dv 0 rfl ⟨_, rfl, de_int ⟨_, rfl, tieD ties, rfl, _, _, rfl, enumD_map tieD1 ties, ⟨((List.range n).map fun k => [k], []), rfl, by simpa using h1, fun o ho => ?_, by simpa using h2, by simpa using h2, h3⟩, fun _ => trivial, ?_, ?_⟩⟩
    · obtain ⟨k, _, rfl⟩ := List.mem_map.mp ho
      exact Nat.one_le_two_pow
    · rintro ⟨⟨a, t⟩, i⟩ rest ⟨ps, fo⟩ ⟨f1, f2, f3, f4, f5⟩
      have f1 : ps.length ≤ 10 := f1
      have f3 : rest.length + 1 ≤ 10 := f3
      have f4 : fo.length + (rest.length + 1) ≤ 10 := f4
      have f2 : ∀ o ∈ ps, o.length ≤ 2 ^ (10 - (rest.length + 1)) := f2
      rw [List.foldl_cons] at f5
      have hps : ∀ o ∈ ps, o.length ≤ 1000 := fun o ho => Nat.le_trans (f2 o ho) (by
        have : 2 ^ (10 - (rest.length + 1)) ≤ 2 ^ 9 := Nat.pow_le_pow_right (by decide) (by omega)
        omega)
      refine ⟨_, _, rfl, ⟨_, _, rfl, ?_⟩⟩
      obtain ⟨one, t1, two, t2, ho, ht⟩ : ∃ one t1 two t2, hasP ps a = one :: t1 ∧ hasP ps t = two :: t2 := by
        cases e1 : hasP ps a with
        | nil =>
          have : lbStep (some (ps, fo)) ((a, t), i) = none := by unfold lbStep; dsimp only; rw [e1]
          rw [this, lbFold_none] at f5; cases f5
        | cons one t1 =>
          cases e2 : hasP ps t with
          | nil =>
            have : lbStep (some (ps, fo)) ((a, t), i) = none := by unfold lbStep; dsimp only; rw [e1, e2]
            rw [this, lbFold_none] at f5; cases f5
          | cons two t2 => exact ⟨one, t1, two, t2, rfl, rfl⟩
      have inP : ∀ (x : Nat) (one : List Nat) (t1 : List (List Nat)), hasP ps x = one :: t1 → atI ((ps.filter fun o => o.contains x).map nL) (0 : Int) = some (nL one) := fun x one t1 h => by
        rw [show ps.filter (fun o => o.contains x) = one :: t1 from h]
        exact (atI_nat (xs := nL one :: t1.map nL) (j := 0) rfl : atI _ ((0 : Nat) : Int) = _)
      refine bl_cons <| bs_asg (mono_2 (mn 6) (mn 7)) (dg_2 rfl (mn 6) (mn 7) (g1 nd 6) (g1 nd 7)) <| de_tup <| dd_cons <| de_ixL (fun _ _ => rfl) <| de_new <| n_lc nd [("_law_own", 9)] (fun _ _ _ _ _ => g1 nd 9) (mn 9) <| di_lst <| dv 1 rfl ⟨_, rfl, lc_fil ps nL nL (fun o => o.contains a) _ rfl trivial rfl (mn 9)
        (fun o ho' s H C cl fp => dt_in (u65 hr) rfl <| dv 4 rfl <| dv 9 rfl ⟨false, _, rfl, rfl, shaped_nL _, by rw [any_nat], fun _ s H C cl fp => dv 9 rfl ⟨rfl, rfl⟩, fun _ => rfl⟩) (by omega) ⟨_, rfl, de_int ⟨_, rfl, nL one, inP a one t1 ho, dd_cons <| de_ixL (fun _ _ => rfl) <| de_new <| n_lc nd [("_law_own", 9)] (fun _ _ _ _ _ => g1 nd 9) (mn 9) <| di_lst <| dv 1 rfl ⟨_, rfl, lc_fil ps nL nL (fun o => o.contains t) _ rfl trivial rfl (mn 9)
        (fun o ho' s H C cl fp => dt_in (u65 hr) rfl <| dv 5 rfl <| dv 9 rfl ⟨false, _, rfl, rfl, shaped_nL _, by rw [any_nat], fun _ s H C cl fp => dv 9 rfl ⟨rfl, rfl⟩, fun _ => rfl⟩) (by omega) ⟨_, rfl, de_int ⟨_, rfl, nL two, inP t two t2 ht, dd_nil ⟨by simp, _, _, rfl, ?_⟩⟩⟩⟩⟩⟩⟩
      have es : lbStep (some (ps, fo)) ((a, t), i) = if one = two then some (ps, fo) else some (ps.filter (fun o => !(decide (one = o) || decide (two = o))) ++ [one ++ two], fo ++ [i]) := by
        unfold lbStep; dsimp only; rw [ho, ht]
      have m1 := hasP_mem ho
      have m2 := hasP_mem ht
      have l1 := hps one m1
      have l2 := hps two m2
      refine bl_one <| bs_if <| dt_ne hr.units <| dv 6 rfl <| dv 7 rfl ⟨shaped_nL _, shaped_nL _, fun hne => ?_, fun heq => bl_nil ?_⟩
      · rw [eqv_nL] at hne
        have hne : one ≠ two := by simpa using hne
        rw [if_neg hne] at es
        rw [es] at f5
        have fl : ((ps.filter fun o => !(decide (one = o) || decide (two = o)))).length ≤ ps.length := List.length_filter_le _ _
        have fl2 : ((ps.filter fun o => !(decide (one = o) || decide (two = o)))).length < ps.length := by
          rcases Nat.lt_or_ge ((ps.filter fun o => !(decide (one = o) || decide (two = o)))).length ps.length with q | q
          · exact q
          · have := List.length_filter_eq_length_iff.mp (Nat.le_antisymm fl q) one m1
            simp at this
        refine bl_cons <| bs_set nd (i := 1) rfl (by first | exact .inl rfl | exact .inr rfl) <| de_new <| dn_cat <| de_new <| n_lc nd [("_law_own", 9)] (fun _ _ _ _ _ => g1 nd 9) (mn 9) <| di_lst <| dv 1 rfl ⟨_, rfl, lc_fil ps nL nL (fun o => !(decide (one = o) || decide (two = o))) _ rfl trivial rfl (mn 9)
          (fun o ho' s H C cl fp => dt_notIn (u65 hr) rfl <| dv 9 rfl <| de_tup <| dd_cons <| dv 6 rfl <| dd_cons <| dv 7 rfl <| dd_nil ⟨by simp, true, _, rfl, shaped_nL _, shaped_nL2 _ _, by rw [List.any_cons, List.any_cons, List.any_nil, eqv_nL, eqv_nL, Bool.or_false], fun _ s H C cl fp => dv 9 rfl ⟨rfl, rfl⟩, fun _ => rfl⟩) (by omega)
          ⟨_, rfl, de_new <| dn_lst <| dd_cons <| de_new <| dn_cat <| dv 6 rfl ⟨_, rfl, dv 7 rfl ⟨_, rfl, by rw [List.length_map, List.length_map]; omega, dd_nil ⟨by simp, _, rfl, by rw [List.length_map]; show _ + 1 ≤ 10000; omega, ?_⟩⟩⟩⟩⟩
        have en : (one.map fun i => PyData.int (i : Nat)) ++ (two.map fun i => PyData.int (i : Nat)) = (one ++ two).map fun i => .int (i : Nat) := List.map_append.symm
        refine bl_one <| ap 2 ⟨_, _, rfl⟩ <| dv 3 rfl ⟨l, _, rfl, by rw [List.length_map]; omega, ?_⟩
        refine ⟨(ps.filter (fun o => !(decide (one = o) || decide (two = o))) ++ [one ++ two], fo ++ [i]), by rw [List.map_append, List.map_append]; show _ = [_, _, _, _, _, _, _, _, _, _]; rw [en]; rfl, ?_, ?_, by omega, ?_, f5⟩
        · show (ps.filter (fun o => !(decide (one = o) || decide (two = o))) ++ [one ++ two]).length ≤ 10
          rw [List.length_append]; show _ + 1 ≤ 10; omega
        · intro o ho'
          have pw : 2 ^ (10 - rest.length) = 2 * 2 ^ (10 - (rest.length + 1)) := by
            rw [show 10 - rest.length = (10 - (rest.length + 1)) + 1 by omega, Nat.pow_succ]; omega
          rcases List.mem_append.mp ho' with q | q
          · have := f2 o (List.mem_filter.mp q).1; omega
          · rw [List.mem_singleton.mp q, List.length_append]
            have q1 := f2 one m1
            have q2 := f2 two m2
            omega
        · show (fo ++ [i]).length + rest.length ≤ 10
          rw [List.length_append]; show fo.length + 1 + rest.length ≤ 10; omega
      · rw [eqv_nL] at heq
        have heq : one = two := by simpa using heq
        rw [if_pos heq] at es
        rw [es] at f5
        refine ⟨(ps, fo), rfl, f1, fun o ho' => ?_, by omega, by show fo.length + rest.length ≤ 10; omega, f5⟩
        have pw : 2 ^ (10 - rest.length) = 2 * 2 ^ (10 - (rest.length + 1)) := by
          rw [show 10 - rest.length = (10 - (rest.length + 1)) + 1 by omega, Nat.pow_succ]; omega
        have := f2 o ho'; omega
    · rintro ⟨ps, fo⟩ ⟨_, _, _, _, f5⟩
      have f5 : some fo = some br := f5
      cases f5
      exact bl_one <| bs_retO (i := 2) rfl (.inl rfl) rfl nml ⟨l, rfl⟩
end
end Wk

set_option Elab.async false
set_option linter.all false
set_option maxRecDepth 100000
set_option maxHeartbeats 1000000
namespace Wk
open PySem PySem.Spec PyProof.Rows L2 NdefX DL
theorem shaped_tie (a t : Nat) : SeqAt.shaped (.tuple [.int a, .int t]) = true := shaped_iT [(a : Int), (t : Int)]
theorem wayLoop_len {rec : Nat → List Nat → Option (Option (List Int))} {ties : Ties} {fr : Nat} {gone : List Nat} : ∀ {is : List Nat} {r : List Int}, wayLoop rec ties fr gone is = some (some r) → r.length ≤ ties.length
  | [], r, h => by cases h
  | i :: is, r, h => by
    unfold wayLoop at h
    split at h
    · cases h
    · split at h
      · split at h
        · cases h
        · exact wayLoop_len h
        · cases h
          rw [addR_length, scal_length, oneAt_length]; omega
      · exact wayLoop_len h
theorem lawWay_len {ties : Ties} {br : List Nat} {to : Nat} : ∀ {g fr : Nat} {gone : List Nat} {r : List Int}, lawWay ties br to g fr gone = some (some r) → r.length ≤ ties.length
  | 0, _, _, _, h => by cases h
  | g + 1, fr, gone, r, h => by
    unfold lawWay at h
    split at h
    · cases h; rw [zerR_length]; exact Nat.le_refl _
    · exact wayLoop_len h
section
variable {P : Program} {w : World} {K : DL.Frag} {mg : Str → Option Value} {base : Heap} {T : List NTab} {f : Addr} {fd : FuncData} {C : Addr}
abbrev pLW (g : Nat) : List DL.D → DL.D → Prop := fun ds r => ∃ ties cells br gone o, ∃ n fr to : Nat, ds = [webD n ties cells, nL br, .int fr, .int to, nL gone] ∧ (ties.length ≤ 10 ∧ br.length ≤ 100 ∧ gone.length + g ≤ 100 ∧ lawWay ties br to g fr gone = some o) ∧ r = optT o
theorem law_way_ok (b : Blt mg) (GI : Df P w K mg base T 1 "_law_idle" ["_law_size_so"] (SP 1 pNothing)) (GP : Df P w K mg base T 1 "_law_plus" ["_law_one_so", "_law_two_so"] (SP 2 pPlus)) (GM : Df P w K mg base T 1 "_law_many" ["_law_row_so", "_law_times_so"] (SP 2 pTimes)) (GU : Df P w K mg base T 1 "_law_unit" ["_law_place_so", "_law_size_so"] (SP 2 pUnit))
    (F : Fd K mg "_law_way" 74 f fd) : ∀ g, Df P w K mg base T (g + 2) "_law_way" ["_law_web_so", "_law_branches_so", "_law_from_so", "_law_to_so", "_law_gone_so"] (SP 5 (pLW g))
  | 0 => dp_ok F.fn F.mg (bn_law_way F) sc_law_way rfl fun cdv A outer s H E hr B ds r hn h => by
    obtain ⟨ties, cells, br, gone, o, n, fr, to, rfl, ⟨h1, h2, h3, h4⟩, rfl⟩ := h
    cases h4
  | g + 1 => dp_ok F.fn F.mg (bn_law_way F) sc_law_way rfl fun cdv A outer s H E hr B ds r hn h => by
    have ih := law_way_ok b GI GP GM GU F g
    obtain ⟨ties, cells, br, gone, o, n, fr, to, rfl, ⟨h1, h2, h3, h4⟩, rfl⟩ := h
    have nd := nd_law_way
    have len1 : ∀ {Δ : List En} {X : Cx} {p1 p2 p3 : Pos} {j : Nat}, True := trivial
    unfold lawWay at h4
    refine bl_cons <| bs_if <| dt_eq hr.units <| dv 2 rfl <| dv 3 rfl ⟨rfl, rfl, fun hc => ?_, fun hc => bl_nil ?_⟩
    · rw [eqn] at hc
      rw [if_pos (of_decide_eq_true hc)] at h4
      cases h4
      exact bl_one <| bs_ret <| de_callP GI (hr.mono (by omega)) rfl <| dd_cons <| de_len rfl b.len <| ds_tup <| de_ixT (fun _ _ => rfl) <| dv 0 rfl ⟨_, rfl, de_int ⟨_, rfl, tieD ties, rfl, _, rfl, dd_nil ⟨rfl, _, ⟨ties.length, by rw [List.length_map], by omega, rfl⟩, rfl⟩⟩⟩
    · rw [eqn] at hc
      rw [if_neg (of_decide_eq_false hc)] at h4
      refine bl_cons <| bs_forJ (β := Unit) PassesOwn.never rfl (mn 5) (g1 nd 5) [5, 6, 7, 8] br (fun i => .int (i : Nat)) (fun _ => [.dat (webD n ties cells), .dat (nL br), .dat (.int fr), .dat (.int to), .dat (nL gone), .non, .non, .non, .non])
        (fun rest _ => wayLoop (lawWay ties br to g) ties fr gone rest = some o)
        <| di_lst <| dv 1 rfl ⟨_, rfl, rfl, ⟨(), rfl, h4⟩, fun _ => trivial, ?_, ?_⟩
      · rintro i rest _ hw
        unfold wayLoop at hw
        split at hw
        · cases hw
        rename_i a t ht
        refine bl_cons <| bs_set nd (i := 6) rfl (.inl rfl) <| de_ixT (fun _ _ => rfl) <| de_ixT (fun _ _ => rfl) <| dv 0 rfl ⟨_, rfl, de_int ⟨_, rfl, tieD ties, rfl, _, rfl, dv 5 rfl ⟨_, rfl, _, tie_at ht, ?_⟩⟩⟩
        refine bl_one <| bs_if <| DT.mono (Q := fun c Δ' => c = decide ((a = fr ∨ t = fr) ∧ gone.contains i = false) ∧ Δ' = [.dat (webD n ties cells), .dat (nL br), .dat (.int fr), .dat (.int to), .dat (nL gone), .dat (.int i), .dat (.tuple [.int a, .int t]), .non, .non])
          (dw_dt <| dw_and <| dt_in (u65 hr) rfl <| dv 2 rfl <| dv 6 rfl ⟨true, _, rfl, rfl, shaped_tie a t, fun c1 => dw_and1 <| dt_notIn (u65 hr) rfl <| dv 5 rfl <| dv 4 rfl ⟨false, _, rfl, rfl, shaped_nL _, ?_, rfl⟩, fun c1 => ⟨?_, rfl⟩⟩) fun c Δ' ⟨ec, eΔ⟩ => ?_
        · rw [any_nat]
          rw [List.any_cons, List.any_cons, List.any_nil, eqn, eqn, Bool.or_false] at c1
          have c1 : a = fr ∨ t = fr := by simpa using c1
          cases gone.contains i <;> simp [c1]
        · rw [List.any_cons, List.any_cons, List.any_nil, eqn, eqn, Bool.or_false] at c1
          have c1 : ¬ (a = fr ∨ t = fr) := by simpa using c1
          simp [c1]
        · subst eΔ
          refine ⟨fun hc2 => ?_, fun hc2 => bl_nil ⟨(), rfl, ?_⟩⟩
          · have hcon := of_decide_eq_true (ec.symm.trans hc2)
            rw [if_pos hcon] at hw
            have e0 : atI [PyData.int (a : Nat), .int (t : Nat)] (0 : Int) = some (.int (a : Nat)) := (atI_nat (xs := [PyData.int (a : Nat), .int (t : Nat)]) (j := 0) rfl : atI _ ((0 : Nat) : Int) = _)
            have e1 : atI [PyData.int (a : Nat), .int (t : Nat)] (1 : Int) = some (.int (t : Nat)) := (atI_nat (xs := [PyData.int (a : Nat), .int (t : Nat)]) (j := 1) rfl : atI _ ((1 : Nat) : Int) = _)
            refine bl_cons <| bs_set nd (i := 7) rfl (.inl rfl) <| DE.mono (Q := fun d Δ' => d = .int ((if a = fr then t else a : Nat) : Int) ∧ Δ' = [.dat (webD n ties cells), .dat (nL br), .dat (.int fr), .dat (.int to), .dat (nL gone), .dat (.int i), .dat (.tuple [.int a, .int t]), .non, .non])
              (de_if <| dt_eq hr.units <| de_ixT (fun _ _ => rfl) <| dv 6 rfl ⟨_, rfl, de_int ⟨_, rfl, _, e0, dv 2 rfl ⟨rfl, rfl, fun q => ?_, fun q => ?_⟩⟩⟩) fun d Δ' ⟨ed, eΔ⟩ => ?_
            · rw [eqn] at q
              exact de_ixT (fun _ _ => rfl) <| dv 6 rfl ⟨_, rfl, de_int ⟨_, rfl, _, e1, by rw [if_pos (of_decide_eq_true q)], rfl⟩⟩
            · rw [eqn] at q
              exact de_ixT (fun _ _ => rfl) <| dv 6 rfl ⟨_, rfl, de_int ⟨_, rfl, _, e0, by rw [if_neg (of_decide_eq_false q)], rfl⟩⟩
            · subst ed eΔ
              obtain ⟨o2, hrec⟩ : ∃ o2, lawWay ties br to g (if a = fr then t else a) (gone ++ [i]) = some o2 := by
                cases e : lawWay ties br to g (if a = fr then t else a) (gone ++ [i]) with
                | none => rw [e] at hw; cases hw
                | some o2 => exact ⟨o2, rfl⟩
              rw [hrec] at hw
              have en : (gone.map fun i => PyData.int (i : Nat)) ++ [PyData.int (i : Nat)] = (gone ++ [i]).map fun i => .int (i : Nat) := by rw [List.map_append]; rfl
              refine bl_cons <| bs_set nd (i := 8) rfl (.inl rfl) <| de_callP ih (hr.mono (by omega)) rfl <| dd_cons <| dv 0 rfl <| dd_cons <| dv 1 rfl <| dd_cons <| dv 7 rfl <| dd_cons <| dv 3 rfl <| dd_cons <| de_new <| dn_cat <| dv 4 rfl ⟨_, rfl, de_new <| dn_lst <| dd_cons <| dv 5 rfl <| dd_nil ⟨by simp, _, rfl, by rw [List.length_map]; show _ + 1 ≤ 10000; omega, dd_nil ⟨rfl, _, ⟨ties, cells, br, gone ++ [i], o2, n, _, to, by rw [en], ⟨h1, h2, by rw [List.length_append]; show gone.length + 1 + g ≤ 100; omega, hrec⟩, rfl⟩, ?_⟩⟩⟩
              refine bl_one <| bs_if <| dt_notN <| dv 8 rfl ⟨fun q => ?_, fun q => bl_nil ⟨(), rfl, ?_⟩⟩
              · rw [isNone_opt] at q
                cases o2 with
                | none => cases q
                | some rr =>
                  have hw : some (some (addR rr (scal (oneAt i ties.length) (if a = fr then 1 else -1)))) = some o := hw
                  cases hw
                  have hl := lawWay_len hrec
                  refine bl_one <| bs_ret <| de_callP GP (hr.mono (by omega)) rfl <| dd_cons <| dv 8 rfl <| dd_cons <| de_callP GM (hr.mono (by omega)) rfl <| dd_cons <| de_callP GU (hr.mono (by omega)) rfl <| dd_cons <| dv 5 rfl <| dd_cons <| de_len rfl b.len <| ds_tup <| de_ixT (fun _ _ => rfl) <| dv 0 rfl ⟨_, rfl, de_int ⟨_, rfl, tieD ties, rfl, _, rfl, dd_nil ⟨rfl, _, ⟨(i : Int), ties.length, by rw [List.length_map], by omega, rfl⟩, dd_cons <| de_if <| dt_eq hr.units <| de_ixT (fun _ _ => rfl) <| dv 6 rfl ⟨_, rfl, de_int ⟨_, rfl, _, e0, dv 2 rfl ⟨rfl, rfl, fun q => ?_, fun q => ?_⟩⟩⟩⟩⟩⟩
                  · rw [eqn] at q
                    refine de_int <| dd_nil ⟨rfl, _, ⟨oneAt i ties.length, 1, rfl, ⟨by rw [oneAt_length]; omega, fun x _ => .of_right (by decide)⟩, rfl⟩, dd_nil ⟨rfl, _, ⟨rr, _, rfl, by omega, rfl⟩, by rw [if_pos (of_decide_eq_true q)]; rfl⟩⟩
                  · rw [eqn] at q
                    refine de_neg <| de_int ⟨_, rfl, dd_nil ⟨rfl, _, ⟨oneAt i ties.length, -1, rfl, ⟨by rw [oneAt_length]; omega, fun x _ => .of_right (by decide)⟩, rfl⟩, dd_nil ⟨rfl, _, ⟨rr, _, rfl, by omega, rfl⟩, by rw [if_neg (of_decide_eq_false q)]; rfl⟩⟩⟩
              · rw [isNone_opt] at q
                cases o2 with
                | none => exact hw
                | some rr => cases q
          · have hcon := of_decide_eq_false (ec.symm.trans hc2)
            rw [if_neg hcon] at hw
            exact hw
      · rintro _ hw
        have hw : some none = some o := hw
        cases hw
        exact bl_one <| bs_ret <| de_non rfl
abbrev pLR : List DL.D → DL.D → Prop := fun ds r => ∃ ties cells rs, ∃ n : Nat, ds = [webD n ties cells] ∧ (n ≤ 10 ∧ ties.length ≤ 10 ∧ lawRings n ties = some rs) ∧ r = mT rs
theorem lbFold_len : ∀ (l : List ((Nat × Nat) × Nat)) (st : List (List Nat) × List Nat) (e : List (List Nat) × List Nat), l.foldl lbStep (some st) = some e → e.2.length ≤ st.2.length + l.length
  | [], st, e, h => by cases h; exact Nat.le_refl _
  | p :: l, st, e, h => by
    rw [List.foldl_cons] at h
    cases es : lbStep (some st) p with
    | none => rw [es, lbFold_none] at h; cases h
    | some st2 =>
      rw [es] at h
      have h1 := lbFold_len l st2 e h
      have h2 : st2.2.length ≤ st.2.length + 1 := by
        obtain ⟨ps, fo⟩ := st
        unfold lbStep at es
        dsimp only at es
        split at es
        · split at es
          · cases es; simp
          · cases es; simp
        · cases es
      rw [List.length_cons]; omega
theorem lawBr_len {n : Nat} {ties : Ties} {br : List Nat} (h : lawBr n ties = some br) : br.length ≤ ties.length := by
  unfold lawBr at h
  cases e : ties.zipIdx.foldl lbStep (some ((List.range n).map fun k => [k], [])) with
  | none => rw [e] at h; cases h
  | some st =>
    rw [e] at h
    have := lbFold_len _ _ _ e
    cases h
    simpa using this
theorem law_ring_rows_ok (b : Blt mg) (GB : Df P w K mg base T 1 "_law_branches" ["_law_web_so"] (SL 1 pLB)) (GP : Df P w K mg base T 1 "_law_plus" ["_law_one_so", "_law_two_so"] (SP 2 pPlus)) (GU : Df P w K mg base T 1 "_law_unit" ["_law_place_so", "_law_size_so"] (SP 2 pUnit))
    (GW : Df P w K mg base T 6 "_law_way" ["_law_web_so", "_law_branches_so", "_law_from_so", "_law_to_so", "_law_gone_so"] (SP 5 (pLW 4))) (F : Fd K mg "_law_ring_rows" 75 f fd) : Df P w K mg base T 7 "_law_ring_rows" ["_law_web_so"] (SP 1 pLR) :=
  dp_ok F.fn F.mg (bn_law_ring_rows F) sc_law_ring_rows rfl fun cdv A outer s H E hr B ds r hn h => by
    obtain ⟨ties, cells, rs, n, rfl, ⟨h1, h2, h3⟩, rfl⟩ := h
    have nd := nd_law_ring_rows
    unfold lawRings at h3
    split at h3
    · cases h3
    rename_i br hbr
    have hbl := lawBr_len hbr
    refine bl_cons <| bs_par2 (i := 1) (j := 2) rfl nd rfl rfl (by decide) rfl rfl (da_d <| de_new <| dn_callL GB (hr.mono (by decide)) rfl <| dd_cons <| dv 0 rfl <| dd_nil ⟨rfl, _, ⟨ties, cells, br, n, rfl, ⟨h1, h2, hbr⟩, rfl⟩, da_n <| dn_lst <| dd_nil ⟨by simp, fun l => da_nil ⟨_, _, rfl, trivial, trivial, fun nm => ?_⟩⟩⟩) (by rfl)
    refine bl_cons <| bs_forJ (β := List (List Int)) PassesOwn.never rfl (mono_2 (mn 3) (mono_2 (mn 4) (mn 5))) (dg_2 rfl (mn 3) (mono_2 (mn 4) (mn 5)) (g1 nd 3) (dg_2 rfl (mn 4) (mn 5) (g1 nd 4) (g1 nd 5))) [3, 4, 5] ties.zipIdx (fun p => .tuple [.int (p.2 : Nat), tieD1 p.1]) (fun fo => [.dat (webD n ties cells), .dat (nL br), .own l (fo.map iT), .non, .non, .non])
      (fun rest fo => fo.length + rest.length ≤ 10 ∧ rest.foldl (lrStep ties br) (some fo) = some rs)
      <| di_enum rfl b.enumerate <| de_ixT (fun _ _ => rfl) <| dv 0 rfl ⟨_, rfl, de_int ⟨_, rfl, tieD ties, rfl, _, _, rfl, enumD_map tieD1 ties, ⟨[], rfl, by simpa using h2, h3⟩, fun _ => trivial, ?_, ?_⟩⟩
    · rintro ⟨⟨a, t⟩, i⟩ rest fo ⟨f1, f2⟩
      have f1 : fo.length + (rest.length + 1) ≤ 10 := f1
      rw [List.foldl_cons] at f2
      refine ⟨_, _, rfl, ⟨_, _, rfl, ?_⟩⟩
      refine bl_one <| bs_if <| dt_notIn (u65 hr) rfl <| dv 3 rfl <| dv 1 rfl ⟨false, _, rfl, rfl, shaped_nL _, fun hc => ?_, fun hc => bl_nil ?_⟩
      · rw [any_nat] at hc
        have hc : br.contains i = false := by simpa using hc
        have es : ∀ x, lawWay ties br a 4 t [] = x → lrStep ties br (some fo) ((a, t), i) = match x with
          | some (some r) => some (fo ++ [addR (oneAt i ties.length) r])
          | _ => none := fun x hx => by unfold lrStep; dsimp only; rw [if_neg (by rw [hc]; exact Bool.false_ne_true), hx] <;> rfl
        obtain ⟨rr, hw⟩ : ∃ rr, lawWay ties br a 4 t [] = some (some rr) := by
          cases e : lawWay ties br a 4 t [] with
          | none => rw [es _ e, lrFold_none] at f2; cases f2
          | some o => cases o with
            | none => rw [es _ e, lrFold_none] at f2; cases f2
            | some rr => exact ⟨rr, rfl⟩
        rw [es _ hw] at f2
        have hl := lawWay_len hw
        refine bl_one <| ap 2 ⟨_, _, rfl⟩ <| de_callP GP (hr.mono (by omega)) rfl <| dd_cons <| de_callP GU (hr.mono (by omega)) rfl <| dd_cons <| dv 3 rfl <| dd_cons <| de_len rfl b.len <| ds_tup <| de_ixT (fun _ _ => rfl) <| dv 0 rfl ⟨_, rfl, de_int ⟨_, rfl, tieD ties, rfl, _, rfl, dd_nil ⟨rfl, _, ⟨(i : Int), ties.length, by rw [List.length_map], by omega, rfl⟩, dd_cons <| de_callP GW (hr.mono (by omega)) rfl <| dd_cons <| dv 0 rfl <| dd_cons <| dv 1 rfl <| dd_cons <| dv 5 rfl <| dd_cons <| dv 4 rfl <| dd_cons <| de_new <| dn_lst <| dd_nil ⟨by simp, dd_nil ⟨rfl, _, ⟨ties, cells, br, [], some rr, n, t, a, rfl, ⟨h2, by omega, by simp, hw⟩, rfl⟩, dd_nil ⟨rfl, _, ⟨oneAt i ties.length, rr, rfl, by rw [oneAt_length]; omega, rfl⟩, l, _, rfl, by rw [List.length_map]; omega, ?_⟩⟩⟩⟩⟩⟩
        exact ⟨_, by rw [show (fo.map iT ++ [iT (addR (oneAt i ties.length) rr)]) = (fo ++ [addR (oneAt i ties.length) rr]).map iT by rw [List.map_append]; rfl]; rfl, by rw [List.length_append]; show fo.length + 1 + rest.length ≤ 10; omega, f2⟩
      · rw [any_nat] at hc
        have hc : br.contains i = true := by simpa using hc
        have es : lrStep ties br (some fo) ((a, t), i) = some fo := by unfold lrStep; dsimp only; rw [if_pos hc]
        rw [es] at f2
        exact ⟨fo, rfl, by omega, f2⟩
    · rintro fo ⟨_, f2⟩
      have f2 : some fo = some rs := f2
      cases f2
      exact bl_one <| bs_ret <| de_tuple rfl b.tuple <| sv 2 rfl rfl rfl
end
end Wk

set_option Elab.async false
set_option linter.all false
set_option maxRecDepth 100000
set_option maxHeartbeats 1000000
namespace Wk
open PySem PySem.Spec PyProof.Rows L2 NdefX DL
/-- what is known of a web by looking at it -/
structure WebF (n : Nat) (ties : Ties) : Prop where
  ok : WebOk n ties
  lr : lawRings n ties = some (ringM n ties)
  rl : ∀ r ∈ ringM n ties, r.length = ties.length
abbrev Small (n : Nat) (ties : Ties) : Prop := 1 ≤ n ∧ n ≤ 4 ∧ ties.length ≤ 3 ∧ Ends n ties
abbrev AllW : Prop := ∀ n ties, Small n ties → WebF n ties
def coefL : List Int := [1, 2, 3, -1, 4, 6, 0]
def mixL : List Int := [1, 0, -1, 2, 3]
/-- a cell made of one ring or two -/
def CellP (rings : List (List Int)) (k : Nat) (cell : List Int) : Prop := ∃ fo po cs, (fo ++ po).Perm rings ∧ fo.length ≤ 2 ∧ cs.length = fo.length ∧ (∀ c ∈ cs, c ∈ coefL) ∧ cell = addedM cs fo k
structure WebP (n : Nat) (ties : Ties) (cells : List (List Int)) : Prop where
  sm : Small n ties
  cl : cells.length ≤ 3
  ce : ∀ c ∈ cells, CellP (ringM n ties) ties.length c
theorem addedM_snoc {cs : List Int} {fo : List (List Int)} {k : Nat} {c : Int} {r : List Int} (h : cs.length = fo.length) : addedM (cs ++ [c]) (fo ++ [r]) k = addR (addedM cs fo k) (scal r c) := by
  unfold addedM
  rw [List.zip_append h, List.foldl_append]; rfl
theorem addedM_length : ∀ {cs : List Int} {rows : List (List Int)} {k : Nat}, Wd k rows → (addedM cs rows k).length = k := by
  intro cs rows k h
  unfold addedM
  have : ∀ (l : List (Int × List Int)) (f : List Int), (∀ p ∈ l, p.2.length = k) → f.length = k → (l.foldl (fun f p => addR f (scal p.2 p.1)) f).length = k := by
    intro l
    induction l with
    | nil => intro f _ hf; exact hf
    | cons p l ih =>
      intro f hl hf
      refine ih _ (fun q hq => hl q (List.mem_cons_of_mem _ hq)) ?_
      rw [addR_length, scal_length, hf, hl p List.mem_cons_self, Nat.min_self]
  exact this _ _ (fun p hp => h p.2 (List.of_mem_zip (show (p.1, p.2) ∈ _ from hp)).2) (zerR_length k)
theorem CellP.length {rings : List (List Int)} {k : Nat} {cell : List Int} (h : CellP rings k cell) (hr : Wd k rings) : cell.length = k := by
  obtain ⟨fo, po, cs, hp, _, _, _, rfl⟩ := h
  exact addedM_length fun r hr' => hr r (hp.mem_iff.mp (List.mem_append_left _ hr'))
theorem coef_small {c : Int} (h : c ∈ coefL) : c.natAbs < 2 ^ 63 := by
  simp only [coefL, List.mem_cons, List.not_mem_nil, or_false] at h
  rcases h with rfl | rfl | rfl | rfl | rfl | rfl | rfl <;> decide
theorem mix_small {c : Int} (h : c ∈ mixL) : c.natAbs < 2 ^ 63 := by
  simp only [mixL, List.mem_cons, List.not_mem_nil, or_false] at h
  rcases h with rfl | rfl | rfl | rfl | rfl <;> decide
section
variable {F : Fm} {X : Cx} {Δ : List En} {e a b : Expr} {st : Stmt} {rest body : List Stmt} {P : DEnds} {pos p : Pos}
theorem bs_forK {α β : Type} {tg iter : Expr} {f : FT} {is : List Nat} (hp : PassesOwn (model X.prog X.w) X.A X.env X.xe) (hc : X.calm = true) (mf : Mono f) (hg : DG F.T X tg f is) (vs : List Nat) (g : α → DL.D) (mk : β → List En)
    (h : DI F.T X Δ tg iter fun ds I Δ1 => ∃ (xs : List α) (J : List α → β → Prop), ds = xs.map g ∧ (∃ b0, wipeE Δ1 vs = mk b0 ∧ J xs b0) ∧ (∀ b, I (mk b)) ∧
      (∀ x rest b, J (x :: rest) b → f (g x) (mk b) fun Δ3 => BL F X Δ3 body { nx := fun Δ4 => ∃ b', wipeE Δ4 vs = mk b' ∧ J rest b', rt := P.rt, bk := P.nx, ct := fun Δ4 => ∃ b', wipeE Δ4 vs = mk b' ∧ J rest b' }) ∧ ∀ b, J [] b → P.nx (mk b))
    (hs : ∀ x, foldedSetIterable iter X.env x = pure x := by intro _; rfl) : BS F X Δ (.For tg iter body [] pos) P :=
  PS.weak (ps_for hp hc h hg (pss_l (F := F)) hs) fun D σ H ⟨B, L, G, k1, k2, k3, k4⟩ => ⟨B, L, fun J' ds I Δ1 B1 H1 ⟨xs, J, eds, ⟨b0, w0, j0⟩, gI, gs, gd⟩ S1 L1 src => by
    subst eds
    refine ⟨fun i m σ' H' => m = xs.length - i ∧ i ≤ xs.length ∧ ∃ B' b, Lc X.K F.T σ' B' H' (mk b) ∧ Glb F (mk b) B' H' ∧ Sub B1 B' ∧ J (xs.drop i) b, ⟨_, rfl, Nat.zero_le _, B1, b0, by rw [← w0]; exact L1.forget vs, by rw [← w0]; exact (G.step S1).forget vs, Sub.refl _, j0⟩, ?_⟩
    rintro i m σ' H' ⟨rfl, hi, B', b, L2, G2, sb, g0⟩
    by_cases hlt : i < xs.length
    · refine .inr ⟨src.goes i _ B' H' _ sb L2 (gI b) (by simpa using hlt), fun σ3 H3 => ∃ B3 b', Lc X.K F.T σ3 B3 H3 (mk b') ∧ Glb F (mk b') B3 H3 ∧ Sub B1 B3 ∧ J (xs.drop (i + 1)) b', fun σ3 H3 q => ⟨xs.length - (i + 1), by omega, rfl, hlt, q⟩, fun x H2 hy => ?_⟩
      obtain ⟨B3, d, hd, L3, S3, dx⟩ := src.yields i _ B' H' _ x H2 sb L2 (gI b) (by simpa using hlt) hy
      have hx : xs[i]? = some xs[i] := List.getElem?_eq_getElem hlt
      rw [List.getElem?_map, hx] at hd
      cases hd
      rw [List.drop_eq_getElem_cons hlt] at g0
      refine ⟨B3, _, _, L3, dx, mf _ _ _ _ (gs _ _ b g0) fun Δ4 hb σ4 B4 H4 S4 L4 _ => ?_⟩
      have sb4 : Sub B1 B4 := (sb.trans S3.bb).trans S4.bb
      have nxt : ∀ Δ' σ' B' H', (∃ b', wipeE Δ' vs = mk b' ∧ J (xs.drop (i + 1)) b') → Lc X.K F.T σ' B' H' Δ' → Glb F Δ' B' H' → Sub B4 B' → ∃ B3 b', Lc X.K F.T σ' B3 H' (mk b') ∧ Glb F (mk b') B3 H' ∧ Sub B1 B3 ∧ J (xs.drop (i + 1)) b' := fun Δ' σ' B' H' ⟨b', e, q⟩ L' G' s => ⟨B', b', by rw [← e]; exact L'.forget vs, by rw [← e]; exact G'.forget vs, sb4.trans s, q⟩
      exact ⟨Δ4, _, hb, B4, L4, G2.step (S3.trans S4), nxt, k2, fun Δ' σ' B' H' q L' G' s => k1 Δ' σ' B' H' q L' G' ((S1.bb.trans sb4).trans s), nxt⟩
    · have e : i = xs.length := by omega
      subst e
      refine .inl ⟨?_, k1 _ _ B' H' (gd b (by simpa using g0)) L2 G2 (S1.bb.trans sb)⟩
      have := src.stops _ B' H' _ sb L2 (gI b)
      rwa [List.length_map] at this⟩
end
section
variable {P : Program} {w : World} {K : DL.Frag} {mg : Str → Option Value} {base : Heap} {T : List NTab} {f : Addr} {fd : FuncData} {C : Addr}
def sWeb : SD := fun as k => ∃ l t, ∃ c : Nat, as = [.own l (t.map .int), .dat (.int 3)] ∧ (Tin c t ∧ c ≤ 1000) ∧ ∀ n ties cells t', WebP n ties cells → Tin (c + 100) t' → k (.dat (webD n ties cells)) [.own l (t'.map .int), .dat (.int 3)]
theorem sWeb_mono : SMono sWeb := fun as k k' ⟨l, t, c, e, h, q⟩ w => ⟨l, t, c, e, h, fun n ties cells t' h1 h2 => w _ _ (q n ties cells t' h1 h2)⟩
theorem law_web_ok (b : Blt mg) (HW : AllW) (GT : Df P w K mg base T 1 "_law_take" ["_law_tin", "_law_below_so"] sTake) (GR : Df P w K mg base T 7 "_law_ring_rows" ["_law_web_so"] (SP 1 pLR)) (GO : Df P w K mg base T 2 "_law_of" ["_law_tin", "_law_goods_so"] sOf) (GI : Df P w K mg base T 1 "_law_idle" ["_law_size_so"] (SP 1 pNothing))
    (GK : Df P w K mg base T 2 "_law_pick" ["_law_tin", "_law_goods_so", "_law_count_so"] sPick) (GP : Df P w K mg base T 1 "_law_plus" ["_law_one_so", "_law_two_so"] (SP 2 pPlus)) (GM : Df P w K mg base T 1 "_law_many" ["_law_row_so", "_law_times_so"] (SP 2 pTimes))
    (F : Fd K mg "_law_web" 76 f fd) : Df P w K mg base T 8 "_law_web" ["_law_tin", "_law_most_so"] sWeb :=
  df_ok F.fn F.mg (bn_law_web F) sc_law_web (fun as k ⟨l, t, c, e, _⟩ => by rw [e]; rfl) fun cdv A outer s H E hr B as k ⟨l, t, c, e, ⟨h1, h2⟩, qq⟩ => by
    subst e
    have nd := nd_law_web
    -- places
    refine bl_cons <| bs_set nd (i := 2) rfl (by first | exact .inl rfl | exact .inr rfl) <| de_add <| de_int ⟨_, rfl, de_callM GT sTake_mono (hr.mono (by decide)) rfl <| am 0 rfl <| da_d <| de_int <| da_nil ⟨by simp [slotsOf], rfl, l, t, c, 4, rfl, ⟨h1, by omega, by decide, by decide⟩, fun d t1 d0 d1 ht1 => ⟨rfl, _, rfl, d, rfl, ?_⟩⟩⟩
    obtain ⟨n, hn, n1, n4⟩ : ∃ n : Nat, (1 : Int) + d = (n : Int) ∧ 1 ≤ n ∧ n ≤ 4 := ⟨(1 + d).toNat, by omega, by omega, by omega⟩
    rw [hn]
    -- ties
    refine bl_cons <| bs_set nd (i := 3) rfl (by first | exact .inl rfl | exact .inr rfl) <| de_tuple rfl b.tuple <| ds_new <| n_lc nd [("_law_lap", 6)] (fun _ _ _ _ _ => g1 nd 6) (mn 6) <| di_range1 rfl b.range <| de_callM GT sTake_mono (hr.mono (by decide)) rfl <| am 0 rfl <| da_d <| de_add <| dv 1 rfl ⟨_, rfl, de_int ⟨_, rfl, da_nil ⟨by simp [slotsOf], rfl, l, t1, c + 1, 4, rfl, ⟨ht1, by omega, by decide, by decide⟩, fun d2 t2 d20 d21 ht2 => ⟨rfl, _, rfl, d2, rfl, by omega, ?_⟩⟩⟩⟩
    obtain ⟨kk, hk, k3⟩ : ∃ kk : Nat, d2.toNat = kk ∧ kk ≤ 3 := ⟨_, rfl, by omega⟩
    rw [hk]
    refine ⟨fun i acc Δ2 => i ≤ kk ∧ ∃ (ties : Ties) (t' : List Int), acc = ties.map tieD1 ∧ ties.length = i ∧ Ends n ties ∧ Tin (c + 2 + 2 * i) t' ∧ Δ2 = [.own l (t'.map .int), .dat (.int 3), .dat (.int n), .non, .non, .non, .non, .non, .non],
      ⟨Nat.zero_le _, [], t2, rfl, rfl, (fun p hp => nomatch hp), ht2, rfl⟩, fun _ _ _ _ => trivial, ?_, by rw [rgD_length]; omega, ?_⟩
    · rintro i dd acc Δ2 hd ⟨hi, ties, t', rfl, hl, he, ht, rfl⟩
      have hin : i < kk := by
        have := (List.getElem?_eq_some_iff.mp hd).1
        rw [rgD_length] at this; exact this
      show TurnD _ _ _ _ _ _ _ _ _
      intro s H C cl fp
      refine de_tup <| dd_cons <| de_callM GT sTake_mono (hr.mono (by decide)) rfl <| am 0 rfl <| da_d <| dv 2 rfl <| da_nil ⟨by simp [slotsOf], rfl, l, t', c + 2 + 2 * i, (n : Int), rfl, ⟨ht, by omega, by omega, by omega⟩, fun a t3 a0 a1 ht3 => ⟨rfl, _, rfl, dd_cons <| de_callM GT sTake_mono (hr.mono (by decide)) rfl <| am 0 rfl <| da_d <| dv 2 rfl <| da_nil ⟨by simp [slotsOf], rfl, l, t3, c + 2 + 2 * i + 1, (n : Int), rfl, ⟨ht3, by omega, by omega, by omega⟩, fun b' t4 b0 b1 ht4 => ⟨rfl, _, rfl, dd_nil ⟨by simp, ?_⟩⟩⟩⟩⟩
      refine ⟨hin, ties ++ [(a.toNat, b'.toNat)], t4, ?_, by simp [hl], fun p hp => ?_, ht4, rfl⟩
      · rw [List.map_append, List.map_cons, List.map_nil, tieD1]
        rw [Int.toNat_of_nonneg a0, Int.toNat_of_nonneg b0]
      · rcases List.mem_append.mp hp with q | q
        · exact he p q
        · rw [List.mem_singleton.mp q]; exact ⟨by show a.toNat < n; omega, by show b'.toNat < n; omega⟩
    rintro acc Δ2 ⟨_, ties, t3, rfl, hl, he, ht3, rfl⟩
    rw [rgD_length] at hl ht3
    have sm : Small n ties := ⟨n1, n4, by omega, he⟩
    have WF := HW n ties sm
    have hotl := otM_len (n := n) (ties := ties)
    have rgl : (ringM n ties).length ≤ 3 := by rw [ringM, List.length_map]; omega
    -- rings
    refine bl_cons <| bs_par2 (i := 4) (j := 5) rfl nd rfl rfl (by decide) rfl rfl (da_d <| de_callP GR (hr.mono (by decide)) rfl <| dd_cons <| de_tup <| dd_cons <| dv 2 rfl <| dd_cons <| dv 3 rfl <| dd_cons <| de_tup <| dd_nil ⟨by simp, dd_nil ⟨by simp, dd_nil ⟨rfl, _, ⟨ties, [], ringM n ties, n, rfl, ⟨by omega, by omega, WF.lr⟩, rfl⟩, da_n <| dn_lst <| dd_nil ⟨by simp, fun lc => da_nil ⟨_, _, rfl, trivial, trivial, fun nm => ?_⟩⟩⟩⟩⟩) (by rfl)
    have hw : Wd ties.length (ringM n ties) := WF.rl
    have nmc := (nm lc [] (.inr rfl)).1
    refine bl_cons <| bs_forK (α := Nat) (β := List (List Int) × List Int × Nat) PassesOwn.never rfl (mn 6) (g1 nd 6) [6, 7, 8] (fun i => .int ((0 : Int) + (i : Nat))) (fun st => [.own l (st.2.1.map .int), .dat (.int 3), .dat (.int n), .dat (tieD ties), .dat (mT (ringM n ties)), .own lc (st.1.map iT), .non, .non, .non])
      <| di_range1 rfl b.range <| de_callM GO sOf_mono (hr.mono (by decide)) rfl <| am 0 rfl <| da_d <| de_new <| dn_lst <| dd_cons <| de_int <| dd_cons <| de_int <| dd_cons <| de_int <| dd_cons <| de_int <| dd_cons <| de_int <| dd_nil ⟨by simp, da_nil ⟨by simp [slotsOf], rfl, l, t3, [1, 2, 1, 3, 0], c + 2 + 2 * kk, rfl, ⟨ht3, by omega, by decide, by decide⟩, fun x hx t4 ht4 => ⟨rfl, _, rfl, x, rfl, ?_⟩⟩⟩
    have hx3 : 0 ≤ x ∧ x ≤ 3 := by
      simp only [List.mem_cons, List.not_mem_nil, or_false] at hx
      omega
    refine ⟨⟨hx3.1, by omega⟩, List.range x.toNat, fun rest st => st.1.length + rest.length ≤ 3 ∧ (∀ c ∈ st.1, CellP (ringM n ties) ties.length c) ∧ Tin st.2.2 st.2.1 ∧ st.2.2 + 10 * rest.length ≤ c + 60, rfl, ⟨([], t4, c + 2 + 2 * kk + 1), rfl, by simpa using (by omega : x.toNat ≤ 3), by simp, ht4, by simp; omega⟩, fun _ => trivial, ?_, ?_⟩
    · rintro i rest ⟨cells, t5, c5⟩ ⟨f1, f2, f3, f4⟩
      have f1 : cells.length + (rest.length + 1) ≤ 3 := f1
      have f2 : ∀ c ∈ cells, CellP (ringM n ties) ties.length c := f2
      have f3 : Tin c5 t5 := f3
      have f4 : c5 + 10 * (rest.length + 1) ≤ c + 60 := f4
      refine bl_cons <| bs_set nd (i := 7) rfl (.inl rfl) <| de_callP GI (hr.mono (by decide)) rfl <| dd_cons <| de_len rfl b.len <| ds_tup <| dv 3 rfl ⟨_, rfl, dd_nil ⟨rfl, _, ⟨ties.length, by rw [List.length_map], by omega, rfl⟩, ?_⟩⟩
      refine bl_cons <| bs_forK (α := List Int) (β := List Int × List Int × Nat) PassesOwn.never rfl (mn 8) (g1 nd 8) [8] iT (fun st => [.own l (st.2.1.map .int), .dat (.int 3), .dat (.int n), .dat (tieD ties), .dat (mT (ringM n ties)), .own lc (cells.map iT), .dat (.int ((0 : Int) + (i : Nat))), .dat (iT st.1), .non])
        <| di_new <| dn_callM GK sPick_mono (hr.mono (by decide)) rfl <| am 0 rfl <| da_d <| de_new <| dn_list rfl b.list <| ds_tup <| dv 4 rfl ⟨_, rfl, da_d <| de_add <| de_int ⟨_, rfl, de_callM GT sTake_mono (hr.mono (by decide)) rfl <| am 0 rfl <| da_d <| de_int <| da_nil ⟨by simp [slotsOf], rfl, l, t5, c5, 2, rfl, ⟨f3, by omega, by decide, by decide⟩, fun d t6 d0 d1 ht6 => ⟨rfl, _, rfl, d, rfl, ?_⟩⟩⟩⟩
      obtain ⟨cnt, hcnt, cnt2⟩ : ∃ cnt : Nat, (1 : Int) + d = (cnt : Int) ∧ cnt ≤ 2 := ⟨(1 + d).toNat, by omega, by omega⟩
      rw [hcnt]
      refine da_nil ⟨by simp [slotsOf], rfl, l, t6, ringM n ties, c5 + 1, cnt, rfl, ⟨ht6, by omega, by omega, by omega⟩, fun fo po t7 p1 p2 p3 l' => ⟨rfl, l', _, rfl, ?_⟩⟩
      refine ⟨fo, fun rest2 st => ∃ cs fo1, fo1 ++ rest2 = fo ∧ cs.length = fo1.length ∧ (∀ c ∈ cs, c ∈ coefL) ∧ st.1 = addedM cs fo1 ties.length ∧ Tin st.2.2 st.2.1 ∧ st.2.2 + rest2.length ≤ c5 + 5, rfl, ⟨(addedM [] [] ties.length, t7, c5 + 1 + cnt), rfl, [], [], rfl, rfl, by simp, rfl, p3, by show c5 + 1 + cnt + fo.length ≤ _; omega⟩, fun _ => trivial, ?_, ?_⟩
      · rintro row rest2 ⟨own, t8, c8⟩ ⟨cs, fo1, g1', g2, g3, g4, g5, g6⟩
        have g4 : own = addedM cs fo1 ties.length := g4
        have g5 : Tin c8 t8 := g5
        have g6 : c8 + (rest2.length + 1) ≤ c5 + 5 := g6
        subst g4
        have hfo : ∀ r ∈ fo, r.length = ties.length := fun r hr' => hw r (p1.mem_iff.mp (List.mem_append_left _ hr'))
        have hrow : row.length = ties.length := hfo row (by rw [← g1']; simp)
        have hfo1 : Wd ties.length fo1 := fun r hr' => hfo r (by rw [← g1']; exact List.mem_append_left _ hr')
        refine bl_one <| bs_set nd (i := 7) rfl (.inl rfl) <| de_callP GP (hr.mono (by decide)) rfl <| dd_cons <| dv 7 rfl <| dd_cons <| de_callP GM (hr.mono (by decide)) rfl <| dd_cons <| dv 8 rfl <| dd_cons <| de_callM GO sOf_mono (hr.mono (by decide)) rfl <| am 0 rfl <| da_d <| de_new <| dn_lst <| dd_cons <| de_int <| dd_cons <| de_int <| dd_cons <| de_int <| dd_cons <| de_neg <| de_int ⟨_, rfl, dd_cons <| de_int <| dd_cons <| de_int <| dd_cons <| de_int <| dd_nil ⟨by simp, da_nil ⟨by simp [slotsOf], rfl, l, t8, coefL, c8, rfl, ⟨g5, by omega, by decide, by decide⟩, fun y hy t9 ht9 => ⟨rfl, _, rfl, dd_nil ⟨rfl, _, ⟨row, y, rfl, ⟨by omega, fun x _ => mul_r (coef_small hy)⟩, rfl⟩, dd_nil ⟨rfl, _, ⟨_, _, rfl, by rw [addedM_length hfo1]; omega, rfl⟩, ?_⟩⟩⟩⟩⟩⟩
        exact ⟨(addR (addedM cs fo1 ties.length) (scal row y), t9, c8 + 1), rfl, cs ++ [y], fo1 ++ [row], by rw [← g1', List.append_assoc]; rfl, by simp [g2], fun c hc => by
          rcases List.mem_append.mp hc with q | q
          · exact g3 c q
          · rw [List.mem_singleton.mp q]; exact hy, (addedM_snoc g2).symm, ht9, by show c8 + 1 + rest2.length ≤ _; omega⟩
      · rintro ⟨own, t8, c8⟩ ⟨cs, fo1, g1', g2, g3, g4, g5, g6⟩
        have g4 : own = addedM cs fo1 ties.length := g4
        have g5 : Tin c8 t8 := g5
        have g6 : c8 + 0 ≤ c5 + 5 := g6
        rw [List.append_nil] at g1'
        subst g1'
        refine bl_one <| ap 5 ⟨_, _, rfl⟩ <| dv 7 rfl ⟨lc, cells.map iT, rfl, by rw [List.length_map]; omega, ?_⟩
        refine ⟨(cells ++ [own], t8, c8), by rw [List.map_append]; rfl, by rw [List.length_append]; show cells.length + 1 + rest.length ≤ 3; omega, fun c hc => ?_, g5, by show c8 + 10 * rest.length ≤ _; omega⟩
        rcases List.mem_append.mp hc with q | q
        · exact f2 c q
        · rw [List.mem_singleton.mp q]
          exact ⟨fo1, po, cs, p1, by omega, g2, g3, g4⟩
    · rintro ⟨cells, t5, c5⟩ ⟨f1, f2, f3, f4⟩
      have f1 : cells.length + 0 ≤ 3 := f1
      have f4 : c5 + 0 ≤ c + 60 := f4
      refine bl_one <| bs_ret <| de_tup <| dd_cons <| dv 2 rfl <| dd_cons <| dv 3 rfl <| dd_cons <| de_tuple rfl b.tuple <| sv 5 rfl rfl <| dd_nil ⟨by simp, ?_⟩
      exact ⟨_, back_own 0 (ds := t5.map .int) rfl (back_dat back_nil), qq n ties cells t5 ⟨sm, by omega, f2⟩ (Tin.mono f3 (by show c5 ≤ _; omega))⟩
end
end Wk

set_option Elab.async false
set_option linter.all false
set_option maxRecDepth 100000
set_option maxHeartbeats 1000000
namespace Wk
open PySem PySem.Spec PyProof.Rows L2 NdefX DL
def rootStep (fo : List Nat) (p : Nat × Nat) : List Nat := (fo.set p.1 (min (fo.getD p.1 0) (fo.getD p.2 0))).set p.2 (min (fo.getD p.1 0) (fo.getD p.2 0))
def rootsM (n : Nat) (ties : Ties) : List Nat := ties.foldl (fun fo _ => ties.foldl rootStep fo) (List.range n)
def lineM (n k : Nat) (p : (Nat × Nat) × Nat) : List Int × List Int := (oneAt p.2 k, addR (oneAt p.1.2 n) (scal (oneAt p.1.1 n) (-1)))
def linesM (n : Nat) (ties : Ties) : List (List Int × List Int) := ties.zipIdx.map (lineM n ties.length)
theorem rootStep_length (fo : List Nat) (p : Nat × Nat) : (rootStep fo p).length = fo.length := by simp [rootStep]
theorem CellP.wd {n : Nat} {ties : Ties} {cells : List (List Int)} (h : WebP n ties cells) (F : WebF n ties) : Wd ties.length cells := fun c hc => (h.ce c hc).length F.rl
section
variable {P : Program} {w : World} {K : DL.Frag} {mg : Str → Option Value} {base : Heap} {T : List NTab} {f : Addr} {fd : FuncData} {C : Addr}
def sRing : SD := fun as k => ∃ l t n ties cells, ∃ c : Nat, as = [.own l (t.map .int), .dat (webD n ties cells)] ∧ (Tin c t ∧ c ≤ 1000 ∧ WebP n ties cells) ∧
  ∀ rows cs t', (rows = cells ∨ rows = ringM n ties) → cs.length = rows.length → (∀ x ∈ cs, x ∈ mixL) → Tin (c + 10) t' → k (.dat (iT (addedM cs rows ties.length))) [.own l (t'.map .int), .dat (webD n ties cells)]
theorem sRing_mono : SMono sRing := fun as k k' ⟨l, t, n, ties, cells, c, e, h, q⟩ w => ⟨l, t, n, ties, cells, c, e, h, fun rows cs t' a1 a2 a3 a4 => w _ _ (q rows cs t' a1 a2 a3 a4)⟩
theorem law_some_ring_ok (b : Blt mg) (HW : AllW) (GT : Df P w K mg base T 1 "_law_take" ["_law_tin", "_law_below_so"] sTake) (GR : Df P w K mg base T 7 "_law_ring_rows" ["_law_web_so"] (SP 1 pLR)) (GO : Df P w K mg base T 2 "_law_of" ["_law_tin", "_law_goods_so"] sOf)
    (GX : Df P w K mg base T 2 "_law_mixed" ["_law_parts_so", "_law_rows_so", "_law_size_so"] (SP 3 pAdded)) (F : Fd K mg "_law_some_ring" 77 f fd) : Df P w K mg base T 8 "_law_some_ring" ["_law_tin", "_law_web_so"] sRing :=
  df_ok F.fn F.mg (bn_law_some_ring F) sc_law_some_ring (fun as k ⟨l, t, n, ties, cells, c, e, _⟩ => by rw [e]; rfl) fun cdv A outer s H E hr B as k ⟨l, t, n, ties, cells, c, e, ⟨h1, h2, h3⟩, qq⟩ => by
    subst e
    have nd := nd_law_some_ring
    have WF := HW n ties h3.sm
    obtain ⟨n1, n4, k3, he⟩ := h3.sm
    have rgl : (ringM n ties).length ≤ 3 := by rw [ringM, List.length_map]; have := otM_len (n := n) (ties := ties); omega
    have wc := CellP.wd h3 WF
    refine bl_cons <| bs_set nd (i := 2) rfl (by first | exact .inl rfl | exact .inr rfl) <| DE.mono (Q := fun d Δ' => ∃ (rows : List (List Int)) (t1 : List Int), (rows = cells ∨ rows = ringM n ties) ∧ rows.length ≤ 3 ∧ Wd ties.length rows ∧ Tin (c + 1) t1 ∧ d = mT rows ∧ Δ' = [.own l (t1.map .int), .dat (webD n ties cells), .non, .non])
      (de_if <| dt_eq hr.units <| de_callM GT sTake_mono (hr.mono (by decide)) rfl <| am 0 rfl <| da_d <| de_int <| da_nil ⟨by simp [slotsOf], rfl, l, t, c, 2, rfl, ⟨h1, by omega, by decide, by decide⟩, fun d t1 d0 d1 ht1 => ⟨rfl, _, rfl, de_int ⟨rfl, rfl, fun _ => ?_, fun _ => ?_⟩⟩⟩) fun d Δ' ⟨rows, t1, hrw, hl3, hwd, ht1, ed, eΔ⟩ => ?_
    · exact de_ixT (fun _ _ => rfl) <| dv 1 rfl ⟨_, rfl, de_int ⟨_, rfl, mT cells, rfl, cells, t1, .inl rfl, h3.cl, wc, ht1, rfl, rfl⟩⟩
    · exact de_callP GR (hr.mono (by decide)) rfl <| dd_cons <| dv 1 rfl <| dd_nil ⟨rfl, _, ⟨ties, cells, ringM n ties, n, rfl, ⟨by omega, by omega, WF.lr⟩, rfl⟩, ringM n ties, t1, .inr rfl, rgl, WF.rl, ht1, rfl, rfl⟩
    · subst ed eΔ
      refine bl_one <| bs_ret <| de_callP GX (hr.mono (by decide)) rfl <| dd_cons <| de_new <| n_lc nd [("_law_row_so", 3)] (fun _ _ _ _ _ => g1 nd 3) (mn 3) <| di_tup <| dv 2 rfl ⟨_, rfl, fun i acc Δ2 => i ≤ rows.length ∧ ∃ (cs : List Int) (t' : List Int), acc = cs.map .int ∧ cs.length = i ∧ (∀ x ∈ cs, x ∈ mixL) ∧ Tin (c + 1 + i) t' ∧ Δ2 = [.own l (t'.map .int), .dat (webD n ties cells), .dat (mT rows), .non],
        ⟨Nat.zero_le _, [], t1, rfl, rfl, (fun _ z => nomatch z), ht1, rfl⟩, fun _ _ _ _ => trivial, ?_, by rw [List.length_map]; omega, ?_⟩
      · rintro i d acc Δ2 hd ⟨hi, cs, t', rfl, hl, ho, ht, rfl⟩
        have hin : i < rows.length := by
          have := (List.getElem?_eq_some_iff.mp hd).1
          rwa [List.length_map] at this
        show TurnD _ _ _ _ _ _ _ _ _
        intro s H C cl fp
        refine de_callM GO sOf_mono (hr.mono (by decide)) rfl <| am 0 rfl <| da_d <| de_new <| dn_lst <| dd_cons <| de_int <| dd_cons <| de_int <| dd_cons <| de_neg <| de_int ⟨_, rfl, dd_cons <| de_int <| dd_cons <| de_int <| dd_nil ⟨by simp, da_nil ⟨by simp [slotsOf], rfl, l, t', mixL, c + 1 + i, rfl, ⟨ht, by omega, by decide, by decide⟩, fun x hx t2 ht2 => ⟨rfl, _, rfl, ?_⟩⟩⟩⟩
        exact ⟨hin, cs ++ [x], t2, by simp, by simp [hl], fun h hh => by
          rcases List.mem_append.mp hh with q | q
          · exact ho h q
          · rw [List.mem_singleton.mp q]; exact hx, ht2, rfl⟩
      · rintro acc Δ2 ⟨_, cs, t', rfl, hl, ho, ht, rfl⟩
        rw [List.length_map] at hl ht
        refine dd_cons <| dv 2 rfl <| dd_cons <| de_len rfl b.len <| ds_tup <| de_ixT (fun _ _ => rfl) <| dv 1 rfl ⟨_, rfl, de_int ⟨_, rfl, tieD ties, rfl, _, rfl, dd_nil ⟨rfl, _, ⟨_, _, _, _, cs, rows, ties.length, by rw [List.length_map], ⟨rfl, rfl, by omega, by omega, fun p hp => ?_⟩, rfl⟩, ?_⟩⟩⟩
        · have hz := List.of_mem_zip (show (p.1, p.2) ∈ _ from hp)
          exact ⟨by rw [hwd p.2 hz.2]; omega, fun x _ => mul_r (mix_small (ho _ hz.1))⟩
        · exact ⟨_, back_own 0 (ds := t'.map .int) rfl (back_dat back_nil), qq rows cs t' hrw hl ho (Tin.mono ht (by omega))⟩
abbrev pRoots : List DL.D → List DL.D → Prop := fun ds r => ∃ ties cells, ∃ n : Nat, ds = [webD n ties cells] ∧ (n ≤ 10 ∧ ties.length ≤ 10 ∧ Ends n ties) ∧ r = (rootsM n ties).map fun i => .int (i : Nat)
theorem law_roots_ok (b : Blt mg) (F : Fd K mg "_law_roots" 80 f fd) : Df P w K mg base T 1 "_law_roots" ["_law_web_here"] (SL 1 pRoots) :=
  dl_ok F.fn F.mg (bn_law_roots F) sc_law_roots rfl fun cdv A outer s H E hr B ds r hn h => by
    obtain ⟨ties, cells, n, rfl, ⟨h1, h2, h3⟩, rfl⟩ := h
    have nd := nd_law_roots
    refine bl_cons <| bs_setN nd (i := 1) rfl (.inl rfl) <| dn_listRg rfl rfl b.list rfl b.range <| de_ixT (fun _ _ => rfl) <| dv 0 rfl ⟨_, rfl, de_int ⟨_, rfl, .int n, rfl, _, rfl, by omega, fun l nml _ => ?_⟩⟩
    have e0 : rgD 0 (n : Int).toNat = (List.range n).map fun i => .int (i : Nat) := by rw [rgD, Int.toNat_natCast]; simp
    rw [e0]
    have hlen : ∀ (ts : List (Nat × Nat)) (fo : List Nat), (ts.foldl rootStep fo).length = fo.length := by
      intro ts
      induction ts with
      | nil => intro fo; rfl
      | cons p ts ih => intro fo; rw [List.foldl_cons, ih, rootStep_length]
    refine bl_cons <| bs_forJ (β := List Nat) PassesOwn.never rfl (mn 2) (g1 nd 2) [2, 3, 4, 5] ties tieD1 (fun fo => [.dat (webD n ties cells), .own l (fo.map fun i => .int (i : Nat)), .non, .non, .non, .non])
      (fun rest fo => fo.length = n ∧ rest.foldl (fun fo _ => ties.foldl rootStep fo) fo = rootsM n ties)
      <| di_tup <| de_ixT (fun _ _ => rfl) <| dv 0 rfl ⟨_, rfl, de_int ⟨_, rfl, tieD ties, rfl, _, rfl, rfl, ⟨List.range n, rfl, by simp, rfl⟩, fun _ => trivial, ?_, ?_⟩⟩
    · rintro p0 rest fo0 ⟨f1, f2⟩
      refine bl_one <| bs_forJ (β := List Nat) PassesOwn.never rfl (mono_2 (mn 3) (mn 4)) (dg_2 rfl (mn 3) (mn 4) (g1 nd 3) (g1 nd 4)) [3, 4, 5] ties tieD1 (fun fo => [.dat (webD n ties cells), .own l (fo.map fun i => .int (i : Nat)), .dat (tieD1 p0), .non, .non, .non])
        (fun rest fo => fo.length = n ∧ (∀ p ∈ rest, p.1 < n ∧ p.2 < n) ∧ rest.foldl rootStep fo = ties.foldl rootStep fo0)
        <| di_tup <| de_ixT (fun _ _ => rfl) <| dv 0 rfl ⟨_, rfl, de_int ⟨_, rfl, tieD ties, rfl, _, rfl, rfl, ⟨fo0, rfl, f1, h3, rfl⟩, fun _ => trivial, ?_, ?_⟩⟩
      · rintro ⟨a, t⟩ rest2 fo ⟨g1', g2, g3⟩
        have g1' : fo.length = n := g1'
        obtain ⟨l1, l2⟩ := g2 _ List.mem_cons_self
        have l1 : a < fo.length := by rw [g1']; exact l1
        have l2 : t < fo.length := by rw [g1']; exact l2
        refine ⟨_, _, rfl, ?_⟩
        refine bl_cons <| bs_set nd (i := 5) rfl (.inl rfl) <| de_min rfl rfl b.min <| xv 1 rfl rfl <| dv 3 rfl ⟨_, rfl, rfl, _, nat_at l1, _, rfl, xv 1 rfl rfl <| dv 4 rfl ⟨_, rfl, rfl, _, nat_at l2, _, rfl, ?_⟩⟩
        have em : ∀ x y : Nat, (if (y : Int) < (x : Int) then (y : Int) else (x : Int)) = ((min x y : Nat) : Int) := fun x y => by split <;> omega
        dsimp only
        rw [em]
        refine bl_one <| bs_asg (mono_2 mono_s mono_s) (dg_2 rfl mono_s mono_s (gs 1) (gs 1)) <| de_tup <| dd_cons <| dv 5 rfl <| dd_cons <| dv 5 rfl <| dd_nil ⟨by simp, _, _, rfl, ⟨_, _, rfl⟩, dv 3 rfl ⟨_, rfl, _, _, _, rfl, ixN_nat (by simpa using l1), ⟨_, _, rfl⟩, dv 4 rfl ⟨_, rfl, _, _, _, rfl, ixN_nat (by simpa using l2), ?_⟩⟩⟩
        refine ⟨rootStep fo (a, t), by rw [rootStep, List.map_set, List.map_set]; rfl, by rw [rootStep_length]; exact g1', fun p hp => g2 p (List.mem_cons_of_mem _ hp), g3⟩
      · rintro fo ⟨g1', _, g3⟩
        exact ⟨fo, rfl, g1', by rw [show fo = ties.foldl rootStep fo0 from g3]; exact f2⟩
    · rintro fo ⟨_, f2⟩
      exact bl_one <| bs_retO (i := 1) rfl (.inl rfl) rfl nml ⟨l, by rw [← f2]; rfl⟩
theorem law_wish_ok (b : Blt mg) (GP : Df P w K mg base T 1 "_law_plus" ["_law_one_so", "_law_two_so"] (SP 2 pPlus)) (GM : Df P w K mg base T 1 "_law_many" ["_law_row_so", "_law_times_so"] (SP 2 pTimes)) (GU : Df P w K mg base T 1 "_law_unit" ["_law_place_so", "_law_size_so"] (SP 2 pUnit))
    (F : Fd K mg "_law_wish_of_heights" 81 f fd) : Df P w K mg base T 2 "_law_wish_of_heights" ["_law_web_here"] (SP 1 fun ds r => ∃ ties cells, ∃ n : Nat, ds = [webD n ties cells] ∧ (n ≤ 10 ∧ ties.length ≤ 10) ∧ r = wishD ties.length n (linesM n ties)) :=
  dp_ok F.fn F.mg (bn_law_wish_of_heights F) sc_law_wish_of_heights rfl fun cdv A outer s H E hr B ds r hn h => by
    obtain ⟨ties, cells, n, rfl, ⟨h1, h2⟩, rfl⟩ := h
    have nd := nd_law_wish_of_heights
    refine bl_cons <| bs_setN nd (i := 1) rfl (.inl rfl) <| dn_lst <| dd_nil ⟨by simp, fun l nml _ => ?_⟩
    refine bl_cons <| bs_forJ (β := Lines) PassesOwn.never rfl (mono_2 (mn 2) (mono_2 (mn 3) (mn 4))) (dg_2 rfl (mn 2) (mono_2 (mn 3) (mn 4)) (g1 nd 2) (dg_2 rfl (mn 3) (mn 4) (g1 nd 3) (g1 nd 4))) [2, 3, 4, 5] ties.zipIdx (fun p => .tuple [.int (p.2 : Nat), tieD1 p.1]) (fun fo => [.dat (webD n ties cells), .own l (fo.map lineD), .non, .non, .non, .non])
      (fun rest fo => fo.length + rest.length = ties.length ∧ fo ++ rest.map (lineM n ties.length) = linesM n ties)
      <| di_enum rfl b.enumerate <| de_ixT (fun _ _ => rfl) <| dv 0 rfl ⟨_, rfl, de_int ⟨_, rfl, tieD ties, rfl, _, _, rfl, enumD_map tieD1 ties, ⟨[], rfl, by simp, rfl⟩, fun _ => trivial, ?_, ?_⟩⟩
    · rintro ⟨⟨a, t⟩, i⟩ rest fo ⟨f1, f2⟩
      have f1 : fo.length + (rest.length + 1) = ties.length := f1
      refine ⟨_, _, rfl, ⟨_, _, rfl, ?_⟩⟩
      refine bl_cons <| bs_set nd (i := 5) rfl (.inl rfl) <| de_callP GP (hr.mono (by decide)) rfl <| dd_cons <| de_callP GU (hr.mono (by decide)) rfl <| dd_cons <| dv 4 rfl <| dd_cons <| de_ixT (fun _ _ => rfl) <| dv 0 rfl ⟨_, rfl, de_int ⟨_, rfl, .int n, rfl, dd_nil ⟨rfl, _, ⟨(t : Int), n, rfl, by omega, rfl⟩, dd_cons <| de_callP GM (hr.mono (by decide)) rfl <| dd_cons <| de_callP GU (hr.mono (by decide)) rfl <| dd_cons <| dv 3 rfl <| dd_cons <| de_ixT (fun _ _ => rfl) <| dv 0 rfl ⟨_, rfl, de_int ⟨_, rfl, .int n, rfl, dd_nil ⟨rfl, _, ⟨(a : Int), n, rfl, by omega, rfl⟩, dd_cons <| de_neg <| de_int ⟨_, rfl, dd_nil ⟨rfl, _, ⟨oneAt a n, -1, rfl, ⟨by rw [oneAt_length]; omega, fun x _ => .of_right (by decide)⟩, rfl⟩, dd_nil ⟨rfl, _, ⟨oneAt t n, scal (oneAt a n) (-1), rfl, by rw [oneAt_length]; omega, rfl⟩, ?_⟩⟩⟩⟩⟩⟩⟩⟩⟩
      refine bl_one <| ap 1 ⟨_, _, rfl⟩ <| de_tup <| dd_cons <| de_callP GU (hr.mono (by decide)) rfl <| dd_cons <| dv 2 rfl <| dd_cons <| de_len rfl b.len <| ds_tup <| de_ixT (fun _ _ => rfl) <| dv 0 rfl ⟨_, rfl, de_int ⟨_, rfl, tieD ties, rfl, _, rfl, dd_nil ⟨rfl, _, ⟨(i : Int), ties.length, by rw [List.length_map], by omega, rfl⟩, dd_cons <| dv 5 rfl <| dd_nil ⟨by simp, l, _, rfl, by rw [List.length_map]; omega, ?_⟩⟩⟩⟩
      exact ⟨fo ++ [lineM n ties.length ((a, t), i)], by rw [List.map_append]; rfl, by rw [List.length_append]; show fo.length + 1 + rest.length = _; omega, by rw [List.append_assoc]; exact f2⟩
    · rintro fo ⟨_, f2⟩
      have f2 : fo ++ [] = linesM n ties := f2
      rw [List.append_nil] at f2
      subst f2
      exact bl_one <| bs_ret <| de_tup <| dd_cons <| de_len rfl b.len <| ds_tup <| de_ixT (fun _ _ => rfl) <| dv 0 rfl ⟨_, rfl, de_int ⟨_, rfl, tieD ties, rfl, _, rfl, dd_cons <| de_ixT (fun _ _ => rfl) <| dv 0 rfl ⟨_, rfl, de_int ⟨_, rfl, .int n, rfl, dd_cons <| de_tuple rfl b.tuple <| sv 1 rfl rfl <| dd_nil ⟨by simp, by rw [List.length_map]⟩⟩⟩⟩⟩
end
end Wk

set_option Elab.async false
set_option linter.all false
set_option maxRecDepth 100000
set_option maxHeartbeats 1000000
namespace Wk
open PySem PySem.Spec PyProof.Rows L2 NdefX DL
def DK (T : List NTab) (X : Cx) (Δ : List En) (es : List Keyword) (Q : List DL.D → List En → Prop) : Prop := PK X es (tDD X.K T Δ Q)
def lK (T : List NTab) (X : Cx) (e : List Keyword) : TA := fun σ H R => ∃ Δ Q, DK T X Δ e Q ∧ tDD X.K T Δ Q σ H R
theorem pk_l {T : List NTab} {X : Cx} {e : List Keyword} : PK X e (lK T X e) := ⟨fun pos pins s σ H R I ⟨_, _, h, q⟩ => PK.run h pos pins s σ H R I q⟩
theorem PK.weak {X : Cx} {es : List Keyword} {t u : TA} (h : PK X es t) (w : ∀ σ H R, u σ H R → t σ H R) : PK X es u := ⟨fun pos pins s σ H R I q => h.run pos pins s σ H R I (w _ _ _ q)⟩
section
variable {T : List NTab} {X : Cx} {Δ : List En} {e : Expr} {es : List Keyword} {Q : List DL.D → List En → Prop} {nm : Option Str} {kp p pos : Pos} {C : Addr} {x : Str}
theorem dk_nil (q : Q [] Δ) : DK T X Δ [] Q := PK.weak pk_nil fun σ H R ⟨B, L, k⟩ => k [] Δ [] B H q Stp.refl L .nil
theorem dk_cons (h : DE T X Δ e fun d Δ1 => DK T X Δ1 es fun ds Δ2 => Q (d :: ds) Δ2) : DK T X Δ (⟨nm, e, kp⟩ :: es) Q :=
  PK.weak (pk_cons h (pk_l (T := T))) fun σ H R ⟨B, L, k⟩ => ⟨B, L, fun d Δ1 v B1 H1 h1 S1 L1 d1 => ⟨Δ1, _, h1, B1, L1, fun ds Δ2 vs B2 H2 q S2 L2 a => k _ Δ2 _ B2 H2 q (S1.trans S2) L2 (.cons (d1.sub S2.bb) a)⟩⟩
/-- three in the other order -/
def rev3 {α : Type} : List α → List α
  | [a, b, c] => [c, b, a]
  | _ => []
theorem rev3_vals : ∀ {zs : List V} {ws : List Value}, Vals zs ws → Vals (rev3 zs) (rev3 ws)
  | [], _, .nil => .nil
  | [_], _, .cons _ .nil => .nil
  | [_, _], _, .cons _ (.cons _ .nil) => .nil
  | [_, _, _], _, .cons a (.cons b (.cons c .nil)) => .cons c (.cons b (.cons a .nil))
  | _ :: _ :: _ :: _ :: _, _, .cons _ (.cons _ (.cons _ (.cons _ _))) => .nil
structure KB3 (K : DL.Frag) (fd : FuncData) (ps ks : List Str) : Prop where
  to : ∀ (s : Shared) (ws : List Value), ws.length = 3 → BindsTo s fd ⟨[], ks.zip ws⟩ (ps.zip (rev3 ws))
theorem kb_heights {K : DL.Frag} {mg : Str → Option Value} {f : Addr} {fd : FuncData} (F : Fd K mg "heights_on" 49 f fd) : KB3 K fd ["web", "size", "hours"] ["hours", "size", "web"] := by
  obtain ⟨oc, od, dV, kV, doc, pm, an, cdv, ct, osl, rfl, lk, hcd, hD, hK⟩ := F.fn.ex
  rcases hD with ⟨_, rfl⟩ | ⟨e, _⟩
  · exact ⟨fun s ws h => match ws, h with | [_, _, _], _ => .of_eq rfl⟩
  · exact absurd rfl e
theorem de_callXK {QQ : QD} {k : Nat} {ps ks : List Str} {pre : List DL.D → Option DL.D → Prop} {f : Addr} {fd : FuncData} {i : Nat} (G : Dx X.prog X.w X.K X.mg X.base T C k x ps 3 pre) (F0 : Fd X.K X.mg x i f fd) (kb : KB3 X.K fd ps ks) (hr : Room k X.A) (hg : Gl X x)
    (h : DK T X Δ es fun ds Δ1 => ∃ a b c r, ds = [a, b, c] ∧ pre [c, b, a] (some r) ∧ QQ r Δ1)
    (hks : (backToKw pos (keywordEach es X.env)).filterMap (·.1) = ks := by rfl) (hall : (backToKw pos (keywordEach es X.env)).all (·.1.isSome) = true := by rfl)
    (hdb : (x == ("__debug__" : Str)) = false := by decide) (hpl : ((backTo pos (starEach [] X.env)).any (·.1) || (backToKw pos (keywordEach es X.env)).any (·.1.isNone)) = false := by rfl) (hps : ps.length = 3 := by rfl) : DE T X Δ (.Call (.Name x p) [] es pos) QQ := by
  obtain ⟨f', fd', F, hm, hk, hb, oc, od, osl, lk⟩ := G.ex
  obtain rfl : f' = f := by have := F0.mg; rw [hm] at this; cases this; rfl
  obtain rfl : fd' = fd := by
    obtain ⟨oc2, od2, _, _, _, _, _, _, _, osl2, e, lk2, _⟩ := F0.fn.ex
    rw [lk] at lk2
    injection lk2 with lk2
    injection lk2 with _ _ lk2 _
    injection lk2
  refine ⟨fun pins s σ H Q I hh => ?_⟩
  obtain ⟨B, L, kk⟩ := hh
  refine wpAny_Call_Name_kw (ld_glob I hg hm ?_ hdb)
  refine PySem.W.callWith_KW0 (h₀ := X.base) I.ok.mod.kin hk hall (thn (h.run pos pins s σ H (fun zs H2 => zs.length = 3 ∧ spX T X.K C 3 pre (rev3 zs) H2 Q (fun _ _ _ => False)) I ?_) fun ws s2 ⟨zs, H2, I2, rz, l1, q2⟩ => ⟨I2.kIn, ?_⟩) hpl
  · refine ⟨B, L, fun ds Δ' vs B' H' ⟨a, b, c, r, e, hp, q⟩ S1 L1 al => ?_⟩
    subst e
    cases al with
    | cons d1 al => cases al with
      | cons d2 al => cases al with
        | cons d3 al =>
          cases al
          refine ⟨rfl, ?_⟩
          exact call_x L1 (.cons d3 (.cons d2 (.cons d1 .nil))) rfl hp (fun r' e v B2 H2 S2 L2 dv => by cases e; exact kk r Δ' v B2 H2 q (S1.trans S2) L2 dv) fun e => nomatch e
  · rw [hks]
    have r2 := rev3_vals rz
    have hl : (rev3 ws).length = ps.length := by rw [← r2.length]; exact F.len _ _ _ _ q2
    refine wpAny_call (codeAny_mono (F.run X.A X.stack s2 H2 ⟨[], ks.zip ws⟩ (rev3 ws) (rev3 zs) Q _ hr I2.env0 (kb.to s2 ws (rz.length.symm.trans l1)) r2 q2) fun r s' hq => ?_)
    cases r with
    | error e =>
      obtain ⟨_, _, _, _, _, _, _, _, _, _, _, _, z⟩ := hq
      exact z.elim
    | ok fl =>
      cases fl with
      | ret u => exact I2.after hq
      | next => exact False.elim hq
      | brk => exact False.elim hq
      | cont => exact False.elim hq
end
end Wk

set_option Elab.async false
set_option linter.all false
set_option maxRecDepth 100000
set_option maxHeartbeats 1000000
namespace Wk
open PySem PySem.Spec PyProof.Rows L2 NdefX DL
mutual
theorem tup_lst : ∀ d, tupD (lstD d) = tupD d
  | .list ds => by rw [lstD, tupD, tupD, tup_lsts ds]
  | .tuple ds => by rw [lstD, tupD, tupD, tup_lsts ds]
  | .none => rfl
  | .bool b => rfl
  | .int i => rfl
  | .str s => rfl
  | .dict k => rfl
theorem tup_lsts : ∀ ds, tupDs (lstDs ds) = tupDs ds
  | [] => rfl
  | d :: ds => by rw [lstDs, tupDs, tupDs, tup_lst d, tup_lsts ds]
end
theorem fit_lst : ∀ {n : Nat} {d : DL.D}, fit n d → fit n (lstD d)
  | 0, d, h => by rw [lst_leaf h]; exact h
  | n + 1, d, h => by
    cases hq : isSq d with
    | false => rw [lst_leaf hq]; exact h
    | true =>
      obtain ⟨t, ds, e⟩ := seqD_of hq
      rw [lst_seq e]
      intro t' ds' e'
      cases e'
      obtain ⟨h1, h2⟩ := h t ds e
      exact ⟨by simpa using h1, fun x hx => by obtain ⟨y, hy, rfl⟩ := List.mem_map.mp hx; exact fit_lst (h2 y hy)⟩
theorem fit_T {n : Nat} {ds : List DL.D} (h : ds.length ≤ 1000) (h2 : ∀ x ∈ ds, fit n x) : fit (n + 1) (.tuple ds) := fun t es e => by cases e; exact ⟨h, h2⟩
theorem fit_L {n : Nat} {ds : List DL.D} (h : ds.length ≤ 1000) (h2 : ∀ x ∈ ds, fit n x) : fit (n + 1) (.list ds) := fun t es e => by cases e; exact ⟨h, h2⟩
theorem fit_i (n : Nat) (i : Int) : fit n (.int i) := fit_leaf rfl n
theorem fit_iT' {n : Nat} {xs : List Int} (h : xs.length ≤ 1000) : fit (n + 1) (iT xs) := fit_T (by simpa using h) fun x hx => by obtain ⟨i, _, rfl⟩ := List.mem_map.mp hx; exact fit_i n i
theorem tup_tieD (ties : Ties) : tupD (tieD ties) = tieD ties := by
  rw [tieD, tupD, tupDs_map, List.map_map]
  congr 1
theorem fit_web {n : Nat} {ties : Ties} {cells : List (List Int)} (h1 : ties.length ≤ 1000) (h2 : cells.length ≤ 1000) (h3 : ∀ c ∈ cells, c.length ≤ 1000) : fit 3 (webD n ties cells) :=
  fit_T (by simp) fun x hx => by
    simp only [List.mem_cons, List.not_mem_nil, or_false] at hx
    rcases hx with rfl | rfl | rfl
    · exact fit_i 2 n
    · exact fit_T (by simpa using h1) fun y hy => by obtain ⟨p, _, rfl⟩ := List.mem_map.mp hy; exact fit_iT' (xs := [(p.1 : Int), (p.2 : Int)]) (by simp)
    · exact fit_T (by simpa using h2) fun y hy => by obtain ⟨p, hp, rfl⟩ := List.mem_map.mp hy; exact fit_iT' (h3 p hp)
theorem tup_web (n : Nat) (ties : Ties) (cells : List (List Int)) : tupD (webD n ties cells) = webD n ties cells := by
  rw [webD, tupD, tupDs, tupDs, tupDs, tupDs, tup_tieD, tup_mT]; rfl
theorem tup_line (p : List Int × List Int) : tupD (lineD p) = lineD p := by
  rw [lineD, tupD, tupDs, tupDs, tupDs, tup_iT, tup_iT]
theorem tup_wish (n m : Nat) (lines : Lines) : tupD (wishD n m lines) = wishD n m lines := by
  rw [wishD, tupD, tupDs, tupDs, tupDs, tupDs, tupD, tupD, tupD, tupDs_map, List.map_map]
  congr 4
  exact congrArg PyData.tuple (List.map_congr_left fun p _ => tup_line p)
theorem fit_wish {n m : Nat} {lines : Lines} (h1 : lines.length ≤ 1000) (h2 : ∀ p ∈ lines, p.1.length ≤ 1000 ∧ p.2.length ≤ 1000) : fit 4 (wishD n m lines) :=
  fit_T (by simp) fun x hx => by
    simp only [List.mem_cons, List.not_mem_nil, or_false] at hx
    rcases hx with rfl | rfl | rfl
    · exact fit_i 3 n
    · exact fit_i 3 m
    · exact fit_T (by simpa using h1) fun y hy => by
        obtain ⟨p, hp, rfl⟩ := List.mem_map.mp hy
        exact fit_T (by simp) fun y hy => by
          simp only [List.mem_cons, List.not_mem_nil, or_false] at hy
          rcases hy with rfl | rfl
          · exact fit_iT' (h2 p hp).1
          · exact fit_iT' (h2 p hp).2
theorem tup_world (z : Int) (hs : List Int) : tupD (worldD z hs) = worldD z hs := by
  have e : tupDs (hs.map fun h => PyData.tuple [.int h]) = hs.map fun h => PyData.tuple [.int h] := by rw [tupDs_map, List.map_map]; rfl
  rw [worldD, tupD, tupDs, tupDs, tupDs, tupD, tupD, e]
  rfl
theorem fit_world {z : Int} {hs : List Int} (h : hs.length ≤ 1000) : fit 4 (worldD z hs) :=
  fit_T (by simp) fun x hx => by
    simp only [List.mem_cons, List.not_mem_nil, or_false] at hx
    rcases hx with rfl | rfl
    · exact fit_iT' (xs := [z]) (by simp)
    · exact fit_T (by simpa using h) fun y hy => by
        obtain ⟨p, hp, rfl⟩ := List.mem_map.mp hy
        exact fit_iT' (xs := [p]) (by simp)
theorem same_iT {n : Nat} {xs : List Int} (h : xs.length ≤ 1000) : sameOk (n + 1) (iT xs) := ⟨trivial, fun t ds e => by cases e; exact ⟨by simpa using h, fun x hx => by
  obtain ⟨i, _, rfl⟩ := List.mem_map.mp hx
  cases n with
  | zero => exact ⟨rfl, trivial⟩
  | succ n => exact ⟨trivial, fun t ds e => nomatch e⟩⟩⟩
theorem same_b (n : Nat) (b : Bool) : sameOk n (.bool b) := by
  cases n with
  | zero => exact ⟨rfl, trivial⟩
  | succ n => exact ⟨trivial, fun t ds e => nomatch e⟩
theorem same_L {n : Nat} {ds : List DL.D} (h : ds.length ≤ 1000) (h2 : ∀ x ∈ ds, sameOk n x) : sameOk (n + 1) (.list ds) := ⟨trivial, fun t es e => by cases e; exact ⟨h, h2⟩⟩
theorem same_T {n : Nat} {ds : List DL.D} (h : ds.length ≤ 1000) (h2 : ∀ x ∈ ds, sameOk n x) : sameOk (n + 1) (.tuple ds) := ⟨trivial, fun t es e => by cases e; exact ⟨h, h2⟩⟩
def sizeL : List Int := [2, 3, 4, 6, 5, 12, 0, 1]
def hoursM (ties : Ties) (z : Int) (tops : List Int) : List Int := ties.map fun p => roundM (tops.getD p.2 0 - tops.getD p.1 0) z
def dueM (n : Nat) (ties : Ties) (z : Int) (tops : List Int) : List Int := (tops.zip (rootsM n ties)).map fun p => roundM (p.1 - tops.getD p.2 0) z
def zeroB (rings : List (List Int)) (z : Int) (hs : List Int) : Bool := rings.all fun r => decide (roundM (dotM r hs) z = 0)
def Sml (hs : List Int) : Prop := ∀ h ∈ hs, h.natAbs ≤ 16
structure CaseF (n : Nat) (ties : Ties) : Prop where
  due : ∀ z tops, z ∈ sizeL → tops.length = n → heightsM n ties z (hoursM ties z tops) = some (dueM n ties z tops)
  hear : ∀ z hs, z ∈ sizeL → hs.length = ties.length → Sml hs → (heightsM n ties z hs).isSome = zeroB (ringM n ties) z hs
  keep : ∀ z hs, z ∈ sizeL → hs.length = ties.length → Sml hs → ∃ res, TimesR (hidRows n (linesM n ties) z) (goalM (linesM n ties) hs) res ∧ res.isSome = zeroB (ringM n ties) z hs
abbrev AllC : Prop := ∀ n ties, Small n ties → ties ≠ [] → CaseF n ties
theorem mulAll_sml {xs hs : List Int} (h : Sml hs) : MulAll xs hs := fun p hp => mul_r (by have := h p.2 (List.of_mem_zip (show (p.1, p.2) ∈ _ from hp)).2; omega)
theorem size_lt {z : Int} (h : z ∈ sizeL) : 0 ≤ z ∧ z ≤ 12 := by
  simp only [sizeL, List.mem_cons, List.not_mem_nil, or_false] at h
  omega
theorem round_sml {x z : Int} (h : z ∈ sizeL) (hx : x.natAbs ≤ 16) : (roundM x z).natAbs ≤ 16 ∧ ((roundM x z).natAbs ≤ 10 ∨ 0 < z ∧ 0 ≤ roundM x z ∧ roundM x z < z) ∨ ¬ x.natAbs ≤ 10 := by
  have := size_lt h
  unfold roundM
  split
  · omega
  · have h1 := Int.fmod_nonneg_of_pos x (show (0 : Int) < z by omega)
    have h2 := Int.fmod_lt_of_pos x (show (0 : Int) < z by omega)
    left; omega
theorem tops_sml {z : Int} (h : z ∈ sizeL) {hs : List Int} (ho : ∀ x ∈ hs, HourOk z x) : ∀ x ∈ hs, -2 ≤ x ∧ x ≤ 11 ∧ (z = 0 → x ≤ 6) := by
  have := size_lt h
  intro x hx
  obtain ⟨h1, h2⟩ := ho x hx
  by_cases hz : 0 < z
  · have := h1 hz; omega
  · have h2 := h2 hz
    simp only [numL, List.mem_cons, List.not_mem_nil, or_false] at h2
    omega
theorem getD_mem {xs : List Int} {i : Nat} (h : i < xs.length) : xs.getD i 0 ∈ xs := by
  rw [List.getD_eq_getElem?_getD, List.getElem?_eq_getElem h]
  exact List.getElem_mem h
theorem round_lt {x z : Int} (h : z ∈ sizeL) (hx : -8 ≤ x ∧ x ≤ 14 ∨ z ≠ 0) : -8 ≤ roundM x z ∧ roundM x z ≤ 14 := by
  have := size_lt h
  unfold roundM
  split
  · omega
  · have h1 := Int.fmod_nonneg_of_pos x (show (0 : Int) < z by omega)
    have h2 := Int.fmod_lt_of_pos x (show (0 : Int) < z by omega)
    omega
theorem rootStep_lt {n : Nat} {fo : List Nat} {p : Nat × Nat} (hn : 0 < n) (h : ∀ x ∈ fo, x < n) : ∀ x ∈ rootStep fo p, x < n := by
  intro x hx
  have g : ∀ i, fo.getD i 0 < n := fun i => by
    rw [List.getD_eq_getElem?_getD]
    cases e : fo[i]? with
    | none => exact hn
    | some y => exact h y (List.mem_of_getElem? e)
  have m : min (fo.getD p.1 0) (fo.getD p.2 0) < n := Nat.lt_of_le_of_lt (Nat.min_le_left _ _) (g _)
  unfold rootStep at hx
  rcases List.mem_or_eq_of_mem_set hx with hx | rfl
  · rcases List.mem_or_eq_of_mem_set hx with hx | rfl
    · exact h x hx
    · exact m
  · exact m
theorem roots_lt {n : Nat} {ties : Ties} (hn : 0 < n) : ∀ x ∈ rootsM n ties, x < n := by
  have f1 : ∀ (ts : List (Nat × Nat)) (fo : List Nat), (∀ x ∈ fo, x < n) → ∀ x ∈ ts.foldl rootStep fo, x < n := by
    intro ts
    induction ts with
    | nil => intro fo h; exact h
    | cons p ts ih => intro fo h; exact ih _ (rootStep_lt hn h)
  have f2 : ∀ (ts : List (Nat × Nat)) (fo : List Nat), (∀ x ∈ fo, x < n) → ∀ x ∈ ts.foldl (fun fo _ => ties.foldl rootStep fo) fo, x < n := by
    intro ts
    induction ts with
    | nil => intro fo h; exact h
    | cons p ts ih => intro fo h; exact ih _ (f1 _ _ h)
  exact f2 ties _ fun x hx => List.mem_range.mp hx
theorem roots_length (n : Nat) (ties : Ties) : (rootsM n ties).length = n := by
  have f1 : ∀ (ts : List (Nat × Nat)) (fo : List Nat), (ts.foldl rootStep fo).length = fo.length := by
    intro ts
    induction ts with
    | nil => intro fo; rfl
    | cons p ts ih => intro fo; rw [List.foldl_cons, ih, rootStep_length]
  have f2 : ∀ (ts : List (Nat × Nat)) (fo : List Nat), (ts.foldl (fun fo _ => ties.foldl rootStep fo) fo).length = fo.length := by
    intro ts
    induction ts with
    | nil => intro fo; rfl
    | cons p ts ih => intro fo; rw [List.foldl_cons, ih, f1]
  rw [rootsM, f2, List.length_range]
theorem lines_ok (n : Nat) (ties : Ties) : LinesOk ties.length n (linesM n ties) := fun p hp => by
  obtain ⟨q, hq, rfl⟩ := List.mem_map.mp hp
  exact ⟨oneAt_length _ _, by rw [lineM, addR_length, scal_length, oneAt_length, oneAt_length, Nat.min_self]⟩
theorem lines_length (n : Nat) (ties : Ties) : (linesM n ties).length = ties.length := by simp [linesM]
theorem zeroB_fil (rings : List (List Int)) (z : Int) (hs : List Int) : PyData.eqv (.list ((rings.filter fun r => !decide (roundM (dotM r hs) z = 0)).map fun _ => PyData.int 1)) (.list []) = zeroB rings z hs := by
  unfold zeroB
  induction rings with
  | nil => rfl
  | cons r rings ih =>
    rw [List.all_cons, List.filter_cons]
    by_cases q : roundM (dotM r hs) z = 0
    · rw [decide_eq_true q]
      simpa using ih
    · rw [decide_eq_false q]
      rfl
end Wk

set_option Elab.async false
set_option linter.all false
set_option maxRecDepth 100000
set_option maxHeartbeats 2000000
namespace Wk
open PySem PySem.Spec PyProof.Rows L2 NdefX DL
abbrev pWish : List DL.D → DL.D → Prop := fun ds r => ∃ ties cells, ∃ n : Nat, ds = [webD n ties cells] ∧ (n ≤ 10 ∧ ties.length ≤ 10) ∧ r = wishD ties.length n (linesM n ties)
section
variable {P : Program} {w : World} {K : DL.Frag} {mg : Str → Option Value} {base : Heap} {T : List NTab} {f : Addr} {fd : FuncData} {C : Addr}
def sCase : SD := fun as k => ∃ l t n ties cells z, ∃ c : Nat, as = [.own l (t.map .int), .dat (webD n ties cells), .dat (.int z)] ∧ (Tin c t ∧ c ≤ 2000 ∧ WebP n ties cells ∧ ties ≠ [] ∧ z ∈ sizeL) ∧
  ∀ t', Tin (c + 20) t' → k (.dat (.bool true)) [.own l (t'.map .int), .dat (webD n ties cells), .dat (.int z)]
theorem sCase_mono : SMono sCase := fun as k k' ⟨l, t, n, ties, cells, z, c, e, h, q⟩ w => ⟨l, t, n, ties, cells, z, c, e, h, fun t' a4 => w _ _ (q t' a4)⟩
theorem case_fin2 {oth : List Int} {t3 : List Int} {d7 : DL.D} {l : Addr} {t tops hrs : List Int} {n : Nat} {ties : Ties} {cells : List (List Int)} {z : Int} {c : Nat} {d4 d6 : DL.D} {k : En → List En → Prop}
    (WF : WebF n ties) (CF : CaseF n ties) (h3 : WebP n ties cells) (hc : c ≤ 3000) (hz : z ∈ sizeL) (kpos : 0 < ties.length) (hlh : hrs.length = ties.length) (hsm : ∀ x ∈ hrs, -8 ≤ x ∧ x ≤ 14 ∧ (z = 0 → x ≤ 8)) (hz0 : zeroB (ringM n ties) z hrs = true)
    (cdv : Value) (A : Around) (outer : List Env) (s : Shared) (H : Hp) (E : XK) (hr : Room 7 (cxD P w K mg base N_law_case_right "_law_case_right" (defScope (Hd.top 82)) f cdv A outer s H E).A) (B : Hp)
    (b : Blt mg)
    (GT : Df P w K mg base T 1 "_law_take" ["_law_tin", "_law_below_so"] sTake) (GO : Df P w K mg base T 2 "_law_of" ["_law_tin", "_law_goods_so"] sOf)
    (GRd : Df P w K mg base T 1 "_law_round" ["_law_number_so", "_law_size_so"] (SP 2 pRound)) (GDo : Df P w K mg base T 1 "_law_dot" ["_law_one_so", "_law_two_so"] (SP 2 pShown))
    (GHd : Df P w K mg base T 6 "_law_heard" ["_law_web_here", "_law_size", "_law_hours_here"] (SP 3 pHeard))
    (GRR : Df P w K mg base T 5 "ring_rows" ["web"] (SP 1 pRing)) (GWi : Df P w K mg base T 2 "_law_wish_of_heights" ["_law_web_here"] (SP 1 pWish)) (GKe : Df P w K mg base T 7 "keeps" ["wish", "world"] (SP 2 pKeeps))
    (GS1 : Df P w K mg base T 2 "_law_same" ["_law_got", "_law_due"] (SP 2 (pSame 1)))
    (hlo : oth.length = ties.length) (oSml : Sml oth) (qq : k (.dat (.bool true)) [.own l (t3.map .int), .dat (webD n ties cells), .dat (.int z)]) :
    BL ⟨T, [.own l (t.map .int), .dat (webD n ties cells), .dat (.int z)], B, H⟩ (cxD P w K mg base N_law_case_right "_law_case_right" (defScope (Hd.top 82)) f cdv A outer s H E) [.own l (t3.map .int), .dat (webD n ties cells), .dat (.int z), .dat (iT tops), .dat d4, .dat (iT hrs), .dat d6, .dat d7, .dat (iT oth), .dat (.bool (zeroB (ringM n ties) z oth)), .non, .non, .non, .non, .non, .non, .non, .non, .non] ((defBody (Hd.top 82)).drop 8) (rtB [.own l (t.map .int), .dat (webD n ties cells), .dat (.int z)] k) := by
    have nd := nd_law_case_right
    obtain ⟨n1, n4, k3, he⟩ := h3.sm
    have hzz := size_lt hz
    have fitW : fit 3 (webD n ties cells) := fit_web (by omega) (by have := h3.cl; omega) fun r hr' => by rw [CellP.wd h3 WF r hr']; omega
    have tupW := tup_web n ties cells
    have rgl : (ringM n ties).length ≤ 3 := by rw [ringM, List.length_map]; have := otM_len (n := n) (ties := ties); omega
    have pH : ∀ (d e : DL.D) (hs : List Int), fit 3 d → tupD d = webD n ties cells → fit 3 e → tupD e = iT hs → hs.length = ties.length → Sml hs → pHeights [d, .int z, e] ((heightsM n ties z hs).map iT) := fun d e hs a1 a2 a3 a4 a5 a6 => ⟨d, e, ties, cells, hs, n, z, rfl, ⟨a1, a2, WF.ok, a3, a4, by omega, fun v _ => mulAll_sml a6⟩, rfl⟩
    have fitI : ∀ hs : List Int, hs.length = ties.length → fit 3 (iT hs) := fun hs h => fit_iT' (by omega)
    have hSml : Sml hrs := fun x hx => by have := hsm x hx; omega
    have hear := CF.hear z oth hz hlo oSml
    -- heard
    refine bl_cons <| bs_if <| dt_eq hr.units <| de_eq hr.units <| de_callP GHd (hr.mono (by decide)) rfl <| dd_cons <| dv 1 rfl <| dd_cons <| dv 2 rfl <| dd_cons <| dv 8 rfl <| dd_nil ⟨rfl, _, ⟨_, pH _ _ _ fitW tupW (fitI _ hlo) (tup_iT _) hlo oSml, rfl⟩, de_new <| dn_lst <| dd_cons <| de_str <| dd_cons <| de_bl <| dd_nil ⟨by simp, ?_, by decide +kernel, dv 9 rfl ⟨rfl, rfl, fun h => ?_, fun _ => bl_nil ?_⟩⟩⟩
    · cases e : heightsM n ties z oth with
      | none => decide +kernel
      | some r => exact shaped_iT r
    · exfalso
      rw [← hear] at h
      cases e : heightsM n ties z oth with
      | none => rw [e] at h; exact absurd h (by decide +kernel)
      | some r => rw [e] at h; exact absurd h (by simp [PyData.eqv])
    -- wish
    refine bl_cons <| bs_set nd (i := 10) rfl (by first | exact .inl rfl | exact .inr rfl) <| de_callP GWi (hr.mono (by decide)) rfl <| dd_cons <| dv 1 rfl <| dd_nil ⟨rfl, _, ⟨ties, cells, n, rfl, ⟨by omega, by omega⟩, rfl⟩, ?_⟩
    -- got
    obtain ⟨res1, tr1, rs1⟩ := CF.keep z hrs hz hlh hSml
    obtain ⟨res2, tr2, rs2⟩ := CF.keep z oth hz hlo oSml
    rw [hz0] at rs1
    have ll := lines_length n ties
    have lo := lines_ok n ties
    have pK : ∀ hs res, hs.length = ties.length → Sml hs → TimesR (hidRows n (linesM n ties) z) (goalM (linesM n ties) hs) res → pKeeps [wishD ties.length n (linesM n ties), worldD z hs] (.bool res.isSome) := fun hs res a1 a2 a3 => ⟨_, _, linesM n ties, hs, res, ties.length, n, z, rfl, ⟨fit_wish (by omega) (fun p hp => by rw [(lo p hp).1, (lo p hp).2]; omega), tup_wish _ _ _, fit_world (by omega), tup_world _ _, ⟨by omega, by omega, by omega, lo, fun p _ => mulAll_sml a2, by omega, a3⟩, by omega⟩, rfl⟩
    refine bl_cons <| bs_lc (i := 11) (own := [("_law_own", 17)]) rfl nd rfl rfl (by rfl) (blkOk_by (by kernel_rfl)) (.inl rfl) (mn 17) (fun _ _ _ _ _ => g1 nd 17) (by decide) <| di_tup <| de_tup <| dd_cons <| dv 5 rfl <| dd_cons <| dv 8 rfl <| dd_nil ⟨by simp, _, rfl, lc_map [(hrs, res1), (oth, res2)] (fun p => iT p.1) (fun p => .bool p.2.isSome) _ rfl trivial rfl (mn 17)
      (fun p hp s H C cl fp => ?_) (by simp) ?_⟩
    · have hp2 : p.1.length = ties.length ∧ Sml p.1 ∧ TimesR (hidRows n (linesM n ties) z) (goalM (linesM n ties) p.1) p.2 := by
        simp only [List.mem_cons, List.not_mem_nil, or_false] at hp
        rcases hp with rfl | rfl
        · exact ⟨hlh, hSml, tr1⟩
        · exact ⟨hlo, oSml, tr2⟩
      refine de_callP GKe (hr.mono (by decide)) rfl <| dd_cons <| dv 10 rfl <| dd_cons <| de_tup <| dd_cons <| de_tup <| dd_cons <| dv 2 rfl <| dd_nil ⟨by simp, dd_cons <| de_tuple rfl b.tuple <| ds_new <| n_lc nd [("_law_hour", 18)] (fun _ _ _ _ _ => g1 nd 18) (mn 18) <| di_tup <| dv 17 rfl ⟨_, rfl, lc_map p.1 PyData.int (fun h => .tuple [.int h]) _ rfl trivial rfl (mn 18) (fun h hh s H C cl fp => de_tup <| dd_cons <| dv 18 rfl <| dd_nil ⟨by simp, rfl, rfl⟩) (by omega) (dd_nil ⟨by simp, dd_nil ⟨rfl, _, pK p.1 p.2 hp2.1 hp2.2.1 hp2.2.2, rfl, rfl⟩⟩)⟩⟩
    -- the end
    refine bl_one <| bs_ret <| de_callP GS1 (hr.mono (by decide)) rfl <| dd_cons <| dv 11 rfl <| dd_cons <| de_new <| dn_lst <| dd_cons <| de_bl <| dd_cons <| dv 9 rfl <| dd_nil ⟨by simp, dd_nil ⟨rfl, _, ⟨.list [.bool true, .bool (zeroB (ringM n ties) z oth)], ?_, same_L (by simp) (fun x hx => by
        simp only [List.mem_cons, List.not_mem_nil, or_false] at hx
        rcases hx with rfl | rfl <;> exact same_b _ _), rfl⟩, ⟨_, back_own 0 (ds := t3.map .int) rfl (back_dat (back_dat back_nil)), qq⟩⟩⟩
    show [PyData.list [.bool res1.isSome, .bool res2.isSome], _] = _
    rw [rs1, rs2]
theorem case_fin1 {t1 : List Int} {l : Addr} {t tops hrs : List Int} {n : Nat} {ties : Ties} {cells : List (List Int)} {z : Int} {c : Nat} {d4 d6 : DL.D} {k : En → List En → Prop}
    (WF : WebF n ties) (CF : CaseF n ties) (h3 : WebP n ties cells) (hc : c ≤ 3000) (hz : z ∈ sizeL) (kpos : 0 < ties.length) (hlh : hrs.length = ties.length) (hsm : ∀ x ∈ hrs, -8 ≤ x ∧ x ≤ 14 ∧ (z = 0 → x ≤ 8)) (hz0 : zeroB (ringM n ties) z hrs = true)
    (cdv : Value) (A : Around) (outer : List Env) (s : Shared) (H : Hp) (E : XK) (hr : Room 7 (cxD P w K mg base N_law_case_right "_law_case_right" (defScope (Hd.top 82)) f cdv A outer s H E).A) (B : Hp)
    (b : Blt mg)
    (GT : Df P w K mg base T 1 "_law_take" ["_law_tin", "_law_below_so"] sTake) (GO : Df P w K mg base T 2 "_law_of" ["_law_tin", "_law_goods_so"] sOf)
    (GRd : Df P w K mg base T 1 "_law_round" ["_law_number_so", "_law_size_so"] (SP 2 pRound)) (GDo : Df P w K mg base T 1 "_law_dot" ["_law_one_so", "_law_two_so"] (SP 2 pShown))
    (GHd : Df P w K mg base T 6 "_law_heard" ["_law_web_here", "_law_size", "_law_hours_here"] (SP 3 pHeard))
    (GRR : Df P w K mg base T 5 "ring_rows" ["web"] (SP 1 pRing)) (GWi : Df P w K mg base T 2 "_law_wish_of_heights" ["_law_web_here"] (SP 1 pWish)) (GKe : Df P w K mg base T 7 "keeps" ["wish", "world"] (SP 2 pKeeps))
    (GS1 : Df P w K mg base T 2 "_law_same" ["_law_got", "_law_due"] (SP 2 (pSame 1)))
    (ht : Tin c t1) (qq : ∀ t', Tin (c + 10) t' → k (.dat (.bool true)) [.own l (t'.map .int), .dat (webD n ties cells), .dat (.int z)]) :
    BL ⟨T, [.own l (t.map .int), .dat (webD n ties cells), .dat (.int z)], B, H⟩ (cxD P w K mg base N_law_case_right "_law_case_right" (defScope (Hd.top 82)) f cdv A outer s H E) [.own l (t1.map .int), .dat (webD n ties cells), .dat (.int z), .dat (iT tops), .dat d4, .dat (iT hrs), .dat d6, .non, .non, .non, .non, .non, .non, .non, .non, .non, .non, .non, .non] ((defBody (Hd.top 82)).drop 5) (rtB [.own l (t.map .int), .dat (webD n ties cells), .dat (.int z)] k) := by
    have nd := nd_law_case_right
    obtain ⟨n1, n4, k3, he⟩ := h3.sm
    have hzz := size_lt hz
    have fitW : fit 3 (webD n ties cells) := fit_web (by omega) (by have := h3.cl; omega) fun r hr' => by rw [CellP.wd h3 WF r hr']; omega
    have tupW := tup_web n ties cells
    have rgl : (ringM n ties).length ≤ 3 := by rw [ringM, List.length_map]; have := otM_len (n := n) (ties := ties); omega
    have pH : ∀ (d e : DL.D) (hs : List Int), fit 3 d → tupD d = webD n ties cells → fit 3 e → tupD e = iT hs → hs.length = ties.length → Sml hs → pHeights [d, .int z, e] ((heightsM n ties z hs).map iT) := fun d e hs a1 a2 a3 a4 a5 a6 => ⟨d, e, ties, cells, hs, n, z, rfl, ⟨a1, a2, WF.ok, a3, a4, by omega, fun v _ => mulAll_sml a6⟩, rfl⟩
    have fitI : ∀ hs : List Int, hs.length = ties.length → fit 3 (iT hs) := fun hs h => fit_iT' (by omega)
    have hSml : Sml hrs := fun x hx => by have := hsm x hx; omega
    -- k
    refine bl_cons <| bs_set nd (i := 7) rfl (by first | exact .inl rfl | exact .inr rfl) <| de_callM GT sTake_mono (hr.mono (by decide)) rfl <| am 0 rfl <| da_d <| de_len rfl b.len <| sv 5 rfl rfl <| da_nil ⟨by simp [slotsOf], rfl, l, t1, c, ties.length, by rw [List.length_map, hlh]; rfl, ⟨ht, by omega, by omega, by omega⟩, fun d t2 d0 d1 ht2 => ⟨rfl, _, rfl, ?_⟩⟩
    obtain ⟨kk, hkk, kl⟩ : ∃ kk : Nat, d = (kk : Int) ∧ kk < ties.length := ⟨d.toNat, by omega, by omega⟩
    subst hkk
    have kk2 : kk < (hrs).length := by rw [hlh]; exact kl
    -- other
    refine bl_cons <| bs_set nd (i := 8) rfl (by first | exact .inl rfl | exact .inr rfl) <| de_catT <| de_catT <| de_slT <| dv 5 rfl ⟨_, rfl, do_none <| do_some <| dv 7 rfl ⟨_, rfl, _, rfl, de_tup <| dd_cons <| de_callP GRd (hr.mono (by decide)) rfl <| dd_cons <| de_add <| de_ixT (fun _ _ => rfl) <| dv 5 rfl ⟨_, rfl, dv 7 rfl ⟨_, rfl, _, int_at kk2, _, rfl, de_callM GO sOf_mono (hr.mono (by decide)) rfl <| am 0 rfl <| da_d <| de_new <| dn_lst <| dd_cons <| de_int <| dd_cons <| de_int <| dd_cons <| de_int <| dd_cons <| de_int <| dd_cons <| de_int <| dd_nil ⟨by simp, da_nil ⟨by simp [slotsOf], rfl, l, t2, [1, 2, 3, 4, 6], c + 1, rfl, ⟨ht2, by omega, by decide, by decide⟩, fun x hx t3 ht3 => ⟨rfl, _, rfl, _, rfl, ?_⟩⟩⟩⟩⟩⟩⟩
    refine dd_cons <| dv 2 rfl <| dd_nil ⟨rfl, _, ⟨_, _, rfl, rfl⟩, dd_nil ⟨by simp, _, rfl, ?_⟩⟩
    have ec1 : DL.cutD ((hrs).map PyData.int) none (some (kk : Int)) = ((hrs).take kk).map .int := by rw [cut_to, List.map_take]
    have ec2 : DL.cutD ((hrs).map PyData.int) (some ((kk : Int) + 1)) none = ((hrs).drop (kk + 1)).map .int := by rw [show (kk : Int) + 1 = ((kk + 1 : Nat) : Int) by omega, cut_from, List.map_drop]
    rw [ec1]
    refine ⟨by rw [List.length_map, List.length_take]; show _ + 1 ≤ 10000; omega, _, rfl, de_slT <| dv 5 rfl ⟨_, rfl, do_some <| de_add <| dv 7 rfl ⟨_, rfl, de_int ⟨_, rfl, _, rfl, do_none ⟨_, rfl, ?_⟩⟩⟩⟩⟩
    rw [ec2]
    refine ⟨by rw [List.length_append, List.length_map, List.length_map, List.length_take, List.length_drop]; show _ + 1 + _ ≤ 10000; omega, ?_⟩
    obtain ⟨oth, ho⟩ : ∃ oth : List Int, oth = (hrs).take kk ++ [roundM ((hrs).getD kk 0 + x) z] ++ (hrs).drop (kk + 1) := ⟨_, rfl⟩
    have eo : ((hrs).take kk).map PyData.int ++ [PyData.int (roundM ((hrs).getD kk 0 + x) z)] ++ ((hrs).drop (kk + 1)).map .int = oth.map .int := by rw [ho, List.map_append, List.map_append]; rfl
    rw [eo]
    have hlo : oth.length = ties.length := by
      rw [ho, List.length_append, List.length_append, List.length_take, List.length_drop]; show min _ _ + 1 + _ = _; omega
    have oSml : Sml oth := fun y hy => by
      rw [ho] at hy
      rcases List.mem_append.mp hy with hy | hy
      · rcases List.mem_append.mp hy with hy | hy
        · exact hSml y (List.mem_of_mem_take hy)
        · rw [List.mem_singleton.mp hy]
          have a1 := hsm _ (getD_mem kk2)
          have a2 : 1 ≤ x ∧ x ≤ 6 := by
            simp only [List.mem_cons, List.not_mem_nil, or_false] at hx
            omega
          have := round_lt (x := (hrs).getD kk 0 + x) hz (by omega)
          omega
      · exact hSml y (List.mem_of_mem_drop hy)
    -- so
    refine bl_cons <| bs_set nd (i := 9) rfl (by first | exact .inl rfl | exact .inr rfl) <| de_eq hr.units <| de_new <| n_lc nd [("_law_row", 16)] (fun _ _ _ _ _ => g1 nd 16) (mn 16) <| di_tup <| de_callP GRR (hr.mono (by decide)) rfl <| dd_cons <| dv 1 rfl <| dd_nil ⟨rfl, _, ⟨webD n ties cells, ties, cells, n, rfl, ⟨fitW, tupW, WF.ok⟩, rfl⟩, _, rfl, lc_fil (ringM n ties) iT (fun _ => .int 1) (fun r => !decide (roundM (dotM r oth) z = 0)) _ rfl trivial rfl (mn 16)
      (fun r hr' s H C cl fp => dt_ne hr.units <| de_callP GRd (hr.mono (by decide)) rfl <| dd_cons <| de_callP GDo (hr.mono (by decide)) rfl <| dd_cons <| dv 16 rfl <| dd_cons <| dv 8 rfl <| dd_nil ⟨rfl, _, ⟨r, oth, rfl, ⟨by rw [WF.rl r hr']; omega, mulAll_sml oSml⟩, rfl⟩, dd_cons <| dv 2 rfl <| dd_nil ⟨rfl, _, ⟨_, _, rfl, rfl⟩, de_int ⟨rfl, rfl, by rw [eqi], fun _ s H C cl fp => de_int ⟨rfl, rfl⟩, fun _ => rfl⟩⟩⟩) (by omega) ?_⟩
    have e1s : (((ringM n ties).filter fun r => !decide (roundM (dotM r oth) z = 0)).map fun _ => PyData.int 1) = (((ringM n ties).filter fun r => !decide (roundM (dotM r oth) z = 0)).map fun _ => (1 : Int)).map .int := by rw [List.map_map]; rfl
    refine de_new <| dn_lst <| dd_nil ⟨by simp, by rw [e1s]; exact shaped_iL _, rfl, ?_⟩
    rw [zeroB_fil]
    exact case_fin2 WF CF h3 hc hz kpos hlh hsm hz0 cdv A outer s H E hr B b GT GO GRd GDo GHd GRR GWi GKe GS1 hlo oSml (qq t3 (Tin.mono ht3 (by omega)))
theorem law_case_ok (b : Blt mg) (HW : AllW) (HC : AllC) {f49 : Addr} {fd49 : FuncData} (F49 : Fd K mg "heights_on" 49 f49 fd49)
    (GT : Df P w K mg base T 1 "_law_take" ["_law_tin", "_law_below_so"] sTake) (GO : Df P w K mg base T 2 "_law_of" ["_law_tin", "_law_goods_so"] sOf) (GHo : Df P w K mg base T 4 "_law_hours" ["_law_tin", "_law_size_so", "_law_many_so"] sHours)
    (GRo : Df P w K mg base T 1 "_law_roots" ["_law_web_here"] (SL 1 pRoots)) (GRd : Df P w K mg base T 1 "_law_round" ["_law_number_so", "_law_size_so"] (SP 2 pRound)) (GDo : Df P w K mg base T 1 "_law_dot" ["_law_one_so", "_law_two_so"] (SP 2 pShown))
    (GHd : Df P w K mg base T 6 "_law_heard" ["_law_web_here", "_law_size", "_law_hours_here"] (SP 3 pHeard)) (GHt : Dx P w K mg base T C 5 "heights_on" ["web", "size", "hours"] 3 pHeights) (GLi : Df P w K mg base T 4 "_law_lists" ["_law_matter"] (SP 1 (pLst 3)))
    (GRR : Df P w K mg base T 5 "ring_rows" ["web"] (SP 1 pRing)) (GWi : Df P w K mg base T 2 "_law_wish_of_heights" ["_law_web_here"] (SP 1 pWish)) (GKe : Df P w K mg base T 7 "keeps" ["wish", "world"] (SP 2 pKeeps))
    (GS2 : Df P w K mg base T 3 "_law_same" ["_law_got", "_law_due"] (SP 2 (pSame 2))) (GS1 : Df P w K mg base T 2 "_law_same" ["_law_got", "_law_due"] (SP 2 (pSame 1)))
    (F : Fd K mg "_law_case_right" 82 f fd) : Df P w K mg base T 8 "_law_case_right" ["_law_tin", "_law_web_here", "_law_size"] sCase :=
  df_ok F.fn F.mg (bn_law_case_right F) sc_law_case_right (fun as k ⟨l, t, n, ties, cells, z, c, e, _⟩ => by rw [e]; rfl) fun cdv A outer s H E hr B as k ⟨l, t, n, ties, cells, z, c, e, ⟨h1, h2, h3, h4, hz⟩, qq⟩ => by
    subst e
    have nd := nd_law_case_right
    have WF := HW n ties h3.sm
    have CF := HC n ties h3.sm h4
    obtain ⟨n1, n4, k3, he⟩ := h3.sm
    have kpos : 0 < ties.length := List.length_pos_iff.mpr h4
    have hzz := size_lt hz
    have fitW : fit 3 (webD n ties cells) := fit_web (by omega) (by have := h3.cl; omega) fun r hr' => by rw [CellP.wd h3 WF r hr']; omega
    -- tops
    refine bl_cons <| bs_set nd (i := 3) rfl (by first | exact .inl rfl | exact .inr rfl) <| de_callM GHo sHours_mono (hr.mono (by decide)) rfl <| am 0 rfl <| da_d <| dv 2 rfl <| da_d <| de_ixT (fun _ _ => rfl) <| dv 1 rfl ⟨_, rfl, de_int ⟨_, rfl, .int n, rfl, da_nil ⟨by simp [slotsOf], rfl, l, t, c, n, z, rfl, ⟨h1, by omega, by omega, by omega⟩, fun tops tl th t1 ht1 => ⟨rfl, _, rfl, ?_⟩⟩⟩⟩
    -- roots
    refine bl_cons <| bs_set nd (i := 4) rfl (by first | exact .inl rfl | exact .inr rfl) <| de_new <| dn_callL GRo (hr.mono (by decide)) rfl <| dd_cons <| dv 1 rfl <| dd_nil ⟨rfl, _, ⟨ties, cells, n, rfl, ⟨by omega, by omega, he⟩, rfl⟩, ?_⟩
    -- hours
    refine bl_cons <| bs_set nd (i := 5) rfl (by first | exact .inl rfl | exact .inr rfl) <| de_tuple rfl b.tuple <| ds_new <| n_lc nd [("_law_near", 12), ("_law_far", 13)] (fun _ _ _ _ _ => dg_2 rfl (mn 12) (mn 13) (g1 nd 12) (g1 nd 13)) (mono_2 (mn 12) (mn 13)) <| di_tup <| de_ixT (fun _ _ => rfl) <| dv 1 rfl ⟨_, rfl, de_int ⟨_, rfl, tieD ties, rfl, _, rfl, lc_map ties tieD1 (fun p => .int (roundM (tops.getD p.2 0 - tops.getD p.1 0) z)) _ rfl trivial rfl (mono_2 (mn 12) (mn 13))
      (fun p hp => ⟨_, _, rfl, fun s H C cl fp => de_callP GRd (hr.mono (by decide)) rfl <| dd_cons <| de_sub <| de_ixT (fun _ _ => rfl) <| dv 3 rfl ⟨_, rfl, dv 13 rfl ⟨_, rfl, _, int_at (by rw [tl]; exact (he p hp).2), _, rfl, de_ixT (fun _ _ => rfl) <| dv 3 rfl ⟨_, rfl, dv 12 rfl ⟨_, rfl, _, int_at (by rw [tl]; exact (he p hp).1), _, rfl, dd_cons <| dv 2 rfl <| dd_nil ⟨rfl, _, ⟨_, _, rfl, rfl⟩, rfl, rfl⟩⟩⟩⟩⟩⟩) (by omega) ?_⟩⟩
    have eh : (ties.map fun p => PyData.int (roundM (tops.getD p.2 0 - tops.getD p.1 0) z)) = (hoursM ties z tops).map .int := by rw [hoursM, List.map_map]; rfl
    rw [eh]
    have hlh : (hoursM ties z tops).length = ties.length := by simp [hoursM]
    have ts := tops_sml hz th
    have hsm : ∀ x ∈ hoursM ties z tops, -8 ≤ x ∧ x ≤ 14 ∧ (z = 0 → x ≤ 8) := fun x hx => by
      obtain ⟨p, hp, rfl⟩ := List.mem_map.mp hx
      have a1 := ts _ (getD_mem (i := p.2) (by rw [tl]; exact (he p hp).2))
      have a2 := ts _ (getD_mem (i := p.1) (by rw [tl]; exact (he p hp).1))
      have a3 := round_lt (x := tops.getD p.2 0 - tops.getD p.1 0) hz (by omega)
      refine ⟨a3.1, a3.2, fun hz0 => ?_⟩
      show roundM _ z ≤ 8
      unfold roundM
      rw [if_pos hz0]
      omega
    have hSml : Sml (hoursM ties z tops) := fun x hx => by have := hsm x hx; omega
    -- due
    have er : ((rootsM n ties).map fun i => PyData.int (i : Nat)) = ((rootsM n ties).map fun (i : Nat) => (i : Int)).map .int := by rw [List.map_map]; rfl
    have rl := roots_length n ties
    refine bl_cons <| bs_set nd (i := 6) rfl (by first | exact .inl rfl | exact .inr rfl) <| de_tuple rfl b.tuple <| ds_new <| n_lc nd [("_law_top", 14), ("_law_root", 15)] (fun _ _ _ _ _ => dg_2 rfl (mn 14) (mn 15) (g1 nd 14) (g1 nd 15)) (mono_2 (mn 14) (mn 15)) <| di_zip rfl b.zip <| dv 3 rfl ⟨_, _, rfl, dv 4 rfl ⟨_, _, rfl, lc_map (tops.zip (rootsM n ties)) (fun p => .tuple [.int p.1, .int (p.2 : Nat)]) (fun p => .int (roundM (p.1 - tops.getD p.2 0) z)) _ rfl trivial (by rw [er, zipD_int, List.zip_map_right, List.map_map]; rfl) (mono_2 (mn 14) (mn 15))
      (fun p hp => ⟨_, _, rfl, fun s H C cl fp => de_callP GRd (hr.mono (by decide)) rfl <| dd_cons <| de_sub <| dv 14 rfl ⟨_, rfl, de_ixT (fun _ _ => rfl) <| dv 3 rfl ⟨_, rfl, dv 15 rfl ⟨_, rfl, _, int_at (by rw [tl]; exact roots_lt n1 _ (List.of_mem_zip (show (p.1, p.2) ∈ _ from hp)).2), _, rfl, dd_cons <| dv 2 rfl <| dd_nil ⟨rfl, _, ⟨_, _, rfl, rfl⟩, rfl, rfl⟩⟩⟩⟩⟩) (by rw [List.length_zip]; omega) ?_⟩⟩
    have ed : ((tops.zip (rootsM n ties)).map fun p => PyData.int (roundM (p.1 - tops.getD p.2 0) z)) = (dueM n ties z tops).map .int := by rw [dueM, List.map_map]; rfl
    rw [ed]
    have hld : (dueM n ties z tops).length ≤ 1000 := by rw [dueM, List.length_map, List.length_zip]; omega
    have hdue := CF.due z tops hz tl
    have pH : ∀ (d e : DL.D) (hs : List Int), fit 3 d → tupD d = webD n ties cells → fit 3 e → tupD e = iT hs → hs.length = ties.length → Sml hs → pHeights [d, .int z, e] ((heightsM n ties z hs).map iT) := fun d e hs a1 a2 a3 a4 a5 a6 => ⟨d, e, ties, cells, hs, n, z, rfl, ⟨a1, a2, WF.ok, a3, a4, by omega, fun v _ => mulAll_sml a6⟩, rfl⟩
    have fitI : ∀ hs : List Int, hs.length = ties.length → fit 3 (iT hs) := fun hs h => fit_iT' (by omega)
    have tupLW : tupD (lstD (webD n ties cells)) = webD n ties cells := by rw [tup_lst, tup_web]
    have tupLI : ∀ hs : List Int, tupD (lstD (iT hs)) = iT hs := fun hs => by rw [tup_lst, tup_iT]
    refine bl_cons <| bs_if <| dt_not <| dt_val <| de_callP GS2 (hr.mono (by decide)) rfl <| dd_cons <| de_new <| dn_lst <| dd_cons <| de_callP GHd (hr.mono (by decide)) rfl <| dd_cons <| dv 1 rfl <| dd_cons <| dv 2 rfl <| dd_cons <| dv 5 rfl <| dd_nil ⟨rfl, _, ⟨_, pH _ _ _ fitW (tup_web _ _ _) (fitI _ hlh) (tup_iT _) hlh hSml, rfl⟩,
      dd_cons <| de_callXK GHt F49 (kb_heights F49) (hr.mono (by decide)) rfl <| dk_cons <| de_callP GLi (hr.mono (by decide)) rfl <| dd_cons <| dv 5 rfl <| dd_nil ⟨rfl, _, ⟨_, rfl, fitI _ hlh, rfl⟩, dk_cons <| dv 2 rfl <| dk_cons <| de_callP GLi (hr.mono (by decide)) rfl <| dd_cons <| dv 1 rfl <| dd_nil ⟨rfl, _, ⟨_, rfl, fitW, rfl⟩,
      dk_nil ⟨_, _, _, iT (dueM n ties z tops), rfl, by have := pH _ _ _ (fit_lst fitW) tupLW (fit_lst (fitI _ hlh)) (tupLI _) hlh hSml; rw [hdue] at this; exact this, dd_nil ⟨by simp, dd_cons <| de_new <| dn_lst <| dd_cons <| dv 6 rfl <| dd_cons <| dv 6 rfl <| dd_nil ⟨by simp, dd_nil ⟨rfl, _, ⟨.list [iT (dueM n ties z tops), iT (dueM n ties z tops)], by rw [hdue]; rfl, same_L (by simp) (fun x hx => by
        simp only [List.mem_cons, List.not_mem_nil, or_false] at hx
        rcases hx with rfl | rfl <;> exact same_iT hld), rfl⟩, ⟨_, rfl, (fun h => nomatch h), fun _ => bl_nil ?_⟩⟩⟩⟩⟩⟩⟩⟩
    have hz0 : zeroB (ringM n ties) z (hoursM ties z tops) = true := by rw [← CF.hear z _ hz hlh hSml, hdue]; rfl
    exact case_fin1 WF CF h3 (c := c + n) (by omega) hz kpos hlh hsm hz0 cdv A outer s H E hr B b GT GO GRd GDo GHd GRR GWi GKe GS1 ht1 fun t' ht' => qq t' (Tin.mono ht' (by omega))
end
end Wk

set_option Elab.async false
set_option linter.all false
set_option maxRecDepth 100000
set_option maxHeartbeats 2000000
namespace Wk
open PySem PySem.Spec PyProof.Rows L2 NdefX DL
theorem canLay_ties : ∀ ties : Ties, PyData.canLayAll0 (ties.map tieD1) = true
  | [] => by simp [PyData.canLayAll0]
  | p :: ties => by
    rw [List.map_cons, PyData.canLayAll0, canLay_ties ties, tieD1, PyData.canLay0]
    simp [PyData.canLayAll0, PyData.canLay0]
theorem depth_ties : ∀ ties : Ties, PyData.depthAll (ties.map tieD1) ≤ 1
  | [] => by simp [PyData.depthAll]
  | p :: ties => by
    have := depth_ties ties
    rw [List.map_cons, PyData.depthAll, tieD1, PyData.depth]
    simp [PyData.depthAll, PyData.depth]
    omega
theorem shaped_tieD (ties : Ties) : SeqAt.shaped (tieD ties) = true := by
  have := depth_ties ties
  unfold SeqAt.shaped
  rw [PyData.canLay0, canLay_ties, PyData.depth]
  simp
  omega
theorem shaped_hole (a : Int) (S : List Int) : SeqAt.shaped (.tuple [.int a, iT S]) = true := by
  unfold SeqAt.shaped
  rw [PyData.canLay0, PyData.canLayAll0, PyData.canLayAll0, PyData.canLayAll0, PyData.canLay0, PyData.canLay0, canLay_ints, PyData.depth, PyData.depthAll, PyData.depthAll, PyData.depthAll, PyData.depth, PyData.depth, depth_ints]; rfl
abbrev cellsW (k : Nat) (cells : List (List Int)) : DL.D := wishD k 0 (cells.map fun c => (c, []))
structure RightF (n : Nat) (ties : Ties) (cells : List (List Int)) : Prop where
  ring : ∀ rows cs, (rows = cells ∨ rows = ringM n ties) → cs.length = rows.length → (∀ x ∈ cs, x ∈ mixL) → ∃ v : Bool, pFollows [cellsW ties.length cells, wishD ties.length 0 [(addedM cs rows ties.length, [])]] (.bool v) ∧ pHasF [webD n ties cells, iT (addedM cs rows ties.length)] (.bool v)
  hole : ∃ (v : Bool) (a : Int) (S : List Int), pFollows [cellsW ties.length cells, wishD ties.length n (linesM n ties)] (.bool v) ∧ pHoles [webD n ties cells] (.tuple [.int a, iT S]) ∧ v = decide (a = 0 ∧ S = [])
abbrev AllR : Prop := ∀ n ties cells, WebP n ties cells → ties ≠ [] → RightF n ties cells
theorem eqv_hole (a : Int) (S : List Int) : PyData.eqv (.tuple [.int a, iT S]) (.tuple [.int 0, .tuple []]) = decide (a = 0 ∧ S = []) := by
  have e1 : PyData.eqv (.int a) (.int 0) = decide (a = 0) := eqi a 0
  cases S with
  | nil => simp [PyData.eqv, PyData.eqvAll]; rfl
  | cons x S => simp [PyData.eqv, PyData.eqvAll]
section
variable {P : Program} {w : World} {K : DL.Frag} {mg : Str → Option Value} {base : Heap} {T : List NTab} {f : Addr} {fd : FuncData} {C : Addr}
def sRight : SD := fun as k => ∃ l t, as = [.own l (t.map .int)] ∧ Tin 0 t ∧ ∀ t', k (.dat (.bool true)) [.own l t']
theorem sRight_mono : SMono sRight := fun as k k' ⟨l, t, e, h, q⟩ w => ⟨l, t, e, h, fun t' => w _ _ (q t')⟩
theorem law_right_ok (b : Blt mg) (HW : AllW) (HR : AllR) (GWe : Df P w K mg base T 8 "_law_web" ["_law_tin", "_law_most_so"] sWeb) (GO : Df P w K mg base T 2 "_law_of" ["_law_tin", "_law_goods_so"] sOf) (GC : Df P w K mg base T 8 "_law_case_right" ["_law_tin", "_law_web_here", "_law_size"] sCase)
    (GHd : Df P w K mg base T 6 "_law_heard" ["_law_web_here", "_law_size", "_law_hours_here"] (SP 3 pHeard)) (GHo : Df P w K mg base T 7 "holes" ["web"] (SP 1 pHoles)) (GRi : Df P w K mg base T 8 "_law_some_ring" ["_law_tin", "_law_web_so"] sRing) (GF : Df P w K mg base T 8 "follows" ["one", "other"] (SP 2 pFollows))
    (GWi : Df P w K mg base T 2 "_law_wish_of_heights" ["_law_web_here"] (SP 1 pWish)) (GHF : Df P w K mg base T 7 "_law_has_filling" ["_law_web_here", "_law_ring"] (SP 2 pHasF))
    (GS3 : Df P w K mg base T 4 "_law_same" ["_law_got", "_law_due"] (SP 2 (pSame 3))) (GS1 : Df P w K mg base T 2 "_law_same" ["_law_got", "_law_due"] (SP 2 (pSame 1)))
    (F : Fd K mg "_law_right" 84 f fd) : Df P w K mg base T 9 "_law_right" ["_law_tin"] sRight :=
  df_ok F.fn F.mg (bn_law_right F) sc_law_right (fun as k ⟨l, t, e, _⟩ => by rw [e]; rfl) fun cdv A outer s H E hr B as k ⟨l, t, e, h1, qq⟩ => by
    subst e
    have nd := nd_law_right
    refine bl_cons <| bs_set nd (i := 1) rfl (by first | exact .inl rfl | exact .inr rfl) <| de_callM GWe sWeb_mono (hr.mono (by decide)) rfl <| am 0 rfl <| da_d <| de_int <| da_nil ⟨by simp [slotsOf], rfl, l, t, 0, rfl, ⟨h1, by decide⟩, fun n ties cells t1 WP ht1 => ⟨rfl, _, rfl, ?_⟩⟩
    have WF := HW n ties WP.sm
    have sm := WP.sm
    obtain ⟨n1, n4, k3, he⟩ := WP.sm
    have wc := CellP.wd WP WF
    have c3 := WP.cl
    have fitW : fit 3 (webD n ties cells) := fit_web (by omega) (by omega) fun r hr' => by rw [wc r hr']; omega
    have tupW := tup_web n ties cells
    refine bl_cons <| bs_if <| dt_eq hr.units <| de_ixT (fun _ _ => rfl) <| dv 1 rfl ⟨_, rfl, de_int ⟨_, rfl, tieD ties, rfl, de_tup <| dd_nil ⟨by simp, shaped_tieD ties, rfl, fun h => ?_, fun h => bl_nil ?_⟩⟩⟩
    · -- no ties
      have h0 : ties = [] := by
        cases ties with
        | nil => rfl
        | cons p ties => simp [PyData.eqv, PyData.eqvAll] at h
      subst h0
      have o0 : otM n [] = [] := rfl
      have ph : pHoles [webD n [] cells] (.tuple [.int ((0 : Nat) - (0 : Nat) : Int), iT []]) := ⟨webD n [] cells, [], cells, [], n, rfl, ⟨fitW, tupW, by omega, by simp, he, by omega, wc, .none (by rw [o0]; simp)⟩, rfl⟩
      have e0 : heightsM n [] 4 [] = some (zerR n) := by
        rw [show heightsM n [] 4 [] = some (foundM n [] 4 []) from rfl]
        refine congrArg some ?_
        unfold foundM zerR
        rw [List.map_congr_left (g := fun _ => (0 : Int)) (fun v _ => by unfold dotM; rw [List.zip_nil_right]; rfl), List.map_const', List.length_range]
      have pH : pHeights [webD n [] cells, .int 4, iT []] (some (iT (zerR n))) := ⟨webD n [] cells, iT [], [], cells, [], n, 4, rfl, ⟨fitW, tupW, WF.ok, fit_iT' (by simp), tup_iT _, by simp, fun v _ => fun p hp => by rw [List.zip_nil_right] at hp; cases hp⟩, by rw [e0]; rfl⟩
      refine bl_one <| bs_ret <| de_callP GS3 (hr.mono (by decide)) rfl <| dd_cons <| de_new <| dn_lst <| dd_cons <| de_callP GHo (hr.mono (by decide)) rfl <| dd_cons <| dv 1 rfl <| dd_nil ⟨rfl, _, ph, dd_cons <| de_callP GHd (hr.mono (by decide)) rfl <| dd_cons <| dv 1 rfl <| dd_cons <| de_int <| dd_cons <| de_tup <| dd_nil ⟨by simp, dd_nil ⟨rfl, _, ⟨_, pH, rfl⟩, dd_nil ⟨by simp, dd_cons <| de_new <| dn_lst <| dd_cons <| de_tup <| dd_cons <| de_int <| dd_cons <| de_tup <| dd_nil ⟨by simp, dd_nil ⟨by simp, dd_cons <| de_rep1 <| de_tup <| dd_cons <| de_int <| dd_nil ⟨by simp, _, rfl, de_ixT (fun _ _ => rfl) <| dv 1 rfl ⟨_, rfl, de_int ⟨_, rfl, .int n, rfl, _, rfl, by omega, ?_⟩⟩⟩⟩⟩⟩⟩⟩⟩
      refine dd_nil ⟨by simp, dd_nil ⟨rfl, _, ⟨.list [.tuple [.int 0, iT []], iT (zerR n)], ?_, same_L (by simp) fun x hx => ?_, rfl⟩, _, back_own 0 (ds := t1.map .int) rfl back_nil, qq _⟩⟩
      · have er : PyData.tuple (List.replicate n (PyData.int 0)) = iT (zerR n) := by rw [iT, zerR, List.map_replicate]
        show [_, PyData.list [_, PyData.tuple (List.replicate n (PyData.int 0))]] = _
        rw [er]; rfl
      · simp only [List.mem_cons, List.not_mem_nil, or_false] at hx
        rcases hx with rfl | rfl
        · refine same_T (by simp) fun x hx => ?_
          simp only [List.mem_cons, List.not_mem_nil, or_false] at hx
          rcases hx with rfl | rfl
          · exact ⟨trivial, fun t ds e => nomatch e⟩
          · exact same_iT (n := 0) (by simp)
        · exact same_iT (n := 1) (by rw [zerR_length]; omega)
    have hne : ties ≠ [] := by
      rintro rfl
      simp [PyData.eqv, PyData.eqvAll] at h
    have RF := HR n ties cells WP hne
    refine bl_cons <| bs_if <| dt_not <| dt_val <| de_callM GC sCase_mono (hr.mono (by decide)) rfl <| am 0 rfl <| da_d <| dv 1 rfl <| da_d <| de_callM GO sOf_mono (hr.mono (by decide)) rfl <| am 0 rfl <| da_d <| de_new <| dn_lst <| dd_cons <| de_int <| dd_cons <| de_int <| dd_cons <| de_int <| dd_cons <| de_int <| dd_cons <| de_int <| dd_cons <| de_int <| dd_cons <| de_int <| dd_cons <| de_int <| dd_nil ⟨by simp, da_nil ⟨by simp [slotsOf], rfl, l, t1, sizeL, 100, rfl, ⟨ht1, by decide, by decide, by decide⟩, fun z hz t2 ht2 => ⟨rfl, _, rfl, ?_⟩⟩⟩
    refine da_nil ⟨by simp [slotsOf], rfl, l, t2, n, ties, cells, z, 101, rfl, ⟨ht2, by decide, WP, hne, hz⟩, fun t3 ht3 => ⟨rfl, _, rfl, _, rfl, (fun h => nomatch h), fun _ => bl_nil ?_⟩⟩
    refine bl_cons <| bs_par2 (i := 2) (j := 3) rfl nd rfl rfl (by decide) rfl rfl (da_d <| de_callM GRi sRing_mono (hr.mono (by decide)) rfl <| am 0 rfl <| da_d <| dv 1 rfl <| da_nil ⟨by simp [slotsOf], rfl, l, t3, n, ties, cells, 121, rfl, ⟨ht3, by decide, WP⟩, fun rows cs t4 q1 q2 q3 ht4 => ⟨rfl, _, rfl, da_d <| de_len rfl b.len <| ds_tup <| de_ixT (fun _ _ => rfl) <| dv 1 rfl ⟨_, rfl, de_int ⟨_, rfl, tieD ties, rfl, _, rfl, da_nil ⟨_, _, rfl, trivial, trivial, fun _ => ?_⟩⟩⟩⟩⟩) (by rfl)
    rw [List.length_map]
    have ew : (cells.map fun c => PyData.tuple [iT c, .tuple []]) = (cells.map fun c => ((c, []) : List Int × List Int)).map lineD := by rw [List.map_map]; rfl
    refine bl_cons <| bs_set nd (i := 4) rfl (by first | exact .inl rfl | exact .inr rfl) <| de_tup <| dd_cons <| dv 3 rfl <| dd_cons <| de_int <| dd_cons <| de_tuple rfl b.tuple <| ds_new <| n_lc nd [("_law_cell", 6)] (fun _ _ _ _ _ => g1 nd 6) (mn 6) <| di_tup <| de_ixT (fun _ _ => rfl) <| dv 1 rfl ⟨_, rfl, de_int ⟨_, rfl, mT cells, rfl, _, rfl, lc_map cells iT (fun c => .tuple [iT c, .tuple []]) _ rfl trivial rfl (mn 6) (fun r hr' s H C cl fp => de_tup <| dd_cons <| dv 6 rfl <| dd_cons <| de_tup <| dd_nil ⟨by simp, dd_nil ⟨by simp, rfl, rfl⟩⟩) (by omega) (dd_nil ⟨by simp, ?_⟩)⟩⟩
    rw [ew]
    obtain ⟨v1, f1, f2⟩ := RF.ring rows cs q1 q2 q3
    obtain ⟨v2, a, S, f3, f4, f5⟩ := RF.hole
    refine bl_cons <| bs_set nd (i := 5) rfl (by first | exact .inl rfl | exact .inr rfl) <| de_new <| dn_lst <| dd_cons <| de_callP GF (hr.mono (by decide)) rfl <| dd_cons <| dv 4 rfl <| dd_cons <| de_tup <| dd_cons <| dv 3 rfl <| dd_cons <| de_int <| dd_cons <| de_tup <| dd_cons <| de_tup <| dd_cons <| dv 2 rfl <| dd_cons <| de_tup <| dd_nil ⟨by simp, dd_nil ⟨by simp, dd_nil ⟨by simp, dd_nil ⟨by simp, dd_nil ⟨rfl, _, f1, dd_cons <| de_callP GF (hr.mono (by decide)) rfl <| dd_cons <| dv 4 rfl <| dd_cons <| de_callP GWi (hr.mono (by decide)) rfl <| dd_cons <| dv 1 rfl <| dd_nil ⟨rfl, _, ⟨ties, cells, n, rfl, ⟨by omega, by omega⟩, rfl⟩, dd_nil ⟨rfl, _, f3, dd_nil ⟨by simp, ?_⟩⟩⟩⟩⟩⟩⟩⟩
    refine bl_one <| bs_ret <| de_callP GS1 (hr.mono (by decide)) rfl <| dd_cons <| dv 5 rfl <| dd_cons <| de_new <| dn_lst <| dd_cons <| de_callP GHF (hr.mono (by decide)) rfl <| dd_cons <| dv 1 rfl <| dd_cons <| dv 2 rfl <| dd_nil ⟨rfl, _, f2, dd_cons <| de_eq hr.units <| de_callP GHo (hr.mono (by decide)) rfl <| dd_cons <| dv 1 rfl <| dd_nil ⟨rfl, _, f4, de_tup <| dd_cons <| de_int <| dd_cons <| de_tup <| dd_nil ⟨by simp, dd_nil ⟨by simp, shaped_hole a S, shaped_hole 0 [], ?_⟩⟩⟩⟩
    rw [eqv_hole, ← f5]
    refine dd_nil ⟨by simp, dd_nil ⟨rfl, _, ⟨.list [.bool v1, .bool v2], rfl, same_L (by simp) fun x hx => ?_, rfl⟩, _, back_own 0 (ds := _) rfl back_nil, qq _⟩⟩
    simp only [List.mem_cons, List.not_mem_nil, or_false] at hx
    rcases hx with rfl | rfl <;> exact same_b _ _
end
end Wk

set_option Elab.async false
set_option linter.all false
set_option maxRecDepth 100000
set_option maxHeartbeats 4000000
namespace Wk
open PySem PySem.Spec PyProof.Rows L2 NdefX DL
section
variable {T : List NTab} {X : Cx} {Δ : List En} {b : Expr} {pos p : Pos}
theorem dn_catO {Q : List DL.D → List En → Prop} {i : Nat} {x : Str} {l : Addr} {ds : List DL.D} (hN : X.N[i]? = some x) (hv : Vis X.env.scope x) (hd : Δ[i]? = some (.own l ds)) (h : DE T X Δ b fun y Δ2 => ∃ es, y = .list es ∧ Δ2[i]? = some (.own l ds) ∧ ds.length + es.length ≤ 10000 ∧ Q (ds ++ es) Δ2)
    (h1 : (x == ("__debug__" : Str)) = false := by decide) (h2 : (x == ("__classdict__" : Str)) = false := by decide) : DN T X Δ (.BinOp (.Name x p) .Add b pos) Q :=
  PE.weak (pe_op op_catG (pe_var hN hv h1 h2) (pe_l (T := T))) fun σ H R ⟨B, L, k⟩ => by
    obtain ⟨e1, _, _⟩ := L.mutAt hd
    refine ⟨.ref l, sl_some e1, Δ, _, h, B, L, fun y Δ2 u B2 H2 ⟨es, e2, hi, hz, q⟩ S2 L2 du => ?_⟩
    subst e2
    obtain ⟨f1, f2, vs, f3, f4⟩ := L2.mutAt hi
    cases du with
    | @lst a2 ys _ hs2 al2 =>
      refine ⟨_, _, vs, ys, rfl, rfl, .inl (.inl f3), L2.bh.sqL hs2, by rw [f4.length, al2.length]; exact Nat.le_trans hz (by decide), fun p hp => ?_⟩
      obtain ⟨L3, S3, nm, nb⟩ := L2.newM (xs := vs ++ ys) hp
      exact k _ Δ2 p _ _ _ q (S2.trans S3) L3 (free_back S2 hp) upd_same nb nm (f4.append al2)
end
abbrev triT : Ties := [(0, 1), (1, 2), (0, 2)]
abbrev triD : DL.D := webD 3 triT []
abbrev loopD : DL.D := webD 1 [(0, 0)] [[2]]
abbrev backD : DL.D := webD 3 [(1, 0), (2, 1)] []
abbrev evenD : DL.D := wishD 1 0 [([2], [])]
abbrev noneD : DL.D := .list [.str "none", .bool true]
structure ByHand : Prop where
  f1 : pHeard [triD, .int 5, iT [1, 2, 3]] (iT [0, 1, 3])
  f2 : pHeard [triD, .int 5, iT [1, 2, 4]] noneD
  f3 : pHeard [backD, .int 5, iT [1, 2]] (iT [0, 4, 2])
  f4 : pHeard [loopD, .int 4, iT [2]] noneD
  f5 : pHeard [triD, .int 0, iT [1, 2, 8]] noneD
  f6 : pHeard [.tuple [.int 3, .tuple [.list [.int 0, .int 1], .tuple [.int 1, .int 2], .list [.int 0, .int 2]], .tuple []], .int 5, iT [1, 2, 3]] (iT [0, 1, 3])
  f7 : pFollows [evenD, wishD 1 0 [([4], [])]] (.bool true)
  f8 : pFollows [evenD, wishD 1 0 [([3], [])]] (.bool false)
  f9 : pHasF [loopD, iT [4]] (.bool true)
  f10 : pHasF [loopD, iT [3]] (.bool false)
  f11 : pFollows [.tuple [.int 1, .int 0, .tuple [.list [.list [.int 2], .tuple []]]], .tuple [.int 1, .int 0, .list [.tuple [.list [.int 4], .tuple []]]]] (.bool true)
  f12 : pKeeps [.tuple [.int 1, .int 1, .list [.tuple [.list [.int 1], .list [.int 2]]]], .tuple [.tuple [.int 4], .tuple [.list [.int 2]]]] (.bool true)
  f13 : pFollows [wishD 3 0 [([1, 1, -1], [])], wishD 3 3 (linesM 3 triT)] (.bool true)
  f14 : pFollows [wishD 3 0 [], wishD 3 3 (linesM 3 triT)] (.bool false)
  f15 : pKeeps [wishD 3 3 (linesM 3 triT), worldD 5 [1, 2, 4]] (.bool false)
section
variable {P : Program} {w : World} {K : DL.Frag} {mg : Str → Option Value} {base : Heap} {T : List NTab} {f : Addr} {fd : FuncData} {C : Addr}
theorem law_by_hand_ok (b : Blt mg) (BH : ByHand) (GHd : Df P w K mg base T 6 "_law_heard" ["_law_web_here", "_law_size", "_law_hours_here"] (SP 3 pHeard)) (GF : Df P w K mg base T 8 "follows" ["one", "other"] (SP 2 pFollows)) (GKe : Df P w K mg base T 7 "keeps" ["wish", "world"] (SP 2 pKeeps))
    (GWi : Df P w K mg base T 2 "_law_wish_of_heights" ["_law_web_here"] (SP 1 pWish)) (GHF : Df P w K mg base T 7 "_law_has_filling" ["_law_web_here", "_law_ring"] (SP 2 pHasF)) (GS2 : Df P w K mg base T 3 "_law_same" ["_law_got", "_law_due"] (SP 2 (pSame 2)))
    (F : Fd K mg "_law_by_hand_right" 83 f fd) : Df P w K mg base T 9 "_law_by_hand_right" [] (SP 0 fun ds r => r = .bool true) :=
  dp_ok F.fn F.mg (bn_law_by_hand_right F) sc_law_by_hand_right rfl fun cdv A outer s H E hr B ds r hn h => by
    obtain rfl : ds = [] := List.length_eq_zero_iff.mp hn
    subst h
    have nd := nd_law_by_hand_right
    refine bl_cons <| bs_asg (mono_2 (mn 0) (mn 1)) (dg_2 rfl (mn 0) (mn 1) (g1 nd 0) (g1 nd 1)) <| de_tup <| dd_cons <| de_tup <| dd_cons <| de_int <| dd_cons <| de_tup <| dd_cons <| de_tup <| dd_cons <| de_int <| dd_cons <| de_int <| dd_nil ⟨by simp, dd_cons <| de_tup <| dd_cons <| de_int <| dd_cons <| de_int <| dd_nil ⟨by simp, dd_cons <| de_tup <| dd_cons <| de_int <| dd_cons <| de_int <| dd_nil ⟨by simp, dd_nil ⟨by simp, dd_cons <| de_tup <| dd_nil ⟨by simp, dd_nil ⟨by simp, dd_cons <| de_tup <| dd_cons <| de_int <| dd_cons <| de_tup <| dd_cons <| de_tup <| dd_cons <| de_int <| dd_cons <| de_int <| dd_nil ⟨by simp, dd_nil ⟨by simp, dd_cons <| de_tup <| dd_cons <| de_tup <| dd_cons <| de_int <| dd_nil ⟨by simp, dd_nil ⟨by simp, dd_nil ⟨by simp, dd_nil ⟨by simp, ⟨_, _, rfl, ?_⟩⟩⟩⟩⟩⟩⟩⟩⟩⟩⟩⟩⟩
    refine bl_cons <| bs_par2 (i := 2) (j := 3) rfl nd rfl rfl (by decide) rfl rfl (da_d <| de_tup <| dd_cons <| de_int <| dd_cons <| de_tup <| dd_cons <| de_tup <| dd_cons <| de_int <| dd_cons <| de_int <| dd_nil ⟨by simp, dd_cons <| de_tup <| dd_cons <| de_int <| dd_cons <| de_int <| dd_nil ⟨by simp, dd_nil ⟨by simp, dd_cons <| de_tup <| dd_nil ⟨by simp, dd_nil ⟨by simp, da_d <| de_tup <| dd_cons <| de_int <| dd_cons <| de_ixT (fun _ _ => rfl) <| dv 0 rfl ⟨_, rfl, de_int ⟨_, rfl, tieD triT, rfl, dd_cons <| de_tup <| dd_cons <| de_tup <| dd_cons <| de_int <| dd_cons <| de_int <| dd_cons <| de_neg <| de_int ⟨_, rfl, dd_nil ⟨by simp, dd_nil ⟨by simp, dd_nil ⟨by simp, da_nil ⟨_, _, rfl, trivial, trivial, fun _ => ?_⟩⟩⟩⟩⟩⟩⟩⟩⟩⟩⟩⟩) (by rfl)
    refine bl_cons <| bs_setN nd (i := 4) rfl (.inl rfl) <| dn_lst <| dd_cons <| de_callP GHd (hr.mono (by decide)) rfl <| dd_cons <| dv 0 rfl <| dd_cons <| de_int <| dd_cons <| de_tup <| dd_cons <| de_int <| dd_cons <| de_int <| dd_cons <| de_int <| dd_nil ⟨by simp, dd_nil ⟨rfl, _, BH.f1, dd_cons <| de_callP GHd (hr.mono (by decide)) rfl <| dd_cons <| dv 0 rfl <| dd_cons <| de_int <| dd_cons <| de_tup <| dd_cons <| de_int <| dd_cons <| de_int <| dd_cons <| de_int <| dd_nil ⟨by simp, dd_nil ⟨rfl, _, BH.f2, dd_cons <| de_callP GHd (hr.mono (by decide)) rfl <| dd_cons <| dv 2 rfl <| dd_cons <| de_int <| dd_cons <| de_tup <| dd_cons <| de_int <| dd_cons <| de_int <| dd_nil ⟨by simp, dd_nil ⟨rfl, _, BH.f3, dd_cons <| de_callP GHd (hr.mono (by decide)) rfl <| dd_cons <| dv 1 rfl <| dd_cons <| de_int <| dd_cons <| de_tup <| dd_cons <| de_int <| dd_nil ⟨by simp, dd_nil ⟨rfl, _, BH.f4, dd_cons <| de_callP GHd (hr.mono (by decide)) rfl <| dd_cons <| dv 0 rfl <| dd_cons <| de_int <| dd_cons <| de_tup <| dd_cons <| de_int <| dd_cons <| de_int <| dd_cons <| de_int <| dd_nil ⟨by simp, dd_nil ⟨rfl, _, BH.f5, dd_nil ⟨by simp, fun lg _ _ => ?_⟩⟩⟩⟩⟩⟩⟩⟩⟩⟩⟩
    refine bl_cons <| bs_setN nd (i := 5) rfl (.inl rfl) <| dn_lst <| dd_cons <| de_tup <| dd_cons <| de_int <| dd_cons <| de_int <| dd_cons <| de_int <| dd_nil ⟨by simp, dd_cons <| de_new <| dn_lst <| dd_cons <| de_str <| dd_cons <| de_bl <| dd_nil ⟨by simp, dd_cons <| de_tup <| dd_cons <| de_int <| dd_cons <| de_int <| dd_cons <| de_int <| dd_nil ⟨by simp, dd_cons <| de_new <| dn_lst <| dd_cons <| de_str <| dd_cons <| de_bl <| dd_nil ⟨by simp, dd_cons <| de_new <| dn_lst <| dd_cons <| de_str <| dd_cons <| de_bl <| dd_nil ⟨by simp, dd_nil ⟨by simp, fun ld _ _ => ?_⟩⟩⟩⟩⟩⟩
    refine bl_cons <| ap 4 ⟨_, _, rfl⟩ <| de_callP GHd (hr.mono (by decide)) rfl <| dd_cons <| de_tup <| dd_cons <| de_int <| dd_cons <| de_tup <| dd_cons <| de_new <| dn_lst <| dd_cons <| de_int <| dd_cons <| de_int <| dd_nil ⟨by simp, dd_cons <| de_tup <| dd_cons <| de_int <| dd_cons <| de_int <| dd_nil ⟨by simp, dd_cons <| de_new <| dn_lst <| dd_cons <| de_int <| dd_cons <| de_int <| dd_nil ⟨by simp, dd_nil ⟨by simp, dd_cons <| de_tup <| dd_nil ⟨by simp, dd_nil ⟨by simp, dd_cons <| de_int <| dd_cons <| de_tup <| dd_cons <| de_int <| dd_cons <| de_int <| dd_cons <| de_int <| dd_nil ⟨by simp, dd_nil ⟨rfl, _, BH.f6, ⟨_, _, rfl, by simp, ?_⟩⟩⟩⟩⟩⟩⟩⟩⟩
    refine bl_cons <| ap 5 ⟨_, _, rfl⟩ <| de_tup <| dd_cons <| de_int <| dd_cons <| de_int <| dd_cons <| de_int <| dd_nil ⟨by simp, ⟨_, _, rfl, by simp, ?_⟩⟩
    refine bl_cons <| bs_set nd (i := 6) rfl (.inl rfl) <| de_tup <| dd_cons <| de_int <| dd_cons <| de_int <| dd_cons <| de_tup <| dd_cons <| de_tup <| dd_cons <| de_tup <| dd_cons <| de_int <| dd_nil ⟨by simp, dd_cons <| de_tup <| dd_nil ⟨by simp, dd_nil ⟨by simp, dd_nil ⟨by simp, dd_nil ⟨by simp, ?_⟩⟩⟩⟩⟩
    refine bl_cons <| bs_set nd (i := 4) rfl (.inl rfl) <| de_new <| dn_catO (i := 4) rfl (.inl rfl) rfl <| de_new <| dn_lst <| dd_cons <| de_callP GF (hr.mono (by decide)) rfl <| dd_cons <| dv 6 rfl <| dd_cons <| de_tup <| dd_cons <| de_int <| dd_cons <| de_int <| dd_cons <| de_tup <| dd_cons <| de_tup <| dd_cons <| de_tup <| dd_cons <| de_int <| dd_nil ⟨by simp, dd_cons <| de_tup <| dd_nil ⟨by simp, dd_nil ⟨by simp, dd_nil ⟨by simp, dd_nil ⟨by simp, dd_nil ⟨rfl, _, BH.f7, dd_cons <| de_callP GF (hr.mono (by decide)) rfl <| dd_cons <| dv 6 rfl <| dd_cons <| de_tup <| dd_cons <| de_int <| dd_cons <| de_int <| dd_cons <| de_tup <| dd_cons <| de_tup <| dd_cons <| de_tup <| dd_cons <| de_int <| dd_nil ⟨by simp, dd_cons <| de_tup <| dd_nil ⟨by simp, dd_nil ⟨by simp, dd_nil ⟨by simp, dd_nil ⟨by simp, dd_nil ⟨rfl, _, BH.f8, dd_cons <| de_callP GHF (hr.mono (by decide)) rfl <| dd_cons <| dv 1 rfl <| dd_cons <| de_tup <| dd_cons <| de_int <| dd_nil ⟨by simp, dd_nil ⟨rfl, _, BH.f9, dd_cons <| de_callP GHF (hr.mono (by decide)) rfl <| dd_cons <| dv 1 rfl <| dd_cons <| de_tup <| dd_cons <| de_int <| dd_nil ⟨by simp, dd_nil ⟨rfl, _, BH.f10, dd_nil ⟨by simp, ⟨_, rfl, rfl, by simp, ?_⟩⟩⟩⟩⟩⟩⟩⟩⟩⟩⟩⟩⟩⟩⟩⟩⟩⟩
    refine bl_cons <| bs_set nd (i := 4) rfl (.inl rfl) <| de_new <| dn_cat <| dv 4 rfl ⟨_, rfl, de_new <| dn_lst <| dd_cons <| de_callP GF (hr.mono (by decide)) rfl <| dd_cons <| de_tup <| dd_cons <| de_int <| dd_cons <| de_int <| dd_cons <| de_tup <| dd_cons <| de_new <| dn_lst <| dd_cons <| de_new <| dn_lst <| dd_cons <| de_int <| dd_nil ⟨by simp, dd_cons <| de_tup <| dd_nil ⟨by simp, dd_nil ⟨by simp, dd_nil ⟨by simp, dd_nil ⟨by simp, dd_cons <| de_tup <| dd_cons <| de_int <| dd_cons <| de_int <| dd_cons <| de_new <| dn_lst <| dd_cons <| de_tup <| dd_cons <| de_new <| dn_lst <| dd_cons <| de_int <| dd_nil ⟨by simp, dd_cons <| de_tup <| dd_nil ⟨by simp, dd_nil ⟨by simp, dd_nil ⟨by simp, dd_nil ⟨by simp, dd_nil ⟨rfl, _, BH.f11, dd_cons <| de_callP GKe (hr.mono (by decide)) rfl <| dd_cons <| de_tup <| dd_cons <| de_int <| dd_cons <| de_int <| dd_cons <| de_new <| dn_lst <| dd_cons <| de_tup <| dd_cons <| de_new <| dn_lst <| dd_cons <| de_int <| dd_nil ⟨by simp, dd_cons <| de_new <| dn_lst <| dd_cons <| de_int <| dd_nil ⟨by simp, dd_nil ⟨by simp, dd_nil ⟨by simp, dd_nil ⟨by simp, dd_cons <| de_tup <| dd_cons <| de_tup <| dd_cons <| de_int <| dd_nil ⟨by simp, dd_cons <| de_tup <| dd_cons <| de_new <| dn_lst <| dd_cons <| de_int <| dd_nil ⟨by simp, dd_nil ⟨by simp, dd_nil ⟨by simp, dd_nil ⟨rfl, _, BH.f12, dd_nil ⟨by simp, ⟨_, rfl, by simp, ?_⟩⟩⟩⟩⟩⟩⟩⟩⟩⟩⟩⟩⟩⟩⟩⟩⟩⟩⟩⟩⟩⟩⟩⟩
    refine bl_cons <| bs_set nd (i := 5) rfl (.inl rfl) <| de_new <| dn_catO (i := 5) rfl (.inl rfl) rfl <| de_new <| dn_lst <| dd_cons <| de_bl <| dd_cons <| de_bl <| dd_cons <| de_bl <| dd_cons <| de_bl <| dd_cons <| de_bl <| dd_cons <| de_bl <| dd_nil ⟨by simp, ⟨_, rfl, rfl, by simp, ?_⟩⟩
    refine bl_cons <| bs_set nd (i := 4) rfl (.inl rfl) <| de_new <| dn_cat <| dv 4 rfl ⟨_, rfl, de_new <| dn_lst <| dd_cons <| de_callP GF (hr.mono (by decide)) rfl <| dd_cons <| de_tup <| dd_cons <| de_int <| dd_cons <| de_int <| dd_cons <| de_tup <| dd_cons <| de_tup <| dd_cons <| de_tup <| dd_cons <| de_int <| dd_cons <| de_int <| dd_cons <| de_neg <| de_int ⟨_, rfl, dd_nil ⟨by simp, dd_cons <| de_tup <| dd_nil ⟨by simp, dd_nil ⟨by simp, dd_nil ⟨by simp, dd_nil ⟨by simp, dd_cons <| de_callP GWi (hr.mono (by decide)) rfl <| dd_cons <| dv 3 rfl <| dd_nil ⟨rfl, _, ⟨triT, [[1, 1, -1]], 3, rfl, ⟨by decide, by decide⟩, rfl⟩, dd_nil ⟨rfl, _, BH.f13, dd_cons <| de_callP GF (hr.mono (by decide)) rfl <| dd_cons <| de_tup <| dd_cons <| de_int <| dd_cons <| de_int <| dd_cons <| de_tup <| dd_nil ⟨by simp, dd_nil ⟨by simp, dd_cons <| de_callP GWi (hr.mono (by decide)) rfl <| dd_cons <| dv 0 rfl <| dd_nil ⟨rfl, _, ⟨triT, [], 3, rfl, ⟨by decide, by decide⟩, rfl⟩, dd_nil ⟨rfl, _, BH.f14, dd_cons <| de_callP GKe (hr.mono (by decide)) rfl <| dd_cons <| de_callP GWi (hr.mono (by decide)) rfl <| dd_cons <| dv 0 rfl <| dd_nil ⟨rfl, _, ⟨triT, [], 3, rfl, ⟨by decide, by decide⟩, rfl⟩, dd_cons <| de_tup <| dd_cons <| de_tup <| dd_cons <| de_int <| dd_nil ⟨by simp, dd_cons <| de_tup <| dd_cons <| de_tup <| dd_cons <| de_int <| dd_nil ⟨by simp, dd_cons <| de_tup <| dd_cons <| de_int <| dd_nil ⟨by simp, dd_cons <| de_tup <| dd_cons <| de_int <| dd_nil ⟨by simp, dd_nil ⟨by simp, dd_nil ⟨by simp, dd_nil ⟨rfl, _, BH.f15, dd_nil ⟨by simp, ⟨_, rfl, by simp, ?_⟩⟩⟩⟩⟩⟩⟩⟩⟩⟩⟩⟩⟩⟩⟩⟩⟩⟩⟩⟩⟩⟩⟩
    refine bl_one <| bs_ret <| de_callP GS2 (hr.mono (by decide)) rfl <| dd_cons <| dv 4 rfl <| dd_cons <| de_new <| dn_cat <| dv 5 rfl ⟨_, rfl, de_new <| dn_lst <| dd_cons <| de_bl <| dd_cons <| de_bl <| dd_cons <| de_bl <| dd_nil ⟨by simp, ⟨_, rfl, by simp, dd_nil ⟨rfl, _, ⟨_, rfl, ?_, rfl⟩, rfl⟩⟩⟩⟩
    refine same_L (by simp) fun x hx => ?_
    simp only [List.cons_append, List.nil_append, List.mem_cons, List.not_mem_nil, or_false] at hx
    have e1 : ∀ xs : List Int, xs.length ≤ 1000 → sameOk 1 (iT xs) := fun xs h => same_iT h
    have e2 : sameOk 1 noneD := same_L (by simp) fun x hx => by
      simp only [List.mem_cons, List.not_mem_nil, or_false] at hx
      rcases hx with rfl | rfl
      · exact ⟨rfl, show SeqAt.shaped (.str "none") = true by decide +kernel⟩
      · exact same_b 0 _
    rcases hx with rfl | rfl | rfl | rfl | rfl | rfl | rfl | rfl | rfl | rfl | rfl | rfl | rfl | rfl | rfl <;> first | exact same_b 1 _ | exact e2 | exact e1 _ (by simp)
end
end Wk

set_option Elab.async false
set_option linter.all false
set_option maxRecDepth 100000
set_option maxHeartbeats 1000000
namespace Wk
open PySem PySem.Spec PyProof.Rows L2 NdefX DL
section
variable {T : List NTab} {X : Cx} {Δ : List En} {e : Expr} {pos p : Pos} {Q : QD}
/-- a new list is handed over; we forget it -/
theorem de_callN {k : Nat} {x : Str} {ps : List Str} {S : SD} (G : Df X.prog X.w X.K X.mg X.base T k x ps S) (hS : SMono S) (hr : Room k X.A) (hg : Gl X x)
    (h : DN T X Δ e fun ds Δ1 => ∀ l, S [.own l ds] fun r as' => ∃ d, r = .dat d ∧ Q d Δ1)
    (hdb : (x == ("__debug__" : Str)) = false := by decide) (he : starEach [e] X.env = (false, eval e X.env) :: starEach [] X.env := by rfl) (hpl : (backTo pos (starEach [] X.env)).any (·.1) = false := by rfl) : DE T X Δ (.Call (.Name x p) [e] [] pos) Q := by
  obtain ⟨f, fd, F, hm, hk, hb⟩ := G.ex
  refine PE.weak (pe_call F hr hg hm hk hb .nil pass0 (pa_cons h pa_nil he) hdb he hpl) fun σ H R ⟨B, L, k⟩ => ⟨B, L, fun ds Δ1 l vs B1 H1 q S1 L1 n1 e1 b1 m1 al => ?_⟩
  show spS T X.K S ([.ref l] ++ []) H1 R E0
  rw [List.append_nil]
  refine ⟨B1, [.own l ds], ⟨L1.bh, L1.nt, L1.tb, rfl, fun i e h => ?_, fun i j l1 l2 d1 d2 hij h1 h2 => ?_⟩, hS _ _ _ (q l) fun r as' ⟨d, e, q2⟩ v B2 H2 S2 L2 rv => ?_⟩
  · cases i with
    | zero => cases h; exact ⟨rfl, b1, vs, e1, al⟩
    | succ i => cases h
  · cases i with
    | zero => cases j with
      | zero => exact absurd rfl hij
      | succ j => cases h2
    | succ i => cases h1
  · subst e
    have key : ∀ b o, H1 b = some o → NoTbl o → b ≠ l → H2 b = some o := fun b o e n ne => S2.hh b o e n fun ⟨j, dd, z⟩ => by
      cases j with
      | zero => cases z; exact ne rfl
      | succ j => cases z
    have L3 : Lc X.K T σ B2 H2 Δ1 := ⟨L2.bh, L2.nt, L2.tb, L1.len, fun i e h => (L1.en i e h).sub S2.bb fun l' dd z => (by
      subst z
      obtain ⟨_, q2, vs', q3, _⟩ := L1.mutAt h
      have ne : l' ≠ l := fun z => m1 ⟨i, dd, by rw [← z]; exact h⟩
      refine ⟨?_, fun ws hw => key l' _ hw noTbl_lst ne⟩
      cases q : B2 l' with
      | none => rfl
      | some o =>
        have := S2.fr l' q2 (by rw [q]; simp)
        rw [q3] at this; cases this), L1.ds⟩
    have S3 : Stp Δ Δ1 B H B2 H2 := ⟨S1.bb.trans S2.bb, fun a ha hb => ?_, fun a ha => S2.kp a (S1.kp a ha), fun b o e n m => ?_, S1.mu⟩
    · exact k d Δ1 v B2 H2 q2 S3 L3 rv
    · cases z : B1 a with
      | some o => exact S1.fr a ha (by rw [z]; simp)
      | none =>
        have := S2.fr a z hb
        cases y : H a with
        | none => rfl
        | some o => exact absurd this (S1.kp a (by rw [y]; simp))
    · refine key b o (S1.hh b o e n m) n fun z => ?_
      rw [z, n1] at e; cases e
end
section
variable {P : Program} {w : World} {K : DL.Frag} {mg : Str → Option Value} {base : Heap} {T : List NTab} {f : Addr} {fd : FuncData} {C : Addr}
theorem law_ok (GB : Df P w K mg base T 9 "_law_by_hand_right" [] (SP 0 fun ds r => r = .bool true)) (GR : Df P w K mg base T 9 "_law_right" ["_law_tin"] sRight) (GX : Df P w K mg base T 1 "_law_box" ["_law_script", "_law_k"] sBox) (GC : Df P w K mg base T 1 "_law_cells" ["_law_script", "_law_most_so"] sCells)
    (F : Fd K mg "law" 85 f fd) : Df P w K mg base T 10 "law" ["_law_script"] (SP 1 fun ds r => ∃ ns : List Int, ds = [iL ns] ∧ ns.length ≤ 63 ∧ r = .bool true) :=
  dp_ok F.fn F.mg (bn_law F) sc_law rfl fun cdv A outer s H E hr B ds r hn h => by
    obtain ⟨ns, rfl, h1, rfl⟩ := h
    refine bl_one <| bs_ret <| de_and <| de_call0 GB SP.mono (hr.mono (by decide)) rfl ⟨[], _, rfl, rfl, rfl, _, rfl, _, rfl, fun _ => de_one <| de_callN GR sRight_mono (hr.mono (by decide)) rfl <| dn_callM GX sBox_mono (hr.mono (by decide)) rfl <| da_d <| de_new <| dn_callM GC sCells_mono (hr.mono (by decide)) rfl <| da_d <| dv 0 rfl <| da_d <| de_int <| da_nil ⟨by simp [slotsOf], rfl, ns, rfl, h1, fun l cs hcs => ⟨rfl, l, _, rfl, da_d <| de_int <| da_nil ⟨by simp [slotsOf], rfl, cs, rfl, hcs, fun l2 t ht => ⟨rfl, l2, _, rfl, fun l3 => ⟨l3, t, rfl, ht, fun t' => ⟨_, rfl, rfl⟩⟩⟩⟩⟩⟩, (fun h => nomatch h)⟩
end
end Wk

set_option Elab.async false
set_option linter.all false
set_option maxRecDepth 1000000
set_option maxHeartbeats 0
namespace Wk
def smlRow (b : Nat) (r : List Int) : Bool := r.all fun x => decide (x.natAbs ≤ b)
def chkWays (n k : Nat) (ties : Ties) (roots : List Nat) (ws : Ways) : Bool := decide (ws.length = n) && (List.range n).all fun v => match ws.getD v none with
  | some w => decide (w.length = k) && smlRow 1 w && decide (bordM n ties w = subR (oneAt v n) (oneAt (roots.getD v 0 : Nat) n))
  | none => false
def chkRings (n : Nat) (ties : Ties) (ot : List Nat) (rs : List (List Int)) : Bool := decide (lawRings n ties = some rs) && (rs.all fun r => decide (r.length = ties.length) && smlRow 1 r) && decide ((rs.map fun r => ot.map fun i => r.getD i 0) = unitsM ot.length)
def chkRoots (ties : Ties) (roots : List Nat) : Bool := ties.all fun p => decide (roots.getD p.1 0 = roots.getD p.2 0)
def chkBr (ties : Ties) (br : List Nat) (w : Nat → List Int) : Bool := br.all fun i => decide (subR (w (ties.getD i (0, 0)).2) (w (ties.getD i (0, 0)).1) = oneAt i ties.length)
def incM (n : Nat) (ties : Ties) : List (List Int) := (linesM n ties).map (·.2)
def chkDiag (n k : Nat) (tab : List (List Int)) : Bool := match diagM 12 k n 4 0 (tab, unitsM k, unitsM n) with
  | some (a, R, L, Q) => (stepsM a R).all (fun s => decide (s = 1)) && L.all (smlRow 16)
  | none => false
end Wk

set_option Elab.async false
set_option linter.all false
set_option maxRecDepth 100000
set_option maxHeartbeats 1000000
namespace Wk
abbrev Vc := Nat → Int
def vec (r : List Int) : Vc := fun i => r.getD i 0
inductive InL (G : List (List Int)) : Vc → Prop
  | zero : InL G fun _ => 0
  | add {v r} (q : Int) : InL G v → r ∈ G → InL G fun i => v i + q * vec r i
theorem InL.as {G : List (List Int)} {u v : Vc} (h : InL G u) (e : ∀ i, u i = v i) : InL G v := by
  have : u = v := funext e
  rw [← this]; exact h
theorem InL.mem {G : List (List Int)} {r : List Int} (h : r ∈ G) : InL G (vec r) := (InL.add 1 .zero h).as fun i => by simp
theorem InL.plus {G : List (List Int)} {u v : Vc} (hu : InL G u) (hv : InL G v) : InL G fun i => u i + v i := by
  induction hv with
  | zero => exact hu.as fun i => by simp
  | add q _ hr ih => exact (ih.add q hr).as fun i => by simp [Int.add_assoc]
theorem InL.mul {G : List (List Int)} {v : Vc} (q : Int) (hv : InL G v) : InL G fun i => q * v i := by
  induction hv with
  | zero => exact InL.zero.as fun i => by simp
  | add q' _ hr ih => exact (ih.add (q * q') hr).as fun i => by simp [Int.mul_add, Int.mul_assoc]
theorem InL.sub {G : List (List Int)} {u v : Vc} (hu : InL G u) (hv : InL G v) (q : Int) : InL G fun i => u i - q * v i := (hu.plus (hv.mul (-q))).as fun i => by rw [Int.neg_mul]; omega
def Le (G G' : List (List Int)) : Prop := ∀ r ∈ G, InL G' (vec r)
theorem InL.mono {G G' : List (List Int)} {v : Vc} (hv : InL G v) (h : Le G G') : InL G' v := by
  induction hv with
  | zero => exact .zero
  | add q _ hr ih => exact (ih.plus ((h _ hr).mul q)).as fun i => rfl
theorem Le.trans {A B C : List (List Int)} (h : Le A B) (h' : Le B C) : Le A C := fun r hr => (h r hr).mono h'
theorem Le.of_sub {A B : List (List Int)} (h : ∀ r ∈ A, r ∈ B) : Le A B := fun r hr => .mem (h r hr)
theorem vec_cons0 (a : Int) (r : List Int) : vec (a :: r) 0 = a := rfl
theorem vec_consS (a : Int) (r : List Int) (i : Nat) : vec (a :: r) (i + 1) = vec r i := by simp [vec]
theorem vec_nil (i : Nat) : vec [] i = 0 := by simp [vec]
theorem vec_sub {q : Int} : ∀ {r h : List Int}, r.length = h.length → ∀ i, vec (subR r (scal h q)) i = vec r i - q * vec h i
  | [], [], _, i => by simp [subR, scal, vec_nil]
  | a :: r, b :: h, e, 0 => by show a - b * q = a - q * b; rw [Int.mul_comm]
  | a :: r, b :: h, e, i + 1 => by
    rw [vec_consS, vec_consS, ← vec_sub (by simpa using e) i]
    exact vec_consS _ _ i
theorem vec_scal {q : Int} : ∀ {h : List Int} (i : Nat), vec (scal h q) i = q * vec h i
  | [], i => by simp [scal, vec_nil]
  | b :: h, 0 => Int.mul_comm _ _
  | b :: h, i + 1 => by rw [vec_consS, ← vec_scal i]; exact vec_consS _ _ i
theorem vec_addR : ∀ {r h : List Int}, r.length = h.length → ∀ i, vec (addR r h) i = vec r i + vec h i
  | [], [], _, i => by simp [addR, vec_nil]
  | a :: r, b :: h, e, 0 => rfl
  | a :: r, b :: h, e, i + 1 => by
    rw [vec_consS, vec_consS, ← vec_addR (by simpa using e) i]
    exact vec_consS _ _ i
theorem vec_out {r : List Int} {i : Nat} (h : r.length ≤ i) : vec r i = 0 := by
  unfold vec; rw [List.getD_eq_getElem?_getD, List.getElem?_eq_none h]; rfl
theorem vec_mem {r : List Int} {x : Int} (h : x ∈ r) : ∃ i, i < r.length ∧ vec r i = x := by
  obtain ⟨i, hi, e⟩ := List.getElem_of_mem h
  exact ⟨i, hi, by unfold vec; rw [List.getD_eq_getElem?_getD, List.getElem?_eq_getElem hi]; exact e⟩
theorem vec_ext {r h : List Int} (hl : r.length = h.length) (e : ∀ i, i < r.length → vec r i = vec h i) : r = h := by
  apply List.ext_getElem hl
  intro i h1 h2
  have := e i h1
  unfold vec at this
  rwa [List.getD_eq_getElem?_getD, List.getD_eq_getElem?_getD, List.getElem?_eq_getElem h1, List.getElem?_eq_getElem h2] at this
theorem vec_zerR (n i : Nat) : vec (zerR n) i = 0 := by
  unfold vec zerR
  rw [List.getD_eq_getElem?_getD, List.getElem?_replicate]; split <;> rfl
theorem vec_take {r : List Int} {n i : Nat} (h : i < n) : vec (r.take n) i = vec r i := by
  unfold vec
  rw [List.getD_eq_getElem?_getD, List.getD_eq_getElem?_getD, List.getElem?_take_of_lt h]
theorem vec_app {r s : List Int} {i : Nat} (h : i < r.length) : vec (r ++ s) i = vec r i := by
  unfold vec
  rw [List.getD_eq_getElem?_getD, List.getD_eq_getElem?_getD, List.getElem?_append_left h]
theorem vec_red {p : Nat} {h r : List Int} (e : r.length = h.length) (i : Nat) : vec (redR p h r) i = vec r i - quoR p h r * vec h i := vec_sub e i
theorem turn_split (p : Nat) (T : List (List Int)) (x : List Int) : x ∈ T ↔ x ∈ T.filter (nzR p) ∨ x ∈ T.filter (zzR p) := by
  rw [List.mem_filter, List.mem_filter]
  constructor
  · intro h
    by_cases q : x.getD p 0 = 0
    · exact .inr ⟨h, by rw [zzR]; exact decide_eq_true q⟩
    · exact .inl ⟨h, by rw [nzR]; exact decide_eq_true q⟩
  · rintro (h | h) <;> exact h.1
theorem red_le {p W : Nat} {h : List Int} {t G : List (List Int)} (hh : h.length = W) (ht : Wd W t) (h1 : h ∈ G) (h2 : ∀ r ∈ t, redR p h r ∈ G) : Le (h :: t) G := by
  intro r hr
  rcases List.mem_cons.mp hr with rfl | hr
  · exact .mem h1
  · refine ((InL.mem (h2 r hr)).plus ((InL.mem h1).mul (quoR p h r))).as fun i => ?_
    rw [vec_red (by rw [ht r hr, hh])]; omega
theorem red_ge {p W : Nat} {h : List Int} {t G : List (List Int)} (hh : h.length = W) (ht : Wd W t) (h1 : h ∈ G) (h2 : ∀ r ∈ t, r ∈ G) : Le (h :: t.map (redR p h)) G := by
  intro r hr
  rcases List.mem_cons.mp hr with rfl | hr
  · exact .mem h1
  · obtain ⟨r0, h0, rfl⟩ := List.mem_map.mp hr
    refine ((InL.mem (h2 r0 h0)).sub (InL.mem h1) (quoR p h r0)).as fun i => ?_
    rw [vec_red (by rw [ht r0 h0, hh])]
theorem Loop.span {p n W : Nat} {S R S' R' : List (List Int)} (h : Loop p n S R S' R') : Wd W S → Wd W R → Le (S ++ R) (S' ++ R') ∧ Le (S' ++ R') (S ++ R) := by
  induction h with
  | done _ => exact fun _ _ => ⟨.of_sub fun _ h => h, .of_sub fun _ h => h⟩
  | @turn n S R S' R' h t _ e _ _ ih =>
    intro w1 w2
    have ws := w1.sort (p := p)
    have pm : ∀ x, x ∈ S ↔ x ∈ h :: t := fun x => by rw [← e]; exact (sortR_perm p S).mem_iff.symm
    rw [e] at ws
    have hh : h.length = W := ws h List.mem_cons_self
    have ht : Wd W t := fun r hr => ws r (List.mem_cons_of_mem _ hr)
    obtain ⟨i1, i2⟩ := ih ws.turn.filter (w2.app ws.turn.filter)
    have sp : ∀ x, x ∈ h :: t.map (redR p h) → x ∈ (turnR p (h :: t)).filter (nzR p) ++ (R ++ (turnR p (h :: t)).filter (zzR p)) := fun x hx => by
      rcases (turn_split p (turnR p (h :: t)) x).mp hx with q | q
      · exact List.mem_append_left _ q
      · exact List.mem_append_right _ (List.mem_append_right _ q)
    have sq : ∀ x, x ∈ (turnR p (h :: t)).filter (nzR p) ++ (R ++ (turnR p (h :: t)).filter (zzR p)) → x ∈ h :: t.map (redR p h) ∨ x ∈ R := fun x hx => by
      rcases List.mem_append.mp hx with q | q
      · exact .inl ((turn_split p _ x).mpr (.inl q))
      · rcases List.mem_append.mp q with q | q
        · exact .inr q
        · exact .inl ((turn_split p _ x).mpr (.inr q))
    refine ⟨Le.trans (fun x hx => ?_) i1, Le.trans i2 fun x hx => ?_⟩
    · rcases List.mem_append.mp hx with q | q
      · exact red_le hh ht (sp h List.mem_cons_self) (fun r hr => sp _ (List.mem_cons_of_mem _ (List.mem_map.mpr ⟨r, hr, rfl⟩))) x ((pm x).mp q)
      · exact .mem (List.mem_append_right _ (List.mem_append_left _ q))
    · rcases sq x hx with q | q
      · exact red_ge (G := S ++ R) hh ht (List.mem_append_left _ ((pm h).mpr List.mem_cons_self)) (fun r hr => List.mem_append_left _ ((pm r).mpr (List.mem_cons_of_mem _ hr))) x q
      · exact .mem (List.mem_append_right _ q)
theorem pos_le {p : Nat} {h : List Int} {G : List (List Int)} (hg : InL G (vec h)) : InL G (vec (posR p h)) := by
  unfold posR; split
  · exact hg
  · exact (hg.mul (-1)).as fun i => by rw [vec_scal]
theorem le_pos {p : Nat} {h : List Int} {G : List (List Int)} (hg : posR p h ∈ G) : InL G (vec h) := by
  unfold posR at hg; split at hg
  · exact .mem hg
  · exact ((InL.mem hg).mul (-1)).as fun i => by rw [vec_scal]; omega
theorem Le.app {A B C : List (List Int)} (h : Le A C) (h' : Le B C) : Le (A ++ B) C := fun r hr => (List.mem_append.mp hr).elim (h r) (h' r)
theorem Pls.span {ps : List Nat} {W : Nat} {F L F' L' : List (List Int)} (h : Pls ps F L F' L') : Wd W F → Wd W L → Le (F ++ L) (F' ++ L') ∧ Le (F' ++ L') (F ++ L) := by
  induction h with
  | nil => exact fun _ _ => ⟨.of_sub fun _ h => h, .of_sub fun _ h => h⟩
  | @skip p ps n F L R F' L' h1 _ ih =>
    intro w1 w2
    obtain ⟨_, wR⟩ := h1.wd w2.filter w2.filter
    obtain ⟨s1, s2⟩ := h1.span w2.filter w2.filter
    obtain ⟨i1, i2⟩ := ih w1 wR
    refine ⟨Le.trans (Le.app (.of_sub fun r hr => List.mem_append_left _ hr) fun r hr => ?_) i1, Le.trans i2 (Le.app (.of_sub fun r hr => List.mem_append_left _ hr) fun r hr => ?_)⟩
    · have : r ∈ L.filter (nzR p) ++ L.filter (zzR p) := by
        rcases (turn_split p L r).mp hr with q | q
        · exact List.mem_append_left _ q
        · exact List.mem_append_right _ q
      exact (s1 r this).mono (.of_sub fun x hx => List.mem_append_right _ (by simpa using hx))
    · refine (s2 r (by simpa using hr)).mono (.of_sub fun x hx => List.mem_append_right _ ?_)
      rcases List.mem_append.mp hx with q | q <;> exact (List.mem_filter.mp q).1
  | @take p ps n F L h R F' L' h1 _ _ ih =>
    intro w1 w2
    obtain ⟨wh, wR⟩ := h1.wd w2.filter w2.filter
    obtain ⟨s1, s2⟩ := h1.span w2.filter w2.filter
    have hl : (posR p h).length = W := by rw [posR_length]; exact wh h List.mem_cons_self
    obtain ⟨i1, i2⟩ := ih ((w1.red hl).app fun r hr => by rw [List.mem_singleton.mp hr]; exact hl) wR
    refine ⟨Le.trans (Le.app (fun r hr => ?_) fun r hr => ?_) i1, Le.trans i2 (Le.app (fun r hr => ?_) fun r hr => ?_)⟩
    · exact red_le (p := p) (h := posR p h) (t := F) hl w1 (List.mem_append_left _ (List.mem_append_right _ (List.mem_singleton.mpr rfl))) (fun r hr => List.mem_append_left _ (List.mem_append_left _ (List.mem_map.mpr ⟨r, hr, rfl⟩))) r (List.mem_cons_of_mem _ hr)
    · have : r ∈ L.filter (nzR p) ++ L.filter (zzR p) := by
        rcases (turn_split p L r).mp hr with q | q
        · exact List.mem_append_left _ q
        · exact List.mem_append_right _ q
      refine (s1 r this).mono fun x hx => ?_
      rcases List.mem_append.mp hx with q | q
      · rw [List.mem_singleton.mp q]
        exact le_pos (p := p) (List.mem_append_left _ (List.mem_append_right _ (List.mem_singleton.mpr rfl)))
      · exact .mem (List.mem_append_right _ q)
    · have hin : InL (F ++ L) (vec h) := (s2 h (List.mem_append_left _ List.mem_cons_self)).mono (.of_sub fun x hx => List.mem_append_right _ (by
        rcases List.mem_append.mp hx with q | q <;> exact (List.mem_filter.mp q).1))
      rcases List.mem_append.mp hr with q | q
      · obtain ⟨r0, h0, rfl⟩ := List.mem_map.mp q
        refine ((InL.mem (List.mem_append_left _ h0)).sub (pos_le (p := p) hin) (quoR p (posR p h) r0)).as fun i => ?_
        rw [vec_red (by rw [w1 r0 h0, hl])]
      · rw [List.mem_singleton.mp q]
        exact pos_le hin
    · refine (s2 r (List.mem_append_right _ hr)).mono (.of_sub fun x hx => List.mem_append_right _ ?_)
      rcases List.mem_append.mp hx with q | q <;> exact (List.mem_filter.mp q).1
end Wk

set_option Elab.async false
set_option linter.all false
set_option maxRecDepth 100000
set_option maxHeartbeats 1000000
namespace Wk
open PySem PySem.Spec PyProof.Rows
/-- no number greater than this -/
def BdR (N : Nat) (r : List Int) : Prop := ∀ i, (vec r i).natAbs ≤ N
theorem BdR.mono {M N : Nat} {r : List Int} (h : BdR M r) (l : M ≤ N) : BdR N r := fun i => Nat.le_trans (h i) l
theorem bits_of {x : Int} {k : Nat} (h : x.natAbs < 2 ^ k) : Builtin.Int.intBits x ≤ k := by
  unfold Builtin.Int.intBits
  split
  · omega
  · rename_i hz
    have hz : x.natAbs ≠ 0 := by simpa using hz
    have := (Nat.log2_lt hz).mpr h
    omega
theorem mul_big {x y : Int} (h1 : x.natAbs < 2 ^ 8999) (h2 : y.natAbs < 2 ^ 8999) : IntMulOk x y :=
  IntMulOk.of_bits (Nat.le_trans (bits_of h1) (by decide)) (Nat.le_trans (bits_of h2) (by decide))
theorem div_big {x y : Int} (h0 : y ≠ 0) (h : y.natAbs < 2 ^ 8999) : DL.CDivB x y := by
  refine ⟨h0, ?_⟩
  have := (Nat.log2_lt (n := y.natAbs) (by omega)).mpr h
  omega
theorem quo1 (r h : Int) (h0 : 0 < h) : 0 ≤ r - r.fdiv h * h ∧ r - r.fdiv h * h < h := by
  have e := Int.fmod_def r h
  have a := Int.fmod_nonneg_of_pos r h0
  have b := Int.fmod_lt_of_pos r h0
  rw [Int.mul_comm] at e
  omega
theorem quo2 (r h : Int) (h0 : h < 0) : h < r - r.fdiv h * h ∧ r - r.fdiv h * h ≤ 0 := by
  have := quo1 (-r) (-h) (by omega)
  rw [Int.neg_fdiv_neg, Int.mul_neg] at this
  omega
theorem quo_abs (r h : Int) (h0 : h ≠ 0) : (r.fdiv h).natAbs * h.natAbs ≤ r.natAbs + h.natAbs := by
  rw [← Int.natAbs_mul]
  rcases Int.lt_or_gt_of_ne h0 with l | l
  · have := quo2 r h l; omega
  · have := quo1 r h l; omega
theorem quo_same (s r h : Int) (hs : s = 1 ∨ s = -1) (h1 : 0 < s * r) (h2 : 0 < s * h) : (r - r.fdiv h * h).natAbs + (r.fdiv h).natAbs * h.natAbs = r.natAbs ∧ (r - r.fdiv h * h).natAbs < h.natAbs ∧ (0 < (r - r.fdiv h * h).natAbs → 0 < s * (r - r.fdiv h * h)) := by
  have key : ∀ r h : Int, 0 < r → 0 < h → (r - r.fdiv h * h).natAbs + (r.fdiv h).natAbs * h.natAbs = r.natAbs := fun r h h1 h2 => by
    have a := quo1 r h h2
    have q0 : 0 ≤ r.fdiv h := by
      rcases Int.lt_or_le (r.fdiv h) 0 with z | z
      · exfalso
        have : r.fdiv h * h ≤ (-1) * h := Int.mul_le_mul_of_nonneg_right (by omega) (by omega)
        omega
      · exact z
    have : 0 ≤ r.fdiv h * h := Int.mul_nonneg q0 (by omega)
    rw [← Int.natAbs_mul]; omega
  rcases hs with rfl | rfl
  · have := key r h (by omega) (by omega)
    have q := quo1 r h (by omega)
    exact ⟨this, by omega, fun _ => by omega⟩
  · have := key (-r) (-h) (by omega) (by omega)
    have q := quo2 r h (by omega)
    rw [Int.neg_fdiv_neg, Int.mul_neg] at this
    refine ⟨?_, by omega, fun _ => by omega⟩
    have e : (-r - -(r.fdiv h * h)).natAbs = (r - r.fdiv h * h).natAbs := by omega
    rw [e, Int.natAbs_neg, Int.natAbs_neg] at this
    exact this
theorem sort_min {p : Nat} {S : List (List Int)} {h : List Int} {t : List (List Int)} (e : sortR p S = h :: t) : ∀ r ∈ t, (vec h p).natAbs ≤ (vec r p).natAbs := by
  have := List.pairwise_mergeSort (le := fun a b : List Int => decide ((a.getD p 0).natAbs ≤ (b.getD p 0).natAbs)) (fun a b c h1 h2 => by
    have h1 := of_decide_eq_true h1
    have h2 := of_decide_eq_true h2
    exact decide_eq_true (Nat.le_trans h1 h2)) (fun a b => by
    rcases Nat.le_total (a.getD p 0).natAbs (b.getD p 0).natAbs with q | q
    · rw [decide_eq_true q]; rfl
    · rw [decide_eq_true q, Bool.or_true]) S
  rw [show S.mergeSort _ = sortR p S from rfl, e] at this
  exact fun r hr => of_decide_eq_true (List.rel_of_pairwise_cons this hr)
theorem red_bd {p W M Qm : Nat} {h r : List Int} (hl : r.length = h.length) (hr : BdR M r) (hh : BdR M h) (hq : (quoR p h r).natAbs ≤ Qm) : BdR (M + Qm * M) (redR p h r) := fun i => by
  rw [vec_red hl]
  refine Nat.le_trans (Int.natAbs_sub_le _ _) (Nat.add_le_add (hr i) ?_)
  rw [Int.natAbs_mul]
  exact Nat.mul_le_mul hq (hh i)
theorem redOk_of {p B : Nat} {h r : List Int} (h0 : vec h p ≠ 0) (hb : BdR B h) (hB : B < 2 ^ 8999) (hq : (quoR p h r).natAbs < 2 ^ 8999) : RedOk p h r :=
  ⟨div_big h0 (Nat.lt_of_le_of_lt (hb p) hB), fun x hx => by
    obtain ⟨i, _, rfl⟩ := vec_mem hx
    exact mul_big (Nat.lt_of_le_of_lt (hb i) hB) hq⟩
theorem vecD (r : List Int) (p : Nat) : r.getD p 0 = vec r p := rfl
/-- the turns once the signs agree -/
theorem loop2 {p W : Nat} (s : Int) (hs : s = 1 ∨ s = -1) {Ψ : Nat} (hΨ : 2 * Ψ < 2 ^ 8999) : ∀ (k : Nat) (S R : List (List Int)) (M P : Nat), Wd W S → P + S.length ≤ k → 1 ≤ P → M ≤ Ψ → P ≤ M → (∀ r ∈ S, BdR M r) → (∀ r ∈ S, 0 < s * vec r p) → (∀ r ∈ S, (vec r p).natAbs ≤ P) → (S ≠ [] → ∃ r ∈ S, (vec r p).natAbs = P) →
    (∀ m, (∃ r ∈ S, (vec r p).natAbs = m) → (∀ r ∈ S, m ≤ (vec r p).natAbs) → M * P ^ 4 * m ≤ Ψ) →
    ∃ n S' R', Loop p n S R S' R' ∧ S'.length ≤ 1 ∧ (∀ r ∈ S', BdR Ψ r) ∧ (∀ r ∈ R', r ∈ R ∨ BdR (2 * Ψ) r)
  | 0, S, R, M, P, _, hk, hP, hM, _, hb, _, _, _, _ => by omega
  | k + 1, S, R, M, P, wS, hk, hP, hM, hPM, hb, hsg, hp, hat, hpot => by
    by_cases hlen : S.length ≤ 1
    · exact ⟨0, S, R, .done hlen, hlen, fun r hr => (hb r hr).mono hM, fun r hr => .inl hr⟩
    · have wt := wS.sort (p := p)
      have pm : ∀ x, x ∈ S ↔ x ∈ sortR p S := fun x => (sortR_perm p S).mem_iff.symm
      have pl := (sortR_perm p S).length_eq
      cases e : sortR p S with
      | nil => rw [e] at pl; simp at pl; omega
      | cons h t =>
        rw [e] at wt pm pl
        have hmin := sort_min e
        have hS : h ∈ S := (pm h).mpr List.mem_cons_self
        have tS : ∀ r ∈ t, r ∈ S := fun r hr => (pm r).mpr (List.mem_cons_of_mem _ hr)
        have hh : h.length = W := wt h List.mem_cons_self
        have ht : ∀ r ∈ t, r.length = h.length := fun r hr => by rw [hh]; exact wt r (List.mem_cons_of_mem _ hr)
        have h0 : vec h p ≠ 0 := fun z => by have := hsg h hS; rw [z] at this; omega
        obtain ⟨m, hm⟩ : ∃ m, (vec h p).natAbs = m := ⟨_, rfl⟩
        have m1 : 1 ≤ m := by omega
        have mP : m ≤ P := by rw [← hm]; exact hp h hS
        have hmS : ∀ r ∈ S, m ≤ (vec r p).natAbs := fun r hr => by
          rcases List.mem_cons.mp ((pm r).mp hr) with rfl | q
          · omega
          · rw [← hm]; exact hmin r q
        have pot := hpot m ⟨h, hS, hm⟩ hmS
        have qs : ∀ r ∈ t, (vec (redR p h r) p).natAbs + (quoR p h r).natAbs * m = (vec r p).natAbs ∧ (vec (redR p h r) p).natAbs < m ∧ (0 < (vec (redR p h r) p).natAbs → 0 < s * vec (redR p h r) p) := fun r hr => by
          have := quo_same s (vec r p) (vec h p) hs (hsg r (tS r hr)) (hsg h hS)
          rw [vec_red (ht r hr), ← hm]
          exact this
        have qb : ∀ r ∈ t, (quoR p h r).natAbs * m ≤ P := fun r hr => by have := (qs r hr).1; have := hp r (tS r hr); omega
        have rb : ∀ r ∈ t, ∀ M', (∀ q, q * m ≤ P → M + q * M ≤ M') → BdR M' (redR p h r) := fun r hr M' hM' => (red_bd (W := W) (ht r hr) (hb r (tS r hr)) (hb h hS) (Nat.le_refl _)).mono (hM' _ (qb r hr))
        have pw : m ≤ P ^ 4 * m := Nat.le_mul_of_pos_left m (Nat.pow_pos (by omega))
        have bigM : ∀ q, q * m ≤ P → M + q * M ≤ 2 * Ψ := fun q hq => by
          have a1 : M * (P * 1) ≤ M * (P ^ 4 * m) := Nat.mul_le_mul_left M (Nat.mul_le_mul (by
            calc P = P ^ 1 := by simp
              _ ≤ P ^ 4 := Nat.pow_le_pow_right (by omega) (by decide)) m1)
          have a2 : q ≤ P := Nat.le_trans (Nat.le_mul_of_pos_right q (by omega)) hq
          have a3 : q * M ≤ P * M := Nat.mul_le_mul_right M a2
          rw [← Nat.mul_assoc] at a1
          rw [Nat.mul_comm P M] at a3
          rw [Nat.mul_one] at a1
          rw [Nat.mul_assoc] at pot
          have a4 : M * P ≤ M * (P ^ 4 * m) := a1
          omega
        have ok : ∀ r ∈ t, RedOk p h r := fun r hr => redOk_of h0 (hb h hS) (by omega) (by
          have := qb r hr
          have : (quoR p h r).natAbs ≤ P := Nat.le_trans (Nat.le_mul_of_pos_right _ (by omega)) this
          omega)
        have zz : ∀ r ∈ (turnR p (h :: t)).filter (zzR p), BdR (2 * Ψ) r := fun r hr => by
          obtain ⟨h1, h2⟩ := List.mem_filter.mp hr
          rcases List.mem_cons.mp h1 with rfl | h1
          · exact absurd (of_decide_eq_true h2) h0
          · obtain ⟨r0, q0, rfl⟩ := List.mem_map.mp h1
            exact rb r0 q0 _ bigM
        have hN : h ∈ (turnR p (h :: t)).filter (nzR p) := List.mem_filter.mpr ⟨List.mem_cons_self, decide_eq_true h0⟩
        have memS1 : ∀ r ∈ (turnR p (h :: t)).filter (nzR p), r = h ∨ ∃ r0 ∈ t, r = redR p h r0 ∧ vec r p ≠ 0 := fun r hr => by
          obtain ⟨h1, h2⟩ := List.mem_filter.mp hr
          rcases List.mem_cons.mp h1 with rfl | h1
          · exact .inl rfl
          · obtain ⟨r0, q0, rfl⟩ := List.mem_map.mp h1
            exact .inr ⟨r0, q0, rfl, of_decide_eq_true h2⟩
        have l1 : ((turnR p (h :: t)).filter (nzR p)).length ≤ S.length := by
          refine Nat.le_trans (List.length_filter_le _ _) ?_
          rw [turnR_length, ← pl]; exact Nat.le_refl _
        have fin : ∀ n S' R', Loop p n ((turnR p (h :: t)).filter (nzR p)) (R ++ (turnR p (h :: t)).filter (zzR p)) S' R' → S'.length ≤ 1 → (∀ r ∈ S', BdR Ψ r) → (∀ r ∈ R', r ∈ R ++ (turnR p (h :: t)).filter (zzR p) ∨ BdR (2 * Ψ) r) → ∃ n S' R', Loop p n S R S' R' ∧ S'.length ≤ 1 ∧ (∀ r ∈ S', BdR Ψ r) ∧ (∀ r ∈ R', r ∈ R ∨ BdR (2 * Ψ) r) := fun n S' R' q1 q2 q3 q4 =>
          ⟨n + 1, S', R', .turn (by omega) e ok q1, q2, q3, fun r hr => by
            rcases q4 r hr with q | q
            · rcases List.mem_append.mp q with q | q
              · exact .inl q
              · exact .inr (zz r q)
            · exact .inr q⟩
        by_cases hmP : m = P
        · -- all the same
          have e1 : (turnR p (h :: t)).filter (nzR p) = [h] := by
            show List.filter (nzR p) (h :: t.map (redR p h)) = [h]
            rw [List.filter_cons_of_pos (show nzR p h = true from decide_eq_true h0)]
            rw [List.filter_eq_nil_iff.mpr]
            intro r hr
            obtain ⟨r0, q0, rfl⟩ := List.mem_map.mp hr
            have q1 := qs r0 q0
            have q2 := hmS r0 (tS r0 q0)
            have q3 := hp r0 (tS r0 q0)
            have : vec (redR p h r0) p = 0 := by
              have q4 : (quoR p h r0).natAbs ≥ 1 := by
                rcases Nat.eq_zero_or_pos (quoR p h r0).natAbs with z | z
                · rw [z, Nat.zero_mul] at q1; omega
                · exact z
              have : m ≤ (quoR p h r0).natAbs * m := Nat.le_mul_of_pos_left m q4
              omega
            show ¬ decide (vec (redR p h r0) p ≠ 0) = true
            simp [this]
          refine fin 0 [h] _ (by rw [e1]; exact .done (Nat.le_refl _)) (Nat.le_refl _) (fun r hr => ?_) fun r hr => .inl hr
          rw [List.mem_singleton.mp hr]; exact (hb h hS).mono hM
        · have mP' : m < P := Nat.lt_of_le_of_ne mP hmP
          -- the next bound
          obtain ⟨M', hM', hM2⟩ : ∃ M', (∀ q, q * m ≤ P → M + q * M ≤ M') ∧ M' * m ≤ 2 * (M * P) := by
            refine ⟨M + P / m * M, fun q hq => ?_, ?_⟩
            · have : q ≤ P / m := (Nat.le_div_iff_mul_le (by omega)).mpr hq
              exact Nat.add_le_add_left (Nat.mul_le_mul_right M this) M
            · have a1 : P / m * m ≤ P := Nat.div_mul_le_self P m
              have a2 : M * m ≤ M * P := Nat.mul_le_mul_left M mP
              have a3 : P / m * m * M ≤ P * M := Nat.mul_le_mul_right M a1
              have a4 : P / m * M * m = P / m * m * M := by rw [Nat.mul_assoc, Nat.mul_comm M m, ← Nat.mul_assoc]
              have a5 : P * M = M * P := Nat.mul_comm P M
              rw [Nat.add_mul]; omega
          have hMM' : M ≤ M' := by have := hM' 0 (by omega); omega
          have newpot : ∀ m', m' ≤ m → (2 * m ≤ P ∨ m' ≤ P - m) → M' * m ^ 4 * m' ≤ Ψ := fun m' hm' hc => by
            -- 2 m^2 m' ≤ P^3
            have c1 : 2 * (m * m * m') ≤ P * P * P := by
              rcases hc with hc | hc
              · have b1 : m * m * m' ≤ m * m * m := Nat.mul_le_mul_left _ hm'
                have b2 : m * m ≤ P * P := Nat.mul_le_mul mP mP
                have b3 : m * m * (2 * m) ≤ P * P * P := Nat.mul_le_mul b2 hc
                have b4 : m * m * (2 * m) = 2 * (m * m * m) := by rw [Nat.mul_left_comm]
                omega
              · obtain ⟨d, hd⟩ : ∃ d, P = m + d := ⟨P - m, by omega⟩
                have b0 : m' ≤ d := by omega
                have b1 : m * m * m' ≤ m * m * d := Nat.mul_le_mul_left _ b0
                have b2 : m * m ≤ (m + d) * (m + d) := Nat.mul_le_mul (by omega) (by omega)
                have b3 : m * d ≤ (m + d) * (m + d) := Nat.mul_le_mul (by omega) (by omega)
                have b4 : m * m * d ≤ (m + d) * (m + d) * d := Nat.mul_le_mul_right d b2
                have b5 : m * d * m ≤ (m + d) * (m + d) * m := Nat.mul_le_mul_right m b3
                have b6 : m * d * m = m * m * d := by rw [Nat.mul_assoc, Nat.mul_comm d m, ← Nat.mul_assoc]
                rw [hd, Nat.mul_add ((m + d) * (m + d)) m d]; omega
            have c2 : M' * m ^ 4 * m' = (M' * m) * (m * (m * m * m')) := by
              rw [show m ^ 4 = m * m * m * m by simp [Nat.pow_succ]]
              simp only [Nat.mul_assoc, Nat.mul_comm, Nat.mul_left_comm]
            rw [c2]
            have c3 : (M' * m) * (m * (m * m * m')) ≤ 2 * (M * P) * (m * (m * m * m')) := Nat.mul_le_mul_right _ hM2
            have c4 : 2 * (M * P) * (m * (m * m * m')) = M * P * m * (2 * (m * m * m')) := by
              simp only [Nat.mul_assoc, Nat.mul_comm, Nat.mul_left_comm]
            have c5 : M * P * m * (2 * (m * m * m')) ≤ M * P * m * (P * P * P) := Nat.mul_le_mul_left _ c1
            have c6 : M * P * m * (P * P * P) = M * P ^ 4 * m := by
              rw [show P ^ 4 = P * P * P * P by simp [Nat.pow_succ]]
              simp only [Nat.mul_assoc, Nat.mul_comm, Nat.mul_left_comm]
            omega
          have w1 : Wd W ((turnR p (h :: t)).filter (nzR p)) := wt.turn.filter
          have mS1 : ∀ r ∈ (turnR p (h :: t)).filter (nzR p), (vec r p).natAbs ≤ m := fun r hr => by
            rcases memS1 r hr with rfl | ⟨r0, q0, rfl, _⟩
            · omega
            · exact Nat.le_of_lt (qs r0 q0).2.1
          have hcase : ∀ m', (∀ r ∈ (turnR p (h :: t)).filter (nzR p), m' ≤ (vec r p).natAbs) → 2 * m ≤ P ∨ m' ≤ P - m := fun m' hm' => by
            by_cases h2 : 2 * m ≤ P
            · exact .inl h2
            · right
              obtain ⟨r0, q0, q1⟩ := hat (fun z => by rw [z] at hlen; simp at hlen)
              rcases List.mem_cons.mp ((pm r0).mp q0) with z | z
              · rw [z] at q1; omega
              · have q2 := qs r0 z
                have q3 : (quoR p h r0).natAbs = 1 := by
                  obtain ⟨x, hx⟩ : ∃ x, (quoR p h r0).natAbs = x := ⟨_, rfl⟩
                  rw [hx] at q2 ⊢
                  rcases Nat.lt_or_ge x 1 with l | l
                  · have : x = 0 := by omega
                    rw [this, Nat.zero_mul] at q2; omega
                  · rcases Nat.lt_or_ge x 2 with l2 | l2
                    · omega
                    · have : 2 * m ≤ x * m := Nat.mul_le_mul_right m l2
                      omega
                rw [q3, Nat.one_mul] at q2
                have q4 : redR p h r0 ∈ (turnR p (h :: t)).filter (nzR p) := List.mem_filter.mpr ⟨List.mem_cons_of_mem _ (List.mem_map.mpr ⟨r0, z, rfl⟩), decide_eq_true (show vec (redR p h r0) p ≠ 0 by omega)⟩
                have := hm' _ q4
                omega
          have M'Ψ : M' ≤ Ψ := by
            -- some least one stands
            have : ∀ (G : List (List Int)), h ∈ G → ∃ m', (∃ r ∈ G, (vec r p).natAbs = m') ∧ ∀ r ∈ G, m' ≤ (vec r p).natAbs := fun G hG => by
              obtain ⟨r, q1, q2⟩ : ∃ r ∈ G, ∀ y ∈ G, (vec r p).natAbs ≤ (vec y p).natAbs := by
                have ex : ∀ (k : Nat) (r : List Int), r ∈ G → (vec r p).natAbs ≤ k → ∃ r ∈ G, ∀ y ∈ G, (vec r p).natAbs ≤ (vec y p).natAbs := by
                  intro k
                  induction k with
                  | zero => exact fun r hr hz => ⟨r, hr, fun y _ => by omega⟩
                  | succ k ih =>
                    intro r hr hz
                    by_cases q : ∀ y ∈ G, (vec r p).natAbs ≤ (vec y p).natAbs
                    · exact ⟨r, hr, q⟩
                    · obtain ⟨y, hy⟩ := Classical.not_forall.mp q
                      obtain ⟨hy1, hy2⟩ := Classical.not_imp.mp hy
                      exact ih y hy1 (by omega)
                exact ex _ h hG (Nat.le_refl _)
              exact ⟨_, ⟨r, q1, rfl⟩, q2⟩
            obtain ⟨m', ⟨r, hr1, hr2⟩, hm'⟩ := this _ hN
            have c1 : m' ≤ m := by have := hm' h hN; omega
            have c2 : 1 ≤ m' := by
              have := (List.mem_filter.mp hr1).2
              have : vec r p ≠ 0 := of_decide_eq_true this
              omega
            have c3 := newpot m' c1 (hcase m' hm')
            have c4 : M' * 1 * 1 ≤ M' * m ^ 4 * m' := Nat.mul_le_mul (Nat.mul_le_mul_left M' (Nat.pow_pos (by omega))) c2
            omega
          obtain ⟨n, S', R', q1, q2, q3, q4⟩ := loop2 s hs hΨ k ((turnR p (h :: t)).filter (nzR p)) (R ++ (turnR p (h :: t)).filter (zzR p)) M' m w1 (by omega) m1 M'Ψ (by omega) (fun r hr => by
              rcases memS1 r hr with rfl | ⟨r0, q0, rfl, _⟩
              · exact (hb _ hS).mono hMM'
              · exact rb r0 q0 _ hM') (fun r hr => by
              rcases memS1 r hr with rfl | ⟨r0, q0, rfl, z⟩
              · exact hsg _ hS
              · exact (qs r0 q0).2.2 (by omega)) mS1 (fun _ => ⟨h, hN, hm⟩) (fun m' ⟨r, hr1, hr2⟩ hm' => newpot m' (by have := mS1 r hr1; omega) (hcase m' hm'))
          exact fin n S' R' q1 q2 q3 q4
end Wk

set_option Elab.async false
set_option linter.all false
set_option maxRecDepth 100000
set_option maxHeartbeats 1000000
namespace Wk
open PySem PySem.Spec PyProof.Rows
theorem loop1 {p W N : Nat} {S R : List (List Int)} (hN : 1 ≤ N) (hB : 6 * N ^ 6 < 2 ^ 8999) (wS : Wd W S) (hb : ∀ r ∈ S, BdR N r) (hnz : ∀ r ∈ S, vec r p ≠ 0) :
    ∃ n S' R', Loop p n S R S' R' ∧ S'.length ≤ 1 ∧ (∀ r ∈ S', BdR (3 * N ^ 6) r) ∧ (∀ r ∈ R', r ∈ R ∨ BdR (6 * N ^ 6) r) := by
  have pw : ∀ k, 1 ≤ k → k ≤ 6 → N ≤ N ^ k ∧ N ^ k ≤ N ^ 6 := fun k h1 h2 => ⟨by
    calc N = N ^ 1 := by simp
      _ ≤ N ^ k := Nat.pow_le_pow_right hN h1, Nat.pow_le_pow_right hN h2⟩
  have p6 := (pw 6 (by decide) (by decide)).1
  by_cases hlen : S.length ≤ 1
  · exact ⟨0, S, R, .done hlen, hlen, fun r hr => (hb r hr).mono (by omega), fun r hr => .inl hr⟩
  · have wt := wS.sort (p := p)
    have pm : ∀ x, x ∈ S ↔ x ∈ sortR p S := fun x => (sortR_perm p S).mem_iff.symm
    have pl := (sortR_perm p S).length_eq
    cases e : sortR p S with
    | nil => rw [e] at pl; simp at pl; omega
    | cons h t =>
      rw [e] at wt pm pl
      have hS : h ∈ S := (pm h).mpr List.mem_cons_self
      have tS : ∀ r ∈ t, r ∈ S := fun r hr => (pm r).mpr (List.mem_cons_of_mem _ hr)
      have hh : h.length = W := wt h List.mem_cons_self
      have ht : ∀ r ∈ t, r.length = h.length := fun r hr => by rw [hh]; exact wt r (List.mem_cons_of_mem _ hr)
      have h0 : vec h p ≠ 0 := hnz h hS
      obtain ⟨m, hm⟩ : ∃ m, (vec h p).natAbs = m := ⟨_, rfl⟩
      have m1 : 1 ≤ m := by omega
      have mN : m ≤ N := by rw [← hm]; exact hb h hS p
      obtain ⟨s, hs, hsh⟩ : ∃ s : Int, (s = 1 ∨ s = -1) ∧ 0 < s * vec h p := by
        rcases Int.lt_or_gt_of_ne h0 with l | l
        · exact ⟨-1, .inr rfl, by omega⟩
        · exact ⟨1, .inl rfl, by omega⟩
      have qs : ∀ r ∈ t, (vec (redR p h r) p).natAbs < m ∧ (vec (redR p h r) p ≠ 0 → 0 < s * vec (redR p h r) p) ∧ (quoR p h r).natAbs * m ≤ N + m := fun r hr => by
        have q3 := quo_abs (vec r p) (vec h p) h0
        have := hb r (tS r hr) p
        rw [vec_red (ht r hr)]
        refine ⟨?_, fun z => ?_, by rw [hm] at q3; show (quoR p h r).natAbs * m ≤ _; exact Nat.le_trans q3 (by omega)⟩
        · rcases Int.lt_or_gt_of_ne h0 with l | l
          · have := quo2 (vec r p) (vec h p) l
            show (vec r p - (vec r p).fdiv (vec h p) * vec h p).natAbs < m
            omega
          · have := quo1 (vec r p) (vec h p) l
            show (vec r p - (vec r p).fdiv (vec h p) * vec h p).natAbs < m
            omega
        · have z : vec r p - (vec r p).fdiv (vec h p) * vec h p ≠ 0 := z
          show 0 < s * (vec r p - (vec r p).fdiv (vec h p) * vec h p)
          rcases hs with rfl | rfl
          · have := quo1 (vec r p) (vec h p) (by omega); omega
          · have := quo2 (vec r p) (vec h p) (by omega); omega
      obtain ⟨M', hM', hM2⟩ : ∃ M', (∀ q, q * m ≤ N + m → N + q * N ≤ M') ∧ M' * m ≤ 3 * (N * N) := by
        refine ⟨N + (N + m) / m * N, fun q hq => ?_, ?_⟩
        · have : q ≤ (N + m) / m := (Nat.le_div_iff_mul_le (by omega)).mpr hq
          exact Nat.add_le_add_left (Nat.mul_le_mul_right N this) N
        · have a1 : (N + m) / m * m ≤ N + m := Nat.div_mul_le_self _ m
          have a2 : N * m ≤ N * N := Nat.mul_le_mul_left N mN
          have a3 : (N + m) / m * m * N ≤ (N + N) * N := Nat.mul_le_mul_right N (by omega)
          have a4 : (N + m) / m * N * m = (N + m) / m * m * N := by rw [Nat.mul_assoc, Nat.mul_comm N m, ← Nat.mul_assoc]
          have a5 : (N + N) * N = N * N + N * N := Nat.add_mul N N N
          rw [Nat.add_mul]; omega
      have hNM : N ≤ M' := by have := hM' 0 (by omega); omega
      have N2 : N * N ≤ N ^ 6 := by have := (pw 2 (by decide) (by decide)).2; rwa [Nat.pow_two] at this
      have M3 : M' ≤ 3 * N ^ 6 := by
        have : M' ≤ M' * m := Nat.le_mul_of_pos_right M' (by omega)
        omega
      have rb : ∀ r ∈ t, BdR M' (redR p h r) := fun r hr => (red_bd (W := W) (ht r hr) (hb r (tS r hr)) (hb h hS) (Nat.le_refl _)).mono (hM' _ (qs r hr).2.2)
      have ok : ∀ r ∈ t, RedOk p h r := fun r hr => redOk_of h0 (hb h hS) (by omega) (by
        have a1 := (qs r hr).2.2
        have a2 := hM' _ a1
        have a3 : (quoR p h r).natAbs * 1 ≤ (quoR p h r).natAbs * N := Nat.mul_le_mul_left _ hN
        omega)
      have hN' : h ∈ (turnR p (h :: t)).filter (nzR p) := List.mem_filter.mpr ⟨List.mem_cons_self, decide_eq_true h0⟩
      have memS1 : ∀ r ∈ (turnR p (h :: t)).filter (nzR p), r = h ∨ ∃ r0 ∈ t, r = redR p h r0 ∧ vec r p ≠ 0 := fun r hr => by
        obtain ⟨h1, h2⟩ := List.mem_filter.mp hr
        rcases List.mem_cons.mp h1 with rfl | h1
        · exact .inl rfl
        · obtain ⟨r0, q0, rfl⟩ := List.mem_map.mp h1
          exact .inr ⟨r0, q0, rfl, of_decide_eq_true h2⟩
      obtain ⟨n, S', R', q1, q2, q3, q4⟩ := loop2 (p := p) (W := W) s hs (Ψ := 3 * N ^ 6) (by omega) _ ((turnR p (h :: t)).filter (nzR p)) (R ++ (turnR p (h :: t)).filter (zzR p)) M' m wt.turn.filter (Nat.le_refl _) m1 M3 (by omega) (fun r hr => by
          rcases memS1 r hr with rfl | ⟨r0, q0, rfl, _⟩
          · exact (hb _ hS).mono hNM
          · exact rb r0 q0) (fun r hr => by
          rcases memS1 r hr with rfl | ⟨r0, q0, rfl, z⟩
          · exact hsh
          · exact (qs r0 q0).2.1 z) (fun r hr => by
          rcases memS1 r hr with rfl | ⟨r0, q0, rfl, _⟩
          · omega
          · exact Nat.le_of_lt (qs r0 q0).1) (fun _ => ⟨h, hN', hm⟩) (fun m' ⟨r, hr1, hr2⟩ hm' => by
          have c1 : m' ≤ m := by have := hm' h hN'; omega
          have c2 : M' * m ^ 4 * m' = (M' * m) * (m * m * m * m') := by
            rw [show m ^ 4 = m * m * m * m by simp [Nat.pow_succ]]
            simp only [Nat.mul_assoc, Nat.mul_comm, Nat.mul_left_comm]
          have c3 : m * m * m * m' ≤ N * N * N * N := Nat.mul_le_mul (Nat.mul_le_mul (Nat.mul_le_mul mN mN) mN) (by omega)
          have c4 : (M' * m) * (m * m * m * m') ≤ 3 * (N * N) * (N * N * N * N) := Nat.mul_le_mul hM2 c3
          have c5 : 3 * (N * N) * (N * N * N * N) = 3 * N ^ 6 := by
            rw [show N ^ 6 = N * N * N * N * N * N by simp [Nat.pow_succ]]
            simp only [Nat.mul_assoc]
          omega)
      refine ⟨n + 1, S', R', .turn (by omega) e ok q1, q2, q3, fun r hr => ?_⟩
      rcases q4 r hr with q | q
      · rcases List.mem_append.mp q with q | q
        · exact .inl q
        · right
          obtain ⟨h1, h2⟩ := List.mem_filter.mp q
          rcases List.mem_cons.mp h1 with rfl | h1
          · exact absurd (of_decide_eq_true h2) h0
          · obtain ⟨r0, q0, rfl⟩ := List.mem_map.mp h1
            exact (rb r0 q0).mono (by omega)
      · exact .inr (by rw [show 6 * N ^ 6 = 2 * (3 * N ^ 6) by omega]; exact q)
/-- stairs: leads go right, are positive, stand before p -/
inductive Ech (p : Nat) : Nat → List (List Int) → Prop
  | nil {lo} : Ech p lo []
  | cons {lo l f rest} : lo ≤ l → l < p → (∀ i, i < l → vec f i = 0) → 0 < vec f l → Ech p (l + 1) rest → Ech p lo (f :: rest)
theorem Ech.zero {p lo : Nat} {F : List (List Int)} (h : Ech p lo F) : ∀ f ∈ F, ∀ i, i < lo → vec f i = 0 := by
  induction h with
  | nil => exact fun f hf => nomatch hf
  | cons h1 h2 h3 h4 _ ih =>
    intro f hf i hi
    rcases List.mem_cons.mp hf with rfl | hf
    · exact h3 i (by omega)
    · exact ih f hf i (by omega)
theorem Ech.skip {p lo : Nat} {F : List (List Int)} (h : Ech p lo F) : Ech (p + 1) lo F := by
  induction h with
  | nil => exact .nil
  | cons h1 h2 h3 h4 _ ih => exact .cons h1 (by omega) h3 h4 ih
theorem Ech.take {p lo W : Nat} {F : List (List Int)} {h : List Int} (E : Ech p lo F) (wF : Wd W F) (hh : h.length = W) (hz : ∀ i, i < p → vec h i = 0) (hp : 0 < vec h p) (hlo : lo ≤ p) : Ech (p + 1) lo (F.map (redR p h) ++ [h]) := by
  induction E with
  | nil => exact .cons hlo (Nat.lt_succ_self p) hz hp .nil
  | @cons lo l f rest h1 h2 h3 h4 _ ih =>
    have e : f.length = h.length := by rw [hh]; exact wF f List.mem_cons_self
    refine .cons h1 (by omega) (fun i hi => ?_) ?_ (ih (fun r hr => wF r (List.mem_cons_of_mem _ hr)) (by omega))
    · rw [vec_red e, h3 i hi, hz i (by omega)]; simp
    · rw [vec_red e, hz l h2]; simpa using h4
theorem Loop.zeros {p n j : Nat} {S R S' R' : List (List Int)} (h : Loop p n S R S' R') : (∀ r ∈ S, vec r j = 0) → (∀ r ∈ R, vec r j = 0) → ∀ {W : Nat}, Wd W S → (∀ r ∈ S', vec r j = 0) ∧ ∀ r ∈ R', vec r j = 0 := by
  induction h with
  | done _ => exact fun a b _ _ => ⟨a, b⟩
  | @turn n S R S' R' h t _ e _ _ ih =>
    intro a b W w
    have ws := w.sort (p := p)
    have pm : ∀ x, x ∈ h :: t → x ∈ S := fun x hx => (sortR_perm p S).mem_iff.mp (by rw [e]; exact hx)
    rw [e] at ws
    have tz : ∀ r ∈ turnR p (h :: t), vec r j = 0 := fun r hr => by
      rcases List.mem_cons.mp hr with rfl | hr
      · exact a _ (pm _ List.mem_cons_self)
      · obtain ⟨r0, q0, rfl⟩ := List.mem_map.mp hr
        rw [vec_red (by rw [ws h List.mem_cons_self, ws r0 (List.mem_cons_of_mem _ q0)]), a _ (pm _ (List.mem_cons_of_mem _ q0)), a _ (pm _ List.mem_cons_self)]; simp
    exact ih (fun r hr => tz r (List.mem_filter.mp hr).1) (fun r hr => (List.mem_append.mp hr).elim (b r) fun q => tz r (List.mem_filter.mp q).1) ws.turn.filter
theorem Loop.at {p n : Nat} {S R S' R' : List (List Int)} (h : Loop p n S R S' R') : (∀ r ∈ S, vec r p ≠ 0) → (∀ r ∈ R, vec r p = 0) → (∀ r ∈ S', vec r p ≠ 0) ∧ ∀ r ∈ R', vec r p = 0 := by
  induction h with
  | done _ => exact fun a b => ⟨a, b⟩
  | turn _ e _ _ ih =>
    intro a b
    exact ih (fun r hr => of_decide_eq_true (List.mem_filter.mp hr).2) fun r hr => (List.mem_append.mp hr).elim (b r) fun q => of_decide_eq_true (List.mem_filter.mp q).2
theorem pls_ex {W : Nat} : ∀ (c p N : Nat) (F L : List (List Int)), 16 ≤ N → N ^ (8 ^ c) < 2 ^ 8990 → Wd W F → Wd W L → (∀ r ∈ F, BdR N r) → (∀ r ∈ L, BdR N r) → Ech p 0 F → (∀ r ∈ L, ∀ i, i < p → vec r i = 0) →
    ∃ F' L', Pls (List.range' p c) F L F' L' ∧ Ech (p + c) 0 F' ∧ (∀ r ∈ L', ∀ i, i < p + c → vec r i = 0) ∧ (∀ r ∈ F', BdR (N ^ (8 ^ c)) r)
  | 0, p, N, F, L, _, _, _, _, bF, _, E, Z => ⟨F, L, .nil, E, Z, fun r hr => (bF r hr).mono (by simp)⟩
  | c + 1, p, N, F, L, hN, hB, wF, wL, bF, bL, E, Z => by
    have N1 : 1 ≤ N := by omega
    have e8 : N ^ (8 ^ (c + 1)) = (N ^ 8) ^ (8 ^ c) := by rw [← Nat.pow_mul, Nat.pow_succ, Nat.mul_comm]
    have N8 : N ^ 8 ≤ N ^ (8 ^ (c + 1)) := by rw [e8]; exact Nat.le_self_pow (Nat.pos_iff_ne_zero.mp (Nat.pow_pos (by decide))) _
    have b1 : 16 * N ^ 7 ≤ N ^ 8 := by rw [Nat.pow_succ N 7, Nat.mul_comm]; exact Nat.mul_le_mul_left _ hN
    have b2 : N ^ 6 ≤ N ^ 7 := Nat.pow_le_pow_right N1 (by decide)
    have b3 : N ≤ N ^ 7 := Nat.le_self_pow (by decide) N
    have b4 : N * (3 * N ^ 6) = 3 * N ^ 7 := by rw [Nat.pow_succ N 6]; simp only [Nat.mul_assoc, Nat.mul_comm, Nat.mul_left_comm]
    have big : (2 : Nat) ^ 8990 < 2 ^ 8999 := Nat.pow_lt_pow_right (by decide) (by decide)
    obtain ⟨n, S', R', q1, q2, q3, q4⟩ := loop1 (p := p) (W := W) (N := N) (S := L.filter (nzR p)) (R := L.filter (zzR p)) N1 (by omega) wL.filter (fun r hr => bL r (List.mem_filter.mp hr).1) (fun r hr => of_decide_eq_true (List.mem_filter.mp hr).2)
    obtain ⟨a1, a2⟩ := q1.at (fun r hr => of_decide_eq_true (List.mem_filter.mp hr).2) fun r hr => of_decide_eq_true (List.mem_filter.mp hr).2
    have zs := fun i hi => q1.zeros (j := i) (fun r hr => Z r (List.mem_filter.mp hr).1 i hi) (fun r hr => Z r (List.mem_filter.mp hr).1 i hi) wL.filter
    obtain ⟨wS', wR'⟩ := q1.wd wL.filter wL.filter
    have bR : ∀ r ∈ R', BdR (N ^ 8) r := fun r hr => by
      rcases q4 r hr with q | q
      · exact (bL r (List.mem_filter.mp q).1).mono (by omega)
      · exact q.mono (by omega)
    have zR : ∀ r ∈ R', ∀ i, i < p + 1 → vec r i = 0 := fun r hr i hi => by
      by_cases q : i = p
      · rw [q]; exact a2 r hr
      · exact (zs i (by omega)).2 r hr
    rw [List.range'_succ, e8, show p + (c + 1) = p + 1 + c by omega]
    rw [e8] at hB
    match S', q2, q1, q3, a1, zs, wS' with
    | [], _, q1, q3, a1, zs, wS' =>
      obtain ⟨F', L', r1, r2, r3, r4⟩ := pls_ex c (p + 1) (N ^ 8) F R' (by omega) hB wF wR' (fun r hr => (bF r hr).mono (by omega)) bR E.skip zR
      exact ⟨F', L', .skip q1 r1, r2, r3, r4⟩
    | [h], _, q1, q3, a1, zs, wS' =>
      have h0 := a1 h List.mem_cons_self
      have hl : (posR p h).length = W := by rw [posR_length]; exact wS' h List.mem_cons_self
      have hb : BdR (3 * N ^ 6) (posR p h) := fun i => by
        have := q3 h List.mem_cons_self i
        unfold posR; split
        · exact this
        · rw [vec_scal]; omega
      have hpos : 0 < vec (posR p h) p := by
        unfold posR
        split
        · assumption
        · rename_i hh
          have hh : ¬ 0 < vec h p := hh
          rw [vec_scal]; omega
      have hz : ∀ i, i < p → vec (posR p h) i = 0 := fun i hi => by
        have := (zs i hi).1 h List.mem_cons_self
        unfold posR; split
        · exact this
        · rw [vec_scal, this]; rfl
      have qb : ∀ r ∈ F, (quoR p (posR p h) r).natAbs ≤ N + 1 := fun r hr => by
        have a1 := quo_abs (vec r p) (vec (posR p h) p) (by omega)
        have a2 := bF r hr p
        have e : quoR p (posR p h) r = (vec r p).fdiv (vec (posR p h) p) := rfl
        rw [e]
        obtain ⟨x, hx⟩ : ∃ x, ((vec r p).fdiv (vec (posR p h) p)).natAbs = x := ⟨_, rfl⟩
        obtain ⟨y, hy⟩ : ∃ y, (vec (posR p h) p).natAbs = y := ⟨_, rfl⟩
        rw [hx, hy] at a1
        rw [hx]
        rcases Nat.lt_or_ge (N + 1) x with l | l
        · exfalso
          have : (N + 2) * y ≤ x * y := Nat.mul_le_mul_right y l
          have e2 : (N + 2) * y = N * y + 2 * y := Nat.add_mul N 2 y
          have e3 : N * 1 ≤ N * y := Nat.mul_le_mul_left N (by omega)
          omega
        · exact l
      have ok : ∀ r ∈ F, RedOk p (posR p h) r := fun r hr => redOk_of (by omega) hb (by omega) (by have := qb r hr; omega)
      have bF' : ∀ r ∈ F.map (redR p (posR p h)) ++ [posR p h], BdR (N ^ 8) r := fun r hr => by
        rcases List.mem_append.mp hr with q | q
        · obtain ⟨r0, h0, rfl⟩ := List.mem_map.mp q
          refine fun i => ?_
          rw [vec_red (by rw [wF r0 h0, hl])]
          refine Nat.le_trans (Int.natAbs_sub_le _ _) ?_
          rw [Int.natAbs_mul]
          have c1 := bF r0 h0 i
          have c2 : (quoR p (posR p h) r0).natAbs * (vec (posR p h) i).natAbs ≤ (N + 1) * (3 * N ^ 6) := Nat.mul_le_mul (qb r0 h0) (hb i)
          rw [Nat.add_mul, Nat.one_mul, b4] at c2
          omega
        · rw [List.mem_singleton.mp q]; exact hb.mono (by omega)
      obtain ⟨F', L', r1, r2, r3, r4⟩ := pls_ex c (p + 1) (N ^ 8) _ R' (by omega) hB ((wF.red hl).app fun r hr => by rw [List.mem_singleton.mp hr]; exact hl) wR' bF' bR (E.take wF hl hz hpos (Nat.zero_le p)) zR
      exact ⟨F', L', .take q1 ok r1, r2, r3, r4⟩
    | a :: b :: t, q2, _, _, _, _, _ => exact absurd q2 (by simp)
end Wk

set_option Elab.async false
set_option linter.all false
set_option maxRecDepth 100000
set_option maxHeartbeats 1000000
namespace Wk
open PySem PySem.Spec PyProof.Rows
theorem lead_at : ∀ (r : List Int) (k l : Nat), (∀ i, i < l → vec r i = 0) → vec r l ≠ 0 → (((r.zipIdx k).filter fun p => decide (p.1 ≠ 0)).map (·.2))[0]? = some (k + l)
  | [], k, l, _, h => absurd (vec_nil l) h
  | a :: r, k, 0, _, h => by
    have h : a ≠ 0 := h
    rw [List.zipIdx_cons, List.filter_cons_of_pos (by simpa using h)]; rfl
  | a :: r, k, l + 1, h0, h => by
    have ha : a = 0 := h0 0 (by omega)
    rw [List.zipIdx_cons, List.filter_cons_of_neg (by simp [ha])]
    rw [lead_at r (k + 1) l (fun i hi => by rw [← vec_consS a]; exact h0 (i + 1) (by omega)) (by rw [← vec_consS a]; exact h)]
    congr 1; omega
theorem Ech.len {p lo : Nat} {F : List (List Int)} (h : Ech p lo F) : lo ≤ p → lo + F.length ≤ p := by
  induction h with
  | nil => exact fun h => h
  | cons h1 h2 _ _ _ ih => intro _; have := ih (by omega); rw [List.length_cons]; omega
theorem inl_cons {f : List Int} {G : List (List Int)} {v : Vc} (h : InL (f :: G) v) : ∃ c u, InL G u ∧ ∀ i, v i = u i + c * vec f i := by
  induction h with
  | zero => exact ⟨0, _, .zero, fun i => by simp⟩
  | add q _ hr ih =>
    obtain ⟨c, u, hu, e⟩ := ih
    rcases List.mem_cons.mp hr with rfl | hr
    · exact ⟨c + q, u, hu, fun i => by dsimp only; rw [e, Int.add_mul]; omega⟩
    · exact ⟨c, _, hu.add q hr, fun i => by dsimp only; rw [e]; omega⟩
theorem inl_nil {v : Vc} (h : InL [] v) : ∀ i, v i = 0 := by
  cases h with
  | zero => exact fun _ => rfl
  | add _ _ hr => cases hr
theorem inl_zero {G : List (List Int)} {v : Vc} {n : Nat} (hv : InL G v) (h : ∀ g ∈ G, ∀ i, i < n → vec g i = 0) : ∀ i, i < n → v i = 0 := by
  induction hv with
  | zero => exact fun _ _ => rfl
  | add q _ hr ih => intro i hi; dsimp only; rw [ih i hi, h _ hr i hi]; simp
theorem addedM_len2 {q : Int} {M D : List Int} {many : Nat} (h1 : M.length = many) (h2 : D.length = many) : (addedM [1, q] [M, D] many).length = many := addedM_length fun r hr => by
  simp only [List.mem_cons, List.not_mem_nil, or_false] at hr
  rcases hr with rfl | rfl <;> assumption
def Made (G : List (List Int)) (n : Nat) (x : List Int) : Prop := ∃ v, InL G v ∧ ∀ i, i < n → v i = vec x i
theorem tms_ex {long many N : Nat} (hm : many ≤ 900) (hN : N < 2 ^ 8990) : ∀ (F : List (List Int)) (lo : Nat) (M x : List Int) (X : Nat), Ech long lo F → Wd (long + many) F → (∀ f ∈ F, BdR N f) → M.length = many → x.length = long → BdR X x → (X + 1) * (N + 1) ^ F.length < 2 ^ 8990 →
    ∃ res, Tms long many F M x res ∧ ((tmsR long res).isSome = true ↔ Made F long x)
  | [], lo, M, x, X, _, _, _, _, hx, _, _ => ⟨_, .nil, by
    have e : (x = zerR long) ↔ ∀ i, i < long → vec x i = 0 := ⟨fun h i _ => by rw [h, vec_zerR], fun h => vec_ext (by rw [hx, zerR_length]) fun i hi => by rw [h i (by omega), vec_zerR]⟩
    unfold tmsR
    by_cases q : x = zerR long
    · simp only [q, ↓reduceIte, Option.isSome_some, true_iff]
      exact ⟨_, .zero, fun i hi => by rw [vec_zerR]⟩
    · simp only [q, ↓reduceIte, Option.isSome_none, Bool.false_eq_true, false_iff]
      rintro ⟨v, hv, e2⟩
      exact q (e.mpr fun i hi => by rw [← e2 i hi]; exact inl_nil hv i)⟩
  | f :: rest, lo, M, x, X, .cons (l := l) h1 h2 h3 h4 h5, wF, bF, hM, hx, bx, hX => by
    have hf : f.length = long + many := wF f List.mem_cons_self
    have ld : leadR f = some l := by
      have := lead_at f 0 l h3 (by omega)
      rw [Nat.zero_add] at this; exact this
    have big : (2 : Nat) ^ 8990 < 2 ^ 8999 := Nat.pow_lt_pow_right (by decide) (by decide)
    have dv : DL.CDivB (x.getD l 0) (f.getD l 0) := div_big (show vec f l ≠ 0 by omega) (Nat.lt_of_le_of_lt (bF f List.mem_cons_self l) (by omega))
    have rz := h5.zero
    have rem := Int.fmod_def (vec x l) (vec f l)
    by_cases hr : (vec x l).fmod (vec f l) = 0
    · have eT : (f.take long).length = long := by rw [List.length_take, hf]; omega
      have eD : (f.drop long).length = many := by rw [List.length_drop, hf]; omega
      have q1 : (quoR l f x).natAbs ≤ X + 1 := by
        have a1 := quo_abs (vec x l) (vec f l) (by omega)
        have a2 := bx l
        have e : quoR l f x = (vec x l).fdiv (vec f l) := rfl
        rw [e]
        obtain ⟨u, hu⟩ : ∃ u, ((vec x l).fdiv (vec f l)).natAbs = u := ⟨_, rfl⟩
        obtain ⟨y, hy⟩ : ∃ y, (vec f l).natAbs = y := ⟨_, rfl⟩
        rw [hu, hy] at a1
        rw [hu]
        rcases Nat.lt_or_ge (X + 1) u with z | z
        · exfalso
          have : (X + 2) * y ≤ u * y := Nat.mul_le_mul_right y z
          have e2 : (X + 2) * y = X * y + 2 * y := Nat.add_mul X 2 y
          have e3 : X * 1 ≤ X * y := Nat.mul_le_mul_left X (by omega)
          omega
        · exact z
      have X1 : X + 1 < 2 ^ 8990 := by
        have : (X + 1) * 1 ≤ (X + 1) * (N + 1) ^ (f :: rest).length := Nat.mul_le_mul_left _ (Nat.pow_pos (by omega))
        omega
      have ev : ∀ i, i < long → vec (subR x (scal (f.take long) (quoR l f x))) i = vec x i - quoR l f x * vec f i := fun i hi => by rw [vec_sub (by rw [hx, eT]), vec_take hi]
      obtain ⟨res, t1, t2⟩ := tms_ex hm hN rest (l + 1) (addedM [1, quoR l f x] [M, f.drop long] many) (subR x (scal (f.take long) (quoR l f x))) ((X + 1) * (N + 1) - 1) h5 (fun r hr => wF r (List.mem_cons_of_mem _ hr)) (fun r hr => bF r (List.mem_cons_of_mem _ hr)) (addedM_len2 hM eD) (by rw [subR_length, scal_length, hx, eT, Nat.min_self]) (fun i => by
          by_cases hi : i < long
          · rw [ev i hi]
            refine Nat.le_trans (Int.natAbs_sub_le _ _) ?_
            rw [Int.natAbs_mul]
            have c1 := bx i
            have c2 : (quoR l f x).natAbs * (vec f i).natAbs ≤ (X + 1) * N := Nat.mul_le_mul q1 (bF f List.mem_cons_self i)
            have c3 : (X + 1) * (N + 1) = (X + 1) * N + (X + 1) := Nat.mul_succ _ _
            omega
          · rw [vec_out (by rw [subR_length, scal_length, hx, eT, Nat.min_self]; omega)]; simp) (by
          have : (X + 1) * (N + 1) - 1 + 1 = (X + 1) * (N + 1) := Nat.sub_add_cancel (Nat.mul_pos (by omega) (by omega))
          rw [this, Nat.mul_assoc, Nat.mul_comm (N + 1), ← Nat.pow_succ]
          exact hX)
      refine ⟨res, .go ld h2 dv hr (fun y hy => ?_) (fun p hp => ?_) t1, t2.trans ⟨?_, ?_⟩⟩
      · obtain ⟨i, _, rfl⟩ := vec_mem (List.mem_of_mem_take hy)
        exact mul_big (Nat.lt_of_le_of_lt (bF f List.mem_cons_self i) (by omega)) (by omega)
      · simp only [List.zip_cons_cons, List.zip_nil_right, List.mem_cons, List.not_mem_nil, or_false] at hp
        rcases hp with rfl | rfl
        · exact ⟨by show M.length ≤ 1000; omega, fun y _ => .of_right (show Builtin.Int.intBits (1 : Int) ≤ 64 by decide)⟩
        · refine ⟨by show (f.drop long).length ≤ 1000; omega, fun y hy => ?_⟩
          obtain ⟨i, _, rfl⟩ := vec_mem (List.mem_of_mem_drop hy)
          exact mul_big (Nat.lt_of_le_of_lt (bF f List.mem_cons_self i) (by omega)) (by show (quoR l f x).natAbs < _; omega)
      · rintro ⟨v, hv, e⟩
        refine ⟨_, (hv.mono (.of_sub fun _ h => List.mem_cons_of_mem _ h)).add (quoR l f x) (List.mem_cons_self (a := f)), fun i hi => ?_⟩
        rw [e i hi, ev i hi]; omega
      · rintro ⟨v, hv, e⟩
        obtain ⟨c, u, hu, eu⟩ := inl_cons hv
        have uz := inl_zero hu rz l (Nat.lt_succ_self l)
        have e1 := e l h2
        rw [eu l, uz] at e1
        have ec : c = quoR l f x := by
          have e2 : vec f l * (vec x l).fdiv (vec f l) = vec f l * c := by rw [hr] at rem; rw [Int.mul_comm (vec f l) c]; omega
          exact (Int.eq_of_mul_eq_mul_left (by omega) e2).symm
        refine ⟨u, hu, fun i hi => ?_⟩
        rw [ev i hi, ← e i hi, eu i, ec]; omega
    · refine ⟨none, .no ld h2 dv hr, ?_⟩
      simp only [tmsR, Option.isSome_none, Bool.false_eq_true, false_iff]
      rintro ⟨v, hv, e⟩
      obtain ⟨c, u, hu, eu⟩ := inl_cons hv
      have uz := inl_zero hu rz l (Nat.lt_succ_self l)
      have e1 := e l h2
      rw [eu l, uz] at e1
      refine hr ?_
      rw [← e1, Int.zero_add, Int.mul_fmod_left]
theorem ext_to {rows : List (List Int)} {m long : Nat} (w : Wd long rows) {v : Vc} (h : InL (extR rows m) v) : ∃ u, InL rows u ∧ ∀ i, i < long → u i = v i := by
  induction h with
  | zero => exact ⟨_, .zero, fun _ _ => rfl⟩
  | add q _ hr ih =>
    obtain ⟨u, hu, e⟩ := ih
    obtain ⟨p, hp, rfl⟩ := List.mem_map.mp hr
    have hz := (List.of_mem_zip (show (p.1, p.2) ∈ _ from hp)).1
    exact ⟨_, hu.add q hz, fun i hi => by dsimp only; rw [e i hi, vec_app (by rw [w _ hz]; exact hi)]⟩
theorem to_ext {rows : List (List Int)} {long : Nat} (w : Wd long rows) {v : Vc} (h : InL rows v) : ∃ u, InL (extR rows rows.length) u ∧ ∀ i, i < long → u i = v i := by
  induction h with
  | zero => exact ⟨_, .zero, fun _ _ => rfl⟩
  | add q _ hr ih =>
    rename_i v r _
    obtain ⟨u, hu, e⟩ := ih
    obtain ⟨i, hi, er⟩ := List.getElem_of_mem hr
    have hu' : i < (unitsM rows.length).length := by rw [unitsM_length]; exact hi
    have hz : (rows[i], (unitsM rows.length)[i]) ∈ rows.zip (unitsM rows.length) := by
      rw [← List.getElem_zip (i := i) (h := by rw [List.length_zip, unitsM_length]; omega)]
      exact List.getElem_mem _
    refine ⟨_, hu.add q (List.mem_map.mpr ⟨_, hz, rfl⟩), fun j hj => ?_⟩
    rw [e j hj, vec_app (by rw [er, w _ hr]; exact hj), er]
theorem times_iff {rows : List (List Int)} {row : List Int} (h1 : row.length ≤ 3) (h2 : rows.length ≤ 900) (w : Wd row.length rows) (hb : ∀ r ∈ rows, BdR 16 r) (hx : BdR (2 ^ 20) row) : ∃ res, TimesR rows row res ∧ (res.isSome = true ↔ Made rows row.length row) := by
  have wE := extR_wd w
  have bE : ∀ r ∈ extR rows rows.length, BdR 16 r := fun r hr => by
    obtain ⟨p, hp, rfl⟩ := List.mem_map.mp hr
    obtain ⟨z1, z2⟩ := List.of_mem_zip (show (p.1, p.2) ∈ _ from hp)
    intro i
    by_cases hi : i < p.1.length
    · rw [vec_app hi]; exact hb _ z1 i
    · have : vec (p.1 ++ p.2) i = vec p.2 (i - p.1.length) := by
        unfold vec
        rw [List.getD_eq_getElem?_getD, List.getD_eq_getElem?_getD, List.getElem?_append_right (by omega)]
      rw [this]
      by_cases hj : i - p.1.length < p.2.length
      · obtain ⟨j, _, e⟩ := List.mem_map.mp z2
        have : vec p.2 (i - p.1.length) ∈ p.2 := getD_mem hj
        rw [← e] at this ⊢
        rcases oneAt_mem this with q | q <;> rw [q] <;> decide
      · rw [vec_out (by omega)]; decide
  have c8 : 16 ^ (8 ^ row.length) ≤ 2 ^ 2048 := by
    calc 16 ^ (8 ^ row.length) ≤ 16 ^ (8 ^ 3) := Nat.pow_le_pow_right (by decide) (Nat.pow_le_pow_right (by decide) h1)
      _ = 2 ^ 2048 := by rw [show (16 : Nat) = 2 ^ 4 from rfl, ← Nat.pow_mul]
  have b1 : (2 : Nat) ^ 2048 < 2 ^ 8990 := Nat.pow_lt_pow_right (by decide) (by decide)
  obtain ⟨F, L, q1, q2, q3, q4⟩ := pls_ex (W := row.length + rows.length) row.length 0 16 [] (extR rows rows.length) (by decide) (by omega) (fun r hr => nomatch hr) wE (fun r hr => nomatch hr) bE .nil (fun r _ i hi => by omega)
  rw [Nat.zero_add] at q2 q3
  have q4 : ∀ f ∈ F, BdR (2 ^ 2048) f := fun f hf => (q4 f hf).mono c8
  obtain ⟨wF, wL⟩ := q1.wd (W := row.length + rows.length) (fun r hr => nomatch hr) wE
  obtain ⟨s1, s2⟩ := q1.span (W := row.length + rows.length) (fun r hr => nomatch hr) wE
  have fl := q2.len (Nat.zero_le _)
  obtain ⟨res, t1, t2⟩ := tms_ex (long := row.length) (many := rows.length) (N := 2 ^ 2048) h2 b1 F 0 (zerR rows.length) row (2 ^ 20) q2 wF q4 (zerR_length _) rfl hx (by
    have a1 : ((2 : Nat) ^ 2048 + 1) ≤ 2 ^ 2049 := by
      rw [Nat.pow_succ 2 2048]
      have := Nat.one_le_two_pow (n := 2048)
      omega
    have a2 : ((2 : Nat) ^ 2048 + 1) ^ F.length ≤ (2 ^ 2049) ^ 3 := Nat.le_trans (Nat.pow_le_pow_left a1 _) (Nat.pow_le_pow_right (Nat.pow_pos (by decide)) (by omega))
    have a3 : ((2 : Nat) ^ 20 + 1) * ((2 : Nat) ^ 2048 + 1) ^ F.length ≤ 2 ^ 21 * (2 ^ 2049) ^ 3 := Nat.mul_le_mul (by decide) a2
    have a4 : (2 : Nat) ^ 21 * (2 ^ 2049) ^ 3 = 2 ^ 6168 := by rw [← Nat.pow_mul, ← Nat.pow_add]
    have a5 : (2 : Nat) ^ 6168 < 2 ^ 8990 := Nat.pow_lt_pow_right (by decide) (by decide)
    omega)
  refine ⟨_, ⟨F, L, res, by rw [List.range_eq_range']; exact q1, t1, rfl⟩, t2.trans ⟨?_, ?_⟩⟩
  · rintro ⟨v, hv, e⟩
    have hv2 : InL (extR rows rows.length) v := (hv.mono (.of_sub fun x hx => List.mem_append_left L hx)).mono (Le.trans s2 (.of_sub fun x hx => by simpa using hx))
    obtain ⟨u, hu, e2⟩ := ext_to w hv2
    exact ⟨u, hu, fun i hi => by rw [e2 i hi, e i hi]⟩
  · rintro ⟨v, hv, e⟩
    obtain ⟨u, hu, e2⟩ := to_ext w hv
    have hv2 : InL (F ++ L) u := hu.mono (Le.trans (.of_sub fun x hx => by simpa using hx) s1)
    -- the rest is zero there
    have : ∀ {z : Vc}, InL (F ++ L) z → ∃ y, InL F y ∧ ∀ i, i < row.length → y i = z i := fun hz => by
      induction hz with
      | zero => exact ⟨_, .zero, fun _ _ => rfl⟩
      | add q _ hr ih =>
        obtain ⟨y, hy, ey⟩ := ih
        rcases List.mem_append.mp hr with hr | hr
        · exact ⟨_, hy.add q hr, fun i hi => by dsimp only; rw [ey i hi]⟩
        · exact ⟨y, hy, fun i hi => by dsimp only; rw [ey i hi, q3 _ hr i hi]; simp⟩
    obtain ⟨y, hy, ey⟩ := this hv2
    exact ⟨y, hy, fun i hi => by rw [ey i hi, e2 i hi, e i hi]⟩
end Wk

set_option Elab.async false
set_option linter.all false
set_option maxRecDepth 100000
set_option maxHeartbeats 1000000
namespace Wk
open PySem PySem.Spec PyProof.Rows
def sm : Nat → (Nat → Int) → Int
  | 0, _ => 0
  | k + 1, f => sm k f + f k
theorem sm_congr {f g : Nat → Int} : ∀ {k : Nat}, (∀ i, i < k → f i = g i) → sm k f = sm k g
  | 0, _ => rfl
  | k + 1, h => by rw [sm, sm, sm_congr fun i hi => h i (by omega), h k (by omega)]
theorem sm_add {f g : Nat → Int} : ∀ {k : Nat}, sm k (fun i => f i + g i) = sm k f + sm k g
  | 0 => rfl
  | k + 1 => by rw [sm, sm, sm, sm_add]; omega
theorem sm_sub {f g : Nat → Int} : ∀ {k : Nat}, sm k (fun i => f i - g i) = sm k f - sm k g
  | 0 => rfl
  | k + 1 => by rw [sm, sm, sm, sm_sub]; omega
theorem sm_mul {q : Int} {f : Nat → Int} : ∀ {k : Nat}, sm k (fun i => q * f i) = q * sm k f
  | 0 => by simp [sm]
  | k + 1 => by rw [sm, sm, sm_mul, Int.mul_add]
theorem sm_mulr {q : Int} {f : Nat → Int} {k : Nat} : sm k (fun i => f i * q) = sm k f * q := by
  rw [Int.mul_comm, ← sm_mul]; exact sm_congr fun i _ => Int.mul_comm _ _
theorem sm_zero {f : Nat → Int} : ∀ {k : Nat}, (∀ i, i < k → f i = 0) → sm k f = 0
  | 0, _ => rfl
  | k + 1, h => by rw [sm, sm_zero fun i hi => h i (by omega), h k (by omega)]; rfl
theorem sm_one {f : Nat → Int} : ∀ {k j : Nat}, j < k → (∀ i, i < k → i ≠ j → f i = 0) → sm k f = f j
  | k + 1, j, hj, h => by
    rw [sm]
    by_cases e : j = k
    · subst e; rw [sm_zero fun i hi => h i (by omega) (by omega)]; omega
    · rw [sm_one (by omega) fun i hi hn => h i (by omega) hn, h k (by omega) (fun z => e z.symm)]; omega
theorem sm_swap {f : Nat → Nat → Int} {k : Nat} : ∀ {m : Nat}, sm m (fun j => sm k fun i => f i j) = sm k fun i => sm m fun j => f i j
  | 0 => (sm_zero fun _ _ => rfl).symm
  | m + 1 => by rw [sm, sm_swap, ← sm_add]; rfl
theorem sm_cons {f : Nat → Int} : ∀ {k : Nat}, sm (k + 1) f = f 0 + sm k fun i => f (i + 1)
  | 0 => by simp [sm]
  | k + 1 => by rw [sm, sm_cons, sm]; omega
theorem dot_sm : ∀ {xs ys : List Int}, xs.length = ys.length → dotM xs ys = sm xs.length fun i => vec xs i * vec ys i
  | [], [], _ => rfl
  | a :: xs, b :: ys, e => by
    have ih := dot_sm (xs := xs) (ys := ys) (by simpa using e)
    rw [List.length_cons, sm_cons]
    show a * b + dotM xs ys = _
    rw [ih]
    refine congrArg (a * b + ·) (sm_congr fun i _ => ?_)
    rw [vec_consS, vec_consS]
theorem vec_oneAt {p : Int} {n i : Nat} (hi : i < n) : vec (oneAt p n) i = if (i : Int) = p then 1 else 0 := by
  unfold vec oneAt
  rw [List.getD_eq_getElem?_getD, List.getElem?_map, List.getElem?_range hi]; rfl
theorem vec_oneN {p n i : Nat} (hi : i < n) : vec (oneAt p n) i = if i = p then 1 else 0 := by
  rw [vec_oneAt hi]
  by_cases h : i = p
  · rw [if_pos h, if_pos (by omega)]
  · rw [if_neg h, if_neg (by omega)]
theorem vec_subR {r h : List Int} (e : r.length = h.length) (i : Nat) : vec (subR r h) i = vec r i - vec h i := by
  have := vec_sub (q := 1) e i
  have e1 : scal h 1 = h := by unfold scal; simp
  rw [e1, Int.one_mul] at this; exact this
theorem vec_set {f : List Int} {a : Nat} {x : Int} (ha : a < f.length) (u : Nat) : vec (f.set a x) u = if a = u then x else vec f u := by
  unfold vec
  rw [List.getD_eq_getElem?_getD, List.getD_eq_getElem?_getD]
  by_cases h : a = u
  · subst h; rw [List.getElem?_set_self ha, if_pos rfl]; rfl
  · rw [List.getElem?_set_ne h, if_neg h]
/-- a tie's ends, told by places -/
def dl (ties : Ties) (i u : Nat) : Int := (if (ties.getD i (0, 0)).2 = u then 1 else 0) - (if (ties.getD i (0, 0)).1 = u then 1 else 0)
theorem bord_step {f : List Int} {a t : Nat} {m : Int} (ha : a < f.length) (ht : t < f.length) (u : Nat) : vec (bordStep f ((a, t), m)) u = vec f u + m * ((if t = u then 1 else 0) - (if a = u then 1 else 0)) := by
  have e : bordStep f ((a, t), m) = (f.set a (vec f a - m)).set t (vec (f.set a (vec f a - m)) t + m) := rfl
  rw [e, vec_set (by simpa using ht), vec_set ha, vec_set ha]
  by_cases h1 : t = u <;> by_cases h2 : a = u
  · subst h1; simp [h2]
  · subst h1; simp [h2]
  · subst h2; simp [h1]; omega
  · simp [h1, h2]
theorem bord_fold {n : Nat} : ∀ (ties : Ties) (row f : List Int), f.length = n → Ends n ties → row.length = ties.length → ∀ u, vec ((ties.zip row).foldl bordStep f) u = vec f u + sm ties.length fun i => vec row i * dl ties i u
  | [], _, f, _, _, _, u => by simp [sm]
  | p :: ties, [], f, _, _, e, u => by simp at e
  | (a, t) :: ties, m :: row, f, hf, hE, e, u => by
    obtain ⟨h1, h2⟩ := hE _ List.mem_cons_self
    rw [List.zip_cons_cons, List.foldl_cons, bord_fold ties row _ (by rw [bordStep_length]; exact hf) (fun p hp => hE p (List.mem_cons_of_mem _ hp)) (by simpa using e), bord_step (by rw [hf]; exact h1) (by rw [hf]; exact h2), List.length_cons, sm_cons, Int.add_assoc]
    congr 1
theorem bord_vec {n : Nat} {ties : Ties} {row : List Int} (hE : Ends n ties) (e : row.length = ties.length) (u : Nat) : vec (bordM n ties row) u = sm ties.length fun i => vec row i * dl ties i u := by
  rw [bordM, bord_fold ties row _ (zerR_length n) hE e, vec_zerR]; omega
theorem bord_len {n : Nat} {ties : Ties} {row : List Int} : (bordM n ties row).length = n := by
  unfold bordM
  have : ∀ (l : List ((Nat × Nat) × Int)) (f : List Int), (l.foldl bordStep f).length = f.length := by
    intro l
    induction l with
    | nil => intro f; rfl
    | cons p l ih => intro f; rw [List.foldl_cons, ih, bordStep_length]
  rw [this, zerR_length]
theorem dl_sum {n : Nat} {ties : Ties} {i : Nat} (x : Nat → Int) (hE : Ends n ties) (hi : i < ties.length) : sm n (fun u => dl ties i u * x u) = x (ties.getD i (0, 0)).2 - x (ties.getD i (0, 0)).1 := by
  obtain ⟨h1, h2⟩ := hE (ties.getD i (0, 0)) (by rw [List.getD_eq_getElem?_getD, List.getElem?_eq_getElem hi]; exact List.getElem_mem hi)
  have e : ∀ u, dl ties i u * x u = (if (ties.getD i (0, 0)).2 = u then 1 else 0) * x u - (if (ties.getD i (0, 0)).1 = u then 1 else 0) * x u := fun u => by rw [dl, Int.sub_mul]
  rw [sm_congr fun u _ => e u, sm_sub, sm_one h2 (fun u _ hu => by rw [if_neg (fun z => hu z.symm)]; simp), sm_one h1 (fun u _ hu => by rw [if_neg (fun z => hu z.symm)]; simp)]
  simp
/-- what the look at a web says -/
structure Wb2 (n : Nat) (ties : Ties) : Prop where
  small : Small n ties
  wl : (waysM n ties).length = n
  ws : ∀ v, v < n → (waysM n ties).getD v none = some (wayAt n ties v)
  wk : ∀ v, v < n → (wayAt n ties v).length = ties.length
  wb : ∀ v, v < n → bordM n ties (wayAt n ties v) = subR (oneAt v n) (oneAt ((rootsM n ties).getD v 0 : Nat) n)
  lr : lawRings n ties = some (ringM n ties)
  rl : ∀ r ∈ ringM n ties, r.length = ties.length
  r1 : ∀ r ∈ ringM n ties, BdR 1 r
  ri : ((ringM n ties).map fun r => (otM n ties).map fun i => r.getD i 0) = unitsM (otM n ties).length
  rt : ∀ p ∈ ties, (rootsM n ties).getD p.1 0 = (rootsM n ties).getD p.2 0
  br : ∀ i ∈ brM n ties, subR (wayAt n ties (ties.getD i (0, 0)).2) (wayAt n ties (ties.getD i (0, 0)).1) = oneAt i ties.length
abbrev AllK : Prop := ∀ n ties, Small n ties → (chkWays n ties.length ties (rootsM n ties) (waysM n ties) && chkRings n ties (otM n ties) (ringM n ties) && chkRoots ties (rootsM n ties) && chkBr ties (brM n ties) (wayAt n ties)) = true
theorem smlRow_bd {b : Nat} {r : List Int} (h : smlRow b r = true) : BdR b r := fun i => by
  by_cases hi : i < r.length
  · have := List.all_eq_true.mp h _ (getD_mem hi)
    exact of_decide_eq_true this
  · rw [vec_out (by omega)]; exact Nat.zero_le b
theorem wb2_of (HK : AllK) {n : Nat} {ties : Ties} (sm : Small n ties) : Wb2 n ties := by
  have h := HK n ties sm
  simp only [Bool.and_eq_true] at h
  obtain ⟨⟨⟨h1, h2⟩, h3⟩, h4⟩ := h
  unfold chkWays at h1
  rw [Bool.and_eq_true] at h1
  have wl := of_decide_eq_true h1.1
  have wv : ∀ v, v < n → ∃ w, (waysM n ties).getD v none = some w ∧ w.length = ties.length ∧ bordM n ties w = subR (oneAt v n) (oneAt ((rootsM n ties).getD v 0 : Nat) n) := fun v hv => by
    have := List.all_eq_true.mp h1.2 v (List.mem_range.mpr hv)
    cases e : (waysM n ties).getD v none with
    | none => rw [e] at this; cases this
    | some w =>
      rw [e] at this
      simp only [Bool.and_eq_true] at this
      exact ⟨w, rfl, of_decide_eq_true this.1.1, of_decide_eq_true this.2⟩
  have we : ∀ v, v < n → (waysM n ties).getD v none = some (wayAt n ties v) := fun v hv => by
    obtain ⟨w, e, _⟩ := wv v hv
    rw [wayAt, e]; rfl
  unfold chkRings at h2
  simp only [Bool.and_eq_true] at h2
  obtain ⟨⟨r1, r2⟩, r3⟩ := h2
  have r2' : ∀ r ∈ ringM n ties, r.length = ties.length ∧ BdR 1 r := fun r hr => by
    have := List.all_eq_true.mp r2 r hr
    rw [Bool.and_eq_true] at this
    exact ⟨of_decide_eq_true this.1, smlRow_bd this.2⟩
  exact ⟨sm, wl, we, fun v hv => by
    obtain ⟨w, e, q, _⟩ := wv v hv
    rw [wayAt, e]; exact q, fun v hv => by
    obtain ⟨w, e, _, q⟩ := wv v hv
    rw [wayAt, e]; exact q, of_decide_eq_true r1, fun r hr => (r2' r hr).1, fun r hr => (r2' r hr).2, of_decide_eq_true r3, fun p hp => of_decide_eq_true (List.all_eq_true.mp h3 p hp), fun i hi => of_decide_eq_true (List.all_eq_true.mp h4 i hi)⟩
theorem allW_of (HK : AllK) : AllW := fun n ties sm => by
  have W := wb2_of HK sm
  obtain ⟨n1, n4, k3, he⟩ := sm
  exact ⟨⟨by omega, by omega, he, W.wl, W.ws, W.wk⟩, W.lr, W.rl⟩
end Wk

set_option Elab.async false
set_option linter.all false
set_option maxRecDepth 100000
set_option maxHeartbeats 1000000
namespace Wk
open PySem PySem.Spec PyProof.Rows
theorem rnd_dvd (x z : Int) : z ∣ roundM x z - x := by
  unfold roundM
  split
  · exact ⟨0, by omega⟩
  · exact ⟨-(x.fdiv z), by rw [Int.fmod_def, Int.mul_neg]; omega⟩
theorem rnd_zero (x z : Int) : roundM x z = 0 ↔ z ∣ x := by
  unfold roundM
  split
  · rename_i h; subst h; exact ⟨fun h => ⟨0, by omega⟩, fun ⟨c, e⟩ => by omega⟩
  · constructor
    · intro h
      have := Int.fmod_def x z
      exact ⟨x.fdiv z, by omega⟩
    · rintro ⟨c, rfl⟩
      exact Int.mul_fmod_right z c
theorem rnd_congr {x y z : Int} (h : z ∣ x - y) : roundM x z = roundM y z := by
  obtain ⟨c, e⟩ := h
  unfold roundM
  split
  · rename_i hz; subst hz; omega
  · rw [show x = y + z * c by omega, Int.add_mul_fmod_self_left]
theorem vec_onM {w : List Int} {i j : Nat} {m : Int} (hj : j < w.length) : vec (onM w i m) j = vec w j + if j = i then m else 0 := by
  unfold vec onM
  rw [List.getD_eq_getElem?_getD, List.getD_eq_getElem?_getD, List.getElem?_map, List.getElem?_zipIdx, List.getElem?_eq_getElem hj]
  show (if 0 + j = i then w[j] + m else w[j]) = w[j] + _
  rw [Nat.zero_add]
  split <;> omega
theorem vec_map {f : List Int → Int} {rows : List (List Int)} {i : Nat} (hi : i < rows.length) : vec (rows.map f) i = f (rows.getD i []) := by
  unfold vec
  rw [List.getD_eq_getElem?_getD, List.getD_eq_getElem?_getD, List.getElem?_map, List.getElem?_eq_getElem hi]; rfl
section
variable {n : Nat} {ties : Ties} (W : Wb2 n ties)
include W
theorem Wb2.far {i : Nat} (hi : i < ties.length) : (ties.getD i (0, 0)).1 < n ∧ (ties.getD i (0, 0)).2 < n := W.small.2.2.2 _ (by
  rw [List.getD_eq_getElem?_getD, List.getElem?_eq_getElem hi]; exact List.getElem_mem hi)
theorem Wb2.ring_vec {o : Nat} (ho : o < ties.length) {j : Nat} (hj : j < ties.length) : vec (ringOf n ties o) j = vec (wayAt n ties (ties.getD o (0, 0)).1) j - vec (wayAt n ties (ties.getD o (0, 0)).2) j + if j = o then 1 else 0 := by
  obtain ⟨f1, f2⟩ := W.far ho
  have l1 := W.wk _ f1
  have l2 := W.wk _ f2
  have la : (addedM [1, -1] [wayAt n ties (ties.getD o (0, 0)).1, wayAt n ties (ties.getD o (0, 0)).2] ties.length).length = ties.length := addedM_len2 l1 l2
  rw [ringOf, vec_onM (by rw [la]; exact hj)]
  congr 1
  show vec (addR (addR (zerR ties.length) (scal (wayAt n ties (ties.getD o (0, 0)).1) 1)) (scal (wayAt n ties (ties.getD o (0, 0)).2) (-1))) j = _
  rw [vec_addR (by rw [addR_length, scal_length, scal_length, zerR_length, l1, l2, Nat.min_self]), vec_addR (by rw [scal_length, zerR_length, l1]), vec_scal, vec_scal, vec_zerR, Int.one_mul, Int.neg_mul, Int.one_mul]
  omega
theorem Wb2.br_vec {i : Nat} (hi : i ∈ brM n ties) {j : Nat} (hj : j < ties.length) : vec (wayAt n ties (ties.getD i (0, 0)).2) j - vec (wayAt n ties (ties.getD i (0, 0)).1) j = if j = i then 1 else 0 := by
  obtain ⟨f1, f2⟩ := W.far (brM_lt i hi)
  rw [← vec_subR (by rw [W.wk _ f1, W.wk _ f2]), W.br i hi, vec_oneN hj]
theorem Wb2.ways_sum {v : Nat} (hv : v < n) (x : Nat → Int) : sm ties.length (fun j => vec (wayAt n ties v) j * (x (ties.getD j (0, 0)).2 - x (ties.getD j (0, 0)).1)) = x v - x ((rootsM n ties).getD v 0) := by
  have hE := W.small.2.2.2
  have hr : (rootsM n ties).getD v 0 < n := roots_lt W.small.1 _ (by rw [List.getD_eq_getElem?_getD, List.getElem?_eq_getElem (by rw [roots_length]; exact hv)]; exact List.getElem_mem _)
  have e1 : ∀ j, j < ties.length → vec (wayAt n ties v) j * (x (ties.getD j (0, 0)).2 - x (ties.getD j (0, 0)).1) = sm n fun u => vec (wayAt n ties v) j * dl ties j u * x u := fun j hj => by
    rw [← dl_sum x hE hj, ← sm_mul]
    exact sm_congr fun u _ => by rw [Int.mul_assoc]
  rw [sm_congr e1, sm_swap]
  have e2 : ∀ u, u < n → sm ties.length (fun j => vec (wayAt n ties v) j * dl ties j u * x u) = (if u = v then 1 else 0) * x u - (if u = (rootsM n ties).getD v 0 then 1 else 0) * x u := fun u hu => by
    rw [sm_mulr, ← bord_vec hE (W.wk v hv), W.wb v hv, vec_subR (by rw [oneAt_length, oneAt_length]), vec_oneN hu, vec_oneN hu, Int.sub_mul]
  rw [sm_congr e2, sm_sub, sm_one hv (fun u _ hu => by rw [if_neg hu]; simp), sm_one hr (fun u _ hu => by rw [if_neg hu]; simp)]
  simp
theorem Wb2.ring_bord {o : Nat} (ho : o < ties.length) {u : Nat} (hu : u < n) : sm ties.length (fun j => vec (ringOf n ties o) j * dl ties j u) = 0 := by
  have hE := W.small.2.2.2
  obtain ⟨f1, f2⟩ := W.far ho
  have e : ∀ j, j < ties.length → vec (ringOf n ties o) j * dl ties j u = (vec (wayAt n ties (ties.getD o (0, 0)).1) j * dl ties j u - vec (wayAt n ties (ties.getD o (0, 0)).2) j * dl ties j u) + (if j = o then 1 else 0) * dl ties j u := fun j hj => by
    rw [W.ring_vec ho hj, Int.add_mul, Int.sub_mul]
  have hr := W.rt (ties.getD o (0, 0)) (by rw [List.getD_eq_getElem?_getD, List.getElem?_eq_getElem ho]; exact List.getElem_mem ho)
  rw [sm_congr e, sm_add, sm_sub, ← bord_vec hE (W.wk _ f1), ← bord_vec hE (W.wk _ f2), W.wb _ f1, W.wb _ f2, sm_one ho (fun j _ hj => by rw [if_neg hj]; simp), vec_subR (by rw [oneAt_length, oneAt_length]), vec_subR (by rw [oneAt_length, oneAt_length]), vec_oneN hu, vec_oneN hu, vec_oneN hu, vec_oneN hu, hr]
  unfold dl
  simp only [if_true, Int.one_mul]
  have s1 : ∀ a b : Nat, (if a = b then (1 : Int) else 0) = if b = a then 1 else 0 := fun a b => by
    by_cases h : a = b
    · rw [if_pos h, if_pos h.symm]
    · rw [if_neg h, if_neg fun z => h z.symm]
  rw [s1 u (ties.getD o (0, 0)).1, s1 u (ties.getD o (0, 0)).2]
  omega
/-- the ties hold, or some ring does not -/
theorem Wb2.ties_rings {z : Int} (h : Nat → Int) : (∀ i, i < ties.length → z ∣ sm ties.length (fun j => vec (wayAt n ties (ties.getD i (0, 0)).2) j * h j) - sm ties.length (fun j => vec (wayAt n ties (ties.getD i (0, 0)).1) j * h j) - h i) ↔ ∀ o ∈ otM n ties, z ∣ sm ties.length fun j => vec (ringOf n ties o) j * h j := by
  have key : ∀ o, o < ties.length → sm ties.length (fun j => vec (wayAt n ties (ties.getD o (0, 0)).2) j * h j) - sm ties.length (fun j => vec (wayAt n ties (ties.getD o (0, 0)).1) j * h j) - h o = - sm ties.length fun j => vec (ringOf n ties o) j * h j := fun o ho => by
    have e : ∀ j, j < ties.length → vec (ringOf n ties o) j * h j = (vec (wayAt n ties (ties.getD o (0, 0)).1) j * h j - vec (wayAt n ties (ties.getD o (0, 0)).2) j * h j) + (if j = o then 1 else 0) * h j := fun j hj => by
      rw [W.ring_vec ho hj, Int.add_mul, Int.sub_mul]
    rw [sm_congr e, sm_add, sm_sub, sm_one (f := fun j => (if j = o then 1 else 0) * h j) ho (fun j _ hj => by rw [if_neg hj]; simp)]
    simp only [if_true, Int.one_mul]
    omega
  constructor
  · intro q o ho
    have := q o (otM_lt o ho)
    rw [key o (otM_lt o ho)] at this
    exact Int.dvd_neg.mp this
  · intro q i hi
    by_cases hb : i ∈ brM n ties
    · have e : ∀ j, j < ties.length → vec (wayAt n ties (ties.getD i (0, 0)).2) j * h j - vec (wayAt n ties (ties.getD i (0, 0)).1) j * h j = (if j = i then 1 else 0) * h j := fun j hj => by
        rw [← Int.sub_mul, W.br_vec hb hj]
      rw [← sm_sub, sm_congr e, sm_one hi (fun j _ hj => by rw [if_neg hj]; simp)]
      simp only [if_true, Int.one_mul]
      exact ⟨0, by omega⟩
    · have ho : i ∈ otM n ties := List.mem_filter.mpr ⟨List.mem_range.mpr hi, by simpa using hb⟩
      rw [key i hi]
      exact Int.dvd_neg.mpr (q i ho)
theorem Wb2.zero_iff {z : Int} {hs : List Int} (hl : hs.length = ties.length) : zeroB (ringM n ties) z hs = true ↔ ∀ o ∈ otM n ties, z ∣ sm ties.length fun j => vec (ringOf n ties o) j * vec hs j := by
  unfold zeroB ringM
  rw [List.all_map, List.all_eq_true]
  refine forall_congr' fun o => forall_congr' fun ho => ?_
  have rl : (ringOf n ties o).length = ties.length := W.rl _ (List.mem_map.mpr ⟨o, ho, rfl⟩)
  show decide (roundM (dotM (ringOf n ties o) hs) z = 0) = true ↔ _
  rw [decide_eq_true_iff, rnd_zero, dot_sm (by rw [rl, hl]), rl]
theorem Wb2.found_at {z : Int} {hs : List Int} {v : Nat} (hl : hs.length = ties.length) (hv : v < n) : (foundM n ties z hs).getD v 0 = roundM (sm ties.length fun j => vec (wayAt n ties v) j * vec hs j) z := by
  unfold foundM
  rw [List.getD_eq_getElem?_getD, List.getElem?_map, List.getElem?_range hv]
  show roundM (dotM (wayAt n ties v) hs) z = _
  rw [dot_sm (by rw [W.wk v hv, hl]), W.wk v hv]
theorem Wb2.heights_iff {z : Int} {hs : List Int} (hl : hs.length = ties.length) : ((ties.zip hs).all (tieOk (foundM n ties z hs) z)) = true ↔ ∀ i, i < ties.length → z ∣ sm ties.length (fun j => vec (wayAt n ties (ties.getD i (0, 0)).2) j * vec hs j) - sm ties.length (fun j => vec (wayAt n ties (ties.getD i (0, 0)).1) j * vec hs j) - vec hs i := by
  have key : ∀ i, i < ties.length → (tieOk (foundM n ties z hs) z (ties.getD i (0, 0), vec hs i) = true ↔ z ∣ sm ties.length (fun j => vec (wayAt n ties (ties.getD i (0, 0)).2) j * vec hs j) - sm ties.length (fun j => vec (wayAt n ties (ties.getD i (0, 0)).1) j * vec hs j) - vec hs i) := fun i hi => by
    obtain ⟨f1, f2⟩ := W.far hi
    unfold tieOk
    rw [decide_eq_true_iff, rnd_zero, W.found_at hl f1, W.found_at hl f2]
    have d1 := rnd_dvd (sm ties.length fun j => vec (wayAt n ties (ties.getD i (0, 0)).2) j * vec hs j) z
    have d2 := rnd_dvd (sm ties.length fun j => vec (wayAt n ties (ties.getD i (0, 0)).1) j * vec hs j) z
    have d3 := Int.dvd_sub d1 d2
    constructor
    · intro q; have := Int.dvd_sub q d3; refine (Int.dvd_iff_dvd_of_dvd_sub ?_).mp q
      exact ⟨d3.choose, by have := d3.choose_spec; omega⟩
    · intro q; refine (Int.dvd_iff_dvd_of_dvd_sub ?_).mpr q
      exact ⟨d3.choose, by have := d3.choose_spec; omega⟩
  rw [List.all_eq_true]
  constructor
  · intro q i hi
    refine (key i hi).mp (q _ ?_)
    have e : (ties.getD i (0, 0), vec hs i) = (ties.zip hs)[i]'(by rw [List.length_zip]; omega) := by
      rw [List.getElem_zip]
      unfold vec
      rw [List.getD_eq_getElem?_getD, List.getD_eq_getElem?_getD, List.getElem?_eq_getElem hi, List.getElem?_eq_getElem (by omega)]; rfl
    rw [e]; exact List.getElem_mem _
  · intro q p hp
    obtain ⟨i, hi, e⟩ := List.getElem_of_mem hp
    rw [List.length_zip] at hi
    have e2 : p = (ties.getD i (0, 0), vec hs i) := by
      rw [← e, List.getElem_zip]
      unfold vec
      rw [List.getD_eq_getElem?_getD, List.getD_eq_getElem?_getD, List.getElem?_eq_getElem (by omega), List.getElem?_eq_getElem (by omega)]; rfl
    rw [e2]
    exact (key i (by omega)).mpr (q i (by omega))
end
end Wk

set_option Elab.async false
set_option linter.all false
set_option maxRecDepth 100000
set_option maxHeartbeats 1000000
namespace Wk
open PySem PySem.Spec PyProof.Rows
theorem inl_sum {G : List (List Int)} {f : Nat → Vc} {x : Nat → Int} : ∀ {n : Nat}, (∀ u, u < n → InL G (f u)) → InL G fun i => sm n fun u => x u * f u i
  | 0, _ => .zero
  | n + 1, h => ((inl_sum (f := f) (x := x) fun u hu => h u (by omega)).plus ((h n (by omega)).mul (x n))).as fun i => rfl
theorem getD_map {α β : Type} (g : α → β) (xs : List α) (d : α) (d' : β) {j : Nat} (h : j < xs.length) : (xs.map g).getD j d' = g (xs.getD j d) := by
  rw [List.getD_eq_getElem?_getD, List.getD_eq_getElem?_getD, List.getElem?_map, List.getElem?_eq_getElem h]; rfl
theorem getD_zip {α β : Type} (xs : List α) (ys : List β) (d : α) (d' : β) {j : Nat} (h : j < xs.length) (h' : j < ys.length) : (xs.zip ys).getD j (d, d') = (xs.getD j d, ys.getD j d') := by
  rw [List.getD_eq_getElem?_getD, List.getD_eq_getElem?_getD, List.getD_eq_getElem?_getD, List.getElem?_eq_getElem h, List.getElem?_eq_getElem h', List.getElem?_eq_getElem (by rw [List.length_zip]; omega), List.getElem_zip]; rfl
theorem getD_get {α : Type} (xs : List α) (d : α) {j : Nat} (h : j < xs.length) : xs[j] = xs.getD j d := by
  rw [List.getD_eq_getElem?_getD, List.getElem?_eq_getElem h]; rfl
theorem line_vec {n : Nat} {ties : Ties} {i u : Nat} (hi : i < ties.length) (hu : u < n) : vec (((linesM n ties).getD i ([], [])).2) u = dl ties i u := by
  have e : (linesM n ties).getD i ([], []) = lineM n ties.length (ties.getD i (0, 0), i) := by
    unfold linesM
    rw [List.getD_eq_getElem?_getD, List.getD_eq_getElem?_getD, List.getElem?_map, List.getElem?_zipIdx, List.getElem?_eq_getElem hi]
    simp
  rw [e]
  show vec (addR (oneAt ((ties.getD i (0, 0)).2 : Nat) n) (scal (oneAt ((ties.getD i (0, 0)).1 : Nat) n) (-1))) u = _
  rw [vec_addR (by rw [scal_length, oneAt_length, oneAt_length]), vec_scal, vec_oneN hu, vec_oneN hu]
  unfold dl
  have s1 : ∀ a b : Nat, (if a = b then (1 : Int) else 0) = if b = a then 1 else 0 := fun a b => by
    by_cases h : a = b
    · rw [if_pos h, if_pos h.symm]
    · rw [if_neg h, if_neg fun z => h z.symm]
  rw [s1 u, s1 u, Int.neg_mul, Int.one_mul]; omega
theorem dl_small (ties : Ties) (i u : Nat) : (dl ties i u).natAbs ≤ 1 := by unfold dl; split <;> split <;> decide
theorem col_vec {n : Nat} {ties : Ties} {i u : Nat} (hi : i < ties.length) (hu : u < n) : vec (((linesM n ties).map (·.2)).map fun r => r.getD u 0) i = dl ties i u := by
  rw [vec_map (by rw [List.length_map, lines_length]; exact hi), ← line_vec hi hu]
  unfold vec
  rw [List.getD_eq_getElem?_getD, List.getD_eq_getElem?_getD, List.getElem?_map, List.getD_eq_getElem?_getD, List.getD_eq_getElem?_getD]
  cases (linesM n ties)[i]? <;> rfl
theorem goal_hs {n : Nat} {ties : Ties} {hs : List Int} (hl : hs.length = ties.length) : goalM (linesM n ties) hs = hs := by
  apply List.ext_getElem (by rw [goalM, List.length_map, lines_length, hl])
  intro i h1 h2
  have hi : i < ties.length := by omega
  have e : (goalM (linesM n ties) hs)[i] = dotM (oneAt (i : Nat) ties.length) hs := by
    unfold goalM linesM
    simp [lineM]
  rw [e, dot_sm (by rw [oneAt_length, hl]), oneAt_length, sm_one hi (fun j hj hn => by rw [vec_oneN hj, if_neg hn]; simp), vec_oneN hi, if_pos rfl, Int.one_mul]
  unfold vec
  rw [List.getD_eq_getElem?_getD, List.getElem?_eq_getElem h2]; rfl
section
variable {n : Nat} {ties : Ties} (W : Wb2 n ties)
include W
theorem Wb2.hear {z : Int} {hs : List Int} (hl : hs.length = ties.length) : (heightsM n ties z hs).isSome = zeroB (ringM n ties) z hs := by
  have h1 := (W.heights_iff (z := z) hl).trans ((W.ties_rings (vec hs)).trans (W.zero_iff hl).symm)
  unfold heightsM
  cases q : zeroB (ringM n ties) z hs with
  | true => rw [if_pos (h1.mpr q)]; rfl
  | false => rw [if_neg fun h => by rw [h1.mp h] at q; cases q]; rfl
theorem Wb2.due {z : Int} {tops : List Int} (hl : tops.length = n) : heightsM n ties z (hoursM ties z tops) = some (dueM n ties z tops) := by
  have hlh : (hoursM ties z tops).length = ties.length := by simp [hoursM]
  have hv : ∀ j, j < ties.length → vec (hoursM ties z tops) j = roundM (vec tops (ties.getD j (0, 0)).2 - vec tops (ties.getD j (0, 0)).1) z := fun j hj => by
    show (hoursM ties z tops).getD j 0 = _
    exact getD_map _ ties (0, 0) 0 hj
  have hd : ∀ j, j < ties.length → z ∣ vec (hoursM ties z tops) j - (vec tops (ties.getD j (0, 0)).2 - vec tops (ties.getD j (0, 0)).1) := fun j hj => by
    rw [hv j hj]; exact rnd_dvd _ _
  have sd : ∀ (f g : Nat → Int) (k : Nat), (∀ j, j < k → z ∣ f j - g j) → z ∣ sm k f - sm k g := fun f g k h => by
    induction k with
    | zero => exact ⟨0, by simp [sm]⟩
    | succ k ih =>
      obtain ⟨c, e⟩ := ih fun j hj => h j (by omega)
      obtain ⟨d, e2⟩ := h k (by omega)
      exact ⟨c + d, by rw [sm, sm, Int.mul_add]; omega⟩
  have way : ∀ v, v < n → z ∣ sm ties.length (fun j => vec (wayAt n ties v) j * vec (hoursM ties z tops) j) - (vec tops v - vec tops ((rootsM n ties).getD v 0)) := fun v hv' => by
    rw [← W.ways_sum hv' (vec tops)]
    refine sd _ _ _ fun j hj => ?_
    obtain ⟨c, e⟩ := hd j hj
    exact ⟨vec (wayAt n ties v) j * c, by rw [← Int.mul_sub, e, Int.mul_left_comm]⟩
  have ok : ((ties.zip (hoursM ties z tops)).all (tieOk (foundM n ties z (hoursM ties z tops)) z)) = true := by
    refine (W.heights_iff hlh).mpr fun i hi => ?_
    obtain ⟨f1, f2⟩ := W.far hi
    obtain ⟨c1, e1⟩ := way _ f1
    obtain ⟨c2, e2⟩ := way _ f2
    obtain ⟨c3, e3⟩ := hd i hi
    have hr := W.rt (ties.getD i (0, 0)) (by rw [List.getD_eq_getElem?_getD, List.getElem?_eq_getElem hi]; exact List.getElem_mem hi)
    rw [hr] at e1
    exact ⟨c2 - c1 - c3, by rw [Int.mul_sub, Int.mul_sub]; omega⟩
  unfold heightsM
  rw [if_pos ok]
  refine congrArg some ?_
  apply List.ext_getElem (by rw [foundM, dueM, List.length_map, List.length_map, List.length_range, List.length_zip, roots_length, hl, Nat.min_self])
  intro v h1 h2
  have hv' : v < n := by rw [foundM, List.length_map, List.length_range] at h1; exact h1
  have e1 : (foundM n ties z (hoursM ties z tops))[v] = (foundM n ties z (hoursM ties z tops)).getD v 0 := by rw [List.getD_eq_getElem?_getD, List.getElem?_eq_getElem h1]; rfl
  have hrl := roots_length n ties
  have e2 : (dueM n ties z tops)[v] = roundM (vec tops v - vec tops ((rootsM n ties).getD v 0)) z := by
    rw [getD_get _ 0 h2]
    refine (getD_map _ _ (0, 0) 0 (by rw [List.length_zip]; omega)).trans ?_
    rw [getD_zip _ _ 0 0 (by omega) (by omega)]; rfl
  rw [e1, e2, W.found_at hlh hv']
  exact rnd_congr (way v hv')
theorem Wb2.keep {z : Int} {hs : List Int} (hz : z ∈ sizeL) (hl : hs.length = ties.length) (sml : Sml hs) : ∃ res, TimesR (hidRows n (linesM n ties) z) (goalM (linesM n ties) hs) res ∧ res.isSome = zeroB (ringM n ties) z hs := by
  obtain ⟨n1, n4, k3, he⟩ := W.small
  have hzz := size_lt hz
  have ll := lines_length n ties
  rw [goal_hs hl]
  have memH : ∀ r, r ∈ hidRows n (linesM n ties) z ↔ (∃ u, u < n ∧ r = ((linesM n ties).map (·.2)).map fun r => r.getD u 0) ∨ (0 < z ∧ ∃ i, i < ties.length ∧ r = scal (oneAt (i : Nat) ties.length) z) := fun r => by
    unfold hidRows
    rw [List.mem_append]
    refine or_congr ?_ ?_
    · unfold colsM
      rw [List.mem_map]
      constructor
      · rintro ⟨u, hu, rfl⟩; exact ⟨u, List.mem_range.mp hu, rfl⟩
      · rintro ⟨u, hu, rfl⟩; exact ⟨u, List.mem_range.mpr hu, rfl⟩
    · by_cases q : 0 < z
      · rw [if_pos q, ll]
        unfold unitsM
        simp only [List.mem_map, List.mem_range, q, true_and]
        constructor
        · rintro ⟨_, ⟨i, hi, rfl⟩, rfl⟩; exact ⟨i, hi, rfl⟩
        · rintro ⟨i, hi, rfl⟩; exact ⟨_, ⟨i, hi, rfl⟩, rfl⟩
      · rw [if_neg q]
        constructor
        · intro h; cases h
        · rintro ⟨h, _⟩; exact absurd h q
  have wd : Wd hs.length (hidRows n (linesM n ties) z) := fun r hr => by
    rcases (memH r).mp hr with ⟨u, hu, rfl⟩ | ⟨_, i, hi, rfl⟩
    · rw [List.length_map, List.length_map, ll, hl]
    · rw [scal_length, oneAt_length, hl]
  have bd : ∀ r ∈ hidRows n (linesM n ties) z, BdR 16 r := fun r hr j => by
    by_cases hj : j < ties.length
    · rcases (memH r).mp hr with ⟨u, hu, rfl⟩ | ⟨_, i, hi, rfl⟩
      · rw [col_vec hj hu]; have := dl_small ties j u; omega
      · rw [vec_scal, vec_oneN hj]; split <;> omega
    · rw [vec_out (by rw [wd r hr]; omega)]; decide
  have hlen : (hidRows n (linesM n ties) z).length ≤ 900 := by
    unfold hidRows colsM
    rw [List.length_append, List.length_map, List.length_range]
    split
    · rw [List.length_map, unitsM_length, ll]; omega
    · simp; omega
  obtain ⟨res, t1, t2⟩ := times_iff (rows := hidRows n (linesM n ties) z) (row := hs) (by omega) hlen wd bd (fun i => by
    by_cases hi : i < hs.length
    · have := sml _ (getD_mem hi)
      exact Nat.le_trans this (by decide)
    · rw [vec_out (by omega)]; exact Nat.zero_le _)
  refine ⟨res, t1, ?_⟩
  have iff : Made (hidRows n (linesM n ties) z) hs.length hs ↔ zeroB (ringM n ties) z hs = true := by
    rw [W.zero_iff hl]
    constructor
    · rintro ⟨v, hv, e⟩ o ho
      have ho' := otM_lt o ho
      have key : z ∣ sm ties.length fun j => vec (ringOf n ties o) j * v j := by
        clear e
        induction hv with
        | zero => exact ⟨0, by rw [sm_zero (fun j _ => by simp)]; simp⟩
        | add q _ hr ih =>
          rename_i v r _
          have e1 : ∀ j, j < ties.length → vec (ringOf n ties o) j * (v j + q * vec r j) = vec (ringOf n ties o) j * v j + q * (vec (ringOf n ties o) j * vec r j) := fun j _ => by rw [Int.mul_add, Int.mul_left_comm]
          rw [sm_congr e1, sm_add, sm_mul]
          refine Int.dvd_add ih (Int.dvd_mul_of_dvd_right ?_)
          rcases (memH r).mp hr with ⟨u, hu, rfl⟩ | ⟨_, i, hi, rfl⟩
          · rw [sm_congr (g := fun j => vec (ringOf n ties o) j * dl ties j u) (fun j hj => by rw [col_vec hj hu]), W.ring_bord ho' hu]; exact ⟨0, by simp⟩
          · rw [sm_one hi (fun j hj hn => by rw [vec_scal, vec_oneN hj, if_neg hn]; simp), vec_scal, vec_oneN hi, if_pos rfl, Int.mul_one]; exact ⟨_, Int.mul_comm _ _⟩
      rw [sm_congr (g := fun j => vec (ringOf n ties o) j * v j) (fun j hj => by rw [e j (by omega)])]
      exact key
    · intro q
      have ties0 := (W.ties_rings (z := z) (vec hs)).mpr q
      -- the heights as columns
      have c1 : InL (hidRows n (linesM n ties) z) fun i => sm n fun u => (sm ties.length fun j => vec (wayAt n ties u) j * vec hs j) * vec (((linesM n ties).map (·.2)).map fun r => r.getD u 0) i :=
        inl_sum (f := fun u => vec (((linesM n ties).map (·.2)).map fun r => r.getD u 0)) (x := fun u => sm ties.length fun j => vec (wayAt n ties u) j * vec hs j) fun u hu => .mem ((memH _).mpr (.inl ⟨u, hu, rfl⟩))
      have c2 : ∀ i, i < ties.length → (sm n fun u => (sm ties.length fun j => vec (wayAt n ties u) j * vec hs j) * vec (((linesM n ties).map (·.2)).map fun r => r.getD u 0) i) = sm ties.length (fun j => vec (wayAt n ties (ties.getD i (0, 0)).2) j * vec hs j) - sm ties.length (fun j => vec (wayAt n ties (ties.getD i (0, 0)).1) j * vec hs j) := fun i hi => by
        rw [← dl_sum (fun u => sm ties.length fun j => vec (wayAt n ties u) j * vec hs j) he hi]
        exact sm_congr fun u hu => by rw [col_vec hi hu, Int.mul_comm]
      by_cases hp : 0 < z
      · have ch : ∃ y : Nat → Int, ∀ i, i < ties.length → sm ties.length (fun j => vec (wayAt n ties (ties.getD i (0, 0)).2) j * vec hs j) - sm ties.length (fun j => vec (wayAt n ties (ties.getD i (0, 0)).1) j * vec hs j) - vec hs i = z * y i := by
          refine ⟨fun i => (sm ties.length (fun j => vec (wayAt n ties (ties.getD i (0, 0)).2) j * vec hs j) - sm ties.length (fun j => vec (wayAt n ties (ties.getD i (0, 0)).1) j * vec hs j) - vec hs i) / z, fun i hi => ?_⟩
          exact (Int.mul_ediv_cancel' (ties0 i hi)).symm
        obtain ⟨y, hy⟩ := ch
        have c3 : InL (hidRows n (linesM n ties) z) fun j => sm ties.length fun i => (- y i) * vec (scal (oneAt (i : Nat) ties.length) z) j :=
          inl_sum (f := fun i => vec (scal (oneAt (i : Nat) ties.length) z)) (x := fun i => - y i) fun i hi => .mem ((memH _).mpr (.inr ⟨hp, i, hi, rfl⟩))
        refine ⟨_, c1.plus c3, fun i hi => ?_⟩
        have hi : i < ties.length := by omega
        rw [c2 i hi, sm_one (f := fun j => (- y j) * vec (scal (oneAt (j : Nat) ties.length) z) i) hi (fun j hj hn => by rw [vec_scal, vec_oneN hi, if_neg fun z => hn z.symm]; simp), vec_scal, vec_oneN hi, if_pos rfl, Int.mul_one, Int.neg_mul, Int.mul_comm]
        have := hy i hi
        omega
      · refine ⟨_, c1, fun i hi => ?_⟩
        have hi : i < ties.length := by omega
        rw [c2 i hi]
        obtain ⟨c, e⟩ := ties0 i hi
        have hz0 : z = 0 := by omega
        rw [hz0, Int.zero_mul] at e
        omega
  cases q : zeroB (ringM n ties) z hs with
  | true => exact t2.mpr (iff.mpr q)
  | false => cases e : res.isSome with
    | false => rfl
    | true => rw [iff.mp (t2.mp e)] at q; cases q
end
theorem allC_of (HK : AllK) : AllC := fun n ties sm _ => by
  have W := wb2_of HK sm
  exact ⟨fun z tops _ hl => W.due hl, fun z hs _ hl _ => W.hear hl, fun z hs hz hl sml => W.keep hz hl sml⟩
end Wk

set_option Elab.async false
set_option linter.all false
set_option maxRecDepth 100000
set_option maxHeartbeats 1000000
namespace Wk
open PySem PySem.Spec PyProof.Rows
theorem ent_vec (R : List (List Int)) (i j : Nat) : ent R i j = vec (R.getD i []) j := rfl
theorem ent_row {R : List (List Int)} {i : Nat} (h : R.length ≤ i) (j : Nat) : ent R i j = 0 := by
  unfold ent
  rw [List.getD_eq_getElem?_getD (l := R), List.getElem?_eq_none h]; rfl
theorem ent_col {R : List (List Int)} {m n i j : Nat} (M : Mat R m n) (h : n ≤ j) : ent R i j = 0 := by
  by_cases hi : i < m
  · rw [ent_vec]; exact vec_out (by rw [M.rowD hi]; exact h)
  · exact ent_row (by rw [M.len]; omega) j
theorem vec_subS {q : Int} : ∀ {r h : List Int}, r.length = h.length → ∀ i, vec (subS r h q) i = vec r i - q * vec h i
  | [], [], _, i => by simp [subS, vec_nil]
  | a :: r, b :: h, e, 0 => rfl
  | a :: r, b :: h, e, i + 1 => by
    rw [vec_consS, vec_consS, ← vec_subS (by simpa using e) i]
    exact vec_consS _ _ i
theorem getD_set {α : Type} {xs : List α} {c : Nat} {x d : α} (hc : c < xs.length) (i : Nat) : (xs.set c x).getD i d = if i = c then x else xs.getD i d := by
  rw [List.getD_eq_getElem?_getD, List.getD_eq_getElem?_getD]
  by_cases h : i = c
  · subst h; rw [List.getElem?_set_self hc, if_pos rfl]; rfl
  · rw [List.getElem?_set_ne fun z => h z.symm, if_neg h]
theorem ent_take {R : List (List Int)} {m n a c : Nat} {q : Int} (M : Mat R m n) (ha : a < m) (hc : c < m) (i j : Nat) : ent (takeM R a c q) i j = if i = c then ent R c j - q * ent R a j else ent R i j := by
  unfold takeM
  rw [ent_vec, getD_set (by rw [M.len]; exact hc)]
  split
  · rw [vec_subS (by rw [M.rowD ha, M.rowD hc])]; rfl
  · rfl
def sw (i j k : Nat) : Nat := if k = i then j else if k = j then i else k
theorem sw_sw (i j k : Nat) : sw i j (sw i j k) = k := by
  unfold sw; split <;> split <;> (try split) <;> omega
theorem sw_lt {i j k m : Nat} (hi : i < m) (hj : j < m) (hk : k < m) : sw i j k < m := by unfold sw; split <;> (try split) <;> omega
theorem ent_swap {R : List (List Int)} {i j : Nat} (hi : i < R.length) (hj : j < R.length) (k l : Nat) : ent (swapM R i j) k l = ent R (sw i j k) l := by
  unfold swapM
  rw [List.getElem?_eq_getElem hi, List.getElem?_eq_getElem hj]
  show ent ((R.set i R[j]).set j R[i]) k l = _
  rw [ent_vec, getD_set (by simpa using hj), getD_set hi, ent_vec]
  unfold sw
  by_cases h1 : k = j
  · rw [if_pos h1]
    by_cases h2 : k = i
    · rw [if_pos h2]
      have : i = j := by omega
      subst this
      rw [List.getD_eq_getElem?_getD (l := R), List.getElem?_eq_getElem hj]; rfl
    · rw [if_neg h2, if_pos h1, List.getD_eq_getElem?_getD (l := R), List.getElem?_eq_getElem hi]; rfl
  · rw [if_neg h1]
    by_cases h2 : k = i
    · rw [if_pos h2, if_pos h2, List.getD_eq_getElem?_getD (l := R), List.getElem?_eq_getElem hj]; rfl
    · rw [if_neg h2, if_neg h2, if_neg h1]
theorem ent_cols {R : List (List Int)} {m n : Nat} (M : Mat R m n) (j i : Nat) : ent (colsM R n) j i = ent R i j := by
  by_cases hj : j < n
  · have e : (colsM R n).getD j [] = R.map fun r => r.getD j 0 := by
      unfold colsM
      rw [List.getD_eq_getElem?_getD, List.getElem?_map, List.getElem?_range hj]; rfl
    rw [ent_vec, e]
    by_cases hi : i < m
    · rw [vec_map (f := fun r => r.getD j 0) (by rw [M.len]; exact hi)]; rfl
    · rw [vec_out (by rw [List.length_map, M.len]; omega), ent_row (by rw [M.len]; omega)]
  · rw [ent_row (by simp [colsM]; omega), ent_col M (by omega)]
theorem clear_val {a m n n2 : Nat} (ha : a < m) : ∀ {is : List Nat} {R S R' S' : List (List Int)}, clearM a is R S = some (R', S') → Mat R m n → Mat S m n2 → (∀ i ∈ is, i < m - (a + 1)) → is.Nodup →
    (∀ i j, ent R' i j = if a < i ∧ i - (a + 1) ∈ is then ent R i j - (ent R i a).fdiv (ent R a a) * ent R a j else ent R i j) ∧ (∀ i j, ent S' i j = if a < i ∧ i - (a + 1) ∈ is then ent S i j - (ent R i a).fdiv (ent R a a) * ent S a j else ent S i j)
  | [], R, S, R', S', h, _, _, _, _ => by cases h; exact ⟨fun i j => by simp, fun i j => by simp⟩
  | c :: is, R, S, R', S', h, M1, M2, hi, nd => by
    unfold clearM at h
    have hc : a + 1 + c < m := by have := hi c List.mem_cons_self; omega
    split at h
    · obtain ⟨e1, e2⟩ := clear_val ha h (M1.take ha hc) (M2.take ha hc) (fun j hj => hi j (List.mem_cons_of_mem _ hj)) (List.nodup_cons.mp nd).2
      have hn := (List.nodup_cons.mp nd).1
      have ra : ∀ j, ent (takeM R a (a + 1 + c) ((ent R (a + 1 + c) a).fdiv (ent R a a))) a j = ent R a j := fun j => by rw [ent_take M1 ha hc, if_neg (by omega)]
      have sa : ∀ j, ent (takeM S a (a + 1 + c) ((ent R (a + 1 + c) a).fdiv (ent R a a))) a j = ent S a j := fun j => by rw [ent_take M2 ha hc, if_neg (by omega)]
      refine ⟨fun i j => ?_, fun i j => ?_⟩
      · rw [e1 i j]
        by_cases h1 : a < i ∧ i - (a + 1) ∈ is
        · have ne : i ≠ a + 1 + c := fun z => hn (by have := h1.2; rwa [show i - (a + 1) = c by omega] at this)
          rw [if_pos h1, if_pos ⟨h1.1, List.mem_cons_of_mem _ h1.2⟩, ra, ra, ent_take M1 ha hc, if_neg ne, ent_take M1 ha hc, if_neg ne]
        · rw [if_neg h1, ent_take M1 ha hc]
          by_cases h2 : i = a + 1 + c
          · rw [if_pos h2, if_pos ⟨by omega, by rw [show i - (a + 1) = c by omega]; exact List.mem_cons_self⟩, h2]
          · rw [if_neg h2, if_neg fun z => h1 ⟨z.1, (List.mem_cons.mp z.2).elim (fun e => absurd (show i = a + 1 + c by omega) h2) id⟩]
      · rw [e2 i j]
        by_cases h1 : a < i ∧ i - (a + 1) ∈ is
        · have ne : i ≠ a + 1 + c := fun z => hn (by have := h1.2; rwa [show i - (a + 1) = c by omega] at this)
          rw [if_pos h1, if_pos ⟨h1.1, List.mem_cons_of_mem _ h1.2⟩, ra, sa, ent_take M1 ha hc, if_neg ne, ent_take M2 ha hc, if_neg ne]
        · rw [if_neg h1, ent_take M2 ha hc]
          by_cases h2 : i = a + 1 + c
          · rw [if_pos h2, if_pos ⟨by omega, by rw [show i - (a + 1) = c by omega]; exact List.mem_cons_self⟩, h2]
          · rw [if_neg h2, if_neg fun z => h1 ⟨z.1, (List.mem_cons.mp z.2).elim (fun e => absurd (show i = a + 1 + c by omega) h2) id⟩]
    · cases h
/-- all rows behind a -/
theorem clear_all {a m n n2 : Nat} (ha : a < m) {R S R' S' : List (List Int)} (h : clearM a (List.range (m - (a + 1))) R S = some (R', S')) (M1 : Mat R m n) (M2 : Mat S m n2) :
    (∀ i j, ent R' i j = ent R i j - (if a < i then (ent R i a).fdiv (ent R a a) else 0) * ent R a j) ∧ (∀ i j, ent S' i j = ent S i j - (if a < i then (ent R i a).fdiv (ent R a a) else 0) * ent S a j) := by
  obtain ⟨e1, e2⟩ := clear_val ha h M1 M2 (fun i hi => List.mem_range.mp hi) List.nodup_range
  have key : ∀ i, ¬ (a < i ∧ i - (a + 1) ∈ List.range (m - (a + 1))) → (if a < i then (ent R i a).fdiv (ent R a a) else 0) = 0 := fun i hi => by
    split
    · rename_i h1
      have : m ≤ i := by
        rcases Nat.lt_or_ge i m with z | z
        · exact absurd ⟨h1, List.mem_range.mpr (by omega)⟩ hi
        · exact z
      rw [ent_row (by rw [M1.len]; exact this), Int.zero_fdiv]
    · rfl
  refine ⟨fun i j => ?_, fun i j => ?_⟩
  · rw [e1]; split
    · rename_i h1; rw [if_pos h1.1]
    · rename_i h1; rw [key i h1]; simp
  · rw [e2]; split
    · rename_i h1; rw [if_pos h1.1]
    · rename_i h1; rw [key i h1]; simp
abbrev Mx := Nat → Nat → Int
structure Uni (m : Nat) (L : Mx) : Prop where
  spn : ∀ y : Nat → Int, ∃ c : Nat → Int, ∀ k, k < m → sm m (fun i => c i * L i k) = y k
  slv : ∀ t : Nat → Int, ∃ w : Nat → Int, ∀ i, i < m → sm m (fun k => w k * L i k) = t i
theorem Uni.congr {m : Nat} {L L' : Mx} (U : Uni m L) (e : ∀ i k, i < m → k < m → L' i k = L i k) : Uni m L' := ⟨fun y => by
  obtain ⟨c, h⟩ := U.spn y
  exact ⟨c, fun k hk => (sm_congr fun i hi => by rw [e i k hi hk]).trans (h k hk)⟩, fun t => by
  obtain ⟨w, h⟩ := U.slv t
  exact ⟨w, fun i hi => (sm_congr fun k hk => by rw [e i k hi hk]).trans (h i hi)⟩⟩
theorem Uni.one {m : Nat} : Uni m fun i k => if k = i then 1 else 0 := ⟨fun y => ⟨y, fun k hk => by
  rw [sm_one hk fun i hi hn => by rw [if_neg fun z => hn z.symm]; simp]; simp⟩, fun t => ⟨t, fun i hi => by
  rw [sm_one hi fun k hk hn => by rw [if_neg hn]; simp]; simp⟩⟩
theorem Uni.add {m a : Nat} {L : Mx} {e : Nat → Int} (U : Uni m L) (ha : a < m) (he : e a = 0) : Uni m fun i k => L i k - e i * L a k := ⟨fun y => by
  obtain ⟨c, h⟩ := U.spn y
  refine ⟨fun i => c i + (if i = a then sm m fun i => c i * e i else 0), fun k hk => ?_⟩
  rw [← h k hk]
  have e1 : ∀ i, i < m → (c i + (if i = a then sm m fun i => c i * e i else 0)) * (L i k - e i * L a k) = c i * L i k - (c i * e i) * L a k + (if i = a then sm m fun i => c i * e i else 0) * (L i k - e i * L a k) := fun i hi => by
    rw [Int.add_mul, Int.mul_sub, Int.mul_assoc]
  rw [sm_congr e1, sm_add, sm_sub, sm_mulr, sm_one (f := fun i => (if i = a then sm m fun i => c i * e i else 0) * (L i k - e i * L a k)) ha (fun i hi hn => by rw [if_neg hn]; simp), if_pos rfl, he]
  simp only [Int.zero_mul, Int.sub_zero]
  omega, fun t => by
  obtain ⟨w, h⟩ := U.slv fun i => t i + e i * t a
  refine ⟨w, fun i hi => ?_⟩
  have e1 : ∀ k, k < m → w k * (L i k - e i * L a k) = w k * L i k - e i * (w k * L a k) := fun k hk => by rw [Int.mul_sub, Int.mul_left_comm]
  rw [sm_congr e1, sm_sub, sm_mul, h i hi, h a ha, he]
  simp⟩
theorem sm_perm {m i j : Nat} {f : Nat → Int} (hi : i < m) (hj : j < m) : sm m (fun k => f (sw i j k)) = sm m f := by
  by_cases hij : i = j
  · subst hij
    exact sm_congr fun k _ => by unfold sw; split <;> (try split) <;> first | rfl | (congr 1; omega)
  · have e : ∀ k, k < m → f (sw i j k) = f k + ((if k = i then f j - f i else 0) + (if k = j then f i - f j else 0)) := fun k _ => by
      unfold sw
      by_cases h1 : k = i
      · rw [if_pos h1, if_pos h1, if_neg (by omega), h1]; omega
      · rw [if_neg h1, if_neg h1]
        by_cases h2 : k = j
        · rw [if_pos h2, if_pos h2, h2]; omega
        · rw [if_neg h2, if_neg h2]; omega
    rw [sm_congr e, sm_add, sm_add, sm_one (f := fun k => if k = i then f j - f i else 0) hi (fun k _ hn => if_neg hn), sm_one (f := fun k => if k = j then f i - f j else 0) hj (fun k _ hn => if_neg hn), if_pos rfl, if_pos rfl]
    omega
theorem Uni.swap {m i j : Nat} {L : Mx} (U : Uni m L) (hi : i < m) (hj : j < m) : Uni m fun k l => L (sw i j k) l := ⟨fun y => by
  obtain ⟨c, h⟩ := U.spn y
  exact ⟨fun k => c (sw i j k), fun l hl => (sm_perm (f := fun k => c k * L k l) hi hj).trans (h l hl)⟩, fun t => by
  obtain ⟨w, h⟩ := U.slv fun k => t (sw i j k)
  exact ⟨w, fun k hk => by rw [h _ (sw_lt hi hj hk), sw_sw]⟩⟩
theorem Uni.neg {m a : Nat} {L : Mx} (U : Uni m L) : Uni m fun i k => if i = a then - L i k else L i k := ⟨fun y => by
  obtain ⟨c, h⟩ := U.spn y
  refine ⟨fun i => if i = a then - c i else c i, fun k hk => (sm_congr fun i _ => ?_).trans (h k hk)⟩
  show (if i = a then - c i else c i) * (if i = a then - L i k else L i k) = c i * L i k
  by_cases q : i = a
  · rw [if_pos q, if_pos q, Int.neg_mul_neg]
  · rw [if_neg q, if_neg q], fun t => by
  obtain ⟨w, h⟩ := U.slv fun i => if i = a then - t i else t i
  refine ⟨w, fun i hi => ?_⟩
  have := h i hi
  by_cases q : i = a
  · rw [if_pos q] at this
    rw [sm_congr (g := fun k => (-1) * (w k * L i k)) (fun k _ => by rw [if_pos q, Int.mul_neg]; omega), sm_mul, this]; omega
  · rw [if_neg q] at this
    rw [sm_congr (g := fun k => w k * L i k) (fun k _ => by rw [if_neg q]), this]⟩
/-- what the table says of two rows -/
def Bil (m n : Nat) (T : Mx) (x y : Nat → Int) : Int := sm m fun a => sm n fun b => x a * T a b * y b
structure Good (m n : Nat) (T R L Q : Mx) : Prop where
  r : ∀ i j, i < m → j < n → R i j = Bil m n T (L i) (Q j)
  l : Uni m L
  q : Uni n Q
theorem Bil.tr {m n : Nat} {T : Mx} {x y : Nat → Int} : Bil m n T x y = Bil n m (fun b a => T a b) y x := by
  unfold Bil
  rw [← sm_swap]
  exact sm_congr fun b _ => sm_congr fun a _ => by show x a * T a b * y b = y b * T a b * x a; rw [Int.mul_right_comm (y b), Int.mul_comm (y b) (x a), Int.mul_right_comm]
theorem Good.tr {m n : Nat} {T R L Q : Mx} (G : Good m n T R L Q) : Good n m (fun b a => T a b) (fun j i => R i j) Q L := ⟨fun j i hj hi => by rw [G.r i j hi hj, Bil.tr], G.q, G.l⟩
theorem Bil.sub {m n : Nat} {T : Mx} {x z y : Nat → Int} {e : Int} : Bil m n T (fun a => x a - e * z a) y = Bil m n T x y - e * Bil m n T z y := by
  unfold Bil
  rw [← sm_mul, ← sm_sub]
  refine sm_congr fun a _ => ?_
  rw [← sm_mul, ← sm_sub]
  exact sm_congr fun b _ => by rw [Int.sub_mul, Int.sub_mul]; simp [Int.mul_assoc]
theorem Good.congr {m n : Nat} {T R L Q R' L' Q' : Mx} (G : Good m n T R L Q) (e1 : ∀ i j, R' i j = R i j) (e2 : ∀ i j, L' i j = L i j) (e3 : ∀ i j, Q' i j = Q i j) : Good m n T R' L' Q' := by
  have h1 : R' = R := funext fun i => funext fun j => e1 i j
  have h2 : L' = L := funext fun i => funext fun j => e2 i j
  have h3 : Q' = Q := funext fun i => funext fun j => e3 i j
  rw [h1, h2, h3]; exact G
theorem Good.add {m n a : Nat} {T R L Q : Mx} {e : Nat → Int} (G : Good m n T R L Q) (ha : a < m) (he : e a = 0) : Good m n T (fun i j => R i j - e i * R a j) (fun i k => L i k - e i * L a k) Q := ⟨fun i j hi hj => by
  rw [Bil.sub, G.r i j hi hj, G.r a j ha hj], G.l.add ha he, G.q⟩
theorem Good.swap {m n i j : Nat} {T R L Q : Mx} (G : Good m n T R L Q) (hi : i < m) (hj : j < m) : Good m n T (fun k l => R (sw i j k) l) (fun k l => L (sw i j k) l) Q := ⟨fun k l hk hl => G.r _ l (sw_lt hi hj hk) hl, G.l.swap hi hj, G.q⟩
theorem Good.neg {m n a : Nat} {T R L Q : Mx} (G : Good m n T R L Q) : Good m n T (fun i j => if i = a then - R i j else R i j) (fun i k => if i = a then - L i k else L i k) Q := ⟨fun i j hi hj => by
  by_cases h : i = a
  · rw [if_pos h, G.r i j hi hj]
    have : (fun k => if i = a then - L i k else L i k) = fun k => 0 - 1 * L i k := funext fun k => by rw [if_pos h]; omega
    rw [this]
    have := Bil.sub (m := m) (n := n) (T := T) (x := fun _ => 0) (z := L i) (y := Q j) (e := 1)
    rw [this]
    have z : Bil m n T (fun _ => 0) (Q j) = 0 := sm_zero fun a _ => sm_zero fun b _ => by simp
    rw [z]; omega
  · rw [if_neg h, G.r i j hi hj]
    congr 1
    exact funext fun k => (if_neg h).symm, G.l.neg, G.q⟩
end Wk

set_option Elab.async false
set_option linter.all false
set_option maxRecDepth 100000
set_option maxHeartbeats 1000000
namespace Wk
open PySem PySem.Spec PyProof.Rows
def uX (a i j : Nat) (R : Mx) : Mx := fun k l => R (sw a i k) (sw a j l)
def uqc (a i j : Nat) (R : Mx) (l : Nat) : Int := if a < l then (uX a i j R a l).fdiv (uX a i j R a a) else 0
def uC (a i j : Nat) (R : Mx) : Mx := fun k l => uX a i j R k l - uqc a i j R l * uX a i j R k a
def uqr (a i j : Nat) (R : Mx) (k : Nat) : Int := if a < k then (uC a i j R k a).fdiv (uC a i j R a a) else 0
def uR (a i j : Nat) (R : Mx) : Mx := fun k l => uC a i j R k l - uqr a i j R k * uC a i j R a l
def uL (a i j : Nat) (R L : Mx) : Mx := fun k b => L (sw a i k) b - uqr a i j R k * L (sw a i a) b
def uQ (a i j : Nat) (R Q : Mx) : Mx := fun l b => Q (sw a j l) b - uqc a i j R l * Q (sw a j a) b
theorem uqc_a (a i j : Nat) (R : Mx) : uqc a i j R a = 0 := if_neg (Nat.lt_irrefl a)
theorem uqr_a (a i j : Nat) (R : Mx) : uqr a i j R a = 0 := if_neg (Nat.lt_irrefl a)
theorem Good.turn {m n a i j : Nat} {T R L Q : Mx} (G : Good m n T R L Q) (ha : a < m) (hb : a < n) (hi : i < m) (hj : j < n) : Good m n T (uR a i j R) (uL a i j R L) (uQ a i j R Q) := by
  have g1 := (G.swap ha hi).tr.swap hb hj
  have g2 := (g1.add (e := uqc a i j R) hb (uqc_a a i j R)).tr
  exact (g2.add (e := uqr a i j R) ha (uqr_a a i j R)).congr (fun _ _ => rfl) (fun _ _ => rfl) fun _ _ => rfl
theorem allZero_iff {R : List (List Int)} {a : Nat} : allZero R a = true ↔ ∀ k, a < k → ent R k a = 0 := by
  unfold allZero
  rw [List.all_map, List.all_eq_true]
  constructor
  · intro h k hk
    by_cases hl : k < R.length
    · have : R[k] ∈ R.drop (a + 1) := by
        have e : (R.drop (a + 1))[k - (a + 1)]'(by rw [List.length_drop]; omega) = R[k] := by
          rw [List.getElem_drop]; congr 1; omega
        rw [← e]; exact List.getElem_mem _
      have := of_decide_eq_true (h _ this)
      unfold ent
      rw [List.getD_eq_getElem?_getD (l := R), List.getElem?_eq_getElem hl]; exact this
    · exact ent_row (by omega) a
  · intro h r hr
    obtain ⟨i, hi, e⟩ := List.getElem_of_mem hr
    rw [List.length_drop] at hi
    rw [List.getElem_drop] at e
    have := h (a + 1 + i) (by omega)
    unfold ent at this
    rw [List.getD_eq_getElem?_getD (l := R), List.getElem?_eq_getElem (by omega)] at this
    rw [← e]
    exact decide_eq_true this
theorem odd_none {R : List (List Int)} {a m n : Nat} (M : Mat R m n) (h : oddM R a = none) : ∀ k, a < k → ∀ l, (ent R k l).fmod (ent R a a) = 0 := by
  intro k hk l
  by_cases hl : k < m
  · unfold oddM at h
    rw [Option.map_eq_none_iff, List.find?_eq_none] at h
    have := h (k - (a + 1)) (List.mem_range.mpr (by rw [M.len]; omega))
    unfold oddRow at this
    rw [show a + 1 + (k - (a + 1)) = k by omega] at this
    by_cases hn : l < n
    · have hm : vec (R.getD k []) l ∈ R.getD k [] := getD_mem (by rw [M.rowD hl]; exact hn)
      have q : ¬ ∃ x ∈ R.getD k [], decide (x.fmod (ent R a a) ≠ 0) = true := fun z => this (List.any_eq_true.mpr z)
      have : ¬ (ent R k l).fmod (ent R a a) ≠ 0 := fun z => q ⟨_, hm, decide_eq_true z⟩
      exact Classical.not_not.mp this
    · rw [ent_col M (by omega), Int.zero_fmod]
  · rw [ent_row (by rw [M.len]; omega), Int.zero_fmod]
theorem odd_some {R : List (List Int)} {a o m n : Nat} (M : Mat R m n) (h : oddM R a = some o) : a < o ∧ o < m ∧ ∃ l, l < n ∧ (ent R o l).fmod (ent R a a) ≠ 0 := by
  unfold oddM at h
  cases e : (List.range (R.length - (a + 1))).find? (oddRow R a) with
  | none => rw [e] at h; cases h
  | some i =>
    rw [e] at h
    have h : some (a + 1 + i) = some o := h
    have hi := List.mem_range.mp (List.mem_of_find?_eq_some e)
    have hr := List.find?_some e
    rw [M.len] at hi
    cases h
    refine ⟨by omega, by omega, ?_⟩
    unfold oddRow at hr
    obtain ⟨x, hx, hx2⟩ := List.any_eq_true.mp hr
    obtain ⟨l, hl, rfl⟩ := vec_mem hx
    rw [M.rowD (by omega)] at hl
    exact ⟨l, hl, of_decide_eq_true hx2⟩
/-- what a turn comes to -/
theorem turn_val {a m n : Nat} {R L Q : List (List Int)} {c : Bool} {Y : M3} (h : turnM a m n R L Q = some (c, Y)) (M : Mats m n (R, L, Q)) (ha : a < m) (hb : a < n) :
    ∃ v i j R3 L3 Q3, spotM R a = some (v, i, j) ∧ i < m ∧ j < n ∧ Mats m n (R3, L3, Q3) ∧ (∀ k l, ent R3 k l = uR a i j (ent R) k l) ∧ (∀ k l, ent L3 k l = uL a i j (ent R) (ent L) k l) ∧ (∀ k l, ent Q3 k l = uQ a i j (ent R) (ent Q) k l) ∧ ent R3 a a ≠ 0 ∧
      ((c = true ∧ (∀ k, a < k → ent R3 k a = 0) ∧ (∀ l, a < l → ent R3 a l = 0) ∧ oddM R3 a = none ∧ Y = (R3, L3, Q3)) ∨
       (c = false ∧ (∀ k, a < k → ent R3 k a = 0) ∧ (∀ l, a < l → ent R3 a l = 0) ∧ ∃ o, oddM R3 a = some o ∧ Y = (takeM R3 o a (-1), takeM L3 o a (-1), Q3)) ∨
       (c = false ∧ ¬ ((∀ k, a < k → ent R3 k a = 0) ∧ ∀ l, a < l → ent R3 a l = 0) ∧ Y = (R3, L3, Q3))) := by
  unfold turnM at h
  split at h
  · cases h
  rename_i v i j es
  split at h
  · rename_i hij
    split at h
    · cases h
    rename_i C2 Q2 ec
    split at h
    · cases h
    rename_i R3 L2 er
    have Ms : Mat (swapM R a i) m n := Mat.swap M.r
    have Mc : Mat (swapM (colsM (swapM R a i) n) a j) n m := Mat.swap (Mat.cols Ms)
    have Mq : Mat (swapM Q a j) n n := Mat.swap M.q
    have Ml : Mat (swapM L a i) m m := Mat.swap M.l
    obtain ⟨M2, MQ⟩ := clearM_mat ec Mc Mq hb (fun k hk => List.mem_range.mp hk)
    obtain ⟨M3', ML⟩ := clearM_mat er (Mat.cols M2) Ml ha (fun k hk => List.mem_range.mp hk)
    obtain ⟨c1, c2⟩ := clear_all hb ec Mc Mq
    obtain ⟨r1, r2⟩ := clear_all ha er (Mat.cols M2) Ml
    have x1 : ∀ l k, ent (swapM (colsM (swapM R a i) n) a j) l k = uX a i j (ent R) k l := fun l k => by
      rw [ent_swap (by rw [(Mat.cols Ms).len]; exact hb) (by rw [(Mat.cols Ms).len]; exact hij.2), ent_cols Ms, ent_swap (by rw [M.r.len]; exact ha) (by rw [M.r.len]; exact hij.1)]; rfl
    have x2 : ∀ l k, ent C2 l k = uC a i j (ent R) k l := fun l k => by rw [c1, x1, x1, x1, x1]; rfl
    have x3 : ∀ k l, ent (colsM C2 m) k l = uC a i j (ent R) k l := fun k l => by rw [ent_cols M2, x2]
    have x4 : ∀ k l, ent R3 k l = uR a i j (ent R) k l := fun k l => by rw [r1, x3, x3, x3, x3]; rfl
    have x5 : ∀ k l, ent L2 k l = uL a i j (ent R) (ent L) k l := fun k l => by
      rw [r2, x3, x3, ent_swap (by rw [M.l.len]; exact ha) (by rw [M.l.len]; exact hij.1), ent_swap (by rw [M.l.len]; exact ha) (by rw [M.l.len]; exact hij.1)]; rfl
    have x6 : ∀ k l, ent Q2 k l = uQ a i j (ent R) (ent Q) k l := fun k l => by
      rw [c2, x1, x1, ent_swap (by rw [M.q.len]; exact hb) (by rw [M.q.len]; exact hij.2), ent_swap (by rw [M.q.len]; exact hb) (by rw [M.q.len]; exact hij.2)]; rfl
    have x7 : ∀ l, ent R3 a l = ent C2 l a := fun l => by rw [x4, x2, uR, uqr_a]; omega
    split at h
    · cases h
    rename_i h0
    refine ⟨v, i, j, R3, L2, Q2, es, hij.1, hij.2, ⟨M3', ML, MQ⟩, x4, x5, x6, h0, ?_⟩
    split at h
    · rename_i hz
      rw [Bool.and_eq_true] at hz
      have z1 := allZero_iff.mp hz.1
      have z2 : ∀ l, a < l → ent R3 a l = 0 := fun l hl => by rw [x7]; exact allZero_iff.mp hz.2 l hl
      split at h
      · rename_i eo
        cases h
        exact .inl ⟨rfl, z1, z2, eo, rfl⟩
      · rename_i o eo
        cases h
        exact .inr (.inl ⟨rfl, z1, z2, o, eo, rfl⟩)
    · rename_i hz
      cases h
      refine .inr (.inr ⟨rfl, fun z => hz ?_, rfl⟩)
      rw [Bool.and_eq_true]
      exact ⟨allZero_iff.mpr z.1, allZero_iff.mpr fun l hl => by rw [← x7]; exact z.2 l hl⟩
  · cases h
end Wk

set_option Elab.async false
set_option linter.all false
set_option maxRecDepth 100000
set_option maxHeartbeats 1000000
namespace Wk
open PySem PySem.Spec PyProof.Rows
abbrev Cell := (Nat × Nat) × Int
def cellsR (R : List (List Int)) : List Cell := R.zipIdx.flatMap fun p => p.1.zipIdx.map fun q => ((p.2, q.2), q.1)
def spStep (a : Nat) (f : Spot) (c : Cell) : Spot := if better c.1.1 c.1.2 a c.2 f then some (c.2.natAbs, c.1.1, c.1.2) else f
theorem spot_cells (R : List (List Int)) (a : Nat) : spotM R a = (cellsR R).foldl (spStep a) none := by
  unfold spotM cellsR
  have : ∀ (l : List (List Int × Nat)) (f : Spot), l.foldl (fun f p => spotRow p.2 a p.1.zipIdx f) f = (l.flatMap fun p => p.1.zipIdx.map fun q => (((p.2, q.2), q.1) : Cell)).foldl (spStep a) f := by
    intro l
    induction l with
    | nil => intro f; rfl
    | cons p l ih =>
      intro f
      rw [List.foldl_cons, List.flatMap_cons, List.foldl_append, ih, List.foldl_map]
      rfl
  exact this _ _
theorem mem_cells {R : List (List Int)} {m n : Nat} (M : Mat R m n) (c : Cell) : c ∈ cellsR R ↔ c.1.1 < m ∧ c.1.2 < n ∧ c.2 = ent R c.1.1 c.1.2 := by
  obtain ⟨⟨i, j⟩, x⟩ := c
  unfold cellsR
  rw [List.mem_flatMap]
  constructor
  · rintro ⟨⟨r, i'⟩, h1, h2⟩
    obtain ⟨⟨y, j'⟩, h3, h4⟩ := List.mem_map.mp h2
    cases h4
    have e1 := List.mem_zipIdx_iff_getElem?.mp h1
    have e2 := List.mem_zipIdx_iff_getElem?.mp h3
    obtain ⟨l1, g1⟩ := List.getElem?_eq_some_iff.mp e1
    obtain ⟨l2, g2⟩ := List.getElem?_eq_some_iff.mp e2
    rw [M.len] at l1
    have rl : r.length = n := M.row r (by rw [← show R[i'] = r from g1]; exact List.getElem_mem _)
    refine ⟨l1, by rw [rl] at l2; exact l2, ?_⟩
    unfold ent
    rw [List.getD_eq_getElem?_getD (l := R), e1, Option.getD_some, List.getD_eq_getElem?_getD, e2]; rfl
  · rintro ⟨h1, h2, h3⟩
    have h1 : i < m := h1
    have h2 : j < n := h2
    have l1 : i < R.length := by rw [M.len]; exact h1
    have l2 : j < R[i].length := by rw [M.row _ (List.getElem_mem l1)]; exact h2
    refine ⟨(R[i], i), List.mem_zipIdx_iff_getElem?.mpr (List.getElem?_eq_getElem l1), List.mem_map.mpr ⟨(R[i][j], j), List.mem_zipIdx_iff_getElem?.mpr (List.getElem?_eq_getElem l2), ?_⟩⟩
    have : x = R[i][j] := by
      rw [show x = ent R i j from h3]
      unfold ent
      rw [List.getD_eq_getElem?_getD (l := R), List.getElem?_eq_getElem l1, Option.getD_some, List.getD_eq_getElem?_getD, List.getElem?_eq_getElem l2]; rfl
    rw [this]
def okC (a : Nat) (c : Cell) : Prop := a ≤ c.1.1 ∧ a ≤ c.1.2 ∧ c.2 ≠ 0
theorem better_iff {a : Nat} {c : Cell} {f : Spot} : better c.1.1 c.1.2 a c.2 f = true ↔ okC a c ∧ ∀ v i j, f = some (v, i, j) → c.2.natAbs < v := by
  unfold better okC
  simp only [Bool.and_eq_true, decide_eq_true_eq]
  constructor
  · rintro ⟨h1, h2, h3, h4⟩
    refine ⟨⟨h1, h2, h3⟩, fun v i j e => ?_⟩
    subst e
    exact of_decide_eq_true h4
  · rintro ⟨⟨h1, h2, h3⟩, h4⟩
    refine ⟨h1, h2, h3, ?_⟩
    cases f with
    | none => rfl
    | some p => obtain ⟨v, i, j⟩ := p; exact decide_eq_true (h4 v i j rfl)
theorem fold_none {a : Nat} : ∀ (l : List Cell), (∀ c ∈ l, ¬ okC a c) → ∀ f, l.foldl (spStep a) f = f
  | [], _, f => rfl
  | c :: l, h, f => by
    have e : spStep a f c = f := if_neg fun z => h c List.mem_cons_self (better_iff.mp z).1
    rw [List.foldl_cons, e]
    exact fold_none l (fun c hc => h c (List.mem_cons_of_mem _ hc)) f
theorem fold_stay {a v i j : Nat} : ∀ (l : List Cell), (∀ c ∈ l, okC a c → v ≤ c.2.natAbs) → l.foldl (spStep a) (some (v, i, j)) = some (v, i, j)
  | [], _ => rfl
  | c :: l, h => by
    have e : spStep a (some (v, i, j)) c = some (v, i, j) := if_neg fun z => by
      obtain ⟨h1, h2⟩ := better_iff.mp z
      have := h c List.mem_cons_self h1
      have := h2 v i j rfl
      omega
    rw [List.foldl_cons, e]
    exact fold_stay l fun c hc => h c (List.mem_cons_of_mem _ hc)
theorem fold_inv {a : Nat} : ∀ (l : List Cell) (f : Spot), (l.foldl (spStep a) f = none → f = none ∧ ∀ c ∈ l, ¬ okC a c) ∧
    ∀ v i j, l.foldl (spStep a) f = some (v, i, j) → (f = some (v, i, j) ∨ ∃ x, ((i, j), x) ∈ l ∧ okC a ((i, j), x) ∧ v = x.natAbs) ∧ (∀ c ∈ l, okC a c → v ≤ c.2.natAbs) ∧ ∀ v' i' j', f = some (v', i', j') → v ≤ v'
  | [], f => ⟨fun h => ⟨h, (fun _ z => nomatch z)⟩, fun v i j h => ⟨.inl h, (fun _ z => nomatch z), fun v' i' j' e => by rw [show f = some (v, i, j) from h] at e; cases e; exact Nat.le_refl _⟩⟩
  | c :: l, f => by
    obtain ⟨h1, h2⟩ := fold_inv l (spStep a f c)
    by_cases b : better c.1.1 c.1.2 a c.2 f = true
    · have e : spStep a f c = some (c.2.natAbs, c.1.1, c.1.2) := if_pos b
      obtain ⟨b1, b2⟩ := better_iff.mp b
      rw [List.foldl_cons]
      refine ⟨fun z => by (have := (h1 z).1; rw [e] at this; cases this), fun v i j z => ?_⟩
      obtain ⟨q1, q2, q3⟩ := h2 v i j z
      have q4 := q3 _ _ _ e
      refine ⟨.inr ?_, fun c' hc' ok => ?_, fun v' i' j' ef => by have := b2 v' i' j' ef; omega⟩
      · rcases q1 with q1 | ⟨x, x1, x2, x3⟩
        · rw [e] at q1; cases q1
          exact ⟨c.2, List.mem_cons_self, b1, rfl⟩
        · exact ⟨x, List.mem_cons_of_mem _ x1, x2, x3⟩
      · rcases List.mem_cons.mp hc' with rfl | hc'
        · exact q4
        · exact q2 c' hc' ok
    · have e : spStep a f c = f := if_neg b
      rw [List.foldl_cons]
      rw [e] at h1 h2 ⊢
      have nb : okC a c → ∃ v i j, f = some (v, i, j) ∧ v ≤ c.2.natAbs := fun ok => by
        cases f with
        | none => exact absurd (better_iff.mpr ⟨ok, (fun v i j z => by cases z)⟩) b
        | some p =>
          obtain ⟨v, i, j⟩ := p
          refine ⟨v, i, j, rfl, ?_⟩
          rcases Nat.lt_or_ge c.2.natAbs v with z | z
          · exact absurd (better_iff.mpr ⟨ok, fun v' i' j' e => by cases e; exact z⟩) b
          · exact z
      refine ⟨fun z => ⟨(h1 z).1, fun c' hc' ok => ?_⟩, fun v i j z => ?_⟩
      · rcases List.mem_cons.mp hc' with rfl | hc'
        · obtain ⟨v, i, j, e2, _⟩ := nb ok
          rw [(h1 z).1] at e2; cases e2
        · exact (h1 z).2 c' hc' ok
      · obtain ⟨q1, q2, q3⟩ := h2 v i j z
        refine ⟨q1.imp id fun ⟨x, x1, x2, x3⟩ => ⟨x, List.mem_cons_of_mem _ x1, x2, x3⟩, fun c' hc' ok => ?_, q3⟩
        rcases List.mem_cons.mp hc' with rfl | hc'
        · obtain ⟨v', i', j', e2, e3⟩ := nb ok
          exact Nat.le_trans (q3 _ _ _ e2) e3
        · exact q2 c' hc' ok
theorem spot_none {R : List (List Int)} {a m n : Nat} (M : Mat R m n) (h : spotM R a = none) : ∀ k l, a ≤ k → a ≤ l → ent R k l = 0 := fun k l hk hl => by
  rw [spot_cells] at h
  have := ((fold_inv (a := a) (cellsR R) none).1 h).2
  by_cases h1 : k < m
  · by_cases h2 : l < n
    · have := this ((k, l), ent R k l) ((mem_cells M _).mpr ⟨h1, h2, rfl⟩)
      exact Classical.not_not.mp fun z => this ⟨hk, hl, z⟩
    · exact ent_col M (by omega)
  · exact ent_row (by rw [M.len]; omega) l
theorem spot_some {R : List (List Int)} {a m n v i j : Nat} (M : Mat R m n) (h : spotM R a = some (v, i, j)) : a ≤ i ∧ a ≤ j ∧ i < m ∧ j < n ∧ v = (ent R i j).natAbs ∧ v ≠ 0 ∧ ∀ k l, a ≤ k → a ≤ l → ent R k l ≠ 0 → v ≤ (ent R k l).natAbs := by
  rw [spot_cells] at h
  obtain ⟨h1, h2, _⟩ := (fold_inv (a := a) (cellsR R) none).2 v i j h
  rcases h1 with h1 | ⟨x, x1, x2, x3⟩
  · cases h1
  obtain ⟨y1, y2, y3⟩ := (mem_cells M _).mp x1
  have y3 : x = ent R i j := y3
  have x2' : x ≠ 0 := x2.2.2
  refine ⟨x2.1, x2.2.1, y1, y2, by rw [← y3]; exact x3, by omega, fun k l hk hl hn => ?_⟩
  have k1 : k < m := by
    rcases Nat.lt_or_ge k m with z | z
    · exact z
    · exact absurd (ent_row (by rw [M.len]; exact z) l) hn
  have l1 : l < n := by
    rcases Nat.lt_or_ge l n with z | z
    · exact z
    · exact absurd (ent_col M z) hn
  exact h2 ((k, l), ent R k l) ((mem_cells M _).mpr ⟨k1, l1, rfl⟩) ⟨hk, hl, hn⟩
/-- the corner is looked at first -/
theorem spot_first {R : List (List Int)} {a m n : Nat} (M : Mat R m n) (ha : a < m) (hb : a < n) (h0 : ent R a a ≠ 0) (hmin : ∀ k l, a ≤ k → a ≤ l → ent R k l ≠ 0 → (ent R a a).natAbs ≤ (ent R k l).natAbs) : spotM R a = some ((ent R a a).natAbs, a, a) := by
  rw [spot_cells]
  have l1 : a < R.length := by rw [M.len]; exact ha
  have l2 : a < R[a].length := by rw [M.row _ (List.getElem_mem l1)]; exact hb
  obtain ⟨pre, post, e, hpre⟩ : ∃ pre post, cellsR R = pre ++ ((a, a), R[a][a]) :: post ∧ ∀ c ∈ pre, ¬ okC a c := by
    have e1 : R.zipIdx = R.zipIdx.take a ++ (R[a], a) :: R.zipIdx.drop (a + 1) := by
      have := (List.take_append_drop a R.zipIdx).symm
      rw [List.drop_eq_getElem_cons (by rw [List.length_zipIdx]; exact l1)] at this
      simpa using this
    have e2 : R[a].zipIdx = R[a].zipIdx.take a ++ (R[a][a], a) :: R[a].zipIdx.drop (a + 1) := by
      have := (List.take_append_drop a R[a].zipIdx).symm
      rw [List.drop_eq_getElem_cons (by rw [List.length_zipIdx]; exact l2)] at this
      simpa using this
    refine ⟨((R.zipIdx.take a).flatMap fun p => p.1.zipIdx.map fun q => ((p.2, q.2), q.1)) ++ (R[a].zipIdx.take a).map fun q => ((a, q.2), q.1), ((R[a].zipIdx.drop (a + 1)).map fun q => ((a, q.2), q.1)) ++ (R.zipIdx.drop (a + 1)).flatMap fun p => p.1.zipIdx.map fun q => ((p.2, q.2), q.1), ?_, fun c hc => ?_⟩
    · unfold cellsR
      conv => lhs; rw [e1]
      rw [List.flatMap_append, List.flatMap_cons]
      have : (R[a].zipIdx.map fun q => (((a, q.2), q.1) : Cell)) = ((R[a].zipIdx.take a).map fun q => ((a, q.2), q.1)) ++ ((a, a), R[a][a]) :: (R[a].zipIdx.drop (a + 1)).map fun q => ((a, q.2), q.1) := by
        conv => lhs; rw [e2]
        rw [List.map_append, List.map_cons]
      rw [this]
      simp [List.append_assoc]
    · rcases List.mem_append.mp hc with q | q
      · obtain ⟨p, hp, hq⟩ := List.mem_flatMap.mp q
        obtain ⟨q', hq', rfl⟩ := List.mem_map.mp hq
        obtain ⟨k, hk, ek⟩ := List.getElem_of_mem hp
        rw [List.length_take] at hk
        rw [List.getElem_take, List.getElem_zipIdx] at ek
        rintro ⟨z, _, _⟩
        have z : a ≤ p.2 := z
        rw [← ek] at z
        simp at z
        omega
      · obtain ⟨q', hq', rfl⟩ := List.mem_map.mp q
        obtain ⟨k, hk, ek⟩ := List.getElem_of_mem hq'
        rw [List.length_take] at hk
        rw [List.getElem_take, List.getElem_zipIdx] at ek
        rintro ⟨_, z, _⟩
        have z : a ≤ q'.2 := z
        rw [← ek] at z
        simp at z
        omega
  have ea : R[a][a] = ent R a a := by
    unfold ent
    rw [List.getD_eq_getElem?_getD (l := R), List.getElem?_eq_getElem l1, Option.getD_some, List.getD_eq_getElem?_getD, List.getElem?_eq_getElem l2]; rfl
  rw [e, List.foldl_append, fold_none pre hpre, List.foldl_cons]
  have e3 : spStep a none ((a, a), R[a][a]) = some ((ent R a a).natAbs, a, a) := by
    rw [ea]
    exact if_pos (better_iff.mpr ⟨⟨Nat.le_refl a, Nat.le_refl a, h0⟩, (fun v i j z => by cases z)⟩)
  rw [e3]
  refine fold_stay post fun c hc ok => ?_
  obtain ⟨c1, c2, c3⟩ := (mem_cells M c).mp (by rw [e]; exact List.mem_append_right _ (List.mem_cons_of_mem _ hc))
  rw [c3]
  exact hmin _ _ ok.1 ok.2.1 (by rw [← c3]; exact ok.2.2)
end Wk

set_option Elab.async false
set_option linter.all false
set_option maxRecDepth 100000
set_option maxHeartbeats 1000000
namespace Wk
open PySem PySem.Spec PyProof.Rows
structure St (a m n : Nat) (T : Mx) (X : M3) : Prop where
  mats : Mats m n X
  good : Good m n T (ent X.1) (ent X.2.1) (ent X.2.2)
  shape : ∀ i j, i ≠ j → (i < a ∨ j < a) → ent X.1 i j = 0
  pos : ∀ i, i < a → 0 < ent X.1 i i
theorem sw_below {a i k : Nat} (hi : a ≤ i) (hk : k < a) : sw a i k = k := by unfold sw; rw [if_neg (by omega), if_neg (by omega)]
theorem sw_above {a i k : Nat} (hi : a ≤ i) (hk : a ≤ k) : a ≤ sw a i k := by unfold sw; split <;> (try split) <;> omega
theorem uX_shape {a i j : Nat} {R : Mx} (hi : a ≤ i) (hj : a ≤ j) (S : ∀ k l, k ≠ l → (k < a ∨ l < a) → R k l = 0) : (∀ k l, k ≠ l → (k < a ∨ l < a) → uX a i j R k l = 0) ∧ ∀ k, k < a → uX a i j R k k = R k k := by
  refine ⟨fun k l hkl h => ?_, fun k hk => by unfold uX; rw [sw_below hi hk, sw_below hj hk]⟩
  unfold uX
  refine S _ _ (fun z => ?_) ?_
  · by_cases h1 : k < a
    · rw [sw_below hi h1] at z
      by_cases h2 : l < a
      · rw [sw_below hj h2] at z; exact hkl z
      · have := sw_above hj (show a ≤ l by omega); omega
    · have h2 : l < a := by omega
      rw [sw_below hj h2] at z
      have := sw_above hi (show a ≤ k by omega); omega
  · rcases h with h | h
    · left; rw [sw_below hi h]; exact h
    · right; rw [sw_below hj h]; exact h
theorem uR_shape {a i j : Nat} {R : Mx} (hi : a ≤ i) (hj : a ≤ j) (S : ∀ k l, k ≠ l → (k < a ∨ l < a) → R k l = 0) : (∀ k l, k ≠ l → (k < a ∨ l < a) → uR a i j R k l = 0) ∧ ∀ k, k < a → uR a i j R k k = R k k := by
  obtain ⟨s1, s2⟩ := uX_shape hi hj S
  have c1 : ∀ k l, k ≠ l → (k < a ∨ l < a) → uC a i j R k l = 0 := fun k l hkl h => by
    unfold uC
    rw [s1 k l hkl h]
    rcases h with h | h
    · rw [s1 k a (by omega) (.inl h)]; simp
    · unfold uqc; rw [if_neg (by omega)]; simp
  have c2 : ∀ k, k < a → uC a i j R k k = R k k := fun k hk => by
    unfold uC uqc
    rw [if_neg (by omega), s2 k hk]; simp
  refine ⟨fun k l hkl h => ?_, fun k hk => ?_⟩
  · unfold uR
    rw [c1 k l hkl h]
    rcases h with h | h
    · unfold uqr; rw [if_neg (by omega)]; simp
    · rw [c1 a l (by omega) (.inr h)]; simp
  · unfold uR uqr
    rw [if_neg (by omega), c2 k hk]; simp
theorem turn_st {a m n : Nat} {T : Mx} {R L Q : List (List Int)} {c : Bool} {Y : M3} (h : turnM a m n R L Q = some (c, Y)) (S : St a m n T (R, L, Q)) (ha : a < m) (hb : a < n) :
    St a m n T Y ∧ (c = true → (∀ k, a < k → ent Y.1 k a = 0) ∧ (∀ l, a < l → ent Y.1 a l = 0) ∧ ent Y.1 a a ≠ 0) := by
  obtain ⟨v, i, j, R3, L3, Q3, es, hi, hj, M3', e1, e2, e3, h0, hc⟩ := turn_val h S.mats ha hb
  obtain ⟨s1, s2, _⟩ := spot_some S.mats.r es
  have G3 : Good m n T (ent R3) (ent L3) (ent Q3) := (S.good.turn ha hb hi hj).congr e1 e2 e3
  obtain ⟨u1, u2⟩ := uR_shape s1 s2 S.shape
  have S3 : St a m n T (R3, L3, Q3) := ⟨M3', G3, fun k l hkl hh => by rw [e1]; exact u1 k l hkl hh, fun k hk => by rw [e1, u2 k hk]; exact S.pos k hk⟩
  rcases hc with ⟨rfl, z1, z2, _, rfl⟩ | ⟨rfl, z1, z2, o, eo, rfl⟩ | ⟨rfl, _, rfl⟩
  · exact ⟨S3, fun _ => ⟨z1, z2, h0⟩⟩
  · obtain ⟨o1, o2, _⟩ := odd_some M3'.r eo
    refine ⟨⟨⟨M3'.r.take o2 ha, M3'.l.take o2 ha, M3'.q⟩, ?_, fun k l hkl hh => ?_, fun k hk => ?_⟩, fun z => nomatch z⟩
    · have g := (G3.tr.tr)
      -- row a += row o
      have ga : Good m n T (fun k l => ent R3 k l - (if k = a then -1 else 0) * ent R3 o l) (fun k b => ent L3 k b - (if k = a then -1 else 0) * ent L3 o b) (ent Q3) := G3.add (e := fun k => if k = a then -1 else 0) o2 (if_neg (by omega))
      refine ga.congr (fun k l => ?_) (fun k l => ?_) fun _ _ => rfl
      · show ent (takeM R3 o a (-1)) k l = _
        rw [ent_take M3'.r o2 ha]
        split
        · rename_i q; rw [q]
        · simp
      · show ent (takeM L3 o a (-1)) k l = _
        rw [ent_take M3'.l o2 ha]
        split
        · rename_i q; rw [q]
        · simp
    · show ent (takeM R3 o a (-1)) k l = 0
      rw [ent_take M3'.r o2 ha]
      split
      · rename_i q
        have hl : l < a := by omega
        rw [S3.shape a l (by omega) (.inr hl), S3.shape o l (by omega) (.inr hl)]; rfl
      · exact S3.shape k l hkl hh
    · show 0 < ent (takeM R3 o a (-1)) k k
      rw [ent_take M3'.r o2 ha, if_neg (by omega)]
      exact S3.pos k hk
  · exact ⟨S3, fun z => nomatch z⟩
theorem corner_st {a m n : Nat} {T : Mx} (ha : a < m) (hb : a < n) : ∀ {f : Nat} {X Y : M3}, cornerM a m n f X = some Y → St a m n T X → St a m n T Y ∧ (∀ k, a < k → ent Y.1 k a = 0) ∧ (∀ l, a < l → ent Y.1 a l = 0) ∧ ent Y.1 a a ≠ 0
  | 0, _, _, h, _ => by cases h
  | f + 1, (R, L, Q), Y, h, S => by
    unfold cornerM at h
    split at h
    · cases h
    · rename_i X e
      cases h
      obtain ⟨h1, h2⟩ := turn_st e S ha hb
      exact ⟨h1, h2 rfl⟩
    · rename_i X e
      exact corner_st ha hb h (turn_st e S ha hb).1
theorem vec_neg : ∀ {xs : List Int} {j : Nat}, vec (negR xs) j = - vec xs j
  | [], j => by simp [negR, vec_nil]
  | x :: xs, 0 => rfl
  | x :: xs, j + 1 => by rw [vec_consS]; exact (vec_consS _ _ j).trans vec_neg
theorem ent_negS {R : List (List Int)} {a : Nat} (ha : a < R.length) (i j : Nat) : ent (R.set a (negR (R.getD a []))) i j = if i = a then - ent R i j else ent R i j := by
  rw [ent_vec, getD_set ha]
  split
  · rename_i h; rw [vec_neg, h]; rfl
  · rfl
theorem sign_st {a m n : Nat} {T : Mx} {R L Q : List (List Int)} (ha : a < m) (hb : a < n) (S : St a m n T (R, L, Q)) (h1 : ∀ k, a < k → ent R k a = 0) (h2 : ∀ l, a < l → ent R a l = 0) (h3 : ent R a a ≠ 0) : St (a + 1) m n T ((signM a R L).1, (signM a R L).2, Q) := by
  obtain ⟨s1, s2⟩ := Mat.sign S.mats.r S.mats.l ha
  have sh : ∀ i j, i ≠ j → (i < a + 1 ∨ j < a + 1) → ent R i j = 0 := fun i j hij hh => by
    by_cases q : i < a ∨ j < a
    · exact S.shape i j hij q
    · by_cases hi : i = a
      · rw [hi]; exact h2 j (by omega)
      · have hj : j = a := by omega
        rw [hj]; exact h1 i (by omega)
  refine ⟨⟨s1, s2, S.mats.q⟩, ?_, ?_, ?_⟩
  · by_cases q : ent R a a < 0
    · have e : signM a R L = (R.set a (negR (R.getD a [])), L.set a (negR (L.getD a []))) := if_pos q
      rw [e]
      exact (S.good.neg (a := a)).congr (ent_negS (by rw [S.mats.r.len]; exact ha)) (ent_negS (by rw [S.mats.l.len]; exact ha)) fun _ _ => rfl
    · have e : signM a R L = (R, L) := if_neg q
      rw [e]; exact S.good
  · intro i j hij hh
    by_cases q : ent R a a < 0
    · have e : signM a R L = (R.set a (negR (R.getD a [])), L.set a (negR (L.getD a []))) := if_pos q
      rw [e]
      show ent (R.set a (negR (R.getD a []))) i j = 0
      rw [ent_negS (by rw [S.mats.r.len]; exact ha), sh i j hij hh]; simp
    · have e : signM a R L = (R, L) := if_neg q
      rw [e]; exact sh i j hij hh
  · intro i hi
    by_cases q : ent R a a < 0
    · have e : signM a R L = (R.set a (negR (R.getD a [])), L.set a (negR (L.getD a []))) := if_pos q
      rw [e]
      show 0 < ent (R.set a (negR (R.getD a []))) i i
      rw [ent_negS (by rw [S.mats.r.len]; exact ha)]
      split
      · rename_i z; rw [z]; omega
      · exact S.pos i (by omega)
    · have e : signM a R L = (R, L) := if_neg q
      rw [e]
      show 0 < ent R i i
      by_cases z : i = a
      · rw [z]; omega
      · exact S.pos i (by omega)
theorem diag_st {m n f : Nat} {T : Mx} : ∀ {g a : Nat} {X : M3} {b : Nat} {Y : M3}, diagM f m n g a X = some (b, Y) → a ≤ m → a ≤ n → St a m n T X → St b m n T Y ∧ b ≤ m ∧ b ≤ n ∧ ∀ i j, b ≤ i → b ≤ j → ent Y.1 i j = 0
  | 0, a, X, b, Y, h, h1, h2, S => by
    unfold diagM at h
    split at h
    · cases h
    · rename_i hc
      cases h
      refine ⟨S, h1, h2, fun i j hi hj => ?_⟩
      rcases Nat.lt_or_ge i m with z | z
      · rcases Nat.lt_or_ge j n with z2 | z2
        · cases e : spotM X.1 a with
          | none => exact spot_none S.mats.r e i j hi hj
          | some p => exact absurd ⟨by omega, by omega, by rw [e]; rfl⟩ hc
        · exact ent_col S.mats.r z2
      · exact ent_row (by rw [S.mats.r.len]; exact z) j
  | g + 1, a, X, b, Y, h, h1, h2, S => by
    unfold diagM at h
    split at h
    · rename_i hc
      split at h
      · cases h
      · rename_i R L Q e
        obtain ⟨S2, c1, c2, c3⟩ := corner_st (T := T) hc.1 hc.2.1 e S
        exact diag_st h hc.1 hc.2.1 (sign_st hc.1 hc.2.1 S2 c1 c2 c3)
    · rename_i hc
      cases h
      refine ⟨S, h1, h2, fun i j hi hj => ?_⟩
      rcases Nat.lt_or_ge i m with z | z
      · rcases Nat.lt_or_ge j n with z2 | z2
        · cases e : spotM X.1 a with
          | none => exact spot_none S.mats.r e i j hi hj
          | some p => exact absurd ⟨by omega, by omega, by rw [e]; rfl⟩ hc
        · exact ent_col S.mats.r z2
      · exact ent_row (by rw [S.mats.r.len]; exact z) j
theorem ent_units {n i j : Nat} (hi : i < n) (hj : j < n) : ent (unitsM n) i j = if j = i then 1 else 0 := by
  have e : (unitsM n).getD i [] = oneAt (i : Nat) n := by
    unfold unitsM
    rw [List.getD_eq_getElem?_getD, List.getElem?_map, List.getElem?_range hi]; rfl
  rw [ent_vec, e, vec_oneN hj]
theorem good_start {m n : Nat} {tab : List (List Int)} : Good m n (ent tab) (ent tab) (ent (unitsM m)) (ent (unitsM n)) := ⟨fun i j hi hj => by
  unfold Bil
  rw [sm_one hi (fun a ha hn => sm_zero fun b hb => by rw [ent_units hi ha, if_neg hn]; simp), sm_one hj (fun b hb hn => by rw [ent_units hj hb, if_neg hn]; simp), ent_units hi hi, ent_units hj hj]
  simp, Uni.one.congr fun i k hi hk => ent_units hi hk, Uni.one.congr fun i k hi hk => ent_units hi hk⟩
/-- what a diagonal is -/
structure DiagV (m n : Nat) (T : Mx) (b : Nat) (R L Q : Mx) : Prop where
  good : Good m n T R L Q
  bm : b ≤ m
  bn : b ≤ n
  off : ∀ i j, i ≠ j → R i j = 0
  pos : ∀ i, i < b → 0 < R i i
  zer : ∀ i, b ≤ i → R i i = 0
theorem diag_val {m n b : Nat} {tab R L Q : List (List Int)} (h : DiagR m n tab b R L Q) (M : Mat tab m n) : DiagV m n (ent tab) b (ent R) (ent L) (ent Q) ∧ Mats m n (R, L, Q) := by
  obtain ⟨f, g, h⟩ := h
  obtain ⟨S, b1, b2, z⟩ := diag_st (T := ent tab) h (Nat.zero_le _) (Nat.zero_le _) ⟨⟨M, unitsM_mat m, unitsM_mat n⟩, good_start, fun i j _ hh => by omega, fun i hi => by omega⟩
  refine ⟨⟨S.good, b1, b2, fun i j hij => ?_, S.pos, fun i hi => z i i hi hi⟩, S.mats⟩
  by_cases q : i < b ∨ j < b
  · exact S.shape i j hij q
  · exact z i j (by omega) (by omega)
/-- x times the table -/
def xT (m : Nat) (T : Mx) (x : Nat → Int) : Nat → Int := fun j => sm m fun a => x a * T a j
theorem Bil.xT {m n : Nat} {T : Mx} {x y : Nat → Int} : Bil m n T x y = sm n fun b => xT m T x b * y b := by
  unfold Bil Wk.xT
  rw [← sm_swap]
  exact sm_congr fun b _ => sm_mulr
theorem Bil.comb {m n k : Nat} {T : Mx} {c : Nat → Int} {L : Mx} {y : Nat → Int} : Bil m n T (fun a => sm k fun i => c i * L i a) y = sm k fun i => c i * Bil m n T (L i) y := by
  induction k with
  | zero => exact sm_zero fun a _ => sm_zero fun b _ => by simp [sm]
  | succ k ih =>
    have := Bil.sub (m := m) (n := n) (T := T) (x := fun a => sm k fun i => c i * L i a) (z := L k) (y := y) (e := - c k)
    have e : (fun a => sm (k + 1) fun i => c i * L i a) = fun a => (sm k fun i => c i * L i a) - (- c k) * L k a := funext fun a => by rw [sm, Int.neg_mul]; omega
    rw [e, this, ih, sm, Int.neg_mul]; omega
theorem Bil.ext {m n : Nat} {T : Mx} {x x' y : Nat → Int} (h : ∀ a, a < m → x a = x' a) : Bil m n T x y = Bil m n T x' y := sm_congr fun a ha => by rw [h a ha]
/-- zero against all of the right rows: zero -/
theorem zero_of {n : Nat} {Q : Mx} {u : Nat → Int} (U : Uni n Q) (h : ∀ j, j < n → sm n (fun b => u b * Q j b) = 0) : ∀ b, b < n → u b = 0 := fun b hb => by
  obtain ⟨c, hc⟩ := U.spn fun k => if k = b then 1 else 0
  have e : u b = sm n fun k => u k * sm n fun i => c i * Q i k := by
    rw [sm_one (f := fun k => u k * sm n fun i => c i * Q i k) hb (fun k hk hn => by rw [hc k hk, if_neg hn]; simp), hc b hb, if_pos rfl, Int.mul_one]
  rw [e]
  have e2 : ∀ k, k < n → u k * sm n (fun i => c i * Q i k) = sm n fun i => c i * (u k * Q i k) := fun k _ => by
    rw [← sm_mul]
    exact sm_congr fun i _ => Int.mul_left_comm _ _ _
  rw [sm_congr e2, sm_swap]
  exact sm_zero fun i hi => by rw [sm_mul, h i hi]; simp
section
variable {m n b : Nat} {T R L Q : Mx} (D : DiagV m n T b R L Q)
include D
theorem DiagV.rowB {c : Nat → Int} {j : Nat} (hj : j < n) : sm m (fun i => c i * R i j) = if j < m then c j * R j j else 0 := by
  split
  · rename_i h; exact sm_one h fun i _ hn => by rw [D.off i j hn]; simp
  · exact sm_zero fun i hi => by rw [D.off i j (by omega)]; simp
/-- all rows are made: the steps are all one -/
theorem DiagV.full : (∀ y : Nat → Int, ∃ x : Nat → Int, ∀ j, j < n → xT m T x j = y j) ↔ b = n ∧ ∀ i, i < b → R i i = 1 := by
  constructor
  · intro h
    have key : ∀ j, j < n → j < b ∧ R j j = 1 := fun j hj => by
      obtain ⟨w, hw⟩ := D.good.q.slv fun i => if i = j then 1 else 0
      obtain ⟨x, hx⟩ := h w
      obtain ⟨c, hc⟩ := D.good.l.spn x
      have e1 : Bil m n T x (Q j) = 1 := by
        rw [Bil.xT, sm_congr (g := fun b => w b * Q j b) (fun k hk => by rw [hx k hk]), hw j hj, if_pos rfl]
      have e2 : Bil m n T x (Q j) = sm m fun i => c i * R i j := by
        rw [← Bil.ext hc, Bil.comb]
        exact sm_congr fun i hi => by rw [D.good.r i j hi hj]
      rw [e1, D.rowB hj] at e2
      split at e2
      · rename_i hm
        by_cases q : j < b
        · refine ⟨q, ?_⟩
          have p := D.pos j q
          have : R j j ∣ 1 := ⟨c j, by rw [Int.mul_comm]; exact e2⟩
          have := Int.le_of_dvd (by decide) this
          omega
        · rw [D.zer j (by omega)] at e2; simp at e2
      · cases e2
    refine ⟨?_, fun i hi => (key i (by have := D.bn; omega)).2⟩
    have := D.bn
    rcases Nat.lt_or_ge b n with z | z
    · have := (key b z).1; omega
    · omega
  · rintro ⟨h1, h2⟩ y
    have hm := D.bm
    refine ⟨fun a => sm m fun i => (if i < b then sm n fun k => y k * Q i k else 0) * L i a, fun j hj => ?_⟩
    have z := zero_of (u := fun k => xT m T (fun a => sm m fun i => (if i < b then sm n fun k => y k * Q i k else 0) * L i a) k - y k) D.good.q fun l hl => by
      have e : ∀ k, k < n → (xT m T (fun a => sm m fun i => (if i < b then sm n fun k => y k * Q i k else 0) * L i a) k - y k) * Q l k = xT m T (fun a => sm m fun i => (if i < b then sm n fun k => y k * Q i k else 0) * L i a) k * Q l k - y k * Q l k := fun k _ => Int.sub_mul _ _ _
      rw [sm_congr e, sm_sub, ← Bil.xT, Bil.comb, sm_congr (g := fun i => (if i < b then sm n fun k => y k * Q i k else 0) * R i l) (fun i hi => by rw [D.good.r i l hi hl]), D.rowB hl, if_pos (by omega), if_pos (by omega), h2 l (by omega)]
      omega
    have := z j hj
    omega
/-- the left rows behind the steps make nothing -/
theorem DiagV.left {i : Nat} (h1 : b ≤ i) (h2 : i < m) : ∀ j, j < n → xT m T (L i) j = 0 := zero_of D.good.q fun l hl => by
  rw [← Bil.xT, ← D.good.r i l h2 hl]
  by_cases q : i = l
  · rw [← q]; exact D.zer i h1
  · exact D.off i l q
/-- and all that make nothing come of them -/
theorem DiagV.ker {x : Nat → Int} (h : ∀ j, j < n → xT m T x j = 0) : ∃ c : Nat → Int, (∀ i, i < b → c i = 0) ∧ ∀ a, a < m → sm m (fun i => c i * L i a) = x a := by
  obtain ⟨c, hc⟩ := D.good.l.spn x
  refine ⟨c, fun i hi => ?_, hc⟩
  have bm := D.bm
  have bn := D.bn
  have e1 : Bil m n T x (Q i) = 0 := by
    rw [Bil.xT]
    exact sm_zero fun k hk => by rw [h k hk]; simp
  have e2 : Bil m n T x (Q i) = sm m fun k => c k * R k i := by
    rw [← Bil.ext hc, Bil.comb]
    exact sm_congr fun k hk => by rw [D.good.r k i hk (by omega)]
  rw [e1, D.rowB (by omega), if_pos (by omega)] at e2
  have p := D.pos i hi
  rcases Int.mul_eq_zero.mp e2.symm with z | z
  · exact z
  · omega
end
end Wk

set_option Elab.async false
set_option linter.all false
set_option maxRecDepth 100000
set_option maxHeartbeats 1000000
namespace Wk
open PySem PySem.Spec PyProof.Rows
def blk (a : Nat) (X : Mx) (B : Nat) : Prop := ∀ k l, a ≤ k → a ≤ l → (X k l).natAbs ≤ B
theorem clear_some {a m n n2 : Nat} (ha : a < m) : ∀ (is : List Nat) (R S : List (List Int)), Mat R m n → Mat S m n2 → (∀ i ∈ is, i < m - (a + 1)) → is.Nodup → (∀ i ∈ is, numOk R a (a + 1 + i) = true) → ∃ R' S', clearM a is R S = some (R', S')
  | [], R, S, _, _, _, _, _ => ⟨R, S, rfl⟩
  | c :: is, R, S, M1, M2, hi, nd, hn => by
    have hc : a + 1 + c < m := by have := hi c List.mem_cons_self; omega
    have nc := (List.nodup_cons.mp nd).1
    unfold clearM
    rw [if_pos (hn c List.mem_cons_self)]
    refine clear_some ha is _ _ (M1.take ha hc) (M2.take ha hc) (fun j hj => hi j (List.mem_cons_of_mem _ hj)) (List.nodup_cons.mp nd).2 fun i hii => ?_
    have e1 : ∀ j, ent (takeM R a (a + 1 + c) ((ent R (a + 1 + c) a).fdiv (ent R a a))) a j = ent R a j := fun j => by rw [ent_take M1 ha hc, if_neg (by omega)]
    have ne : a + 1 + i ≠ a + 1 + c := fun z => nc (by have : i = c := by omega
                                                       rw [← this]; exact hii)
    have e2 : ∀ j, ent (takeM R a (a + 1 + c) ((ent R (a + 1 + c) a).fdiv (ent R a a))) (a + 1 + i) j = ent R (a + 1 + i) j := fun j => by rw [ent_take M1 ha hc, if_neg ne]
    have := hn i (List.mem_cons_of_mem _ hii)
    unfold numOk at this ⊢
    rw [e1, e2]; exact this
theorem numOk_of {R : List (List Int)} {a c : Nat} {v : Nat} (h0 : (ent R a a).natAbs = v) (hv : v ≠ 0) (hv2 : v < 2 ^ 62) (hc : (ent R c a).natAbs < 2 ^ 62) : numOk R a c = true := by
  unfold numOk
  have hp : ent R a a ≠ 0 := by omega
  have q := quo_abs (ent R c a) (ent R a a) hp
  have : ((ent R c a).fdiv (ent R a a)).natAbs ≤ (ent R c a).natAbs + (ent R a a).natAbs := Nat.le_trans (Nat.le_mul_of_pos_right _ (by omega)) q
  simp only [Bool.and_eq_true, decide_eq_true_eq]
  refine ⟨⟨hp, by omega⟩, by omega⟩
theorem turn_some {a m n v i j : Nat} {R L Q : List (List Int)} (M : Mats m n (R, L, Q)) (ha : a < m) (hb : a < n) (es : spotM R a = some (v, i, j)) (hB : blk a (ent R) (2 ^ 61)) : ∃ c Y, turnM a m n R L Q = some (c, Y) := by
  obtain ⟨s1, s2, s3, s4, s5, s6, _⟩ := spot_some (R := R) M.r es
  have Ms : Mat (swapM R a i) m n := Mat.swap M.r
  have Mc : Mat (swapM (colsM (swapM R a i) n) a j) n m := Mat.swap (Mat.cols Ms)
  have x1 : ∀ l k, ent (swapM (colsM (swapM R a i) n) a j) l k = uX a i j (ent R) k l := fun l k => by
    rw [ent_swap (by rw [(Mat.cols Ms).len]; exact hb) (by rw [(Mat.cols Ms).len]; exact s4), ent_cols Ms, ent_swap (by rw [M.r.len]; exact ha) (by rw [M.r.len]; exact s3)]; rfl
  have xp : uX a i j (ent R) a a = ent R i j := by unfold uX sw; rw [if_pos rfl, if_pos rfl]
  have xb : ∀ k l, a ≤ k → a ≤ l → (uX a i j (ent R) k l).natAbs ≤ 2 ^ 61 := fun k l hk hl => hB _ _ (sw_above s1 hk) (sw_above s2 hl)
  have v61 : v ≤ 2 ^ 61 := by rw [s5]; exact hB i j s1 s2
  obtain ⟨C2, Q2, ec⟩ := clear_some (a := a) (n2 := n) hb (List.range (n - (a + 1))) _ (swapM Q a j) Mc (Mat.swap M.q) (fun k hk => List.mem_range.mp hk) List.nodup_range fun k hk => numOk_of (v := v) (by rw [x1, xp]; exact s5.symm) s6 (by omega) (by rw [x1]; have := xb a (a + 1 + k) (Nat.le_refl a) (by omega); omega)
  obtain ⟨M2, MQ⟩ := clearM_mat ec Mc (Mat.swap M.q) hb (fun k hk => List.mem_range.mp hk)
  obtain ⟨c1, _⟩ := clear_all hb ec Mc (Mat.swap M.q)
  have x3 : ∀ k, ent (colsM C2 m) k a = uX a i j (ent R) k a := fun k => by
    rw [ent_cols M2, c1, x1, if_neg (Nat.lt_irrefl a)]; omega
  obtain ⟨R3, L2, er⟩ := clear_some (a := a) (n2 := m) ha (List.range (m - (a + 1))) (colsM C2 m) (swapM L a i) (Mat.cols M2) (Mat.swap M.l) (fun k hk => List.mem_range.mp hk) List.nodup_range fun k hk => numOk_of (v := v) (by rw [x3, xp]; exact s5.symm) s6 (by omega) (by rw [x3]; have := xb (a + 1 + k) a (by omega) (Nat.le_refl a); omega)
  obtain ⟨r1, _⟩ := clear_all ha er (Mat.cols M2) (Mat.swap M.l)
  have hp : ent R3 a a ≠ 0 := by rw [r1, if_neg (Nat.lt_irrefl a), x3, xp, Int.zero_mul]; omega
  unfold turnM
  rw [es]
  dsimp only
  rw [if_pos ⟨s3, s4⟩, ec]
  dsimp only
  rw [er]
  dsimp only
  rw [if_neg hp]
  split
  · split <;> exact ⟨_, _, rfl⟩
  · exact ⟨_, _, rfl⟩
theorem uX_aa (a i j : Nat) (X : Mx) : uX a i j X a a = X i j := by unfold uX sw; rw [if_pos rfl, if_pos rfl]
theorem uC_a (a i j : Nat) (X : Mx) (k : Nat) : uC a i j X k a = uX a i j X k a := by unfold uC; rw [uqc_a]; omega
theorem uR_rowa (a i j : Nat) (X : Mx) (l : Nat) : uR a i j X a l = uC a i j X a l := by unfold uR; rw [uqr_a]; omega
theorem uR_aa (a i j : Nat) (X : Mx) : uR a i j X a a = X i j := by rw [uR_rowa, uC_a, uX_aa]
theorem abs_mod {x p : Int} (hp : p ≠ 0) : (x - x.fdiv p * p).natAbs < p.natAbs := by
  rcases Int.lt_or_gt_of_ne hp with l | l
  · have := quo2 x p l; omega
  · have := quo1 x p l; omega
theorem uC_row {a i j : Nat} {X : Mx} (hp : X i j ≠ 0) {l : Nat} (hl : a < l) : (uC a i j X a l).natAbs < (X i j).natAbs := by
  unfold uC uqc
  rw [if_pos hl, uX_aa]
  exact abs_mod hp
theorem uR_colE (a i j : Nat) (X : Mx) {k : Nat} (hk : a < k) : uR a i j X k a = uX a i j X k a - (uX a i j X k a).fdiv (X i j) * X i j := by
  unfold uR uqr
  rw [if_pos hk, uC_a, uC_a, uX_aa]
theorem uR_col {a i j : Nat} {X : Mx} (hp : X i j ≠ 0) {k : Nat} (hk : a < k) : (uR a i j X k a).natAbs < (X i j).natAbs := by
  rw [uR_colE a i j X hk]; exact abs_mod hp
/-- how the numbers may grow -/
structure Grow (a : Nat) (V P : Nat → Mx → Prop) : Prop where
  v61 : ∀ v X, V v X → blk a X (2 ^ 61)
  p61 : ∀ v X, P v X → blk a X (2 ^ 61)
  turn : ∀ v X i j, a ≤ i → a ≤ j → v = (X i j).natAbs → v ≠ 0 → V v X → P v (uR a i j X)
  next : ∀ v v' X k l, a ≤ k → a ≤ l → v' = (X k l).natAbs → v' ≠ 0 → v' < v → P v X → V v' X
  odd : ∀ v X o, a < o → P v X → (∀ k, a < k → X k a = 0) → (∀ l, a < l → X a l = 0) → P v fun k l => if k = a then X a l + X o l else X k l
  same : ∀ v X, v = (X a a).natAbs → v ≠ 0 → P v X → (∀ k, a < k → X k a = 0) → P v (uR a a a X)
theorem corner_ex {a m n : Nat} {T : Mx} {V P : Nat → Mx → Prop} (G : Grow a V P) (ha : a < m) (hb : a < n) : ∀ (N v : Nat) (R L Q : List (List Int)) (i j : Nat), v ≤ N → St a m n T (R, L, Q) → spotM R a = some (v, i, j) → V v (ent R) →
    ∃ f Y w, cornerM a m n f (R, L, Q) = some Y ∧ w ≤ v ∧ P w (ent Y.1)
  | 0, v, R, L, Q, i, j, hN, S, es, _ => by
    obtain ⟨_, _, _, _, _, s6, _⟩ := spot_some (R := R) S.mats.r es
    omega
  | N + 1, v, R, L, Q, i, j, hN, S, es, hV => by
    obtain ⟨s1, s2, s3, s4, s5, s6, s7⟩ := spot_some (R := R) S.mats.r es
    have hp : ent R i j ≠ 0 := by omega
    obtain ⟨c, Y, et⟩ := turn_some S.mats ha hb es (G.v61 v _ hV)
    have St2 := (turn_st et S ha hb).1
    obtain ⟨v', i', j', R3, L3, Q3, es', hi, hj, M3', e1, e2, e3, h0, hc⟩ := turn_val et S.mats ha hb
    rw [es] at es'
    cases es'
    have er : ent R3 = uR a i j (ent R) := funext fun k => funext fun l => e1 k l
    have hP : P v (ent R3) := by rw [er]; exact G.turn v _ i j s1 s2 s5 s6 hV
    have paa : (ent R3 a a).natAbs = v := by rw [er, uR_aa]; exact s5.symm
    -- a table with a smaller number goes on
    have go : ∀ (X : M3), St a m n T X → P v (ent X.1) → (∃ k l, a ≤ k ∧ a ≤ l ∧ ent X.1 k l ≠ 0 ∧ (ent X.1 k l).natAbs < v) → ∃ f Y w, cornerM a m n f X = some Y ∧ w ≤ v ∧ P w (ent Y.1) := fun X SX PX ⟨k, l, hk, hl, h1, h2⟩ => by
      cases e : spotM X.1 a with
      | none => exact absurd (spot_none SX.mats.r e k l hk hl) h1
      | some p =>
        obtain ⟨v2, i2, j2⟩ := p
        obtain ⟨t1, t2, t3, t4, t5, t6, t7⟩ := spot_some SX.mats.r e
        have hlt : v2 < v := Nat.lt_of_le_of_lt (t7 k l hk hl h1) h2
        obtain ⟨X1, X2, X3⟩ := X
        obtain ⟨f, Y, w, c1, c2, c3⟩ := corner_ex G ha hb N v2 X1 X2 X3 i2 j2 (by omega) SX e (G.next v v2 _ i2 j2 t1 t2 t5 t6 hlt PX)
        exact ⟨f, Y, w, c1, by omega, c3⟩
    have small : ¬ ((∀ k, a < k → ent R3 k a = 0) ∧ ∀ l, a < l → ent R3 a l = 0) → ∃ k l, a ≤ k ∧ a ≤ l ∧ ent R3 k l ≠ 0 ∧ (ent R3 k l).natAbs < v := fun hn => by
      by_cases q : ∀ k, a < k → ent R3 k a = 0
      · obtain ⟨l, hl⟩ := Classical.not_forall.mp fun z => hn ⟨q, z⟩
        obtain ⟨hl1, hl2⟩ := Classical.not_imp.mp hl
        refine ⟨a, l, Nat.le_refl a, by omega, hl2, ?_⟩
        rw [er, uR_rowa, s5]; exact uC_row hp hl1
      · obtain ⟨k, hk⟩ := Classical.not_forall.mp q
        obtain ⟨hk1, hk2⟩ := Classical.not_imp.mp hk
        refine ⟨k, a, by omega, Nat.le_refl a, hk2, ?_⟩
        rw [er, s5]; exact uR_col hp hk1
    rcases hc with ⟨rfl, z1, z2, _, rfl⟩ | ⟨rfl, z1, z2, o, eo, rfl⟩ | ⟨rfl, hn, rfl⟩
    · refine ⟨1, (R3, L3, Q3), v, ?_, Nat.le_refl v, hP⟩
      unfold cornerM; rw [et]
    · obtain ⟨o1, o2, l, l1, l2⟩ := odd_some (R := R3) M3'.r eo
      have e4 : ent (takeM R3 o a (-1)) = fun k l => if k = a then ent R3 a l + ent R3 o l else ent R3 k l := funext fun k => funext fun l => by
        show ent (takeM R3 o a (-1)) k l = if k = a then ent R3 a l + ent R3 o l else ent R3 k l
        rw [ent_take (R := R3) M3'.r o2 ha]
        by_cases q : k = a
        · rw [if_pos q, if_pos q]; omega
        · rw [if_neg q, if_neg q]
      have P4 : P v (ent (takeM R3 o a (-1))) := by rw [e4]; exact G.odd v _ o o1 hP z1 z2
      have la : a < l := by
        rcases Nat.lt_trichotomy a l with z | z | z
        · exact z
        · exfalso; rw [← z, z1 o o1, Int.zero_fmod] at l2; exact l2 rfl
        · exfalso
          have := uR_shape s1 s2 S.shape
          rw [er, this.1 o l (by omega) (.inr z), Int.zero_fmod] at l2; exact l2 rfl
      have aa4 : ent (takeM R3 o a (-1)) a a = ent R3 a a := by rw [e4]; dsimp only; rw [if_pos rfl, z1 o o1]; omega
      have col4 : ∀ k, a < k → ent (takeM R3 o a (-1)) k a = 0 := fun k hk => by rw [e4]; dsimp only; rw [if_neg (by omega)]; exact z1 k hk
      by_cases q : ∃ k l, a ≤ k ∧ a ≤ l ∧ ent (takeM R3 o a (-1)) k l ≠ 0 ∧ (ent (takeM R3 o a (-1)) k l).natAbs < v
      · obtain ⟨f, Y, w, c1, c2, c3⟩ := go _ St2 P4 q
        refine ⟨f + 1, Y, w, ?_, c2, c3⟩
        unfold cornerM; rw [et]; exact c1
      · -- the same number again: only the row is reduced
        have h4 : ent (takeM R3 o a (-1)) a a ≠ 0 := by rw [aa4]; exact h0
        have es4 := spot_first (R := takeM R3 o a (-1)) St2.mats.r ha hb h4 fun k l hk hl hn => by
          rw [aa4, paa]
          rcases Nat.lt_or_ge (ent (takeM R3 o a (-1)) k l).natAbs v with z | z
          · exact absurd ⟨k, l, hk, hl, hn, z⟩ q
          · exact z
        obtain ⟨c5, Y5, et5⟩ := turn_some St2.mats ha hb es4 (G.p61 v _ P4)
        have St5 := (turn_st et5 St2 ha hb).1
        obtain ⟨v6, i6, j6, R5, L5, Q5, es6, _, _, M5', f1, f2, f3, f0, fc⟩ := turn_val et5 St2.mats ha hb
        rw [es4] at es6
        cases es6
        have er5 : ent R5 = uR a a a (ent (takeM R3 o a (-1))) := funext fun k => funext fun l => f1 k l
        have P5 : P v (ent R5) := by
          rw [er5]
          exact G.same v _ (by rw [aa4]; exact paa.symm) s6 P4 col4
        have r5 : ent R5 a l = (ent R3 o l).fmod (ent R3 a a) := by
          rw [er5, uR_rowa]
          unfold uC uqc
          rw [if_pos la, uX_aa]
          have x1 : uX a a a (ent (takeM R3 o a (-1))) a l = ent R3 o l := by
            unfold uX sw
            rw [if_pos rfl, if_neg (by omega), if_neg (by omega), e4]
            dsimp only
            rw [if_pos rfl, z2 l la]; omega
          rw [x1, aa4, Int.fmod_def, Int.mul_comm]
        have n5 : ent R5 a l ≠ 0 := by rw [r5]; exact l2
        have s5' : (ent R5 a l).natAbs < v := by
          rw [r5, Int.fmod_def, Int.mul_comm, ← paa]; exact abs_mod h0
        rcases fc with ⟨rfl, _, y2, _, rfl⟩ | ⟨rfl, _, y2, _⟩ | ⟨rfl, _, rfl⟩
        · exact absurd (y2 l la) n5
        · exact absurd (y2 l la) n5
        · obtain ⟨f, Y, w, c1, c2, c3⟩ := go _ St5 P5 ⟨a, l, Nat.le_refl a, by omega, n5, s5'⟩
          refine ⟨f + 2, Y, w, ?_, c2, c3⟩
          unfold cornerM; rw [et]
          show cornerM a m n (f + 1) _ = _
          unfold cornerM; rw [et5]; exact c1
    · obtain ⟨f, Y, w, c1, c2, c3⟩ := go _ St2 hP (small hn)
      refine ⟨f + 1, Y, w, ?_, c2, c3⟩
      unfold cornerM; rw [et]; exact c1
end Wk

set_option Elab.async false
set_option linter.all false
set_option maxRecDepth 100000
set_option maxHeartbeats 1000000
namespace Wk
open PySem PySem.Spec PyProof.Rows
def Bb (v : Nat) : Nat := if v = 1 then 628 else if v = 2 then 33 else 6
def Tb (v : Nat) : Nat := Bb v + (Bb v / v + 1) * (Bb v + v)
theorem Tb_le : ∀ v, v ≤ 6 → Tb v ≤ 400000 ∧ Bb v ≤ 628 := by decide
theorem uX_id (a : Nat) (X : Mx) : uX a a a X = X := funext fun k => funext fun l => by
  have e : ∀ k, sw a a k = k := fun k => by unfold sw; split <;> (try split) <;> omega
  unfold uX; rw [e, e]
theorem uR_same {a : Nat} {X : Mx} (h : ∀ k, a < k → X k a = 0) {k : Nat} (hk : a < k) (l : Nat) : uR a a a X k l = X k l := by
  have c : ∀ l, uC a a a X k l = X k l := fun l => by unfold uC; rw [uX_id, h k hk]; simp
  unfold uR uqr
  rw [if_pos hk, c, c, h k hk, Int.zero_fdiv]; simp
theorem uX_dvd {a i j : Nat} {g : Int} {X : Mx} (hi : a ≤ i) (hj : a ≤ j) (h : ∀ k l, a ≤ k → a ≤ l → g ∣ X k l) : ∀ k l, a ≤ k → a ≤ l → g ∣ uX a i j X k l := fun k l hk hl => h _ _ (sw_above hi hk) (sw_above hj hl)
theorem uR_dvd {a i j : Nat} {g : Int} {X : Mx} (hi : a ≤ i) (hj : a ≤ j) (h : ∀ k l, a ≤ k → a ≤ l → g ∣ X k l) : ∀ k l, a ≤ k → a ≤ l → g ∣ uR a i j X k l := fun k l hk hl => by
  have x := uX_dvd hi hj h
  have c : ∀ k l, a ≤ k → a ≤ l → g ∣ uC a i j X k l := fun k l hk hl => Int.dvd_sub (x k l hk hl) (Int.dvd_mul_of_dvd_right (x k a hk (Nat.le_refl a)))
  exact Int.dvd_sub (c k l hk hl) (Int.dvd_mul_of_dvd_right (c a l (Nat.le_refl a) hl))
theorem quo_le {x p : Int} {B v : Nat} (hp : p.natAbs = v) (hv : v ≠ 0) (hx : x.natAbs ≤ B) : (x.fdiv p).natAbs ≤ B / v + 1 := by
  have := quo_abs x p (by omega)
  rw [hp] at this
  have h2 : (x.fdiv p).natAbs * v ≤ B + v := Nat.le_trans this (Nat.add_le_add_right hx v)
  have h3 : (x.fdiv p).natAbs ≤ (B + v) / v := (Nat.le_div_iff_mul_le (by omega)).mpr h2
  rwa [Nat.add_div_right _ (by omega)] at h3
theorem turn_bd {a i j B v : Nat} {X : Mx} (hi : a ≤ i) (hj : a ≤ j) (hv : v = (X i j).natAbs) (h0 : v ≠ 0) (hB : blk a X B) : blk a (uR a i j X) (B + (B / v + 1) * (B + v)) := by
  have vB : v ≤ B := by rw [hv]; exact hB i j hi hj
  have hp : X i j ≠ 0 := by omega
  have xb : ∀ k l, a ≤ k → a ≤ l → (uX a i j X k l).natAbs ≤ B := fun k l hk hl => hB _ _ (sw_above hi hk) (sw_above hj hl)
  have e : (B / v + 1) * (B + v) = (B / v + 1) * B + (B / v + 1) * v := Nat.mul_add _ _ _
  have q1 : B ≤ (B / v + 1) * B := Nat.le_mul_of_pos_left B (Nat.succ_pos _)
  have qc : ∀ l, a ≤ l → (uqc a i j X l).natAbs ≤ B / v + 1 := fun l hl => by
    unfold uqc
    split
    · exact quo_le (by rw [uX_aa]; exact hv.symm) h0 (xb a l (Nat.le_refl a) hl)
    · simp
  have cb : ∀ k l, a ≤ k → a ≤ l → (uC a i j X k l).natAbs ≤ B + (B / v + 1) * B := fun k l hk hl => by
    unfold uC
    refine Nat.le_trans (Int.natAbs_sub_le _ _) (Nat.add_le_add (xb k l hk hl) ?_)
    rw [Int.natAbs_mul]
    exact Nat.mul_le_mul (qc l hl) (xb k a hk (Nat.le_refl a))
  have ra : ∀ l, a ≤ l → (uC a i j X a l).natAbs ≤ v := fun l hl => by
    by_cases q : a < l
    · rw [hv]; exact Nat.le_of_lt (uC_row hp q)
    · have : l = a := by omega
      rw [this, uC_a, uX_aa]; omega
  have qr : ∀ k, a ≤ k → (uqr a i j X k).natAbs ≤ B / v + 1 := fun k hk => by
    unfold uqr
    split
    · exact quo_le (by rw [uC_a, uX_aa]; exact hv.symm) h0 (by rw [uC_a]; exact xb k a hk (Nat.le_refl a))
    · simp
  intro k l hk hl
  unfold uR
  refine Nat.le_trans (Int.natAbs_sub_le _ _) ?_
  rw [Int.natAbs_mul]
  have m1 : (uqr a i j X k).natAbs * (uC a i j X a l).natAbs ≤ (B / v + 1) * v := Nat.mul_le_mul (qr k hk) (ra l hl)
  have m2 := cb k l hk hl
  omega
/-- the first corner: small numbers -/
def V1 (a g v0 : Nat) (v : Nat) (X : Mx) : Prop := (∀ k l, a ≤ k → a ≤ l → (g : Int) ∣ X k l) ∧ v ≤ v0 ∧ blk a X (Bb v)
def P1 (a g v0 : Nat) (v : Nat) (X : Mx) : Prop := (∀ k l, a ≤ k → a ≤ l → (g : Int) ∣ X k l) ∧ v ≤ v0 ∧ blk a X (Tb v)
theorem grow1 {a g v0 : Nat} (h6 : v0 ≤ 6) (hG : ∀ v, v ≤ v0 → ∀ v', v' < v → v' ≠ 0 → g ∣ v' → Tb v ≤ Bb v') : Grow a (V1 a g v0) (P1 a g v0) where
  v61 := fun v X ⟨_, h1, h2⟩ k l hk hl => Nat.le_trans (h2 k l hk hl) (by have := (Tb_le v (by omega)).2; omega)
  p61 := fun v X ⟨_, h1, h2⟩ k l hk hl => Nat.le_trans (h2 k l hk hl) (by have := (Tb_le v (by omega)).1; omega)
  turn := fun v X i j hi hj hv h0 ⟨d, h1, h2⟩ => ⟨uR_dvd hi hj d, h1, turn_bd hi hj hv h0 h2⟩
  next := fun v v' X k l hk hl hv h0 hlt ⟨d, h1, h2⟩ => ⟨d, by omega, fun i j hi hj => Nat.le_trans (h2 i j hi hj) (hG v h1 v' hlt h0 (by
    have := d k l hk hl
    rw [hv]
    have := Int.natAbs_dvd_natAbs.mpr this
    simpa using this))⟩
  odd := fun v X o ho ⟨d, h1, h2⟩ z1 z2 => ⟨fun k l hk hl => by
    dsimp only; split
    · exact Int.dvd_add (d a l (Nat.le_refl a) hl) (d o l (by omega) hl)
    · exact d k l hk hl, h1, fun k l hk hl => by
    dsimp only; split
    · by_cases q : a < l
      · rw [z2 l q, Int.zero_add]; exact h2 o l (by omega) hl
      · have : l = a := by omega
        rw [this, z1 o ho, Int.add_zero]; exact h2 a a (Nat.le_refl a) (Nat.le_refl a)
    · exact h2 k l hk hl⟩
  same := fun v X hv h0 ⟨d, h1, h2⟩ z => ⟨uR_dvd (Nat.le_refl a) (Nat.le_refl a) d, h1, fun k l hk hl => by
    by_cases q : a < k
    · rw [uR_same z q]; exact h2 k l hk hl
    · have : k = a := by omega
      subst this
      by_cases q2 : k < l
      · rw [uR_rowa]
        have := uC_row (a := k) (i := k) (j := k) (X := X) (by omega) q2
        have := h2 k k (Nat.le_refl k) (Nat.le_refl k)
        omega
      · have : l = k := by omega
        rw [this, uR_aa]; exact h2 k k (Nat.le_refl k) (Nat.le_refl k)⟩
/-- a corner of two by two: the determinant -/
def det2 (a : Nat) (X : Mx) : Int := X a a * X (a + 1) (a + 1) - X a (a + 1) * X (a + 1) a
def V2 (a D E : Nat) (v : Nat) (X : Mx) : Prop := (∀ k l, a ≤ k → a ≤ l → (a + 2 ≤ k ∨ a + 2 ≤ l) → X k l = 0) ∧ v ≤ E ∧ blk a X (D + E) ∧ (det2 a X).natAbs ≤ D
theorem v2_turn {a D E v i j : Nat} {X : Mx} (hi : a ≤ i) (hj : a ≤ j) (hv : v = (X i j).natAbs) (h0 : v ≠ 0) (h : V2 a D E v X) : V2 a D E v (uR a i j X) := by
  obtain ⟨z, h1, h2, h3⟩ := h
  have hp : X i j ≠ 0 := by omega
  have i1 : i < a + 2 := by
    rcases Nat.lt_or_ge i (a + 2) with q | q
    · exact q
    · exact absurd (z i j hi hj (.inl q)) hp
  have j1 : j < a + 2 := by
    rcases Nat.lt_or_ge j (a + 2) with q | q
    · exact q
    · exact absurd (z i j hi hj (.inr q)) hp
  have s1 : ∀ i k, a ≤ i → i < a + 2 → a + 2 ≤ k → sw a i k = k := fun i k h1 h2 h3 => by unfold sw; rw [if_neg (by omega), if_neg (by omega)]
  have xz : ∀ k l, a ≤ k → a ≤ l → (a + 2 ≤ k ∨ a + 2 ≤ l) → uX a i j X k l = 0 := fun k l hk hl hh => by
    unfold uX
    refine z _ _ (sw_above hi hk) (sw_above hj hl) ?_
    rcases hh with hh | hh
    · left; rw [s1 i k hi i1 hh]; exact hh
    · right; rw [s1 j l hj j1 hh]; exact hh
  have cz : ∀ k l, a ≤ k → a ≤ l → (a + 2 ≤ k ∨ a + 2 ≤ l) → uC a i j X k l = 0 := fun k l hk hl hh => by
    unfold uC
    rw [xz k l hk hl hh]
    rcases hh with hh | hh
    · rw [xz k a hk (Nat.le_refl a) (.inl hh)]; simp
    · have : uqc a i j X l = 0 := by unfold uqc; rw [if_pos (by omega), xz a l (Nat.le_refl a) hl (.inr hh), Int.zero_fdiv]
      rw [this]; simp
  have rz : ∀ k l, a ≤ k → a ≤ l → (a + 2 ≤ k ∨ a + 2 ≤ l) → uR a i j X k l = 0 := fun k l hk hl hh => by
    unfold uR
    rw [cz k l hk hl hh]
    rcases hh with hh | hh
    · have : uqr a i j X k = 0 := by unfold uqr; rw [if_pos (by omega), cz k a hk (Nat.le_refl a) (.inl hh), Int.zero_fdiv]
      rw [this]; simp
    · rw [cz a l (Nat.le_refl a) hl (.inr hh)]; simp
  -- determinants
  have dX : (det2 a (uX a i j X)).natAbs = (det2 a X).natAbs := by
    have ei : i = a ∨ i = a + 1 := by omega
    have ej : j = a ∨ j = a + 1 := by omega
    have sa : ∀ i, sw a i a = i := fun i => by unfold sw; rw [if_pos rfl]
    have s0 : sw a a (a + 1) = a + 1 := by unfold sw; rw [if_neg (by omega), if_neg (by omega)]
    have s2 : sw a (a + 1) (a + 1) = a := by unfold sw; rw [if_neg (by omega), if_pos rfl]
    unfold det2 uX
    rcases ei with ei | ei <;> rcases ej with ej | ej
    · rw [ei, ej, sa, s0]
    · rw [ei, ej, sa, sa, s0, s2]; omega
    · rw [ei, ej, sa, sa, s0, s2]
      have e1 : X (a + 1) a * X a (a + 1) = X a (a + 1) * X (a + 1) a := Int.mul_comm _ _
      have e2 : X (a + 1) (a + 1) * X a a = X a a * X (a + 1) (a + 1) := Int.mul_comm _ _
      omega
    · rw [ei, ej, sa, s2]
      have e1 : X (a + 1) a * X a (a + 1) = X a (a + 1) * X (a + 1) a := Int.mul_comm _ _
      have e2 : X (a + 1) (a + 1) * X a a = X a a * X (a + 1) (a + 1) := Int.mul_comm _ _
      omega
  have dC : det2 a (uC a i j X) = det2 a (uX a i j X) := by
    unfold det2 uC
    rw [uqc_a]
    simp only [Int.zero_mul, Int.sub_zero, Int.mul_sub, Int.sub_mul]
    have e1 : uX a i j X a a * (uqc a i j X (a + 1) * uX a i j X (a + 1) a) = uqc a i j X (a + 1) * uX a i j X a a * uX a i j X (a + 1) a := by rw [Int.mul_left_comm, Int.mul_assoc]
    omega
  have dR : det2 a (uR a i j X) = det2 a (uC a i j X) := by
    unfold det2 uR
    rw [uqr_a]
    simp only [Int.zero_mul, Int.sub_zero, Int.mul_sub, Int.sub_mul]
    have e1 : uC a i j X a a * (uqr a i j X (a + 1) * uC a i j X a (a + 1)) = uC a i j X a (a + 1) * (uqr a i j X (a + 1) * uC a i j X a a) := by rw [Int.mul_left_comm, Int.mul_left_comm (uC a i j X a (a + 1)), Int.mul_comm (uC a i j X a a)]
    omega
  have d4 : (det2 a (uR a i j X)).natAbs ≤ D := by rw [dR, dC, dX]; exact h3
  have b1 : (uR a i j X a (a + 1)).natAbs < v := by rw [uR_rowa, hv]; exact uC_row hp (by omega)
  have b2 : (uR a i j X (a + 1) a).natAbs < v := by rw [hv]; exact uR_col hp (by omega)
  have b3 : (uR a i j X a a).natAbs = v := by rw [uR_aa]; exact hv.symm
  have b4 : (uR a i j X (a + 1) (a + 1)).natAbs ≤ D + v := by
    have e : uR a i j X a a * uR a i j X (a + 1) (a + 1) = det2 a (uR a i j X) + uR a i j X a (a + 1) * uR a i j X (a + 1) a := by unfold det2; omega
    have n1 : v * (uR a i j X (a + 1) (a + 1)).natAbs ≤ D + v * v := by
      rw [← b3, ← Int.natAbs_mul, e, b3]
      refine Nat.le_trans (Int.natAbs_add_le _ _) (Nat.add_le_add d4 ?_)
      rw [Int.natAbs_mul]
      exact Nat.mul_le_mul (Nat.le_of_lt b1) (Nat.le_of_lt b2)
    rcases Nat.lt_or_ge (D + v) (uR a i j X (a + 1) (a + 1)).natAbs with q | q
    · exfalso
      have : v * (D + v + 1) ≤ v * (uR a i j X (a + 1) (a + 1)).natAbs := Nat.mul_le_mul_left v q
      have e2 : v * (D + v + 1) = v * D + v * v + v := by rw [Nat.mul_add, Nat.mul_add, Nat.mul_one]
      have e3 : 1 * D ≤ v * D := Nat.mul_le_mul_right D (by omega)
      omega
    · exact q
  refine ⟨rz, h1, fun k l hk hl => ?_, d4⟩
  by_cases q : a + 2 ≤ k ∨ a + 2 ≤ l
  · rw [rz k l hk hl q]; simp
  · have ek : k = a ∨ k = a + 1 := by omega
    have el : l = a ∨ l = a + 1 := by omega
    rcases ek with rfl | rfl <;> rcases el with rfl | rfl <;> omega
theorem grow2 {a D E : Nat} (hK : D + E ≤ 2 ^ 61) : Grow a (V2 a D E) (V2 a D E) where
  v61 := fun v X ⟨_, _, h, _⟩ k l hk hl => Nat.le_trans (h k l hk hl) hK
  p61 := fun v X ⟨_, _, h, _⟩ k l hk hl => Nat.le_trans (h k l hk hl) hK
  turn := fun v X i j hi hj hv h0 h => v2_turn hi hj hv h0 h
  next := fun v v' X k l _ _ _ _ hlt ⟨h1, h2, h3, h4⟩ => ⟨h1, by omega, h3, h4⟩
  odd := fun v X o ho ⟨h1, h2, h3, h4⟩ z1 z2 => ⟨fun k l hk hl hh => by
    dsimp only; split
    · rename_i q
      have hl2 : a + 2 ≤ l := by omega
      rw [h1 a l (Nat.le_refl a) hl (.inr hl2), h1 o l (by omega) hl (.inr hl2)]; rfl
    · exact h1 k l hk hl hh, h2, fun k l hk hl => by
    dsimp only; split
    · by_cases q : a < l
      · rw [z2 l q, Int.zero_add]; exact h3 o l (by omega) hl
      · have : l = a := by omega
        rw [this, z1 o ho, Int.add_zero]; exact h3 a a (Nat.le_refl a) (Nat.le_refl a)
    · exact h3 k l hk hl, by
    unfold det2 at h4 ⊢
    dsimp only
    rw [if_pos rfl, if_neg (by omega), if_pos rfl, if_neg (by omega), z1 o ho, z1 (a + 1) (by omega)]
    rw [z1 (a + 1) (by omega)] at h4
    simpa using h4⟩
  same := fun v X hv h0 h _ => v2_turn (Nat.le_refl a) (Nat.le_refl a) hv h0 h
theorem corner_mono {a m n : Nat} : ∀ {f f' : Nat} {X Y : M3}, cornerM a m n f X = some Y → f ≤ f' → cornerM a m n f' X = some Y
  | 0, _, _, _, h, _ => by cases h
  | f + 1, 0, _, _, _, hf => by omega
  | f + 1, f' + 1, (R, L, Q), Y, h, hf => by
    unfold cornerM at h ⊢
    cases e : turnM a m n R L Q with
    | none => rw [e] at h; cases h
    | some p =>
      obtain ⟨c, X⟩ := p
      rw [e] at h
      cases c with
      | true => exact h
      | false => exact corner_mono (f := f) h (by omega)
def Dg (m n a : Nat) (X : M3) : Prop := ∃ f0, ∀ f, f0 ≤ f → ∃ g b Y, diagM f m n g a X = some (b, Y)
theorem dg_stop {m n a : Nat} {X : M3} (h : ¬ (a < m ∧ a < n ∧ (spotM X.1 a).isSome)) : Dg m n a X := ⟨0, fun f _ => ⟨0, a, X, by unfold diagM; rw [if_neg h]⟩⟩
theorem dg_step {m n a : Nat} {T : Mx} {V P : Nat → Mx → Prop} (G : Grow a V P) {X : M3} (S : St a m n T X) (hV : ∀ v i j, a < m → a < n → spotM X.1 a = some (v, i, j) → V v (ent X.1))
    (hN : ∀ (w : Nat) (R L Q : List (List Int)), a < m → a < n → Mat R m n → P w (ent R) → St (a + 1) m n T ((signM a R L).1, (signM a R L).2, Q) → Dg m n (a + 1) ((signM a R L).1, (signM a R L).2, Q)) : Dg m n a X := by
  by_cases h : a < m ∧ a < n ∧ (spotM X.1 a).isSome
  · obtain ⟨h1, h2, h3⟩ := h
    cases e : spotM X.1 a with
    | none => rw [e] at h3; cases h3
    | some p =>
      obtain ⟨v, i, j⟩ := p
      obtain ⟨R, L, Q⟩ := X
      obtain ⟨f1, ⟨R1, L1, Q1⟩, w, c1, c2, c3⟩ := corner_ex G h1 h2 v v R L Q i j (Nat.le_refl v) S e (hV v i j h1 h2 e)
      obtain ⟨S2, d1, d2, d3⟩ := corner_st h1 h2 c1 S
      obtain ⟨f0, hf⟩ := hN w R1 L1 Q1 h1 h2 S2.mats.r c3 (sign_st h1 h2 S2 d1 d2 d3)
      refine ⟨max f0 f1, fun f hle => ?_⟩
      obtain ⟨g, b, Y, hg⟩ := hf f (by omega)
      refine ⟨g + 1, b, Y, ?_⟩
      unfold diagM
      rw [if_pos ⟨h1, h2, h3⟩, corner_mono c1 (by omega)]
      exact hg
  · exact dg_stop h
theorem sign_abs {a m n : Nat} {R L : List (List Int)} (M : Mat R m n) (ha : a < m) (k l : Nat) : (ent (signM a R L).1 k l).natAbs = (ent R k l).natAbs := by
  unfold signM
  split
  · show (ent (R.set a (negR (R.getD a []))) k l).natAbs = _
    rw [ent_negS (by rw [M.len]; exact ha)]
    split <;> simp
  · rfl
def coefS (x : Int) : Prop := x = 0 ∨ x ∈ coefL
theorem diag_ex {m n : Nat} {tab : List (List Int)} (M : Mat tab m n) (hm : m ≤ 3) (hn : n ≤ 3) (hc : ∀ i j, coefS (ent tab i j)) : ∃ b R L Q, DiagR m n tab b R L Q := by
  have S0 : St 0 m n (ent tab) (tab, unitsM m, unitsM n) := ⟨⟨M, unitsM_mat m, unitsM_mat n⟩, good_start, fun i j _ hh => by omega, fun i hi => by omega⟩
  have cs : ∀ i j, ent tab i j = 0 ∨ ent tab i j = 1 ∨ ent tab i j = 2 ∨ ent tab i j = 3 ∨ ent tab i j = -1 ∨ ent tab i j = 4 ∨ ent tab i j = 6 := fun i j => by
    rcases hc i j with q | q
    · exact .inl q
    · simp only [coefL, List.mem_cons, List.not_mem_nil, or_false] at q
      omega
  -- the third corner
  have third : ∀ X : M3, St 2 m n (ent tab) X → blk 2 (ent X.1) (2 * 400000 ^ 2 + 400000) → Dg m n 2 X := fun X S hb => by
    have z : ∀ k l, 3 ≤ k ∨ 3 ≤ l → ent X.1 k l = 0 := fun k l h => by
      rcases h with h | h
      · exact ent_row (by rw [S.mats.r.len]; omega) l
      · exact ent_col S.mats.r (by omega)
    refine dg_step (grow2 (a := 2) (D := 0) (E := 2 * 400000 ^ 2 + 400000) (by decide)) S (fun v i j _ _ e => ?_) fun w R L Q h1 h2 _ _ S3 => dg_stop fun q => by omega
    obtain ⟨t1, t2, t3, t4, t5, t6, _⟩ := spot_some S.mats.r e
    refine ⟨fun k l _ _ hh => z k l (by omega), by rw [t5]; exact hb i j t1 t2, fun k l hk hl => by rw [Nat.zero_add]; exact hb k l hk hl, ?_⟩
    unfold det2
    rw [z 3 3 (.inl (Nat.le_refl 3)), z 2 3 (.inr (Nat.le_refl 3))]; simp
  have second : ∀ X : M3, St 1 m n (ent tab) X → blk 1 (ent X.1) 400000 → Dg m n 1 X := fun X S hb => by
    have z : ∀ k l, 3 ≤ k ∨ 3 ≤ l → ent X.1 k l = 0 := fun k l h => by
      rcases h with h | h
      · exact ent_row (by rw [S.mats.r.len]; omega) l
      · exact ent_col S.mats.r (by omega)
    refine dg_step (grow2 (a := 1) (D := 2 * 400000 ^ 2) (E := 400000) (by decide)) S (fun v i j _ _ e => ?_) fun w R L Q h1 h2 hR hP S3 => third _ S3 fun k l hk hl => ?_
    · obtain ⟨t1, t2, t3, t4, t5, t6, _⟩ := spot_some S.mats.r e
      refine ⟨fun k l _ _ hh => z k l (by omega), by rw [t5]; exact hb i j t1 t2, fun k l hk hl => Nat.le_trans (hb k l hk hl) (by omega), ?_⟩
      unfold det2
      refine Nat.le_trans (Int.natAbs_sub_le _ _) ?_
      rw [Int.natAbs_mul, Int.natAbs_mul]
      have m1 := Nat.mul_le_mul (hb 1 1 (by omega) (by omega)) (hb (1 + 1) (1 + 1) (by omega) (by omega))
      have m2 := Nat.mul_le_mul (hb 1 (1 + 1) (by omega) (by omega)) (hb (1 + 1) 1 (by omega) (by omega))
      omega
    · rw [sign_abs hR h1]
      exact hP.2.2.1 k l (by omega) (by omega)
  have first : Dg m n 0 (tab, unitsM m, unitsM n) := by
    have fin : ∀ g v0, v0 ≤ 6 → (∀ v, v ≤ v0 → ∀ v', v' < v → v' ≠ 0 → g ∣ v' → Tb v ≤ Bb v') → (∀ k l, (g : Int) ∣ ent tab k l) → (∀ v i j, spotM tab 0 = some (v, i, j) → v ≤ v0) → Dg m n 0 (tab, unitsM m, unitsM n) := fun g v0 h6 hG hd hv => by
      refine dg_step (grow1 (a := 0) h6 hG) S0 (fun v i j _ _ e => ⟨fun k l _ _ => hd k l, hv v i j e, fun k l _ _ => ?_⟩) fun w R L Q h1 h2 hR hP S3 => second _ S3 fun k l hk hl => ?_
      · have := cs k l
        have : (ent tab k l).natAbs ≤ 6 := by omega
        have : 6 ≤ Bb v := by unfold Bb; split <;> (try split) <;> omega
        show (ent tab k l).natAbs ≤ Bb v
        omega
      · rw [sign_abs hR h1]
        exact Nat.le_trans (hP.2.2 k l (by omega) (by omega)) (Tb_le w (by have := hP.2.1; omega)).1
    cases e : spotM tab 0 with
    | none =>
        refine dg_stop fun q => ?_
        have q := q.2.2
        rw [show spotM (tab, unitsM m, unitsM n).1 0 = spotM tab 0 from rfl, e] at q; cases q
    | some p =>
      obtain ⟨v, i, j⟩ := p
      obtain ⟨t1, t2, t3, t4, t5, t6, t7⟩ := spot_some M e
      have cv := cs i j
      have v6 : v = 1 ∨ v = 2 ∨ v = 3 ∨ v = 4 ∨ v = 6 := by omega
      have only : ∀ k l, ent tab k l = 0 ∨ v ≤ (ent tab k l).natAbs := fun k l => by
        by_cases q : ent tab k l = 0
        · exact .inl q
        · exact .inr (t7 k l (Nat.zero_le _) (Nat.zero_le _) q)
      by_cases v3 : v ≤ 3
      · exact fin 1 3 (by decide) (by decide) (fun k l => ⟨_, (Int.one_mul _).symm⟩) fun v' i' j' e' => by rw [e] at e'; cases e'; exact v3
      · by_cases v4 : v = 4
        · refine fin 2 4 (by decide) (by decide) (fun k l => ?_) fun v' i' j' e' => by rw [e] at e'; cases e'; omega
          have := cs k l
          have := only k l
          have : ent tab k l = 0 ∨ ent tab k l = 4 ∨ ent tab k l = 6 := by omega
          rcases this with q | q | q <;> rw [q] <;> decide
        · refine fin 6 6 (by decide) (by decide) (fun k l => ?_) fun v' i' j' e' => by rw [e] at e'; cases e'; omega
          have := cs k l
          have := only k l
          have : ent tab k l = 0 ∨ ent tab k l = 6 := by omega
          rcases this with q | q <;> rw [q] <;> decide
  obtain ⟨f0, hf⟩ := first
  obtain ⟨g, b, ⟨R, L, Q⟩, h⟩ := hf f0 (Nat.le_refl f0)
  exact ⟨b, R, L, Q, f0, g, h⟩
end Wk

set_option Elab.async false
set_option linter.all false
set_option maxRecDepth 100000
set_option maxHeartbeats 1000000
namespace Wk
open PySem PySem.Spec PyProof.Rows
theorem addedM_cons {c : Int} {cs : List Int} {r : List Int} {rows : List (List Int)} {k : Nat} : addedM (c :: cs) (r :: rows) k = (cs.zip rows).foldl (fun f p => addR f (scal p.2 p.1)) (addR (zerR k) (scal r c)) := rfl
theorem added_fold {k : Nat} {G : List (List Int)} : ∀ (l : List (Int × List Int)) (f : List Int), f.length = k → (∀ p ∈ l, p.2.length = k ∧ p.2 ∈ G) → InL G (vec f) → InL G (vec (l.foldl (fun f p => addR f (scal p.2 p.1)) f))
  | [], f, _, _, h => h
  | p :: l, f, hf, hl, h => by
    obtain ⟨p1, p2⟩ := hl p List.mem_cons_self
    rw [List.foldl_cons]
    refine added_fold l _ (by rw [addR_length, scal_length, hf, p1, Nat.min_self]) (fun q hq => hl q (List.mem_cons_of_mem _ hq)) ((h.add p.1 p2).as fun i => ?_)
    rw [vec_addR (by rw [scal_length, hf, p1]), vec_scal]
theorem added_in {cs : List Int} {rows : List (List Int)} {k : Nat} (w : Wd k rows) : InL rows (vec (addedM cs rows k)) := by
  refine added_fold _ _ (zerR_length k) (fun p hp => ?_) (InL.zero.as fun i => by rw [vec_zerR])
  have := (List.of_mem_zip (show (p.1, p.2) ∈ _ from hp)).2
  exact ⟨w _ this, this⟩
theorem added_bd {k N C : Nat} : ∀ (l : List (Int × List Int)) (f : List Int) (B : Nat), f.length = k → BdR B f → (∀ p ∈ l, p.2.length = k ∧ BdR N p.2 ∧ p.1.natAbs ≤ C) → BdR (B + l.length * (C * N)) (l.foldl (fun f p => addR f (scal p.2 p.1)) f)
  | [], f, B, _, hb, _ => hb.mono (by omega)
  | p :: l, f, B, hf, hb, hl => by
    obtain ⟨p1, p2, p3⟩ := hl p List.mem_cons_self
    rw [List.foldl_cons]
    refine (added_bd l _ (B + C * N) (by rw [addR_length, scal_length, hf, p1, Nat.min_self]) (fun i => ?_) fun q hq => hl q (List.mem_cons_of_mem _ hq)).mono ?_
    · rw [vec_addR (by rw [scal_length, hf, p1]), vec_scal]
      refine Nat.le_trans (Int.natAbs_add_le _ _) (Nat.add_le_add (hb i) ?_)
      rw [Int.natAbs_mul]
      exact Nat.mul_le_mul p3 (p2 i)
    · rw [List.length_cons, Nat.add_mul]; omega
theorem added_bd2 {k N C : Nat} {cs : List Int} {rows : List (List Int)} (w : Wd k rows) (hb : ∀ r ∈ rows, BdR N r) (hc : ∀ c ∈ cs, c.natAbs ≤ C) : BdR (rows.length * (C * N)) (addedM cs rows k) := by
  refine (added_bd (k := k) (N := N) (C := C) (cs.zip rows) (zerR k) 0 (zerR_length k) (fun i => by rw [vec_zerR]; exact Nat.le_refl 0) fun p hp => ?_).mono ?_
  · obtain ⟨z1, z2⟩ := List.of_mem_zip (show (p.1, p.2) ∈ _ from hp)
    exact ⟨w _ z2, hb _ z2, hc _ z1⟩
  · rw [Nat.zero_add, List.length_zip]
    exact Nat.mul_le_mul_right _ (Nat.min_le_right _ _)
theorem inl_lin {G : List (List Int)} {k : Nat} {d v : Nat → Int} (hv : InL G v) (h : ∀ r ∈ G, sm k (fun j => vec r j * d j) = 0) : sm k (fun j => v j * d j) = 0 := by
  induction hv with
  | zero => exact sm_zero fun j _ => by simp
  | add q _ hr ih =>
    rename_i v r _
    rw [sm_congr (g := fun j => v j * d j + q * (vec r j * d j)) (fun j _ => by rw [Int.add_mul, Int.mul_assoc]), sm_add, sm_mul, ih, h _ hr]; simp
theorem inl_coef {G : List (List Int)} {v : Vc} (hv : InL G v) : ∃ x : Nat → Int, ∀ i, v i = sm G.length fun t => x t * vec (G.getD t []) i := by
  induction hv with
  | zero => exact ⟨fun _ => 0, fun i => (sm_zero fun t _ => by simp).symm⟩
  | add q _ hr ih =>
    rename_i v r _
    obtain ⟨x, hx⟩ := ih
    obtain ⟨t0, ht, e⟩ := List.getElem_of_mem hr
    refine ⟨fun t => x t + (if t = t0 then q else 0), fun i => ?_⟩
    show v i + q * vec r i = sm G.length fun t => (x t + if t = t0 then q else 0) * vec (G.getD t []) i
    rw [hx i, sm_congr (g := fun t => x t * vec (G.getD t []) i + (if t = t0 then q else 0) * vec (G.getD t []) i) (fun t _ => Int.add_mul _ _ _), sm_add, sm_one (f := fun t => (if t = t0 then q else 0) * vec (G.getD t []) i) ht (fun t _ hn => by rw [if_neg hn]; simp), if_pos rfl, ← getD_get G [] ht, e]
theorem coef_inl {G : List (List Int)} (x : Nat → Int) : InL G fun i => sm G.length fun t => x t * vec (G.getD t []) i :=
  inl_sum (f := fun t => vec (G.getD t [])) (x := x) fun t ht => .mem (by rw [← getD_get G [] ht]; exact List.getElem_mem ht)
theorem coef_abs {x : Int} (h : x ∈ coefL) : x.natAbs ≤ 6 := by
  simp only [coefL, List.mem_cons, List.not_mem_nil, or_false] at h
  omega
section
variable {n : Nat} {ties : Ties} (W : Wb2 n ties)
include W
/-- what has no border is told by the others -/
theorem Wb2.ker {w : Nat → Int} (h1 : ∀ u, u < n → sm ties.length (fun i => w i * dl ties i u) = 0) (h2 : ∀ o ∈ otM n ties, w o = 0) : ∀ t, t < ties.length → w t = 0 := fun t ht => by
  have hE := W.small.2.2.2
  have e1 : w t = sm ties.length fun i => w i * (if t = i then 1 else 0) := by
    rw [sm_one (f := fun i => w i * (if t = i then 1 else 0)) ht (fun i _ hn => by rw [if_neg fun z => hn z.symm]; simp), if_pos rfl, Int.mul_one]
  have e2 : ∀ i, i < ties.length → w i * (if t = i then 1 else 0) = sm n fun u => w i * dl ties i u * vec (wayAt n ties u) t := fun i hi => by
    by_cases hb : i ∈ brM n ties
    · rw [← W.br_vec hb ht, ← dl_sum (fun u => vec (wayAt n ties u) t) hE hi, ← sm_mul]
      exact sm_congr fun u _ => by rw [Int.mul_assoc]
    · have : w i = 0 := h2 i (List.mem_filter.mpr ⟨List.mem_range.mpr hi, by simpa using hb⟩)
      rw [this]
      simp only [Int.zero_mul]
      exact (sm_zero fun _ _ => rfl).symm
  rw [e1, sm_congr e2, sm_swap]
  exact sm_zero fun u hu => by rw [sm_mulr, h1 u hu]; simp
theorem Wb2.ring_at {s t : Nat} (hs : s < (otM n ties).length) (ht : t < (otM n ties).length) : vec (ringOf n ties ((otM n ties).getD s 0)) ((otM n ties).getD t 0) = if t = s then 1 else 0 := by
  have hr := W.ri
  have e1 : (((ringM n ties).map fun r => (otM n ties).map fun i => r.getD i 0).getD s []) = (otM n ties).map fun i => (ringOf n ties ((otM n ties).getD s 0)).getD i 0 := by
    rw [getD_map _ (ringM n ties) [] [] (by rw [ringM, List.length_map]; exact hs)]
    have : (ringM n ties).getD s [] = ringOf n ties ((otM n ties).getD s 0) := getD_map _ _ 0 [] hs
    rw [this]
  have e2 : vec ((otM n ties).map fun i => (ringOf n ties ((otM n ties).getD s 0)).getD i 0) t = vec (ringOf n ties ((otM n ties).getD s 0)) ((otM n ties).getD t 0) := getD_map _ _ 0 0 ht
  rw [← e2, ← e1, hr]
  exact ent_units hs ht
theorem Wb2.ring_bord' {r : List Int} (hr : r ∈ ringM n ties) {u : Nat} (hu : u < n) : sm ties.length (fun j => vec r j * dl ties j u) = 0 := by
  obtain ⟨o, ho, rfl⟩ := List.mem_map.mp hr
  exact W.ring_bord (otM_lt o ho) hu
theorem Wb2.cell_len {c : List Int} (h : CellP (ringM n ties) ties.length c) : c.length = ties.length := h.length W.rl
theorem Wb2.cell_in {c : List Int} (h : CellP (ringM n ties) ties.length c) : InL (ringM n ties) (vec c) := by
  obtain ⟨fo, po, cs, hp, _, _, _, rfl⟩ := h
  have sub : ∀ r ∈ fo, r ∈ ringM n ties := fun r hr => hp.mem_iff.mp (List.mem_append_left _ hr)
  exact (added_in fun r hr => W.rl r (sub r hr)).mono (.of_sub sub)
theorem Wb2.cell_bd {c : List Int} (h : CellP (ringM n ties) ties.length c) : BdR 16 c := by
  obtain ⟨fo, po, cs, hp, hl, _, hc, rfl⟩ := h
  have sub : ∀ r ∈ fo, r ∈ ringM n ties := fun r hr => hp.mem_iff.mp (List.mem_append_left _ hr)
  refine (added_bd2 (N := 1) (C := 6) (fun r hr => W.rl r (sub r hr)) (fun r hr => W.r1 r (sub r hr)) fun x hx => coef_abs (hc x hx)).mono ?_
  have : fo.length * (6 * 1) ≤ 2 * (6 * 1) := Nat.mul_le_mul_right _ hl
  omega
theorem Wb2.rings_nodup : (ringM n ties).Nodup := by
  refine List.pairwise_iff_getElem.mpr fun i j hi hj hij e => ?_
  have lr : (ringM n ties).length = (otM n ties).length := by rw [ringM, List.length_map]
  have e1 : ∀ s, (hs : s < (ringM n ties).length) → (ringM n ties)[s] = ringOf n ties ((otM n ties).getD s 0) := fun s hs => by
    rw [getD_get _ [] hs]
    exact getD_map _ _ 0 [] (by rw [← lr]; exact hs)
  rw [e1 i hi, e1 j hj] at e
  rw [lr] at hi hj
  have a1 := W.ring_at (s := i) (t := i) (by omega) (by omega)
  have a2 := W.ring_at (s := j) (t := i) hj (by omega)
  rw [e, a2, if_pos rfl, if_neg (by omega)] at a1
  cases a1
theorem Wb2.cell_coef {c : List Int} (h : CellP (ringM n ties) ties.length c) {t : Nat} (ht : t < (otM n ties).length) : coefS (vec c ((otM n ties).getD t 0)) := by
  obtain ⟨fo, po, cs, hp, hl, hcl, hc, rfl⟩ := h
  have sub : ∀ r ∈ fo, r ∈ ringM n ties := fun r hr => hp.mem_iff.mp (List.mem_append_left _ hr)
  have w : ∀ r ∈ fo, r.length = ties.length := fun r hr => W.rl r (sub r hr)
  have at01 : ∀ r ∈ ringM n ties, ∃ s, s < (otM n ties).length ∧ r = ringOf n ties ((otM n ties).getD s 0) := fun r hr => by
    obtain ⟨o, ho, rfl⟩ := List.mem_map.mp hr
    obtain ⟨s, hs, e⟩ := List.getElem_of_mem ho
    exact ⟨s, hs, by rw [← getD_get _ 0 hs, e]⟩
  match fo, cs, hl, hcl with
  | [], [], _, _ => exact .inl (vec_zerR _ _)
  | [r], [c], _, _ =>
    have e : vec (addedM [c] [r] ties.length) ((otM n ties).getD t 0) = c * vec r ((otM n ties).getD t 0) := by
      show vec (addR (zerR ties.length) (scal r c)) _ = _
      rw [vec_addR (by rw [zerR_length, scal_length, w r List.mem_cons_self]), vec_zerR, vec_scal, Int.zero_add]
    rw [e]
    obtain ⟨s, hs, rfl⟩ := at01 r (sub r List.mem_cons_self)
    rw [W.ring_at hs ht]
    split
    · rw [Int.mul_one]; exact .inr (hc c List.mem_cons_self)
    · rw [Int.mul_zero]; exact .inl rfl
  | [r, r'], [c, c'], _, _ =>
    have e : vec (addedM [c, c'] [r, r'] ties.length) ((otM n ties).getD t 0) = c * vec r ((otM n ties).getD t 0) + c' * vec r' ((otM n ties).getD t 0) := by
      show vec (addR (addR (zerR ties.length) (scal r c)) (scal r' c')) _ = _
      have l1 := w r List.mem_cons_self
      have l2 := w r' (List.mem_cons_of_mem _ List.mem_cons_self)
      rw [vec_addR (by rw [addR_length, zerR_length, scal_length, scal_length, l1, l2, Nat.min_self]), vec_addR (by rw [zerR_length, scal_length, l1]), vec_zerR, vec_scal, vec_scal, Int.zero_add]
    rw [e]
    have ne : r ≠ r' := by
      have nd := (hp.nodup_iff).mpr W.rings_nodup
      rintro rfl
      simp at nd
    obtain ⟨s, hs, rfl⟩ := at01 r (sub r List.mem_cons_self)
    obtain ⟨s', hs', rfl⟩ := at01 r' (sub r' (List.mem_cons_of_mem _ List.mem_cons_self))
    rw [W.ring_at hs ht, W.ring_at hs' ht]
    by_cases q : t = s
    · by_cases q' : t = s'
      · exact absurd (by rw [← q, ← q']) ne
      · rw [if_pos q, if_neg q', Int.mul_one, Int.mul_zero, Int.add_zero]; exact .inr (hc c List.mem_cons_self)
    · by_cases q' : t = s'
      · rw [if_neg q, if_pos q', Int.mul_one, Int.mul_zero, Int.zero_add]; exact .inr (hc c' (List.mem_cons_of_mem _ List.mem_cons_self))
      · rw [if_neg q, if_neg q']; exact .inl (by simp)
  | _ :: _ :: _ :: _, _, h, _ => exact absurd h (by simp)
end
end Wk

set_option Elab.async false
set_option linter.all false
set_option maxRecDepth 100000
set_option maxHeartbeats 1000000
namespace Wk
open PySem PySem.Spec PyProof.Rows
abbrev linesC (cells : List (List Int)) : Lines := cells.map fun c => (c, [])
theorem relM_cells (cells : List (List Int)) : relM (linesC cells) = cells := by
  unfold relM linesC
  rw [List.map_map]
  refine (List.map_congr_left (g := id) fun c _ => ?_).trans (List.map_id _)
  show c ++ scal [] (-1) = c
  rw [show scal [] (-1) = [] from rfl, List.append_nil]
theorem linesC_ok {k : Nat} {cells : List (List Int)} (w : Wd k cells) : LinesOk k 0 (linesC cells) := fun p hp => by
  obtain ⟨c, hc, rfl⟩ := List.mem_map.mp hp
  exact ⟨w c hc, rfl⟩
theorem mix_abs {x : Int} (h : x ∈ mixL) : x.natAbs ≤ 3 := by
  simp only [mixL, List.mem_cons, List.not_mem_nil, or_false] at h
  omega
theorem addR_zero {k : Nat} {r : List Int} (h : r.length = k) : addR (zerR k) (scal r 1) = r := vec_ext (by rw [addR_length, zerR_length, scal_length, h, Nat.min_self]) fun i _ => by
  rw [vec_addR (by rw [zerR_length, scal_length, h]), vec_zerR, vec_scal]; omega
/-- one row that follows, or not -/
theorem follows_one {k : Nat} {cells : List (List Int)} {R : List Int} {res : Option (List Int)} (hk : k ≤ 100) (hc : cells.length ≤ 100) (w : Wd k cells) (hR : R.length = k) (ht : TimesR cells R res) : pFollows [cellsW k cells, wishD k 0 [(R, [])]] (.bool res.isSome) := by
  have lo := linesC_ok w
  have et : tabM (unitsM 1) [R] k = [R] := by
    show [addR (zerR k) (scal R 1)] = [R]
    rw [addR_zero hR]
  have ew : wantM (linesC cells) k 0 (unitsM 1) [] [R] = [(cells, R)] := by
    unfold wantM
    rw [et]
    show [(relM (linesC cells) ++ [], R ++ [])] = _
    rw [relM_cells, List.append_nil, List.append_nil]
  refine ⟨_, _, linesC cells, [(R, [])], unitsM 1, [], unitsM 0, fun _ => res.isSome, k, 0, 0, rfl, ⟨fit_wish (by simp; omega) (fun p hp => ?_), tup_wish _ _ _, fit_wish (by simp) (fun p hp => ?_), tup_wish _ _ _, ?_, ?_⟩, ?_⟩
  · rw [(lo p hp).1, (lo p hp).2]; omega
  · rw [List.mem_singleton.mp hp]; exact ⟨by show R.length ≤ 1000; omega, by simp⟩
  · exact ⟨by simp; omega, by simp, by omega, by decide, by decide, lo, fun p hp => by rw [List.mem_singleton.mp hp]; exact ⟨hR, rfl⟩, .triv (by simp), by decide, fun row hrow => by
      have : row = [1] := by simpa [unitsM, oneAt] using hrow
      subst this
      refine ⟨by decide, fun p hp => ?_⟩
      have : p = (1, R) := by simpa using hp
      subst this
      exact ⟨by show R.length ≤ 1000; omega, fun x _ => .of_right (show Builtin.Int.intBits (1 : Int) ≤ 64 by decide)⟩, by
      show Wd k (tabM (unitsM 1) [R] k)
      rw [et]
      intro r hr; rw [List.mem_singleton.mp hr]; exact hR⟩
  · intro p hp
    have hp : p ∈ wantM (linesC cells) k 0 (unitsM 1) [] [R] := hp
    rw [ew] at hp
    rw [List.mem_singleton.mp hp]
    exact ⟨res, ht, rfl⟩
  · show _ = PyData.bool ((wantM (linesC cells) k 0 (unitsM 1) [] [R]).all _)
    rw [ew]; simp
abbrev AllD : Prop := ∀ n ties, Small n ties → chkDiag n ties.length (incM n ties) = true
theorem diag_inc {n k : Nat} {tab : List (List Int)} (h : chkDiag n k tab = true) : ∃ b R L Q, DiagR k n tab b R L Q ∧ (∀ i, i < b → ent R i i = 1) ∧ ∀ r ∈ L, BdR 16 r := by
  unfold chkDiag at h
  cases e : diagM 12 k n 4 0 (tab, unitsM k, unitsM n) with
  | none => rw [e] at h; cases h
  | some p =>
    obtain ⟨b, R, L, Q⟩ := p
    rw [e] at h
    rw [Bool.and_eq_true] at h
    refine ⟨b, R, L, Q, ⟨12, 4, e⟩, fun i hi => ?_, fun r hr => smlRow_bd (List.all_eq_true.mp h.2 r hr)⟩
    have := List.all_eq_true.mp h.1 (ent R i i) (List.mem_map.mpr ⟨i, List.mem_range.mpr hi, rfl⟩)
    exact of_decide_eq_true this
theorem near_units (n : Nat) (ties : Ties) : (linesM n ties).map (·.1) = unitsM ties.length := by
  apply List.ext_getElem (by rw [List.length_map, lines_length, unitsM_length])
  intro i h1 h2
  have hi : i < ties.length := by rw [List.length_map, lines_length] at h1; exact h1
  rw [getD_get _ [] h1, getD_get _ [] h2]
  refine (getD_map _ (linesM n ties) ([], []) [] (by rw [lines_length]; exact hi)).trans ?_
  have e : (linesM n ties).getD i ([], []) = lineM n ties.length (ties.getD i (0, 0), i) := by
    unfold linesM
    rw [List.getD_eq_getElem?_getD, List.getD_eq_getElem?_getD, List.getElem?_map, List.getElem?_zipIdx, List.getElem?_eq_getElem hi]
    simp
  rw [e]
  refine Eq.symm ((getD_map (fun (p : Nat) => oneAt (p : Int) ties.length) (List.range ties.length) 0 [] (by simpa using hi)).trans ?_)
  have : (List.range ties.length).getD i 0 = i := by rw [List.getD_eq_getElem?_getD, List.getElem?_range hi]; rfl
  rw [this]; rfl
theorem added_units {k : Nat} {row : List Int} (h : row.length = k) : addedM row (unitsM k) k = row := by
  have wU : Wd k (unitsM k) := fun r hr => (unitsM_mat k).row r hr
  refine vec_ext (by rw [addedM_length wU, h]) fun i hi => ?_
  have hi : i < k := by rw [addedM_length wU] at hi; exact hi
  -- the sum, place by place
  have key : ∀ (l : List (Int × List Int)) (f : List Int), f.length = k → (∀ p ∈ l, p.2.length = k) → vec (l.foldl (fun f p => addR f (scal p.2 p.1)) f) i = vec f i + sm l.length fun t => (l.getD t (0, [])).1 * vec (l.getD t (0, [])).2 i := by
    intro l
    induction l with
    | nil => intro f _ _; simp [sm]
    | cons p l ih =>
      intro f hf hl
      have hp := hl p List.mem_cons_self
      rw [List.foldl_cons, ih _ (by rw [addR_length, scal_length, hf, hp, Nat.min_self]) (fun q hq => hl q (List.mem_cons_of_mem _ hq)), vec_addR (by rw [scal_length, hf, hp]), vec_scal, List.length_cons, sm_cons, Int.add_assoc]
      congr 1
  unfold addedM
  have hu := unitsM_length k
  rw [key _ _ (zerR_length k) (fun p hp => wU _ (List.of_mem_zip (show (p.1, p.2) ∈ _ from hp)).2), vec_zerR, Int.zero_add, List.length_zip, h, hu, Nat.min_self]
  have e : ∀ t, t < k → ((row.zip (unitsM k)).getD t (0, [])).1 * vec ((row.zip (unitsM k)).getD t (0, [])).2 i = vec row t * (if i = t then 1 else 0) := fun t ht => by
    rw [getD_zip _ _ 0 [] (by omega) (by omega)]
    show vec row t * ent (unitsM k) t i = _
    rw [ent_units ht hi]
  rw [sm_congr e, sm_one (f := fun t => vec row t * (if i = t then 1 else 0)) hi (fun t _ hn => by rw [if_neg fun z => hn z.symm]; simp), if_pos rfl, Int.mul_one]
theorem tab_units {k m : Nat} {L : List (List Int)} (M : Mat L m k) : tabM L (unitsM k) k = L := by
  unfold tabM
  exact (List.map_congr_left (g := id) fun r hr => added_units (M.row r hr)).trans (List.map_id _)
section
variable {n : Nat} {ties : Ties} {cells : List (List Int)} (W : Wb2 n ties) (WP : WebP n ties cells)
include W WP
theorem Wb2.cells_wd : Wd ties.length cells := fun c hc => W.cell_len (WP.ce c hc)
theorem Wb2.ring_f {rows : List (List Int)} {cs : List Int} (h1 : rows = cells ∨ rows = ringM n ties) (h2 : cs.length = rows.length) (h3 : ∀ x ∈ cs, x ∈ mixL) :
    ∃ v : Bool, pFollows [cellsW ties.length cells, wishD ties.length 0 [(addedM cs rows ties.length, [])]] (.bool v) ∧ pHasF [webD n ties cells, iT (addedM cs rows ties.length)] (.bool v) := by
  obtain ⟨n1, n4, k3, he⟩ := W.small
  have wc := W.cells_wd WP
  have c3 := WP.cl
  have rgl : (ringM n ties).length ≤ 3 := by rw [ringM, List.length_map]; have := otM_len (n := n) (ties := ties); omega
  have wr : Wd ties.length rows := by rcases h1 with rfl | rfl; exact wc; exact W.rl
  have lr : rows.length ≤ 3 := by rcases h1 with rfl | rfl; exact c3; exact rgl
  have br : ∀ r ∈ rows, BdR 16 r := by
    rcases h1 with rfl | rfl
    · exact fun r hr => W.cell_bd (WP.ce r hr)
    · exact fun r hr => (W.r1 r hr).mono (by decide)
  have zr : ∀ r ∈ rows, ∀ u, u < n → sm ties.length (fun j => vec r j * dl ties j u) = 0 := by
    rcases h1 with rfl | rfl
    · exact fun r hr u hu => inl_lin (W.cell_in (WP.ce r hr)) fun q hq => W.ring_bord' hq hu
    · exact fun r hr u hu => W.ring_bord' hr hu
  have hl : (addedM cs rows ties.length).length = ties.length := addedM_length wr
  have hb : BdR (2 ^ 20) (addedM cs rows ties.length) := (added_bd2 wr br fun c hc => mix_abs (h3 c hc)).mono (by
    have : rows.length * (3 * 16) ≤ 3 * (3 * 16) := Nat.mul_le_mul_right _ lr
    have : 3 * (3 * 16) ≤ 2 ^ 20 := by decide
    omega)
  obtain ⟨res, t1, _⟩ := times_iff (rows := cells) (row := addedM cs rows ties.length) (by omega) (by omega) (by rw [hl]; exact wc) (fun r hr => W.cell_bd (WP.ce r hr)) hb
  refine ⟨res.isSome, follows_one (by omega) (by omega) wc hl t1, res.map iT, ⟨_, _, ties, cells, addedM cs rows ties.length, res, n, rfl, ⟨fit_web (by omega) (by omega) (fun c hc => by rw [wc c hc]; omega), tup_web _ _ _, fit_iT' (by omega), tup_iT _, by omega, by omega, he, fun x hx => ?_, by omega, by omega, by rw [hl]; exact wc, t1⟩, rfl⟩, by cases res <;> rfl⟩
  obtain ⟨u, hu, rfl⟩ := vec_mem hx
  rw [bord_len] at hu
  rw [bord_vec he hl]
  exact inl_lin (added_in wr) fun r hr => zr r hr u hu
/-- all rings come of the cells: told by their coordinates -/
theorem Wb2.ent_over {t j : Nat} (ht : t < cells.length) (hj : j < (otM n ties).length) : ent (overM n ties cells) t j = vec (cells.getD t []) ((otM n ties).getD j 0) := by
  have e : (overM n ties cells).getD t [] = (otM n ties).map fun i => (cells.getD t []).getD i 0 := getD_map _ cells [] [] ht
  rw [ent_vec, e]
  exact getD_map _ (otM n ties) 0 0 hj
theorem Wb2.over_mat : Mat (overM n ties cells) cells.length (otM n ties).length := ⟨by simp [overM], fun r hr => by
  obtain ⟨c, _, rfl⟩ := List.mem_map.mp hr
  rw [List.length_map]⟩
theorem Wb2.inc_ent {i u : Nat} (hi : i < ties.length) (hu : u < n) : ent (incM n ties) i u = dl ties i u := by
  have e : (incM n ties).getD i [] = ((linesM n ties).getD i ([], [])).2 := getD_map _ (linesM n ties) ([], []) [] (by rw [lines_length]; exact hi)
  rw [ent_vec, e]; exact line_vec hi hu
theorem Wb2.inc_mat : Mat (incM n ties) ties.length n := ⟨by simp [incM, lines_length], fun r hr => by
  obtain ⟨p, hp, rfl⟩ := List.mem_map.mp hr
  exact (lines_ok n ties p hp).2⟩
theorem Wb2.cells_lin {x : Vc} (h : InL cells x) {u : Nat} (hu : u < n) : sm ties.length (fun i => x i * dl ties i u) = 0 :=
  inl_lin h fun r hr => inl_lin (W.cell_in (WP.ce r hr)) fun q hq => W.ring_bord' hq hu
theorem Wb2.full_iff {b : Nat} {R L Q : List (List Int)} (D : DiagR ties.length n (incM n ties) b R L Q) :
    (∀ i, b ≤ i → i < ties.length → ∃ x, InL cells x ∧ ∀ j, j < ties.length → x j = ent L i j) ↔ ∀ y : Nat → Int, ∃ x : Nat → Int, ∀ j, j < (otM n ties).length → xT cells.length (ent (overM n ties cells)) x j = y j := by
  obtain ⟨DV, _⟩ := diag_val D (W.inc_mat WP)
  have ov : ∀ (x : Nat → Int) (j : Nat), j < (otM n ties).length → xT cells.length (ent (overM n ties cells)) x j = sm cells.length fun t => x t * vec (cells.getD t []) ((otM n ties).getD j 0) := fun x j hj => sm_congr fun t ht => by rw [W.ent_over WP ht hj]
  have ol : ∀ j, j < (otM n ties).length → (otM n ties).getD j 0 < ties.length := fun j hj => otM_lt _ (by rw [← getD_get _ 0 hj]; exact List.getElem_mem hj)
  constructor
  · intro h y
    -- each ring
    have ring : ∀ s, s < (otM n ties).length → ∃ x : Nat → Int, ∀ j, j < (otM n ties).length → xT cells.length (ent (overM n ties cells)) x j = if j = s then 1 else 0 := fun s hs => by
      obtain ⟨c, c0, hc⟩ := DV.ker (x := vec (ringOf n ties ((otM n ties).getD s 0))) fun u hu => by
        unfold xT
        rw [sm_congr (g := fun a => vec (ringOf n ties ((otM n ties).getD s 0)) a * dl ties a u) (fun a ha => by rw [W.inc_ent WP ha hu]), W.ring_bord (ol s hs) hu]
      have ex : ∃ x, InL cells x ∧ ∀ j, j < ties.length → x j = sm ties.length fun i => c i * ent L i j := by
        have : ∀ k, k ≤ ties.length → ∃ x, InL cells x ∧ ∀ j, j < ties.length → x j = sm k fun i => c i * ent L i j := fun k => by
          induction k with
          | zero => exact fun _ => ⟨_, .zero, fun _ _ => rfl⟩
          | succ k ih =>
            intro hk
            obtain ⟨x, hx, ex⟩ := ih (by omega)
            by_cases q : k < b
            · exact ⟨x, hx, fun j hj => by rw [ex j hj, sm, c0 k q]; simp⟩
            · obtain ⟨z, hz, ez⟩ := h k (by omega) (by omega)
              exact ⟨_, hx.plus (hz.mul (c k)), fun j hj => by rw [ex j hj, ez j hj, sm]⟩
        exact this _ (Nat.le_refl _)
      obtain ⟨x, hx, ex⟩ := ex
      obtain ⟨z, hz⟩ := inl_coef hx
      refine ⟨z, fun j hj => ?_⟩
      rw [ov z j hj, ← hz, ex _ (ol j hj), hc _ (ol j hj), W.ring_at hs hj]
    have fam : ∃ X : Nat → Nat → Int, ∀ s, s < (otM n ties).length → ∀ j, j < (otM n ties).length → xT cells.length (ent (overM n ties cells)) (X s) j = if j = s then 1 else 0 := by
      refine ⟨fun s => if hs : s < (otM n ties).length then (ring s hs).choose else fun _ => 0, fun s hs j hj => ?_⟩
      dsimp only
      rw [dif_pos hs]
      exact (ring s hs).choose_spec j hj
    obtain ⟨X, hX⟩ := fam
    refine ⟨fun t => sm (otM n ties).length fun s => y s * X s t, fun j hj => ?_⟩
    unfold xT
    have e : ∀ t, t < cells.length → (sm (otM n ties).length fun s => y s * X s t) * ent (overM n ties cells) t j = sm (otM n ties).length fun s => y s * (X s t * ent (overM n ties cells) t j) := fun t _ => by
      rw [← sm_mulr]
      exact sm_congr fun s _ => Int.mul_assoc _ _ _
    rw [sm_congr e, sm_swap, sm_congr (g := fun s => y s * if j = s then 1 else 0) (fun s hs => by rw [sm_mul]; exact congrArg (y s * ·) (hX s hs j hj)), sm_one (f := fun s => y s * if j = s then 1 else 0) hj (fun s _ hn => by rw [if_neg fun z => hn z.symm]; simp), if_pos rfl, Int.mul_one]
  · intro h i hb hi
    obtain ⟨z, hz⟩ := h fun j => ent L i ((otM n ties).getD j 0)
    refine ⟨_, coef_inl z, fun j hj => ?_⟩
    have k := W.ker (w := fun j => (sm cells.length fun t => z t * vec (cells.getD t []) j) - ent L i j) (fun u hu => by
      have e1 := W.cells_lin WP (coef_inl (G := cells) z) hu
      have e2 := DV.left hb hi u hu
      unfold xT at e2
      rw [sm_congr (g := fun a => ent L i a * dl ties a u) (fun a ha => by rw [W.inc_ent WP ha hu])] at e2
      rw [sm_congr (g := fun j => (sm cells.length fun t => z t * vec (cells.getD t []) j) * dl ties j u - ent L i j * dl ties j u) (fun j _ => Int.sub_mul _ _ _), sm_sub, e1, e2]; rfl) (fun o ho => by
      obtain ⟨s, hs, e⟩ := List.getElem_of_mem ho
      have := hz s hs
      rw [ov z s hs, ← getD_get _ 0 hs, e] at this
      show (sm cells.length fun t => z t * vec (cells.getD t []) o) - ent L i o = 0
      omega) j hj
    have k : (sm cells.length fun t => z t * vec (cells.getD t []) j) - ent L i j = 0 := k
    show (sm cells.length fun t => z t * vec (cells.getD t []) j) = _
    omega
end
end Wk

set_option Elab.async false
set_option linter.all false
set_option maxRecDepth 100000
set_option maxHeartbeats 1000000
namespace Wk
open PySem PySem.Spec PyProof.Rows
theorem steps_get {b i : Nat} {R : List (List Int)} (h : i < b) : (stepsM b R).getD i 0 = ent R i i := by
  unfold stepsM
  rw [getD_map (fun p => ent R p p) (List.range b) 0 0 (by simpa using h)]
  have : (List.range b).getD i 0 = i := by rw [List.getD_eq_getElem?_getD, List.getElem?_range h]; rfl
  rw [this]
section
variable {n : Nat} {ties : Ties} {cells : List (List Int)} (W : Wb2 n ties) (WP : WebP n ties cells)
include W WP
theorem Wb2.hole_side : ∃ S, HoleR n ties cells S ∧ ((((otM n ties).length : Int) - S.length = 0 ∧ S.filter (fun x => decide (1 < x)) = []) ↔ ∀ y : Nat → Int, ∃ x : Nat → Int, ∀ j, j < (otM n ties).length → xT cells.length (ent (overM n ties cells)) x j = y j) := by
  have c3 := WP.cl
  have l3 : (otM n ties).length ≤ 3 := by have := otM_len (n := n) (ties := ties); have := W.small.2.2.1; omega
  by_cases h : 0 < cells.length ∧ 0 < (otM n ties).length
  · obtain ⟨b, R, L, Q, D⟩ := diag_ex (W.over_mat WP) c3 l3 fun i j => by
      by_cases hi : i < cells.length
      · by_cases hj : j < (otM n ties).length
        · rw [W.ent_over WP hi hj]
          exact W.cell_coef (WP.ce _ (by rw [← getD_get _ [] hi]; exact List.getElem_mem hi)) hj
        · exact .inl (ent_col (W.over_mat WP) (by omega))
      · exact .inl (ent_row (by rw [(W.over_mat WP).len]; omega) j)
    obtain ⟨DV, _⟩ := diag_val D (W.over_mat WP)
    refine ⟨_, .some h.1 h.2 D, Iff.trans ?_ DV.full.symm⟩
    rw [stepsM_length]
    have e : (stepsM b R).filter (fun x => decide (1 < x)) = [] ↔ ∀ i, i < b → ent R i i = 1 := by
      rw [List.filter_eq_nil_iff]
      constructor
      · intro q i hi
        have := q (ent R i i) (List.mem_map.mpr ⟨i, List.mem_range.mpr hi, rfl⟩)
        have p := DV.pos i hi
        have : ¬ 1 < ent R i i := by simpa using this
        omega
      · intro q x hx
        obtain ⟨i, hi, rfl⟩ := List.mem_map.mp hx
        rw [q i (List.mem_range.mp hi)]; decide
    rw [e]
    constructor
    · rintro ⟨q1, q2⟩; exact ⟨by omega, q2⟩
    · rintro ⟨q1, q2⟩; exact ⟨by omega, q2⟩
  · refine ⟨[], .none h, ?_⟩
    constructor
    · rintro ⟨q, _⟩ y
      have q : ((otM n ties).length : Int) - 0 = 0 := q
      exact ⟨fun _ => 0, fun j hj => by omega⟩
    · intro q
      refine ⟨?_, rfl⟩
      show ((otM n ties).length : Int) - 0 = 0
      by_cases l0 : (otM n ties).length = 0
      · omega
      · have hc : cells.length = 0 := by omega
        obtain ⟨x, hx⟩ := q fun _ => 1
        have := hx 0 (by omega)
        rw [hc] at this
        cases this
open Classical in
theorem Wb2.hole_f (h4 : ties ≠ []) (HD : chkDiag n ties.length (incM n ties) = true) : ∃ (v : Bool) (a : Int) (S : List Int), pFollows [cellsW ties.length cells, wishD ties.length n (linesM n ties)] (.bool v) ∧ pHoles [webD n ties cells] (.tuple [.int a, iT S]) ∧ v = decide (a = 0 ∧ S = []) ∧ (v = true ↔ ∀ y : Nat → Int, ∃ x : Nat → Int, ∀ j, j < (otM n ties).length → xT cells.length (ent (overM n ties cells)) x j = y j) := by
  obtain ⟨n1, n4, k3, he⟩ := W.small
  have kpos : 0 < ties.length := List.length_pos_iff.mpr h4
  have wc := W.cells_wd WP
  have c3 := WP.cl
  obtain ⟨b, R, L, Q, D, ones, Lb⟩ := diag_inc HD
  obtain ⟨DV, Ms⟩ := diag_val D (W.inc_mat WP)
  have ML : Mat L ties.length ties.length := Ms.l
  have lo := linesC_ok wc
  have ll := lines_length n ties
  have lo2 := lines_ok n ties
  have eT : tabM L ((linesM n ties).map (·.1)) ties.length = L := by rw [near_units, tab_units ML]
  have eW : wantM (linesC cells) ties.length 0 L (stepsM b R) ((linesM n ties).map (·.1)) = L.zipIdx.map (wantOne (linesC cells) ties.length 0 (stepsM b R)) := by rw [wantM, eT]
  have sa : ∀ i, stepAt (stepsM b R) i = if i < b then 1 else 0 := fun i => by
    unfold stepAt
    rw [stepsM_length]
    by_cases q : i < b
    · rw [if_pos q, if_pos q, steps_get q, ones i q]
    · rw [if_neg q, if_neg q]
  have memW : ∀ p, p ∈ wantM (linesC cells) ties.length 0 L (stepsM b R) ((linesM n ties).map (·.1)) ↔ ∃ i, i < ties.length ∧ p = (cells ++ moreM ties.length (if i < b then 1 else 0), L.getD i []) := fun p => by
    rw [eW, List.mem_map]
    constructor
    · rintro ⟨⟨row, i⟩, h, rfl⟩
      have h2 := List.mem_zipIdx_iff_getElem?.mp h
      obtain ⟨hi, e⟩ := List.getElem?_eq_some_iff.mp h2
      refine ⟨i, by rw [ML.len] at hi; exact hi, ?_⟩
      unfold wantOne
      rw [relM_cells, sa, List.getD_eq_getElem?_getD, h2]
      show (_, row ++ []) = _
      rw [List.append_nil]; rfl
    · rintro ⟨i, hi, rfl⟩
      have hi' : i < L.length := by rw [ML.len]; exact hi
      refine ⟨(L[i], i), List.mem_zipIdx_iff_getElem?.mpr (List.getElem?_eq_getElem hi'), ?_⟩
      unfold wantOne
      rw [relM_cells, sa, getD_get _ [] hi']
      show (_, L.getD i [] ++ []) = _
      rw [List.append_nil]; rfl
  have rowL : ∀ i, i < ties.length → (L.getD i []).length = ties.length ∧ BdR 16 (L.getD i []) := fun i hi => ⟨ML.rowD hi, Lb _ (by rw [← getD_get _ [] (by rw [ML.len]; exact hi)]; exact List.getElem_mem _)⟩
  obtain ⟨S, hS, hfull⟩ := W.hole_side WP
  have FR : FollowsR (linesC cells) ties.length 0 L (stepsM b R) ((linesM n ties).map (·.1)) (fun p => decide (Made p.1 p.2.length p.2)) := fun p hp => by
    obtain ⟨i, hi, rfl⟩ := (memW p).mp hp
    obtain ⟨r1, r2⟩ := rowL i hi
    have mw : Wd ties.length (moreM ties.length (if i < b then 1 else 0)) := moreM_wd
    have ml := moreM_len (w := ties.length) (s := if i < b then 1 else 0)
    obtain ⟨res, t1, t2⟩ := times_iff (rows := cells ++ moreM ties.length (if i < b then 1 else 0)) (row := L.getD i []) (by omega) (by rw [List.length_append]; omega) (by rw [r1]; exact wc.app mw) (fun r hr => by
      rcases List.mem_append.mp hr with q | q
      · exact W.cell_bd (WP.ce r q)
      · unfold moreM at q
        split at q
        · obtain ⟨u, hu, rfl⟩ := List.mem_map.mp q
          obtain ⟨t, _, rfl⟩ := List.mem_map.mp hu
          intro j
          rw [vec_scal]
          by_cases hj : j < ties.length
          · rw [vec_oneN hj]; split <;> (try split) <;> decide
          · rw [vec_out (by rw [oneAt_length]; omega)]; simp
        · cases q) (r2.mono (by decide))
    refine ⟨res, t1, ?_⟩
    show decide (Made _ _ _) = _
    cases e : res.isSome with
    | true => exact decide_eq_true (t2.mp e)
    | false => exact decide_eq_false fun z => by rw [t2.mpr z] at e; cases e
  have allI : (wantM (linesC cells) ties.length 0 L (stepsM b R) ((linesM n ties).map (·.1))).all (fun p => decide (Made p.1 p.2.length p.2)) = true ↔ ∀ i, b ≤ i → i < ties.length → ∃ x, InL cells x ∧ ∀ j, j < ties.length → x j = ent L i j := by
    rw [List.all_eq_true]
    constructor
    · intro h i hb hi
      have := of_decide_eq_true (h _ ((memW _).mpr ⟨i, hi, rfl⟩))
      rw [if_neg (by omega)] at this
      obtain ⟨x, hx, ex⟩ := this
      have e0 : moreM ties.length 0 = [] := if_neg (by decide)
      dsimp only at hx ex
      rw [e0, List.append_nil] at hx
      exact ⟨x, hx, fun j hj => ex j (by rw [(rowL i hi).1]; exact hj)⟩
    · intro h p hp
      obtain ⟨i, hi, rfl⟩ := (memW p).mp hp
      refine decide_eq_true ?_
      by_cases q : i < b
      · rw [if_pos q]
        refine ⟨_, inl_sum (n := ties.length) (f := fun j => vec (scal (oneAt (j : Nat) ties.length) 1)) (x := fun j => vec (L.getD i []) j) fun j hj => .mem (List.mem_append_right _ ?_), fun t ht => ?_⟩
        · unfold moreM
          rw [if_pos (by decide)]
          exact List.mem_map.mpr ⟨_, List.mem_map.mpr ⟨j, List.mem_range.mpr hj, rfl⟩, rfl⟩
        · have ht : t < ties.length := by rw [(rowL i hi).1] at ht; exact ht
          rw [sm_one (f := fun j => vec (L.getD i []) j * vec (scal (oneAt (j : Nat) ties.length) 1) t) ht (fun j _ hn => by rw [vec_scal, vec_oneN ht, if_neg fun z => hn z.symm]; simp), vec_scal, vec_oneN ht, if_pos rfl, Int.one_mul, Int.mul_one]
      · rw [if_neg q]
        obtain ⟨x, hx, ex⟩ := h i (by omega) hi
        exact ⟨x, hx.mono (.of_sub fun r hr => List.mem_append_left _ hr), fun j hj => ex j (by rw [(rowL i hi).1] at hj; exact hj)⟩
  refine ⟨_, _, _, ⟨_, _, linesC cells, linesM n ties, L, stepsM b R, colsM Q n, fun p => decide (Made p.1 p.2.length p.2), ties.length, 0, n, rfl, ⟨fit_wish (by simp; omega) (fun p hp => by rw [(lo p hp).1, (lo p hp).2]; omega), tup_wish _ _ _, fit_wish (by omega) (fun p hp => by rw [(lo2 p hp).1, (lo2 p hp).2]; omega), tup_wish _ _ _, ?_, FR⟩, rfl⟩,
    ⟨_, ties, cells, S, n, rfl, ⟨fit_web (by omega) (by omega) (fun c hc => by rw [wc c hc]; omega), tup_web _ _ _, by omega, by omega, he, by omega, wc, hS⟩, rfl⟩, ?_, allI.trans (W.full_iff WP D)⟩
  · refine ⟨by simp; omega, by omega, by omega, by decide, by omega, lo, lo2, ?_, by rw [ML.len]; omega, fun row hrow => ⟨by rw [ML.row row hrow]; omega, fun p hp => ?_⟩, by rw [eT]; exact fun r hr => ML.row r hr⟩
    · have M1 : Mat ((linesM n ties).map (·.2)) (linesM n ties).length n := by rw [ll]; exact W.inc_mat WP
      exact .diag (by omega) (by omega) M1 (by rw [ll]; exact D)
    · rw [near_units] at hp
      obtain ⟨z1, z2⟩ := List.of_mem_zip (show (p.1, p.2) ∈ _ from hp)
      refine ⟨by rw [(unitsM_mat _).row _ z2]; omega, fun x _ => mul_r ?_⟩
      obtain ⟨j, _, e⟩ := vec_mem z1
      have := Lb row hrow j
      rw [← e]; omega
  · have key := (allI.trans (W.full_iff WP D)).trans hfull.symm
    rw [Bool.eq_iff_iff, decide_eq_true_iff]
    exact key
end
theorem allR_of (HK : AllK) (HD : AllD) : AllR := fun n ties cells WP h4 => by
  have W := wb2_of HK WP.sm
  obtain ⟨v, a, S, h1, h2, h3, _⟩ := W.hole_f WP h4 (HD n ties WP.sm)
  exact ⟨fun rows cs h1 h2 h3 => W.ring_f WP h1 h2 h3, v, a, S, h1, h2, h3⟩
end Wk

set_option Elab.async false
set_option linter.all false
set_option maxRecDepth 100000
set_option maxHeartbeats 1000000
namespace Wk
open PySem PySem.Spec PyProof.Rows
theorem follows_any {d e A B : DL.D} {r : DL.D} (h : pFollows [A, B] r) (h1 : fit 4 d) (h2 : tupD d = tupD A) (h3 : fit 4 e) (h4 : tupD e = tupD B) : pFollows [d, e] r := by
  obtain ⟨d', e', lines1, lines2, L, S, Q, g, n, m1, m2, ed, ⟨_, q2, _, q4, q5, q6⟩, er⟩ := h
  cases ed
  exact ⟨d, e, lines1, lines2, L, S, Q, g, n, m1, m2, rfl, ⟨h1, h2.trans q2, h3, h4.trans q4, q5, q6⟩, er⟩
theorem small_of {n : Nat} {ties : Ties} (h1 : 1 ≤ n) (h2 : n ≤ 4) (h3 : ties.length ≤ 3) (h : (ties.all fun p => decide (p.1 < n) && decide (p.2 < n)) = true) : Small n ties := ⟨h1, h2, h3, fun p hp => by
  have := List.all_eq_true.mp h p hp
  simpa using this⟩
theorem sml_of {hs : List Int} (h : (hs.all fun x => decide (x.natAbs ≤ 16)) = true) : Sml hs := fun x hx => of_decide_eq_true (List.all_eq_true.mp h x hx)
theorem heard_of (HK : AllK) {d e : DL.D} {n : Nat} {ties : Ties} {cells : List (List Int)} {z : Int} {hs : List Int} (sm : Small n ties) (h1 : fit 3 d) (h2 : tupD d = webD n ties cells) (h3 : e = iT hs) (h4 : hs.length ≤ 900) (h5 : Sml hs) : pHeard [d, .int z, e] (((heightsM n ties z hs).map iT).getD noneD) :=
  ⟨_, ⟨d, e, ties, cells, hs, n, z, rfl, ⟨h1, h2, (allW_of HK n ties sm).ok, by rw [h3]; exact fit_iT' (by omega), by rw [h3]; exact tup_iT _, h4, fun v _ => mulAll_sml h5⟩, rfl⟩, rfl⟩
theorem made2 {x : Int} (q : Int) (h : x = 2 * q) : Made [[2]] 1 [x] := ⟨_, InL.add q .zero List.mem_cons_self, fun i hi => by
  have : i = 0 := by omega
  subst this
  show 0 + q * 2 = x
  omega⟩
theorem not_made2 : ¬ Made [[2]] 1 [3] := by
  rintro ⟨v, hv, e⟩
  obtain ⟨x, hx⟩ := inl_coef hv
  have := e 0 (by decide)
  rw [hx 0] at this
  have : 0 + x 0 * 2 = 3 := this
  omega
theorem one_times {x : Int} (hx : x.natAbs ≤ 16) : ∃ res, TimesR [[2]] [x] res ∧ (res.isSome = true ↔ Made [[2]] 1 [x]) :=
  times_iff (rows := [[2]]) (row := [x]) (show 1 ≤ 3 by decide) (by decide) (fun r hr => by rw [List.mem_singleton.mp hr]; rfl) (fun r hr i => by
    rw [List.mem_singleton.mp hr]
    cases i with
    | zero => decide
    | succ i => rw [vec_consS, vec_nil]; decide) (fun i => by
    cases i with
    | zero => exact Nat.le_trans hx (by decide)
    | succ i => rw [vec_consS, vec_nil]; exact Nat.zero_le _)
theorem wk1 : Wd 1 [[(2 : Int)]] := fun r hr => by rw [List.mem_singleton.mp hr]; rfl
theorem isSome_t {res : Option (List Int)} (h : res.isSome = true ↔ True) : res.isSome = true := h.mpr trivial
theorem hasF_one {x : Int} {b : Bool} (hx : x.natAbs ≤ 16) (hb : b = true ↔ Made [[2]] 1 [x]) : pHasF [loopD, iT [x]] (.bool b) := by
  obtain ⟨res, t1, t2⟩ := one_times hx
  have e : res.isSome = b := by rw [Bool.eq_iff_iff]; exact t2.trans hb.symm
  refine ⟨res.map iT, ⟨loopD, iT [x], [(0, 0)], [[2]], [x], res, 1, rfl, ⟨fit_web (by decide) (by decide) (fun c hc => by rw [List.mem_singleton.mp hc]; decide), tup_web _ _ _, fit_iT' (show 1 ≤ 1000 by decide), tup_iT _, by decide, by decide, fun p hp => by rw [List.mem_singleton.mp hp]; exact ⟨by decide, by decide⟩, fun y hy => ?_, (show 1 ≤ 400 by decide), by decide, wk1, t1⟩, rfl⟩, by rw [← e]; cases res <;> rfl⟩
  have e2 : bordM 1 [(0, 0)] [x] = [0 - x + x] := rfl
  rw [e2, List.mem_singleton] at hy
  omega
theorem follows_two {x : Int} {b : Bool} (hx : x.natAbs ≤ 16) (hb : b = true ↔ Made [[2]] 1 [x]) : pFollows [evenD, wishD 1 0 [([x], [])]] (.bool b) := by
  obtain ⟨res, t1, t2⟩ := one_times hx
  have e : res.isSome = b := by rw [Bool.eq_iff_iff]; exact t2.trans hb.symm
  rw [← e]
  exact follows_one (k := 1) (cells := [[2]]) (by decide) (by decide) wk1 rfl t1
theorem byHand_of (HK : AllK) (HD : AllD) : ByHand := by
  have smT : Small 3 triT := small_of (by decide) (by decide) (by decide) (by decide)
  have smL : Small 1 [(0, 0)] := small_of (by decide) (by decide) (by decide) (by decide)
  have smB : Small 3 [(1, 0), (2, 1)] := small_of (by decide) (by decide) (by decide) (by decide)
  have WT := wb2_of HK smT
  have fT : fit 3 triD := fit_web (by decide) (by decide) fun c hc => nomatch hc
  have fB : fit 3 backD := fit_web (by decide) (by decide) fun c hc => nomatch hc
  have fL : fit 3 loopD := fit_web (by decide) (by decide) fun c hc => by rw [List.mem_singleton.mp hc]; decide
  have hr : ringM 3 triT = [[-1, -1, 1]] := by decide +kernel
  have ho : otM 3 triT = [2] := by decide +kernel
  have p4 : ∀ x : Int, True := fun _ => trivial
  have t4 : True ↔ Made [[2]] 1 [4] := ⟨fun _ => made2 2 (by decide), fun _ => trivial⟩
  have b4 : true = true ↔ Made [[2]] 1 [4] := ⟨fun _ => made2 2 (by decide), fun _ => rfl⟩
  have b3 : false = true ↔ Made [[2]] 1 [3] := ⟨fun h => (by cases h), fun h => absurd h not_made2⟩
  have fw : ∀ (cells : List (List Int)), WebP 3 triT cells → ∀ b : Bool, (b = true ↔ ∀ y : Nat → Int, ∃ x : Nat → Int, ∀ j, j < (otM 3 triT).length → xT cells.length (ent (overM 3 triT cells)) x j = y j) → pFollows [cellsW 3 cells, wishD 3 3 (linesM 3 triT)] (.bool b) := fun cells WP b hb => by
    obtain ⟨v, a, S, h1, _, _, h4⟩ := WT.hole_f WP (by decide) (HD 3 triT smT)
    have e : v = b := by rw [Bool.eq_iff_iff]; exact h4.trans hb.symm
    rw [← e]; exact h1
  refine ⟨?_, ?_, ?_, ?_, ?_, ?_, ?_, ?_, ?_, ?_, ?_, ?_, ?_, ?_, ?_⟩
  · have := heard_of HK (z := 5) (hs := [1, 2, 3]) smT fT (tup_web _ _ _) rfl (by decide) (sml_of (by decide))
    rwa [show heightsM 3 triT 5 [1, 2, 3] = some [0, 1, 3] by decide +kernel] at this
  · have := heard_of HK (z := 5) (hs := [1, 2, 4]) smT fT (tup_web _ _ _) rfl (by decide) (sml_of (by decide))
    rwa [show heightsM 3 triT 5 [1, 2, 4] = none by decide +kernel] at this
  · have := heard_of HK (z := 5) (hs := [1, 2]) smB fB (tup_web _ _ _) rfl (by decide) (sml_of (by decide))
    rwa [show heightsM 3 [(1, 0), (2, 1)] 5 [1, 2] = some [0, 4, 2] by decide +kernel] at this
  · have := heard_of HK (z := 4) (hs := [2]) smL fL (tup_web _ _ _) rfl (by decide) (sml_of (by decide))
    rwa [show heightsM 1 [(0, 0)] 4 [2] = none by decide +kernel] at this
  · have := heard_of HK (z := 0) (hs := [1, 2, 8]) smT fT (tup_web _ _ _) rfl (by decide) (sml_of (by decide))
    rwa [show heightsM 3 triT 0 [1, 2, 8] = none by decide +kernel] at this
  · have f6 : fit 3 (.tuple [.int 3, .tuple [.list [.int 0, .int 1], .tuple [.int 1, .int 2], .list [.int 0, .int 2]], .tuple []]) := fit_T (by simp) fun x hx => by
      simp only [List.mem_cons, List.not_mem_nil, or_false] at hx
      rcases hx with rfl | rfl | rfl
      · exact fit_i 2 3
      · refine fit_T (by simp) fun x hx => ?_
        simp only [List.mem_cons, List.not_mem_nil, or_false] at hx
        rcases hx with rfl | rfl | rfl
        · exact fit_L (by simp) fun x hx => by
            simp only [List.mem_cons, List.not_mem_nil, or_false] at hx
            rcases hx with rfl | rfl <;> exact fit_i 0 _
        · exact fit_T (by simp) fun x hx => by
            simp only [List.mem_cons, List.not_mem_nil, or_false] at hx
            rcases hx with rfl | rfl <;> exact fit_i 0 _
        · exact fit_L (by simp) fun x hx => by
            simp only [List.mem_cons, List.not_mem_nil, or_false] at hx
            rcases hx with rfl | rfl <;> exact fit_i 0 _
      · exact fit_T (by simp) fun x hx => nomatch hx
    have := heard_of HK (z := 5) (hs := [1, 2, 3]) (cells := []) smT f6 (by simp [tupD, tupDs, tieD1]) rfl (by decide) (sml_of (by decide))
    rwa [show heightsM 3 triT 5 [1, 2, 3] = some [0, 1, 3] by decide +kernel] at this
  · exact follows_two (by decide) b4
  · exact follows_two (by decide) b3
  · exact hasF_one (by decide) b4
  · exact hasF_one (by decide) b3
  · refine follows_any (follows_two (x := 4) (by decide) b4) (fit_T (by simp) fun x hx => ?_) (by simp [tupD, tupDs, lineD]) (fit_T (by simp) fun x hx => ?_) (by simp [tupD, tupDs, lineD])
    · simp only [List.mem_cons, List.not_mem_nil, or_false] at hx
      rcases hx with rfl | rfl | rfl
      · exact fit_i 3 _
      · exact fit_i 3 _
      · refine fit_T (by simp) fun x hx => ?_
        rw [List.mem_singleton.mp hx]
        refine fit_L (by simp) fun x hx => ?_
        simp only [List.mem_cons, List.not_mem_nil, or_false] at hx
        rcases hx with rfl | rfl
        · exact fit_L (by simp) fun x hx => by rw [List.mem_singleton.mp hx]; exact fit_i 0 _
        · exact fit_T (by simp) fun x hx => nomatch hx
    · simp only [List.mem_cons, List.not_mem_nil, or_false] at hx
      rcases hx with rfl | rfl | rfl
      · exact fit_i 3 _
      · exact fit_i 3 _
      · refine fit_L (by simp) fun x hx => ?_
        rw [List.mem_singleton.mp hx]
        refine fit_T (by simp) fun x hx => ?_
        simp only [List.mem_cons, List.not_mem_nil, or_false] at hx
        rcases hx with rfl | rfl
        · exact fit_L (by simp) fun x hx => by rw [List.mem_singleton.mp hx]; exact fit_i 0 _
        · exact fit_T (by simp) fun x hx => nomatch hx
  · obtain ⟨res, t1, t2⟩ := times_iff (rows := [[2], [4]]) (row := [2]) (by decide) (by decide) (fun r hr => by
      simp only [List.mem_cons, List.not_mem_nil, or_false] at hr
      rcases hr with rfl | rfl <;> rfl) (fun r hr i => by
      simp only [List.mem_cons, List.not_mem_nil, or_false] at hr
      rcases hr with rfl | rfl
      · cases i with
        | zero => decide
        | succ i => rw [vec_consS, vec_nil]; decide
      · cases i with
        | zero => decide
        | succ i => rw [vec_consS, vec_nil]; decide) (fun i => by
      cases i with
      | zero => exact (by decide : (2 : Int).natAbs ≤ 2 ^ 20)
      | succ i => rw [vec_consS, vec_nil]; exact Nat.zero_le _)
    have rs : res.isSome = true := t2.mpr ⟨_, InL.mem List.mem_cons_self, fun i hi => rfl⟩
    have e : pKeeps [.tuple [.int 1, .int 1, .list [.tuple [.list [.int 1], .list [.int 2]]]], .tuple [.tuple [.int 4], .tuple [.list [.int 2]]]] (.bool res.isSome) := by
      refine ⟨_, _, [([1], [2])], [2], res, 1, 1, 4, rfl, ⟨fit_T (by simp) fun x hx => ?_, by simp [tupD, tupDs, lineD], fit_T (by simp) fun x hx => ?_, by simp [tupD, tupDs], ⟨by decide, by decide, by decide, fun p hp => by rw [List.mem_singleton.mp hp]; exact ⟨rfl, rfl⟩, fun p _ => mulAll_sml (sml_of (by decide)), by decide, ?_⟩, by decide⟩, rfl⟩
      · simp only [List.mem_cons, List.not_mem_nil, or_false] at hx
        rcases hx with rfl | rfl | rfl
        · exact fit_i 3 _
        · exact fit_i 3 _
        · refine fit_L (by simp) fun x hx => ?_
          rw [List.mem_singleton.mp hx]
          refine fit_T (by simp) fun x hx => ?_
          simp only [List.mem_cons, List.not_mem_nil, or_false] at hx
          rcases hx with rfl | rfl
          · exact fit_L (by simp) fun x hx => by rw [List.mem_singleton.mp hx]; exact fit_i 0 _
          · exact fit_L (by simp) fun x hx => by rw [List.mem_singleton.mp hx]; exact fit_i 0 _
      · simp only [List.mem_cons, List.not_mem_nil, or_false] at hx
        rcases hx with rfl | rfl
        · exact fit_T (by simp) fun x hx => by rw [List.mem_singleton.mp hx]; exact fit_i 2 _
        · refine fit_T (by simp) fun x hx => ?_
          rw [List.mem_singleton.mp hx]
          exact fit_L (by simp) fun x hx => by rw [List.mem_singleton.mp hx]; exact fit_i 1 _
      · exact t1
    rwa [rs] at e
  · refine fw [[1, 1, -1]] ⟨smT, by decide, fun c hc => ?_⟩ true ⟨fun _ y => ⟨fun _ => - y 0, fun j hj => ?_⟩, fun _ => rfl⟩
    · rw [List.mem_singleton.mp hc, hr]
      exact ⟨[[-1, -1, 1]], [], [-1], List.Perm.refl _, by decide, rfl, by decide, by decide +kernel⟩
    · rw [ho] at hj
      have : j = 0 := by simpa using hj
      subst this
      unfold xT
      have : ent (overM 3 triT [[1, 1, -1]]) 0 0 = -1 := by decide +kernel
      show 0 + - y 0 * ent (overM 3 triT [[1, 1, -1]]) 0 0 = y 0
      rw [this]; omega
  · refine fw [] ⟨smT, by decide, fun c hc => nomatch hc⟩ false ⟨fun h => (by cases h), fun h => ?_⟩
    obtain ⟨x, hx⟩ := h fun _ => 1
    have := hx 0 (by rw [ho]; decide)
    cases this
  · obtain ⟨res, t1, t2⟩ := WT.keep (z := 5) (hs := [1, 2, 4]) (by decide) rfl (sml_of (by decide))
    have e : pKeeps [wishD 3 3 (linesM 3 triT), worldD 5 [1, 2, 4]] (.bool res.isSome) := ⟨_, _, linesM 3 triT, [1, 2, 4], res, 3, 3, 5, rfl, ⟨fit_wish (by rw [lines_length]; decide) (fun p hp => by have := lines_ok 3 triT p hp; rw [this.1, this.2]; exact ⟨by decide, by decide⟩), tup_wish _ _ _, fit_world (by decide), tup_world _ _, ⟨by rw [lines_length]; decide, by decide, by decide, lines_ok 3 triT, fun p _ => mulAll_sml (sml_of (by decide)), by decide, t1⟩, by decide⟩, rfl⟩
    rwa [t2, show zeroB (ringM 3 triT) 5 [1, 2, 4] = false by decide +kernel] at e
end Wk

set_option Elab.async false
set_option linter.all false
set_option maxRecDepth 100000
set_option maxHeartbeats 1000000
namespace Wk
open PySem PySem.Spec PyProof.Rows L2 NdefX DL
theorem df_fn {P : Program} {w : World} {K : DL.Frag} {mg : Str → Option Value} {base : Heap} {T : List NTab} {k : Nat} {x : Str} {params : Arguments} {body : List Stmt} {sc : Scope} {ps N : List Str} {S : SD} {f : Addr} {fd : FuncData} (F : FunD K x x params body sc [] [] f fd) (SC : C8.scC N ps sc = true) (hl : ∀ as k, S as k → as.length = ps.length)
    (h : ∀ (cdv : Value) (A : Around) (outer : List Env) (s : Shared) (H : Hp) (E : XK), Room k (cxD P w K mg base N x sc f cdv A outer s H E).A → ∀ B as k', S as k' → BL ⟨T, as, B, H⟩ (cxD P w K mg base N x sc f cdv A outer s H E) (as ++ List.replicate (N.length - as.length) .non) body (rtB as k')) :
    FnOk P w K mg base CX0 (k + 1) f fd ps (spS T K S) :=
  F.ok (C8.fnScope_by SC) (fun vs H R E ⟨B, as, L, q⟩ => by rw [← hl _ _ q]; simpa using L.len) fun cdv A outer s H vs Q E hr ⟨B, as, L, q⟩ => by
    refine ⟨_, (h cdv A outer s H E hr B as _ q).nox, B, L.start, glb_start L, ?_, ?_, fun Δ' σ' B' H' z => z.elim, fun Δ' σ' B' H' z => z.elim⟩
    · rintro Δ' σ' B' H' ⟨as', b, q2⟩ L' G' _
      obtain ⟨S', L2, _⟩ := back_end L L' G' b
      exact q2 .non B' H' S' L2 .non
    · rintro r Δ' v σ' B' H' ⟨as', b, q2⟩ L' G' rv
      obtain ⟨S', L2, m⟩ := back_end L L' G' b
      refine q2 v B' H' S' L2 ?_
      cases r with
      | non => trivial
      | dat d => exact rv
      | own l ds => obtain ⟨a1, a2, a3, a4, a5⟩ := rv; exact ⟨a1, a2, a3, fun z => a4 (m l z), a5⟩
abbrev pLaw : List DL.D → DL.D → Prop := fun ds r => ∃ ns : List Int, ds = [iL ns] ∧ ns.length ≤ 63 ∧ r = .bool true
theorem law_fn {P : Program} {w : World} {K : DL.Frag} {mg : Str → Option Value} {base : Heap} {T : List NTab} {f : Addr} {fd : FuncData} (GB : Df P w K mg base T 9 "_law_by_hand_right" [] (SP 0 fun ds r => r = .bool true)) (GR : Df P w K mg base T 9 "_law_right" ["_law_tin"] sRight) (GX : Df P w K mg base T 1 "_law_box" ["_law_script", "_law_k"] sBox) (GC : Df P w K mg base T 1 "_law_cells" ["_law_script", "_law_most_so"] sCells)
    (F : Fd K mg "law" 85 f fd) : FnOk P w K mg base CX0 10 f fd ["_law_script"] (spS T K (SP 1 pLaw)) :=
  df_fn F.fn sc_law (fun as k' ⟨ds, r, e, h1, _⟩ => by rw [e, List.length_map, h1]; rfl) fun cdv A outer s H E hr B as k' ⟨ds, r, e, h1, h2, q⟩ => by
    obtain ⟨ns, rfl, h1, rfl⟩ := h2
    subst e
    refine bl_one <| bs_ret <| de_and <| de_call0 GB SP.mono (hr.mono (by decide)) rfl ⟨[], _, rfl, rfl, rfl, _, rfl, _, rfl, fun _ => de_one <| de_callN GR sRight_mono (hr.mono (by decide)) rfl <| dn_callM GX sBox_mono (hr.mono (by decide)) rfl <| da_d <| de_new <| dn_callM GC sCells_mono (hr.mono (by decide)) rfl <| da_d <| dv 0 rfl <| da_d <| de_int <| da_nil ⟨by simp [slotsOf], rfl, ns, rfl, h1, fun l cs hcs => ⟨rfl, l, _, rfl, da_d <| de_int <| da_nil ⟨by simp [slotsOf], rfl, cs, rfl, hcs, fun l2 t ht => ⟨rfl, l2, _, rfl, fun l3 => ⟨l3, t, rfl, ht, fun t' => ⟨_, rfl, ?_⟩⟩⟩⟩⟩⟩, (fun h => nomatch h)⟩
    exact ⟨_, back_dat back_nil, q⟩
section
variable {P : Program} {w : World} {K : DL.Frag} {mg : Str → Option Value} {base : Heap} {T : List NTab} {C : Addr}
structure AllF (K : DL.Frag) (mg : Str → Option Value) : Prop where
  e4 : ∃ f fd, Fd K mg "tupled" 4 f fd
  e5 : ∃ f fd, Fd K mg "nothing" 5 f fd
  e6 : ∃ f fd, Fd K mg "unit" 6 f fd
  e7 : ∃ f fd, Fd K mg "units" 7 f fd
  e8 : ∃ f fd, Fd K mg "shown" 8 f fd
  e9 : ∃ f fd, Fd K mg "rows_plus" 9 f fd
  e10 : ∃ f fd, Fd K mg "rows_less" 10 f fd
  e11 : ∃ f fd, Fd K mg "row_times" 11 f fd
  e12 : ∃ f fd, Fd K mg "rows_added" 12 f fd
  e13 : ∃ f fd, Fd K mg "columns" 13 f fd
  e14 : ∃ f fd, Fd K mg "round_by" 14 f fd
  e17 : ∃ f fd, Fd K mg "stepped" 17 f fd
  e18 : ∃ f fd, Fd K mg "whole_lead" 18 f fd
  e19 : ∃ f fd, Fd K mg "times_for" 19 f fd
  e20 : ∃ f fd, Fd K mg "is_made" 20 f fd
  e21 : ∃ f fd, Fd K mg "made_by" 21 f fd
  e22 : ∃ f fd, Fd K mg "turned_about" 22 f fd
  e23 : ∃ f fd, Fd K mg "least_spot" 23 f fd
  e24 : ∃ f fd, Fd K mg "exchanged" 24 f fd
  e25 : ∃ f fd, Fd K mg "taken_from" 25 f fd
  e26 : ∃ f fd, Fd K mg "cleared" 26 f fd
  e27 : ∃ f fd, Fd K mg "first_odd" 27 f fd
  e28 : ∃ f fd, Fd K mg "corner_made" 28 f fd
  e29 : ∃ f fd, Fd K mg "diagonal" 29 f fd
  e30 : ∃ f fd, Fd K mg "steps_of" 30 f fd
  e32 : ∃ f fd, Fd K mg "near_of" 32 f fd
  e33 : ∃ f fd, Fd K mg "far_of" 33 f fd
  e34 : ∃ f fd, Fd K mg "hidden_for" 34 f fd
  e35 : ∃ f fd, Fd K mg "hidden_all" 35 f fd
  e36 : ∃ f fd, Fd K mg "keeps" 36 f fd
  e38 : ∃ f fd, Fd K mg "border_of" 38 f fd
  e39 : ∃ f fd, Fd K mg "branches_of" 39 f fd
  e40 : ∃ f fd, Fd K mg "other_ties" 40 f fd
  e41 : ∃ f fd, Fd K mg "ways_from_roots" 41 f fd
  e42 : ∃ f fd, Fd K mg "grown_ways" 42 f fd
  e43 : ∃ f fd, Fd K mg "stepped_on" 43 f fd
  e44 : ∃ f fd, Fd K mg "ring_rows" 44 f fd
  e45 : ∃ f fd, Fd K mg "sure_ring" 45 f fd
  e46 : ∃ f fd, Fd K mg "filling" 46 f fd
  e47 : ∃ f fd, Fd K mg "cells_over" 47 f fd
  e48 : ∃ f fd, Fd K mg "holes" 48 f fd
  e49 : ∃ f fd, Fd K mg "heights_on" 49 f fd
  e51 : ∃ f fd, Fd K mg "relations_of" 51 f fd
  e52 : ∃ f fd, Fd K mg "table_times" 52 f fd
  e53 : ∃ f fd, Fd K mg "levelled" 53 f fd
  e54 : ∃ f fd, Fd K mg "wanted_rows" 54 f fd
  e55 : ∃ f fd, Fd K mg "follows" 55 f fd
  e57 : ∃ f fd, Fd K mg "_law_box" 57 f fd
  e58 : ∃ f fd, Fd K mg "_law_take" 58 f fd
  e59 : ∃ f fd, Fd K mg "_law_cells" 59 f fd
  e60 : ∃ f fd, Fd K mg "_law_of" 60 f fd
  e61 : ∃ f fd, Fd K mg "_law_pick" 61 f fd
  e62 : ∃ f fd, Fd K mg "_law_lists" 62 f fd
  e63 : ∃ f fd, Fd K mg "_law_same" 63 f fd
  e64 : ∃ f fd, Fd K mg "_law_dot" 64 f fd
  e65 : ∃ f fd, Fd K mg "_law_plus" 65 f fd
  e66 : ∃ f fd, Fd K mg "_law_many" 66 f fd
  e67 : ∃ f fd, Fd K mg "_law_idle" 67 f fd
  e68 : ∃ f fd, Fd K mg "_law_unit" 68 f fd
  e69 : ∃ f fd, Fd K mg "_law_mixed" 69 f fd
  e70 : ∃ f fd, Fd K mg "_law_round" 70 f fd
  e71 : ∃ f fd, Fd K mg "_law_number" 71 f fd
  e72 : ∃ f fd, Fd K mg "_law_hours" 72 f fd
  e73 : ∃ f fd, Fd K mg "_law_branches" 73 f fd
  e74 : ∃ f fd, Fd K mg "_law_way" 74 f fd
  e75 : ∃ f fd, Fd K mg "_law_ring_rows" 75 f fd
  e76 : ∃ f fd, Fd K mg "_law_web" 76 f fd
  e77 : ∃ f fd, Fd K mg "_law_some_ring" 77 f fd
  e78 : ∃ f fd, Fd K mg "_law_heard" 78 f fd
  e79 : ∃ f fd, Fd K mg "_law_has_filling" 79 f fd
  e80 : ∃ f fd, Fd K mg "_law_roots" 80 f fd
  e81 : ∃ f fd, Fd K mg "_law_wish_of_heights" 81 f fd
  e82 : ∃ f fd, Fd K mg "_law_case_right" 82 f fd
  e83 : ∃ f fd, Fd K mg "_law_by_hand_right" 83 f fd
  e84 : ∃ f fd, Fd K mg "_law_right" 84 f fd
theorem chain (b : Blt mg) (xN : ExN K mg "NoPaper" C) (led : Led P w K mg base T) (HW : AllW) (HC : AllC) (HR : AllR) (BH : ByHand) (FF : AllF K mg) {f85 : Addr} {fd85 : FuncData} (F85 : Fd K mg "law" 85 f85 fd85) : FnOk P w K mg base CX0 10 f85 fd85 ["_law_script"] (spS T K (SP 1 pLaw)) := by
  obtain ⟨_, _, F4⟩ := FF.e4
  obtain ⟨_, _, F5⟩ := FF.e5
  obtain ⟨_, _, F6⟩ := FF.e6
  obtain ⟨_, _, F7⟩ := FF.e7
  obtain ⟨_, _, F8⟩ := FF.e8
  obtain ⟨_, _, F9⟩ := FF.e9
  obtain ⟨_, _, F10⟩ := FF.e10
  obtain ⟨_, _, F11⟩ := FF.e11
  obtain ⟨_, _, F12⟩ := FF.e12
  obtain ⟨_, _, F13⟩ := FF.e13
  obtain ⟨_, _, F14⟩ := FF.e14
  obtain ⟨_, _, F17⟩ := FF.e17
  obtain ⟨_, _, F18⟩ := FF.e18
  obtain ⟨_, _, F19⟩ := FF.e19
  obtain ⟨_, _, F20⟩ := FF.e20
  obtain ⟨_, _, F21⟩ := FF.e21
  obtain ⟨_, _, F22⟩ := FF.e22
  obtain ⟨_, _, F23⟩ := FF.e23
  obtain ⟨_, _, F24⟩ := FF.e24
  obtain ⟨_, _, F25⟩ := FF.e25
  obtain ⟨_, _, F26⟩ := FF.e26
  obtain ⟨_, _, F27⟩ := FF.e27
  obtain ⟨_, _, F28⟩ := FF.e28
  obtain ⟨_, _, F29⟩ := FF.e29
  obtain ⟨_, _, F30⟩ := FF.e30
  obtain ⟨_, _, F32⟩ := FF.e32
  obtain ⟨_, _, F33⟩ := FF.e33
  obtain ⟨_, _, F34⟩ := FF.e34
  obtain ⟨_, _, F35⟩ := FF.e35
  obtain ⟨_, _, F36⟩ := FF.e36
  obtain ⟨_, _, F38⟩ := FF.e38
  obtain ⟨_, _, F39⟩ := FF.e39
  obtain ⟨_, _, F40⟩ := FF.e40
  obtain ⟨_, _, F41⟩ := FF.e41
  obtain ⟨_, _, F42⟩ := FF.e42
  obtain ⟨_, _, F43⟩ := FF.e43
  obtain ⟨_, _, F44⟩ := FF.e44
  obtain ⟨_, _, F45⟩ := FF.e45
  obtain ⟨_, _, F46⟩ := FF.e46
  obtain ⟨_, _, F47⟩ := FF.e47
  obtain ⟨_, _, F48⟩ := FF.e48
  obtain ⟨_, _, F49⟩ := FF.e49
  obtain ⟨_, _, F51⟩ := FF.e51
  obtain ⟨_, _, F52⟩ := FF.e52
  obtain ⟨_, _, F53⟩ := FF.e53
  obtain ⟨_, _, F54⟩ := FF.e54
  obtain ⟨_, _, F55⟩ := FF.e55
  obtain ⟨_, _, F57⟩ := FF.e57
  obtain ⟨_, _, F58⟩ := FF.e58
  obtain ⟨_, _, F59⟩ := FF.e59
  obtain ⟨_, _, F60⟩ := FF.e60
  obtain ⟨_, _, F61⟩ := FF.e61
  obtain ⟨_, _, F62⟩ := FF.e62
  obtain ⟨_, _, F63⟩ := FF.e63
  obtain ⟨_, _, F64⟩ := FF.e64
  obtain ⟨_, _, F65⟩ := FF.e65
  obtain ⟨_, _, F66⟩ := FF.e66
  obtain ⟨_, _, F67⟩ := FF.e67
  obtain ⟨_, _, F68⟩ := FF.e68
  obtain ⟨_, _, F69⟩ := FF.e69
  obtain ⟨_, _, F70⟩ := FF.e70
  obtain ⟨_, _, F71⟩ := FF.e71
  obtain ⟨_, _, F72⟩ := FF.e72
  obtain ⟨_, _, F73⟩ := FF.e73
  obtain ⟨_, _, F74⟩ := FF.e74
  obtain ⟨_, _, F75⟩ := FF.e75
  obtain ⟨_, _, F76⟩ := FF.e76
  obtain ⟨_, _, F77⟩ := FF.e77
  obtain ⟨_, _, F78⟩ := FF.e78
  obtain ⟨_, _, F79⟩ := FF.e79
  obtain ⟨_, _, F80⟩ := FF.e80
  obtain ⟨_, _, F81⟩ := FF.e81
  obtain ⟨_, _, F82⟩ := FF.e82
  obtain ⟨_, _, F83⟩ := FF.e83
  obtain ⟨_, _, F84⟩ := FF.e84
  have d_nothing : Df P w K mg base T 1 "nothing" ["size"] (SP 1 pNothing) := nothing_ok b F5
  have d_unit : Df P w K mg base T 1 "unit" ["place", "size"] (SP 2 pUnit) := unit_ok b F6
  have d_shown : Df P w K mg base T 1 "shown" ["row", "other"] (SP 2 pShown) := shown_ok b F8
  have d_rows_plus : Df P w K mg base T 1 "rows_plus" ["one", "other"] (SP 2 pPlus) := rows_plus_ok b F9
  have d_row_times : Df P w K mg base T 1 "row_times" ["row", "times"] (SP 2 pTimes) := row_times_ok b F11
  have d_round_by : Df P w K mg base T 1 "round_by" ["number", "size"] (SP 2 pRound) := round_by_ok b F14
  have d__law_idle : Df P w K mg base T 1 "_law_idle" ["_law_size_so"] (SP 1 pNothing) := law_idle_ok b F67
  have d__law_unit : Df P w K mg base T 1 "_law_unit" ["_law_place_so", "_law_size_so"] (SP 2 pUnit) := law_unit_ok b F68
  have d__law_dot : Df P w K mg base T 1 "_law_dot" ["_law_one_so", "_law_two_so"] (SP 2 pShown) := law_dot_ok b F64
  have d__law_plus : Df P w K mg base T 1 "_law_plus" ["_law_one_so", "_law_two_so"] (SP 2 pPlus) := law_plus_ok b F65
  have d__law_many : Df P w K mg base T 1 "_law_many" ["_law_row_so", "_law_times_so"] (SP 2 pTimes) := law_many_ok b F66
  have d__law_round : Df P w K mg base T 1 "_law_round" ["_law_number_so", "_law_size_so"] (SP 2 pRound) := law_round_ok b F70
  have d_rows_less : Df P w K mg base T 1 "rows_less" ["one", "other"] (SP 2 pLess) := rows_less_ok b F10
  have d_units : Df P w K mg base T 2 "units" ["size"] (SP 1 pUnits) := units_ok b d_unit F7
  have d_columns : Df P w K mg base T 1 "columns" ["rows", "size"] (SP 2 pCols) := columns_ok b F13
  have d_rows_added : Df P w K mg base T 2 "rows_added" ["times", "rows", "size"] (SP 3 pAdded) := rows_added_ok b d_nothing d_rows_plus d_row_times F12
  have d__law_mixed : Df P w K mg base T 2 "_law_mixed" ["_law_parts_so", "_law_rows_so", "_law_size_so"] (SP 3 pAdded) := law_mixed_ok b d__law_idle d__law_plus d__law_many F69
  have d_turned_about : Df P w K mg base T 2 "turned_about" ["rows", "size"] sTurn := turned_ok b d_columns F22
  have d_exchanged : Df P w K mg base T 1 "exchanged" ["rows", "one", "other"] sExch := exch_ok F24
  have d_taken_from : Df P w K mg base T 1 "taken_from" ["rows", "at", "from_row", "often"] sTaken := taken_ok b F25
  have d_cleared : Df P w K mg base T 2 "cleared" ["rows", "beside", "at"] sClear := cleared_ok b d_taken_from F26
  have d_least_spot : Df P w K mg base T 1 "least_spot" ["rows", "at"] (SP 2 pSpot) := least_spot_ok b F23
  have d_first_odd : Df P w K mg base T 1 "first_odd" ["rows", "at"] (SP 2 pOdd) := first_odd_ok b F27
  have d_stepped : Df P w K mg base T 3 "stepped" ["rows", "long"] (SP 2 pStep) := stepped_ok b led d_row_times d_rows_less F17
  have d_whole_lead : Df P w K mg base T 1 "whole_lead" ["row"] (SP 1 pLead) := whole_lead_ok b F18
  have d_times_for : Df P w K mg base T 4 "times_for" ["rows", "row"] (SP 2 pTms) := times_for_ok b d_nothing d_units d_row_times d_rows_less d_rows_added d_stepped d_whole_lead F19
  have d_is_made : Df P w K mg base T 5 "is_made" ["rows", "row"] (SP 2 pMade) := is_made_ok (tupled_ok b F4 2) d_times_for F20
  have d_made_by : Dx P w K mg base T C 5 "made_by" ["rows", "row"] 2 pMadeX := made_by_ok xN (tupled_ok b F4 2) d_times_for F21
  have d_border_of : Df P w K mg base T 1 "border_of" ["places", "ties", "row"] (SP 3 pBord) := border_of_ok b F38
  have d_branches_of : Df P w K mg base T 1 "branches_of" ["places", "ties"] (SL 2 pBr) := branches_of_ok b F39
  have d_other_ties : Df P w K mg base T 2 "other_ties" ["places", "ties"] (SL 2 pOt) := other_ties_ok b d_branches_of F40
  have d_stepped_on : Df P w K mg base T 1 "stepped_on" ["way", "number", "many"] (SP 3 pOn) := stepped_on_ok b F43
  have d_grown_ways : Df P w K mg base T 2 "grown_ways" ["ties", "branches", "found"] sGrow := grown_ways_ok b d_stepped_on F42
  have d_ways_from_roots : Df P w K mg base T 3 "ways_from_roots" ["places", "ties"] (SL 2 pWays) := ways_ok b d_nothing d_branches_of d_grown_ways F41
  have d_ring_rows : Df P w K mg base T 5 "ring_rows" ["web"] (SP 1 pRing) := ring_rows_ok b (tupled_ok b F4 3) d_ways_from_roots d_other_ties d_rows_added d_stepped_on F44
  have d_sure_ring : Df P w K mg base T 5 "sure_ring" ["web", "ring"] (SP 2 pSure) := sure_ring_ok b (tupled_ok b F4 3) d_border_of F45
  have d_filling : Dx P w K mg base T C 6 "filling" ["web", "ring"] 2 pFill := filling_ok d_sure_ring d_made_by F46
  have d__law_has_filling : Df P w K mg base T 7 "_law_has_filling" ["_law_web_here", "_law_ring"] (SP 2 pHasF) := law_has_filling_ok xN d_filling F79
  have d_cells_over : Df P w K mg base T 3 "cells_over" ["web"] (SP 1 pOver) := cells_over_ok b d_other_ties F47
  have d_heights_on : Dx P w K mg base T C 5 "heights_on" ["web", "size", "hours"] 3 pHeights := heights_on_ok b xN (tupled_ok b F4 3) d_ways_from_roots d_shown d_round_by F49
  have d__law_heard : Df P w K mg base T 6 "_law_heard" ["_law_web_here", "_law_size", "_law_hours_here"] (SP 3 pHeard) := law_heard_ok b xN d_heights_on F78
  have d_corner_made : Df P w K mg base T 3 "corner_made" ["rows", "left", "right", "at"] sCorner := corner_made_ok b d_least_spot d_exchanged d_turned_about d_cleared d_first_odd d_taken_from F28
  have d_diagonal : Df P w K mg base T 5 "diagonal" ["table"] (SP 1 pDiag) := diagonal_ok b d_units d_least_spot d_corner_made (tupled_ok b F4 3) d_columns F29
  have d_steps_of : Df P w K mg base T 6 "steps_of" ["table"] (SP 1 pSteps) := steps_of_ok d_diagonal F30
  have d_near_of : Df P w K mg base T 1 "near_of" ["wish"] (SP 1 pNear) := near_of_ok b F32
  have d_far_of : Df P w K mg base T 1 "far_of" ["wish"] (SP 1 pFar) := far_of_ok b F33
  have d_hidden_for : Df P w K mg base T 5 "hidden_for" ["wish", "size", "hours"] (SP 3 pHid) := hidden_for_ok b d_near_of d_far_of d_shown d_columns d_row_times d_units d_times_for d_round_by F34
  have d_hidden_all : Df P w K mg base T 6 "hidden_all" ["wish", "world"] sAll := hidden_all_ok b d_hidden_for F35
  have d_keeps : Df P w K mg base T 7 "keeps" ["wish", "world"] (SP 2 pKeeps) := keeps_ok (tupled_ok b F4 4) d_hidden_all F36
  have d_relations_of : Df P w K mg base T 2 "relations_of" ["wish"] (SP 1 pRel) := relations_of_ok b d_row_times F51
  have d_table_times : Df P w K mg base T 3 "table_times" ["one", "other", "size"] (SP 3 pTab) := table_times_ok b d_rows_added F52
  have d_levelled : Df P w K mg base T 6 "levelled" ["wish"] (SP 1 pLev) := levelled_ok b d_diagonal d_far_of d_units F53
  have d_wanted_rows : Df P w K mg base T 7 "wanted_rows" ["one", "other"] (SL 2 pWant) := wanted_rows_ok b d_levelled d_table_times d_near_of d_row_times d_units d_relations_of d_nothing F54
  have d_follows : Df P w K mg base T 8 "follows" ["one", "other"] (SP 2 pFollows) := follows_ok b (tupled_ok b F4 4) d_wanted_rows d_is_made F55
  have d_holes : Df P w K mg base T 7 "holes" ["web"] (SP 1 pHoles) := holes_ok b (tupled_ok b F4 3) d_cells_over d_steps_of F48
  have d__law_take : Df P w K mg base T 1 "_law_take" ["_law_tin", "_law_below_so"] sTake := law_take_ok b F58
  have d__law_of : Df P w K mg base T 2 "_law_of" ["_law_tin", "_law_goods_so"] sOf := law_of_ok b d__law_take F60
  have d__law_number : Df P w K mg base T 3 "_law_number" ["_law_tin"] sNum := law_number_ok d__law_of F71
  have d__law_hours : Df P w K mg base T 4 "_law_hours" ["_law_tin", "_law_size_so", "_law_many_so"] sHours := law_hours_ok b d__law_take d__law_number F72
  have d__law_pick : Df P w K mg base T 2 "_law_pick" ["_law_tin", "_law_goods_so", "_law_count_so"] sPick := law_pick_ok b d__law_take F61
  have d__law_box : Df P w K mg base T 1 "_law_box" ["_law_script", "_law_k"] sBox := law_box_ok b F57
  have d__law_cells : Df P w K mg base T 1 "_law_cells" ["_law_script", "_law_most_so"] sCells := law_cells_ok b F59
  have d__law_branches : Df P w K mg base T 1 "_law_branches" ["_law_web_so"] (SL 1 pLB) := law_branches_ok b F73
  have d__law_ring_rows : Df P w K mg base T 7 "_law_ring_rows" ["_law_web_so"] (SP 1 pLR) := law_ring_rows_ok b d__law_branches d__law_plus d__law_unit (law_way_ok b d__law_idle d__law_plus d__law_many d__law_unit F74 4) F75
  have d__law_web : Df P w K mg base T 8 "_law_web" ["_law_tin", "_law_most_so"] sWeb := law_web_ok b HW d__law_take d__law_ring_rows d__law_of d__law_idle d__law_pick d__law_plus d__law_many F76
  have d__law_some_ring : Df P w K mg base T 8 "_law_some_ring" ["_law_tin", "_law_web_so"] sRing := law_some_ring_ok b HW d__law_take d__law_ring_rows d__law_of d__law_mixed F77
  have d__law_roots : Df P w K mg base T 1 "_law_roots" ["_law_web_here"] (SL 1 pRoots) := law_roots_ok b F80
  have d__law_wish_of_heights : Df P w K mg base T 2 "_law_wish_of_heights" ["_law_web_here"] (SP 1 fun ds r => ∃ ties cells, ∃ n : Nat, ds = [webD n ties cells] ∧ (n ≤ 10 ∧ ties.length ≤ 10) ∧ r = wishD ties.length n (linesM n ties)) := law_wish_ok b d__law_plus d__law_many d__law_unit F81
  have d__law_case_right : Df P w K mg base T 8 "_law_case_right" ["_law_tin", "_law_web_here", "_law_size"] sCase := law_case_ok b HW HC F49 d__law_take d__law_of d__law_hours d__law_roots d__law_round d__law_dot d__law_heard d_heights_on (law_lists_ok b F62 3) d_ring_rows d__law_wish_of_heights d_keeps (law_same_ok b F63 2) (law_same_ok b F63 1) F82
  have d__law_right : Df P w K mg base T 9 "_law_right" ["_law_tin"] sRight := law_right_ok b HW HR d__law_web d__law_of d__law_case_right d__law_heard d_holes d__law_some_ring d_follows d__law_wish_of_heights d__law_has_filling (law_same_ok b F63 3) (law_same_ok b F63 1) F84
  have d__law_by_hand_right : Df P w K mg base T 9 "_law_by_hand_right" [] (SP 0 fun ds r => r = .bool true) := law_by_hand_ok b BH d__law_heard d_follows d_keeps d__law_wish_of_heights d__law_has_filling (law_same_ok b F63 2) F83
  exact law_fn d__law_by_hand_right d__law_right d__law_box d__law_cells F85
end
end Wk

set_option Elab.async false
set_option linter.all false
set_option maxRecDepth 1000000
set_option maxHeartbeats 0
namespace Wk
def chkK (n : Nat) (ties : Ties) : Bool := chkWays n ties.length ties (rootsM n ties) (waysM n ties) && chkRings n ties (otM n ties) (ringM n ties) && chkRoots ties (rootsM n ties) && chkBr ties (brM n ties) (wayAt n ties)
def chkD (n : Nat) (ties : Ties) : Bool := chkDiag n ties.length (incM n ties)
def prs (n : Nat) : List (Nat × Nat) := (List.range n).flatMap fun a => (List.range n).map fun b => (a, b)
def prsN (n : Nat) : List (Nat × Nat) := (0, 0) :: (prs n).filter fun p => !decide (p.1 = p.2)
def tls (ps : List (Nat × Nat)) : Nat → List Ties
  | 0 => [[]]
  | k + 1 => (tls ps k).flatMap fun t => ps.map fun p => p :: t
theorem mem_tls {ps : List (Nat × Nat)} : ∀ {ties : Ties}, (∀ p ∈ ties, p ∈ ps) → ties ∈ tls ps ties.length
  | [], _ => List.mem_singleton.mpr rfl
  | p :: t, h => by
    show p :: t ∈ (tls ps t.length).flatMap _
    exact List.mem_flatMap.mpr ⟨t, mem_tls fun q hq => h q (List.mem_cons_of_mem _ hq), List.mem_map.mpr ⟨p, h p List.mem_cons_self, rfl⟩⟩
theorem mem_prs {n : Nat} {p : Nat × Nat} (h1 : p.1 < n) (h2 : p.2 < n) : p ∈ prs n := List.mem_flatMap.mpr ⟨p.1, List.mem_range.mpr h1, List.mem_map.mpr ⟨p.2, List.mem_range.mpr h2, rfl⟩⟩
def nrm (p : Nat × Nat) : Nat × Nat := if p.1 = p.2 then (0, 0) else p
theorem mem_prsN {n : Nat} {p : Nat × Nat} (h1 : p.1 < n) (h2 : p.2 < n) : nrm p ∈ prsN n := by
  unfold nrm; split
  · exact List.mem_cons_self
  · rename_i h; exact List.mem_cons_of_mem _ (List.mem_filter.mpr ⟨mem_prs h1 h2, by simpa using h⟩)
theorem zero_line {n a : Nat} (ha : a < n) : addR (oneAt a n) (scal (oneAt a n) (-1)) = zerR n := vec_ext (by rw [addR_length, scal_length, oneAt_length, zerR_length, Nat.min_self]) fun i hi => by
  rw [vec_addR (by rw [scal_length, oneAt_length]), vec_scal, vec_zerR]; omega
theorem inc_nrm {n : Nat} {ties : Ties} (h : Ends n ties) (hn : 0 < n) : incM n (ties.map nrm) = incM n ties := by
  have e : ∀ ties : Ties, incM n ties = ties.map fun p => addR (oneAt p.2 n) (scal (oneAt p.1 n) (-1)) := fun ties => by
    unfold incM linesM
    rw [List.map_map]
    have : (fun x => x.2) ∘ lineM n ties.length = fun q => (fun p : Nat × Nat => addR (oneAt p.2 n) (scal (oneAt p.1 n) (-1))) q.1 := rfl
    have e2 : ties.zipIdx.map (fun q => (fun p : Nat × Nat => addR (oneAt p.2 n) (scal (oneAt p.1 n) (-1))) q.1) = (ties.zipIdx.map Prod.fst).map fun p : Nat × Nat => addR (oneAt p.2 n) (scal (oneAt p.1 n) (-1)) := by rw [List.map_map]; rfl
    rw [this, e2, List.zipIdx_map_fst]
  rw [e, e, List.map_map]
  refine List.map_congr_left fun p hp => ?_
  show addR (oneAt (nrm p).2 n) (scal (oneAt (nrm p).1 n) (-1)) = _
  unfold nrm
  split
  · rename_i q
    rw [show (addR (oneAt ((0, 0) : Nat × Nat).2 n) (scal (oneAt ((0, 0) : Nat × Nat).1 n) (-1))) = zerR n from zero_line hn, q, zero_line (h p hp).2]
  · rfl
theorem chkK_1_0 : ((tls (prs 1) 0).all (chkK 1)) = true := by decide +kernel
theorem chkK_1_1 : ((tls (prs 1) 1).all (chkK 1)) = true := by decide +kernel
theorem chkK_1_2 : ((tls (prs 1) 2).all (chkK 1)) = true := by decide +kernel
theorem chkK_1_3 : ((tls (prs 1) 3).all (chkK 1)) = true := by decide +kernel
theorem chkK_2_0 : ((tls (prs 2) 0).all (chkK 2)) = true := by decide +kernel
theorem chkK_2_1 : ((tls (prs 2) 1).all (chkK 2)) = true := by decide +kernel
theorem chkK_2_2 : ((tls (prs 2) 2).all (chkK 2)) = true := by decide +kernel
theorem chkK_2_3 : ((tls (prs 2) 3).all (chkK 2)) = true := by decide +kernel
theorem chkK_3_0 : ((tls (prs 3) 0).all (chkK 3)) = true := by decide +kernel
theorem chkK_3_1 : ((tls (prs 3) 1).all (chkK 3)) = true := by decide +kernel
theorem chkK_3_2 : ((tls (prs 3) 2).all (chkK 3)) = true := by decide +kernel
theorem chkK_3_3_0 : ((tls (prs 3) 2).all fun t => chkK 3 ((0, 0) :: t)) = true := by decide +kernel
theorem chkK_3_3_1 : ((tls (prs 3) 2).all fun t => chkK 3 ((0, 1) :: t)) = true := by decide +kernel
theorem chkK_3_3_2 : ((tls (prs 3) 2).all fun t => chkK 3 ((0, 2) :: t)) = true := by decide +kernel
theorem chkK_3_3_3 : ((tls (prs 3) 2).all fun t => chkK 3 ((1, 0) :: t)) = true := by decide +kernel
theorem chkK_3_3_4 : ((tls (prs 3) 2).all fun t => chkK 3 ((1, 1) :: t)) = true := by decide +kernel
theorem chkK_3_3_5 : ((tls (prs 3) 2).all fun t => chkK 3 ((1, 2) :: t)) = true := by decide +kernel
theorem chkK_3_3_6 : ((tls (prs 3) 2).all fun t => chkK 3 ((2, 0) :: t)) = true := by decide +kernel
theorem chkK_3_3_7 : ((tls (prs 3) 2).all fun t => chkK 3 ((2, 1) :: t)) = true := by decide +kernel
theorem chkK_3_3_8 : ((tls (prs 3) 2).all fun t => chkK 3 ((2, 2) :: t)) = true := by decide +kernel
theorem chkK_3_3 : ∀ ties ∈ tls (prs 3) 3, chkK 3 ties = true := fun ties h => by
  obtain ⟨t, ht, h⟩ := List.mem_flatMap.mp h
  obtain ⟨p, hp, rfl⟩ := List.mem_map.mp h
  have hp : p ∈ ([(0, 0), (0, 1), (0, 2), (1, 0), (1, 1), (1, 2), (2, 0), (2, 1), (2, 2)] : List (Nat × Nat)) := hp
  simp only [List.mem_cons, List.not_mem_nil, or_false] at hp
  rcases hp with rfl | rfl | rfl | rfl | rfl | rfl | rfl | rfl | rfl
  · exact List.all_eq_true.mp chkK_3_3_0 t ht
  · exact List.all_eq_true.mp chkK_3_3_1 t ht
  · exact List.all_eq_true.mp chkK_3_3_2 t ht
  · exact List.all_eq_true.mp chkK_3_3_3 t ht
  · exact List.all_eq_true.mp chkK_3_3_4 t ht
  · exact List.all_eq_true.mp chkK_3_3_5 t ht
  · exact List.all_eq_true.mp chkK_3_3_6 t ht
  · exact List.all_eq_true.mp chkK_3_3_7 t ht
  · exact List.all_eq_true.mp chkK_3_3_8 t ht
theorem chkK_4_0 : ((tls (prs 4) 0).all (chkK 4)) = true := by decide +kernel
theorem chkK_4_1 : ((tls (prs 4) 1).all (chkK 4)) = true := by decide +kernel
theorem chkK_4_2 : ((tls (prs 4) 2).all (chkK 4)) = true := by decide +kernel
theorem chkK_4_3_0 : ((tls (prs 4) 2).all fun t => chkK 4 ((0, 0) :: t)) = true := by decide +kernel
theorem chkK_4_3_1 : ((tls (prs 4) 2).all fun t => chkK 4 ((0, 1) :: t)) = true := by decide +kernel
theorem chkK_4_3_2 : ((tls (prs 4) 2).all fun t => chkK 4 ((0, 2) :: t)) = true := by decide +kernel
theorem chkK_4_3_3 : ((tls (prs 4) 2).all fun t => chkK 4 ((0, 3) :: t)) = true := by decide +kernel
theorem chkK_4_3_4 : ((tls (prs 4) 2).all fun t => chkK 4 ((1, 0) :: t)) = true := by decide +kernel
theorem chkK_4_3_5 : ((tls (prs 4) 2).all fun t => chkK 4 ((1, 1) :: t)) = true := by decide +kernel
theorem chkK_4_3_6 : ((tls (prs 4) 2).all fun t => chkK 4 ((1, 2) :: t)) = true := by decide +kernel
theorem chkK_4_3_7 : ((tls (prs 4) 2).all fun t => chkK 4 ((1, 3) :: t)) = true := by decide +kernel
theorem chkK_4_3_8 : ((tls (prs 4) 2).all fun t => chkK 4 ((2, 0) :: t)) = true := by decide +kernel
theorem chkK_4_3_9 : ((tls (prs 4) 2).all fun t => chkK 4 ((2, 1) :: t)) = true := by decide +kernel
theorem chkK_4_3_10 : ((tls (prs 4) 2).all fun t => chkK 4 ((2, 2) :: t)) = true := by decide +kernel
theorem chkK_4_3_11 : ((tls (prs 4) 2).all fun t => chkK 4 ((2, 3) :: t)) = true := by decide +kernel
theorem chkK_4_3_12 : ((tls (prs 4) 2).all fun t => chkK 4 ((3, 0) :: t)) = true := by decide +kernel
theorem chkK_4_3_13 : ((tls (prs 4) 2).all fun t => chkK 4 ((3, 1) :: t)) = true := by decide +kernel
theorem chkK_4_3_14 : ((tls (prs 4) 2).all fun t => chkK 4 ((3, 2) :: t)) = true := by decide +kernel
theorem chkK_4_3_15 : ((tls (prs 4) 2).all fun t => chkK 4 ((3, 3) :: t)) = true := by decide +kernel
theorem chkK_4_3 : ∀ ties ∈ tls (prs 4) 3, chkK 4 ties = true := fun ties h => by
  obtain ⟨t, ht, h⟩ := List.mem_flatMap.mp h
  obtain ⟨p, hp, rfl⟩ := List.mem_map.mp h
  have hp : p ∈ ([(0, 0), (0, 1), (0, 2), (0, 3), (1, 0), (1, 1), (1, 2), (1, 3), (2, 0), (2, 1), (2, 2), (2, 3), (3, 0), (3, 1), (3, 2), (3, 3)] : List (Nat × Nat)) := hp
  simp only [List.mem_cons, List.not_mem_nil, or_false] at hp
  rcases hp with rfl | rfl | rfl | rfl | rfl | rfl | rfl | rfl | rfl | rfl | rfl | rfl | rfl | rfl | rfl | rfl
  · exact List.all_eq_true.mp chkK_4_3_0 t ht
  · exact List.all_eq_true.mp chkK_4_3_1 t ht
  · exact List.all_eq_true.mp chkK_4_3_2 t ht
  · exact List.all_eq_true.mp chkK_4_3_3 t ht
  · exact List.all_eq_true.mp chkK_4_3_4 t ht
  · exact List.all_eq_true.mp chkK_4_3_5 t ht
  · exact List.all_eq_true.mp chkK_4_3_6 t ht
  · exact List.all_eq_true.mp chkK_4_3_7 t ht
  · exact List.all_eq_true.mp chkK_4_3_8 t ht
  · exact List.all_eq_true.mp chkK_4_3_9 t ht
  · exact List.all_eq_true.mp chkK_4_3_10 t ht
  · exact List.all_eq_true.mp chkK_4_3_11 t ht
  · exact List.all_eq_true.mp chkK_4_3_12 t ht
  · exact List.all_eq_true.mp chkK_4_3_13 t ht
  · exact List.all_eq_true.mp chkK_4_3_14 t ht
  · exact List.all_eq_true.mp chkK_4_3_15 t ht
theorem chkD_1_0 : ((tls (prsN 1) 0).all (chkD 1)) = true := by decide +kernel
theorem chkD_1_1 : ((tls (prsN 1) 1).all (chkD 1)) = true := by decide +kernel
theorem chkD_1_2 : ((tls (prsN 1) 2).all (chkD 1)) = true := by decide +kernel
theorem chkD_1_3 : ((tls (prsN 1) 3).all (chkD 1)) = true := by decide +kernel
theorem chkD_2_0 : ((tls (prsN 2) 0).all (chkD 2)) = true := by decide +kernel
theorem chkD_2_1 : ((tls (prsN 2) 1).all (chkD 2)) = true := by decide +kernel
theorem chkD_2_2 : ((tls (prsN 2) 2).all (chkD 2)) = true := by decide +kernel
theorem chkD_2_3 : ((tls (prsN 2) 3).all (chkD 2)) = true := by decide +kernel
theorem chkD_3_0 : ((tls (prsN 3) 0).all (chkD 3)) = true := by decide +kernel
theorem chkD_3_1 : ((tls (prsN 3) 1).all (chkD 3)) = true := by decide +kernel
theorem chkD_3_2 : ((tls (prsN 3) 2).all (chkD 3)) = true := by decide +kernel
theorem chkD_3_3_0 : ((tls (prsN 3) 2).all fun t => chkD 3 ((0, 0) :: t)) = true := by decide +kernel
theorem chkD_3_3_1 : ((tls (prsN 3) 2).all fun t => chkD 3 ((0, 1) :: t)) = true := by decide +kernel
theorem chkD_3_3_2 : ((tls (prsN 3) 2).all fun t => chkD 3 ((0, 2) :: t)) = true := by decide +kernel
theorem chkD_3_3_3 : ((tls (prsN 3) 2).all fun t => chkD 3 ((1, 0) :: t)) = true := by decide +kernel
theorem chkD_3_3_4 : ((tls (prsN 3) 2).all fun t => chkD 3 ((1, 2) :: t)) = true := by decide +kernel
theorem chkD_3_3_5 : ((tls (prsN 3) 2).all fun t => chkD 3 ((2, 0) :: t)) = true := by decide +kernel
theorem chkD_3_3_6 : ((tls (prsN 3) 2).all fun t => chkD 3 ((2, 1) :: t)) = true := by decide +kernel
theorem chkD_3_3 : ∀ ties ∈ tls (prsN 3) 3, chkD 3 ties = true := fun ties h => by
  obtain ⟨t, ht, h⟩ := List.mem_flatMap.mp h
  obtain ⟨p, hp, rfl⟩ := List.mem_map.mp h
  have hp : p ∈ ([(0, 0), (0, 1), (0, 2), (1, 0), (1, 2), (2, 0), (2, 1)] : List (Nat × Nat)) := hp
  simp only [List.mem_cons, List.not_mem_nil, or_false] at hp
  rcases hp with rfl | rfl | rfl | rfl | rfl | rfl | rfl
  · exact List.all_eq_true.mp chkD_3_3_0 t ht
  · exact List.all_eq_true.mp chkD_3_3_1 t ht
  · exact List.all_eq_true.mp chkD_3_3_2 t ht
  · exact List.all_eq_true.mp chkD_3_3_3 t ht
  · exact List.all_eq_true.mp chkD_3_3_4 t ht
  · exact List.all_eq_true.mp chkD_3_3_5 t ht
  · exact List.all_eq_true.mp chkD_3_3_6 t ht
theorem chkD_4_0 : ((tls (prsN 4) 0).all (chkD 4)) = true := by decide +kernel
theorem chkD_4_1 : ((tls (prsN 4) 1).all (chkD 4)) = true := by decide +kernel
theorem chkD_4_2 : ((tls (prsN 4) 2).all (chkD 4)) = true := by decide +kernel
theorem chkD_4_3_0 : ((tls (prsN 4) 2).all fun t => chkD 4 ((0, 0) :: t)) = true := by decide +kernel
theorem chkD_4_3_1 : ((tls (prsN 4) 2).all fun t => chkD 4 ((0, 1) :: t)) = true := by decide +kernel
theorem chkD_4_3_2 : ((tls (prsN 4) 2).all fun t => chkD 4 ((0, 2) :: t)) = true := by decide +kernel
theorem chkD_4_3_3 : ((tls (prsN 4) 2).all fun t => chkD 4 ((0, 3) :: t)) = true := by decide +kernel
theorem chkD_4_3_4 : ((tls (prsN 4) 2).all fun t => chkD 4 ((1, 0) :: t)) = true := by decide +kernel
theorem chkD_4_3_5 : ((tls (prsN 4) 2).all fun t => chkD 4 ((1, 2) :: t)) = true := by decide +kernel
theorem chkD_4_3_6 : ((tls (prsN 4) 2).all fun t => chkD 4 ((1, 3) :: t)) = true := by decide +kernel
theorem chkD_4_3_7 : ((tls (prsN 4) 2).all fun t => chkD 4 ((2, 0) :: t)) = true := by decide +kernel
theorem chkD_4_3_8 : ((tls (prsN 4) 2).all fun t => chkD 4 ((2, 1) :: t)) = true := by decide +kernel
theorem chkD_4_3_9 : ((tls (prsN 4) 2).all fun t => chkD 4 ((2, 3) :: t)) = true := by decide +kernel
theorem chkD_4_3_10 : ((tls (prsN 4) 2).all fun t => chkD 4 ((3, 0) :: t)) = true := by decide +kernel
theorem chkD_4_3_11 : ((tls (prsN 4) 2).all fun t => chkD 4 ((3, 1) :: t)) = true := by decide +kernel
theorem chkD_4_3_12 : ((tls (prsN 4) 2).all fun t => chkD 4 ((3, 2) :: t)) = true := by decide +kernel
theorem chkD_4_3 : ∀ ties ∈ tls (prsN 4) 3, chkD 4 ties = true := fun ties h => by
  obtain ⟨t, ht, h⟩ := List.mem_flatMap.mp h
  obtain ⟨p, hp, rfl⟩ := List.mem_map.mp h
  have hp : p ∈ ([(0, 0), (0, 1), (0, 2), (0, 3), (1, 0), (1, 2), (1, 3), (2, 0), (2, 1), (2, 3), (3, 0), (3, 1), (3, 2)] : List (Nat × Nat)) := hp
  simp only [List.mem_cons, List.not_mem_nil, or_false] at hp
  rcases hp with rfl | rfl | rfl | rfl | rfl | rfl | rfl | rfl | rfl | rfl | rfl | rfl | rfl
  · exact List.all_eq_true.mp chkD_4_3_0 t ht
  · exact List.all_eq_true.mp chkD_4_3_1 t ht
  · exact List.all_eq_true.mp chkD_4_3_2 t ht
  · exact List.all_eq_true.mp chkD_4_3_3 t ht
  · exact List.all_eq_true.mp chkD_4_3_4 t ht
  · exact List.all_eq_true.mp chkD_4_3_5 t ht
  · exact List.all_eq_true.mp chkD_4_3_6 t ht
  · exact List.all_eq_true.mp chkD_4_3_7 t ht
  · exact List.all_eq_true.mp chkD_4_3_8 t ht
  · exact List.all_eq_true.mp chkD_4_3_9 t ht
  · exact List.all_eq_true.mp chkD_4_3_10 t ht
  · exact List.all_eq_true.mp chkD_4_3_11 t ht
  · exact List.all_eq_true.mp chkD_4_3_12 t ht
theorem chkK_all {n : Nat} {ties : Ties} (h1 : 1 ≤ n) (h2 : n ≤ 4) (h3 : ties.length ≤ 3) (h : ∀ p ∈ ties, p ∈ prs n) : chkK n ties = true := by
  have m := mem_tls h
  obtain ⟨k, hk⟩ : ∃ k, ties.length = k := ⟨_, rfl⟩
  rw [hk] at m h3
  have en : n = 1 ∨ n = 2 ∨ n = 3 ∨ n = 4 := by omega
  have ek : k = 0 ∨ k = 1 ∨ k = 2 ∨ k = 3 := by omega
  clear hk h h1 h2 h3
  rcases en with rfl | rfl | rfl | rfl <;> rcases ek with rfl | rfl | rfl | rfl
  · exact List.all_eq_true.mp chkK_1_0 ties m
  · exact List.all_eq_true.mp chkK_1_1 ties m
  · exact List.all_eq_true.mp chkK_1_2 ties m
  · exact List.all_eq_true.mp chkK_1_3 ties m
  · exact List.all_eq_true.mp chkK_2_0 ties m
  · exact List.all_eq_true.mp chkK_2_1 ties m
  · exact List.all_eq_true.mp chkK_2_2 ties m
  · exact List.all_eq_true.mp chkK_2_3 ties m
  · exact List.all_eq_true.mp chkK_3_0 ties m
  · exact List.all_eq_true.mp chkK_3_1 ties m
  · exact List.all_eq_true.mp chkK_3_2 ties m
  · exact chkK_3_3 ties m
  · exact List.all_eq_true.mp chkK_4_0 ties m
  · exact List.all_eq_true.mp chkK_4_1 ties m
  · exact List.all_eq_true.mp chkK_4_2 ties m
  · exact chkK_4_3 ties m
theorem chkD_all {n : Nat} {ties : Ties} (h1 : 1 ≤ n) (h2 : n ≤ 4) (h3 : ties.length ≤ 3) (h : ∀ p ∈ ties, p ∈ prsN n) : chkD n ties = true := by
  have m := mem_tls h
  obtain ⟨k, hk⟩ : ∃ k, ties.length = k := ⟨_, rfl⟩
  rw [hk] at m h3
  have en : n = 1 ∨ n = 2 ∨ n = 3 ∨ n = 4 := by omega
  have ek : k = 0 ∨ k = 1 ∨ k = 2 ∨ k = 3 := by omega
  clear hk h h1 h2 h3
  rcases en with rfl | rfl | rfl | rfl <;> rcases ek with rfl | rfl | rfl | rfl
  · exact List.all_eq_true.mp chkD_1_0 ties m
  · exact List.all_eq_true.mp chkD_1_1 ties m
  · exact List.all_eq_true.mp chkD_1_2 ties m
  · exact List.all_eq_true.mp chkD_1_3 ties m
  · exact List.all_eq_true.mp chkD_2_0 ties m
  · exact List.all_eq_true.mp chkD_2_1 ties m
  · exact List.all_eq_true.mp chkD_2_2 ties m
  · exact List.all_eq_true.mp chkD_2_3 ties m
  · exact List.all_eq_true.mp chkD_3_0 ties m
  · exact List.all_eq_true.mp chkD_3_1 ties m
  · exact List.all_eq_true.mp chkD_3_2 ties m
  · exact chkD_3_3 ties m
  · exact List.all_eq_true.mp chkD_4_0 ties m
  · exact List.all_eq_true.mp chkD_4_1 ties m
  · exact List.all_eq_true.mp chkD_4_2 ties m
  · exact chkD_4_3 ties m
theorem allK : AllK := fun n ties ⟨h1, h2, h3, h4⟩ => chkK_all h1 h2 h3 fun p hp => mem_prs (h4 p hp).1 (h4 p hp).2
theorem allD : AllD := fun n ties ⟨h1, h2, h3, h4⟩ => by
  have := chkD_all (ties := ties.map nrm) h1 h2 (by rw [List.length_map]; exact h3) fun p hp => by
    obtain ⟨q, hq, rfl⟩ := List.mem_map.mp hp
    exact mem_prsN (h4 q hq).1 (h4 q hq).2
  unfold chkD at this
  rw [List.length_map, inc_nrm h4 h1] at this
  exact this
end Wk

set_option Elab.async false
set_option linter.all false
set_option maxRecDepth 100000
set_option maxHeartbeats 2000000
namespace Wk
open PySem PySem.Spec PyProof.Rows L2 NdefX DL
theorem fd_of {K : PySem.W.Frag} {h : Heap} {mg : Str → Option Value} (KX : K.In h) (G : h.Ns mainGlobals mg) (cd : He.SaysD Hd.fa Hd.fn K) (x : Str) (i j l : Nat) (h1 : Hd.fn[j]? = some (Hd.dd x i)) (h2 : Hd.fa[l]? = some (.glo x)) : ∃ f fd, Fd K mg x i f fd := by
  obtain ⟨fd, F⟩ := cd.def_ j h1
  exact ⟨_, fd, F, He.glo_ok KX G (cd.fact l h2)⟩
theorem allF_of {K : PySem.W.Frag} {h : Heap} {mg : Str → Option Value} (KX : K.In h) (G : h.Ns mainGlobals mg) (cd : He.SaysD Hd.fa Hd.fn K) : AllF K mg where
  e4 := fd_of KX G cd "tupled" 4 0 0 rfl rfl
  e5 := fd_of KX G cd "nothing" 5 1 1 rfl rfl
  e6 := fd_of KX G cd "unit" 6 2 2 rfl rfl
  e7 := fd_of KX G cd "units" 7 3 3 rfl rfl
  e8 := fd_of KX G cd "shown" 8 4 4 rfl rfl
  e9 := fd_of KX G cd "rows_plus" 9 5 5 rfl rfl
  e10 := fd_of KX G cd "rows_less" 10 6 6 rfl rfl
  e11 := fd_of KX G cd "row_times" 11 7 7 rfl rfl
  e12 := fd_of KX G cd "rows_added" 12 8 8 rfl rfl
  e13 := fd_of KX G cd "columns" 13 9 9 rfl rfl
  e14 := fd_of KX G cd "round_by" 14 10 10 rfl rfl
  e17 := fd_of KX G cd "stepped" 17 12 12 rfl rfl
  e18 := fd_of KX G cd "whole_lead" 18 13 13 rfl rfl
  e19 := fd_of KX G cd "times_for" 19 14 14 rfl rfl
  e20 := fd_of KX G cd "is_made" 20 15 15 rfl rfl
  e21 := fd_of KX G cd "made_by" 21 16 16 rfl rfl
  e22 := fd_of KX G cd "turned_about" 22 17 17 rfl rfl
  e23 := fd_of KX G cd "least_spot" 23 18 18 rfl rfl
  e24 := fd_of KX G cd "exchanged" 24 19 19 rfl rfl
  e25 := fd_of KX G cd "taken_from" 25 20 20 rfl rfl
  e26 := fd_of KX G cd "cleared" 26 21 21 rfl rfl
  e27 := fd_of KX G cd "first_odd" 27 22 22 rfl rfl
  e28 := fd_of KX G cd "corner_made" 28 23 23 rfl rfl
  e29 := fd_of KX G cd "diagonal" 29 24 24 rfl rfl
  e30 := fd_of KX G cd "steps_of" 30 25 25 rfl rfl
  e32 := fd_of KX G cd "near_of" 32 26 26 rfl rfl
  e33 := fd_of KX G cd "far_of" 33 27 27 rfl rfl
  e34 := fd_of KX G cd "hidden_for" 34 28 28 rfl rfl
  e35 := fd_of KX G cd "hidden_all" 35 29 29 rfl rfl
  e36 := fd_of KX G cd "keeps" 36 30 30 rfl rfl
  e38 := fd_of KX G cd "border_of" 38 31 31 rfl rfl
  e39 := fd_of KX G cd "branches_of" 39 32 32 rfl rfl
  e40 := fd_of KX G cd "other_ties" 40 33 33 rfl rfl
  e41 := fd_of KX G cd "ways_from_roots" 41 34 34 rfl rfl
  e42 := fd_of KX G cd "grown_ways" 42 35 35 rfl rfl
  e43 := fd_of KX G cd "stepped_on" 43 36 36 rfl rfl
  e44 := fd_of KX G cd "ring_rows" 44 37 37 rfl rfl
  e45 := fd_of KX G cd "sure_ring" 45 38 38 rfl rfl
  e46 := fd_of KX G cd "filling" 46 39 39 rfl rfl
  e47 := fd_of KX G cd "cells_over" 47 40 40 rfl rfl
  e48 := fd_of KX G cd "holes" 48 41 41 rfl rfl
  e49 := fd_of KX G cd "heights_on" 49 42 42 rfl rfl
  e51 := fd_of KX G cd "relations_of" 51 43 43 rfl rfl
  e52 := fd_of KX G cd "table_times" 52 44 44 rfl rfl
  e53 := fd_of KX G cd "levelled" 53 45 45 rfl rfl
  e54 := fd_of KX G cd "wanted_rows" 54 46 46 rfl rfl
  e55 := fd_of KX G cd "follows" 55 47 47 rfl rfl
  e57 := fd_of KX G cd "_law_box" 57 48 48 rfl rfl
  e58 := fd_of KX G cd "_law_take" 58 49 49 rfl rfl
  e59 := fd_of KX G cd "_law_cells" 59 50 50 rfl rfl
  e60 := fd_of KX G cd "_law_of" 60 51 51 rfl rfl
  e61 := fd_of KX G cd "_law_pick" 61 52 52 rfl rfl
  e62 := fd_of KX G cd "_law_lists" 62 53 53 rfl rfl
  e63 := fd_of KX G cd "_law_same" 63 54 54 rfl rfl
  e64 := fd_of KX G cd "_law_dot" 64 55 55 rfl rfl
  e65 := fd_of KX G cd "_law_plus" 65 56 56 rfl rfl
  e66 := fd_of KX G cd "_law_many" 66 57 57 rfl rfl
  e67 := fd_of KX G cd "_law_idle" 67 58 58 rfl rfl
  e68 := fd_of KX G cd "_law_unit" 68 59 59 rfl rfl
  e69 := fd_of KX G cd "_law_mixed" 69 60 60 rfl rfl
  e70 := fd_of KX G cd "_law_round" 70 61 61 rfl rfl
  e71 := fd_of KX G cd "_law_number" 71 62 62 rfl rfl
  e72 := fd_of KX G cd "_law_hours" 72 63 63 rfl rfl
  e73 := fd_of KX G cd "_law_branches" 73 64 64 rfl rfl
  e74 := fd_of KX G cd "_law_way" 74 65 65 rfl rfl
  e75 := fd_of KX G cd "_law_ring_rows" 75 66 66 rfl rfl
  e76 := fd_of KX G cd "_law_web" 76 67 67 rfl rfl
  e77 := fd_of KX G cd "_law_some_ring" 77 68 68 rfl rfl
  e78 := fd_of KX G cd "_law_heard" 78 69 69 rfl rfl
  e79 := fd_of KX G cd "_law_has_filling" 79 70 70 rfl rfl
  e80 := fd_of KX G cd "_law_roots" 80 71 71 rfl rfl
  e81 := fd_of KX G cd "_law_wish_of_heights" 81 72 72 rfl rfl
  e82 := fd_of KX G cd "_law_case_right" 82 73 73 rfl rfl
  e83 := fd_of KX G cd "_law_by_hand_right" 83 74 74 rfl rfl
  e84 := fd_of KX G cd "_law_right" 84 75 75 rfl rfl
theorem blt_of {K : PySem.W.Frag} {h : Heap} {mg : Str → Option Value} (KX : K.In h) (G : h.Ns mainGlobals mg) (cd : He.SaysD Hd.fa Hd.fn K) : Blt mg where
  «abs» := He.free_ok KX G (cd.fact 78 (f := .free "abs") rfl)
  «all» := He.free_ok KX G (cd.fact 79 (f := .free "all") rfl)
  «any» := He.free_ok KX G (cd.fact 80 (f := .free "any") rfl)
  «bool» := He.free_ok KX G (cd.fact 81 (f := .free "bool") rfl)
  «divmod» := He.free_ok KX G (cd.fact 82 (f := .free "divmod") rfl)
  «enumerate» := He.free_ok KX G (cd.fact 83 (f := .free "enumerate") rfl)
  «int» := He.free_ok KX G (cd.fact 84 (f := .free "int") rfl)
  «isinstance» := He.free_ok KX G (cd.fact 85 (f := .free "isinstance") rfl)
  «len» := He.free_ok KX G (cd.fact 86 (f := .free "len") rfl)
  «list» := He.free_ok KX G (cd.fact 87 (f := .free "list") rfl)
  «min» := He.free_ok KX G (cd.fact 88 (f := .free "min") rfl)
  «range» := He.free_ok KX G (cd.fact 89 (f := .free "range") rfl)
  «sorted» := He.free_ok KX G (cd.fact 90 (f := .free "sorted") rfl)
  «str» := He.free_ok KX G (cd.fact 91 (f := .free "str") rfl)
  «sum» := He.free_ok KX G (cd.fact 92 (f := .free "sum") rfl)
  «tuple» := He.free_ok KX G (cd.fact 93 (f := .free "tuple") rfl)
  «zip» := He.free_ok KX G (cd.fact 94 (f := .free "zip") rfl)
  «ValueError» := He.free_ok KX G (cd.fact 77 (f := .free "ValueError") rfl)
theorem exN_of {K : PySem.W.Frag} {h : Heap} {mg : Str → Option Value} (KX : K.In h) (G : h.Ns mainGlobals mg) (cd : He.SaysD Hd.fa Hd.fn K) (m : Hd.ex K = true) : ExN K mg "NoPaper" (He.ga K "NoPaper") := by
  obtain ⟨a1, a2, a3, a4⟩ := He.exc_ok (cd.fact 98 (f := .exc "NoPaper") rfl)
  unfold Hd.ex Hd.exC at m
  simp only [Bool.and_eq_true, decide_eq_true_eq] at m
  obtain ⟨m0, m1, m2, m3, m4, m5, m6, m7, m8⟩ := m
  exact ⟨He.glo_ok KX G (cd.fact 96 (f := .glo "NoPaper") rfl), a2, a1, a3, a4, He.exm_ok (cd.fact 99 (f := .exm "NoPaper" "NoPaper" true) rfl), ⟨m1, m2, m3, m4, m5, m6, m7, m8⟩, m0⟩
theorem start_ok {K : PySem.W.Frag} {H : Hp} {a P0 : Addr} {ns : List Int} (hl : ns.length ≤ 63) (hP : H P0 = some (.tbl #[])) (hS : SqL K H a (ns.map V.int)) : spS [(P0, fun _ _ => farQ)] K (SP 1 pLaw) [.ref a] H (fun v _ => v = .bl true) fun _ _ _ => False := by
  have tb : TabsN [(P0, fun _ _ => farQ)] H := fun p hp => by
    rw [List.mem_singleton.mp hp]
    exact ⟨#[], hP, by first | exact trivial | (simp [TriplesOk]) | exact .nil, fun pos cv h => by simp [codeAmong] at h⟩
  have al : ∀ B : Hp, DpAll K B (ns.map V.int) (ns.map PyData.int) := fun B => by
    clear hS hl
    induction ns with
    | nil => exact .nil
    | cons x ns ih => exact .cons (.int x) ih
  obtain ⟨B, bh, nt, sq⟩ : ∃ B : Hp, Sub B H ∧ (∀ b o, B b = some o → NoTbl o) ∧ SqL K B a (ns.map V.int) := by
    rcases hS with hS | hS
    · refine ⟨fun b => if b = a then H b else none, fun b o e => ?_, fun b o e => ?_, .inl ?_⟩
      · dsimp only at e
        split at e
        · exact e
        · cases e
      · dsimp only at e
        split at e
        · rename_i q
          subst q
          rcases hS with hS | ⟨u, hS⟩
          · rw [hS] at e; cases e; exact fun _ z => nomatch z
          · rw [hS] at e; cases e; exact fun _ z => nomatch z
        · cases e
      · rcases hS with hS | ⟨u, hS⟩
        · exact .inl ((if_pos rfl).trans hS)
        · exact .inr ⟨u, (if_pos rfl).trans hS⟩
    · exact ⟨fun _ => none, (fun b o e => by cases e), (fun b o e => by cases e), .inr hS⟩
  refine ⟨B, [.dat (iL ns)], ⟨bh, nt, tb, rfl, fun i e he => ?_, fun i j l l' d d' hij h1 h2 => ?_⟩, ⟨[iL ns], _, rfl, rfl, ⟨ns, rfl, hl, rfl⟩, fun v B' H' _ _ rv => ?_⟩⟩
  · cases i with
    | zero => cases he; exact ⟨_, rfl, .lst sq (al B)⟩
    | succ i => cases he
  · cases i with
    | zero => cases h1
    | succ i => cases h1
  · cases rv; rfl
theorem end_facts (HK : AllK) (HD : AllD) {w : World} {mg : Str → Option Value} {h : Heap} {f0 : Addr} (Y : Hd.hk.says w h) (G : h.Ns mainGlobals mg) (hfa : mg "law" = some (.ref f0)) : ∃ K : PySem.W.Frag, K.In h ∧ LamX.LawAtS PySem.Challenge.rw_sharesuntold_k72_across_heights_rings_an w K CX0 10 63 "_law_script" mg f0 h := by
  obtain ⟨K, KX, c⟩ := Y
  have cd := c.t.d
  obtain ⟨f85, fd85, F85⟩ := fd_of KX G cd "law" 85 76 76 rfl rfl
  obtain rfl : f85 = f0 := by have := F85.mg; rw [hfa] at this; cases this; rfl
  obtain ⟨f16, fd16, F16⟩ := fd_of KX G cd "led_by" 16 11 11 rfl rfl
  have hcode : fd16.code = .ref (He.cT K ("led_by", none)).1 := by
    obtain ⟨oc, od, dV, kV, doc, pm, an, cdv, ct, osl, efd, lk, hcd, _, _⟩ := F16.fn.ex
    obtain ⟨cc, ec⟩ := He.codeIn_ref hcd
    have e1 : fd16.code = .ref cc := by rw [efd, ← ec]
    have ef : f16 = He.fAd K ("led_by", none) := by
      have := F16.mg
      rw [He.glo_ok KX G (cd.fact 11 (f := .glo "led_by") rfl)] at this
      cases this
      rfl
    rw [ef] at lk
    rw [e1]
    exact congrArg Value.ref (He.codeOf_eq lk e1).symm
  refine ⟨K, KX, fd85, [He.cT K ("led_by", none)], spS [((He.cT K ("led_by", none)).2, fun _ _ => farQ)] K (SP 1 pLaw), fun p hp => ?_, fun p hp => ?_, fun p hp => ?_, fun s u => ?_, fun H a ns hl _ hT hS => ?_, fun base KB GB TB => ?_⟩
  · rw [List.mem_singleton.mp hp]; exact c.empty _ List.mem_cons_self
  · rw [List.mem_singleton.mp hp]; exact c.out _ List.mem_cons_self
  · rw [List.mem_singleton.mp hp]; exact PySem.W.codeHd_of_K KX (c.hd _ List.mem_cons_self)
  · exact FunD.bindsA (ps := ["_law_script"]) F85.fn (fun _ _ _ _ _ _ us hl => match us, hl with | [_], _ => rfl) s [u] rfl
  · exact start_ok hl (hT _ List.mem_cons_self) hS
  · have led : Led PySem.Challenge.rw_sharesuntold_k72_across_heights_rings_an.prog w K mg base [((He.cT K ("led_by", none)).2, fun _ _ => farQ)] := ⟨f16, fd16, led_ok F16 hcode (TB _ List.mem_cons_self) rfl rfl, F16.mg, F16.fn.kp, bn_led_by F16⟩
    exact chain (blt_of KX G cd) (exN_of KX G cd c.more) led (allW_of HK) (allC_of HK) (allR_of HK HD) (byHand_of HK HD) (allF_of KX G cd) F85
end Wk
open PySem PySem.W PySem.Calls PyProof.Rows in
theorem Wk.holds_of (HK : Wk.AllK) (HD : Wk.AllD) : PySem.Challenge.rw_sharesuntold_k72_across_heights_rings_an.Holds := by
  w_on; o_law
  refine HandSHeadRun.head_any (r := OpenLaw.row PySem.Challenge.rw_sharesuntold_k72_across_heights_rings_an) (q := view (OpenLaw.row PySem.Challenge.rw_sharesuntold_k72_across_heights_rings_an).prog [85]) (H := Hd.hk) (ob := Hd.ob) (M := 4000) (loose := Hd.loose) (d := HandSHeadRun.topDef (OpenLaw.row PySem.Challenge.rw_sharesuntold_k72_across_heights_rings_an).prog 85) (kwd := []) Hd.ob_eq
    (by kernel_rfl) (fun s => by kernel_rfl) Hd.run (by kernel_rfl) (by kernel_rfl) (by kernel_rfl) (by rfl) (by first | assumption | decide +kernel) (by decide +kernel) ⟨rfl, rfl, rfl, rfl, rfl, by decide +kernel⟩ ?hw ?hc
  case hw => w_witness2
  case hc =>
    refine LamX.walk_ofTsE (l := PySem.Challenge.rw_sharesuntold_k72_across_heights_rings_an) (n := 63) (k := 10) (x := "_law_script") (CX := fun _ => L2.CX0) rfl (by decide) (by kernel_rfl) ⟨rfl, by decide, by decide⟩ ?F (fun _ _ _ _ _ z => z)
    intro w mg fa h Y G hmg0
    have hmg : mg ("law" : PySem.Str) = some (.ref fa) := by
      have e : (HandSHeadRun.topDef (OpenLaw.row PySem.Challenge.rw_sharesuntold_k72_across_heights_rings_an).prog 85).name = ("law" : PySem.Str) := by kernel_rfl
      rw [← e]
      exact hmg0
    exact Wk.end_facts HK HD Y G hmg

theorem PySem.Challenge.cw_sharesuntold_k72_across_heights_rings_an_holds : PySem.Challenge.rw_sharesuntold_k72_across_heights_rings_an.Holds := by
  exact Wk.holds_of Wk.allK Wk.allD
