import PyProof.Rows.All
import Wide.All
import OpenK.AllK
import Wide.FinOn
import HandS.ForMost
import HandS.TupSets
import HandS.TupAny
import HandS.TupMul
import HandS.SetFor
import HandS.Strs
import HandS.Conv
import HandS.IsInst
import HandS.Deep
import HandS.Walk
import HandS.Style
import KE.GoesMore
import PySem.Challenge.RW_seamboard_k19_whole_flips_behind_flips
set_option Elab.async false
set_option linter.all false
set_option maxRecDepth 100000
set_option maxHeartbeats 8000000
/-! Sb.Lay: a set's table laid anew, for the masks 7, 15, 31, 63, 127. -/
namespace Sb
open PySem PySem.Spec PyProof.Rows L2

theorem nodup_on {α β : Type} {f : α → β} {l : List α} (h : ∀ x ∈ l, ∀ y ∈ l, f x = f y → x = y) (n : l.Nodup) : (l.map f).Nodup := by
  unfold List.Nodup at n ⊢
  rw [List.pairwise_map]
  exact List.Pairwise.imp_of_mem (fun hx hy hne e => hne (h _ hx _ hy e)) n
/-- from nought the round of 5 i + 1 comes by every slot and back -/
def whole (m : Nat) : Bool := (List.range (m + 1)).all (fun j => (List.range (m + 1)).any fun b => lcgN m b == j) && lcgN m (m + 1) == 0
theorem whole_meets {m : Nat} (h : whole m = true) {i j : Nat} (hi : i ≤ m) (hj : j ≤ m) : ∃ k, k ≤ m ∧ lcgI m i k = j := by
  obtain ⟨h1, h2⟩ := Bool.and_eq_true_iff.mp h
  have h2 : lcgN m (m + 1) = 0 := eq_of_beq h2
  have hit : ∀ {x : Nat}, x ≤ m → ∃ b, b ≤ m ∧ lcgN m b = x := fun {x} hx => by
    have q := List.all_eq_true.mp h1 x (List.mem_range.mpr (by omega))
    obtain ⟨b, hb, e⟩ := List.any_eq_true.mp q
    have := List.mem_range.mp hb
    exact ⟨b, by omega, eq_of_beq e⟩
  have per : ∀ k, lcgN m (m + 1 + k) = lcgN m k := fun k => by
    induction k with
    | zero => exact h2
    | succ k ih => exact congrArg (fun z => (z * 5 + 1) % (m + 1)) ih
  obtain ⟨a, ha, rfl⟩ := hit hi
  obtain ⟨b, hb, rfl⟩ := hit hj
  by_cases hab : a ≤ b
  · exact ⟨b - a, by omega, by rw [lcgN_add, Nat.add_sub_cancel' hab]⟩
  · refine ⟨m + 1 + b - a, by omega, ?_⟩
    rw [lcgN_add, Nat.add_sub_cancel' (by omega : a ≤ m + 1 + b), per]
def MOk (m : Nat) : Prop := m = 7 ∨ m = 15 ∨ m = 31 ∨ m = 63 ∨ m = 127
theorem MOk.whole {m : Nat} (h : MOk m) : whole m = true := by
  rcases h with rfl | rfl | rfl | rfl | rfl <;> decide +kernel
/-- where a run of the search begins that finds a free slot, the search ends well -/
theorem free_by {m : Nat} (owner : Array (Option Nat)) : ∀ (f n i b : Nat), n < f → i ≤ m → oAt owner (itL m i b n).1 = none →
    ∃ r, SetTable.layClean.free m owner f i b = some r ∧ r ≤ m ∧ oAt owner r = none
  | 0, _, _, _, h, _, _ => absurd h (Nat.not_lt_zero _)
  | f + 1, n, i, b, hn, hi, he => by
    rw [free_succ]
    obtain ⟨b1, b2, _⟩ := runEnd_bd hi
    cases q : (List.range (SetTable.runEnd m i + 1 - i)).find? fun k => (oAt owner (i + k)).isNone with
    | some k =>
      have hk := List.mem_range.mp (List.mem_of_find?_eq_some q)
      have hf := List.find?_some q
      exact ⟨i + k, rfl, by omega, Option.isNone_iff_eq_none.mp hf⟩
    | none =>
      cases n with
      | zero =>
        have := List.find?_eq_none.mp q 0 (List.mem_range.mpr (by omega))
        have he : oAt owner i = none := he
        rw [Nat.add_zero, he] at this
        exact absurd rfl this
      | succ n => exact free_by owner f n _ _ (by omega) (leap_le m i b) he
theorem free_gets {m : Nat} (hm : MOk m) (owner : Array (Option Nat)) (h : Int) {j : Nat} (hj : j ≤ m) (hf : oAt owner j = none) :
    ∃ r, SetTable.layClean.free m owner (SetTable.turns m) (SetTable.bits h % (m + 1)) (SetTable.bits h) = some r ∧ r ≤ m ∧ oAt owner r = none := by
  obtain ⟨k, hk, e⟩ := whole_meets hm.whole (runI_le m (SetTable.bits h) 12) hj
  refine free_by owner _ (12 + k) _ _ (by unfold SetTable.turns; omega) (Nat.le_of_lt_succ (Nat.mod_lt _ (Nat.succ_pos _))) ?_
  rw [itL_run, runI_tail (bits_lt h), e]
  exact hf
/-- k sit in the slots, each in one -/
structure Sit (m k : Nat) (owner : Array (Option Nat)) : Prop where
  sz : owner.size = m + 1
  lt : ∀ j i, j ≤ m → oAt owner j = some i → i < k
  all : ∀ i, i < k → ∃ j, j ≤ m ∧ oAt owner j = some i
  inj : ∀ j j' i, j ≤ m → j' ≤ m → oAt owner j = some i → oAt owner j' = some i → j = j'
theorem Sit.room {m k : Nat} {owner : Array (Option Nat)} (W : Sit m k owner) (hk : k ≤ m) : ∃ j, j ≤ m ∧ oAt owner j = none := by
  refine Classical.byContradiction fun hno => ?_
  have full : ∀ j, j ≤ m → ∃ i, oAt owner j = some i := fun j hj => by
    cases q : oAt owner j with
    | none => exact absurd ⟨j, hj, q⟩ hno
    | some i => exact ⟨i, rfl⟩
  have nd : ((List.range (m + 1)).map fun j => (oAt owner j).getD 0).Nodup := by
    refine nodup_on (fun x hx y hy e => ?_) List.nodup_range
    obtain ⟨i, hi⟩ := full x (Nat.le_of_lt_succ (List.mem_range.mp hx))
    obtain ⟨i', hi'⟩ := full y (Nat.le_of_lt_succ (List.mem_range.mp hy))
    rw [hi, hi'] at e
    have e : i = i' := e
    subst e
    exact W.inj x y i (Nat.le_of_lt_succ (List.mem_range.mp hx)) (Nat.le_of_lt_succ (List.mem_range.mp hy)) hi hi'
  have := nat_nodup_len _ (List.range k) nd fun x hx => by
    obtain ⟨j, hj, rfl⟩ := List.mem_map.mp hx
    have hj := Nat.le_of_lt_succ (List.mem_range.mp hj)
    obtain ⟨i, hi⟩ := full j hj
    rw [hi]
    exact List.mem_range.mpr (W.lt j i hj hi)
  rw [List.length_map, List.length_range, List.length_range] at this
  omega
theorem Sit.put {m k r : Nat} {owner : Array (Option Nat)} (W : Sit m k owner) (hr : r ≤ m) (hf : oAt owner r = none) : Sit m (k + 1) (owner.setIfInBounds r (some k)) := by
  have hsz := W.sz
  have at_r : oAt (owner.setIfInBounds r (some k)) r = some k := oAt_set_self _ (by omega)
  refine ⟨by rw [Array.size_setIfInBounds]; exact hsz, fun j i hj e => ?_, fun i hi => ?_, fun j j' i hj hj' e e' => ?_⟩
  · by_cases q : j = r
    · subst q; rw [at_r] at e; cases e; omega
    · rw [oAt_set_ne _ q] at e
      have := W.lt j i hj e
      omega
  · by_cases q : i = k
    · subst q; exact ⟨r, hr, at_r⟩
    · obtain ⟨j, hj, e⟩ := W.all i (by omega)
      refine ⟨j, hj, ?_⟩
      rw [oAt_set_ne _ (fun z => by rw [z, hf] at e; cases e)]
      exact e
  · by_cases q : j = r
    · by_cases q' : j' = r
      · exact q.trans q'.symm
      · subst q
        rw [at_r] at e; cases e
        rw [oAt_set_ne _ q'] at e'
        exact absurd (W.lt j' _ hj' e') (Nat.lt_irrefl _)
    · rw [oAt_set_ne _ q] at e
      by_cases q' : j' = r
      · subst q'
        rw [at_r] at e'; cases e'
        exact absurd (W.lt j _ hj e) (Nat.lt_irrefl _)
      · rw [oAt_set_ne _ q'] at e'
        exact W.inj j j' i hj hj' e e'
theorem sit_fold {m : Nat} (hm : MOk m) : ∀ (hs : List Int) (k : Nat) (owner : Array (Option Nat)), Sit m k owner → k + hs.length ≤ m →
    ∃ owner', hs.foldl (stepF m) (some (owner, k)) = some (owner', k + hs.length) ∧ Sit m (k + hs.length) owner'
  | [], k, owner, W, _ => ⟨owner, rfl, W⟩
  | h :: hs, k, owner, W, hl => by
    rw [List.length_cons] at hl
    obtain ⟨j, hj, hf⟩ := W.room (by omega)
    obtain ⟨r, e, hr, hf'⟩ := free_gets hm owner h hj hf
    obtain ⟨owner', e2, W2⟩ := sit_fold hm hs (k + 1) _ (W.put hr hf') (by omega)
    have el : k + (h :: hs).length = k + 1 + hs.length := by rw [List.length_cons]; omega
    rw [el]
    exact ⟨owner', by rw [List.foldl_cons, stepF_some e, e2], W2⟩
/-- a table laid anew holds what it held, in another order -/
theorem laid_by {m fg mv : Nat} {ld pl : Bool} (hm : MOk m) {hs : Array Int} (hn : hs.size ≤ m) :
    ∃ t order, SetTable.laid m fg mv ld pl hs = some (t, order) ∧ order.toList.Perm (List.range hs.size) ∧ Ris t.place.toList ∧ t.place.size = hs.size ∧ t.dummies = #[] ∧ t.mask = m ∧ t.led = ld ∧ t.plain = pl := by
  have W0 : Sit m 0 (Array.replicate (m + 1) none) := ⟨by simp, fun j i hj e => (by rw [oAt_init hj] at e; cases e), fun i hi => absurd hi (Nat.not_lt_zero _), fun j j' i hj _ e _ => (by rw [oAt_init hj] at e; cases e)⟩
  obtain ⟨owner, e, W⟩ := sit_fold hm hs.toList 0 _ W0 (by rw [Array.length_toList]; omega)
  rw [Nat.zero_add, Array.length_toList] at W
  have ec : SetTable.layClean m hs = some owner := by rw [layClean_eq, e]; rfl
  have el : SetTable.laid m fg mv ld pl hs = some ({ mask := m, place := ((liveOf m owner).map (·.1)).toArray, dummies := #[], finger := fg, led := ld, moves := mv, plain := pl }, ((liveOf m owner).map (·.2)).toArray) := by
    unfold SetTable.laid
    rw [ec]; rfl
  have rr : Ris (List.range (m + 1)) := List.pairwise_lt_range
  have ris := (ris_live (fun j => owner.getD j none) (List.range (m + 1)) rr).1
  have nd1 : ((liveOf m owner).map (·.1)).Nodup := List.Pairwise.imp (fun h => Nat.ne_of_lt h) ris
  have nd2 : ((liveOf m owner).map (·.2)).Nodup := by
    refine nodup_on (fun x hx y hy e => ?_) (nodup_of_map nd1)
    obtain ⟨j, i⟩ := x
    obtain ⟨j', i'⟩ := y
    have e : i = i' := e
    subst e
    obtain ⟨a1, a2⟩ := (mem_live W.sz).1 hx
    obtain ⟨b1, b2⟩ := (mem_live W.sz).1 hy
    rw [W.inj j j' i a1 b1 a2 b2]
  have l1 := nat_nodup_len _ (List.range hs.size) nd2 fun i hi => by
    obtain ⟨⟨j, i⟩, hx, rfl⟩ := List.mem_map.mp hi
    obtain ⟨a1, a2⟩ := (mem_live W.sz).1 hx
    exact List.mem_range.mpr (W.lt j i a1 a2)
  have cov : ∀ i, i < hs.size → i ∈ (liveOf m owner).map (·.2) := fun i hi => by
    obtain ⟨j, a1, a2⟩ := W.all i hi
    exact List.mem_map.mpr ⟨(j, i), (mem_live W.sz).2 ⟨a1, a2⟩, rfl⟩
  have l2 := nat_nodup_len (List.range hs.size) _ List.nodup_range fun i hi => cov i (List.mem_range.mp hi)
  rw [List.length_range] at l1 l2
  have ll : ((liveOf m owner).map (·.2)).length = hs.size := Nat.le_antisymm l1 l2
  refine ⟨_, _, el, perm_range _ _ ll cov, ris, ?_, rfl, rfl, rfl, rfl⟩
  rw [List.size_toArray, List.length_map]
  rw [List.length_map] at ll
  exact ll
/-- the items in that order -/
theorem order_perm {α : Type} {es : Array α} {order : Array Nat} (h : order.toList.Perm (List.range es.size)) : (order.filterMap (es[·]?)).toList.Perm es.toList := by
  rw [Array.toList_filterMap]
  refine (h.filterMap _).trans ?_
  have : (List.range es.size).filterMap (es[·]?) = es.toList := by
    have e : ∀ (l : List α), (List.range l.length).filterMap (fun i => l[i]?) = l := by
      intro l
      induction l with
      | nil => rfl
      | cons x l ih =>
        rw [List.length_cons, List.range_succ_eq_map, List.filterMap_cons]
        have : (x :: l)[0]? = some x := rfl
        rw [this, List.filterMap_map]
        exact congrArg (x :: ·) ih
    have e := e es.toList
    rw [Array.length_toList] at e
    rw [← e]
    congr 1
    funext i
    rw [Array.getElem?_toList]
  rw [this]
end Sb

/-! Sb.Xor: the symmetric difference of two sets of ints. -/
namespace Sb
open PySem PySem.Spec PyProof.Rows L2

theorem eraseAt_list {α : Type} (xs : Array α) (p : Nat) : (SetTable.eraseAt xs p).toList = xs.toList.eraseIdx p := by
  unfold SetTable.eraseAt
  rw [List.eraseIdx_eq_take_drop_succ]
  simp only [Array.toList_append, Array.toList_extract, List.extract_eq_take_drop, Nat.sub_zero, List.drop_zero]
  congr 1
  exact List.take_of_length_le (by simp)
section
variable {P : Program} {w : World} {A : Around} {E : Value → Shared → Prop} {s : Shared} {a : Addr} {S : Int → Bool} {n : Nat}
theorem drop_fits {t : SetTable} {m i : Nat} (hf : t.fits m = true) (hi : i < m) : (t.drop i).fits (m - 1) = true ∧ (t.drop i).led = t.led ∧ (t.drop i).plain = t.plain ∧ (Ris t.place.toList → Ris (t.drop i).place.toList) := by
  unfold SetTable.fits at hf ⊢
  unfold SetTable.fill at hf ⊢
  simp only [Bool.and_eq_true, beq_iff_eq, decide_eq_true_eq] at hf ⊢
  obtain ⟨h1, h2⟩ := hf
  have hp : i < t.place.size := by omega
  have e : t.place[i]? = some t.place[i] := Array.getElem?_eq_getElem hp
  have ed : t.drop i = { t with place := SetTable.eraseAt t.place i, dummies := SetTable.insertAt t.dummies (SetTable.below t.dummies t.place[i]) t.place[i] } := by
    unfold SetTable.drop
    rw [e]
  have s1 : (SetTable.eraseAt t.place i).size = t.place.size - 1 := by
    rw [← Array.length_toList, eraseAt_list, List.length_eraseIdx, Array.length_toList, if_pos hp]
  have s2 : (SetTable.insertAt t.dummies (SetTable.below t.dummies t.place[i]) t.place[i]).size ≤ t.dummies.size + 1 := by
    unfold SetTable.insertAt
    simp only [Array.size_append, Array.size_push, Array.size_extract]
    omega
  rw [ed]
  dsimp only
  refine ⟨⟨by rw [s1]; omega, by rw [s1]; omega⟩, rfl, rfl, fun r => ?_⟩
  rw [eraseAt_list]
  exact List.Pairwise.sublist (List.eraseIdx_sublist ..) r
/-- one member less -/
theorem setR_drop {o : Obj} {es : Array (Int × Value)} {ep i : Nat} {t : SetTable} {e : Int × Value} {k : Int} (ho : s.heap.get? a = some o) (hex : o.ExactSet) (hd : o.data = .set es ep t) (g : ∀ e ∈ es.toList, GoodE e) (nd : (es.toList.map keyOf).Nodup)
    (hm : ∀ k, S k = true ↔ k ∈ es.toList.map keyOf) (hb : es.size < scanBound) (hf : t.fits es.size = true) (hn : es.size = n) (hr : Ris t.place.toList) (hl : w.params.followText "set-order" = true ∨ t.led = true)
    (hi : es.toList[i]? = some e) (hk : keyOf e = k) : SetR w (s.heap.update a (Obj.putSet (SetTable.eraseAt es i) (t.drop i))) a (fun j => if j = k then false else S j) (n - 1) := by
  have hlt : i < es.toList.length := (List.getElem?_eq_some_iff.mp hi).1
  rw [Array.length_toList] at hlt
  obtain ⟨f1, f2, f3, f4⟩ := drop_fits hf hlt
  have pm := erase_perm es.toList i e hi
  have pk : (k :: (es.toList.eraseIdx i).map keyOf).Perm (es.toList.map keyOf) := by
    have := pm.map keyOf
    rw [List.map_cons, hk] at this
    exact this
  have ndk := pk.nodup_iff.mpr nd
  obtain ⟨nk, nd'⟩ := List.nodup_cons.mp ndk
  have sz : (SetTable.eraseAt es i).size = es.size - 1 := by
    rw [← Array.length_toList, eraseAt_list, List.length_eraseIdx, Array.length_toList, if_pos hlt]
  refine ⟨_, SetTable.eraseAt es i, _, t.drop i, store_at ho hd, ⟨hex.1, hex.2.1, hex.2.2⟩, rfl, fun x hx => ?_, ?_, fun j => ?_, ?_, ?_, by rw [sz, hn], f4 hr, hl.imp id fun z => f2.trans z⟩
  · rw [eraseAt_list] at hx
    exact g x (List.mem_of_mem_eraseIdx hx)
  · rw [eraseAt_list]; exact nd'
  · rw [eraseAt_list]
    dsimp only
    by_cases q : j = k
    · subst q
      rw [if_pos rfl]
      exact ⟨fun z => (by cases z), fun z => absurd z nk⟩
    · rw [if_neg q, hm j, ← pk.mem_iff]
      exact ⟨fun z => (List.mem_cons.mp z).resolve_left q, List.mem_cons_of_mem _⟩
  · rw [sz]; omega
  · rw [sz]; exact f1
theorem setR_discard {k : Int} {tk : Tok} {Q : Bool → Shared → Prop} (R : SetR w s.heap a S n)
    (hQ : ∀ h', Heap.SameBut a s.heap h' → SetR w h' a (fun j => if j = k then false else S j) (if S k = true then n - 1 else n) → Q (S k) { s with heap := h' }) :
    wpAny (model P w) A (setDiscardHashed a (.int k tk) ((intKind P w).hash k)) Q E s := by
  obtain ⟨o, es, ep, t, ho, hex, hd, g, nd, hm, hb, hf, hn, hr, hl⟩ := R
  have hkey : (intKind P w).is k (.int k tk) = true := intKind_is P w k tk
  have hel : ElemsOf (intKind P w) es.toList := good_elems g
  unfold setDiscardHashed setFind setFindIn
  refine wpAny_bind (wpAny_bind (wpAny_setState_of ho hd hf ?_))
  dsimp only
  rw [byScan_of (by rfl) hb hel]
  simp only [↓reduceIte]
  refine wpAny_bind (wpAny_rule ?_)
  refine wpAny_bind (wpAny_setScan_of hkey ho hd hf hel ?_)
  cases hfi : List.findIdx? (fun e => (intKind P w).is k e.2) es.toList with
  | none =>
    dsimp only
    have hSk : S k = false := by
      cases q : S k with
      | false => rfl
      | true =>
        obtain ⟨e, he, q2⟩ := (good_mem (P := P) (w := w) g k).1 ((hm k).1 q)
        have c := List.findIdx?_eq_none_iff.mp hfi e he
        rw [q2] at c; cases c
    refine wpAny_pure (wpAny_pure ?_)
    have q := hQ s.heap (Heap.SameBut.refl a s.heap) ⟨o, es, ep, t, ho, hex, hd, g, nd, fun j => by
      dsimp only
      by_cases z : j = k
      · subst z; rw [if_pos rfl, ← hm j, hSk]
      · rw [if_neg z]; exact hm j, hb, hf, by rw [hSk, if_neg Bool.false_ne_true]; exact hn, hr, hl⟩
    rw [hSk] at q
    exact q
  | some i =>
    dsimp only
    obtain ⟨hi, pi, _⟩ := List.findIdx?_eq_some_iff_getElem.mp hfi
    have hSk : S k = true := (hm k).2 ((good_mem (P := P) (w := w) g k).2 ⟨es.toList[i], List.getElem_mem hi, pi⟩)
    refine wpAny_pure ?_
    dsimp only
    refine wpAny_bind (wpAny_setState_of ho hd hf ?_)
    dsimp only
    rw [Nat.zero_add]
    have hsz : (SetTable.eraseAt es i).size ≤ es.size := by
      rw [← Array.length_toList, eraseAt_list, List.length_eraseIdx, Array.length_toList]
      split <;> omega
    refine wpAny_bind (wpAny_storeSet_of ho hd ?_ (Nat.le_trans hsz (fits_of_scanBound hb)))
    refine wpAny_bind (wpAny_point (wpAny_pure ?_))
    have q := hQ _ (Heap.SameBut.update s.heap a (Obj.putSet (SetTable.eraseAt es i) (t.drop i))) (by
      rw [if_pos hSk]
      exact setR_drop ho hex hd g nd hm hb hf hn hr hl (List.getElem?_eq_getElem hi) ((good_is (P := P) (w := w) (g _ (List.getElem_mem hi)) k).1 pi))
    rw [hSk] at q
    exact q
end
end Sb

/-! Sb.Xor2: a set walked unseen, a set merged into a new one. -/
namespace Sb
open PySem PySem.Spec PyProof.Rows L2

section
variable {P : Program} {w : World} {A : Around} {E : Value → Shared → Prop} {s : Shared} {a f : Addr} {S T : Int → Bool} {n m : Nat}
theorem walk_any {o : Obj} {es : Array (Int × Value)} {ep : Nat} {t : SetTable} {Q : Array (Int × Value) → Shared → Prop} (ho : s.heap.get? a = some o) (hd : o.data = .set es ep t) (hf : t.fits es.size = true)
    (hl : w.params.followText "set-order" = true ∨ t.led = true) (hQ : ∀ ys d, ys.toList.Perm es.toList → Q ys { s with drawn := d }) : wpAny (model P w) A (setWalk a) Q E s := by
  unfold setWalk
  refine wpAny_bind (wpAny_setState_of ho hd hf ?_)
  dsimp only
  refine wpAny_bind (wpAny_byText ?_)
  cases hb : w.params.followText "set-order" with
  | true =>
    refine wp_if_pos rfl ?_
    exact wpAny_bind (wpAny_askSetting (wpAny_pure (hQ _ s.drawn (pick_perm _ _))))
  | false =>
    have hled : t.led = true := hl.resolve_left (by rw [hb]; exact Bool.false_ne_true)
    refine wp_if_neg Bool.false_ne_true ?_
    try refine wpAny_bind (wpAny_pure ?_)
    by_cases hdr : (!t.plain && decide (es.size > 1)) = true
    · refine wp_if_pos hdr ?_
      exact wpAny_bind (drawOrder_at _ _ _ _ (Nat.le_of_eq (Array.length_toList)) fun ys d p => wpAny_pure (hQ _ d (by simpa using p)))
    · refine wp_if_neg hdr ?_
      try refine wpAny_bind (wpAny_pure ?_)
      refine wpAny_bind (wpAny_of_eq (a := ()) ?_ (wpAny_pure (hQ es s.drawn (List.Perm.refl _))))
      show (if (!t.led && decide (es.size > 1)) = true then unsupported "set:maker-not-led" else pure ()) = pure ()
      rw [hled]; rfl
theorem quiet_ints {Q : Bool → Shared → Prop} (Ra : SetR w s.heap a S n) (Rf : SetR w s.heap f T m) (h : Q true s) : wpAny (model P w) A (setsQuiet [a, f]) Q E s := by
  have one : ∀ (x : Addr), x = a ∨ x = f → ∃ o es ep t, s.heap.get? x = some o ∧ o.data = .set es ep t ∧ t.fits es.size = true ∧ ∀ e ∈ es.toList, GoodE e := fun x hx => by
    rcases hx with rfl | rfl
    · obtain ⟨o, es, ep, t, ho, _, hd, g, _, _, _, hf, _⟩ := Ra
      exact ⟨o, es, ep, t, ho, hd, hf, g⟩
    · obtain ⟨o, es, ep, t, ho, _, hd, g, _, _, _, hf, _⟩ := Rf
      exact ⟨o, es, ep, t, ho, hd, hf, g⟩
  unfold setsQuiet
  refine wpAny_bind (wpAny_forIn_list _ (fun rest b s' => b.1 = none ∧ s' = s ∧ ∀ x ∈ rest, x = a ∨ x = f) _ ?_ ?_ _ _ ⟨rfl, rfl, fun x hx => by simpa using hx⟩)
  · rintro x rest b s' ⟨hb, rfl, hr⟩
    obtain ⟨o, es, ep, t, ho, hd, hf, g⟩ := one x (hr x List.mem_cons_self)
    refine wpAny_bind (wpAny_setEntries_of ho hd hf ?_)
    refine wpAny_bind (PySem.MeetsSeq2.wpAny_forIn_array _ (fun rest b s2 => b.1 = none ∧ s2 = s' ∧ ∀ e ∈ rest, GoodE e) _ ?_ ?_ _ _ ⟨rfl, rfl, g⟩)
    · rintro ⟨hh, v⟩ rest2 b2 s2 ⟨hb2, rfl, hg⟩
      obtain ⟨k, tk, e1, _⟩ := hg _ List.mem_cons_self
      dsimp only at e1
      subst e1
      exact wpAny_pure ⟨rfl, rfl, fun e he => hg e (List.mem_cons_of_mem _ he)⟩
    · rintro ⟨b2, u2⟩ s2 ⟨hb2, rfl, _⟩
      have hb2 : b2 = none := hb2
      subst hb2
      exact wpAny_pure ⟨rfl, rfl, fun z hz => hr z (List.mem_cons_of_mem _ hz)⟩
  · rintro ⟨b, u⟩ s' ⟨hb, rfl, _⟩
    have hb : b = none := hb
    subst hb
    exact wpAny_pure h
theorem walk_unseen {o : Obj} {es : Array (Int × Value)} {ep : Nat} {t : SetTable} {Q : Array (Int × Value) → Shared → Prop} (Ra : SetR w s.heap a S n) (ho : s.heap.get? a = some o) (hd : o.data = .set es ep t) (hf : t.fits es.size = true)
    (hl : w.params.followText "set-order" = true ∨ t.led = true) (Rf : SetR w s.heap f T m)
    (hQ : ∀ ys h' d, ys.toList.Perm es.toList → Heap.SameBut f s.heap h' → SetR w h' f T m → Q ys { s with heap := h', drawn := d }) : wpAny (model P w) A (setWalkUnseen a [f] (some f)) Q E s := by
  unfold setWalkUnseen
  refine wpAny_bind (wpAny_setState_of ho hd hf ?_)
  dsimp only
  refine wpAny_bind (wpAny_byText ?_)
  by_cases hc : (w.params.followText "set-order" || (t.led && t.plain) || decide (es.size ≤ 1)) = true
  · refine wp_if_pos hc ?_
    exact walk_any ho hd hf hl fun ys d p => hQ ys s.heap d p (Heap.SameBut.refl _ _) Rf
  · refine wp_if_neg hc ?_
    try refine wpAny_bind (wpAny_pure ?_)
    have hbt : w.params.followText "set-order" = false := by
      cases q : w.params.followText "set-order" with
      | false => rfl
      | true => rw [q] at hc; exact absurd rfl hc
    have hled : t.led = true := hl.resolve_left (by rw [hbt]; exact Bool.false_ne_true)
    refine wpAny_bind (quiet_ints Ra Rf ?_)
    refine wp_if_neg (by decide) ?_
    try refine wpAny_bind (wpAny_pure ?_)
    refine wpAny_bind (wpAny_rule ?_)
    try dsimp only
    obtain ⟨of, ef, epf, tf, hof, hex, hdf, g, nd, hm, hb, hff, hn, hr, hlf⟩ := Rf
    refine wpAny_bind (wpAny_setState_of hof hdf hff ?_)
    dsimp only
    split
    · refine wpAny_bind (wpAny_storeSet_of hof hdf ?_ (fits_of_scanBound hb))
      refine wpAny_pure (hQ es _ s.drawn (List.Perm.refl _) (Heap.SameBut.update ..) ⟨_, ef, _, _, store_at hof hdf, ⟨hex.1, hex.2.1, hex.2.2⟩, rfl, g, nd, hm, hb, hff, hn, hr, hlf.imp id fun z => ?_⟩)
      show (tf.led && t.led) = true
      rw [z, hled]; rfl
    · try refine wpAny_bind (wpAny_pure ?_)
      exact wpAny_pure (hQ es s.heap s.drawn (List.Perm.refl _) (Heap.SameBut.refl _ _) ⟨of, ef, epf, tf, hof, hex, hdf, g, nd, hm, hb, hff, hn, hr, hlf⟩)
/-- a table without members, with room for m -/
structure Bare (w : World) (h : Heap) (a : Addr) (m : Nat) (o : Obj) (ep : Nat) (t : SetTable) : Prop where
  at_ : h.get? a = some o
  hex : o.ExactSet
  dt : o.data = .set #[] ep t
  pl : t.place = #[]
  dm : t.dummies = #[]
  mok : MOk t.mask
  rm : m ≤ t.mask
  ld : w.params.followText "set-order" = true ∨ t.led = true
theorem Bare.fits {h : Heap} {o : Obj} {ep : Nat} {t : SetTable} (b : Bare w h a m o ep t) : t.fits (#[] : Array (Int × Value)).size = true := by
  unfold SetTable.fits SetTable.fill
  rw [b.pl, b.dm]
  simp
def fitsAll : Bool := (List.range 61).all fun k => !decide (5 ≤ k) || (decide (SetTable.sizeAbove (k * 2) ≤ 128) && decide (k ≤ SetTable.sizeAbove (k * 2) - 1) && (SetTable.sizeAbove (k * 2) - 1 == 15 || SetTable.sizeAbove (k * 2) - 1 == 31 || SetTable.sizeAbove (k * 2) - 1 == 63 || SetTable.sizeAbove (k * 2) - 1 == 127))
theorem fits_all : fitsAll = true := by decide +kernel
theorem fits_at {k : Nat} (h5 : 5 ≤ k) (h60 : k ≤ 60) : SetTable.sizeAbove (k * 2) ≤ 128 ∧ k ≤ SetTable.sizeAbove (k * 2) - 1 ∧ MOk (SetTable.sizeAbove (k * 2) - 1) := by
  have := List.all_eq_true.mp fits_all k (List.mem_range.mpr (by omega))
  simp only [Bool.or_eq_true, Bool.not_eq_true', decide_eq_false_iff_not, Bool.and_eq_true, decide_eq_true_eq, beq_iff_eq] at this
  rcases this with h | ⟨⟨h1, h2⟩, h3⟩
  · exact absurd h5 h
  · refine ⟨h1, h2, ?_⟩
    unfold MOk
    omega
/-- a new set is given room -/
theorem room_new {o : Obj} {ep fg mv : Nat} {ld : Bool} {Q : Unit → Shared → Prop} (ho : s.heap.get? a = some o) (hex : o.ExactSet) (hd : o.data = .set #[] ep (.fresh fg mv ld)) (hl : w.params.followText "set-order" = true ∨ ld = true) (hm : m ≤ 60)
    (hQ : ∀ h' o' ep' t', Heap.SameBut a s.heap h' → Bare w h' a m o' ep' t' → Q () { s with heap := h' }) : wpAny (model P w) A (setRoomFor a m) Q E s := by
  have hf : (SetTable.fresh fg mv ld).fits (#[] : Array (Int × Value)).size = true := rfl
  unfold setRoomFor
  refine wpAny_bind (wpAny_setState_of ho hd hf ?_)
  dsimp only
  have er : (SetTable.fresh fg mv ld).roomFor m = if (0 + m) * 5 ≥ 7 * 3 then some ((0 + m) * 2) else none := rfl
  rw [er, Nat.zero_add]
  by_cases hc : m * 5 ≥ 7 * 3
  · rw [if_pos hc]
    dsimp only
    obtain ⟨f1, f2, f3⟩ := fits_at (k := m) (by omega) hm
    rw [setRelay_eq]
    refine wpAny_bind (wpAny_setState_of ho hd hf ?_)
    dsimp only
    refine wp_if_neg (by rw [sizeLine_eq]; omega) ?_
    try refine wpAny_bind (wpAny_pure ?_)
    obtain ⟨t', order, e, p, r, z1, z2, z3, z4, z5⟩ := laid_by (fg := fg) (mv := (SetTable.fresh fg mv ld).movedTo (SetTable.sizeAbove (m * 2) - 1)) (ld := ld) (pl := true) f3 (hs := ((#[] : Array (Int × Value)).map (·.1))) (by simp)
    rw [Array.size_map] at p z1
    have e' : (SetTable.fresh fg mv ld).relaid ((#[] : Array (Int × Value)).map (·.1)) (m * 2) = some (t', order) := e
    rw [e']
    dsimp only
    have hs2 : (order.filterMap ((#[] : Array (Int × Value))[·]?)).size = 0 := by
      have := order_perm (es := (#[] : Array (Int × Value))) (order := order) p
      have := this.length_eq
      rw [Array.length_toList] at this
      exact this
    have hs3 : order.filterMap ((#[] : Array (Int × Value))[·]?) = #[] := Array.eq_empty_of_size_eq_zero hs2
    refine wpAny_bind ?_
    rw [hs3]
    refine wp_if_neg (by simp) ?_
    try refine wpAny_bind (wpAny_pure ?_)
    refine wpAny_pure ?_
    dsimp only
    refine wpAny_storeSet_of ho hd ?_ (Nat.zero_le _)
    have hp : t'.place = #[] := Array.eq_empty_of_size_eq_zero z1
    exact hQ _ _ _ t' (Heap.SameBut.update ..) ⟨store_at ho hd, ⟨hex.1, hex.2.1, hex.2.2⟩, rfl, hp, z2, by rw [z3]; exact f3, by rw [z3]; exact f2, hl.imp id fun q => z4.trans q⟩
  · rw [if_neg hc]
    exact wpAny_pure (hQ s.heap o ep _ (Heap.SameBut.refl _ _) ⟨ho, hex, hd, rfl, rfl, .inl rfl, by show m ≤ 7; omega, hl⟩)
/-- all of another set's members into a new set -/
theorem merge_new {each : Sem Unit} {Q : Unit → Shared → Prop} {fg mv : Nat} {ld : Bool} {r : Addr} {o : Obj} {ep : Nat} (ho : s.heap.get? r = some o) (hex : o.ExactSet) (hd : o.data = .set #[] ep (.fresh fg mv ld)) (hl : w.params.followText "set-order" = true ∨ ld = true)
    (Ra : SetR w s.heap a S n) (hne : r ≠ a) (hn : n ≤ 60) (hQ : ∀ h', Heap.SameBut r s.heap h' → SetR w h' r S n → Q () { s with heap := h' }) : wpAny (model P w) A (setMerge r a each) Q E s := by
  obtain ⟨oa, ea, epa, ta, hoa, hexa, hda, g, nd, hm, hb, hf, hz, hr, hla⟩ := Ra
  unfold setMerge
  refine wp_if_neg (by simpa using hne) ?_
  try refine wpAny_bind (wpAny_pure ?_)
  refine wpAny_bind (wpAny_setState_of hoa hda hf ?_)
  dsimp only
  by_cases hemp : ea.isEmpty = true
  · refine wp_if_pos hemp ?_
    have e0 : ea = #[] := Array.isEmpty_iff.mp hemp
    subst e0
    refine wpAny_pure (hQ s.heap (Heap.SameBut.refl _ _) ⟨o, #[], ep, _, ho, hex, hd, fun e he => (by simp at he), (by simp), fun k => ?_, (by decide), rfl, hz, List.Pairwise.nil, hl⟩)
    rw [hm k]
  · refine wp_if_neg hemp ?_
    try refine wpAny_bind (wpAny_pure ?_)
    refine wpAny_bind (room_new (m := ea.size) ho hex hd hl (by omega) fun h1 o1 ep1 t1 sb B => ?_)
    refine wpAny_bind (wpAny_setState_of (s := { s with heap := h1 }) B.at_ B.dt B.fits ?_)
    dsimp only
    have hfill : t1.fill = 0 := by unfold SetTable.fill; rw [B.pl, B.dm]; rfl
    have er : t1.road ta = if t1.mask == ta.mask && ta.dummies.isEmpty then .slotForSlot else .clean := by
      unfold SetTable.road
      rw [hfill]; rfl
    rw [er]
    have hled : w.params.followText "set-order" = true ∨ (t1.led && ta.led) = true := by
      rcases B.ld with q | q
      · exact .inl q
      · rcases hla with q' | q'
        · exact .inl q'
        · exact .inr (by rw [q, q']; rfl)
    by_cases hc : (t1.mask == ta.mask && ta.dummies.isEmpty) = true
    · rw [if_pos hc]
      dsimp only
      refine wpAny_storeSet_of B.at_ B.dt ?_ (fits_of_scanBound hb)
      exact hQ _ (sb.trans (Heap.SameBut.update ..)) ⟨_, ea, _, _, store_at B.at_ B.dt, ⟨B.hex.1, B.hex.2.1, B.hex.2.2⟩, rfl, g, nd, hm, hb, hf, hz, hr, hled⟩
    · rw [if_neg hc]
      dsimp only
      obtain ⟨t', order, e, p, rr, z1, z2, z3, z4, z5⟩ := laid_by (fg := t1.finger) (mv := t1.moves) (ld := t1.led && ta.led) (pl := t1.plain && ta.plain) B.mok (hs := ea.map (·.1)) (by rw [Array.size_map]; exact B.rm)
      rw [Array.size_map] at p z1
      have pm := order_perm p
      have hs2 : (order.filterMap (ea[·]?)).size = ea.size := by
        have := pm.length_eq
        rw [Array.length_toList, Array.length_toList] at this
        exact this
      refine wpAny_bind (wpAny_of_eq (a := (order.filterMap (ea[·]?), t')) ?_ ?_)
      · rw [e]
        show (if ((order.filterMap (ea[·]?)).size != ea.size) = true then _ else _) = _
        rw [if_neg (by rw [hs2]; simp)]
      · dsimp only
        refine wpAny_storeSet_of B.at_ B.dt ?_ (by rw [hs2]; exact fits_of_scanBound hb)
        refine hQ _ (sb.trans (Heap.SameBut.update ..)) ⟨_, _, _, t', store_at B.at_ B.dt, ⟨B.hex.1, B.hex.2.1, B.hex.2.2⟩, rfl, fun x hx => g x (pm.mem_iff.mp hx), (pm.map keyOf).nodup_iff.mpr nd, fun k => (hm k).trans (pm.map keyOf).mem_iff.symm, by rw [hs2]; exact hb, ?_, hs2.trans hz, rr, hled.imp id fun q => z4.trans q⟩
        unfold SetTable.fits SetTable.fill
        rw [z1, z2, z3, hs2]
        simp only [beq_self_eq_true, Bool.true_and, decide_eq_true_eq]
        exact B.rm
end
end Sb

/-! Sb.Xor3: set ^ set. -/
namespace Sb
open PySem PySem.Spec PyProof.Rows L2

theorem slot_set_xor : Slot "set" (dunder "xor") "set.__xor__" :=
  .of (owner := "set") (n := "__xor__") (by rw [typeLookup_type, builtinLookup_eq_fast]; kernel_rfl) (by decide +kernel) (by decide +kernel) (by decide +kernel)
    (by first | exact .inl (by decide +kernel) | exact .inr (by decide +kernel)) (by rw [isSubtype_type]; kernel_rfl)
theorem fills_set_xor : fillsNumberSlot (.type "set") "xor" = pure true :=
  fillsNumberSlot_of (id := "set.__xor__") (r := some (.builtin "set.__rxor__")) (by rw [typeLookup_type, builtinLookup_eq_fast]; kernel_rfl) (by decide +kernel) (by rw [typeLookup_type, builtinLookup_eq_fast]; kernel_rfl)
theorem entry_set_xor : entryFor table "set.__xor__" = some Builtin.«frozenset.__xor__» := entryFor_alias (id' := "frozenset.__xor__") (by kernel_rfl) rfl (by decide +kernel) (by kernel_rfl)
theorem args_set_xor (a b : Value) : argsOk "set.__xor__" ⟨[a, b], []⟩ := by unfold argsOk; kernel_rfl

section
variable {P : Program} {w : World} {A : Around} {E : Value → Shared → Prop} {s : Shared} {a f : Addr} {S T : Int → Bool} {n m : Nat}
theorem any_set {Q : Bool → Shared → Prop} (R : SetR w s.heap a S n) (h : Q true s) : wpAny (model P w) A (Builtin.Frozenset.isAnySet (.ref a)) Q E s := by
  have hT : s.TypeIs (.ref a) "set" := (R.setOf (P := P)).typeIs
  unfold Builtin.Frozenset.isAnySet
  refine wpAny_bind (wpAny_isInstance (b := true) hT sub_set_self ?_)
  exact wpAny_pure h
/-- who is in one of the two alone -/
def flipS (S : Int → Bool) : List Int → Int → Bool
  | [], j => S j
  | k :: ks, j => flipS (fun i => if i = k then !S i else S i) ks j
theorem le_one {n : Nat} (c : Prop) [Decidable c] : (if c then n else n + 1) ≤ n + 1 := by split <;> omega
theorem flip_one {k : Int} {tk : Tok} {Q : Unit → Shared → Prop} (R : SetR w s.heap a S n) (room : n + 1 < scanBound)
    (hQ : ∀ h' c, Heap.SameBut a s.heap h' → SetR w h' a (fun i => if i = k then !S i else S i) c → c ≤ n + 1 → Q () { s with heap := h' }) :
    wpAny (model P w) A (do
      if !(← setDiscardHashed a (.int k tk) ((intKind P w).hash k)) then
        let _ ← setAddHashed a (.int k tk) ((intKind P w).hash k)) Q E s := by
  refine wpAny_bind (setR_discard R fun h1 sb1 R1 => ?_)
  cases hS : S k with
  | true =>
    refine wp_if_neg (by decide) ?_
    rw [hS, if_pos rfl] at R1
    refine wpAny_pure (hQ h1 _ sb1 (R1.congr fun j => ?_) (by omega))
    by_cases q : j = k
    · subst q; rw [if_pos rfl, if_pos rfl, hS]; rfl
    · rw [if_neg q, if_neg q]
  | false =>
    refine wp_if_pos rfl ?_
    rw [hS, if_neg Bool.false_ne_true] at R1
    refine wpAny_bind (setR_add_hashed (s := { s with heap := h1 }) R1 room fun h2 sb2 R2 => ?_)
    refine wpAny_pure (hQ h2 _ (sb1.trans sb2) (R2.congr fun j => ?_) (le_one _))
    by_cases q : j = k
    · subst q; rw [if_pos rfl, if_pos rfl, hS]; simp
    · rw [if_neg q, if_neg q]; simp [q]
theorem flipS_at : ∀ (ks : List Int) (S : Int → Bool) (j : Int), ks.Nodup → flipS S ks j = if j ∈ ks then !S j else S j
  | [], S, j, _ => by simp [flipS]
  | k :: ks, S, j, h => by
    obtain ⟨h1, h2⟩ := List.nodup_cons.mp h
    rw [flipS, flipS_at ks _ j h2]
    by_cases q : j = k
    · subst q
      rw [if_neg h1, if_pos rfl, if_pos List.mem_cons_self]
    · rw [if_neg q]
      by_cases z : j ∈ ks
      · rw [if_pos z, if_pos (List.mem_cons_of_mem _ z)]
      · rw [if_neg z, if_neg (fun y => (List.mem_cons.mp y).elim q z)]
theorem hash_good {e : Int × Value} (g : GoodE e) : ∃ k tk, e = ((intKind P w).hash k, .int k tk) ∧ keyOf e = k := by
  obtain ⟨k, tk, h1, h2⟩ := g
  obtain ⟨x, y⟩ := e
  dsimp only at h1 h2
  subst h1 h2
  exact ⟨k, tk, rfl, rfl⟩
theorem sym_update {Q : Unit → Shared → Prop} {id : String} {r : Addr} (Ra : SetR w s.heap a S n) (Rr : SetR w s.heap r T m) (hne : r ≠ a) (hn : n ≤ 60) (hm : m ≤ 60)
    (hQ : ∀ h' d c, Heap.SameBut r s.heap h' → SetR w h' r (fun j => if S j = true then !T j else T j) c → c ≤ 120 → Q () { s with heap := h', drawn := d }) :
    wpAny (model P w) A (Builtin.Frozenset.symmetricDifferenceUpdate id r (.ref a)) Q E s := by
  have hTa : s.TypeIs (.ref a) "set" := (Ra.setOf (P := P)).typeIs
  have Ra' := Ra
  obtain ⟨o, es, ep, t, ho, hex, hd, g, nd, hmm, hb, hf, hz, hr, hl⟩ := Ra'
  unfold Builtin.Frozenset.symmetricDifferenceUpdate
  refine wp_if_neg (by simpa using Ne.symm hne) ?_
  try refine wpAny_bind (wpAny_pure ?_)
  refine wpAny_bind (wpAny_typeOf hTa ?_)
  refine wp_if_neg (by decide) ?_
  try refine wpAny_bind (wpAny_pure ?_)
  refine wpAny_bind (any_set Ra ?_)
  dsimp only
  refine wp_if_pos rfl ?_
  refine wpAny_bind (wpAny_pure ?_)
  refine wpAny_bind (wpAny_of_eq (a := a) rfl ?_)
  refine wpAny_bind (m := setEpoch a) ?_
  unfold setEpoch
  refine wpAny_bind (wpAny_setState_of ho hd hf (wpAny_pure ?_))
  dsimp only
  refine wpAny_holding ?_
  refine wpAny_bind (walk_unseen Ra ho hd hf hl Rr fun ys h1 d p sb R1 => ?_)
  have gy : ∀ e ∈ ys.toList, GoodE e := fun e he => g e (p.mem_iff.mp he)
  have ndy : (ys.toList.map keyOf).Nodup := (p.map keyOf).nodup_iff.mpr nd
  have hoa : h1.get? a = some o := (sb.2 a (Ne.symm hne)).trans ho
  have ylen : ys.toList.length = n := by rw [p.length_eq, Array.length_toList]; exact hz
  refine wpAny_bind (PySem.MeetsSeq2.wpAny_forIn_array _ (fun rest _ s' => ∃ h' U c, s' = { s with heap := h', drawn := d } ∧ Heap.SameBut r h1 h' ∧ SetR w h' r U c ∧ (∀ e ∈ rest, GoodE e) ∧ c + rest.length ≤ 120 ∧ ∀ j, flipS U (rest.map keyOf) j = flipS T (ys.toList.map keyOf) j) _ ?_ ?_ _ _
    ⟨h1, T, m, rfl, Heap.SameBut.refl _ _, R1, gy, by omega, fun _ => rfl⟩)
  · rintro e rest b s' ⟨h', U, c, rfl, sb2, R2, gr, hc, hfl⟩
    obtain ⟨k, tk, rfl, hk⟩ := hash_good (P := P) (w := w) (gr _ List.mem_cons_self)
    dsimp only
    rw [List.length_cons] at hc
    refine wpAny_bind (wpAny_holding (flip_one (s := { s with heap := h', drawn := d }) R2 (by unfold scanBound; omega) fun h2 c2 sb3 R3 hc2 => ?_))
    refine wpAny_bind ?_
    unfold Builtin.Frozenset.unchanged setEpoch
    have hoa2 : h2.get? a = some o := (sb3.2 a (Ne.symm hne)).trans ((sb2.2 a (Ne.symm hne)).trans hoa)
    refine wpAny_bind (wpAny_bind (wpAny_setState_of (s := { s with heap := h2, drawn := d }) hoa2 hd hf (wpAny_pure ?_)))
    dsimp only
    refine wp_if_neg (by simp) ?_
    refine wpAny_pure (wpAny_pure ⟨h2, _, c2, rfl, sb2.trans sb3, R3, fun e he => gr e (List.mem_cons_of_mem _ he), by omega, fun j => ?_⟩)
    have := hfl j
    rw [List.map_cons, hk, flipS] at this
    exact this
  · rintro b s' ⟨h', U, c, rfl, sb2, R2, _, hc, hfl⟩
    refine wpAny_pure (hQ h' d c (sb.trans sb2) (R2.congr fun j => ?_) (by simpa using hc))
    have := hfl j
    rw [List.map_nil, flipS] at this
    rw [this, flipS_at _ _ _ ndy]
    by_cases q : S j = true
    · rw [if_pos q, if_pos ((p.map keyOf).mem_iff.mpr ((hmm j).1 q))]
    · rw [if_neg q, if_neg (fun z => q ((hmm j).2 ((p.map keyOf).mem_iff.mp z)))]
end
end Sb

/-! Sb.Data: values as plain data, how the heap bears them, what a step keeps. -/
namespace Sb
open PySem L2

/-- plain data -/
inductive D where
  | non
  | bl (b : Bool)
  | int (i : Int)
  | str (s : Str)
  | tup (ds : List D)
  | lst (ds : List D)
  /-- the script, a list of ints that nobody changes -/
  | scr (ns : List Int)

/-- the frozen heap F bears d as v -/
def Rep (K : PySem.W.Frag) (F : Hp) : D → V → Prop
  | .non, v => v = .non
  | .bl b, v => v = .bl b
  | .int i, v => v = .int i
  | .str s, v => v = .str s
  | .tup ds, v => ∃ (a : Addr) (vs : List V), v = .ref a ∧ SqT K F a vs ∧ RepL ds vs
  | .lst ds, v => ∃ (a : Addr) (vs : List V), v = .ref a ∧ F a = some (.lst vs) ∧ RepL ds vs
  | .scr ns, v => ∃ a : Addr, v = .ref a ∧ SqL K F a (ns.map V.int)
where
  RepL : List D → List V → Prop
  | [], vs => vs = []
  | d :: ds, vs => ∃ (v : V) (r : List V), vs = v :: r ∧ Rep K F d v ∧ RepL ds r

abbrev RepL (K : PySem.W.Frag) (F : Hp) : List D → List V → Prop := Rep.RepL K F

theorem Same.seqT {K : PySem.W.Frag} {H H' : Hp} {a : Addr} {xs : List V} (e : Same H H') (h : SqT K H a xs) : SqT K H' a xs := by
  rcases h with (h | ⟨o, h⟩) | h
  · exact .inl (.inl (e _ _ h))
  · exact .inl (.inr ⟨o, e _ _ h⟩)
  · exact .inr h

mutual
theorem Rep.mono {K : PySem.W.Frag} {F F' : Hp} (e : Same F F') : ∀ (d : D) (v : V), Rep K F d v → Rep K F' d v
  | .non, _, h => h
  | .bl _, _, h => h
  | .int _, _, h => h
  | .str _, _, h => h
  | .tup ds, _, h => by
    unfold Rep at h ⊢
    obtain ⟨a, vs, h1, h2, h3⟩ := h
    exact ⟨a, vs, h1, Same.seqT e h2, RepL.mono e ds vs h3⟩
  | .lst ds, _, h => by
    unfold Rep at h ⊢
    obtain ⟨a, vs, h1, h2, h3⟩ := h
    exact ⟨a, vs, h1, e _ _ h2, RepL.mono e ds vs h3⟩
  | .scr ns, _, h => by
    unfold Rep at h ⊢
    obtain ⟨a, h1, h2⟩ := h
    exact ⟨a, h1, e.seq h2⟩
theorem RepL.mono {K : PySem.W.Frag} {F F' : Hp} (e : Same F F') : ∀ (ds : List D) (vs : List V), RepL K F ds vs → RepL K F' ds vs
  | [], _, h => h
  | d :: ds, _, h => by
    unfold RepL Rep.RepL at h ⊢
    obtain ⟨v, r, h1, h2, h3⟩ := h
    exact ⟨v, r, h1, Rep.mono e d v h2, RepL.mono e ds r h3⟩
end

section
variable {K : PySem.W.Frag} {F F' H H' : Hp}
theorem repL_nil {vs : List V} : RepL K F [] vs ↔ vs = [] := by unfold RepL Rep.RepL; exact Iff.rfl
theorem repL_cons {d : D} {ds : List D} {vs : List V} : RepL K F (d :: ds) vs ↔ ∃ v r, vs = v :: r ∧ Rep K F d v ∧ RepL K F ds r := by
  unfold RepL; rw [Rep.RepL]
theorem RepL.cons {d : D} {ds : List D} {v : V} {r : List V} (h : Rep K F d v) (t : RepL K F ds r) : RepL K F (d :: ds) (v :: r) := repL_cons.mpr ⟨v, r, rfl, h, t⟩
theorem RepL.nil : RepL K F [] [] := repL_nil.mpr rfl
theorem RepL.length : ∀ {ds : List D} {vs : List V}, RepL K F ds vs → vs.length = ds.length
  | [], _, h => by rw [repL_nil.mp h]; rfl
  | _ :: _, _, h => by
    obtain ⟨v, r, rfl, _, t⟩ := repL_cons.mp h
    simp [RepL.length t]
theorem RepL.append : ∀ {ds es : List D} {vs ws : List V}, RepL K F ds vs → RepL K F es ws → RepL K F (ds ++ es) (vs ++ ws)
  | [], _, _, _, h, t => by rw [repL_nil.mp h]; exact t
  | _ :: _, _, _, _, h, t => by
    obtain ⟨v, r, rfl, h1, h2⟩ := repL_cons.mp h
    exact RepL.cons h1 (RepL.append h2 t)
theorem RepL.get : ∀ {ds : List D} {vs : List V} {i : Nat} {d : D}, RepL K F ds vs → ds[i]? = some d → ∃ v, vs[i]? = some v ∧ Rep K F d v
  | [], _, _, _, _, e => by simp at e
  | _ :: _, _, 0, _, h, e => by
    obtain ⟨v, r, rfl, h1, h2⟩ := repL_cons.mp h
    simp at e; subst e
    exact ⟨v, rfl, h1⟩
  | _ :: _, _, i + 1, d, h, e => by
    obtain ⟨v, r, rfl, h1, h2⟩ := repL_cons.mp h
    obtain ⟨w, e2, h3⟩ := RepL.get (i := i) h2 (by simpa using e)
    exact ⟨w, by simpa using e2, h3⟩
theorem RepL.getV {ds : List D} {vs : List V} {i : Nat} {v : V} (h : RepL K F ds vs) (e : vs[i]? = some v) : ∃ d, ds[i]? = some d ∧ Rep K F d v := by
  have hl := h.length
  have hi : i < vs.length := (List.getElem?_eq_some_iff.mp e).1
  have e2 : ds[i]? = some ds[i] := List.getElem?_eq_getElem (by omega)
  obtain ⟨w, e3, r⟩ := h.get e2
  rw [e] at e3; cases e3
  exact ⟨_, e2, r⟩
theorem RepL.set : ∀ {ds : List D} {vs : List V} (i : Nat) {d : D} {v : V}, RepL K F ds vs → Rep K F d v → RepL K F (ds.set i d) (vs.set i v)
  | [], _, _, _, _, h, _ => by rw [repL_nil.mp h]; exact RepL.nil
  | _ :: _, _, 0, _, _, h, g => by
    obtain ⟨v, r, rfl, h1, h2⟩ := repL_cons.mp h
    exact RepL.cons g h2
  | _ :: _, _, i + 1, _, _, h, g => by
    obtain ⟨v, r, rfl, h1, h2⟩ := repL_cons.mp h
    exact RepL.cons h1 (RepL.set i h2 g)
theorem RepL.take : ∀ {ds : List D} {vs : List V} (n : Nat), RepL K F ds vs → RepL K F (ds.take n) (vs.take n)
  | _, _, 0, _ => by simp; exact RepL.nil
  | [], _, _ + 1, h => by rw [repL_nil.mp h]; exact RepL.nil
  | _ :: _, _, n + 1, h => by
    obtain ⟨v, r, rfl, h1, h2⟩ := repL_cons.mp h
    exact RepL.cons h1 (RepL.take n h2)
theorem RepL.drop : ∀ {ds : List D} {vs : List V} (n : Nat), RepL K F ds vs → RepL K F (ds.drop n) (vs.drop n)
  | _, _, 0, h => h
  | [], _, _ + 1, h => by rw [repL_nil.mp h]; exact RepL.nil
  | _ :: _, _, n + 1, h => by
    obtain ⟨v, r, rfl, h1, h2⟩ := repL_cons.mp h
    exact RepL.drop n h2
theorem RepL.ints : ∀ {ns : List Int} {vs : List V}, RepL K F (ns.map D.int) vs ↔ vs = ns.map V.int
  | [], vs => by rw [List.map_nil, List.map_nil, repL_nil]
  | n :: ns, vs => by
    rw [List.map_cons, List.map_cons, repL_cons]
    constructor
    · rintro ⟨v, r, rfl, h1, h2⟩
      have h1 : v = V.int n := h1
      rw [h1, RepL.ints.mp h2]
    · rintro rfl
      exact ⟨_, _, rfl, rfl, RepL.ints.mpr rfl⟩
theorem RepL.rep {ds : List D} {vs : List V} (h : RepL K F ds vs) : ∀ k : Nat, RepL K F (List.replicate k ds).flatten (List.replicate k vs).flatten
  | 0 => RepL.nil
  | k + 1 => by
    rw [List.replicate_succ, List.replicate_succ, List.flatten_cons, List.flatten_cons]
    exact h.append (RepL.rep h k)
theorem RepL.reverse : ∀ {ds : List D} {vs : List V}, RepL K F ds vs → RepL K F ds.reverse vs.reverse
  | [], _, h => by rw [repL_nil.mp h]; exact RepL.nil
  | _ :: _, _, h => by
    obtain ⟨v, r, rfl, h1, h2⟩ := repL_cons.mp h
    rw [List.reverse_cons, List.reverse_cons]
    exact (RepL.reverse h2).append (RepL.cons h1 RepL.nil)

/-! ### a step that changes nothing that stood -/
structure PX (F H F' H' : Hp) : Prop where
  ff : Same F F'
  fh : Same F' H'
  hh : Same H H'
  nw : ∀ a o, F' a = some o → (∃ o', F a = some o') ∨ H a = none
theorem PX.refl (h : Same F H) : PX F H F H := ⟨Same.refl F, h, Same.refl H, fun _ o e => .inl ⟨o, e⟩⟩
theorem PX.trans {F1 H1 F2 H2 : Hp} (a : PX F H F1 H1) (b : PX F1 H1 F2 H2) : PX F H F2 H2 where
  ff := a.ff.trans b.ff
  fh := b.fh
  hh := a.hh.trans b.hh
  nw := fun x o e => by
    rcases b.nw x o e with ⟨o', q⟩ | q
    · exact a.nw x o' q
    · exact .inr (a.hh.free q)
/-- a new frozen object -/
theorem same_new {H : Hp} {p : Addr} {o : HO} (h : H p = none) : Same H (upd H p o) := fun b x e => by
  rw [upd_ne (ne_of_none e h)]
  exact e
theorem PX.new {p : Addr} {o : HO} (s : Same F H) (h : H p = none) : PX F H (upd F p o) (upd H p o) where
  ff := same_new (s.free h)
  fh := fun b x e => by
    by_cases hb : b = p
    · subst hb; rw [upd_same] at e ⊢; exact e
    · rw [upd_ne hb] at e ⊢; exact s _ _ e
  hh := same_new h
  nw := fun b x e => by
    by_cases hb : b = p
    · subst hb; exact .inr h
    · rw [upd_ne hb] at e; exact .inl ⟨x, e⟩
/-- a new object that is left out of the frozen heap -/
theorem PX.newH {p : Addr} {o : HO} (s : Same F H) (h : H p = none) : PX F H F (upd H p o) := ⟨Same.refl F, s.trans (same_new h), same_new h, fun _ o e => .inl ⟨o, e⟩⟩
end
end Sb

/-! Sb.World: slots, what is owned, what a step keeps. -/
namespace Sb
open PySem L2

inductive Kind where
  | lst
  deriving DecidableEq
/-- a name's content: nothing known, a value, an object that is changed in place (fix: a parameter's) -/
inductive Slot where
  | none
  | val (d : D)
  | own (k : Kind) (fix : Bool) (d : D)
abbrev Env := List Slot

def nil : Hp := fun _ => Option.none
/-- the object at p and what it owns are the cells of O -/
def OwnP (K : PySem.W.Frag) : Kind → Hp → Hp → Addr → D → Prop
  | .lst, F, O, p, d => ∃ (ds : List D) (vs : List V), d = .lst ds ∧ RepL K F ds vs ∧ O = upd nil p (.lst vs)
theorem OwnP.mono {K : PySem.W.Frag} {k : Kind} {F F' O : Hp} {p : Addr} {d : D} (e : Same F F') (h : OwnP K k F O p d) : OwnP K k F' O p d := by
  cases k with
  | lst =>
    obtain ⟨ds, vs, h1, h2, h3⟩ := h
    exact ⟨ds, vs, h1, RepL.mono e ds vs h2, h3⟩

/-- the frozen heap and the owned ones lie in H, apart -/
structure Sepd (F : Hp) (O : Nat → Hp) (H : Hp) : Prop where
  fh : Same F H
  oh : ∀ i, Same (O i) H
  fo : ∀ i a o, O i a = some o → F a = none
  oo : ∀ i j a o, i ≠ j → O i a = some o → O j a = none
/-- what a step keeps -/
structure Ext (F : Hp) (O : Nat → Hp) (H : Hp) (F' : Hp) (O' : Nat → Hp) (H' : Hp) : Prop where
  ff : Same F F'
  hh : ∀ a o, H a = some o → (∀ i, O i a = none) → H' a = some o
  nf : ∀ a o, F' a = some o → (∃ u, F a = some u) ∨ (∃ i u, O i a = some u) ∨ H a = none
  no : ∀ j a o, O' j a = some o → (∃ i u, O i a = some u) ∨ H a = none

section
variable {F F1 F2 F' H H1 H2 H' : Hp} {O O1 O2 O' : Nat → Hp}
theorem Ext.refl : Ext F O H F O H := ⟨Same.refl F, fun _ _ h _ => h, fun _ o e => .inl ⟨o, e⟩, fun j _ o e => .inl ⟨j, o, e⟩⟩
theorem Ext.trans (s : Sepd F O H) (s1 : Sepd F1 O1 H1) (a : Ext F O H F1 O1 H1) (b : Ext F1 O1 H1 F2 O2 H2) : Ext F O H F2 O2 H2 := by
  have key : ∀ c : Addr, H1 c = none → (∃ i u, O i c = some u) ∨ H c = none := fun c hc => by
    by_cases q : ∃ i u, O i c = some u
    · exact .inl q
    · right
      cases e : H c with
      | none => rfl
      | some o =>
        have := a.hh c o e fun i => by
          cases z : O i c with
          | none => rfl
          | some u => exact absurd ⟨i, u, z⟩ q
        rw [hc] at this; cases this
  refine ⟨a.ff.trans b.ff, fun c o e n => ?_, fun c o e => ?_, fun j c o e => ?_⟩
  · refine b.hh c o (a.hh c o e n) fun i => ?_
    cases z : O1 i c with
    | none => rfl
    | some u =>
      exfalso
      rcases a.no i c u z with ⟨i', u', q⟩ | q
      · rw [n i'] at q; cases q
      · rw [e] at q; cases q
  · rcases b.nf c o e with ⟨u, q⟩ | ⟨i, u, q⟩ | q
    · exact a.nf c u q
    · exact .inr (a.no i c u q)
    · exact .inr (key c q)
  · rcases b.no j c o e with ⟨i, u, q⟩ | q
    · exact a.no i c u q
    · exact key c q
/-- a step that changes nothing that stood -/
theorem Sepd.px (s : Sepd F O H) (x : PX F H F' H') : Sepd F' O H' where
  fh := x.fh
  oh := fun i => (s.oh i).trans x.hh
  fo := fun i a o e => by
    cases q : F' a with
    | none => rfl
    | some u =>
      rcases x.nw a u q with ⟨u', z⟩ | z
      · rw [s.fo i a o e] at z; cases z
      · rw [s.oh i a o e] at z; cases z
  oo := s.oo
theorem Ext.px (s : Sepd F O H) (x : PX F H F' H') : Ext F O H F' O H' where
  ff := x.ff
  hh := fun a o e _ => x.hh a o e
  nf := fun a o e => (x.nw a o e).imp id .inr
  no := fun j a o e => .inl ⟨j, o, e⟩
end

/-- a name's content in the heap; P: where the parameters' own objects stand -/
def SlotOk (K : PySem.W.Frag) (F O : Hp) (p : Addr) (sl : Slot) (v : Option V) : Prop :=
  match sl with
  | .none => O = nil
  | .val d => O = nil ∧ ∃ x, v = some x ∧ Rep K F d x
  | .own k fix d => ∃ q, v = some (.ref q) ∧ OwnP K k F O q d ∧ (fix = true → q = p)
theorem SlotOk.mono {K : PySem.W.Frag} {F F' O : Hp} {p : Addr} {sl : Slot} {v : Option V} (e : Same F F') (h : SlotOk K F O p sl v) : SlotOk K F' O p sl v := by
  cases sl with
  | none => exact h
  | val d => obtain ⟨h1, x, h2, h3⟩ := h; exact ⟨h1, x, h2, h3.mono e d x⟩
  | own k fix d => obtain ⟨q, h1, h2, h3⟩ := h; exact ⟨q, h1, h2.mono e, h3⟩

def slotAt (env : Env) (i : Nat) : Slot := env.getD i .none
def valAt (σ : St) (i : Nat) : Option V := σ.getD i Option.none

/-- a world: the frozen heap, the owned ones -/
structure Wd where
  F : Hp
  O : Nat → Hp
/-- the slots σ and the heap H bear env -/
structure At (K : PySem.W.Frag) (P : Nat → Addr) (σ : St) (env : Env) (w : Wd) (H : Hp) : Prop where
  len : env.length = σ.length
  sep : Sepd w.F w.O H
  sl : ∀ i, SlotOk K w.F (w.O i) (P i) (slotAt env i) (valAt σ i)
abbrev ExtW (w : Wd) (H : Hp) (w' : Wd) (H' : Hp) : Prop := Ext w.F w.O H w'.F w'.O H'

section
variable {K : PySem.W.Frag} {P : Nat → Addr} {σ : St} {env env' : Env} {w w' w1 : Wd} {H H' H1 : Hp}
theorem At.px {F' : Hp} (a : At K P σ env w H) (x : PX w.F H F' H') : At K P σ env ⟨F', w.O⟩ H' := ⟨a.len, a.sep.px x, fun i => (a.sl i).mono x.ff⟩
theorem At.val {i : Nat} {d : D} (a : At K P σ env w H) (e : slotAt env i = .val d) : ∃ v, σ[i]? = some (some v) ∧ Rep K w.F d v := by
  have h := a.sl i
  rw [e] at h
  obtain ⟨_, x, h2, h3⟩ := h
  refine ⟨x, ?_, h3⟩
  unfold valAt at h2
  rw [List.getD_eq_getElem?_getD] at h2
  cases q : σ[i]? with
  | none => rw [q] at h2; cases h2
  | some y => rw [q] at h2; exact congrArg some h2
theorem At.own {i : Nat} {k : Kind} {fix : Bool} {d : D} (a : At K P σ env w H) (e : slotAt env i = .own k fix d) : ∃ p, σ[i]? = some (some (.ref p)) ∧ OwnP K k w.F (w.O i) p d ∧ (fix = true → p = P i) := by
  have h := a.sl i
  rw [e] at h
  obtain ⟨p, h2, h3, h4⟩ := h
  refine ⟨p, ?_, h3, h4⟩
  unfold valAt at h2
  rw [List.getD_eq_getElem?_getD] at h2
  cases q : σ[i]? with
  | none => rw [q] at h2; cases h2
  | some y => rw [q] at h2; exact congrArg some h2

theorem slotAt_set (env : Env) (i j : Nat) (s : Slot) (hi : i < env.length) : slotAt (env.set i s) j = if i = j then s else slotAt env j := by
  unfold slotAt
  rw [List.getD_eq_getElem?_getD, List.getD_eq_getElem?_getD, List.getElem?_set]
  split
  · rename_i e; subst e; first | rfl | (rw [if_pos hi]; rfl)
  · rfl
theorem valAt_set (σ : St) (i j : Nat) (v : Option V) (hi : i < σ.length) : valAt (σ.set i v) j = if i = j then v else valAt σ j := by
  unfold valAt
  rw [List.getD_eq_getElem?_getD, List.getD_eq_getElem?_getD, List.getElem?_set]
  split
  · rename_i e; subst e; first | rfl | (rw [if_pos hi]; rfl)
  · rfl
def setO (O : Nat → Hp) (i : Nat) (o : Hp) : Nat → Hp := fun j => if i = j then o else O j
theorem setO_same {O : Nat → Hp} {i : Nat} {o : Hp} : setO O i o i = o := if_pos rfl
theorem setO_ne {O : Nat → Hp} {i j : Nat} {o : Hp} (h : i ≠ j) : setO O i o j = O j := if_neg h

/-- what is no longer owned -/
theorem Sepd.drop {F : Hp} {O : Nat → Hp} (s : Sepd F O H) (i : Nat) : Sepd F (setO O i nil) H where
  fh := s.fh
  oh := fun j => by
    by_cases e : i = j
    · subst e; rw [setO_same]; intro a o z; cases z
    · rw [setO_ne e]; exact s.oh j
  fo := fun j a o z => by
    by_cases e : i = j
    · subst e; rw [setO_same] at z; cases z
    · rw [setO_ne e] at z; exact s.fo j a o z
  oo := fun j k a o n z => by
    by_cases e : i = j
    · subst e; rw [setO_same] at z; cases z
    · rw [setO_ne e] at z
      by_cases e2 : i = k
      · subst e2; rw [setO_same]; rfl
      · rw [setO_ne e2]; exact s.oo j k a o n z
theorem Ext.drop {F : Hp} {O : Nat → Hp} (i : Nat) : Ext F O H F (setO O i nil) H where
  ff := Same.refl F
  hh := fun _ _ h _ => h
  nf := fun _ o e => .inl ⟨o, e⟩
  no := fun j a o z => by
    by_cases e : i = j
    · subst e; rw [setO_same] at z; cases z
    · rw [setO_ne e] at z; exact .inl ⟨j, o, z⟩
/-- a slot is given a value -/
theorem At.set {i : Nat} {d : D} {v : V} (a : At K P σ env w H) (h1 : i < env.length) (r : Rep K w.F d v) :
    At K P (σ.set i (some v)) (env.set i (.val d)) ⟨w.F, setO w.O i nil⟩ H := by
  have h2 : i < σ.length := by rw [← a.len]; exact h1
  refine ⟨by simp [a.len], a.sep.drop i, fun j => ?_⟩
  rw [slotAt_set _ _ _ _ h1, valAt_set _ _ _ _ h2]
  by_cases e : i = j
  · subst e
    rw [if_pos rfl, if_pos rfl]
    exact ⟨setO_same, v, rfl, r⟩
  · rw [if_neg e, if_neg e]
    have := a.sl j
    show SlotOk K w.F (setO w.O i nil j) _ _ _
    rw [setO_ne e]
    exact this
end
end Sb

/-! Sb.IR: a small tongue for what the text does, and what it reckons over plain data. -/
namespace Sb
open PySem L2

/-! ### data -/
def toInts : List D → Option (List Int)
  | [] => some []
  | .int i :: r => (toInts r).map (i :: ·)
  | _ :: _ => none
theorem toInts_map : ∀ ns : List Int, toInts (ns.map D.int) = some ns
  | [] => rfl
  | n :: ns => by rw [List.map_cons, toInts, toInts_map ns]; rfl
theorem toInts_of : ∀ {ds : List D} {ns : List Int}, toInts ds = some ns → ds = ns.map D.int
  | [], ns, h => by cases h; rfl
  | .int i :: r, ns, h => by
    rw [toInts] at h
    cases q : toInts r with
    | none => rw [q] at h; cases h
    | some ms => rw [q] at h; cases h; rw [List.map_cons, toInts_of q]
  | .non :: _, _, h => by cases h
  | .bl _ :: _, _, h => by cases h
  | .str _ :: _, _, h => by cases h
  | .tup _ :: _, _, h => by cases h
  | .lst _ :: _, _, h => by cases h
  | .scr _ :: _, _, h => by cases h
def toBls : List D → Option (List Bool)
  | [] => some []
  | .bl b :: r => (toBls r).map (b :: ·)
  | _ :: _ => none
theorem toBls_map : ∀ ns : List Bool, toBls (ns.map D.bl) = some ns
  | [] => rfl
  | n :: ns => by rw [List.map_cons, toBls, toBls_map ns]; rfl
theorem toBls_of : ∀ {ds : List D} {ns : List Bool}, toBls ds = some ns → ds = ns.map D.bl
  | [], ns, h => by cases h; rfl
  | .bl i :: r, ns, h => by
    rw [toBls] at h
    cases q : toBls r with
    | none => rw [q] at h; cases h
    | some ms => rw [q] at h; cases h; rw [List.map_cons, toBls_of q]
  | .non :: _, _, h => by cases h
  | .int _ :: _, _, h => by cases h
  | .str _ :: _, _, h => by cases h
  | .tup _ :: _, _, h => by cases h
  | .lst _ :: _, _, h => by cases h
  | .scr _ :: _, _, h => by cases h
/-- the flat ones -/
def flat : D → Option V
  | .non => some .non
  | .bl b => some (.bl b)
  | .int i => some (.int i)
  | .str s => some (.str s)
  | _ => none
def flats : List D → Option (List V)
  | [] => some []
  | d :: r => (flat d).bind fun v => (flats r).map (v :: ·)
theorem flats_ints : ∀ ns : List Int, flats (ns.map D.int) = some (ns.map V.int)
  | [] => rfl
  | n :: ns => by rw [List.map_cons, flats, flats_ints ns]; rfl
/-- as the library's data -/
def toPy : D → PyData
  | .non => .none
  | .bl b => .bool b
  | .int i => .int i
  | .str s => .str s
  | .tup ds => .tuple (toPys ds)
  | .lst ds => .list (toPys ds)
  | .scr ns => .list (ns.map PyData.int)
where
  toPys : List D → List PyData
  | [] => []
  | d :: ds => toPy d :: toPys ds
abbrev toPys := toPy.toPys
def shp (d : D) : Bool := SeqAt.shaped (toPy d)
/-- the most that a list may hold here -/
def LIM : Nat := 100000
def atD (ds : List D) (i : Int) : Option D := atI ds i

inductive Bop where
  | add | sub | mul | fdiv | mod | pow | xor
  deriving DecidableEq
inductive Cop where
  | eq | ne | lt | le | gt | ge | isin | notin
  deriving DecidableEq
/-- built-ins, by name -/
inductive Bi where
  | len | min | max | sum | sorted | abs | all | int | tuple | list
  deriving DecidableEq
/-- methods -/
inductive Mt where
  | count
  deriving DecidableEq

def small (i : Int) : Bool := decide (-(2 ^ 64) < i ∧ i < 2 ^ 64)
def repn (ds : List D) (k : Int) : Option (List D) :=
  if -(2 ^ 63) ≤ k ∧ k < 2 ^ 63 ∧ ds.length * k.toNat ≤ LIM then some (List.replicate k.toNat ds).flatten else none
def evOp : Bop → D → D → Option D
  | .add, .int i, .int j => some (.int (i + j))
  | .add, .tup a, .tup b => if a.length + b.length ≤ LIM then some (.tup (a ++ b)) else none
  | .add, .lst a, .lst b => if a.length + b.length ≤ LIM then some (.lst (a ++ b)) else none
  | .sub, .int i, .int j => some (.int (i - j))
  | .mul, .int i, .int j => if small i ∨ small j then some (.int (i * j)) else none
  | .mul, .lst a, .int k => (repn a k).map .lst
  | .fdiv, .int i, .int j => if 0 < j ∧ j < 1073741824 then some (.int (i / j)) else none
  | .mod, .int i, .int j => if 0 < j then some (.int (i % j)) else none
  | .pow, .int i, .int j => if 0 ≤ j ∧ j ≤ 1000000 ∧ i.natAbs < 2 ^ 64 then some (.int (i ^ j.toNat)) else none
  | .xor, .int i, .int j => some (.int (Builtin.bitXor i j))
  | _, _, _ => none
def isIn (x : D) (ds : List D) : Option Bool := (flat x).bind fun v => (flats ds).map fun vs => inV v vs
def evCmp : Cop → D → D → Option Bool
  | .eq, a, b => if shp a = true ∧ shp b = true then some (PyData.eqv (toPy a) (toPy b)) else none
  | .ne, a, b => if shp a = true ∧ shp b = true then some (!PyData.eqv (toPy a) (toPy b)) else none
  | .lt, .int i, .int j => some (decide (i < j))
  | .le, .int i, .int j => some (decide (i ≤ j))
  | .gt, .int i, .int j => some (decide (j < i))
  | .ge, .int i, .int j => some (decide (j ≤ i))
  | .isin, x, .tup ds => isIn x ds
  | .isin, x, .lst ds => isIn x ds
  | .notin, x, .tup ds => (isIn x ds).map (!·)
  | .notin, x, .lst ds => (isIn x ds).map (!·)
  | _, _, _ => none
def minI : Int → List Int → Int
  | m, [] => m
  | m, x :: r => minI (if x < m then x else m) r
def maxI : Int → List Int → Int
  | m, [] => m
  | m, x :: r => maxI (if m < x then x else m) r
/-- rising, by putting in -/
def putIn (x : Int) : List Int → List Int
  | [] => [x]
  | y :: r => if x ≤ y then x :: y :: r else y :: putIn x r
def sortI (ns : List Int) : List Int := ns.foldr putIn []
def evBi : Bi → List D → Option D
  | .len, [.tup ds] => some (.int ds.length)
  | .len, [.lst ds] => some (.int ds.length)
  | .len, [.scr ns] => some (.int ns.length)
  | .len, [.str s] => if s.length ≤ LIM then some (.int s.length) else none
  | .min, [.int i, .int j] => some (.int (if j < i then j else i))
  | .max, [.int i, .int j] => some (.int (if j > i then j else i))
  | .min, [.lst ds] => (toInts ds).bind fun ns => match ns with | [] => none | m :: r => some (.int (minI m r))
  | .max, [.lst ds] => (toInts ds).bind fun ns => match ns with | [] => none | m :: r => some (.int (maxI m r))
  | .sum, [.lst ds] => (toInts ds).map fun ns => .int ns.sum
  | .sorted, [.lst ds] => (toInts ds).bind fun ns => if ns.length < 64 then some (.lst ((sortI ns).map .int)) else none
  | .abs, [.int i] => some (.int (if i < 0 then -i else i))
  | .all, [.lst ds] => (toBls ds).map fun bs => .bl (bs.all id)
  | .int, [.int i] => some (.int i)
  | .int, [.bl b] => some (.int (if b then 1 else 0))
  | .tuple, [.tup ds] => some (.tup ds)
  | .tuple, [.lst ds] => some (.tup ds)
  | .list, [.tup ds] => some (.lst ds)
  | .list, [.lst ds] => some (.lst ds)
  | _, _ => none
def evMt : Mt → D → List D → Option D
  | .count, .lst ds, [.int k] => (toInts ds).map fun ns => .int (ns.count k)
  | _, _, _ => none
def evIx : D → D → Option D
  | .tup ds, .int i => atD ds i
  | .lst ds, .int i => atD ds i
  | .scr ns, .int i => (atI ns i).map .int
  | _, _ => none
/-- the symmetric difference of two lists of distinct ints, rising -/
def symI (a b : List Int) : List Int := sortI ((a.filter fun x => !b.contains x) ++ (b.filter fun x => !a.contains x))
def evSx (a b : D) : Option D := match a, b with
  | .tup as, .tup bs => (toInts as).bind fun xs => (toInts bs).bind fun ys =>
    if xs.Nodup ∧ ys.Nodup ∧ xs.length ≤ 60 ∧ ys.length ≤ 60 ∧ xs.length + ys.length < 64 + 64 ∧ (symI xs ys).length < 64 then some (.lst ((symI xs ys).map .int)) else none
  | _, _ => none
/-- kinds that are asked for -/
inductive Ki where
  | int | bool | tuple | list | str
  deriving DecidableEq
def isKi : Ki → D → Bool
  | .int, .int _ => true
  | .int, .bl _ => true
  | .bool, .bl _ => true
  | .tuple, .tup _ => true
  | .list, .lst _ => true
  | .list, .scr _ => true
  | .str, .str _ => true
  | _, _ => false

inductive E where
  | var (i : Nat)
  | int (i : Int) | bl (b : Bool) | non | str (s : Str)
  | glo (g : Nat)
  | op (o : Bop) (a b : E)
  | neg (a : E)
  | cmp (o : Cop) (a b : E)
  | cmp2 (o o' : Cop) (a b c : E)
  | isN (neg : Bool) (a : E)
  | bop (and : Bool) (es : List E)
  | not (a : E)
  | ife (c a b : E)
  | tup (es : List E)
  | lst (es : List E)
  | ix (a b : E)
  | call (f : Nat) (es : List E)
  | bi (b : Bi) (es : List E)
  | mt (m : Mt) (a : E) (es : List E)
  | isi (k : Ki) (a : E)
  /-- sorted(set(a) ^ set(b)) -/
  | sx (a b : E)
  /-- an owned list's item -/
  | oix (i : Nat) (b : E)
  /-- an owned object handed in (in a call alone) -/
  | ref (i : Nat)
  /-- what is walked (in a for, a comprehension alone): range(..), enumerate(..), a list or tuple -/
  | rng (es : List E)
  | enm (a : E)
  | seq (a : E)
  /-- [elt for t in src if c]; c is .bl true where no test is written -/
  | lc (vs : List Nat) (t : List Nat) (src c elt : E)

inductive S where
  | asg (t : List Nat) (e : E)
  | asg1 (i : Nat) (e : E)
  | par (is : List Nat) (es : List E)
  | own (i : Nat) (e : E)
  | oset (i : Nat) (ix e : E)
  | app (i : Nat) (e : E)
  | frz (i : Nat)
  | ex (e : E)
  | ife (c : E) (a b : List S)
  | for_ (t : List Nat) (one : Bool) (src : E) (body : List S)
  /-- n: more turns than are taken -/
  | whl (n : Nat) (c : E) (body : List S)
  | ret (e : E)
  | retN
  | never

/-- an argument of a call -/
inductive Arg where
  | v (d : D)
  | o (k : Kind) (d : D)
abbrev FnSem := List Arg → Option (D × List Arg)
inductive PArg where
  | v (d : D)
  | r (i : Nat)
def resolve (env : Env) : List PArg → Option (List Arg)
  | [] => some []
  | .v d :: r => (resolve env r).map (.v d :: ·)
  | .r i :: r => match slotAt env i with
    | .own k _ d => (resolve env r).map (.o k d :: ·)
    | _ => none
def refs : List PArg → List Nat
  | [] => []
  | .v _ :: r => refs r
  | .r i :: r => i :: refs r
def putOwn (env : Env) (i : Nat) (k : Kind) (d : D) : Option Env := match slotAt env i with
  | .own k' fix _ => if k' = k ∧ i < env.length then some (env.set i (.own k fix d)) else none
  | _ => none
def putBack : List PArg → List Arg → Env → Option Env
  | [], [], env => some env
  | .v _ :: r, .v _ :: s, env => putBack r s env
  | .r i :: r, .o k d :: s, env => (putOwn env i k d).bind fun env' => putBack r s env'
  | _, _, _ => none
def setV (env : Env) (i : Nat) (d : D) : Option Env := if i < env.length then some (env.set i (.val d)) else none
def setVs : List Nat → List D → Env → Option Env
  | [], [], env => some env
  | i :: is, d :: ds, env => (setV env i d).bind fun env' => setVs is ds env'
  | _, _, _ => none
/-- a target: one name, or a tuple of names -/
def asgT (one : Bool) (t : List Nat) (d : D) (env : Env) : Option Env := match one with
  | true => match t with | [i] => setV env i d | _ => none
  | false => match d with | .tup ds => setVs t ds env | _ => none
def wipeE (env : Env) : List Nat → Env
  | [] => env
  | v :: vs => (wipeE env vs).set v .none
/-- a comprehension's names hold nothing that is owned -/
def noOwn (env : Env) (vs : List Nat) : Bool := vs.all fun i => match slotAt env i with | .own .. => false | _ => true
/-- the names vs as they stand in env0, all others as in env -/
def backE (env0 env : Env) : List Nat → Env
  | [] => env
  | v :: vs => (backE env0 env vs).set v (slotAt env0 v)
def lcGo (one : Bool) (t : List Nat) (c : Env → Option (D × Env)) (elt : Env → Option (D × Env)) (vs : List Nat) : List D → Env → Option (List D × Env)
  | [], env => some ([], env)
  | d :: ds, env => (asgT one t d env).bind fun env1 => (c env1).bind fun p => match p.1 with
    | .bl true => (elt p.2).bind fun q => (lcGo one t c elt vs ds (wipeE q.2 vs)).bind fun r => some (q.1 :: r.1, r.2)
    | .bl false => lcGo one t c elt vs ds (wipeE p.2 vs)
    | _ => none

def asRef : E → Option Nat
  | .ref i => some i
  | _ => none
def isNonD : D → Bool
  | .non => true
  | _ => false
def rngD (lo : Int) (n : Nat) : List D := (List.range n).map fun (i : Nat) => D.int (lo + (i : Int))
def inR (i : Int) : Bool := decide (-(2 ^ 62) ≤ i ∧ i < 2 ^ 62)
def enmD (k : Nat) : List D → List D
  | [] => []
  | d :: r => .tup [.int k, d] :: enmD (k + 1) r

variable (G : Nat → Option D) (Φ : Nat → FnSem)
mutual
def evE : E → Env → Option (D × Env)
  | .var i, env => match slotAt env i with | .val d => some (d, env) | _ => none
  | .int i, env => some (.int i, env)
  | .bl b, env => some (.bl b, env)
  | .non, env => some (.non, env)
  | .str s, env => some (.str s, env)
  | .glo g, env => (G g).map fun d => (d, env)
  | .op o a b, env => (evE a env).bind fun p => (evE b p.2).bind fun q => (evOp o p.1 q.1).map fun d => (d, q.2)
  | .neg a, env => (evE a env).bind fun p => match p.1 with | .int i => some (.int (-i), p.2) | _ => none
  | .cmp o a b, env => (evE a env).bind fun p => (evE b p.2).bind fun q => (evCmp o p.1 q.1).map fun d => (.bl d, q.2)
  | .cmp2 o o' a b c, env => (evE a env).bind fun p => (evE b p.2).bind fun q => (evCmp o p.1 q.1).bind fun k => match k with
    | true => (evE c q.2).bind fun r => (evCmp o' q.1 r.1).map fun d => (.bl d, r.2)
    | false => some (.bl false, q.2)
  | .isN neg a, env => (evE a env).bind fun p => some (.bl (xor neg (isNonD p.1)), p.2)
  | .bop and es, env => evB and es env
  | .not a, env => (evE a env).bind fun p => match p.1 with | .bl b => some (.bl (!b), p.2) | _ => none
  | .ife c a b, env => (evE c env).bind fun p => match p.1 with
    | .bl true => evE a p.2
    | .bl false => evE b p.2
    | _ => none
  | .tup es, env => (evL es env).bind fun p => if p.1.length ≤ LIM then some (.tup p.1, p.2) else none
  | .lst es, env => (evL es env).bind fun p => if p.1.length ≤ LIM then some (.lst p.1, p.2) else none
  | .ix a b, env => (evE a env).bind fun p => (evE b p.2).bind fun q => (evIx p.1 q.1).map fun d => (d, q.2)
  | .call f es, env => (evA es env).bind fun p => if (refs p.1).Nodup then (resolve p.2 p.1).bind fun as => (Φ f as).bind fun r => (putBack p.1 r.2 p.2).map fun env' => (r.1, env') else none
  | .bi b es, env => (evL es env).bind fun p => (evBi b p.1).map fun d => (d, p.2)
  | .mt m a es, env => (evE a env).bind fun p => (evL es p.2).bind fun q => (evMt m p.1 q.1).map fun d => (d, q.2)
  | .isi k a, env => (evE a env).map fun p => (.bl (isKi k p.1), p.2)
  | .sx a b, env => (evE a env).bind fun p => (evE b p.2).bind fun q => (evSx p.1 q.1).map fun d => (d, q.2)
  | .oix i b, env => match slotAt env i with
    | .own .lst _ _ => (evE b env).bind fun p => match slotAt p.2 i, p.1 with
      | .own .lst _ (.lst ds), .int j => (atD ds j).map fun d => (d, p.2)
      | _, _ => none
    | _ => none
  | .ref _, _ => none
  | .rng es, env => (evL es env).bind fun p => match p.1 with
    | [.int n] => if inR n then some (.lst (rngD 0 n.toNat), p.2) else none
    | [.int lo, .int hi] => if inR lo && inR hi then some (.lst (rngD lo (hi - lo).toNat), p.2) else none
    | _ => none
  | .enm a, env => (evE a env).bind fun p => match p.1 with
    | .lst ds => some (.lst (enmD 0 ds), p.2)
    | .tup ds => some (.lst (enmD 0 ds), p.2)
    | _ => none
  | .seq a, env => (evE a env).bind fun p => match p.1 with
    | .lst ds => some (.lst ds, p.2)
    | .tup ds => some (.lst ds, p.2)
    | _ => none
  | .lc vs t src c elt, env => (evE src env).bind fun p => match p.1 with
    | .lst ds => if noOwn p.2 vs = true then
      (lcGo (t.length == 1) t (fun e => evE c e) (fun e => evE elt e) vs ds (wipeE p.2 vs)).bind fun r => if r.1.length ≤ LIM then some (.lst r.1, backE p.2 r.2 vs) else none
      else none
    | _ => none
def evL : List E → Env → Option (List D × Env)
  | [], env => some ([], env)
  | e :: es, env => (evE e env).bind fun p => (evL es p.2).map fun q => (p.1 :: q.1, q.2)
def evB (and : Bool) : List E → Env → Option (D × Env)
  | [], _ => none
  | e :: es, env => (evE e env).bind fun p => match es.isEmpty with
    | true => some p
    | false => match p.1 with
      | .bl b => if b = and then evB and es p.2 else some (.bl b, p.2)
      | _ => none
def evA : List E → Env → Option (List PArg × Env)
  | [], env => some ([], env)
  | e :: es, env => match asRef e with
    | some i => match slotAt env i with
      | .own .. => (evA es env).map fun q => (.r i :: q.1, q.2)
      | _ => none
    | none => (evE e env).bind fun p => (evA es p.2).map fun q => (.v p.1 :: q.1, q.2)
end
inductive Fl where
  | nx (env : Env)
  | rt (d : D) (env : Env)
/-- a for's turns -/
def forGo (one : Bool) (t : List Nat) (body : Env → Option Fl) : List D → Env → Option Fl
  | [], env => some (.nx env)
  | d :: ds, env => (asgT one t d env).bind fun env1 => (body env1).bind fun f => match f with
    | .nx env2 => forGo one t body ds env2
    | .rt d env2 => some (.rt d env2)
def whGo (c : Env → Option (D × Env)) (b : Env → Option Fl) : Nat → Env → Option Fl
  | 0, _ => none
  | n + 1, env => (c env).bind fun p => match p.1 with
    | .bl true => (b p.2).bind fun f => match f with
      | .nx env2 => whGo c b n env2
      | .rt d env2 => some (.rt d env2)
    | .bl false => some (.nx p.2)
    | _ => none
mutual
def evS : S → Env → Option Fl
  | .asg t e, env => (evE G Φ e env).bind fun p => (asgT false t p.1 p.2).map .nx
  | .asg1 i e, env => (evE G Φ e env).bind fun p => (setV p.2 i p.1).map .nx
  | .par is es, env => (evL G Φ es env).bind fun p => if is.Nodup then (setVs is p.1 p.2).map .nx else none
  | .own i e, env => (evE G Φ e env).bind fun p => match p.1 with
    | .lst ds => if i < p.2.length then some (.nx (p.2.set i (.own .lst false (.lst ds)))) else none
    | _ => none
  | .oset i ix e, env => (evE G Φ e env).bind fun p => match slotAt p.2 i with
    | .own .lst _ _ => (evE G Φ ix p.2).bind fun q => match slotAt q.2 i, q.1 with
      | .own .lst fix (.lst ds), .int k => (ixN ds.length k).bind fun j => if i < q.2.length then some (.nx (q.2.set i (.own .lst fix (.lst (ds.set j p.1))))) else none
      | _, _ => none
    | _ => none
  | .app i e, env => match slotAt env i with
    | .own .lst _ _ => (evE G Φ e env).bind fun p => match slotAt p.2 i with
      | .own .lst fix (.lst ds) => if ds.length < LIM ∧ i < p.2.length then some (.nx (p.2.set i (.own .lst fix (.lst (ds ++ [p.1]))))) else none
      | _ => none
    | _ => none
  | .frz i, env => match slotAt env i with
    | .own .lst false d => if i < env.length then some (.nx (env.set i (.val d))) else none
    | _ => none
  | .ex e, env => (evE G Φ e env).map fun p => .nx p.2
  | .ife c a b, env => (evE G Φ c env).bind fun p => match p.1 with
    | .bl true => evSs a p.2
    | .bl false => evSs b p.2
    | _ => none
  | .for_ t one src body, env => (evE G Φ src env).bind fun p => match p.1 with
    | .lst ds => forGo one t (fun e => evSs body e) ds p.2
    | _ => none
  | .whl n c body, env => whGo (fun e => evE G Φ c e) (fun e => evSs body e) n env
  | .ret e, env => (evE G Φ e env).map fun p => .rt p.1 p.2
  | .retN, env => some (.rt .non env)
  | .never, _ => none
def evSs : List S → Env → Option Fl
  | [], env => some (.nx env)
  | s :: ss, env => (evS s env).bind fun f => match f with
    | .nx env' => evSs ss env'
    | .rt d env' => some (.rt d env')
end

/-! ### a def's worth -/
def argSlot : Arg → Slot
  | .v d => .val d
  | .o k d => .own k true d
/-- the parameters' slots at the start; n slots in all -/
def startE (as : List Arg) (n : Nat) : Env := as.map argSlot ++ List.replicate (n - as.length) .none
/-- what the owned arguments hold behind a call -/
def outs : List Arg → Nat → Env → Option (List Arg)
  | [], _, _ => some []
  | .v d :: r, i, env => (outs r (i + 1) env).map (.v d :: ·)
  | .o k _ :: r, i, env => match slotAt env i with
    | .own k' true d' => if k' = k then (outs r (i + 1) env).map (.o k d' :: ·) else none
    | _ => none
def runF (n : Nat) (body : List S) (as : List Arg) : Option (D × List Arg) := (evSs G Φ body (startE as n)).bind fun f => match f with
  | .nx env => (outs as 0 env).map fun o => (.non, o)
  | .rt d env => (outs as 0 env).map fun o => (d, o)
end Sb

/-! Sb.Chk: does a text say what a term of the small tongue says? -/
namespace Sb
open PySem L2

structure SC where
  N : List Str
  names : List (Str × NameKind)
  /-- a def's own body (cells may be stored), not a comprehension's -/
  cs : Bool
  fns : List Str
  ari : List Nat
  glo : List Str
  blt : List Str

def vis (C : SC) (x : Str) : Bool := match C.names.lookup x with
  | some .local => true
  | some .cell => true
  | some .free => true
  | _ => false
def isGl (C : SC) (x : Str) : Bool := match C.names.lookup x with
  | some .globalImplicit => true
  | _ => false
/-- a name that may be stored -/
def sto (C : SC) (x : Str) : Bool := match C.names.lookup x with
  | some .local => true
  | some .cell => C.cs
  | _ => false
def loc (C : SC) (x : Str) : Bool := match C.names.lookup x with
  | some .local => true
  | _ => false
def noDbg (x : Str) : Bool := !(x == ("__debug__" : Str)) && !(x == ("__classdict__" : Str)) && !(x == ("__name__" : Str))
def slotIs (C : SC) (i : Nat) (x : Str) : Bool := decide (C.N[i]? = some x)
def nmV (C : SC) (i : Nat) : Expr → Bool
  | .Name x _ => slotIs C i x && vis C x && noDbg x
  | _ => false
def nmS (C : SC) (i : Nat) : Expr → Bool
  | .Name x _ => slotIs C i x && sto C x
  | _ => false
def nmSs (C : SC) : List Nat → List Expr → Bool
  | [], [] => true
  | i :: is, e :: es => nmS C i e && nmSs C is es
  | _, _ => false
def nmL (C : SC) (i : Nat) : Expr → Bool
  | .Name x _ => slotIs C i x && loc C x
  | _ => false
def nmLs (C : SC) : List Nat → List Expr → Bool
  | [], [] => true
  | i :: is, e :: es => nmL C i e && nmLs C is es
  | _, _ => false
def isB (C : SC) (x y : Str) : Bool := decide (x = y) && isGl C x && decide (x ∈ C.blt)

def bopOf : Bop → Operator
  | .add => .Add | .sub => .Sub | .mul => .Mult | .fdiv => .FloorDiv | .mod => .Mod | .pow => .Pow | .xor => .BitXor
def copOf : Cop → CmpOp
  | .eq => .Eq | .ne => .NotEq | .lt => .Lt | .le => .LtE | .gt => .Gt | .ge => .GtE | .isin => .In | .notin => .NotIn
def biName : Bi → Str
  | .len => "len" | .min => "min" | .max => "max" | .sum => "sum" | .sorted => "sorted" | .abs => "abs" | .all => "all" | .int => "int" | .tuple => "tuple" | .list => "list"
def mtName : Mt → Str
  | .count => "count"
def kiName : Ki → Str
  | .int => "int" | .bool => "bool" | .tuple => "tuple" | .list => "list" | .str => "str"

def noIfe : E → Bool
  | .ife .. => false
  | _ => true
def isSrc : E → Bool
  | .rng _ => true
  | .enm _ => true
  | .seq _ => true
  | _ => false
def isLc : E → Bool
  | .lc .. => true
  | _ => false
/-- the names of a comprehension's block, as they run -/
def relN (names : List (Str × NameKind)) (outer : List (Str × NameKind)) : List (Str × NameKind) :=
  names.map fun (n, k) => if (k == NameKind.free && true && outer.lookup n == some .cell) then (n, NameKind.cell) else (n, k)
def blkSC (C : SC) (sc : Scope) : SC := { C with names := relN sc.names C.names, cs := false }
def scOf (C : SC) : Scope := { kind := .function, names := C.names, isGenerator := false, isCoroutine := false }
/-- enumerate's target is a tuple -/
def enTg : E → Expr → Bool
  | .enm _, .Tuple .. => true
  | .enm _, _ => false
  | _, _ => true
/-- not f() -/
def noC0 : Expr → Bool
  | .Call (.Name _ _) [] [] _ => false
  | _ => true
def isNone : Expr → Bool
  | .Constant .none _ _ => true
  | _ => false
/-- the targets' names: one, or a tuple of them -/
def tgt (C : SC) (one : Bool) (t : List Nat) : Expr → Bool
  | .Tuple es _ _ => !one && nmSs C t es
  | e => one && (match t with | [i] => nmS C i e | _ => false)

mutual
def chkE (C : SC) : E → Expr → Bool
  | .var i, e => nmV C i e
  | .int i, e => match e with | .Constant (.int j) _ _ => decide (i = j) | _ => false
  | .bl b, e => match e with | .Constant (.bool c) _ _ => b == c | _ => false
  | .non, e => isNone e
  | .str s, e => match e with | .Constant (.str t) _ _ => decide (s = t) | _ => false
  | .glo g, e => match e with | .Name x _ => decide (C.glo[g]? = some x) && isGl C x && noDbg x | _ => false
  | .op o a b, e => match e with | .BinOp x p y _ => decide (bopOf o = p) && chkE C a x && chkE C b y | _ => false
  | .neg a, e => match e with | .UnaryOp .USub x _ => chkE C a x | _ => false
  | .cmp o a b, e => match e with | .Compare x [p] [y] _ => decide (copOf o = p) && chkE C a x && chkE C b y | _ => false
  | .cmp2 o o' a b c, e => match e with | .Compare x [p, p'] [y, z] _ => decide (copOf o = p) && decide (copOf o' = p') && chkE C a x && chkE C b y && chkE C c z | _ => false
  | .isN neg a, e => match e with | .Compare x [p] [y] _ => (match p with | .Is => !neg | .IsNot => neg | _ => false) && isNone y && chkE C a x | _ => false
  | .bop and es, e => match e with | .BoolOp p xs _ => (match p with | .And => and | .Or => !and) && chkEs C es xs && es.all noIfe | _ => false
  | .not a, e => match e with | .UnaryOp .Not x _ => chkE C a x && noIfe a | _ => false
  | .ife c a b, e => match e with | .IfExp x y z _ => chkE C c x && chkE C a y && chkE C b z && noIfe c | _ => false
  | .tup es, e => match e with | .Tuple xs _ _ => chkEs C es xs | _ => false
  | .lst es, e => match e with | .List xs _ => chkEs C es xs | _ => false
  | .ix a b, e => match e with | .Subscript x y _ => chkE C a x && chkE C b y | _ => false
  | .call f es, e => match e with | .Call (.Name x _) xs [] _ => decide (C.fns[f]? = some x) && decide (C.ari[f]? = some es.length) && isGl C x && noDbg x && chkAs C es xs | _ => false
  | .bi b es, e => match e with | .Call (.Name x _) (y :: xs) [] _ => isB C x (biName b) && chkEs C es (y :: xs) | _ => false
  | .mt m a es, e => match e with | .Call (.Attribute x y ap) (z :: xs) [] cp => decide (y = mtName m) && (ap.endLine == cp.line) && noC0 x && decide (xs.length < 20) && chkE C a x && chkEs C es (z :: xs) | _ => false
  | .isi k a, e => match e with | .Call (.Name x _) [y, .Name z _] [] _ => isB C x "isinstance" && isB C z (kiName k) && chkE C a y | _ => false
  | .sx a b, e => match e with
    | .Call (.Name x _) [.BinOp (.Call (.Name y _) [u] [] _) .BitXor (.Call (.Name z _) [v] [] _) _] [] _ => isB C x "sorted" && isB C y "set" && isB C z "set" && chkE C a u && chkE C b v
    | _ => false
  | .oix i b, e => match e with | .Subscript x y _ => nmV C i x && chkE C b y | _ => false
  | .ref _, _ => false
  | .rng _, _ => false
  | .enm _, _ => false
  | .seq _, _ => false
  | .lc vs t src c elt, e => match e with
    | .ListComp x [⟨tg, it, ifs, 0⟩] sc _ => decide (vs.Nodup) && blkC C.N (scOf C) sc ((vs.map fun i => C.N.getD i Str.empty).zip vs) && (vs.all fun i => decide (i < C.N.length)) && (t.all fun i => vs.contains i) && isSrc src && noIfe c &&
      chkSrc C src it && enTg src tg && tgt (blkSC C sc) (t.length == 1) t tg && (match ifs with | [] => (match c with | .bl true => true | _ => false) | [y] => chkE (blkSC C sc) c y | _ => false) && chkE (blkSC C sc) elt x
    | _ => false
def chkEs (C : SC) : List E → List Expr → Bool
  | [], xs => xs.isEmpty
  | e :: es, xs => match xs with | x :: r => chkE C e x && chkEs C es r | [] => false
/-- the arguments of a call -/
def chkAs (C : SC) : List E → List Expr → Bool
  | [], xs => xs.isEmpty
  | e :: es, xs => match xs with
    | x :: r => (match asRef e with | some i => nmV C i x | none => chkE C e x) && chkAs C es r
    | [] => false
def chkSrc (C : SC) : E → Expr → Bool
  | .rng es, e => match e with | .Call (.Name x _) xs [] _ => isB C x "range" && chkEs C es xs && (es.length == 1 || es.length == 2) | _ => false
  | .enm a, e => match e with | .Call (.Name x _) [y] [] _ => isB C x "enumerate" && chkE C a y | _ => false
  | .seq a, e => chkE C a e
  | _, _ => false
end
/-- the names that are stored from the right, in a def's body -/
def swapM (C : SC) (tg v : Expr) : Option (Option (List Str)) :=
  match tg, v with
  | .Tuple ts _ _, .Tuple vs _ _ =>
    if !(ts.length == 2 || ts.length == 3) || vs.length != ts.length then some none
    else if vs.any fun | .Starred .. => true | _ => false then some none
    else if (ts.filterMap fun
        | .Name id pos => if C.names.lookup id == some .local && pos.line == (ts.head?.map (·.pos.line)).getD 0 then some id else none
        | _ => none).length != ts.length || (ts.filterMap fun
        | .Name id pos => if C.names.lookup id == some .local && pos.line == (ts.head?.map (·.pos.line)).getD 0 then some id else none
        | _ => none).eraseDups.length != (ts.filterMap fun
        | .Name id pos => if C.names.lookup id == some .local && pos.line == (ts.head?.map (·.pos.line)).getD 0 then some id else none
        | _ => none).length then some none
    else if vs.all (foldedForSure 8) then some none
    else if vs.all (constantsAlone 8) then none
    else some (some (ts.filterMap fun
        | .Name id pos => if C.names.lookup id == some .local && pos.line == (ts.head?.map (·.pos.line)).getD 0 then some id else none
        | _ => none))
  | .List .., _ => none
  | _, _ => some none
def nmOf : Expr → Str
  | .Name x _ => x
  | _ => Str.empty
/-- a comprehension under a name's store swaps -/
def swapLc (C : SC) (x : Str) (p : Pos) (v : Expr) : Bool := match v with
  | .ListComp _ _ sc q => C.names.lookup x == some .local && p.line == q.line && !(sc.names.any fun (n, k) => n == x && (k == .local || k == .cell))
  | _ => false
mutual
def chkS (C : SC) : S → Stmt → Bool
  | .asg t e, s => match s with | .Assign [.Tuple ts k p] v _ => nmSs C t ts && chkE C e v && !isLc e && (match swapM C (.Tuple ts k p) v with | some none => true | _ => false) | _ => false
  | .asg1 i e, s => match s with | .Assign [.Name x p] v _ => nmS C i (.Name x p) && chkE C e v && (!isLc e || swapLc C x p v) | _ => false
  | .par is es, s => match s with
    | .Assign [.Tuple ts k p] (.Tuple vs k2 p2) _ => nmLs C is ts && chkEs C es vs && (ts.length == 2 || ts.length == 3) && vs.length == ts.length && decide (swapM C (.Tuple ts k p) (.Tuple vs k2 p2) = some (some (ts.map nmOf))) && decide is.Nodup
    | _ => false
  | .own i e, s => match s with | .Assign [.Name x p] v _ => nmS C i (.Name x p) && chkE C e v && ((match e with | .lst _ => true | _ => false) || (isLc e && swapLc C x p v)) | _ => false
  | .oset i ix e, s => match s with | .Assign [.Subscript (.Name x p) y _] v _ => nmV C i (.Name x p) && chkE C ix y && chkE C e v && !isLc e | _ => false
  | .app i e, s => match s with | .Expr (.Call (.Attribute (.Name x p) m ap) [y] [] cp) _ => nmV C i (.Name x p) && decide (m = ("append" : Str)) && (ap.endLine == cp.line) && chkE C e y | _ => false
  | .frz _, _ => false
  | .ex e, s => match s with | .Expr v _ => chkE C e v && !isLc e | _ => false
  | .ife c a b, s => match s with | .If x y z _ => chkE C c x && noIfe c && chkSs C a y && chkSs C b z | _ => false
  | .for_ t one src body, s => match s with | .For tg it b [] _ => isSrc src && chkSrc C src it && enTg src tg && tgt C one t tg && chkSs C body b | _ => false
  | .whl _ c body, s => match s with | .While x b [] _ => chkE C c x && noIfe c && chkSs C body b | _ => false
  | .ret e, s => match s with | .Return (some v) _ => chkE C e v | _ => false
  | .retN, s => match s with | .Return none _ => true | _ => false
  | .never, _ => true
def chkSs (C : SC) : List S → List Stmt → Bool
  | [], xs => xs.isEmpty
  | s :: ss, xs => match s with
    | .frz i => chkSs C ss xs
    | _ => match xs with | x :: r => chkS C s x && chkSs C ss r | [] => false
end
end Sb

/-! Sb.Ops: operators, built-ins and methods upon plain data. -/
namespace Sb
open PySem PySem.Spec PyProof.Rows L2

def PR1 (K : PySem.W.Frag) (sem : D → Option D) : V → Hp → VK → Prop := fun x H Q => ∃ F d1 d, Same F H ∧ Rep K F d1 x ∧ sem d1 = some d ∧ ∀ v F' H', PX F H F' H' → Rep K F' d v → Q v H'
def PR2 (K : PySem.W.Frag) (sem : D → D → Option D) : R2 := fun x y H Q => ∃ F d1 d2 d, Same F H ∧ Rep K F d1 x ∧ Rep K F d2 y ∧ sem d1 d2 = some d ∧ ∀ v F' H', PX F H F' H' → Rep K F' d v → Q v H'
def PRn (K : PySem.W.Frag) (sem : List D → Option D) : List V → Hp → VK → Prop := fun xs H Q => ∃ F ds d, Same F H ∧ RepL K F ds xs ∧ sem ds = some d ∧ ∀ v F' H', PX F H F' H' → Rep K F' d v → Q v H'
def PRm (K : PySem.W.Frag) (sem : D → List D → Option D) : V → List V → Hp → VK → Prop := fun x xs H Q => ∃ F d1 ds d, Same F H ∧ Rep K F d1 x ∧ RepL K F ds xs ∧ sem d1 ds = some d ∧ ∀ v F' H', PX F H F' H' → Rep K F' d v → Q v H'

section
variable {K : PySem.W.Frag} {F H : Hp}
theorem rep_int {i : Int} {v : V} : Rep K F (.int i) v ↔ v = .int i := Iff.rfl
theorem rep_bl {i : Bool} {v : V} : Rep K F (.bl i) v ↔ v = .bl i := Iff.rfl
theorem rep_str {i : Str} {v : V} : Rep K F (.str i) v ↔ v = .str i := Iff.rfl
theorem rep_non {v : V} : Rep K F .non v ↔ v = .non := Iff.rfl
theorem rep_tup {ds : List D} {v : V} : Rep K F (.tup ds) v ↔ ∃ (a : Addr) (vs : List V), v = .ref a ∧ SqT K F a vs ∧ RepL K F ds vs := by
  unfold RepL; rw [Rep]
theorem rep_lst {ds : List D} {v : V} : Rep K F (.lst ds) v ↔ ∃ (a : Addr) (vs : List V), v = .ref a ∧ F a = some (.lst vs) ∧ RepL K F ds vs := by
  unfold RepL; rw [Rep]
theorem rep_scr {ns : List Int} {v : V} : Rep K F (.scr ns) v ↔ ∃ a : Addr, v = .ref a ∧ SqL K F a (ns.map V.int) := by rw [Rep]
theorem lim_line {n : Nat} (h : n ≤ LIM) : n ≤ sizeLine := Nat.le_trans h (by rw [sizeLine_eq]; decide)
/-- a new list, frozen -/
theorem new_lst {p : Addr} {ds : List D} {vs : List V} (s : Same F H) (h : H p = none) (r : RepL K F ds vs) : PX F H (upd F p (.lst vs)) (upd H p (.lst vs)) ∧ Rep K (upd F p (.lst vs)) (.lst ds) (.ref p) :=
  ⟨PX.new s h, rep_lst.mpr ⟨p, vs, rfl, upd_same, RepL.mono (same_new (s.free h)) _ _ r⟩⟩
theorem new_tup {p : Addr} {ds : List D} {vs : List V} (s : Same F H) (h : H p = none) (r : RepL K F ds vs) : PX F H (upd F p (.tup vs)) (upd H p (.tup vs)) ∧ Rep K (upd F p (.tup vs)) (.tup ds) (.ref p) :=
  ⟨PX.new s h, rep_tup.mpr ⟨p, vs, rfl, SqT.of upd_same, RepL.mono (same_new (s.free h)) _ _ r⟩⟩
theorem RepL.nil_iff {ds : List D} {vs : List V} (r : RepL K F ds vs) : vs = [] ↔ ds = [] := by
  have h := r.length
  constructor
  · rintro rfl; cases ds with
    | nil => rfl
    | cons _ _ => simp at h
  · rintro rfl; exact repL_nil.mp r
/-- the flat ones are told by their values -/
theorem flat_rep {d : D} {v x : V} (h : flat d = some v) (r : Rep K F d x) : x = v ∧ flatV v = true := by
  cases d with
  | non => cases h; exact ⟨r, rfl⟩
  | bl b => cases h; exact ⟨r, rfl⟩
  | int i => cases h; exact ⟨r, rfl⟩
  | str s => cases h; exact ⟨r, rfl⟩
  | _ => cases h
theorem flats_rep : ∀ {ds : List D} {vs xs : List V}, flats ds = some vs → RepL K F ds xs → xs = vs ∧ vs.all flatV = true
  | [], vs, xs, h, r => by cases h; exact ⟨repL_nil.mp r, rfl⟩
  | d :: ds, vs, xs, h, r => by
    obtain ⟨x, r', rfl, h1, h2⟩ := repL_cons.mp r
    rw [flats] at h
    cases q : flat d with
    | none => rw [q] at h; cases h
    | some v =>
      rw [q] at h
      cases q2 : flats ds with
      | none => rw [q2] at h; cases h
      | some ws =>
        rw [q2] at h; cases h
        obtain ⟨e1, f1⟩ := flat_rep q h1
        obtain ⟨e2, f2⟩ := flats_rep q2 h2
        subst e1 e2
        exact ⟨rfl, by rw [List.all_cons, f1, f2]; rfl⟩
mutual
theorem rep_dp : ∀ (d : D) (v : V), Rep K F d v → Same F H → Dp K H v (toPy d)
  | .non, _, h, _ => by cases h; exact .non
  | .bl _, _, h, _ => by cases h; exact .bl _
  | .int _, _, h, _ => by cases h; exact .int _
  | .str _, _, h, _ => by cases h; exact .str _
  | .tup ds, _, h, s => by
    obtain ⟨a, vs, rfl, h2, h3⟩ := rep_tup.mp h
    rw [toPy]
    exact .tup (Same.seqT s h2) (repL_dp ds vs h3 s)
  | .lst ds, _, h, s => by
    obtain ⟨a, vs, rfl, h2, h3⟩ := rep_lst.mp h
    rw [toPy]
    exact .lst (SqL.of (s _ _ h2)) (repL_dp ds vs h3 s)
  | .scr ns, _, h, s => by
    obtain ⟨a, rfl, h2⟩ := rep_scr.mp h
    rw [toPy]
    refine .lst (s.seq h2) ?_
    clear h2 h
    induction ns with
    | nil => exact .nil
    | cons n r ih => exact .cons (.int n) ih
theorem repL_dp : ∀ (ds : List D) (vs : List V), RepL K F ds vs → Same F H → DpAll K H vs (toPys ds)
  | [], _, h, _ => by rw [repL_nil.mp h]; exact .nil
  | d :: ds, _, h, s => by
    obtain ⟨v, r, rfl, h1, h2⟩ := repL_cons.mp h
    exact .cons (rep_dp d v h1 s) (repL_dp ds r h2 s)
end
end

section
variable {X : Cx}
theorem opOk (o : Bop) : OpR X (binaryOp (bopOf o)) (PR2 X.K (evOp o)) := by
  intro pins s σ H x y v u Q I rx ry h
  obtain ⟨F, d1, d2, d, sF, r1, r2, e, q⟩ := h
  unfold evOp at e
  split at e
  · cases e; rw [rep_int] at r1 r2; subst r1 r2
    exact op_add pins s σ H _ _ v u Q I rx ry ⟨_, _, rfl, rfl, q _ F H (PX.refl sF) rfl⟩
  · split at e
    · rename_i hz
      cases e
      obtain ⟨a, vs, rfl, ha, ra⟩ := rep_tup.mp r1
      obtain ⟨b, ws, rfl, hb, rb⟩ := rep_tup.mp r2
      refine op_catA pins s σ H _ _ v u Q I rx ry ⟨a, b, vs, ws, rfl, rfl, Same.seqT sF ha, Same.seqT sF hb, lim_line (by rw [ra.length, rb.length]; exact hz), fun e1 => ?_, fun e1 e2 => ?_, fun _ _ p hp => ?_⟩
      · rw [ra.nil_iff] at e1; subst e1
        exact q _ F H (PX.refl sF) r2
      · rw [rb.nil_iff] at e2; subst e2
        rw [List.append_nil] at q
        exact q _ F H (PX.refl sF) r1
      · obtain ⟨px, r⟩ := new_tup sF hp (ra.append rb)
        exact q _ _ _ px r
    · cases e
  · split at e
    · rename_i hz
      cases e
      obtain ⟨a, vs, rfl, ha, ra⟩ := rep_lst.mp r1
      obtain ⟨b, ws, rfl, hb, rb⟩ := rep_lst.mp r2
      refine op_cat pins s σ H _ _ v u Q I rx ry ⟨a, b, vs, ws, rfl, rfl, sF _ _ ha, sF _ _ hb, lim_line (by rw [ra.length, rb.length]; exact hz), fun p hp => ?_⟩
      obtain ⟨px, r⟩ := new_lst sF hp (ra.append rb)
      exact q _ _ _ px r
    · cases e
  · cases e; rw [rep_int] at r1 r2; subst r1 r2
    exact op_sub pins s σ H _ _ v u Q I rx ry ⟨_, _, rfl, rfl, q _ F H (PX.refl sF) rfl⟩
  · split at e
    · rename_i hz
      cases e; rw [rep_int] at r1 r2; subst r1 r2
      exact op_mul pins s σ H _ _ v u Q I rx ry ⟨_, _, rfl, rfl, hz.imp of_decide_eq_true of_decide_eq_true, q _ F H (PX.refl sF) rfl⟩
    · cases e
  · rename_i ds k
    unfold repn at e
    split at e
    · rename_i hz
      cases e; rw [rep_int] at r2; subst r2
      obtain ⟨a, vs, rfl, ha, ra⟩ := rep_lst.mp r1
      refine op_rep pins s σ H _ _ v u Q I rx ry ⟨a, k, vs, rfl, rfl, sF _ _ ha, hz.1, hz.2.1, lim_line (by rw [ra.length]; exact hz.2.2), fun p hp => ?_⟩
      obtain ⟨px, r⟩ := new_lst sF hp (ra.rep k.toNat)
      exact q _ _ _ px r
    · cases e
  · split at e
    · rename_i hz
      cases e; rw [rep_int] at r1 r2; subst r1 r2
      exact op_fdiv pins s σ H _ _ v u Q I rx ry ⟨_, _, rfl, rfl, hz, q _ F H (PX.refl sF) rfl⟩
    · cases e
  · split at e
    · rename_i hz
      cases e; rw [rep_int] at r1 r2; subst r1 r2
      exact op_mod pins s σ H _ _ v u Q I rx ry ⟨_, _, rfl, rfl, hz, q _ F H (PX.refl sF) rfl⟩
    · cases e
  · split at e
    · rename_i hz
      cases e; rw [rep_int] at r1 r2; subst r1 r2
      exact op_pow pins s σ H _ _ v u Q I rx ry ⟨_, _, rfl, rfl, hz, q _ F H (PX.refl sF) rfl⟩
    · cases e
  · cases e; rw [rep_int] at r1 r2; subst r1 r2
    exact op_xor pins s σ H _ _ v u Q I rx ry ⟨_, _, rfl, rfl, q _ F H (PX.refl sF) rfl⟩
  · cases e

theorem isIn_of {K : PySem.W.Frag} {F : Hp} {d : D} {ds : List D} {x : V} {vs : List V} {b : Bool} (h : isIn d ds = some b) (r : Rep K F d x) (rs : RepL K F ds vs) : flatV x = true ∧ vs.all flatV = true ∧ inV x vs = b := by
  unfold isIn at h
  cases q : flat d with
  | none => rw [q] at h; cases h
  | some v =>
    rw [q] at h
    cases q2 : flats ds with
    | none => rw [q2] at h; cases h
    | some ws =>
      rw [q2] at h
      obtain ⟨e1, f1⟩ := flat_rep q r
      obtain ⟨e2, f2⟩ := flats_rep q2 rs
      subst e1 e2
      exact ⟨f1, f2, Option.some.inj h⟩
theorem cmpOk (o : Cop) (hu : X.A.units + 64 < cLine) : OpR X (compareOp (copOf o)) (PR2 X.K fun a b => (evCmp o a b).map D.bl) := by
  intro pins s σ H x y v u Q I rx ry h
  obtain ⟨F, d1, d2, d, sF, r1, r2, e, q⟩ := h
  obtain ⟨b, e1, rfl⟩ := Option.map_eq_some_iff.mp e
  clear e
  have e := e1
  clear e1
  unfold evCmp at e
  split at e
  · split at e
    · rename_i hz
      cases e
      exact op_eqD hu pins s σ H _ _ v u Q I rx ry ⟨_, _, rep_dp _ _ r1 sF, rep_dp _ _ r2 sF, hz.1, hz.2, q _ F H (PX.refl sF) rfl⟩
    · cases e
  · split at e
    · rename_i hz
      cases e
      exact op_neD hu pins s σ H _ _ v u Q I rx ry ⟨_, _, rep_dp _ _ r1 sF, rep_dp _ _ r2 sF, hz.1, hz.2, q _ F H (PX.refl sF) rfl⟩
    · cases e
  · cases e; rw [rep_int] at r1 r2; subst r1 r2
    exact op_lt pins s σ H _ _ v u Q I rx ry ⟨_, _, rfl, rfl, q _ F H (PX.refl sF) rfl⟩
  · cases e; rw [rep_int] at r1 r2; subst r1 r2
    exact op_le pins s σ H _ _ v u Q I rx ry ⟨_, _, rfl, rfl, q _ F H (PX.refl sF) rfl⟩
  · cases e; rw [rep_int] at r1 r2; subst r1 r2
    exact op_gt pins s σ H _ _ v u Q I rx ry ⟨_, _, rfl, rfl, q _ F H (PX.refl sF) rfl⟩
  · cases e; rw [rep_int] at r1 r2; subst r1 r2
    exact op_ge pins s σ H _ _ v u Q I rx ry ⟨_, _, rfl, rfl, q _ F H (PX.refl sF) rfl⟩
  · obtain ⟨a, vs, rfl, ha, ra⟩ := rep_tup.mp r2
    obtain ⟨f1, f2, f3⟩ := isIn_of e r1 ra
    subst f3
    exact op_in_seq pins s σ H _ _ v u Q I rx ry ⟨a, vs, rfl, .inr (Same.seqT sF ha), f1, f2, q _ F H (PX.refl sF) rfl⟩
  · obtain ⟨a, vs, rfl, ha, ra⟩ := rep_lst.mp r2
    obtain ⟨f1, f2, f3⟩ := isIn_of e r1 ra
    subst f3
    exact op_in_seq pins s σ H _ _ v u Q I rx ry ⟨a, vs, rfl, .inl (SqL.of (sF _ _ ha)), f1, f2, q _ F H (PX.refl sF) rfl⟩
  · obtain ⟨c, e1, rfl⟩ := Option.map_eq_some_iff.mp e
    clear e
    have e := e1
    clear e1
    obtain ⟨a, vs, rfl, ha, ra⟩ := rep_tup.mp r2
    obtain ⟨f1, f2, f3⟩ := isIn_of e r1 ra
    subst f3
    exact op_notIn_seq pins s σ H _ _ v u Q I rx ry ⟨a, vs, rfl, .inr (Same.seqT sF ha), f1, f2, q _ F H (PX.refl sF) rfl⟩
  · obtain ⟨c, e1, rfl⟩ := Option.map_eq_some_iff.mp e
    clear e
    have e := e1
    clear e1
    obtain ⟨a, vs, rfl, ha, ra⟩ := rep_lst.mp r2
    obtain ⟨f1, f2, f3⟩ := isIn_of e r1 ra
    subst f3
    exact op_notIn_seq pins s σ H _ _ v u Q I rx ry ⟨a, vs, rfl, .inl (SqL.of (sF _ _ ha)), f1, f2, q _ F H (PX.refl sF) rfl⟩
  · cases e
theorem ixOk : IxR X (PR2 X.K evIx) := by
  intro vl sl pins s σ H x y v u Q I rx ry h hs
  obtain ⟨F, d1, d2, d, sF, r1, r2, e, q⟩ := h
  unfold evIx at e
  have key : ∀ {ds : List D} {vs : List V} {i : Int}, RepL X.K F ds vs → atD ds i = some d → ∃ z, atI vs i = some z ∧ Rep X.K F d z := fun {ds vs i} r h => by
    unfold atD atI at h
    unfold atI
    rw [r.length]
    cases q : ixN ds.length i with
    | none => rw [q] at h; cases h
    | some j => rw [q] at h; exact r.get h
  split at e
  · rw [rep_int] at r2; subst r2
    obtain ⟨a, vs, rfl, ha, ra⟩ := rep_tup.mp r1
    obtain ⟨z, hz, rz⟩ := key ra e
    exact ix_tup vl sl pins s σ H _ _ v u Q I rx ry ⟨a, vs, _, z, rfl, rfl, Same.seqT sF ha, hz, q _ F H (PX.refl sF) rz⟩ hs
  · rw [rep_int] at r2; subst r2
    obtain ⟨a, vs, rfl, ha, ra⟩ := rep_lst.mp r1
    obtain ⟨z, hz, rz⟩ := key ra e
    exact ix_list vl sl pins s σ H _ _ v u Q I rx ry ⟨a, vs, _, z, rfl, rfl, SqL.of (sF _ _ ha), hz, q _ F H (PX.refl sF) rz⟩ hs
  · rw [rep_int] at r2; subst r2
    obtain ⟨a, rfl, ha⟩ := rep_scr.mp r1
    obtain ⟨n, e1, rfl⟩ := Option.map_eq_some_iff.mp e
    clear e
    refine ix_list vl sl pins s σ H _ _ v u Q I rx ry ⟨a, _, _, .int n, rfl, rfl, sF.seq ha, ?_, q _ F H (PX.refl sF) rfl⟩ hs
    unfold atI at e1 ⊢
    rw [List.length_map]
    cases z : ixN _ _ with
    | none => rw [z] at e1; cases e1
    | some j =>
      rw [z] at e1
      show (List.map V.int _)[j]? = _
      rw [List.getElem?_map, (show _[j]? = some n from e1)]
      rfl
  · cases e

/-! ### built-ins -/
theorem put_perm (x : Int) : ∀ l : List Int, (putIn x l).Perm (x :: l)
  | [] => List.Perm.refl _
  | y :: r => by
    rw [putIn]
    split
    · exact List.Perm.refl _
    · exact ((put_perm x r).cons y).trans (List.Perm.swap x y r)
theorem put_sorted {x : Int} : ∀ {l : List Int}, l.Pairwise (· ≤ ·) → (putIn x l).Pairwise (· ≤ ·)
  | [], _ => List.pairwise_singleton _ _
  | y :: r, h => by
    rw [putIn]
    have h1 := List.pairwise_cons.mp h
    split
    · rename_i hx
      refine List.pairwise_cons.mpr ⟨fun z hz => ?_, h⟩
      rcases List.mem_cons.mp hz with e | hz
      · omega
      · have := h1.1 z hz; omega
    · rename_i hx
      refine List.pairwise_cons.mpr ⟨fun z hz => ?_, put_sorted h1.2⟩
      rcases List.mem_cons.mp ((put_perm x r).mem_iff.mp hz) with e | hz
      · omega
      · exact h1.1 z hz
theorem sortI_perm : ∀ ns : List Int, (sortI ns).Perm ns
  | [] => List.Perm.refl _
  | n :: r => (put_perm n (sortI r)).trans ((sortI_perm r).cons n)
theorem sortI_sorted : ∀ ns : List Int, (sortI ns).Pairwise (· ≤ ·)
  | [] => List.Pairwise.nil
  | n :: r => put_sorted (sortI_sorted r)
theorem sorted_one : ∀ {l m : List Int}, l.Perm m → l.Pairwise (· ≤ ·) → m.Pairwise (· ≤ ·) → l = m
  | [], m, p, _, _ => (List.nil_perm.mp p).symm
  | x :: l, [], p, _, _ => absurd (List.perm_nil.mp p) (by simp)
  | x :: l, y :: m, p, h1, h2 => by
    have a1 := List.pairwise_cons.mp h1
    have a2 := List.pairwise_cons.mp h2
    have e : x = y := by
      have m1 : x ∈ y :: m := p.mem_iff.mp List.mem_cons_self
      have m2 : y ∈ x :: l := p.mem_iff.mpr List.mem_cons_self
      rcases List.mem_cons.mp m1 with e | m1
      · exact e
      · rcases List.mem_cons.mp m2 with e | m2
        · exact e.symm
        · have := a2.1 x m1
          have := a1.1 y m2
          omega
    subst e
    rw [sorted_one (List.perm_cons x |>.mp p) a1.2 a2.2]
theorem minI_mem : ∀ (m : Int) (r : List Int), minI m r ∈ m :: r ∧ ∀ y ∈ m :: r, minI m r ≤ y
  | m, [] => ⟨List.mem_cons_self, fun y h => by rw [List.mem_singleton.mp h]; exact Int.le_refl _⟩
  | m, x :: r => by
    rw [minI]
    obtain ⟨h1, h2⟩ := minI_mem (if x < m then x else m) r
    refine ⟨?_, fun y hy => ?_⟩
    · rcases List.mem_cons.mp h1 with e | e
      · rw [e]; split <;> simp
      · simp [e]
    · have h3 := h2 (if x < m then x else m) List.mem_cons_self
      rcases List.mem_cons.mp hy with e | hy
      · subst e; split at h3 <;> split <;> omega
      · rcases List.mem_cons.mp hy with e | hy
        · subst e; split at h3 <;> split <;> omega
        · exact h2 y (List.mem_cons_of_mem _ hy)
theorem maxI_mem : ∀ (m : Int) (r : List Int), maxI m r ∈ m :: r ∧ ∀ y ∈ m :: r, y ≤ maxI m r
  | m, [] => ⟨List.mem_cons_self, fun y h => by rw [List.mem_singleton.mp h]; exact Int.le_refl _⟩
  | m, x :: r => by
    rw [maxI]
    obtain ⟨h1, h2⟩ := maxI_mem (if m < x then x else m) r
    refine ⟨?_, fun y hy => ?_⟩
    · rcases List.mem_cons.mp h1 with e | e
      · rw [e]; split <;> simp
      · simp [e]
    · have h3 := h2 (if m < x then x else m) List.mem_cons_self
      rcases List.mem_cons.mp hy with e | hy
      · subst e; split at h3 <;> split <;> omega
      · rcases List.mem_cons.mp hy with e | hy
        · subst e; split at h3 <;> split <;> omega
        · exact h2 y (List.mem_cons_of_mem _ hy)
def biVal : Bi → Value
  | .len => .builtin "len" | .min => .builtin "min" | .max => .builtin "max" | .sum => .builtin "sum" | .sorted => .builtin "sorted" | .abs => .builtin "abs" | .all => .builtin "all"
  | .int => .type "int" | .tuple => .type "tuple" | .list => .type "list"
theorem repL_one {K : PySem.W.Frag} {F : Hp} {d : D} {xs : List V} (h : RepL K F [d] xs) : ∃ x, xs = [x] ∧ Rep K F d x := by
  obtain ⟨v, r, rfl, h1, h2⟩ := repL_cons.mp h
  rw [repL_nil.mp h2]
  exact ⟨v, rfl, h1⟩
theorem repL_two {K : PySem.W.Frag} {F : Hp} {d e : D} {xs : List V} (h : RepL K F [d, e] xs) : ∃ x y, xs = [x, y] ∧ Rep K F d x ∧ Rep K F e y := by
  obtain ⟨v, r, rfl, h1, h2⟩ := repL_cons.mp h
  obtain ⟨y, rfl, h3⟩ := repL_one h2
  exact ⟨v, y, rfl, h1, h3⟩
theorem repL_bls {K : PySem.W.Frag} {F : Hp} : ∀ {bs : List Bool} {vs : List V}, RepL K F (bs.map D.bl) vs → vs = bs.map V.bl
  | [], vs, h => repL_nil.mp h
  | b :: bs, vs, h => by
    obtain ⟨v, r, rfl, h1, h2⟩ := repL_cons.mp h
    have h1 : v = V.bl b := h1
    rw [h1, repL_bls h2]; rfl
theorem biOk (b : Bi) (hc : X.calm = true) : CallR X (biVal b) (PRn X.K (evBi b)) := by
  intro pins s σ H xs us Q I r h
  obtain ⟨F, ds, d, sF, rs, e, q⟩ := h
  unfold evBi at e
  split at e
  · cases e
    obtain ⟨x, rfl, rx⟩ := repL_one rs
    obtain ⟨a, vs, rfl, ha, ra⟩ := rep_tup.mp rx
    refine call_len_seq pins s σ H _ us Q I r ⟨a, vs, rfl, .inr (Same.seqT sF ha), ?_⟩
    rw [ra.length]; exact q _ F H (PX.refl sF) rfl
  · cases e
    obtain ⟨x, rfl, rx⟩ := repL_one rs
    obtain ⟨a, vs, rfl, ha, ra⟩ := rep_lst.mp rx
    refine call_len_seq pins s σ H _ us Q I r ⟨a, vs, rfl, .inl (SqL.of (sF _ _ ha)), ?_⟩
    rw [ra.length]; exact q _ F H (PX.refl sF) rfl
  · cases e
    obtain ⟨x, rfl, rx⟩ := repL_one rs
    obtain ⟨a, rfl, ha⟩ := rep_scr.mp rx
    refine call_len_seq pins s σ H _ us Q I r ⟨a, _, rfl, .inl (sF.seq ha), ?_⟩
    rw [List.length_map]; exact q _ F H (PX.refl sF) rfl
  · split at e
    · rename_i hz
      cases e
      obtain ⟨x, rfl, rx⟩ := repL_one rs
      cases rx
      exact call_len_str pins s σ H _ us Q I r ⟨_, rfl, lim_line hz, q _ F H (PX.refl sF) rfl⟩
    · cases e
  · cases e
    obtain ⟨x, y, rfl, rx, ry⟩ := repL_two rs
    cases rx; cases ry
    exact call_min2 hc pins s σ H _ us Q I r ⟨_, _, rfl, q _ F H (PX.refl sF) rfl⟩
  · cases e
    obtain ⟨x, y, rfl, rx, ry⟩ := repL_two rs
    cases rx; cases ry
    exact call_max2 hc pins s σ H _ us Q I r ⟨_, _, rfl, q _ F H (PX.refl sF) rfl⟩
  · obtain ⟨ns, e1, e2⟩ := Option.bind_eq_some_iff.mp e
    clear e
    have e := e2
    clear e2
    have := toInts_of e1
    subst this
    obtain ⟨x, rfl, rx⟩ := repL_one rs
    obtain ⟨a, vs, rfl, ha, ra⟩ := rep_lst.mp rx
    have := RepL.ints.mp ra
    subst this
    cases ns with
    | nil => cases e
    | cons m t =>
      cases e
      refine cr_min hc pins s σ H _ us Q I r ⟨a, _, rfl, SqL.of (sF _ _ ha), by simp, fun z hz hl => ?_⟩
      obtain ⟨h1, h2⟩ := minI_mem m t
      have : z = minI m t := by have := h2 z hz; have := hl _ h1; omega
      rw [this]; exact q _ F H (PX.refl sF) rfl
  · obtain ⟨ns, e1, e2⟩ := Option.bind_eq_some_iff.mp e
    clear e
    have e := e2
    clear e2
    have := toInts_of e1
    subst this
    obtain ⟨x, rfl, rx⟩ := repL_one rs
    obtain ⟨a, vs, rfl, ha, ra⟩ := rep_lst.mp rx
    have := RepL.ints.mp ra
    subst this
    cases ns with
    | nil => cases e
    | cons m t =>
      cases e
      refine cr_max hc pins s σ H _ us Q I r ⟨a, _, rfl, SqL.of (sF _ _ ha), by simp, fun z hz hl => ?_⟩
      obtain ⟨h1, h2⟩ := maxI_mem m t
      have : z = maxI m t := by have := h2 z hz; have := hl _ h1; omega
      rw [this]; exact q _ F H (PX.refl sF) rfl
  · obtain ⟨ns, e1, rfl⟩ := Option.map_eq_some_iff.mp e
    have := toInts_of e1
    subst this
    obtain ⟨x, rfl, rx⟩ := repL_one rs
    obtain ⟨a, vs, rfl, ha, ra⟩ := rep_lst.mp rx
    have := RepL.ints.mp ra
    subst this
    exact cr_sum hc pins s σ H _ us Q I r ⟨a, _, rfl, SqL.of (sF _ _ ha), q _ F H (PX.refl sF) rfl⟩
  · obtain ⟨ns, e1, e2⟩ := Option.bind_eq_some_iff.mp e
    clear e
    have e := e2
    clear e2
    have := toInts_of e1
    subst this
    obtain ⟨x, rfl, rx⟩ := repL_one rs
    obtain ⟨a, vs, rfl, ha, ra⟩ := rep_lst.mp rx
    have := RepL.ints.mp ra
    subst this
    split at e
    · rename_i hz
      cases e
      refine cr_sorted pins s σ H _ us Q I r ⟨a, _, rfl, SqL.of (sF _ _ ha), hz, fun ns' p hp hs hn => ?_⟩
      have : ns' = sortI ns := sorted_one (hp.trans (sortI_perm ns).symm) hs (sortI_sorted ns)
      subst this
      obtain ⟨px, r'⟩ := new_lst (K := X.K) (ds := (sortI ns).map D.int) sF hn (RepL.ints.mpr rfl)
      exact q _ _ _ px r'
    · cases e
  · cases e
    obtain ⟨x, rfl, rx⟩ := repL_one rs
    cases rx
    exact call_abs pins s σ H _ us Q I r ⟨_, rfl, q _ F H (PX.refl sF) rfl⟩
  · obtain ⟨ns, e1, rfl⟩ := Option.map_eq_some_iff.mp e
    have := toBls_of e1
    subst this
    obtain ⟨x, rfl, rx⟩ := repL_one rs
    obtain ⟨a, vs, rfl, ha, ra⟩ := rep_lst.mp rx
    have := repL_bls ra
    subst this
    exact cr_all hc pins s σ H _ us Q I r ⟨a, _, rfl, SqL.of (sF _ _ ha), q _ F H (PX.refl sF) rfl⟩
  · cases e
    obtain ⟨x, rfl, rx⟩ := repL_one rs
    cases rx
    exact call_int1 pins s σ H _ us Q I r (.inl ⟨_, rfl, q _ F H (PX.refl sF) rfl⟩)
  · cases e
    obtain ⟨x, rfl, rx⟩ := repL_one rs
    cases rx
    exact call_int1 pins s σ H _ us Q I r (.inr ⟨_, rfl, q _ F H (PX.refl sF) rfl⟩)
  · cases e
    obtain ⟨x, rfl, rx⟩ := repL_one rs
    obtain ⟨a, vs, rfl, ha, ra⟩ := rep_tup.mp rx
    exact call_tuple_of pins s σ H _ us Q I r ⟨a, vs, rfl, .inr ⟨Same.seqT sF ha, q _ F H (PX.refl sF) rx⟩⟩
  · cases e
    obtain ⟨x, rfl, rx⟩ := repL_one rs
    obtain ⟨a, vs, rfl, ha, ra⟩ := rep_lst.mp rx
    refine call_tuple_of pins s σ H _ us Q I r ⟨a, vs, rfl, .inl ⟨SqL.of (sF _ _ ha), fun p hp => ?_⟩⟩
    obtain ⟨px, r'⟩ := new_tup sF hp ra
    exact q _ _ _ px r'
  · cases e
    obtain ⟨x, rfl, rx⟩ := repL_one rs
    obtain ⟨a, vs, rfl, ha, ra⟩ := rep_tup.mp rx
    refine call_list_of pins s σ H _ us Q I r ⟨a, vs, rfl, .inr (Same.seqT sF ha), fun p hp => ?_⟩
    obtain ⟨px, r'⟩ := new_lst sF hp ra
    exact q _ _ _ px r'
  · cases e
    obtain ⟨x, rfl, rx⟩ := repL_one rs
    obtain ⟨a, vs, rfl, ha, ra⟩ := rep_lst.mp rx
    refine call_list_of pins s σ H _ us Q I r ⟨a, vs, rfl, .inl (SqL.of (sF _ _ ha)), fun p hp => ?_⟩
    obtain ⟨px, r'⟩ := new_lst sF hp ra
    exact q _ _ _ px r'
  · cases e

/-! ### kinds -/
def kiStr : Ki → String
  | .int => "int" | .bool => "bool" | .tuple => "tuple" | .list => "list" | .str => "str"
theorem kiOk (k : Ki) {pins : List (Addr × Obj)} {s : Shared} {σ : L2.St} {H F : Hp} {x : V} {d : D} {us : List Value} {Q : VK} (I : Inv X pins σ H s) (sF : Same F H) (rd : Rep X.K F d x)
    (r : Vals [x, V.ty (kiStr k)] us) (q : Q (.bl (isKi k d)) H) : wpAny (model X.prog X.w) X.A (call (.builtin "isinstance") us) (EP X pins σ Q) X.xe s := by
  have tyT : ∀ {a : Addr} {vs : List V}, SqT X.K F a vs → TyX X.K H (.ref a) (.type "tuple") := fun {a vs} h => by
    rcases h with (h | ⟨o, h⟩) | ⟨o, its, n, h1, h2, _⟩
    · exact .base (.tup (sF _ _ h))
    · exact .fTuple (sF _ _ h)
    · exact .kTuple h1 h2
  have fin : ∀ {t : String}, TyX X.K H x (.type t) → kitB t (kiStr k) = some (isKi k d) →
      wpAny (model X.prog X.w) X.A (call (.builtin "isinstance") us) (EP X pins σ Q) X.xe s := fun {t} ty h =>
    call_isi pins s σ H _ us Q I r ⟨x, _, _, _, _, rfl, .ty _, ty, kit_ty h, q⟩
  cases d with
  | non => cases rd; exact fin (.base .non) (by cases k <;> (simp only [isKi]; decide +kernel))
  | bl b => cases rd; exact fin (.base (.bl b)) (by cases k <;> (simp only [isKi]; decide +kernel))
  | int i => cases rd; exact fin (.base (.int i)) (by cases k <;> (simp only [isKi]; decide +kernel))
  | str z => cases rd; exact fin (.base (.str z)) (by cases k <;> (simp only [isKi]; decide +kernel))
  | tup ds =>
    obtain ⟨a, vs, rfl, ha, ra⟩ := rep_tup.mp rd
    exact fin (tyT ha) (by cases k <;> (simp only [isKi]; decide +kernel))
  | lst ds =>
    obtain ⟨a, vs, rfl, ha, ra⟩ := rep_lst.mp rd
    exact fin (.base (.lst (sF _ _ ha))) (by cases k <;> (simp only [isKi]; decide +kernel))
  | scr ns =>
    obtain ⟨a, rfl, ha⟩ := rep_scr.mp rd
    rcases ha with (h | ⟨o, h⟩) | ⟨o, its, n, h1, h2, _⟩
    · exact fin (.base (.lst (sF _ _ h))) (by cases k <;> (simp only [isKi]; decide +kernel))
    · exact fin (.base (.frz (sF _ _ h))) (by cases k <;> (simp only [isKi]; decide +kernel))
    · exact fin (.kList h1 h2) (by cases k <;> (simp only [isKi]; decide +kernel))
end
end Sb

/-! Sb.Read: the readings of the small tongue's terms. -/
namespace Sb
open PySem PySem.Spec PyProof.Rows L2

theorem PE.weak {X : Cx} {e : Expr} {t t' : TE} (h : PE X e t) (w : ∀ σ H Q, t' σ H Q → t σ H Q) : PE X e t' := ⟨fun pins s σ H Q I q => h.run pins s σ H Q I (w _ _ _ q)⟩
theorem PT.weak {X : Cx} {e : Expr} {t t' : TT} (h : PT X e t) (w : ∀ σ H Q, t' σ H Q → t σ H Q) : PT X e t' := ⟨fun pins s σ H Q I q => h.run pins s σ H Q I (w _ _ _ q)⟩
theorem PW.weak {X : Cx} {e : Expr} {t t' : TT} (h : PW X e t) (w : ∀ σ H Q, t' σ H Q → t σ H Q) : PW X e t' := ⟨fun wh pins s σ H Q I q => h.run wh pins s σ H Q I (w _ _ _ q)⟩
theorem PA.weak {X : Cx} {e : List Expr} {t t' : TA} (h : PA X e t) (w : ∀ σ H Q, t' σ H Q → t σ H Q) : PA X e t' := ⟨fun pos pins s σ H Q I q => h.run pos pins s σ H Q I (w _ _ _ q)⟩
theorem PS.weak {X : Cx} {e : Stmt} {t t' : TS} (h : PS X e t) (w : ∀ D σ H, t' D σ H → t D σ H) : PS X e t' := ⟨fun pins s σ H D I q => h.run pins s σ H D I (w _ _ _ q)⟩
theorem PSs.weak {X : Cx} {e : List Stmt} {t t' : TS} (h : PSs X e t) (w : ∀ D σ H, t' D σ H → t D σ H) : PSs X e t' := ⟨fun pins s σ H D I q => h.run pins s σ H D I (w _ _ _ q)⟩
theorem PI.weak {X : Cx} {tg e : Expr} {t t' : TI} (h : PI X tg e t) (w : ∀ σ H Q, t' σ H Q → t σ H Q) : PI X tg e t' := ⟨fun pins s σ H Q I q => h.run pins s σ H Q I (w _ _ _ q)⟩
theorem PG.weak {X : Cx} {e : Expr} {t t' : TG} (h : PG X e t) (w : ∀ v σ H Q, t' v σ H Q → t v σ H Q) : PG X e t' := ⟨fun pins s σ H v u Q I r q => h.run pins s σ H v u Q I r (w _ _ _ _ q)⟩

section
variable (K : PySem.W.Frag) (P : Nat → Addr)
/-- behind an expression worth d -/
def After (env' : Env) (w : Wd) (σ : L2.St) (H : Hp) (d : D) (Q : VK) : Prop := ∀ v w' H', At K P σ env' w' H' → ExtW w H w' H' → Rep K w'.F d v → Q v H'
def rd (ev : Env → Option (D × Env)) : TE := fun σ H Q => ∃ env w, At K P σ env w H ∧ ∃ d env', ev env = some (d, env') ∧ After K P env' w σ H d Q
def rdT (ev : Env → Option (D × Env)) : TT := fun σ H Q => ∃ env w, At K P σ env w H ∧ ∃ b env', ev env = some (.bl b, env') ∧ ∀ w' H', At K P σ env' w' H' → ExtW w H w' H' → Q b H'
def rdL (ev : Env → Option (List D × Env)) : TA := fun σ H Q => ∃ env w, At K P σ env w H ∧ ∃ ds env', ev env = some (ds, env') ∧ ∀ vs w' H', At K P σ env' w' H' → ExtW w H w' H' → RepL K w'.F ds vs → Q vs H'
def PArgOk (σ : L2.St) (F : Hp) : PArg → V → Prop
  | .v d, v => Rep K F d v
  | .r i, v => σ[i]? = some (some v)
def rdA (ev : Env → Option (List PArg × Env)) : TA := fun σ H Q => ∃ env w, At K P σ env w H ∧ ∃ ps env', ev env = some (ps, env') ∧ ∀ vs w' H', At K P σ env' w' H' → ExtW w H w' H' → Paired (PArgOk K σ w'.F) ps vs → Q vs H'
/-- the iterator J walks ds -/
def Wlk (F : Hp) (J : It) (ds : List D) : Prop := L2.Walk J ds.length (fun H => Same F H) fun i H x H' => ∀ F1, Same F F1 → Same F1 H → ∃ F2 d, ds[i]? = some d ∧ PX F1 H F2 H' ∧ Rep K F2 d x
def rdI (ev : Env → Option (D × Env)) : TI := fun σ H R => ∃ env w, At K P σ env w H ∧ ∃ ds env', ev env = some (.lst ds, env') ∧ ∀ J w' H', At K P σ env' w' H' → ExtW w H w' H' → Wlk K w'.F J ds → R J H'
/-- behind a statement -/
def AfterS (w : Wd) (H : Hp) (D : Ends) : Fl → Prop
  | .nx env' => ∀ σ' w' H', At K P σ' env' w' H' → ExtW w H w' H' → D.nx σ' H'
  | .rt d env' => ∀ v σ' w' H', At K P σ' env' w' H' → ExtW w H w' H' → Rep K w'.F d v → D.rt v H'
def rdS (ev : Env → Option Fl) : TS := fun D σ H => ∃ env w, At K P σ env w H ∧ ∃ fl, ev env = some fl ∧ AfterS K P w H D fl
end

/-! ### the parts of a reading -/
section
variable {K : PySem.W.Frag} {P : Nat → Addr} {f g h : Env → Option (D × Env)} {σ : L2.St} {H : Hp} {Q : VK}
theorem ext_px {w : Wd} {F' H' : Hp} (s : Sepd w.F w.O H) (x : PX w.F H F' H') : ExtW w H ⟨F', w.O⟩ H' := Ext.px s x
theorem rd_op {sem : D → D → Option D} (h : rd K P (fun env => (f env).bind fun p => (g p.2).bind fun q => (sem p.1 q.1).map fun d => (d, q.2)) σ H Q) : tOp (PR2 K sem) (rd K P f) (rd K P g) σ H Q := by
  obtain ⟨env, w, a, d, env', e, k⟩ := h
  obtain ⟨⟨d1, env1⟩, e1, e⟩ := Option.bind_eq_some_iff.mp e
  obtain ⟨⟨d2, env2⟩, e2, e⟩ := Option.bind_eq_some_iff.mp e
  obtain ⟨d3, e3, e⟩ := Option.map_eq_some_iff.mp e
  cases e
  refine ⟨env, w, a, d1, env1, e1, fun v1 w1 H1 a1 x1 r1 => ⟨env1, w1, a1, d2, _, e2, fun v2 w2 H2 a2 x2 r2 => ?_⟩⟩
  exact ⟨w2.F, d1, d2, d, a2.sep.fh, r1.mono x2.ff d1 v1, r2, e3, fun v F' H' px r => k v ⟨F', w2.O⟩ H' (a2.px px) (((x1.trans a.sep a1.sep x2).trans a.sep a2.sep (ext_px a2.sep px))) r⟩
theorem rd_ix (h : rd K P (fun env => (f env).bind fun p => (g p.2).bind fun q => (evIx p.1 q.1).map fun d => (d, q.2)) σ H Q) : tOp (PR2 K evIx) (rd K P f) (rd K P g) σ H Q := rd_op h
/-- a comparison's answer, as a value -/
theorem rd_cmp {sem : D → D → Option Bool} (h : rd K P (fun env => (f env).bind fun p => (g p.2).bind fun q => (sem p.1 q.1).map fun d => (.bl d, q.2)) σ H Q) : tOp (PR2 K fun a b => (sem a b).map D.bl) (rd K P f) (rd K P g) σ H Q := by
  refine rd_op ?_
  obtain ⟨env, w, a, d, env', e, k⟩ := h
  refine ⟨env, w, a, d, env', ?_, k⟩
  rw [← e]
  dsimp only
  congr 1; funext p; congr 1; funext q
  cases sem p.1 q.1 <;> rfl
theorem rd_T {ev : Env → Option (D × Env)} {Q : Bool → Hp → Prop} (h : rdT K P ev σ H Q) : rd K P ev σ H fun x H' => ∃ k, x = .bl k ∧ Q k H' := by
  obtain ⟨env, w, a, b, env', e, k⟩ := h
  exact ⟨env, w, a, _, env', e, fun v w' H' a' x r => ⟨b, r, k w' H' a' x⟩⟩
theorem rd_un {s : V → Hp → VK → Prop} {sem : D → Option D} (h : rd K P (fun env => (f env).bind fun p => (sem p.1).map fun d => (d, p.2)) σ H Q) : tUn (PR1 K sem) (rd K P f) σ H Q := by
  obtain ⟨env, w, a, d, env', e, k⟩ := h
  obtain ⟨⟨d1, env1⟩, e1, e⟩ := Option.bind_eq_some_iff.mp e
  obtain ⟨d3, e3, e⟩ := Option.map_eq_some_iff.mp e
  cases e
  refine ⟨env, w, a, d1, _, e1, fun v1 w1 H1 a1 x1 r1 => ?_⟩
  exact ⟨w1.F, d1, d, a1.sep.fh, r1, e3, fun v F' H' px r => k v ⟨F', w1.O⟩ H' (a1.px px) (x1.trans a.sep a1.sep (ext_px a1.sep px)) r⟩
theorem rd_cb {sem : List D → Option D} {ev : Env → Option (List D × Env)} (h : rd K P (fun env => (ev env).bind fun p => (sem p.1).map fun d => (d, p.2)) σ H Q) : tCB (PRn K sem) (rdL K P ev) σ H Q := by
  obtain ⟨env, w, a, d, env', e, k⟩ := h
  obtain ⟨⟨ds, env1⟩, e1, e⟩ := Option.bind_eq_some_iff.mp e
  obtain ⟨d3, e3, e⟩ := Option.map_eq_some_iff.mp e
  cases e
  refine ⟨env, w, a, ds, _, e1, fun vs w1 H1 a1 x1 r1 => ?_⟩
  exact ⟨w1.F, ds, d, a1.sep.fh, r1, e3, fun v F' H' px r => k v ⟨F', w1.O⟩ H' (a1.px px) (x1.trans a.sep a1.sep (ext_px a1.sep px)) r⟩
/-- two in a row -/
theorem rdL_cons {ev : Env → Option (List D × Env)} {Q : List V → Hp → Prop} (h : rdL K P (fun env => (f env).bind fun p => (ev p.2).map fun q => (p.1 :: q.1, q.2)) σ H Q) : tCons (rd K P f) (rdL K P ev) σ H Q := by
  obtain ⟨env, w, a, d, env', e, k⟩ := h
  obtain ⟨⟨d1, env1⟩, e1, e⟩ := Option.bind_eq_some_iff.mp e
  obtain ⟨⟨ds, env2⟩, e2, e⟩ := Option.map_eq_some_iff.mp e
  cases e
  refine ⟨env, w, a, d1, env1, e1, fun v1 w1 H1 a1 x1 r1 => ⟨env1, w1, a1, ds, _, e2, fun vs w2 H2 a2 x2 r2 => ?_⟩⟩
  exact k _ w2 H2 a2 (x1.trans a.sep a1.sep x2) (RepL.cons (r1.mono x2.ff d1 v1) r2)
theorem rdL_nil {Q : List V → Hp → Prop} (h : rdL K P (fun env => some ([], env)) σ H Q) : tNil σ H Q := by
  obtain ⟨env, w, a, d, env', e, k⟩ := h
  cases e
  exact k [] w H a Ext.refl RepL.nil
theorem rdA_cons {ev : Env → Option (List PArg × Env)} {Q : List V → Hp → Prop} (h : rdA K P (fun env => (f env).bind fun p => (ev p.2).map fun q => (.v p.1 :: q.1, q.2)) σ H Q) : tCons (rd K P f) (rdA K P ev) σ H Q := by
  obtain ⟨env, w, a, d, env', e, k⟩ := h
  obtain ⟨⟨d1, env1⟩, e1, e⟩ := Option.bind_eq_some_iff.mp e
  obtain ⟨⟨ds, env2⟩, e2, e⟩ := Option.map_eq_some_iff.mp e
  cases e
  refine ⟨env, w, a, d1, env1, e1, fun v1 w1 H1 a1 x1 r1 => ⟨env1, w1, a1, ds, _, e2, fun vs w2 H2 a2 x2 r2 => ?_⟩⟩
  exact k _ w2 H2 a2 (x1.trans a.sep a1.sep x2) (.cons (r1.mono x2.ff d1 v1) r2)
theorem rdA_nil {Q : List V → Hp → Prop} (h : rdA K P (fun env => some ([], env)) σ H Q) : tNil σ H Q := by
  obtain ⟨env, w, a, d, env', e, k⟩ := h
  cases e
  exact k [] w H a Ext.refl .nil
/-- a new tuple, a new list -/
theorem rd_tup {ev : Env → Option (List D × Env)} (h : rd K P (fun env => (ev env).bind fun p => if p.1.length ≤ LIM then some (.tup p.1, p.2) else none) σ H Q) : tTup (rdL K P ev) σ H Q := by
  obtain ⟨env, w, a, d, env', e, k⟩ := h
  obtain ⟨⟨ds, env1⟩, e1, e⟩ := Option.bind_eq_some_iff.mp e
  dsimp only at e
  split at e
  · rename_i hz
    cases e
    refine ⟨env, w, a, ds, _, e1, fun vs w1 H1 a1 x1 r1 => ⟨lim_line (by rw [r1.length]; exact hz), fun p hp => ?_⟩⟩
    obtain ⟨px, r⟩ := new_tup a1.sep.fh hp r1
    exact k _ ⟨_, w1.O⟩ _ (a1.px px) (x1.trans a.sep a1.sep (ext_px a1.sep px)) r
  · cases e
/-- a new list, left out of the frozen heap -/
def AfterF (K : PySem.W.Frag) (P : Nat → Addr) (env' : Env) (w : Wd) (σ : L2.St) (H : Hp) (ds : List D) (Q : VK) : Prop :=
  ∀ p vs w' H', At K P σ env' w' H' → ExtW w H w' H' → RepL K w'.F ds vs → H' p = none → Q (.ref p) (upd H' p (.lst vs))
def rdF (K : PySem.W.Frag) (P : Nat → Addr) (ev : Env → Option (D × Env)) : TE := fun σ H Q => ∃ env w, At K P σ env w H ∧ ∃ ds env', ev env = some (.lst ds, env') ∧ AfterF K P env' w σ H ds Q
theorem rdF_lst {ev : Env → Option (List D × Env)} (h : rdF K P (fun env => (ev env).bind fun p => if p.1.length ≤ LIM then some (.lst p.1, p.2) else none) σ H Q) : tLst (rdL K P ev) σ H Q := by
  obtain ⟨env, w, a, d, env', e, k⟩ := h
  obtain ⟨⟨ds, env1⟩, e1, e⟩ := Option.bind_eq_some_iff.mp e
  dsimp only at e
  split at e
  · rename_i hz
    cases e
    refine ⟨env, w, a, _, _, e1, fun vs w1 H1 a1 x1 r1 => ⟨lim_line (by rw [r1.length]; exact hz), fun p hp => ?_⟩⟩
    exact k p vs w1 H1 a1 x1 r1 hp
  · cases e
/-- .. and frozen -/
theorem rd_F {ev : Env → Option (D × Env)} (h : rd K P ev σ H Q) (hl : ∀ env d env', ev env = some (d, env') → ∃ ds, d = .lst ds) : rdF K P ev σ H Q := by
  obtain ⟨env, w, a, d, env', e, k⟩ := h
  obtain ⟨ds, rfl⟩ := hl _ _ _ e
  refine ⟨env, w, a, ds, env', e, fun p vs w' H' a' x r hp => ?_⟩
  obtain ⟨px, r'⟩ := new_lst a'.sep.fh hp r
  exact k _ ⟨_, w'.O⟩ _ (a'.px px) (x.trans a.sep a'.sep (ext_px a'.sep px)) r'
end
end Sb

/-! Sb.Shape: what the look at a text tells of its forms. -/
namespace Sb
open PySem PySem.Spec PyProof.Rows L2

def noStar : Expr → Bool
  | .Starred .. => false
  | _ => true
def noStars (es : List Expr) : Bool := es.all noStar
theorem star_cons {e : Expr} {es : List Expr} {env : PySem.Env} (h : noStar e = true) : starEach (e :: es) env = (false, eval e env) :: starEach es env := by
  cases e <;> first | rfl | cases h
theorem star_any {pos : Pos} {env : PySem.Env} : ∀ {es : List Expr}, noStars es = true → (backTo pos (starEach es env)).any (·.1) = false
  | [], _ => rfl
  | e :: es, h => by
    have h := Bool.and_eq_true_iff.mp (show (noStar e && noStars es) = true from h)
    rw [star_cons h.1]
    show (false || (backTo pos (starEach es env)).any (·.1)) = false
    rw [star_any h.2]; rfl
theorem asg_one {t : Expr} {env : PySem.Env} (h : noStar t = true) : (assignEach [t] env).map (·.2) = [assign t env] := by
  cases t <;> first | rfl | cases h
theorem asg_cons {t : Expr} {es : List Expr} {env : PySem.Env} (h : noStar t = true) : (assignEach (t :: es) env).map (·.2) = assign t env :: (assignEach es env).map (·.2) := by
  cases t <;> first | rfl | cases h
theorem asg_len {env : PySem.Env} : ∀ {es : List Expr}, (assignEach es env).length = es.length
  | [] => rfl
  | e :: es => by
    cases e <;> (show (assignEach es env).length + 1 = es.length + 1; rw [asg_len])
theorem asg_idx {env : PySem.Env} : ∀ {es : List Expr}, noStars es = true → (assignEach es env).findIdx? (·.1) = none
  | [], _ => rfl
  | e :: es, h => by
    have h := Bool.and_eq_true_iff.mp (show (noStar e && noStars es) = true from h)
    have ih := asg_idx (env := env) h.2
    cases e <;> first
      | (show List.findIdx? _ ((false, _) :: _) = none
         rw [List.findIdx?_cons, ih]; rfl)
      | cases h.1
def noComp : Expr → Bool
  | .ListComp .. => false
  | .SetComp .. => false
  | .DictComp .. => false
  | _ => true
theorem swap_none {v : Expr} {t : Option Expr} {l : Nat} {env : PySem.Env} (h : noComp v = true) : swapsWith v t l env = pure false := by
  cases v <;> first | rfl | cases h
def noSet : Expr → Bool
  | .Set .. => false
  | _ => true
theorem folded_none {e : Expr} {env : PySem.Env} (h : noSet e = true) (x : Value) : foldedSetIterable e env x = pure x := by
  cases e <;> first | rfl | cases h
theorem marks_none {op : CmpOp} {e : Expr} (h : noSet e = true) : behindInMarks op e = false := by
  cases e <;> first | rfl | cases h
def noSlice : Expr → Bool
  | .Slice .. => false
  | _ => true
theorem plain_ix {e : Expr} (h : noSlice e = true) : PlainIx e := by
  intro o i
  cases e <;> first | rfl | cases h
/-- tests that are plain values -/
def plainT : Expr → Bool
  | .UnaryOp .Not _ _ => false
  | .BoolOp .. => false
  | .IfExp .. => false
  | .Compare .. => false
  | _ => true
theorem plain_test {e : Expr} {env : PySem.Env} (h : plainT e = true) : ∀ whole, isTrue e env whole = (do let v ← whole; standAt e.pos; holding [v] (truthy v)) := by
  intro wh
  cases e <;> first | rfl | cases h | (rename_i op _ _; cases op <;> first | rfl | cases h)
/-- everything plain -/
def plainX (e : Expr) : Bool := noStar e && noSet e && noSlice e

theorem chk_plain (C : SC) (c : E) (e : Expr) (h : chkE C c e = true) : noStar e = true ∧ noSet e = true ∧ noSlice e = true ∧ (isLc c = false → noComp e = true) := by
  cases e with
  | Starred v p => cases c <;> exact absurd h Bool.false_ne_true
  | Set v k p => cases c <;> exact absurd h Bool.false_ne_true
  | Slice a b d p => cases c <;> exact absurd h Bool.false_ne_true
  | ListComp a b sc p => cases c <;> first | exact absurd h Bool.false_ne_true | exact ⟨rfl, rfl, rfl, fun z => Bool.noConfusion z⟩
  | SetComp a b sc p => cases c <;> exact absurd h Bool.false_ne_true
  | DictComp a b d sc p => cases c <;> exact absurd h Bool.false_ne_true
  | _ => exact ⟨rfl, rfl, rfl, fun _ => rfl⟩
end Sb

/-! Sb.Good: what a def's promise is, where a body runs. -/
namespace Sb
open PySem PySem.Spec PyProof.Rows L2

section
variable (K : PySem.W.Frag)
def ArgOk (F : Hp) (O : Hp) (p : Addr) : Arg → V → Prop
  | .v d, v => O = nil ∧ Rep K F d v
  | .o k d, v => v = .ref p ∧ OwnP K k F O p d
def OutOk (F : Hp) (O : Hp) (p : Addr) : Arg → Prop
  | .v _ => True
  | .o k d => OwnP K k F O p d
/-- the promise of a def of n parameters that is worth φ -/
def spOf (φ : FnSem) (n : Nat) : Sp := fun vs H Q _ => ∃ (F : Hp) (O : Nat → Hp) (P : Nat → Addr) (as : List Arg), Sepd F O H ∧ (∀ i, n ≤ i → O i = nil) ∧ as.length = n ∧ vs.length = n ∧
  (∀ i a v, as[i]? = some a → vs[i]? = some v → ArgOk K F (O i) (P i) a v) ∧
  ∃ d os, φ as = some (d, os) ∧ ∀ v F' O' H', Sepd F' O' H' → Ext F O H F' O' H' → Rep K F' d v → (∀ i a, os[i]? = some a → OutOk K F' (O' i) (P i) a) → Q v H'
end

/-- a def that may be called here -/
structure FnAt (X : Cx) (x : Str) (n : Nat) (φ : FnSem) : Prop where
  ex : ∃ (f : Addr) (fd : FuncData) (k : Nat) (ps : List Str), ps.length = n ∧ X.mg x = some (.ref f) ∧ PySem.W.keepIn X.K (.ref f) = true ∧ Room k X.A ∧ Binds X.K fd ps [] ∧
    FnOk X.prog X.w X.K X.mg X.base CX0 k f fd ps (spOf X.K φ n)
structure Good (X : Cx) (C : SC) (G : Nat → Option D) (Φ : Nat → FnSem) : Prop where
  nd : X.N.Nodup
  N : X.N = C.N
  names : X.env.scope.names = C.names
  kind : X.env.scope.kind = .function
  calm : X.calm = true
  cells : C.cs = true → ∀ x, X.fn x = true
  pass : PassesOwn (model X.prog X.w) X.A X.env X.xe
  units : X.A.units + 70 < cLine
  fn : ∀ j x n, C.fns[j]? = some x → C.ari[j]? = some n → FnAt X x n (Φ j)
  glo : ∀ j x d, C.glo[j]? = some x → G j = some d → ∃ u v, X.mg x = some u ∧ RelV v u ∧ ∀ F, Rep X.K F d v
  blt : ∀ x ∈ C.blt, X.mg x = none

section
variable {X : Cx} {C : SC} {G : Nat → Option D} {Φ : Nat → FnSem}
theorem Good.vis (g : Good X C G Φ) {x : Str} (h : vis C x = true) : Vis X.env.scope x := by
  unfold Sb.vis at h
  unfold Vis
  rw [g.names]
  split at h
  · exact .inl (by assumption)
  · exact .inr (.inl (by assumption))
  · exact .inr (.inr (by assumption))
  · cases h
theorem Good.gl (g : Good X C G Φ) {x : Str} (h : isGl C x = true) : Gl X x := by
  unfold isGl at h
  show X.env.scope.names.lookup x = _
  rw [g.names]
  split at h
  · assumption
  · cases h
theorem Good.loc (g : Good X C G Φ) {x : Str} (h : loc C x = true) : X.env.scope.names.lookup x = some .local := by
  unfold Sb.loc at h
  rw [g.names]
  split at h
  · assumption
  · cases h
theorem Good.sto (g : Good X C G Φ) {x : Str} (h : sto C x = true) : L2.Loc X.env.scope x ∧ (X.fn x = true ∨ X.env.scope.names.lookup x = some .local) := by
  unfold Sb.sto at h
  unfold L2.Loc
  rw [g.names]
  split at h
  · rename_i e; exact ⟨.inl e, .inr e⟩
  · rename_i e; exact ⟨.inr e, .inl (g.cells h x)⟩
  · cases h
theorem Good.slot (g : Good X C G Φ) {i : Nat} {x : Str} (h : slotIs C i x = true) : X.N[i]? = some x := by
  rw [g.N]; exact of_decide_eq_true h
theorem noDbg_of {x : Str} (h : noDbg x = true) : (x == ("__debug__" : Str)) = false ∧ (x == ("__classdict__" : Str)) = false ∧ x ≠ "__name__" := by
  unfold noDbg at h
  simp only [Bool.and_eq_true, Bool.not_eq_true'] at h
  exact ⟨h.1.1, h.1.2, fun z => by rw [z] at h; simp at h⟩
theorem isB_of (g : Good X C G Φ) {x y : Str} (h : isB C x y = true) : x = y ∧ Gl X x ∧ X.mg x = none := by
  unfold isB at h
  simp only [Bool.and_eq_true, decide_eq_true_eq] at h
  exact ⟨h.1.1, g.gl h.1.2, g.blt _ h.2⟩
/-- a name as a value -/
theorem nm_pe (g : Good X C G Φ) {i : Nat} {e : Expr} (h : nmV C i e = true) : PE X e (tVar i) := by
  unfold nmV at h
  split at h
  · simp only [Bool.and_eq_true] at h
    obtain ⟨⟨h1, h2⟩, h3⟩ := h
    obtain ⟨d1, d2, _⟩ := noDbg_of h3
    exact pe_var (g.slot h1) (g.vis h2) d1 d2
  · cases h
theorem nm_plain {i : Nat} {e : Expr} (h : nmV C i e = true) : noStar e = true ∧ noSet e = true ∧ noSlice e = true ∧ noComp e = true ∧ noC0 e = true := by
  unfold nmV at h
  split at h
  · exact ⟨rfl, rfl, rfl, rfl, rfl⟩
  · cases h
theorem base_of {o : Expr} {n : Str} {env : PySem.Env} {wh : Sem Value} (h : noC0 o = true) : attributeBase o n env wh = wh := by
  unfold attributeBase
  split
  · cases h
  · rfl
/-- targets -/
theorem nmS_pg (g : Good X C G Φ) {i : Nat} {e : Expr} (h : nmS C i e = true) : PG X e (gName i) ∧ noStar e = true := by
  unfold nmS at h
  split at h
  · simp only [Bool.and_eq_true] at h
    obtain ⟨h1, h2⟩ := h
    exact ⟨pg_name g.nd (g.slot h1) (g.sto h2).1 (g.sto h2).2, rfl⟩
  · cases h
def gsOf : List Nat → TGs
  | [] => gNil
  | i :: is => gCons (gName i) (gsOf is)
theorem nmSs_pgs (g : Good X C G Φ) : ∀ {is : List Nat} {es : List Expr}, nmSs C is es = true → PGs X es (gsOf is) ∧ noStars es = true ∧ es.length = is.length
  | [], [], _ => ⟨pgs_nil, rfl, rfl⟩
  | [], _ :: _, h => by cases h
  | _ :: _, [], h => by cases h
  | i :: is, e :: es, h => by
    have h := Bool.and_eq_true_iff.mp (show (nmS C i e && nmSs C is es) = true from h)
    obtain ⟨h1, h2⟩ := nmS_pg g h.1
    obtain ⟨h3, h4, h5⟩ := nmSs_pgs g h.2
    exact ⟨pgs_cons h1 h3 (asg_cons h2), Bool.and_eq_true_iff.mpr ⟨h2, h4⟩, by simp [h5]⟩
variable {K : PySem.W.Frag} {P : Nat → Addr}
theorem setV_at {env env1 : Env} {i : Nat} {d : D} {w : Wd} {σ : L2.St} {H : Hp} {v : V} (e : setV env i d = some env1) (a : At K P σ env w H) (r : Rep K w.F d v) :
    ∃ w', At K P (σ.set i (some v)) env1 w' H ∧ ExtW w H w' H ∧ w'.F = w.F := by
  unfold setV at e
  split at e
  · rename_i hi
    cases e
    exact ⟨_, a.set hi r, Ext.drop i, rfl⟩
  · cases e
theorem gs_at : ∀ {t : List Nat} {ds : List D} {env env1 : Env} {w : Wd} {σ : L2.St} {H : Hp} {vs : List V} {Q : L2.St → Hp → Prop}, setVs t ds env = some env1 → At K P σ env w H → RepL K w.F ds vs →
    (∀ σ' w', At K P σ' env1 w' H → ExtW w H w' H → w'.F = w.F → (σ'.length = σ.length ∧ ∀ j, j ∉ t → σ'[j]? = σ[j]?) → Q σ' H) → gsOf t vs σ H Q
  | [], [], env, env1, w, σ, H, vs, Q, e, a, r, q => by
    cases e
    exact ⟨repL_nil.mp r, q σ w a Ext.refl rfl ⟨rfl, fun _ _ => rfl⟩⟩
  | [], _ :: _, _, _, _, _, _, _, _, e, _, _, _ => by cases e
  | _ :: _, [], _, _, _, _, _, _, _, e, _, _, _ => by cases e
  | i :: is, d :: ds, env, env1, w, σ, H, vs, Q, e, a, r, q => by
    obtain ⟨env2, e1, e2⟩ := Option.bind_eq_some_iff.mp e
    obtain ⟨v, r', rfl, h1, h2⟩ := repL_cons.mp r
    obtain ⟨w2, a2, x2, f2⟩ := setV_at e1 a h1
    refine ⟨v, r', rfl, gs_at (w := w2) e2 a2 (by rw [f2]; exact h2) fun σ' w' a' x' f' hv => q σ' w' a' (x2.trans a.sep a2.sep x') (f'.trans f2) ⟨by rw [hv.1, List.length_set], fun j hj => ?_⟩⟩
    rw [hv.2 j fun z => hj (List.mem_cons_of_mem _ z)]
    exact List.getElem?_set_ne (fun z : i = j => hj (by rw [z]; exact List.mem_cons_self))
/-- what a target's reading is -/
def gOf (K : PySem.W.Frag) (one : Bool) (t : List Nat) : TG := match one with
  | true => match t with | [i] => gName i | _ => fun _ _ _ _ => False
  | false => gTup K t.length (gsOf t)
theorem tgt_pg (g : Good X C G Φ) {one : Bool} {t : List Nat} {e : Expr} (h : tgt C one t e = true) : PG X e (gOf X.K one t) ∧ noStar e = true := by
  unfold tgt at h
  split at h
  · rename_i es k p
    obtain ⟨h1, h2⟩ := Bool.and_eq_true_iff.mp h
    obtain ⟨p1, p2, p3⟩ := nmSs_pgs g h2
    cases one with
    | true => cases h1
    | false => exact ⟨pg_tup g.calm p1 (by rw [asg_len, p3]) (asg_idx p2), rfl⟩
  · obtain ⟨h1, h2⟩ := Bool.and_eq_true_iff.mp h
    subst h1
    split at h2
    · exact nmS_pg g h2
    · cases h2
theorem g_at {one : Bool} {t : List Nat} {d : D} {env env1 : Env} {w : Wd} {σ : L2.St} {H : Hp} {v : V} {Q : L2.St → Hp → Prop} (e : asgT one t d env = some env1) (a : At K P σ env w H) (r : Rep K w.F d v)
    (q : ∀ σ' w', At K P σ' env1 w' H → ExtW w H w' H → w'.F = w.F → (σ'.length = σ.length ∧ ∀ j, j ∉ t → σ'[j]? = σ[j]?) → Q σ' H) : gOf K one t v σ H Q := by
  unfold asgT at e
  cases one with
  | true =>
    dsimp only at e
    split at e
    · rename_i i
      obtain ⟨w2, a2, x2, f2⟩ := setV_at e a r
      exact q _ w2 a2 x2 f2 ⟨List.length_set, fun j hj => List.getElem?_set_ne (fun z : i = j => hj (by simp [z]))⟩
    · cases e
  | false =>
    dsimp only at e
    split at e
    · obtain ⟨b, vs, rfl, hb, rb⟩ := rep_tup.mp r
      have hl : ∀ {t : List Nat} {ds : List D} {env env1 : Env}, setVs t ds env = some env1 → ds.length = t.length := by
        intro t
        induction t with
        | nil =>
          intro ds env env1 e
          cases ds with
          | nil => rfl
          | cons _ _ => cases e
        | cons i is ih =>
          intro ds env env1 e
          cases ds with
          | nil => cases e
          | cons d ds =>
            obtain ⟨env2, e1, e2⟩ := Option.bind_eq_some_iff.mp e
            simp [ih e2]
      exact ⟨b, vs, rfl, Same.seqT a.sep.fh hb, by rw [rb.length]; exact hl e, gs_at e a rb q⟩
    · cases e
end
end Sb

/-! Sb.Sound: a text that a term of the small tongue says does what the term reckons. -/
namespace Sb
open PySem PySem.Spec PyProof.Rows L2

section
variable {X : Cx} {K : PySem.W.Frag} {P : Nat → Addr} {C : SC} {G : Nat → Option D} {Φ : Nat → FnSem} {σ : L2.St} {H : Hp}
theorem rd_c {d : D} {v : V} {Q : VK} (hr : ∀ F, Rep K F d v) (h : rd K P (fun env => some (d, env)) σ H Q) : tC v σ H Q := by
  obtain ⟨env, w, a, d', env', e, k⟩ := h
  cases e
  exact k v w H a Ext.refl (hr _)
theorem rd_var {i : Nat} {Q : VK} (h : rd K P (evE G Φ (.var i)) σ H Q) : tVar i σ H Q := by
  obtain ⟨env, w, a, d', env', e, k⟩ := h
  rw [evE] at e
  split at e
  · rename_i d hs
    cases e
    obtain ⟨v, hv, r⟩ := a.val hs
    exact ⟨v, hv, k v w H a Ext.refl r⟩
  · cases e
theorem isnon_rep {d : D} {F : Hp} {v : V} (r : Rep K F d v) : decide (v = V.non) = isNonD d := by
  cases d with
  | non => cases r; rfl
  | bl b => cases r; rfl
  | int b => cases r; rfl
  | str b => cases r; rfl
  | tup ds => obtain ⟨a, vs, rfl, _⟩ := rep_tup.mp r; rfl
  | lst ds => obtain ⟨a, vs, rfl, _⟩ := rep_lst.mp r; rfl
  | scr ds => obtain ⟨a, rfl, _⟩ := rep_scr.mp r; rfl
theorem rd_isN {neg : Bool} {f : Env → Option (D × Env)} {Q : VK} {r : R2} (hr : ∀ x H Q, Q (.bl (xor neg (decide (x = V.non)))) H → r x .non H Q)
    (h : rd K P (fun env => (f env).bind fun p => some (.bl (xor neg (isNonD p.1)), p.2)) σ H Q) : tOp r (rd K P f) (tC .non) σ H Q := by
  obtain ⟨env, w, a, d', env', e, k⟩ := h
  obtain ⟨⟨d1, env1⟩, e1, e⟩ := Option.bind_eq_some_iff.mp e
  cases e
  refine ⟨env, w, a, d1, _, e1, fun v1 w1 H1 a1 x1 r1 => hr _ _ _ ?_⟩
  rw [isnon_rep r1]
  exact k _ w1 H1 a1 x1 (rep_bl.mpr rfl)
/-- a value that is a truth, as a test -/
theorem pt_of (g : Good X C G Φ) {c : E} {e : Expr} (h : PE X e (rd X.K P (evE G Φ c))) (hp : plainT e = true) : PT X e (rdT X.K P (evE G Φ c)) := PT.weak (pt_val h (plain_test hp)) fun σ H Q q => rd_T q
theorem rd_ife {t f g : Env → Option (D × Env)} {Q : VK} (h : rd K P (fun env => (t env).bind fun p => match p.1 with | .bl true => f p.2 | .bl false => g p.2 | _ => none) σ H Q) : tIf (rdT K P t) (rd K P f) (rd K P g) σ H Q := by
  obtain ⟨env, w, a, d', env', e, k⟩ := h
  obtain ⟨⟨d1, env1⟩, e1, e⟩ := Option.bind_eq_some_iff.mp e
  dsimp only at e
  split at e
  · rename_i hb
    exact ⟨env, w, a, true, env1, e1, fun w1 H1 a1 x1 => ⟨env1, w1, a1, d', env', e, fun v w' H' a' x r => k v w' H' a' (x1.trans a.sep a1.sep x) r⟩⟩
  · exact ⟨env, w, a, false, env1, e1, fun w1 H1 a1 x1 => ⟨env1, w1, a1, d', env', e, fun v w' H' a' x r => k v w' H' a' (x1.trans a.sep a1.sep x) r⟩⟩
  · cases e
theorem rd_not {f : Env → Option (D × Env)} {Q : VK} (h : rd K P (fun env => (f env).bind fun p => match p.1 with | .bl b => some (.bl (!b), p.2) | _ => none) σ H Q) : tNotV (rd K P f) σ H Q := by
  obtain ⟨env, w, a, d', env', e, k⟩ := h
  obtain ⟨⟨d1, env1⟩, e1, e⟩ := Option.bind_eq_some_iff.mp e
  dsimp only at e
  split at e
  · cases e
    exact ⟨env, w, a, _, _, e1, fun v w' H' a' x r => ⟨_, r, k _ w' H' a' x rfl⟩⟩
  · cases e
theorem rdT_not {f : Env → Option (D × Env)} {Q : Bool → Hp → Prop} (h : rdT K P (fun env => (f env).bind fun p => match p.1 with | .bl b => some (.bl (!b), p.2) | _ => none) σ H Q) : tNot (rdT K P f) σ H Q := by
  obtain ⟨env, w, a, d', env', e, k⟩ := h
  obtain ⟨⟨d1, env1⟩, e1, e⟩ := Option.bind_eq_some_iff.mp e
  dsimp only at e
  split at e
  · cases e
    exact ⟨env, w, a, _, _, e1, fun w' H' a' x => k w' H' a' x⟩
  · cases e
theorem rd_cmp2 {o o' : Cop} {f g h : Env → Option (D × Env)} {Q : VK}
    (q : rd K P (fun env => (f env).bind fun p => (g p.2).bind fun q => (evCmp o p.1 q.1).bind fun k => match k with | true => (h q.2).bind fun r => (evCmp o' q.1 r.1).map fun d => (.bl d, r.2) | false => some (.bl false, q.2)) σ H Q) :
    tChain (PR2 K fun a b => (evCmp o a b).map D.bl) (PR2 K fun a b => (evCmp o' a b).map D.bl) (rd K P f) (rd K P g) (rd K P h) σ H Q := by
  obtain ⟨env, w, a, d', env', e, k⟩ := q
  obtain ⟨⟨d1, env1⟩, e1, e⟩ := Option.bind_eq_some_iff.mp e
  obtain ⟨⟨d2, env2⟩, e2, e⟩ := Option.bind_eq_some_iff.mp e
  obtain ⟨b, e3, e⟩ := Option.bind_eq_some_iff.mp e
  dsimp only at e e2 e3
  refine ⟨env, w, a, d1, env1, e1, fun v1 w1 H1 a1 x1 r1 => ⟨env1, w1, a1, d2, env2, e2, fun v2 w2 H2 a2 x2 r2 => ⟨w2.F, d1, d2, .bl b, a2.sep.fh, r1.mono x2.ff d1 v1, r2, (by show (evCmp o d1 d2).map D.bl = _; rw [e3]; rfl), fun v F' H' px r => ⟨b, r, ?_⟩⟩⟩⟩
  have X12 := x1.trans a.sep a1.sep x2
  have X13 := X12.trans a.sep a2.sep (ext_px a2.sep px)
  have a3 : At K P σ env2 ⟨F', w2.O⟩ H' := a2.px px
  cases b with
  | false =>
    cases e
    rw [if_neg Bool.false_ne_true]
    exact k _ _ _ a3 X13 rfl
  | true =>
    obtain ⟨⟨d3, env3⟩, e4, e⟩ := Option.bind_eq_some_iff.mp e
    obtain ⟨c, e5, e⟩ := Option.map_eq_some_iff.mp e
    cases e
    rw [if_pos rfl]
    refine ⟨env2, _, a3, d3, _, e4, fun v3 w3 H3 a4 x4 r3 => ⟨w3.F, d2, d3, .bl c, a4.sep.fh, (r2.mono px.ff d2 v2).mono x4.ff d2 v2, r3, (by show (evCmp o' d2 d3).map D.bl = _; rw [e5]; rfl), fun v F4 H4 px4 r4 => ?_⟩⟩
    exact k v ⟨F4, w3.O⟩ H4 (a4.px px4) ((X13.trans a.sep a3.sep x4).trans a.sep a4.sep (ext_px a4.sep px4)) r4
theorem rd_bop1 {and : Bool} {e : E} {Q : VK} (h : rd K P (fun env => evB G Φ and [e] env) σ H Q) : rd K P (evE G Φ e) σ H Q := by
  obtain ⟨env, w, a, d', env', e1, k⟩ := h
  refine ⟨env, w, a, d', env', ?_, k⟩
  dsimp only at e1
  rw [evB] at e1
  obtain ⟨p, e2, e1⟩ := Option.bind_eq_some_iff.mp e1
  cases e1
  exact e2
theorem evB_cons {and : Bool} {e e2 : E} {es : List E} {env : Env} {d : D} {env' : Env} (h : evB G Φ and (e :: e2 :: es) env = some (d, env')) :
    ∃ b env1, evE G Φ e env = some (.bl b, env1) ∧ if b = and then evB G Φ and (e2 :: es) env1 = some (d, env') else d = .bl b ∧ env' = env1 := by
  rw [evB] at h
  obtain ⟨⟨d1, env1⟩, e1, h⟩ := Option.bind_eq_some_iff.mp h
  dsimp only [List.isEmpty] at h
  cases d1 with
  | bl b =>
    refine ⟨b, env1, e1, ?_⟩
    have h : (if b = and then evB G Φ and (e2 :: es) env1 else some (D.bl b, env1)) = some (d, env') := h
    split at h
    · rename_i hc; rw [if_pos hc]; exact h
    · rename_i hc; rw [if_neg hc]; cases h; exact ⟨rfl, rfl⟩
  | _ => cases h
theorem rd_and {e e2 : E} {es : List E} {Q : VK} (h : rd K P (fun env => evB G Φ true (e :: e2 :: es) env) σ H Q) : tAndV (rd K P (evE G Φ e)) (rd K P fun env => evB G Φ true (e2 :: es) env) σ H Q := by
  obtain ⟨env, w, a, d', env', e1, k⟩ := h
  obtain ⟨b, env1, q1, q2⟩ := evB_cons e1
  refine ⟨env, w, a, _, _, q1, fun v w1 H1 a1 x1 r => ⟨b, r, ?_⟩⟩
  cases b with
  | true =>
    rw [if_pos rfl] at q2 ⊢
    exact ⟨env1, w1, a1, d', env', q2, fun v w' H' a' x r => k v w' H' a' (x1.trans a.sep a1.sep x) r⟩
  | false =>
    rw [if_neg Bool.false_ne_true] at q2 ⊢
    obtain ⟨rfl, rfl⟩ := q2
    exact k _ w1 H1 a1 x1 rfl
theorem rd_or {e e2 : E} {es : List E} {Q : VK} (h : rd K P (fun env => evB G Φ false (e :: e2 :: es) env) σ H Q) : tOrV (rd K P (evE G Φ e)) (rd K P fun env => evB G Φ false (e2 :: es) env) σ H Q := by
  obtain ⟨env, w, a, d', env', e1, k⟩ := h
  obtain ⟨b, env1, q1, q2⟩ := evB_cons e1
  refine ⟨env, w, a, _, _, q1, fun v w1 H1 a1 x1 r => ⟨b, r, ?_⟩⟩
  cases b with
  | false =>
    rw [if_pos rfl] at q2
    rw [if_neg Bool.false_ne_true]
    exact ⟨env1, w1, a1, d', env', q2, fun v w' H' a' x r => k v w' H' a' (x1.trans a.sep a1.sep x) r⟩
  | true =>
    rw [if_neg (by decide)] at q2
    rw [if_pos rfl]
    obtain ⟨rfl, rfl⟩ := q2
    exact k _ w1 H1 a1 x1 rfl
theorem rdT_bop1 {and : Bool} {e : E} {Q : Bool → Hp → Prop} (h : rdT K P (fun env => evB G Φ and [e] env) σ H Q) : rdT K P (evE G Φ e) σ H Q := by
  obtain ⟨env, w, a, d', env', e1, k⟩ := h
  refine ⟨env, w, a, d', env', ?_, k⟩
  dsimp only at e1
  rw [evB] at e1
  obtain ⟨p, e2, e1⟩ := Option.bind_eq_some_iff.mp e1
  cases e1
  exact e2
theorem rdT_and {e e2 : E} {es : List E} {Q : Bool → Hp → Prop} (h : rdT K P (fun env => evB G Φ true (e :: e2 :: es) env) σ H Q) : tAnd (rdT K P (evE G Φ e)) (rdT K P fun env => evB G Φ true (e2 :: es) env) σ H Q := by
  obtain ⟨env, w, a, d', env', e1, k⟩ := h
  obtain ⟨b, env1, q1, q2⟩ := evB_cons e1
  refine ⟨env, w, a, _, _, q1, fun w1 H1 a1 x1 => ?_⟩
  cases b with
  | true =>
    rw [if_pos rfl] at q2 ⊢
    exact ⟨env1, w1, a1, d', env', q2, fun w' H' a' x => k w' H' a' (x1.trans a.sep a1.sep x)⟩
  | false =>
    rw [if_neg Bool.false_ne_true] at q2 ⊢
    obtain ⟨h1, rfl⟩ := q2
    cases h1
    exact k w1 H1 a1 x1
theorem rdT_or {e e2 : E} {es : List E} {Q : Bool → Hp → Prop} (h : rdT K P (fun env => evB G Φ false (e :: e2 :: es) env) σ H Q) : tOr (rdT K P (evE G Φ e)) (rdT K P fun env => evB G Φ false (e2 :: es) env) σ H Q := by
  obtain ⟨env, w, a, d', env', e1, k⟩ := h
  obtain ⟨b, env1, q1, q2⟩ := evB_cons e1
  refine ⟨env, w, a, _, _, q1, fun w1 H1 a1 x1 => ?_⟩
  cases b with
  | false =>
    rw [if_pos rfl] at q2
    rw [if_neg Bool.false_ne_true]
    exact ⟨env1, w1, a1, d', env', q2, fun w' H' a' x => k w' H' a' (x1.trans a.sep a1.sep x)⟩
  | true =>
    rw [if_neg (by decide)] at q2
    rw [if_pos rfl]
    obtain ⟨h1, rfl⟩ := q2
    cases h1
    exact k w1 H1 a1 x1
/-- an owned list's item -/
theorem rd_oix {i : Nat} {f : Env → Option (D × Env)} {Q : VK} (h : rd K P (fun env => match slotAt env i with
    | .own .lst _ _ => (f env).bind fun p => match slotAt p.2 i, p.1 with
      | .own .lst _ (.lst ds), .int j => (atD ds j).map fun d => (d, p.2)
      | _, _ => none
    | _ => none) σ H Q) : tOp (rIxL K) (tVar i) (rd K P f) σ H Q := by
  obtain ⟨env, w, a, d', env', e, k⟩ := h
  dsimp only at e
  split at e
  · rename_i fix0 d0 hs0
    obtain ⟨q, hq, _, _⟩ := a.own hs0
    refine ⟨_, hq, ?_⟩
    obtain ⟨⟨d1, env1⟩, e1, e⟩ := Option.bind_eq_some_iff.mp e
    dsimp only at e
    split at e
    · rename_i fix ds j hs
      obtain ⟨d2, e2, e⟩ := Option.map_eq_some_iff.mp e
      cases e
      refine ⟨env, w, a, _, _, e1, fun v1 w1 H1 a1 x1 r1 => ?_⟩
      obtain ⟨q', h1, ⟨ds', vs, h2, h3, h4⟩, _⟩ := a1.own hs
      cases h2
      rw [hq] at h1; cases h1
      cases r1
      have h5 : H1 q = some (.lst vs) := a1.sep.oh i q _ (by rw [h4]; exact upd_same)
      have : ∃ z, atI vs j = some z ∧ Rep K w1.F d' z := by
        unfold atD atI at e2
        unfold atI
        rw [h3.length]
        cases hz : ixN ds.length j with
        | none => rw [hz] at e2; cases e2
        | some m => rw [hz] at e2; exact h3.get e2
      obtain ⟨z, hz, rz⟩ := this
      exact ⟨q, vs, j, z, rfl, rfl, SqL.of h5, hz, k z w1 H1 a1 x1 rz⟩
    · cases e
  · cases e
end
end Sb

/-! Sb.Call: a call of a def. -/
namespace Sb
open PySem PySem.Spec PyProof.Rows L2

def posOf : List PArg → Nat → Option Nat
  | [], _ => none
  | .v _ :: r, s => (posOf r s).map (· + 1)
  | .r i :: r, s => if i = s then some 0 else (posOf r s).map (· + 1)
theorem posOf_some : ∀ {ps : List PArg} {s j : Nat}, posOf ps s = some j → ps[j]? = some (.r s)
  | [], _, _, h => by cases h
  | .v _ :: r, s, j, h => by
    rw [posOf] at h
    obtain ⟨m, h1, rfl⟩ := Option.map_eq_some_iff.mp h
    exact posOf_some (ps := r) h1
  | .r i :: r, s, j, h => by
    rw [posOf] at h
    split at h
    · rename_i e; cases h; subst e; rfl
    · obtain ⟨m, h1, rfl⟩ := Option.map_eq_some_iff.mp h
      exact posOf_some (ps := r) h1
theorem refs_mem : ∀ {ps : List PArg} {j i : Nat}, ps[j]? = some (.r i) → i ∈ refs ps
  | [], _, _, h => by simp at h
  | .v _ :: r, 0, _, h => by simp at h
  | .v _ :: r, j + 1, _, h => refs_mem (ps := r) (by simpa using h)
  | .r i :: r, 0, k, h => by simp at h; subst h; exact List.mem_cons_self
  | .r i :: r, j + 1, _, h => List.mem_cons_of_mem _ (refs_mem (ps := r) (by simpa using h))
theorem posOf_none : ∀ {ps : List PArg} {s : Nat}, posOf ps s = none → s ∉ refs ps
  | [], _, _ => by simp [refs]
  | .v _ :: r, s, h => by
    rw [posOf, Option.map_eq_none_iff] at h
    exact posOf_none (ps := r) h
  | .r i :: r, s, h => by
    rw [posOf] at h
    split at h
    · cases h
    · rename_i e
      rw [Option.map_eq_none_iff] at h
      intro z
      rcases List.mem_cons.mp z with z | z
      · exact e z.symm
      · exact posOf_none (ps := r) h z
theorem posOf_at : ∀ {ps : List PArg} {i j : Nat}, (refs ps).Nodup → ps[j]? = some (.r i) → posOf ps i = some j
  | [], _, _, _, h => by simp at h
  | .v _ :: r, _, 0, _, h => by simp at h
  | .v _ :: r, i, j + 1, n, h => by rw [posOf, posOf_at (ps := r) n (by simpa using h)]; rfl
  | .r k :: r, i, 0, n, h => by simp at h; subst h; rw [posOf, if_pos rfl]
  | .r k :: r, i, j + 1, n, h => by
    have h : r[j]? = some (.r i) := by simpa using h
    have n2 := List.nodup_cons.mp n
    rw [posOf, if_neg (fun z => n2.1 (by rw [z]; exact refs_mem h)), posOf_at n2.2 h]; rfl
theorem posOf_inj {ps : List PArg} {s t j : Nat} (h : posOf ps s = some j) (h' : posOf ps t = some j) : s = t := by
  have := posOf_some h
  rw [posOf_some h'] at this
  cases this; rfl
theorem resolve_at : ∀ {env : Env} {ps : List PArg} {as : List Arg}, resolve env ps = some as → as.length = ps.length ∧
    (∀ (j : Nat) (d : D), ps[j]? = some (PArg.v d) → as[j]? = some (Arg.v d)) ∧ (∀ (j i : Nat), ps[j]? = some (PArg.r i) → ∃ k fix d, slotAt env i = .own k fix d ∧ as[j]? = some (Arg.o k d))
  | env, [], as, h => by cases h; exact ⟨rfl, fun j d h => by simp at h, fun j d h => by simp at h⟩
  | env, .v d :: r, as, h => by
    rw [resolve] at h
    obtain ⟨as', h1, rfl⟩ := Option.map_eq_some_iff.mp h
    obtain ⟨p1, p2, p3⟩ := resolve_at h1
    refine ⟨by simp [p1], fun j e q => ?_, fun j i q => ?_⟩
    · cases j with
      | zero => simp at q; subst q; rfl
      | succ j => exact p2 j e (by simpa using q)
    · cases j with
      | zero => simp at q
      | succ j => exact p3 j i (by simpa using q)
  | env, .r i :: r, as, h => by
    rw [resolve] at h
    split at h
    · rename_i k fix d hs
      obtain ⟨as', h1, rfl⟩ := Option.map_eq_some_iff.mp h
      obtain ⟨p1, p2, p3⟩ := resolve_at h1
      refine ⟨by simp [p1], fun j e q => ?_, fun j i' q => ?_⟩
      · cases j with
        | zero => simp at q
        | succ j => exact p2 j e (by simpa using q)
      · cases j with
        | zero => simp at q; subst q; exact ⟨k, fix, d, hs, rfl⟩
        | succ j => exact p3 j i' (by simpa using q)
    · cases h
theorem putOwn_at {env env' : Env} {i : Nat} {k : Kind} {d : D} (h : putOwn env i k d = some env') : env'.length = env.length ∧ ∃ fix d0, slotAt env i = .own k fix d0 ∧ slotAt env' i = .own k fix d ∧ ∀ j, j ≠ i → slotAt env' j = slotAt env j := by
  unfold putOwn at h
  split at h
  · rename_i k' fix d0 hs
    split at h
    · rename_i hz
      obtain ⟨rfl, hi⟩ := hz
      cases h
      refine ⟨by simp, fix, d0, hs, ?_, fun j hj => ?_⟩
      · rw [slotAt_set _ _ _ _ hi, if_pos rfl]
      · rw [slotAt_set _ _ _ _ hi, if_neg (Ne.symm hj)]
    · cases h
  · cases h
theorem putBack_at : ∀ {ps : List PArg} {os : List Arg} {env env' : Env}, putBack ps os env = some env' → (refs ps).Nodup → env'.length = env.length ∧
    ∀ s, (posOf ps s = none → slotAt env' s = slotAt env s) ∧ ∀ j, posOf ps s = some j → ∃ k fix d0 d', slotAt env s = .own k fix d0 ∧ os[j]? = some (.o k d') ∧ slotAt env' s = .own k fix d'
  | [], [], env, env', h, _ => by cases h; exact ⟨rfl, fun s => ⟨fun _ => rfl, fun j q => by cases q⟩⟩
  | [], _ :: _, _, _, h, _ => by cases h
  | .v _ :: r, [], _, _, h, _ => by cases h
  | .v _ :: r, .o _ _ :: _, _, _, h, _ => by cases h
  | .v _ :: r, .v _ :: os, env, env', h, n => by
    obtain ⟨p1, p2⟩ := putBack_at (ps := r) (os := os) (env := env) h n
    refine ⟨p1, fun s => ⟨fun q => (p2 s).1 ?_, fun j q => ?_⟩⟩
    · rw [posOf, Option.map_eq_none_iff] at q; exact q
    · rw [posOf] at q
      obtain ⟨m, q1, rfl⟩ := Option.map_eq_some_iff.mp q
      exact (p2 s).2 m q1
  | .r _ :: r, [], _, _, h, _ => by cases h
  | .r _ :: r, .v _ :: _, _, _, h, _ => by cases h
  | .r i :: r, .o k d :: os, env, env', h, n => by
    obtain ⟨env2, h1, h2⟩ := Option.bind_eq_some_iff.mp h
    have n2 := List.nodup_cons.mp n
    obtain ⟨l1, fix, d0, o1, o2, o3⟩ := putOwn_at h1
    obtain ⟨p1, p2⟩ := putBack_at (ps := r) (os := os) h2 n2.2
    refine ⟨p1.trans l1, fun s => ?_⟩
    by_cases hs : i = s
    · subst hs
      have hn : posOf r i = none := by
        cases z : posOf r i with
        | none => rfl
        | some j => exact absurd (refs_mem (posOf_some z)) n2.1
      refine ⟨fun q => ?_, fun j q => ?_⟩
      · rw [posOf, if_pos rfl] at q; cases q
      · rw [posOf, if_pos rfl] at q; cases q
        exact ⟨k, fix, d0, d, o1, rfl, ((p2 i).1 hn).trans o2⟩
    · refine ⟨fun q => ?_, fun j q => ?_⟩
      · rw [posOf, if_neg hs, Option.map_eq_none_iff] at q
        exact ((p2 s).1 q).trans (o3 s (Ne.symm hs))
      · rw [posOf, if_neg hs] at q
        obtain ⟨m, q1, rfl⟩ := Option.map_eq_some_iff.mp q
        obtain ⟨k', fix', a, b, c1, c2, c3⟩ := (p2 s).2 m q1
        exact ⟨k', fix', a, b, (o3 s (Ne.symm hs)).symm.trans c1, c2, c3⟩
theorem paired_get {α β : Type} {F : α → β → Prop} : ∀ {l : List α} {m : List β} {i : Nat} {x : α} {y : β}, Paired F l m → l[i]? = some x → m[i]? = some y → F x y
  | _, _, _, _, _, .nil, h, _ => by simp at h
  | _, _, 0, _, _, .cons r _, h, h' => by simp at h h'; subst h h'; exact r
  | _, _, i + 1, x, y, .cons _ t, h, h' => paired_get (i := i) t (by simpa using h) (by simpa using h')
section
variable {K : PySem.W.Frag} {P : Nat → Addr} {G : Nat → Option D} {Φ : Nat → FnSem} {σ : L2.St} {H : Hp}
theorem rd_call {f : Nat} {es : List E} {n : Nat} {Q : VK} (hn : es.length = n) (hlen : ∀ env ps env', evA G Φ es env = some (ps, env') → ps.length = es.length) (h : rd K P (evE G Φ (.call f es)) σ H Q) :
    tCall (spOf K (Φ f) n) [] E0 (rdA K P (evA G Φ es)) σ H Q := by
  obtain ⟨env, w, a, d, env', e, k⟩ := h
  rw [evE] at e
  obtain ⟨⟨ps, env1⟩, e1, e⟩ := Option.bind_eq_some_iff.mp e
  dsimp only at e
  split at e
  · rename_i nd
    obtain ⟨as, e2, e⟩ := Option.bind_eq_some_iff.mp e
    obtain ⟨⟨d', os⟩, e3, e⟩ := Option.bind_eq_some_iff.mp e
    obtain ⟨env2, e4, e⟩ := Option.map_eq_some_iff.mp e
    cases e
    dsimp only at e4 k
    refine ⟨env, w, a, ps, env1, e1, fun vs w1 H1 a1 x1 pr => ?_⟩
    dsimp only
    rw [List.append_nil]
    obtain ⟨l1, rv, rr⟩ := resolve_at e2
    have hpl : ps.length = n := (hlen _ _ _ e1).trans hn
    have hvl : vs.length = ps.length := (Paired.length pr).symm
    generalize hOc : (fun (j : Nat) => match ps[j]? with | some (PArg.r i) => w1.O i | _ => nil) = Oc
    generalize hPc : (fun (j : Nat) => match vs[j]? with | some (V.ref p) => p | _ => (0 : Addr)) = Pc
    have Oc_r : ∀ {j i : Nat}, ps[j]? = some (PArg.r i) → Oc j = w1.O i := fun {j i} q => by rw [← hOc]; dsimp only; rw [q]
    have Oc_o : ∀ {j : Nat}, (∀ i, ps[j]? ≠ some (PArg.r i)) → Oc j = nil := fun {j} q => by
      rw [← hOc]; dsimp only
      split
      · rename_i z; exact absurd z (q _)
      · rfl
    have Oc_cases : ∀ j, (∃ i, ps[j]? = some (PArg.r i) ∧ Oc j = w1.O i) ∨ Oc j = nil := fun j => by
      by_cases z : ∃ i, ps[j]? = some (PArg.r i)
      · obtain ⟨i, z⟩ := z; exact .inl ⟨i, z, Oc_r z⟩
      · exact .inr (Oc_o fun i q => z ⟨i, q⟩)
    have Pc_at : ∀ {j i : Nat} {q : Addr}, ps[j]? = some (PArg.r i) → σ[i]? = some (some (.ref q)) → vs[j]? = some (.ref q) ∧ Pc j = q := fun {j i q} z1 z2 => by
      have hj : j < ps.length := (List.getElem?_eq_some_iff.mp z1).1
      have hv : vs[j]? = some vs[j] := List.getElem?_eq_getElem (by omega)
      have z3 : σ[i]? = some (some vs[j]) := (show PArgOk K σ w1.F (.r i) vs[j] from paired_get pr z1 hv)
      rw [z2] at z3
      have z4 : V.ref q = vs[j] := Option.some.inj (Option.some.inj z3)
      rw [← z4] at hv
      refine ⟨hv, ?_⟩
      rw [← hPc]; dsimp only; rw [hv]
    refine ⟨w1.F, Oc, Pc, as, ⟨a1.sep.fh, fun j => ?_, fun j c o z => ?_, fun j m c o z1 z2 => ?_⟩, fun j hj => ?_, by omega, by omega, fun j ar v q1 q2 => ?_, d', os, e3, fun v F' O' H' s' x' r' ou => ?_⟩
    · rcases Oc_cases j with ⟨i, _, z⟩ | z <;> rw [z]
      · exact a1.sep.oh i
      · intro c o z; cases z
    · rcases Oc_cases j with ⟨i, _, z'⟩ | z' <;> rw [z'] at z
      · exact a1.sep.fo i c o z
      · cases z
    · rcases Oc_cases j with ⟨i, y1, z'⟩ | z' <;> rw [z'] at z2
      · rcases Oc_cases m with ⟨i', y2, z''⟩ | z'' <;> rw [z'']
        · refine a1.sep.oo i i' c o (fun z => z1 ?_) z2
          subst z
          have t1 := posOf_at nd y1
          rw [posOf_at nd y2] at t1
          exact (Option.some.inj t1).symm
        · rfl
      · cases z2
    · exact Oc_o fun i z => by
        have := (List.getElem?_eq_some_iff.mp z).1
        omega
    · have hj : j < ps.length := by have := (List.getElem?_eq_some_iff.mp q1).1; omega
      have hp : ps[j]? = some ps[j] := List.getElem?_eq_getElem hj
      cases hpj : ps[j] with
      | v dd =>
        rw [hpj] at hp
        rw [rv j dd hp] at q1; cases q1
        exact ⟨Oc_o (fun i z => by rw [hp] at z; cases z), (show PArgOk K σ w1.F (.v dd) v from paired_get pr hp q2)⟩
      | r i =>
        rw [hpj] at hp
        obtain ⟨kk, fix, dd, y1, y2⟩ := rr j i hp
        rw [y2] at q1; cases q1
        obtain ⟨q, t1, t2, _⟩ := a1.own y1
        obtain ⟨t3, t4⟩ := Pc_at hp t1
        rw [t3] at q2; cases q2
        rw [Oc_r hp, t4]
        exact ⟨rfl, t2⟩
    · -- behind the call
      obtain ⟨l2, pb⟩ := putBack_at e4 nd
      generalize hO2 : (fun (s : Nat) => match posOf ps s with | some j => O' j | none => w1.O s) = O2
      have O2_s : ∀ {s j : Nat}, posOf ps s = some j → O2 s = O' j := fun {s j} q => by rw [← hO2]; dsimp only; rw [q]
      have O2_n : ∀ {s : Nat}, posOf ps s = none → O2 s = w1.O s := fun {s} q => by rw [← hO2]; dsimp only; rw [q]
      have off : ∀ {s j : Nat} {c : Addr} {o : HO}, posOf ps s = none → w1.O s c = some o → Oc j c = none := fun {s j c o} hp z => by
        rcases Oc_cases j with ⟨i, y, z'⟩ | z' <;> rw [z']
        · refine a1.sep.oo s i c o (fun z2 => ?_) z
          subst z2
          exact posOf_none hp (refs_mem y)
        · rfl
      have up : ∀ {j : Nat} {c : Addr} {o : HO}, Oc j c = some o → ∃ i u, w1.O i c = some u := fun {j c o} z => by
        rcases Oc_cases j with ⟨i, _, z'⟩ | z' <;> rw [z'] at z
        · exact ⟨i, o, z⟩
        · cases z
      have sp2 : Sepd F' O2 H' := by
        refine ⟨s'.fh, fun s => ?_, fun s c o z => ?_, fun s t c o z1 z2 => ?_⟩
        · cases hp : posOf ps s with
          | some j => rw [O2_s hp]; exact s'.oh j
          | none =>
            rw [O2_n hp]
            exact fun c o z => x'.hh c o (a1.sep.oh s c o z) fun j => off hp z
        · cases hp : posOf ps s with
          | some j => rw [O2_s hp] at z; exact s'.fo j c o z
          | none =>
            rw [O2_n hp] at z
            cases q : F' c with
            | none => rfl
            | some u =>
              exfalso
              rcases x'.nf c u q with ⟨u', y⟩ | ⟨j, u', y⟩ | y
              · rw [a1.sep.fo s c o z] at y; cases y
              · rw [off hp z] at y; cases y
              · rw [a1.sep.oh s c o z] at y; cases y
        · cases hp : posOf ps s with
          | some j =>
            rw [O2_s hp] at z2
            cases hq : posOf ps t with
            | some m =>
              rw [O2_s hq]
              exact s'.oo j m c o (fun y => z1 (by subst y; exact posOf_inj hp hq)) z2
            | none =>
              rw [O2_n hq]
              cases q : w1.O t c with
              | none => rfl
              | some u =>
                exfalso
                rcases x'.no j c o z2 with ⟨m, u', y⟩ | y
                · rw [off hq q] at y; cases y
                · rw [a1.sep.oh t c u q] at y; cases y
          | none =>
            rw [O2_n hp] at z2
            cases hq : posOf ps t with
            | some m =>
              rw [O2_s hq]
              cases q : O' m c with
              | none => rfl
              | some u =>
                exfalso
                rcases x'.no m c u q with ⟨m', u', y⟩ | y
                · rw [off hp z2] at y; cases y
                · rw [a1.sep.oh s c o z2] at y; cases y
            | none => rw [O2_n hq]; exact a1.sep.oo s t c o z1 z2
      have x2 : Ext w1.F w1.O H1 F' O2 H' := by
        refine ⟨x'.ff, fun c o z n => x'.hh c o z fun j => ?_, fun c o z => ?_, fun s c o z => ?_⟩
        · rcases Oc_cases j with ⟨i, _, z'⟩ | z' <;> rw [z']
          · exact n i
          · rfl
        · rcases x'.nf c o z with y | ⟨j, u, y⟩ | y
          · exact .inl y
          · exact .inr (.inl (up y))
          · exact .inr (.inr y)
        · cases hp : posOf ps s with
          | some j =>
            rw [O2_s hp] at z
            rcases x'.no j c o z with ⟨m, u, y⟩ | y
            · exact .inl (up y)
            · exact .inr y
          | none => rw [O2_n hp] at z; exact .inl ⟨s, o, z⟩
      refine k v ⟨F', O2⟩ H' ⟨l2.trans a1.len, sp2, fun s => ?_⟩ (x1.trans a.sep a1.sep x2) r'
      show SlotOk K F' (O2 s) (P s) _ _
      cases hp : posOf ps s with
      | none =>
        rw [O2_n hp, (pb s).1 hp]
        exact (a1.sl s).mono x'.ff
      | some j =>
        obtain ⟨kk, fix, d0, d1, y1, y2, y3⟩ := (pb s).2 j hp
        rw [O2_s hp, y3]
        obtain ⟨q, t1, t2, t3⟩ := a1.own y1
        obtain ⟨_, t4⟩ := Pc_at (posOf_some hp) t1
        have t5 := ou j _ y2
        rw [t4] at t5
        refine ⟨q, ?_, t5, t3⟩
        unfold valAt
        rw [List.getD_eq_getElem?_getD, t1]; rfl
  · cases e
theorem evA_len : ∀ {es : List E} {env env' : Env} {ps : List PArg}, evA G Φ es env = some (ps, env') → ps.length = es.length
  | [], _, _, _, h => by rw [evA] at h; cases h; rfl
  | e :: es, env, env', ps, h => by
    rw [evA] at h
    split at h
    · split at h
      · obtain ⟨q, h1, h2⟩ := Option.map_eq_some_iff.mp h
        cases h2
        simp [evA_len (es := es) (ps := q.1) (env' := q.2) h1]
      · cases h
    · obtain ⟨p, h0, h⟩ := Option.bind_eq_some_iff.mp h
      obtain ⟨q, h1, h2⟩ := Option.map_eq_some_iff.mp h
      cases h2
      simp [evA_len (es := es) (ps := q.1) (env' := q.2) h1]
end
end Sb

/-! Sb.Loop: what is walked; for; comprehensions. -/
namespace Sb
open PySem PySem.Spec PyProof.Rows L2

section
variable {K : PySem.W.Frag} {F : Hp}
theorem wlk_list {a : Addr} {ds : List D} {vs : List V} (ha : F a = some (.lst vs)) (r : RepL K F ds vs) : Wlk K F (Itl K a) ds := by
  unfold Wlk
  rw [← r.length]
  refine (walk_list (K := K) (a := a) (xs := vs)).mono (fun H s => SqL.of (s _ _ ha)) fun i H x H' hi s y => ?_
  obtain ⟨rfl, hx⟩ := y
  obtain ⟨d, h1, h2⟩ := r.getV hx
  exact fun F1 s1 s2 => ⟨F1, d, h1, PX.refl s2, h2.mono s1 d x⟩
theorem wlk_tup {a : Addr} {ds : List D} {vs : List V} (ha : SqT K F a vs) (r : RepL K F ds vs) : Wlk K F (Itt K a) ds := by
  unfold Wlk
  rw [← r.length]
  refine (walk_tup (K := K) (a := a) (xs := vs)).mono (fun H s => Same.seqT s ha) fun i H x H' hi s y => ?_
  obtain ⟨rfl, hx⟩ := y
  obtain ⟨d, h1, h2⟩ := r.getV hx
  exact fun F1 s1 s2 => ⟨F1, d, h1, PX.refl s2, h2.mono s1 d x⟩
theorem rngD_length (lo : Int) (n : Nat) : (rngD lo n).length = n := by unfold rngD; simp
theorem rngD_at {lo : Int} {n i : Nat} (h : i < n) : (rngD lo n)[i]? = some (.int (lo + (i : Int))) := by unfold rngD; simp [h]
theorem wlk_rng {lo : Int} {n : Nat} : Wlk K F (Itr lo n) (rngD lo n) := by
  unfold Wlk
  rw [rngD_length]
  refine (walk_range (lo := lo) (n := n)).mono (fun _ _ => trivial) fun i H x H' hi s y => ?_
  obtain ⟨rfl, rfl⟩ := y
  exact fun F1 s1 s2 => ⟨F1, _, rngD_at hi, PX.refl s2, rfl⟩
theorem enmD_length : ∀ (k : Nat) (ds : List D), (enmD k ds).length = ds.length
  | _, [] => rfl
  | k, d :: r => by rw [enmD, List.length_cons, enmD_length, List.length_cons]
theorem enmD_at : ∀ {k : Nat} {ds : List D} {i : Nat} {d : D}, ds[i]? = some d → (enmD k ds)[i]? = some (.tup [.int ((k + i : Nat) : Int), d])
  | _, [], _, _, h => by simp at h
  | k, e :: r, 0, d, h => by simp at h; subst h; rfl
  | k, e :: r, i + 1, d, h => by
    rw [enmD, List.getElem?_cons_succ, enmD_at (k := k + 1) (by simpa using h)]
    have : k + 1 + i = k + (i + 1) := by omega
    rw [this]
/-- each item in a new pair behind its place -/
theorem wlk_pair {J : It} {ds : List D} {vs : List V} {Gd : Hp → Prop} (w : L2.Walk J vs.length Gd (YPair (fun i => some (.int (i : Nat))) (fun i => vs[i]?))) (hg : ∀ H, Same F H → Gd H) (r : RepL K F ds vs) : Wlk K F J (enmD 0 ds) := by
  unfold Wlk
  rw [enmD_length, ← r.length]
  refine w.mono hg fun i H x H' hi s y => ?_
  obtain ⟨T, x1, x2, rfl, hT, rfl, e1, e2⟩ := y
  cases e1
  obtain ⟨d, h1, h2⟩ := r.getV e2
  refine fun F1 s1 s2 => ?_
  obtain ⟨px, rr⟩ := new_tup (K := K) (ds := [.int (i : Nat), d]) (vs := [.int (i : Nat), x2]) s2 hT (RepL.cons rfl (RepL.cons (h2.mono s1 d x2) RepL.nil))
  exact ⟨_, _, by rw [enmD_at h1, Nat.zero_add], px, rr⟩
end

section
variable {K : PySem.W.Frag} {P : Nat → Addr} {G : Nat → Option D} {Φ : Nat → FnSem} {σ : L2.St} {H : Hp}
theorem drop_at {α : Type} {l : List α} {i : Nat} {d : α} (h : l[i]? = some d) : l.drop i = d :: l.drop (i + 1) := by
  obtain ⟨h1, h2⟩ := List.getElem?_eq_some_iff.mp h
  rw [List.drop_eq_getElem_cons h1, h2]
theorem rd_for {t : List Nat} {one : Bool} {src : E} {body : List S} {D : Ends} (h : rdS K P (evS G Φ (.for_ t one src body)) D σ H) :
    tFor (rdI K P (evE G Φ src)) (gOf K one t) (rdS K P (evSs G Φ body)) D σ H := by
  obtain ⟨env, w, a, fl, e, k⟩ := h
  rw [evS] at e
  obtain ⟨⟨d1, env1⟩, e1, e⟩ := Option.bind_eq_some_iff.mp e
  dsimp only at e
  cases d1 with
  | lst ds =>
    have e : forGo one t (fun e => evSs G Φ body e) ds env1 = some fl := e
    refine ⟨env, w, a, ds, env1, e1, fun J w1 H1 a1 x1 wk => ?_⟩
    refine for_it wk (fun i σ' H' => ∃ env' w', At K P σ' env' w' H' ∧ ExtW w1 H1 w' H' ∧ forGo one t (fun e => evSs G Φ body e) (ds.drop i) env' = some fl)
      ⟨env1, w1, a1, Ext.refl, e⟩ (fun i σ' H' _ ⟨env', w', a', x', _⟩ => x'.ff.trans a'.sep.fh) (fun i x σ' H' H'' hi ⟨env', w', a', x', e'⟩ y => ?_) fun σ' H' ⟨env', w', a', x', e'⟩ => ?_
    · obtain ⟨F2, d, h1, px, r⟩ := y w'.F x'.ff a'.sep.fh
      rw [drop_at h1, forGo] at e'
      obtain ⟨env2, e2, e'⟩ := Option.bind_eq_some_iff.mp e'
      obtain ⟨f, e3, e'⟩ := Option.bind_eq_some_iff.mp e'
      have a2 : At K P σ' env' ⟨F2, w'.O⟩ H'' := a'.px px
      have x2 := x'.trans a1.sep a'.sep (ext_px a'.sep px)
      refine g_at (w := ⟨F2, w'.O⟩) e2 a2 r fun σ3 w3 a3 x3 _ _ => ?_
      have x13 := x2.trans a1.sep a2.sep x3
      refine ⟨env2, w3, a3, f, e3, ?_⟩
      cases f with
      | nx env3 => exact fun σ4 w4 H4 a4 x4 => ⟨env3, w4, a4, x13.trans a1.sep a3.sep x4, e'⟩
      | rt d2 env3 =>
        have e' : some (Fl.rt d2 env3) = some fl := e'
        cases e'
        exact fun v σ4 w4 H4 a4 x4 r4 => k v σ4 w4 H4 a4 (x1.trans a.sep a1.sep (x13.trans a1.sep a3.sep x4)) r4
    · rw [List.drop_of_length_le (Nat.le_refl _), forGo] at e'
      cases e'
      exact k σ' w' H' a' (x1.trans a.sep a1.sep x')
  | _ => cases e

/-! ### comprehensions -/
theorem Sepd.sub {F : Hp} {O O2 : Nat → Hp} (s : Sepd F O H) (h : ∀ i, O2 i = nil ∨ O2 i = O i) : Sepd F O2 H where
  fh := s.fh
  oh := fun i => by
    rcases h i with e | e <;> rw [e]
    · intro a o z; cases z
    · exact s.oh i
  fo := fun i a o z => by
    rcases h i with e | e <;> rw [e] at z
    · cases z
    · exact s.fo i a o z
  oo := fun i j a o n z => by
    rcases h i with e | e <;> rw [e] at z
    · cases z
    · rcases h j with e' | e' <;> rw [e']
      · rfl
      · exact s.oo i j a o n z
theorem Ext.sub {F F' H' : Hp} {O O' O2 : Nat → Hp} (x : Ext F O H F' O' H') (h : ∀ i, O2 i = nil ∨ O2 i = O' i) : Ext F O H F' O2 H' :=
  ⟨x.ff, x.hh, x.nf, fun j a o z => by
    rcases h j with e | e <;> rw [e] at z
    · cases z
    · exact x.no j a o z⟩
theorem wipe_at (σ : L2.St) : ∀ (vs : List Nat) (j : Nat), valAt (wipe σ vs) j = if j ∈ vs then Option.none else valAt σ j
  | [], j => by simp [wipe]
  | v :: vs, j => by
    rw [wipe]
    by_cases hv : v < (wipe σ vs).length
    · rw [valAt_set _ _ _ _ hv, wipe_at σ vs j]
      by_cases e : v = j
      · subst e; simp
      · rw [if_neg e]
        by_cases h2 : j ∈ vs
        · rw [if_pos h2, if_pos (List.mem_cons_of_mem _ h2)]
        · rw [if_neg h2, if_neg (by simp [h2, Ne.symm e])]
    · rw [List.set_eq_of_length_le (by omega), wipe_at σ vs j]
      by_cases e : v = j
      · subst e
        have : valAt σ v = Option.none := by
          rw [wipe_length] at hv
          unfold valAt
          rw [List.getD_eq_getElem?_getD, List.getElem?_eq_none (by omega)]; rfl
        rw [this]; simp
      · by_cases h2 : j ∈ vs
        · rw [if_pos h2, if_pos (List.mem_cons_of_mem _ h2)]
        · rw [if_neg h2, if_neg (by simp [h2, Ne.symm e])]
theorem wipeE_at (env : Env) : ∀ (vs : List Nat) (j : Nat), slotAt (wipeE env vs) j = if j ∈ vs then Slot.none else slotAt env j
  | [], j => by simp [wipeE]
  | v :: vs, j => by
    rw [wipeE]
    by_cases hv : v < (wipeE env vs).length
    · rw [slotAt_set _ _ _ _ hv, wipeE_at env vs j]
      by_cases e : v = j
      · subst e; simp
      · rw [if_neg e]
        by_cases h2 : j ∈ vs
        · rw [if_pos h2, if_pos (List.mem_cons_of_mem _ h2)]
        · rw [if_neg h2, if_neg (by simp [h2, Ne.symm e])]
    · rw [List.set_eq_of_length_le (by omega)]
      by_cases e : v = j
      · subst e
        have : slotAt (wipeE env vs) v = Slot.none := by
          unfold slotAt
          rw [List.getD_eq_getElem?_getD, List.getElem?_eq_none (by omega)]; rfl
        rw [this]; simp
      · rw [wipeE_at env vs j]
        by_cases h2 : j ∈ vs
        · rw [if_pos h2, if_pos (List.mem_cons_of_mem _ h2)]
        · rw [if_neg h2, if_neg (by simp [h2, Ne.symm e])]
theorem wipeE_length (env : Env) : ∀ vs : List Nat, (wipeE env vs).length = env.length
  | [] => rfl
  | v :: vs => by rw [wipeE, List.length_set, wipeE_length env vs]
theorem backE_length (env0 env : Env) : ∀ vs : List Nat, (backE env0 env vs).length = env.length
  | [] => rfl
  | v :: vs => by rw [backE, List.length_set, backE_length env0 env vs]
theorem backE_at {env0 env : Env} (hl : env0.length = env.length) : ∀ (vs : List Nat) (j : Nat), slotAt (backE env0 env vs) j = if j ∈ vs then slotAt env0 j else slotAt env j
  | [], j => by simp [backE]
  | v :: vs, j => by
    rw [backE]
    by_cases hv : v < (backE env0 env vs).length
    · rw [slotAt_set _ _ _ _ hv, backE_at hl vs j]
      by_cases e : v = j
      · subst e; simp
      · rw [if_neg e]
        by_cases h2 : j ∈ vs
        · rw [if_pos h2, if_pos (List.mem_cons_of_mem _ h2)]
        · rw [if_neg h2, if_neg (by simp [h2, Ne.symm e])]
    · rw [List.set_eq_of_length_le (by omega)]
      by_cases e : v = j
      · subst e
        rw [backE_length, ← hl] at hv
        have h1 : slotAt env0 v = Slot.none := by
          unfold slotAt
          rw [List.getD_eq_getElem?_getD, List.getElem?_eq_none (by omega)]; rfl
        have h2 : slotAt (backE env0 env vs) v = Slot.none := by
          unfold slotAt
          rw [List.getD_eq_getElem?_getD, List.getElem?_eq_none (by rw [backE_length]; omega)]; rfl
        rw [h1, h2]; simp
      · rw [backE_at hl vs j]
        by_cases h2 : j ∈ vs
        · rw [if_pos h2, if_pos (List.mem_cons_of_mem _ h2)]
        · rw [if_neg h2, if_neg (by simp [h2, Ne.symm e])]
theorem noOwn_at {env : Env} {vs : List Nat} (h : noOwn env vs = true) {i : Nat} (hi : i ∈ vs) {k : Kind} {fix : Bool} {d : D} (e : slotAt env i = .own k fix d) : False := by
  have := List.all_eq_true.mp h i hi
  rw [e] at this
  cases this
/-- an owned cell of this slot's is none -/
theorem At.nilO {env : Env} {w : Wd} {i : Nat} (a : At K P σ env w H) (h : ∀ k fix d, slotAt env i ≠ .own k fix d) : w.O i = nil := by
  have := a.sl i
  cases e : slotAt env i with
  | none => rw [e] at this; exact this
  | val d => rw [e] at this; exact this.1
  | own k fix d => exact absurd e (h k fix d)
theorem wipe_eq {σ σ2 : L2.St} {t vs : List Nat} (hs : ∀ i ∈ t, i ∈ vs) (hl : σ2.length = (wipe σ vs).length) (h : ∀ j, j ∉ t → σ2[j]? = (wipe σ vs)[j]?) : wipe σ2 vs = wipe σ vs := by
  have gw : ∀ (τ : L2.St) (vs : List Nat) (j : Nat), (wipe τ vs)[j]? = if j ∈ vs then (if j < τ.length then some Option.none else Option.none) else τ[j]? := by
    intro τ vs
    induction vs with
    | nil => intro j; simp [wipe]
    | cons v r ih =>
      intro j
      rw [wipe, List.getElem?_set, ih j, wipe_length]
      by_cases e : v = j
      · subst e; simp
      · rw [if_neg e]
        by_cases h2 : j ∈ r
        · rw [if_pos h2, if_pos (List.mem_cons_of_mem _ h2)]
        · rw [if_neg h2, if_neg (by simp [h2, Ne.symm e])]
  apply List.ext_getElem?
  intro j
  rw [gw, gw]
  rw [wipe_length] at hl
  by_cases hj : j ∈ vs
  · rw [if_pos hj, if_pos hj, hl]
  · rw [if_neg hj, if_neg hj, h j fun z => hj (hs j z), gw, if_neg hj]
/-- H without the cell at D -/
def era (H : Hp) (D : Addr) : Hp := fun a => if a = D then Option.none else H a
theorem era_same {H : Hp} {D : Addr} : era H D D = Option.none := if_pos rfl
theorem era_ne {H : Hp} {D a : Addr} (h : a ≠ D) : era H D a = H a := if_neg h
theorem upd_era {H : Hp} {D : Addr} {o : HO} (h : H D = some o) : upd (era H D) D o = H := by
  funext a
  by_cases e : a = D
  · subst e; rw [upd_same, h]
  · rw [upd_ne e, era_ne e]
theorem rdF_lc {vs t : List Nat} {src c elt : E} {Q : VK} (hs : ∀ i ∈ t, i ∈ vs) (h : rdF K P (evE G Φ (.lc vs t src c elt)) σ H Q) :
    tLc (rdI K P (evE G Φ src)) (gOf K (t.length == 1) t) (rdT K P (evE G Φ c)) (rd K P (evE G Φ elt)) vs σ H Q := by
  obtain ⟨env, w, a, xs, env', e, k⟩ := h
  rw [evE] at e
  obtain ⟨⟨d1, env1⟩, e1, e⟩ := Option.bind_eq_some_iff.mp e
  cases d1 with
  | lst ds =>
    dsimp only at e
    split at e
    · rename_i hno
      obtain ⟨⟨xs', envE⟩, e2, e⟩ := Option.bind_eq_some_iff.mp e
      dsimp only at e
      split at e
      · rename_i hlim
        cases e
        refine ⟨env, w, a, ds, env1, e1, fun J w1 H1 a1 x1 wk => fun D hD => ?_⟩
        have aw : At K P (wipe σ vs) (wipeE env1 vs) w1 H1 := by
          refine ⟨by rw [wipeE_length, wipe_length]; exact a1.len, a1.sep, fun j => ?_⟩
          rw [wipeE_at, wipe_at]
          by_cases hj : j ∈ vs
          · rw [if_pos hj, if_pos hj]
            exact a1.nilO fun kk fix d z => noOwn_at hno hj z
          · rw [if_neg hj, if_neg hj]; exact a1.sl j
        have notD : ∀ {F : Hp} {o : HO} {b : Addr}, F D = Option.none → F b = some o → b ≠ D := fun {F o b} h1 h2 z => by rw [z, h1] at h2; cases h2
        have h1D : ∀ {b : Addr} {o : HO}, H1 b = some o → b ≠ D := fun {b o} z => notD hD z
        refine lc_it wk (fun i H' => ∃ env2 w2 accD accV rest, At K P (wipe σ vs) env2 w2 H' ∧ Ext w1.F w1.O H1 w2.F w2.O H' ∧ (∀ s ∈ vs, slotAt env2 s = Slot.none) ∧ H' D = some (.lst accV) ∧ w2.F D = Option.none ∧ (∀ j, w2.O j D = Option.none) ∧
            RepL K w2.F accD accV ∧ lcGo (t.length == 1) t (fun e => evE G Φ c e) (fun e => evE G Φ elt e) vs (ds.drop i) env2 = some (rest, envE) ∧ accD ++ rest = xs)
          ⟨_, w1, [], [], xs, ⟨aw.len, ⟨aw.sep.fh.trans (same_new hD), fun i => (aw.sep.oh i).trans (same_new hD), aw.sep.fo, aw.sep.oo⟩, aw.sl⟩, Ext.px aw.sep (PX.newH aw.sep.fh hD), fun s z => by rw [wipeE_at, if_pos z], upd_same, a1.sep.fh.free hD, fun j => (a1.sep.oh j).free hD, RepL.nil, e2, rfl⟩
          (fun i H' _ ⟨_, w2, _, _, _, a2, x2, _⟩ => x2.ff.trans a2.sep.fh) (fun i x H' H'' hi hp y => ?_) fun H' hp => ?_
        · obtain ⟨env2, w2, accD, accV, rest, a2, x2, hn, hDl, fD, oD, rA, e3, e4⟩ := hp
          obtain ⟨F2, d, h1, px, r⟩ := y w2.F x2.ff a2.sep.fh
          rw [drop_at h1, lcGo] at e3
          obtain ⟨env3, e5, e3⟩ := Option.bind_eq_some_iff.mp e3
          obtain ⟨⟨d4, env4⟩, e6, e3⟩ := Option.bind_eq_some_iff.mp e3
          dsimp only at e3
          have a2' : At K P (wipe σ vs) env2 ⟨F2, w2.O⟩ H'' := a2.px px
          have xa := x2.trans a1.sep a2.sep (ext_px a2.sep px)
          -- D stays
          have stay : ∀ {w3 : Wd} {H3 : Hp}, Ext F2 w2.O H'' w3.F w3.O H3 → H3 D = some (.lst accV) ∧ w3.F D = Option.none ∧ ∀ j, w3.O j D = Option.none := fun {w3 H3} x3 => by
            have hD2 : H'' D = some (.lst accV) := px.hh _ _ hDl
            have fD2 : F2 D = Option.none := by
              cases z : F2 D with
              | none => rfl
              | some u =>
                rcases px.nw D u z with ⟨u', z'⟩ | z'
                · rw [fD] at z'; cases z'
                · rw [hDl] at z'; cases z'
            refine ⟨x3.hh D _ hD2 oD, ?_, fun j => ?_⟩
            · cases z : w3.F D with
              | none => rfl
              | some u =>
                rcases x3.nf D u z with ⟨u', z'⟩ | ⟨i', u', z'⟩ | z'
                · rw [fD2] at z'; cases z'
                · rw [oD i'] at z'; cases z'
                · rw [hD2] at z'; cases z'
            · cases z : w3.O j D with
              | none => rfl
              | some u =>
                rcases x3.no j D u z with ⟨i', u', z'⟩ | z'
                · rw [oD i'] at z'; cases z'
                · rw [hD2] at z'; cases z'
          -- a turn's end
          have fin : ∀ {σ4 : L2.St} {env4 : Env} {w4 : Wd} {H4 : Hp} {aD : List Sb.D} {aV : List V} {rr : List Sb.D}, At K P σ4 env4 w4 H4 → wipe σ4 vs = wipe σ vs → Ext F2 w2.O H'' w4.F w4.O H4 → RepL K w4.F aD aV →
              lcGo (t.length == 1) t (fun e => evE G Φ c e) (fun e => evE G Φ elt e) vs (ds.drop (i + 1)) (wipeE env4 vs) = some (rr, envE) → aD ++ rr = xs →
              ∃ env2 w2 accD accV rest, At K P (wipe σ vs) env2 w2 (upd H4 D (.lst aV)) ∧ Ext w1.F w1.O H1 w2.F w2.O (upd H4 D (.lst aV)) ∧ (∀ s ∈ vs, slotAt env2 s = Slot.none) ∧ (upd H4 D (.lst aV)) D = some (.lst accV) ∧ w2.F D = Option.none ∧ (∀ j, w2.O j D = Option.none) ∧
                RepL K w2.F accD accV ∧ lcGo (t.length == 1) t (fun e => evE G Φ c e) (fun e => evE G Φ elt e) vs (ds.drop (i + 1)) env2 = some (rest, envE) ∧ accD ++ rest = xs := fun {σ4 env4 w4 H4 aD aV rr} a4 hw x4 ra el ex => by
            obtain ⟨k1, k2, k3⟩ := stay x4
            have sub : ∀ i, (fun j => if j ∈ vs then nil else w4.O j) i = nil ∨ (fun j => if j ∈ vs then nil else w4.O j) i = w4.O i := fun i => by
              dsimp only
              by_cases z : i ∈ vs
              · rw [if_pos z]; exact .inl rfl
              · rw [if_neg z]; exact .inr rfl
            have sD : ∀ {F : Hp}, F D = Option.none → Same F H4 → Same F (upd H4 D (.lst aV)) := fun {F} z1 z2 b o z3 => by
              rw [upd_ne (notD z1 z3)]; exact z2 b o z3
            refine ⟨wipeE env4 vs, ⟨w4.F, fun j => if j ∈ vs then nil else w4.O j⟩, aD, aV, rr, ⟨by rw [wipeE_length, a4.len, ← wipe_length σ4 vs, hw], ?_, fun j => ?_⟩, ?_, fun s z => by rw [wipeE_at, if_pos z], upd_same, k2, fun j => ?_, ra, el, ex⟩
            · exact Sepd.sub (O := w4.O) ⟨sD k2 a4.sep.fh, fun i => sD (k3 i) (a4.sep.oh i), a4.sep.fo, a4.sep.oo⟩ sub
            · show SlotOk K w4.F (if j ∈ vs then nil else w4.O j) _ _ _
              rw [wipeE_at, ← hw, wipe_at]
              by_cases z : j ∈ vs
              · rw [if_pos z, if_pos z, if_pos z]; rfl
              · rw [if_neg z, if_neg z, if_neg z]; exact a4.sl j
            · have xb := xa.trans a1.sep a2'.sep x4
              exact Ext.sub (O' := w4.O) ⟨xb.ff, fun b o z1 z2 => by rw [upd_ne (h1D z1)]; exact xb.hh b o z1 z2, xb.nf, xb.no⟩ sub
            · show (if j ∈ vs then nil else w4.O j) D = Option.none
              by_cases z : j ∈ vs
              · rw [if_pos z]; rfl
              · rw [if_neg z]; exact k3 j
          refine g_at (w := ⟨F2, w2.O⟩) e5 a2' r fun σ3 w3 a3 x3 _ hσ => ?_
          have hw3 : wipe σ3 vs = wipe σ vs := wipe_eq hs hσ.1 hσ.2
          cases d4 with
          | bl b =>
            refine ⟨hw3, env3, w3, a3, b, env4, e6, fun w4 H4 a4 x4 => ?_⟩
            have x24 : Ext F2 w2.O H'' w4.F w4.O H4 := x3.trans a2'.sep a3.sep x4
            cases b with
            | true =>
              obtain ⟨⟨d5, env5⟩, e7, e3⟩ := Option.bind_eq_some_iff.mp e3
              obtain ⟨⟨rr, envr⟩, e8, e3⟩ := Option.bind_eq_some_iff.mp e3
              cases e3
              dsimp only
              rw [if_pos rfl]
              refine ⟨env4, w4, a4, d5, env5, e7, fun z w5 H5 a5 x5 r5 => ?_⟩
              have x25 := x24.trans a2'.sep a4.sep x5
              obtain ⟨k1, _, _⟩ := stay x25
              refine ⟨accV, k1, ?_, ?_⟩
              · have := congrArg List.length e4
                rw [List.length_append, List.length_cons] at this
                rw [rA.length]
                have hL : LIM ≤ sizeLine := by rw [sizeLine_eq]; decide
                omega
              · exact fin (aD := accD ++ [d5]) (aV := accV ++ [z]) a5 hw3 x25 (RepL.append (RepL.mono ((px.ff).trans x25.ff) _ _ rA) (RepL.cons r5 RepL.nil)) e8 (by rw [List.append_assoc]; exact e4)
            | false =>
              dsimp only
              rw [if_neg Bool.false_ne_true]
              obtain ⟨k1, _, _⟩ := stay x24
              have := fin (aD := accD) (aV := accV) a4 hw3 x24 (RepL.mono ((px.ff).trans x24.ff) _ _ rA) e3 e4
              have hu : upd H4 D (.lst accV) = H4 := by
                funext b
                by_cases z : b = D
                · subst z; rw [upd_same, k1]
                · rw [upd_ne z]
              rw [hu] at this
              exact this
          | _ => cases e3
        · obtain ⟨env2, w2, accD, accV, rest, a2, x2, hn, hDl, fD, oD, rA, e3, e4⟩ := hp
          rw [List.drop_of_length_le (Nat.le_refl _), lcGo] at e3
          cases e3
          rw [List.append_nil] at e4
          subst e4
          have hb := upd_era hDl
          rw [← hb]
          have sE : ∀ {F : Hp}, F D = Option.none → Same F H' → Same F (era H' D) := fun {F} z1 z2 b o z3 => by
            rw [era_ne (notD z1 z3)]; exact z2 b o z3
          refine k D accV w2 (era H' D) ⟨by rw [backE_length, a2.len, wipe_length], ⟨sE fD a2.sep.fh, fun i => sE (oD i) (a2.sep.oh i), a2.sep.fo, a2.sep.oo⟩, fun j => ?_⟩ (x1.trans a.sep a1.sep ⟨x2.ff, fun b o z1 z2 => by rw [era_ne (h1D z1)]; exact x2.hh b o z1 z2, x2.nf, x2.no⟩) rA era_same
          have hl := a1.len.trans ((wipe_length σ vs).symm.trans a2.len.symm)
          rw [backE_at hl]
          by_cases z : j ∈ vs
          · rw [if_pos z]
            have hnil : w2.O j = nil := a2.nilO fun kk fix dd q => by rw [hn j z] at q; cases q
            rw [hnil]
            have h0 := a1.sl j
            cases q : slotAt env1 j with
            | none => rfl
            | val dd =>
              rw [q] at h0
              obtain ⟨_, xx, q2, q3⟩ := h0
              exact ⟨rfl, xx, q2, q3.mono x2.ff dd xx⟩
            | own kk fix dd => exact (noOwn_at hno z q).elim
          · rw [if_neg z]
            have h0 := a2.sl j
            rw [wipe_at, if_neg z] at h0
            exact h0
      · cases e
    · cases e
  | _ => cases e
end
end Sb

/-! Sb.Main: the expressions' soundness. -/
namespace Sb
open PySem PySem.Spec PyProof.Rows L2

/-- what is still owed: sorted(set(a) ^ set(b)); enumerate of a tuple -/
structure Owed : Prop where
  sx : ∀ {X : Cx} {K : PySem.W.Frag} {P : Nat → Addr} {f g : Env → Option (D × Env)} {a b : Expr} {p1 p2 p3 q1 q2 q3 pos : Pos} (hK : X.K = K) (hc : X.calm = true) (h1 : Gl X "sorted") (m1 : X.mg "sorted" = none) (h2 : Gl X "set") (m2 : X.mg "set" = none)
    (ha : PE X a (rd K P f)) (hb : PE X b (rd K P g)) (sa : noStar a = true) (sb : noStar b = true),
    PE X (.Call (.Name "sorted" p1) [.BinOp (.Call (.Name "set" p2) [a] [] q1) .BitXor (.Call (.Name "set" p3) [b] [] q2) q3] [] pos) (rd K P fun env => (f env).bind fun p => (g p.2).bind fun q => (evSx p.1 q.1).map fun d => (d, q.2))
  en : ∀ {X : Cx} {e : Expr} {ta : TA} {p pos tpos : Pos} {elts : List Expr} {kk : Nat} (hc : X.calm = true) (hg : Gl X "enumerate") (hm : X.mg "enumerate" = none) (ha : PA X [e] ta) (hs : starEach [e] X.env = [(false, eval e X.env)]),
    PI X (.Tuple elts kk tpos) (.Call (.Name "enumerate" p) [e] [] pos) fun σ H R => ta σ H fun vs H1 => ∃ a xs, vs = [.ref a] ∧ ((SqL X.K H1 a xs ∧ R (Ite X.K a) H1) ∨ (SqT X.K H1 a xs ∧ ∀ J, L2.Walk J xs.length (fun H => SqT X.K H a xs) (YPair (fun i => some (.int (i : Nat))) (fun i => xs[i]?)) → R J H1))

section
variable {X : Cx} {C : SC} {G : Nat → Option D} {Φ : Nat → FnSem}
/-- in a comprehension's block -/
theorem Good.blk (g : Good X C G Φ) (sc : Scope) (hk : sc.kind = .function) (s : Shared) (H : Hp) (c : Addr) (cl : List (Str × Addr)) (fp : List Addr) : Good (X.blk s H sc (compEnvC sc cl c X.env) fp) (blkSC C sc) G Φ where
  nd := g.nd
  N := g.N
  names := by
    show (relabel sc X.env).names = _
    show (sc.names.map _) = _
    unfold blkSC relN
    refine List.map_congr_left fun y _ => ?_
    have e1 : (X.env.scope.kind == ScopeKind.function) = true := by rw [g.kind]; rfl
    have e2 : X.env.kindOf y.1 = C.names.lookup y.1 := by unfold PySem.Env.kindOf; rw [g.names]
    dsimp only
    rw [e1, e2]
  kind := hk
  calm := g.calm
  cells := fun z => by cases z
  pass := PassesOwn.never
  units := g.units
  fn := fun j x n h1 h2 => ⟨(g.fn j x n h1 h2).ex⟩
  glo := g.glo
  blt := g.blt
theorem bi_boot (b : Bi) : bootBuiltins (biName b) = some (biVal b) := by cases b <;> decide +kernel
theorem ki_boot (k : Ki) : bootBuiltins (kiName k) = some (.type (kiStr k)) := by cases k <;> decide +kernel
theorem bi_nm (b : Bi) : biName b ≠ "__name__" ∧ (biName b == ("__debug__" : Str)) = false := by cases b <;> exact ⟨by decide +kernel, by decide +kernel⟩
theorem ki_nm (b : Ki) : kiName b ≠ "__name__" ∧ (kiName b == ("__debug__" : Str)) = false := by cases b <;> exact ⟨by decide +kernel, by decide +kernel⟩
theorem few_of {cpos : Pos} {env : PySem.Env} {e : Expr} {es : List Expr} (h1 : noStar e = true) (h2 : noStars es = true) (h3 : es.length < 20) :
    ((backTo cpos (starEach (e :: es) env)).all (fun x => !x.1) && (backToKw cpos (keywordEach [] env)).all (fun x => x.1.isSome)
      && decide ((e :: es).length + ([] : List Keyword).length + (if ([] : List Keyword).isEmpty then 0 else 1) < 30)) = true := by
  have a1 : (backTo cpos (starEach (e :: es) env)).all (fun x => !x.1) = true := by
    have := star_any (pos := cpos) (env := env) (es := e :: es) (Bool.and_eq_true_iff.mpr ⟨h1, h2⟩)
    rw [List.all_eq_not_any_not]
    simpa using this
  rw [a1]
  simp [keywordEach, backToKw]
  omega
theorem pe_bi {b : Bi} {e : Expr} {es : List Expr} {t : TA} {p pos : Pos} (hc : X.calm = true) (hg : Gl X (biName b)) (hm : X.mg (biName b) = none) (ha : PA X (e :: es) t) (h1 : noStar e = true) (h2 : noStars es = true) :
    PE X (.Call (.Name (biName b) p) (e :: es) [] pos) (tCB (PRn X.K (evBi b)) t) := by
  have hv := bi_boot b
  obtain ⟨n1, n2⟩ := bi_nm b
  have hb := biOk (X := X) b hc
  cases b <;> first
    | exact pe_callB hb hg hm hv ha n1 n2 (star_cons h1) (star_any h2)
    | exact pe_callTy hb hg hm hv ha n1 n2 (star_cons h1) (star_any h2)
theorem tyV_of {K : PySem.W.Frag} {F H : Hp} {ds : List D} {x : V} (r : Rep K F (.lst ds) x) (s : Same F H) : tyV K "list" x H := by
  obtain ⟨a, vs, rfl, h, _⟩ := rep_lst.mp r
  exact .inl ⟨rfl, _, SqL.of (s _ _ h)⟩
end

section
variable {G : Nat → Option D} {Φ : Nat → FnSem} {P : Nat → Addr}
theorem rd_lc_lst {vs t : List Nat} {src c elt : E} : ∀ env d env', evE G Φ (.lc vs t src c elt) env = some (d, env') → ∃ ds, d = .lst ds := fun env d env' e => by
  unfold evE at e
  obtain ⟨p, e1, e⟩ := Option.bind_eq_some_iff.mp e
  split at e
  · split at e
    · obtain ⟨r, e2, e⟩ := Option.bind_eq_some_iff.mp e
      split at e
      · cases e; exact ⟨_, rfl⟩
      · cases e
    · cases e
  · cases e

theorem rd_of {K : PySem.W.Frag} {P : Nat → Addr} {f h : Env → Option (D × Env)} {σ : L2.St} {H : Hp} {Q : VK} (q : rd K P f σ H Q) (e : ∀ env, f env = h env) : rd K P h σ H Q := by
  have : f = h := funext e
  rw [← this]; exact q
theorem rdF_of {K : PySem.W.Frag} {P : Nat → Addr} {f h : Env → Option (D × Env)} {σ : L2.St} {H : Hp} {Q : VK} (q : rdF K P f σ H Q) (e : ∀ env, f env = h env) : rdF K P h σ H Q := by
  have : f = h := funext e
  rw [← this]; exact q
theorem rdT_of {K : PySem.W.Frag} {P : Nat → Addr} {f h : Env → Option (D × Env)} {σ : L2.St} {H : Hp} {Q : Bool → Hp → Prop} (q : rdT K P f σ H Q) (e : ∀ env, f env = h env) : rdT K P h σ H Q := by
  have : f = h := funext e
  rw [← this]; exact q
theorem rdL_of {K : PySem.W.Frag} {P : Nat → Addr} {f h : Env → Option (List D × Env)} {σ : L2.St} {H : Hp} {Q : List V → Hp → Prop} (q : rdL K P f σ H Q) (e : ∀ env, f env = h env) : rdL K P h σ H Q := by
  have : f = h := funext e
  rw [← this]; exact q
theorem rdA_of {K : PySem.W.Frag} {P : Nat → Addr} {f h : Env → Option (List PArg × Env)} {σ : L2.St} {H : Hp} {Q : List V → Hp → Prop} (q : rdA K P f σ H Q) (e : ∀ env, f env = h env) : rdA K P h σ H Q := by
  have : f = h := funext e
  rw [← this]; exact q
theorem PE.vac {X : Cx} {e : Expr} {t : TE} (h : ∀ σ H Q, t σ H Q → False) : PE X e t := ⟨fun pins s σ H Q I q => (h _ _ _ q).elim⟩
theorem PW.vac {X : Cx} {e : Expr} {t : TT} (h : ∀ σ H Q, t σ H Q → False) : PW X e t := ⟨fun w pins s σ H Q I q => (h _ _ _ q).elim⟩
theorem chkEs_star {C : SC} : ∀ {es : List E} {xs : List Expr}, chkEs C es xs = true → noStars xs = true
  | [], [], _ => rfl
  | [], _ :: _, h => by unfold chkEs at h; cases h
  | _ :: _, [], h => by unfold chkEs at h; cases h
  | e :: es, x :: xs, h => by
    unfold chkEs at h
    have h := Bool.and_eq_true_iff.mp h
    exact Bool.and_eq_true_iff.mpr ⟨(chk_plain C e _ h.1).1, chkEs_star h.2⟩
theorem chkEs_len {C : SC} : ∀ {es : List E} {xs : List Expr}, chkEs C es xs = true → xs.length = es.length
  | [], [], _ => rfl
  | [], _ :: _, h => by unfold chkEs at h; cases h
  | _ :: _, [], h => by unfold chkEs at h; cases h
  | e :: es, x :: xs, h => by
    unfold chkEs at h
    have h := Bool.and_eq_true_iff.mp h
    simp [chkEs_len h.2]
variable (G Φ P)
/-- a term's text does what the term reckons: as a value, as a test, as what is walked -/
def SE (c : E) : Prop := ∀ (X : Cx) (C : SC), Good X C G Φ → ∀ e, chkE C c e = true → PE X e (rd X.K P (evE G Φ c))
def ST (c : E) : Prop := ∀ (X : Cx) (C : SC), Good X C G Φ → ∀ e, chkE C c e = true → noIfe c = true → PT X e (rdT X.K P (evE G Φ c))
def SI (c : E) : Prop := ∀ (X : Cx) (C : SC), Good X C G Φ → ∀ tg e, isSrc c = true → chkSrc C c e = true → enTg c tg = true → PI X tg e (rdI X.K P (evE G Φ c))
variable {G Φ P}
theorem s_var (i : Nat) : SE G Φ P (.var i) := fun X C g e h => PE.weak (nm_pe g (by unfold chkE at h; exact h)) fun σ H Q q => rd_var q
theorem s_int (i : Int) : SE G Φ P (.int i) := fun X C g e h => by
  unfold chkE at h
  split at h
  · have := of_decide_eq_true h; subst this
    exact PE.weak pe_int fun σ H Q q => rd_c (d := .int i) (fun F => rfl) (rd_of q fun env => by rw [evE] <;> rfl)
  · cases h
theorem s_bl (b : Bool) : SE G Φ P (.bl b) := fun X C g e h => by
  unfold chkE at h
  split at h
  · have := eq_of_beq h; subst this
    exact PE.weak pe_bl fun σ H Q q => rd_c (d := .bl b) (fun F => rfl) (rd_of q fun env => by rw [evE] <;> rfl)
  · cases h
theorem s_non : SE G Φ P .non := fun X C g e h => by
  unfold chkE isNone at h
  split at h
  · exact PE.weak pe_non fun σ H Q q => rd_c (d := .non) (fun F => rfl) (rd_of q fun env => by rw [evE] <;> rfl)
  · cases h
theorem s_str (b : Str) : SE G Φ P (.str b) := fun X C g e h => by
  unfold chkE at h
  split at h
  · have := of_decide_eq_true h; subst this
    exact PE.weak pe_str fun σ H Q q => rd_c (d := .str b) (fun F => rfl) (rd_of q fun env => by rw [evE] <;> rfl)
  · cases h
theorem s_glo (j : Nat) : SE G Φ P (.glo j) := fun X C g e h => by
  unfold chkE at h
  split at h
  · simp only [Bool.and_eq_true, decide_eq_true_eq] at h
    obtain ⟨⟨h1, h2⟩, h3⟩ := h
    obtain ⟨d1, _, _⟩ := noDbg_of h3
    cases hd : G j with
    | none => exact PE.vac fun σ H Q ⟨env, w, a, d, env', e, k⟩ => by unfold evE at e; rw [hd] at e; cases e
    | some d =>
      obtain ⟨u, v, m, r, rp⟩ := g.glo j _ d h1 hd
      refine PE.weak (pe_glob (g.gl h2) m r d1) fun σ H Q q => rd_c (K := X.K) (P := P) (d := d) rp ?_
      obtain ⟨env, w, a, d', env', e, k⟩ := q
      unfold evE at e
      rw [hd] at e
      exact ⟨env, w, a, d', env', e, k⟩
  · cases h
theorem s_op {o : Bop} {a b : E} (ha : SE G Φ P a) (hb : SE G Φ P b) : SE G Φ P (.op o a b) := fun X C g e h => by
  unfold chkE at h
  split at h
  · simp only [Bool.and_eq_true, decide_eq_true_eq] at h
    obtain ⟨⟨rfl, h1⟩, h2⟩ := h
    exact PE.weak (pe_op (opOk o) (ha X C g _ h1) (hb X C g _ h2)) fun σ H Q q => rd_op (rd_of q fun env => by rw [evE] <;> rfl)
  · cases h
theorem s_neg {a : E} (ha : SE G Φ P a) : SE G Φ P (.neg a) := fun X C g e h => by
  unfold chkE at h
  split at h
  · refine PE.weak (pe_un un_neg (ha X C g _ h)) fun σ H Q q => ?_
    obtain ⟨env, w, a, d', env', e, k⟩ := q
    unfold evE at e
    obtain ⟨⟨d1, env1⟩, e1, e⟩ := Option.bind_eq_some_iff.mp e
    dsimp only at e
    split at e
    · cases e
      exact ⟨env, w, a, _, _, e1, fun v w' H' a' x r => ⟨_, r, k _ w' H' a' x rfl⟩⟩
    · cases e
  · cases h
theorem cmp_chk {C : SC} {o : Cop} {a b : E} {e : Expr} (h : chkE C (.cmp o a b) e = true) : ∃ x y p, e = .Compare x [copOf o] [y] p ∧ chkE C a x = true ∧ chkE C b y = true := by
  unfold chkE at h
  split at h
  · simp only [Bool.and_eq_true, decide_eq_true_eq] at h
    obtain ⟨⟨rfl, h1⟩, h2⟩ := h
    exact ⟨_, _, _, rfl, h1, h2⟩
  · cases h
theorem s_cmp {o : Cop} {a b : E} (ha : SE G Φ P a) (hb : SE G Φ P b) : SE G Φ P (.cmp o a b) := fun X C g e h => by
  obtain ⟨x, y, p, rfl, h1, h2⟩ := cmp_chk h
  exact PE.weak (pe_cmpR (cmpOk o (by have := g.units; omega)) (ha X C g _ h1) (hb X C g _ h2) (marks_none (chk_plain C b _ h2).2.1)) fun σ H Q q => rd_cmp (rd_of q fun env => by rw [evE] <;> rfl)
theorem t_cmp {o : Cop} {a b : E} (ha : SE G Φ P a) (hb : SE G Φ P b) : ST G Φ P (.cmp o a b) := fun X C g e h _ => by
  obtain ⟨x, y, p, rfl, h1, h2⟩ := cmp_chk h
  exact PT.weak (pt_cmpR (cmpOk o (by have := g.units; omega)) (ha X C g _ h1) (hb X C g _ h2) (marks_none (chk_plain C b _ h2).2.1)) fun σ H Q q => rd_cmp (rd_of (rd_T q) (fun env => by rw [evE] <;> rfl))
theorem cmp2_chk {C : SC} {o o' : Cop} {a b c : E} {e : Expr} (h : chkE C (.cmp2 o o' a b c) e = true) : ∃ x y z p, e = .Compare x [copOf o, copOf o'] [y, z] p ∧ chkE C a x = true ∧ chkE C b y = true ∧ chkE C c z = true := by
  unfold chkE at h
  split at h
  · simp only [Bool.and_eq_true, decide_eq_true_eq] at h
    obtain ⟨⟨⟨⟨rfl, rfl⟩, h1⟩, h2⟩, h3⟩ := h
    exact ⟨_, _, _, _, rfl, h1, h2, h3⟩
  · cases h
theorem s_cmp2 {o o' : Cop} {a b c : E} (ha : SE G Φ P a) (hb : SE G Φ P b) (hc : SE G Φ P c) : SE G Φ P (.cmp2 o o' a b c) := fun X C g e h => by
  obtain ⟨x, y, z, p, rfl, h1, h2, h3⟩ := cmp2_chk h
  have hu : X.A.units + 64 < cLine := by have := g.units; omega
  exact PE.weak (pe_chain (cmpOk o hu) (cmpOk o' hu) (ha X C g _ h1) (hb X C g _ h2) (hc X C g _ h3) (marks_none (chk_plain C c _ h3).2.1)) fun σ H Q q => rd_cmp2 (rd_of q fun env => by rw [evE] <;> rfl)
theorem t_cmp2 {o o' : Cop} {a b c : E} (ha : SE G Φ P a) (hb : SE G Φ P b) (hc : SE G Φ P c) : ST G Φ P (.cmp2 o o' a b c) := fun X C g e h _ => by
  obtain ⟨x, y, z, p, rfl, h1, h2, h3⟩ := cmp2_chk h
  have hu : X.A.units + 64 < cLine := by have := g.units; omega
  exact PT.weak (pt_chain (cmpOk o hu) (cmpOk o' hu) (ha X C g _ h1) (hb X C g _ h2) (hc X C g _ h3) (marks_none (chk_plain C c _ h3).2.1)) fun σ H Q q => rd_cmp2 (rd_of (rd_T q) (fun env => by rw [evE] <;> rfl))
theorem isN_chk {C : SC} {neg : Bool} {a : E} {e : Expr} (h : chkE C (.isN neg a) e = true) : ∃ x k p p', e = .Compare x [if neg then .IsNot else .Is] [.Constant .none k p'] p ∧ chkE C a x = true := by
  unfold chkE at h
  split at h
  · rename_i x p y pos
    simp only [Bool.and_eq_true] at h
    obtain ⟨⟨h1, h2⟩, h3⟩ := h
    unfold isNone at h2
    split at h2
    · split at h1
      · have : neg = false := by simpa using h1
        subst this
        exact ⟨_, _, _, _, rfl, h3⟩
      · have : neg = true := h1
        subst this
        exact ⟨_, _, _, _, rfl, h3⟩
      · cases h1
    · cases h2
  · cases h
theorem s_isN {neg : Bool} {a : E} (ha : SE G Φ P a) : SE G Φ P (.isN neg a) := fun X C g e h => by
  obtain ⟨x, k, p, p', rfl, h3⟩ := isN_chk h
  cases neg with
  | false => exact PE.weak (pe_cmpR op_isN (ha X C g _ h3) pe_non rfl) fun σ H Q q => rd_isN (neg := false) (fun x H Q q => ⟨rfl, by simpa using q⟩) (rd_of q fun env => by rw [evE] <;> rfl)
  | true => exact PE.weak (pe_cmpR op_notN (ha X C g _ h3) pe_non rfl) fun σ H Q q => rd_isN (neg := true) (fun x H Q q => ⟨rfl, by simpa using q⟩) (rd_of q fun env => by rw [evE] <;> rfl)
theorem t_isN {neg : Bool} {a : E} (ha : SE G Φ P a) : ST G Φ P (.isN neg a) := fun X C g e h _ => by
  obtain ⟨x, k, p, p', rfl, h3⟩ := isN_chk h
  cases neg with
  | false => exact PT.weak (pt_cmpR op_isN (ha X C g _ h3) pe_non rfl) fun σ H Q q => rd_isN (neg := false) (fun x H Q q => ⟨rfl, by simpa using q⟩) (rd_of (rd_T q) (fun env => by rw [evE] <;> rfl))
  | true => exact PT.weak (pt_cmpR op_notN (ha X C g _ h3) pe_non rfl) fun σ H Q q => rd_isN (neg := true) (fun x H Q q => ⟨rfl, by simpa using q⟩) (rd_of (rd_T q) (fun env => by rw [evE] <;> rfl))
theorem s_ba {X : Cx} {C : SC} (g : Good X C G Φ) {pos : Pos} : ∀ (es : List E), (∀ c ∈ es, SE G Φ P c) → ∀ xs, chkEs C es xs = true → PE X (.BoolOp .And xs pos) (rd X.K P fun env => evB G Φ true es env)
  | [], _, xs, h => PE.vac fun σ H Q ⟨env, w, a, d, env', e, k⟩ => by dsimp only at e; unfold evB at e; cases e
  | [c], hs, xs, h => by
    unfold chkEs at h
    split at h
    · obtain ⟨h1, h2⟩ := Bool.and_eq_true_iff.mp h
      unfold chkEs at h2
      rename_i x r
      cases r with
      | nil => exact PE.weak (pe_one (hs c List.mem_cons_self X C g _ h1)) fun σ H Q q => rd_bop1 q
      | cons _ _ => cases h2
    · cases h
  | c :: c2 :: es, hs, xs, h => by
    unfold chkEs at h
    split at h
    · obtain ⟨h1, h2⟩ := Bool.and_eq_true_iff.mp h
      have ih := s_ba g (pos := pos) (c2 :: es) (fun c hc => hs c (List.mem_cons_of_mem _ hc)) _ h2
      rename_i x r
      cases r with
      | nil => unfold chkEs at h2; cases h2
      | cons y r => exact PE.weak (pe_and (hs c List.mem_cons_self X C g _ h1) ih) fun σ H Q q => rd_and q
    · cases h
theorem s_bo {X : Cx} {C : SC} (g : Good X C G Φ) {pos : Pos} : ∀ (es : List E), (∀ c ∈ es, SE G Φ P c) → ∀ xs, chkEs C es xs = true → PE X (.BoolOp .Or xs pos) (rd X.K P fun env => evB G Φ false es env)
  | [], _, xs, h => PE.vac fun σ H Q ⟨env, w, a, d, env', e, k⟩ => by dsimp only at e; unfold evB at e; cases e
  | [c], hs, xs, h => by
    unfold chkEs at h
    split at h
    · obtain ⟨h1, h2⟩ := Bool.and_eq_true_iff.mp h
      unfold chkEs at h2
      rename_i x r
      cases r with
      | nil => exact PE.weak (pe_one (hs c List.mem_cons_self X C g _ h1)) fun σ H Q q => rd_bop1 q
      | cons _ _ => cases h2
    · cases h
  | c :: c2 :: es, hs, xs, h => by
    unfold chkEs at h
    split at h
    · obtain ⟨h1, h2⟩ := Bool.and_eq_true_iff.mp h
      have ih := s_bo g (pos := pos) (c2 :: es) (fun c hc => hs c (List.mem_cons_of_mem _ hc)) _ h2
      rename_i x r
      cases r with
      | nil => unfold chkEs at h2; cases h2
      | cons y r => exact PE.weak (pe_or (hs c List.mem_cons_self X C g _ h1) ih) fun σ H Q q => rd_or q
    · cases h
theorem t_ba {X : Cx} {C : SC} (g : Good X C G Φ) {pos : Pos} : ∀ (es : List E), (∀ c ∈ es, ST G Φ P c) → es.all noIfe = true → ∀ xs, chkEs C es xs = true → PW X (.BoolOp .And xs pos) (rdT X.K P fun env => evB G Φ true es env)
  | [], _, _, xs, h => PW.vac fun σ H Q ⟨env, w, a, d, env', e, k⟩ => by dsimp only at e; unfold evB at e; cases e
  | [c], hs, hn, xs, h => by
    unfold chkEs at h
    split at h
    · obtain ⟨h1, h2⟩ := Bool.and_eq_true_iff.mp h
      unfold chkEs at h2
      rename_i x r
      cases r with
      | nil => exact PW.weak (pw_and1 (hs c List.mem_cons_self X C g _ h1 (List.all_eq_true.mp hn c List.mem_cons_self))) fun σ H Q q => rdT_bop1 q
      | cons _ _ => cases h2
    · cases h
  | c :: c2 :: es, hs, hn, xs, h => by
    unfold chkEs at h
    split at h
    · obtain ⟨h1, h2⟩ := Bool.and_eq_true_iff.mp h
      have ih := t_ba g (pos := pos) (c2 :: es) (fun c hc => hs c (List.mem_cons_of_mem _ hc)) (Bool.and_eq_true_iff.mp hn).2 _ h2
      rename_i x r
      cases r with
      | nil => unfold chkEs at h2; cases h2
      | cons y r => exact PW.weak (pw_and (hs c List.mem_cons_self X C g _ h1 (List.all_eq_true.mp hn c List.mem_cons_self)) ih) fun σ H Q q => rdT_and q
    · cases h
theorem t_bo {X : Cx} {C : SC} (g : Good X C G Φ) {pos : Pos} : ∀ (es : List E), (∀ c ∈ es, ST G Φ P c) → es.all noIfe = true → ∀ xs, chkEs C es xs = true → PW X (.BoolOp .Or xs pos) (rdT X.K P fun env => evB G Φ false es env)
  | [], _, _, xs, h => PW.vac fun σ H Q ⟨env, w, a, d, env', e, k⟩ => by dsimp only at e; unfold evB at e; cases e
  | [c], hs, hn, xs, h => by
    unfold chkEs at h
    split at h
    · obtain ⟨h1, h2⟩ := Bool.and_eq_true_iff.mp h
      unfold chkEs at h2
      rename_i x r
      cases r with
      | nil => exact PW.weak (pw_or1 (hs c List.mem_cons_self X C g _ h1 (List.all_eq_true.mp hn c List.mem_cons_self))) fun σ H Q q => rdT_bop1 q
      | cons _ _ => cases h2
    · cases h
  | c :: c2 :: es, hs, hn, xs, h => by
    unfold chkEs at h
    split at h
    · obtain ⟨h1, h2⟩ := Bool.and_eq_true_iff.mp h
      have ih := t_bo g (pos := pos) (c2 :: es) (fun c hc => hs c (List.mem_cons_of_mem _ hc)) (Bool.and_eq_true_iff.mp hn).2 _ h2
      rename_i x r
      cases r with
      | nil => unfold chkEs at h2; cases h2
      | cons y r => exact PW.weak (pw_or (hs c List.mem_cons_self X C g _ h1 (List.all_eq_true.mp hn c List.mem_cons_self)) ih) fun σ H Q q => rdT_or q
    · cases h
theorem bop_chk {C : SC} {and : Bool} {es : List E} {e : Expr} (h : chkE C (.bop and es) e = true) : ∃ xs p, e = .BoolOp (if and then .And else .Or) xs p ∧ chkEs C es xs = true ∧ es.all noIfe = true := by
  unfold chkE at h
  split at h
  · rename_i p xs pos
    simp only [Bool.and_eq_true] at h
    obtain ⟨⟨h1, h2⟩, h3⟩ := h
    split at h1
    · subst h1
      exact ⟨_, _, rfl, h2, h3⟩
    · have : and = false := by simpa using h1
      subst this
      exact ⟨_, _, rfl, h2, h3⟩
  · cases h
theorem s_bop {and : Bool} {es : List E} (hs : ∀ c ∈ es, SE G Φ P c) : SE G Φ P (.bop and es) := fun X C g e h => by
  obtain ⟨xs, p, rfl, h1, _⟩ := bop_chk h
  cases and with
  | true => exact PE.weak (s_ba g es hs xs h1) fun σ H Q q => rd_of q fun env => by rw [evE] <;> rfl
  | false => exact PE.weak (s_bo g es hs xs h1) fun σ H Q q => rd_of q fun env => by rw [evE] <;> rfl
theorem t_bop {and : Bool} {es : List E} (hs : ∀ c ∈ es, ST G Φ P c) : ST G Φ P (.bop and es) := fun X C g e h _ => by
  obtain ⟨xs, p, rfl, h1, h2⟩ := bop_chk h
  cases and with
  | true => exact PT.weak (t_ba g es hs h2 xs h1).pt fun σ H Q q => rdT_of q fun env => by rw [evE] <;> rfl
  | false => exact PT.weak (t_bo g es hs h2 xs h1).pt fun σ H Q q => rdT_of q fun env => by rw [evE] <;> rfl
theorem not_chk {C : SC} {a : E} {e : Expr} (h : chkE C (.not a) e = true) : ∃ x p, e = .UnaryOp .Not x p ∧ chkE C a x = true ∧ noIfe a = true := by
  unfold chkE at h
  split at h
  · obtain ⟨h1, h2⟩ := Bool.and_eq_true_iff.mp h
    exact ⟨_, _, rfl, h1, h2⟩
  · cases h
theorem s_not {a : E} (ha : SE G Φ P a) : SE G Φ P (.not a) := fun X C g e h => by
  obtain ⟨x, p, rfl, h1, _⟩ := not_chk h
  exact PE.weak (pe_not (ha X C g _ h1)) fun σ H Q q => rd_not (rd_of q fun env => by rw [evE] <;> rfl)
theorem t_not {a : E} (ha : ST G Φ P a) : ST G Φ P (.not a) := fun X C g e h _ => by
  obtain ⟨x, p, rfl, h1, h2⟩ := not_chk h
  exact PT.weak (pt_not (ha X C g _ h1 h2)) fun σ H Q q => rdT_not (rdT_of q fun env => by rw [evE] <;> rfl)
theorem s_ife {c a b : E} (hc : ST G Φ P c) (ha : SE G Φ P a) (hb : SE G Φ P b) : SE G Φ P (.ife c a b) := fun X C g e h => by
  unfold chkE at h
  split at h
  · simp only [Bool.and_eq_true] at h
    obtain ⟨⟨⟨h1, h2⟩, h3⟩, h4⟩ := h
    exact PE.weak (pe_ifExp (hc X C g _ h1 h4) (ha X C g _ h2) (hb X C g _ h3)) fun σ H Q q => rd_ife (rd_of q fun env => by rw [evE] <;> rfl)
  · cases h
theorem s_L {X : Cx} {C : SC} (g : Good X C G Φ) : ∀ (es : List E), (∀ c ∈ es, SE G Φ P c) → ∀ xs, chkEs C es xs = true → PA X xs (rdL X.K P (evL G Φ es))
  | [], _, xs, h => by
    unfold chkEs at h
    cases xs with
    | nil => exact PA.weak pa_nil fun σ H Q q => rdL_nil (K := X.K) (P := P) (rdL_of q fun env => by rw [evL] <;> rfl)
    | cons _ _ => cases h
  | e :: es, hs, xs, h => by
    unfold chkEs at h
    split at h
    · obtain ⟨h1, h2⟩ := Bool.and_eq_true_iff.mp h
      exact PA.weak (pa_cons (hs e List.mem_cons_self X C g _ h1) (s_L g es (fun c hc => hs c (List.mem_cons_of_mem _ hc)) _ h2) (star_cons (chk_plain C e _ h1).1)) fun σ H Q q => rdL_cons (rdL_of q fun env => by rw [evL] <;> rfl)
    · cases h
theorem s_tup {es : List E} (hs : ∀ c ∈ es, SE G Φ P c) : SE G Φ P (.tup es) := fun X C g e h => by
  unfold chkE at h
  split at h
  · exact PE.weak (pe_tup (s_L g es hs _ h)) fun σ H Q q => rd_tup (rd_of q fun env => by rw [evE] <;> rfl)
  · cases h
theorem lst_lst {es : List E} : ∀ env d env', evE G Φ (.lst es) env = some (d, env') → ∃ ds, d = .lst ds := fun env d env' e => by
  unfold evE at e
  obtain ⟨p, e1, e⟩ := Option.bind_eq_some_iff.mp e
  split at e
  · cases e; exact ⟨_, rfl⟩
  · cases e
theorem s_lstF {es : List E} (hs : ∀ c ∈ es, SE G Φ P c) {X : Cx} {C : SC} (g : Good X C G Φ) {e : Expr} (h : chkE C (.lst es) e = true) : PE X e (rdF X.K P (evE G Φ (.lst es))) := by
  unfold chkE at h
  split at h
  · exact PE.weak (pe_lst (s_L g es hs _ h)) fun σ H Q q => rdF_lst (rdF_of q fun env => by rw [evE] <;> rfl)
  · cases h
theorem s_lst {es : List E} (hs : ∀ c ∈ es, SE G Φ P c) : SE G Φ P (.lst es) := fun X C g e h => PE.weak (s_lstF hs g h) fun σ H Q q => rd_F q lst_lst
theorem s_ix {a b : E} (ha : SE G Φ P a) (hb : SE G Φ P b) : SE G Φ P (.ix a b) := fun X C g e h => by
  unfold chkE at h
  split at h
  · obtain ⟨h1, h2⟩ := Bool.and_eq_true_iff.mp h
    exact PE.weak (pe_ix ixOk (ha X C g _ h1) (hb X C g _ h2) (plain_ix (chk_plain C b _ h2).2.2.1)) fun σ H Q q => rd_ix (rd_of q fun env => by rw [evE] <;> rfl)
  · cases h
theorem s_A {X : Cx} {C : SC} (g : Good X C G Φ) : ∀ (es : List E), (∀ c ∈ es, SE G Φ P c) → ∀ xs, chkAs C es xs = true → PA X xs (rdA X.K P (evA G Φ es)) ∧ noStars xs = true
  | [], _, xs, h => by
    unfold chkAs at h
    cases xs with
    | nil => exact ⟨PA.weak pa_nil fun σ H Q q => rdA_nil (K := X.K) (P := P) (rdA_of q fun env => by rw [evA] <;> rfl), rfl⟩
    | cons _ _ => cases h
  | e :: es, hs, xs, h => by
    unfold chkAs at h
    split at h
    · rename_i x r
      obtain ⟨h1, h2⟩ := Bool.and_eq_true_iff.mp h
      obtain ⟨pr, nr⟩ := s_A g es (fun c hc => hs c (List.mem_cons_of_mem _ hc)) r h2
      cases hr : asRef e with
      | some i =>
        rw [hr] at h1
        refine ⟨PA.weak (pa_cons (nm_pe g h1) pr (star_cons (nm_plain h1).1)) fun σ H Q q => ?_, Bool.and_eq_true_iff.mpr ⟨(nm_plain h1).1, nr⟩⟩
        obtain ⟨env, w, a, ps, env', e1, k⟩ := q
        unfold evA at e1
        rw [hr] at e1
        dsimp only at e1
        split at e1
        · rename_i kk fix dd hsl
          obtain ⟨q, hq, _, _⟩ := a.own hsl
          obtain ⟨⟨ps2, env2⟩, e2, e1⟩ := Option.map_eq_some_iff.mp e1
          cases e1
          exact ⟨_, hq, env, w, a, ps2, _, e2, fun vs w2 H2 a2 x2 r2 => k _ w2 H2 a2 x2 (.cons hq r2)⟩
        · cases e1
      | none =>
        rw [hr] at h1
        refine ⟨PA.weak (pa_cons (hs e List.mem_cons_self X C g _ h1) pr (star_cons (chk_plain C e _ h1).1)) fun σ H Q q => rdA_cons ?_, Bool.and_eq_true_iff.mpr ⟨(chk_plain C e _ h1).1, nr⟩⟩
        obtain ⟨env, w, a, ps, env', e1, k⟩ := q
        unfold evA at e1
        rw [hr] at e1
        exact ⟨env, w, a, ps, env', e1, k⟩
    · cases h
theorem s_call {f : Nat} {es : List E} (hs : ∀ c ∈ es, SE G Φ P c) : SE G Φ P (.call f es) := fun X C g e h => by
  unfold chkE at h
  split at h
  · rename_i x p xs pos
    simp only [Bool.and_eq_true, decide_eq_true_eq] at h
    obtain ⟨⟨⟨⟨h1, h2⟩, h3⟩, h4⟩, h5⟩ := h
    obtain ⟨d1, _, _⟩ := noDbg_of h4
    obtain ⟨fa, fd, k, ps, hn, m, kp, hr, hb, F⟩ := (g.fn f x _ h1 h2).ex
    obtain ⟨pa, ns⟩ := s_A g es hs xs h5
    cases xs with
    | nil =>
      refine PE.weak (pe_call0 F hr (g.gl h3) m kp hb .nil pass0 d1) fun σ H Q q => ?_
      have := rd_call (es := es) rfl (fun _ _ _ z => evA_len z) q
      cases es with
      | nil => exact rdA_nil (rdA_of this fun env => by rw [evA] <;> rfl)
      | cons _ _ => unfold chkAs at h5; cases h5
    | cons y ys =>
      have ns := Bool.and_eq_true_iff.mp (show (noStar y && noStars ys) = true from ns)
      exact PE.weak (pe_call F hr (g.gl h3) m kp hb .nil pass0 pa d1 (star_cons ns.1) (star_any ns.2)) fun σ H Q q => rd_call rfl (fun _ _ _ z => evA_len z) q
  · cases h
theorem s_bi {b : Bi} {es : List E} (hs : ∀ c ∈ es, SE G Φ P c) : SE G Φ P (.bi b es) := fun X C g e h => by
  unfold chkE at h
  split at h
  · rename_i x p y ys pos
    simp only [Bool.and_eq_true] at h
    obtain ⟨h1, h2⟩ := h
    obtain ⟨rfl, hg, hm⟩ := isB_of g h1
    have ns := Bool.and_eq_true_iff.mp (show (noStar y && noStars ys) = true from chkEs_star h2)
    exact PE.weak (pe_bi g.calm hg hm (s_L g es hs _ h2) ns.1 ns.2) fun σ H Q q => rd_cb (rd_of q fun env => by rw [evE] <;> rfl)
  · cases h
theorem s_mt {m : Mt} {a : E} {es : List E} (ha : SE G Φ P a) (hs : ∀ c ∈ es, SE G Φ P c) : SE G Φ P (.mt m a es) := fun X C g e h => by
  unfold chkE at h
  split at h
  · rename_i x y ap z xs cp
    simp only [Bool.and_eq_true, decide_eq_true_eq] at h
    obtain ⟨⟨⟨⟨⟨rfl, h2⟩, h3⟩, h4⟩, h5⟩, h6⟩ := h
    have ns := Bool.and_eq_true_iff.mp (show (noStar z && noStars xs) = true from chkEs_star h6)
    cases m with
    | count =>
      refine PE.weak (pe_bm (name := mtName .count) PySem.F.plainAttrs_list PySem.F.slot_list_count PySem.F.type_list_count (mt_lcount (X := X)) (ha X C g _ h5) (s_L g es hs _ h6) (base_of h3) (few_of ns.1 ns.2 h4) h2 (star_cons ns.1) (star_any ns.2)) fun σ H Q q => ?_
      obtain ⟨env, w, aa, d', env', e, k⟩ := q
      rw [evE] at e
      obtain ⟨⟨d1, env1⟩, e1, e⟩ := Option.bind_eq_some_iff.mp e
      obtain ⟨⟨ds, env2⟩, e2, e⟩ := Option.bind_eq_some_iff.mp e
      obtain ⟨d3, e3, e⟩ := Option.map_eq_some_iff.mp e
      cases e
      dsimp only at e3
      unfold evMt at e3
      split at e3
      · obtain ⟨nn, e4, rfl⟩ := Option.map_eq_some_iff.mp e3
        have := toInts_of e4
        subst this
        refine ⟨env, w, aa, _, _, e1, fun v1 w1 H1 a1 x1 r1 => ⟨tyV_of r1 a1.sep.fh, env1, w1, a1, _, _, e2, fun vs w2 H2 a2 x2 r2 => ?_⟩⟩
        obtain ⟨v2, rfl, rv⟩ := repL_one r2
        cases rv
        obtain ⟨b, ws, rfl, hb, rb⟩ := rep_lst.mp (r1.mono x2.ff _ _)
        have := RepL.ints.mp rb
        subst this
        exact ⟨b, nn, _, rfl, rfl, SqL.of (a2.sep.fh _ _ hb), k _ w2 H2 a2 (x1.trans aa.sep a1.sep x2) rfl⟩
      · cases e3
  · cases h
theorem s_isi {k : Ki} {a : E} (ha : SE G Φ P a) : SE G Φ P (.isi k a) := fun X C g e h => by
  unfold chkE at h
  split at h
  · rename_i x p y z pz pos
    simp only [Bool.and_eq_true] at h
    obtain ⟨⟨h1, h2⟩, h3⟩ := h
    obtain ⟨rfl, hg, hm⟩ := isB_of g h1
    obtain ⟨rfl, hg2, hm2⟩ := isB_of g h2
    have ns := (chk_plain C a _ h3).1
    obtain ⟨n1, n2⟩ := ki_nm k
    have pz : PE X (.Name (kiName k) pz) (tC (.ty (kiStr k))) := pe_bltn hg2 hm2 (ki_boot k) rfl n1 n2
    have hc : CallR X (.builtin "isinstance") (fun xs H Q => ∃ F d x, Same F H ∧ Rep X.K F d x ∧ xs = [x, .ty (kiStr k)] ∧ Q (.bl (isKi k d)) H) := fun pins s σ H xs us Q I r q => by
      obtain ⟨F, d, x, sF, rx, rfl, q⟩ := q
      exact kiOk k I sF rx r q
    refine PE.weak (pe_callB hc hg hm boot_isinstance (pa_cons (ha X C g _ h3) (pa_cons pz pa_nil (star_cons rfl)) (star_cons ns)) (by decide) (by decide) (star_cons ns) (star_any rfl)) fun σ H Q q => ?_
    obtain ⟨env, w, aa, d', env', e, kk⟩ := q
    unfold evE at e
    obtain ⟨⟨d1, env1⟩, e1, e⟩ := Option.map_eq_some_iff.mp e
    cases e
    exact ⟨env, w, aa, _, _, e1, fun v1 w1 H1 a1 x1 r1 => ⟨w1.F, d1, v1, a1.sep.fh, r1, rfl, kk _ w1 H1 a1 x1 rfl⟩⟩
  · cases h
theorem s_sx (O : Owed) {a b : E} (ha : SE G Φ P a) (hb : SE G Φ P b) : SE G Φ P (.sx a b) := fun X C g e h => by
  unfold chkE at h
  split at h
  · simp only [Bool.and_eq_true] at h
    obtain ⟨⟨⟨⟨h1, h2⟩, h3⟩, h4⟩, h5⟩ := h
    obtain ⟨rfl, hg, hm⟩ := isB_of g h1
    obtain ⟨rfl, hg2, hm2⟩ := isB_of g h2
    obtain ⟨rfl, _, _⟩ := isB_of g h3
    exact PE.weak (O.sx rfl g.calm hg hm hg2 hm2 (ha X C g _ h4) (hb X C g _ h5) (chk_plain C a _ h4).1 (chk_plain C b _ h5).1) fun σ H Q q => rd_of q fun env => by rw [evE] <;> rfl
  · cases h
theorem s_oix {i : Nat} {b : E} (hb : SE G Φ P b) : SE G Φ P (.oix i b) := fun X C g e h => by
  unfold chkE at h
  split at h
  · obtain ⟨h1, h2⟩ := Bool.and_eq_true_iff.mp h
    exact PE.weak (pe_ix ix_list (nm_pe g h1) (hb X C g _ h2) (plain_ix (chk_plain C b _ h2).2.2.1)) fun σ H Q q => rd_oix (rd_of q fun env => by rw [evE] <;> rfl)
  · cases h
theorem src_plain {C : SC} {src : E} {it : Expr} (h5 : isSrc src = true) (h7 : chkSrc C src it = true) : noSet it = true := by
  cases src with
  | rng es =>
    unfold chkSrc at h7
    split at h7
    · rfl
    · cases h7
  | enm es =>
    unfold chkSrc at h7
    split at h7
    · rfl
    · cases h7
  | seq a =>
    unfold chkSrc at h7
    exact (chk_plain C a _ h7).2.1
  | _ => cases h5
theorem lc_parts {vs t : List Nat} {src c elt : E} (hsrc : SI G Φ P src) (hc : ST G Φ P c) (he : SE G Φ P elt) {X : Cx} {C : SC} (g : Good X C G Φ) {e : Expr} (h : chkE C (.lc vs t src c elt) e = true) :
    ∃ x tg it ifs sc pos own, e = .ListComp x [⟨tg, it, ifs, 0⟩] sc pos ∧ own.map (·.2) = vs ∧ (∀ i ∈ t, i ∈ vs) ∧ noSet it = true ∧ PI X tg it (rdI X.K P (evE G Φ src)) ∧ BlkOk X.N X.env.scope sc own ∧
      (∀ (s : Shared) (H : Hp) (c : Addr) (cl : List (Str × Addr)) (fp : List Addr), PG (X.blk s H sc (compEnvC sc cl c X.env) fp) tg (gOf X.K (t.length == 1) t)) ∧
      (∀ (s : Shared) (H : Hp) (c' : Addr) (cl : List (Str × Addr)) (fp : List Addr), PTs (X.blk s H sc (compEnvC sc cl c' X.env) fp) ifs (rdT X.K P (evE G Φ c))) ∧
      (∀ (s : Shared) (H : Hp) (c : Addr) (cl : List (Str × Addr)) (fp : List Addr), PE (X.blk s H sc (compEnvC sc cl c X.env) fp) x (rd X.K P (evE G Φ elt))) := by
  unfold chkE at h
  split at h
  · rename_i x tg it ifs sc pos
    simp only [Bool.and_eq_true] at h
    obtain ⟨⟨⟨⟨⟨⟨⟨⟨⟨⟨h1, h2⟩, h3⟩, h4⟩, h5⟩, h6⟩, h7⟩, h7'⟩, h8⟩, h9⟩, h10⟩ := h
    have hx : blkC X.N X.env.scope sc ((vs.map fun i => C.N.getD i Str.empty).zip vs) = true := by
      rw [g.N]
      have : ∀ (N : List Str) (sc1 sc2 : Scope) own, sc1.names = sc2.names → blkC N sc1 sc own = blkC N sc2 sc own := fun N sc1 sc2 own e => by unfold blkC; rw [e]
      rw [this _ X.env.scope (scOf C) _ g.names]
      exact h2
    have bo := blkOk_by hx
    have hmap : ((vs.map fun i => C.N.getD i Str.empty).zip vs).map (·.2) = vs := by
      rw [List.map_snd_zip]
      simp
    have hs : ∀ i ∈ t, i ∈ vs := fun i hi => by
      have := List.all_eq_true.mp h4 i hi
      simpa using this
    have ps : noSet it = true := src_plain h5 h7
    have pi := hsrc X C g tg it h5 h7 h7'
    have pg : ∀ (s : Shared) (H : Hp) (c : Addr) (cl : List (Str × Addr)) (fp : List Addr), PG (X.blk s H sc (compEnvC sc cl c X.env) fp) tg (gOf X.K (t.length == 1) t) := fun s H c cl fp => (tgt_pg (g.blk sc bo.kind s H c cl fp) h8).1
    have pe : ∀ (s : Shared) (H : Hp) (c : Addr) (cl : List (Str × Addr)) (fp : List Addr), PE (X.blk s H sc (compEnvC sc cl c X.env) fp) x (rd X.K P (evE G Φ elt)) := fun s H c cl fp => he _ _ (g.blk sc bo.kind s H c cl fp) x h10
    have pt : ∀ (s : Shared) (H : Hp) (c' : Addr) (cl : List (Str × Addr)) (fp : List Addr), PTs (X.blk s H sc (compEnvC sc cl c' X.env) fp) ifs (rdT X.K P (evE G Φ c)) := fun s H c' cl fp => by
      split at h9
      · split at h9
        · refine ⟨fun pins s σ H Q I q => pts_nil.run pins s σ H Q I ?_⟩
          obtain ⟨env, w, a, b, env', e, k⟩ := q
          unfold evE at e
          cases e
          exact k w H a Ext.refl
        · cases h9
      · rename_i y
        exact pts_one (hc _ _ (g.blk sc bo.kind s H c' cl fp) y h9 h6)
      · cases h9
    exact ⟨x, tg, it, ifs, sc, pos, _, rfl, hmap, hs, ps, pi, bo, pg, pt, pe⟩
  · cases h
theorem lc_F {vs t : List Nat} {src c elt : E} (hsrc : SI G Φ P src) (hc : ST G Φ P c) (he : SE G Φ P elt) {X : Cx} {C : SC} (g : Good X C G Φ) {e : Expr} (h : chkE C (.lc vs t src c elt) e = true) : PE X e (rdF X.K P (evE G Φ (.lc vs t src c elt))) := by
  obtain ⟨x, tg, it, ifs, sc, pos, own, rfl, rfl, hs, ps, pi, bo, pg, pt, pe⟩ := lc_parts hsrc hc he g h
  exact PE.weak (pe_lc g.calm g.nd pi bo pg pt pe (folded_none ps)) fun σ H Q q => rdF_lc hs q
theorem s_lc {vs t : List Nat} {src c elt : E} (hsrc : SI G Φ P src) (hc : ST G Φ P c) (he : SE G Φ P elt) : SE G Φ P (.lc vs t src c elt) := fun X C g e h => PE.weak (lc_F hsrc hc he g h) fun σ H Q q => rd_F q rd_lc_lst
end
end Sb

/-! Sb.Stm: sources, all terms, statements. -/
namespace Sb
open PySem PySem.Spec PyProof.Rows L2

section
variable {X : Cx} {tg : Expr}
/-- a list or a tuple, walked -/
def iSeq (K : PySem.W.Frag) (tl : TE) : TI := fun σ H R => tl σ H fun x H1 => ∃ a, x = .ref a ∧ (((∃ xs, SqL K H1 a xs) ∧ R (Itl K a) H1) ∨ ((∃ xs, SqT K H1 a xs) ∧ R (Itt K a) H1))
theorem pi_seq {l : Expr} {tl : TE} (hl : PE X l tl) : PI X tg l (iSeq X.K tl) := by
  refine ⟨fun pins s σ H R I h => thn (hl.run pins s σ H _ I h) fun v s1 ⟨x, H1, I1, r1, a, e, q1⟩ => ?_⟩
  subst e
  cases r1
  have fresh : ∀ b ∈ [s1.heap.objs.size], FpOk X pins H1 b := fun b hb => by
    rw [List.mem_singleton.mp hb]
    exact I1.fpOk (Nat.le_refl _) (I1.hok.fresh (Nat.le_refl _))
  rcases q1 with ⟨⟨xs, hq⟩, q⟩ | ⟨⟨xs, hq⟩, q⟩
  · obtain ⟨its, rv, p, hz⟩ := I1.list hq
    exact wpAny_pyIter_list p.isList ⟨s1.heap.objs.size, [s1.heap.objs.size], _, _, H1, rfl, I1.kept (t' := s1.toks) fun b o e => Heap.get?_push_of_some _ e, turn_list a _, ⟨_, Heap.get?_push_size _ rfl, rfl, rfl⟩, fresh, q⟩
  · obtain ⟨its, rv, p, hz⟩ := I1.tuple hq
    exact wpAny_pyIter_tuple (show s1.heap.IsTuple a its.toArray from p) ⟨s1.heap.objs.size, [s1.heap.objs.size], _, _, H1, rfl, I1.kept (t' := s1.toks) fun b o e => Heap.get?_push_of_some _ e, turn_tuple a _, ⟨_, Heap.get?_push_size _ rfl, rfl, rfl⟩, fresh, q⟩
end

section
variable {G : Nat → Option D} {Φ : Nat → FnSem} {P : Nat → Addr}
theorem i_seq {a : E} (ha : SE G Φ P a) : SI G Φ P (.seq a) := fun X C g tg e _ h _ => by
  unfold chkSrc at h
  refine PI.weak (pi_seq (ha X C g e h)) fun σ H Q q => ?_
  obtain ⟨env, w, aa, ds, env', e1, k⟩ := q
  rw [evE] at e1
  obtain ⟨⟨d1, env1⟩, e2, e1⟩ := Option.bind_eq_some_iff.mp e1
  dsimp only at e1
  split at e1
  · cases e1
    refine ⟨env, w, aa, _, _, e2, fun v w1 H1 a1 x1 r1 => ?_⟩
    obtain ⟨b, vs, rfl, hb, rb⟩ := rep_lst.mp r1
    exact ⟨b, rfl, .inl ⟨⟨vs, SqL.of (a1.sep.fh _ _ hb)⟩, k _ w1 H1 a1 x1 (wlk_list hb rb)⟩⟩
  · cases e1
    refine ⟨env, w, aa, _, _, e2, fun v w1 H1 a1 x1 r1 => ?_⟩
    obtain ⟨b, vs, rfl, hb, rb⟩ := rep_tup.mp r1
    exact ⟨b, rfl, .inr ⟨⟨vs, Same.seqT a1.sep.fh hb⟩, k _ w1 H1 a1 x1 (wlk_tup hb rb)⟩⟩
  · cases e1
theorem inR_of {i : Int} (h : inR i = true) : -(2 ^ 62) ≤ i ∧ i < 2 ^ 62 := of_decide_eq_true h
theorem i_rng {es : List E} (hs : ∀ c ∈ es, SE G Φ P c) : SI G Φ P (.rng es) := fun X C g tg e _ h _ => by
  unfold chkSrc at h
  split at h
  · rename_i x p xs pos
    simp only [Bool.and_eq_true, Bool.or_eq_true] at h
    obtain ⟨⟨h1, h2⟩, h3⟩ := h
    obtain ⟨rfl, hg, hm⟩ := isB_of g h1
    have hl := chkEs_len h2
    have ns := chkEs_star h2
    have pa := s_L g es hs xs h2
    have key : ∀ {σ H R}, rdI X.K P (evE G Φ (.rng es)) σ H R → rdL X.K P (evL G Φ es) σ H fun vs H1 => (∃ j : Int, vs = [.int j] ∧ es.length = 1 ∧ -(2 ^ 62) ≤ j ∧ j < 2 ^ 62 ∧ R (Itr 0 j.toNat) H1) ∨
        (∃ i j : Int, vs = [.int i, .int j] ∧ es.length = 2 ∧ (-(2 ^ 62) ≤ i ∧ i < 2 ^ 62 ∧ -(2 ^ 62) ≤ j ∧ j < 2 ^ 62) ∧ R (Itr i (j - i).toNat) H1) := fun {σ H R} q => by
      obtain ⟨env, w, aa, ds, env', e1, k⟩ := q
      rw [evE] at e1
      obtain ⟨⟨d1, env1⟩, e2, e1⟩ := Option.bind_eq_some_iff.mp e1
      have el : d1.length = es.length := by
        have : ∀ {es : List E} {env : Env} {ds : List D} {env' : Env}, evL G Φ es env = some (ds, env') → ds.length = es.length := by
          intro es
          induction es with
          | nil => intro env ds env' z; rw [evL] at z; cases z; rfl
          | cons e es ih =>
            intro env ds env' z
            rw [evL] at z
            obtain ⟨p, z1, z⟩ := Option.bind_eq_some_iff.mp z
            obtain ⟨⟨q1, q2⟩, z2, z⟩ := Option.map_eq_some_iff.mp z
            cases z
            simp [ih z2]
        exact this e2
      dsimp only at e1
      split at e1
      · split at e1
        · rename_i hr
          cases e1
          refine ⟨env, w, aa, _, _, e2, fun vs w1 H1 a1 x1 r1 => .inl ?_⟩
          obtain ⟨v, rfl, rv⟩ := repL_one r1
          cases rv
          exact ⟨_, rfl, el.symm, (inR_of hr).1, (inR_of hr).2, k _ w1 H1 a1 x1 wlk_rng⟩
        · cases e1
      · split at e1
        · rename_i hr
          obtain ⟨q1, q2⟩ := Bool.and_eq_true_iff.mp hr
          cases e1
          refine ⟨env, w, aa, _, _, e2, fun vs w1 H1 a1 x1 r1 => .inr ?_⟩
          obtain ⟨v, u, rfl, rv, ru⟩ := repL_two r1
          cases rv
          cases ru
          exact ⟨_, _, rfl, el.symm, ⟨(inR_of q1).1, (inR_of q1).2, (inR_of q2).1, (inR_of q2).2⟩, k _ w1 H1 a1 x1 wlk_rng⟩
        · cases e1
      · cases e1
    match xs, hl, ns, pa with
    | [], hl, _, _ => rcases h3 with h3 | h3 <;> (have := eq_of_beq h3; simp [this] at hl)
    | [y], hl, ns, pa =>
      have ns := Bool.and_eq_true_iff.mp (show (noStar y && noStars []) = true from ns)
      refine PI.weak (pi_range1 hg hm pa (star_cons ns.1)) fun σ H R q => ?_
      obtain ⟨env, w, aa, ds, env', e1, k⟩ := key q
      refine ⟨env, w, aa, ds, env', e1, fun vs w1 H1 a1 x1 r1 => ?_⟩
      rcases k vs w1 H1 a1 x1 r1 with ⟨j, z1, z2, z3⟩ | ⟨i, j, z1, z2, z3⟩
      · exact ⟨j, z1, z3⟩
      · simp at hl; omega
    | [y, z], hl, ns, pa =>
      have ns := Bool.and_eq_true_iff.mp (show (noStar y && noStars [z]) = true from ns)
      have ns2 := Bool.and_eq_true_iff.mp (show (noStar z && noStars []) = true from ns.2)
      have sz : starEach [z] X.env = [(false, eval z X.env)] := star_cons ns2.1
      refine PI.weak (pi_range2 hg hm pa ((star_cons ns.1).trans (by rw [sz])) sz) fun σ H R q => ?_
      obtain ⟨env, w, aa, ds, env', e1, k⟩ := key q
      refine ⟨env, w, aa, ds, env', e1, fun vs w1 H1 a1 x1 r1 => ?_⟩
      rcases k vs w1 H1 a1 x1 r1 with ⟨j, z1, z2, z3⟩ | ⟨i, j, z1, z2, z3⟩
      · simp at hl; omega
      · exact ⟨i, j, z1, z3⟩
    | _ :: _ :: _ :: _, hl, _, _ => rcases h3 with h3 | h3 <;> (have := eq_of_beq h3; simp [this] at hl)
  · cases h
theorem i_enm (O : Owed) {a : E} (ha : SE G Φ P a) : SI G Φ P (.enm a) := fun X C g tg e _ h ht => by
  unfold chkSrc at h
  split at h
  · rename_i x p y pos
    obtain ⟨h1, h2⟩ := Bool.and_eq_true_iff.mp h
    obtain ⟨rfl, hg, hm⟩ := isB_of g h1
    have ns := (chk_plain C a _ h2).1
    unfold enTg at ht
    split at ht
    · rename_i elts kk tpos hz
      cases hz
      refine PI.weak (O.en g.calm hg hm (pa_cons (ha X C g _ h2) pa_nil (star_cons ns)) (star_cons ns)) fun σ H R q => ?_
      obtain ⟨env, w, aa, ds, env', e1, k⟩ := q
      rw [evE] at e1
      obtain ⟨⟨d1, env1⟩, e2, e1⟩ := Option.bind_eq_some_iff.mp e1
      dsimp only at e1
      split at e1
      · cases e1
        refine ⟨env, w, aa, _, _, e2, fun v w1 H1 a1 x1 r1 => ?_⟩
        obtain ⟨b, vs, rfl, hb, rb⟩ := rep_lst.mp r1
        refine ⟨b, vs, rfl, .inl ⟨SqL.of (a1.sep.fh _ _ hb), k _ w1 H1 a1 x1 (wlk_pair (Gd := fun H => SqL X.K H b vs) ?_ (fun H s => SqL.of (s _ _ hb)) rb)⟩⟩
        exact walk_enum
      · cases e1
        refine ⟨env, w, aa, _, _, e2, fun v w1 H1 a1 x1 r1 => ?_⟩
        obtain ⟨b, vs, rfl, hb, rb⟩ := rep_tup.mp r1
        exact ⟨b, vs, rfl, .inr ⟨Same.seqT a1.sep.fh hb, fun J wj => k _ w1 H1 a1 x1 (wlk_pair wj (fun H s => Same.seqT s hb) rb)⟩⟩
      · cases e1
    · cases ht
    · rename_i z _
      exact (z _ rfl).elim
  · cases h
/-- a term's three readings -/
structure Snd (G : Nat → Option D) (Φ : Nat → FnSem) (P : Nat → Addr) (c : E) : Prop where
  e : SE G Φ P c
  t : ST G Φ P c
  i : SI G Φ P c
theorem i_no {c : E} (h : isSrc c = false) : SI G Φ P c := fun X C g tg e h1 _ _ => by rw [h] at h1; cases h1
theorem s_no {c : E} (h : ∀ C e, chkE C c e = true → False) : SE G Φ P c := fun X C g e h1 => (h _ _ h1).elim
/-- terms that stand as a test by their value -/
theorem t_val {c : E} (hs : SE G Φ P c) (hp : ∀ C e, chkE C c e = true → plainT e = true) : ST G Φ P c := fun X C g e h _ => pt_of g (hs X C g e h) (hp C e h)
theorem sound (O : Owed) : ∀ (n : Nat) (c : E), sizeOf c < n → Snd G Φ P c
  | 0, _, h => absurd h (Nat.not_lt_zero _)
  | n + 1, c, h => by
    have L : ∀ {es : List E}, sizeOf es < n → ∀ c ∈ es, Snd G Φ P c := fun {es} hz c hc => sound O n c (Nat.lt_trans (List.sizeOf_lt_of_mem hc) hz)
    cases c with
    | var i => exact ⟨s_var i, t_val (s_var i) (fun C e h => by
        unfold chkE nmV at h; split at h
        · rfl
        · cases h), i_no rfl⟩
    | int i => exact ⟨s_int i, t_val (s_int i) (fun C e h => by
        unfold chkE at h; split at h
        · rfl
        · cases h), i_no rfl⟩
    | bl i => exact ⟨s_bl i, t_val (s_bl i) (fun C e h => by
        unfold chkE at h; split at h
        · rfl
        · cases h), i_no rfl⟩
    | non => exact ⟨s_non, t_val s_non (fun C e h => by
        unfold chkE isNone at h; split at h
        · rfl
        · cases h), i_no rfl⟩
    | str i => exact ⟨s_str i, t_val (s_str i) (fun C e h => by
        unfold chkE at h; split at h
        · rfl
        · cases h), i_no rfl⟩
    | glo i => exact ⟨s_glo i, t_val (s_glo i) (fun C e h => by
        unfold chkE at h; split at h
        · rfl
        · cases h), i_no rfl⟩
    | op o a b =>
      have s := s_op (o := o) (sound O n a (by simp at h; omega)).e (sound O n b (by simp at h; omega)).e
      exact ⟨s, t_val s (fun C e h => by
        unfold chkE at h; split at h
        · rfl
        · cases h), i_no rfl⟩
    | neg a =>
      have s := s_neg (sound O n a (by simp at h; omega)).e
      exact ⟨s, t_val s (fun C e h => by
        unfold chkE at h; split at h
        · rfl
        · cases h), i_no rfl⟩
    | cmp o a b =>
      have ha := (sound O n a (by simp at h; omega)).e
      have hb := (sound O n b (by simp at h; omega)).e
      exact ⟨s_cmp ha hb, t_cmp ha hb, i_no rfl⟩
    | cmp2 o o' a b c =>
      have ha := (sound O n a (by simp at h; omega)).e
      have hb := (sound O n b (by simp at h; omega)).e
      have hc := (sound O n c (by simp at h; omega)).e
      exact ⟨s_cmp2 ha hb hc, t_cmp2 ha hb hc, i_no rfl⟩
    | isN g a =>
      have ha := (sound O n a (by simp at h; omega)).e
      exact ⟨s_isN ha, t_isN ha, i_no rfl⟩
    | bop o es =>
      have hs := L (es := es) (by simp at h; omega)
      exact ⟨s_bop (fun c hc => (hs c hc).e), t_bop (fun c hc => (hs c hc).t), i_no rfl⟩
    | not a =>
      have ha := sound O n a (by simp at h; omega)
      exact ⟨s_not ha.e, t_not ha.t, i_no rfl⟩
    | ife c a b => exact ⟨s_ife (sound O n c (by simp at h; omega)).t (sound O n a (by simp at h; omega)).e (sound O n b (by simp at h; omega)).e, (fun X C g e _ z => by cases z), i_no rfl⟩
    | tup es =>
      have s := s_tup fun c hc => (L (es := es) (by simp at h; omega) c hc).e
      exact ⟨s, t_val s (fun C e h => by
        unfold chkE at h; split at h
        · rfl
        · cases h), i_no rfl⟩
    | lst es =>
      have s := s_lst fun c hc => (L (es := es) (by simp at h; omega) c hc).e
      exact ⟨s, t_val s (fun C e h => by
        unfold chkE at h; split at h
        · rfl
        · cases h), i_no rfl⟩
    | ix a b =>
      have s := s_ix (sound O n a (by simp at h; omega)).e (sound O n b (by simp at h; omega)).e
      exact ⟨s, t_val s (fun C e h => by
        unfold chkE at h; split at h
        · rfl
        · cases h), i_no rfl⟩
    | call f es =>
      have s := s_call (f := f) fun c hc => (L (es := es) (by simp at h; omega) c hc).e
      exact ⟨s, t_val s (fun C e h => by
        unfold chkE at h; split at h
        · rfl
        · cases h), i_no rfl⟩
    | bi b es =>
      have s := s_bi (b := b) fun c hc => (L (es := es) (by simp at h; omega) c hc).e
      exact ⟨s, t_val s (fun C e h => by
        unfold chkE at h; split at h
        · rfl
        · cases h), i_no rfl⟩
    | mt m a es =>
      have s := s_mt (m := m) (sound O n a (by simp at h; omega)).e fun c hc => (L (es := es) (by simp at h; omega) c hc).e
      exact ⟨s, t_val s (fun C e h => by
        unfold chkE at h; split at h
        · rfl
        · cases h), i_no rfl⟩
    | isi k a =>
      have s := s_isi (k := k) (sound O n a (by simp at h; omega)).e
      exact ⟨s, t_val s (fun C e h => by
        unfold chkE at h; split at h
        · rfl
        · cases h), i_no rfl⟩
    | sx a b =>
      have s := s_sx O (sound O n a (by simp at h; omega)).e (sound O n b (by simp at h; omega)).e
      exact ⟨s, t_val s (fun C e h => by
        unfold chkE at h; split at h
        · rfl
        · cases h), i_no rfl⟩
    | oix i b =>
      have s := s_oix (i := i) (sound O n b (by simp at h; omega)).e
      exact ⟨s, t_val s (fun C e h => by
        unfold chkE at h; split at h
        · rfl
        · cases h), i_no rfl⟩
    | ref i => exact ⟨s_no (fun C e h => by unfold chkE at h; cases h), (fun X C g e h _ => by unfold chkE at h; cases h), i_no rfl⟩
    | rng es => exact ⟨s_no (fun C e h => by unfold chkE at h; cases h), (fun X C g e h _ => by unfold chkE at h; cases h), i_rng (fun c hc => (L (es := es) (by simp at h; omega) c hc).e)⟩
    | enm a => exact ⟨s_no (fun C e h => by unfold chkE at h; cases h), (fun X C g e h _ => by unfold chkE at h; cases h), i_enm O (sound O n a (by simp at h; omega)).e⟩
    | seq a => exact ⟨s_no (fun C e h => by unfold chkE at h; cases h), (fun X C g e h _ => by unfold chkE at h; cases h), i_seq (sound O n a (by simp at h; omega)).e⟩
    | lc vs t src c elt =>
      have s := s_lc (vs := vs) (t := t) (sound O n src (by simp at h; omega)).i (sound O n c (by simp at h; omega)).t (sound O n elt (by simp at h; omega)).e
      exact ⟨s, t_val s (fun C e h => by
        unfold chkE at h; split at h
        · rfl
        · cases h), i_no rfl⟩
theorem soundE (O : Owed) (c : E) : SE G Φ P c := (sound O _ c (Nat.lt_succ_self _)).e
theorem soundT (O : Owed) (c : E) : ST G Φ P c := (sound O _ c (Nat.lt_succ_self _)).t
theorem soundI (O : Owed) (c : E) : SI G Φ P c := (sound O _ c (Nat.lt_succ_self _)).i
end
end Sb

/-! Sb.Stmt: the statements' soundness. -/
namespace Sb
open PySem PySem.Spec PyProof.Rows L2

section
variable {K : PySem.W.Frag} {P : Nat → Addr} {σ : L2.St} {env : Env} {w : Wd} {H : Hp}
theorem nil_none (a : Addr) : nil a = none := rfl
theorem one_same {p : Addr} {o : HO} : upd nil p o p = some o := upd_same
theorem one_eq {p a : Addr} {o o' : HO} (h : upd nil p o a = some o') : a = p ∧ o' = o := by
  by_cases e : a = p
  · subst e; rw [upd_same] at h; cases h; exact ⟨rfl, rfl⟩
  · rw [upd_ne e] at h; cases h
/-- a new object, owned by a slot -/
theorem At.own_new {i : Nat} {p : Addr} {ds : List D} {vs : List V} (a : At K P σ env w H) (hi : i < env.length) (r : RepL K w.F ds vs) (hp : H p = none) :
    At K P (σ.set i (some (.ref p))) (env.set i (.own .lst false (.lst ds))) ⟨w.F, setO w.O i (upd nil p (.lst vs))⟩ (upd H p (.lst vs)) ∧ ExtW w H ⟨w.F, setO w.O i (upd nil p (.lst vs))⟩ (upd H p (.lst vs)) := by
  have h2 : i < σ.length := by rw [← a.len]; exact hi
  have hs := same_new (o := .lst vs) hp
  refine ⟨⟨by simp [a.len], ⟨a.sep.fh.trans hs, fun j => ?_, fun j b o z => ?_, fun j k b o n z => ?_⟩, fun j => ?_⟩, ⟨Same.refl _, fun b o z _ => hs b o z, fun b o z => .inl ⟨o, z⟩, fun j b o z => ?_⟩⟩
  · by_cases e : i = j
    · subst e
      show Same (setO w.O i _ i) _
      rw [setO_same]
      intro b o z
      obtain ⟨rfl, rfl⟩ := one_eq z
      exact upd_same
    · show Same (setO w.O i _ j) _
      rw [setO_ne e]; exact (a.sep.oh j).trans hs
  · replace z : setO w.O i (upd nil p (.lst vs)) j b = some o := z
    by_cases e : i = j
    · subst e
      rw [setO_same] at z
      obtain ⟨rfl, rfl⟩ := one_eq z
      exact a.sep.fh.free hp
    · rw [setO_ne e] at z; exact a.sep.fo j b o z
  · replace z : setO w.O i (upd nil p (.lst vs)) j b = some o := z
    show setO w.O i (upd nil p (.lst vs)) k b = none
    by_cases e : i = j
    · subst e
      rw [setO_same] at z
      obtain ⟨rfl, rfl⟩ := one_eq z
      rw [setO_ne n]; exact (a.sep.oh k).free hp
    · rw [setO_ne e] at z
      by_cases e' : i = k
      · subst e'
        rw [setO_same]
        by_cases q : b = p
        · subst q; rw [(a.sep.oh j).free hp] at z; cases z
        · rw [upd_ne q]; rfl
      · rw [setO_ne e']; exact a.sep.oo j k b o n z
  · rw [slotAt_set _ _ _ _ hi, valAt_set _ _ _ _ h2]
    show SlotOk K w.F (setO w.O i _ j) _ _ _
    by_cases e : i = j
    · subst e
      rw [if_pos rfl, if_pos rfl, setO_same]
      exact ⟨p, rfl, ⟨ds, vs, rfl, r, rfl⟩, fun z => by cases z⟩
    · rw [if_neg e, if_neg e, setO_ne e]; exact a.sl j
  · replace z : setO w.O i (upd nil p (.lst vs)) j b = some o := z
    by_cases e : i = j
    · subst e
      rw [setO_same] at z
      obtain ⟨rfl, rfl⟩ := one_eq z
      exact .inr hp
    · rw [setO_ne e] at z; exact .inl ⟨j, o, z⟩
/-- what an owned list's slot says -/
theorem At.lst {i : Nat} {fix : Bool} {ds : List D} (a : At K P σ env w H) (e : slotAt env i = .own .lst fix (.lst ds)) :
    ∃ p vs, σ[i]? = some (some (.ref p)) ∧ RepL K w.F ds vs ∧ w.O i = upd nil p (.lst vs) ∧ H p = some (.lst vs) ∧ (fix = true → p = P i) := by
  obtain ⟨p, h1, ⟨ds', vs, h2, h3, h4⟩, h5⟩ := a.own e
  cases h2
  exact ⟨p, vs, h1, h3, h4, a.sep.oh i p _ (by rw [h4]; exact upd_same), h5⟩
/-- an owned list is changed -/
theorem At.own_put {i : Nat} {p : Addr} {fix : Bool} {ds ds' : List D} {vs vs' : List V} (a : At K P σ env w H) (hi : i < env.length) (hs : slotAt env i = .own .lst fix (.lst ds)) (h1 : σ[i]? = some (some (.ref p))) (h4 : w.O i = upd nil p (.lst vs))
    (h5 : fix = true → p = P i) (r : RepL K w.F ds' vs') : At K P σ (env.set i (.own .lst fix (.lst ds'))) ⟨w.F, setO w.O i (upd nil p (.lst vs'))⟩ (upd H p (.lst vs')) ∧ ExtW w H ⟨w.F, setO w.O i (upd nil p (.lst vs'))⟩ (upd H p (.lst vs')) := by
  have hO : w.O i p = some (.lst vs) := by rw [h4]; exact upd_same
  have hF : w.F p = none := a.sep.fo i p _ hO
  have hoj : ∀ j, i ≠ j → w.O j p = none := fun j n => a.sep.oo i j p _ n hO
  have keep : ∀ {F : Hp}, F p = none → Same F H → Same F (upd H p (.lst vs')) := fun {F} z s b o q => by
    rw [upd_ne (ne_of_none q z)]; exact s b o q
  refine ⟨⟨by simp [a.len], ⟨keep hF a.sep.fh, fun j => ?_, fun j b o z => ?_, fun j k b o n z => ?_⟩, fun j => ?_⟩, ⟨Same.refl _, fun b o z n => ?_, fun b o z => .inl ⟨o, z⟩, fun j b o z => ?_⟩⟩
  · show Same (setO w.O i _ j) _
    by_cases e : i = j
    · subst e
      rw [setO_same]
      intro b o z
      obtain ⟨rfl, rfl⟩ := one_eq z
      exact upd_same
    · rw [setO_ne e]; exact keep (hoj j e) (a.sep.oh j)
  · replace z : setO w.O i (upd nil p (.lst vs')) j b = some o := z
    by_cases e : i = j
    · subst e
      rw [setO_same] at z
      obtain ⟨rfl, rfl⟩ := one_eq z
      exact hF
    · rw [setO_ne e] at z; exact a.sep.fo j b o z
  · replace z : setO w.O i (upd nil p (.lst vs')) j b = some o := z
    show setO w.O i (upd nil p (.lst vs')) k b = none
    by_cases e : i = j
    · subst e
      rw [setO_same] at z
      obtain ⟨rfl, rfl⟩ := one_eq z
      rw [setO_ne n]; exact hoj k n
    · rw [setO_ne e] at z
      by_cases e' : i = k
      · subst e'
        rw [setO_same]
        by_cases q : b = p
        · subst q; rw [hoj j e] at z; cases z
        · rw [upd_ne q]; rfl
      · rw [setO_ne e']; exact a.sep.oo j k b o n z
  · rw [slotAt_set _ _ _ _ hi]
    show SlotOk K w.F (setO w.O i _ j) _ _ _
    by_cases e : i = j
    · subst e
      rw [if_pos rfl, setO_same]
      refine ⟨p, ?_, ⟨ds', vs', rfl, r, rfl⟩, h5⟩
      unfold valAt
      rw [List.getD_eq_getElem?_getD, h1]; rfl
    · rw [if_neg e, setO_ne e]; exact a.sl j
  · have : b ≠ p := fun q => by rw [q] at n; rw [n i] at hO; cases hO
    rw [upd_ne this]; exact z
  · replace z : setO w.O i (upd nil p (.lst vs')) j b = some o := z
    by_cases e : i = j
    · subst e
      rw [setO_same] at z
      obtain ⟨rfl, rfl⟩ := one_eq z
      exact .inl ⟨i, _, hO⟩
    · rw [setO_ne e] at z; exact .inl ⟨j, o, z⟩
/-- an owned list is given up: nobody changes it any more -/
theorem At.frz {i : Nat} {ds : List D} (a : At K P σ env w H) (hi : i < env.length) (hs : slotAt env i = .own .lst false (.lst ds)) : ∃ w', At K P σ (env.set i (.val (.lst ds))) w' H ∧ ExtW w H w' H := by
  obtain ⟨p, vs, h1, h3, h4, h6, h5⟩ := a.lst hs
  have hO : w.O i p = some (.lst vs) := by rw [h4]; exact upd_same
  have hF : w.F p = none := a.sep.fo i p _ hO
  have hff : Same w.F (upd w.F p (.lst vs)) := same_new hF
  have fcase : ∀ {b : Addr} {o : HO}, upd w.F p (.lst vs) b = some o → (b = p ∧ o = .lst vs) ∨ w.F b = some o := fun {b o} z => by
    by_cases q : b = p
    · subst q; rw [upd_same] at z; cases z; exact .inl ⟨rfl, rfl⟩
    · rw [upd_ne q] at z; exact .inr z
  refine ⟨⟨upd w.F p (.lst vs), setO w.O i nil⟩, ⟨by simp [a.len], ⟨fun b o z => ?_, (a.sep.drop i).oh, fun j b o z => ?_, (a.sep.drop i).oo⟩, fun j => ?_⟩, ⟨hff, fun b o z _ => z, fun b o z => ?_, (Ext.drop (F := w.F) (H := H) i).no⟩⟩
  · rcases fcase z with ⟨rfl, rfl⟩ | z
    · exact h6
    · exact a.sep.fh _ _ z
  · replace z : setO w.O i nil j b = some o := z
    by_cases e : i = j
    · subst e; rw [setO_same] at z; cases z
    · rw [setO_ne e] at z
      have : b ≠ p := fun q => by subst q; rw [a.sep.oo i j b _ e hO] at z; cases z
      show upd w.F p (.lst vs) b = none
      rw [upd_ne this]; exact a.sep.fo j b o z
  · rw [slotAt_set _ _ _ _ hi]
    show SlotOk K (upd w.F p (.lst vs)) (setO w.O i nil j) _ _ _
    by_cases e : i = j
    · subst e
      rw [if_pos rfl, setO_same]
      refine ⟨rfl, .ref p, ?_, rep_lst.mpr ⟨p, vs, rfl, upd_same, RepL.mono hff _ _ h3⟩⟩
      unfold valAt
      rw [List.getD_eq_getElem?_getD, h1]; rfl
    · rw [if_neg e, setO_ne e]; exact (a.sl j).mono hff
  · rcases fcase z with ⟨rfl, rfl⟩ | z
    · exact .inr (.inl ⟨i, _, hO⟩)
    · exact .inl ⟨_, z⟩
end

/-! ### what is stored how -/
section
variable {X : Cx} {C : SC} {G : Nat → Option D} {Φ : Nat → FnSem}
theorem Good.blockKind (g : Good X C G Φ) : X.env.blockKind = .function := by unfold PySem.Env.blockKind; rw [g.kind]; rfl
theorem Good.kindOf (g : Good X C G Φ) (x : Str) : X.env.kindOf x = C.names.lookup x := by unfold PySem.Env.kindOf; rw [g.names]
theorem swap_of (g : Good X C G Φ) {tg v : Expr} {r : Option (List Str)} (h : swapM C tg v = some r) : swappedStores [tg] v X.env = pure r := by
  unfold swapM at h
  split at h
  · rename_i ts k1 p1 vs k2 p2
    unfold swappedStores
    simp only [g.blockKind, g.kindOf, Bool.or_eq_true, Bool.not_eq_true', bne_self_eq_false, or_false]
    split at h
    · rename_i z
      cases h
      exact if_pos (by simpa using z)
    · rename_i z
      refine Eq.trans (if_neg (by simpa using z)) ?_
      split at h
      · rename_i z
        cases h
        exact if_pos (by exact z)
      · rename_i z
        refine Eq.trans (if_neg (by exact z)) ?_
        split at h
        · rename_i z
          cases h
          simp only [Bool.or_eq_true] at z
          exact if_pos (by exact z)
        · rename_i z
          simp only [Bool.or_eq_true] at z
          refine Eq.trans (if_neg (by exact z)) ?_
          split at h
          · rename_i z
            cases h
            exact if_pos (by exact z)
          · rename_i z
            refine Eq.trans (if_neg (by exact z)) ?_
            split at h
            · cases h
            · rename_i z
              cases h
              exact if_neg (by exact z)
  · cases h
  · rename_i h1 h2
    cases h
    unfold swappedStores
    split
    · rename_i z
      split at z
      · rename_i heq
        cases heq
        exact (h2 _ _ _ _ _ _ rfl rfl).elim
      · rename_i heq
        cases heq
        exact (h1 _ _ rfl).elim
      · cases z
    · rfl
theorem swapLc_of (g : Good X C G Φ) {x : Str} {p : Pos} {v : Expr} {line : Nat} (h : swapLc C x p v = true) : swapsWith v (some (.Name x p)) line X.env = pure true ∧ X.env.scope.names.lookup x = some .local := by
  unfold swapLc at h
  split at h
  · rename_i a b sc q
    simp only [Bool.and_eq_true] at h
    obtain ⟨⟨h1, h2⟩, h3⟩ := h
    refine ⟨?_, ?_⟩
    · unfold swapsWith
      dsimp only
      rw [g.blockKind, g.kindOf, h1, show (Expr.ListComp a b sc q).pos = q from rfl, h2, h3]
      rfl
    · rw [g.names]
      have := eq_of_beq h1
      exact this
  · cases h
end
end Sb

/-! Sb.Body: statement by statement, then a def's body. -/
namespace Sb
open PySem PySem.Spec PyProof.Rows L2

theorem sole {v t : Expr} {l : Nat} {env : PySem.Env} {r : Sem Bool} (h : swapsWith v (some t) l env = r) : swapsWithSole [t] v l env = r := by
  unfold swapsWithSole
  exact h
theorem plain_as {o i : Expr} {pos : Pos} {env : PySem.Env} (h : noSlice i = true) : ∀ v, assign (.Subscript o i pos) env v = (do
      let ov ← holding [v] (eval o env)
      let iv ← holding [v, ov] (eval i env)
      standAt pos
      holding [v, ov, iv] (setItem ov iv v)
      release [v, ov, iv] []) := by
  intro v
  cases i <;> first | rfl | cases h

section
variable {G : Nat → Option D} {Φ : Nat → FnSem} {P : Nat → Addr}
variable (G Φ P)
def SS (s : S) : Prop := ∀ (X : Cx) (C : SC), Good X C G Φ → ∀ st, chkS C s st = true → PS X st (rdS X.K P (evS G Φ s))
def SSs (ss : List S) : Prop := ∀ (X : Cx) (C : SC), Good X C G Φ → ∀ sts, chkSs C ss sts = true → PSs X sts (rdS X.K P (evSs G Φ ss))
variable {G Φ P}
section
variable {K : PySem.W.Frag} {σ : L2.St} {H : Hp}
theorem AfterS.ext {w w1 : Wd} {H1 : Hp} {D : Ends} {fl : Fl} (s : Sepd w.F w.O H) (s1 : Sepd w1.F w1.O H1) (x : ExtW w H w1 H1) (k : AfterS K P w H D fl) : AfterS K P w1 H1 D fl := by
  cases fl with
  | nx env => exact fun σ' w' H' a' x' => k σ' w' H' a' (x.trans s s1 x')
  | rt d env => exact fun v σ' w' H' a' x' r => k v σ' w' H' a' (x.trans s s1 x') r
/-- name = value -/
theorem rd_set {i : Nat} {ev : Env → Option (D × Env)} {D : Ends} (h : rdS K P (fun env => (ev env).bind fun p => (setV p.2 i p.1).map .nx) D σ H) : tAsg (rd K P ev) (gName i) D σ H := by
  obtain ⟨env, w, a, fl, e, k⟩ := h
  obtain ⟨⟨d1, env1⟩, e1, e⟩ := Option.bind_eq_some_iff.mp e
  obtain ⟨env2, e2, rfl⟩ := Option.map_eq_some_iff.mp e
  refine ⟨env, w, a, d1, env1, e1, fun v w1 H1 a1 x1 r1 => ?_⟩
  obtain ⟨w2, a2, x2, _⟩ := setV_at e2 a1 r1
  exact k _ w2 H1 a2 (x1.trans a.sep a1.sep x2)
/-- .. by a comprehension -/
theorem rd_own {i : Nat} {ev : Env → Option (D × Env)} {D : Ends}
    (h : rdS K P (fun env => (ev env).bind fun p => match p.1 with | .lst ds => if i < p.2.length then some (.nx (p.2.set i (.own .lst false (.lst ds)))) else none | _ => none) D σ H) : tAsg (rdF K P ev) (gName i) D σ H := by
  obtain ⟨env, w, a, fl, e, k⟩ := h
  obtain ⟨⟨d1, env1⟩, e1, e⟩ := Option.bind_eq_some_iff.mp e
  dsimp only at e
  split at e
  · split at e
    · rename_i hi
      cases e
      refine ⟨env, w, a, _, env1, e1, fun p vs w1 H1 a1 x1 r1 hp => ?_⟩
      obtain ⟨a2, x2⟩ := a1.own_new hi r1 hp
      exact k _ _ _ a2 (x1.trans a.sep a1.sep x2)
    · cases e
  · cases e
theorem rd_asg {t : List Nat} {ev : Env → Option (D × Env)} {D : Ends} (h : rdS K P (fun env => (ev env).bind fun p => (asgT false t p.1 p.2).map .nx) D σ H) : tAsg (rd K P ev) (gOf K false t) D σ H := by
  obtain ⟨env, w, a, fl, e, k⟩ := h
  obtain ⟨⟨d1, env1⟩, e1, e⟩ := Option.bind_eq_some_iff.mp e
  obtain ⟨env2, e2, rfl⟩ := Option.map_eq_some_iff.mp e
  refine ⟨env, w, a, d1, env1, e1, fun v w1 H1 a1 x1 r1 => ?_⟩
  exact g_at e2 a1 r1 fun σ' w' a' x' _ _ => k _ w' H1 a' (x1.trans a.sep a1.sep x')
theorem rdS_of {f h : Env → Option Fl} {D : Ends} (q : rdS K P f D σ H) (e : ∀ env, f env = h env) : rdS K P h D σ H := by
  have : f = h := funext e
  rw [← this]; exact q
end
theorem ss_asg1 (O : Owed) {i : Nat} {e : E} : SS G Φ P (.asg1 i e) := fun X C g st h => by
  unfold chkS at h
  split at h
  · rename_i x p v pos
    simp only [Bool.and_eq_true, Bool.or_eq_true, Bool.not_eq_true'] at h
    obtain ⟨⟨h1, h2⟩, h3⟩ := h
    unfold nmS at h1
    obtain ⟨q1, q2⟩ := Bool.and_eq_true_iff.mp h1
    obtain ⟨lo, fn⟩ := g.sto q2
    have key : ∀ {D σ H}, rdS X.K P (evS G Φ (.asg1 i e)) D σ H → tAsg (rd X.K P (evE G Φ e)) (gName i) D σ H := fun {D σ H} q => rd_set (rdS_of q fun env => by rw [evS] <;> rfl)
    rcases h3 with h3 | h3
    · exact PS.weak (ps_set g.nd (g.slot q1) lo (soundE (P := P) O e X C g v h2) (swap_none ((chk_plain C e v h2).2.2.2 h3)) fn) fun D σ H q => key q
    · obtain ⟨sw, ll⟩ := swapLc_of g (line := pos.line) h3
      cases e with
      | lc vs t src c elt =>
        obtain ⟨x2, tg, it, ifs, sc, pos2, own, rfl, rfl, hs, ps, pi, bo, pg, pt, pe⟩ := lc_parts (soundI (P := P) O src) (soundT (P := P) O c) (soundE (P := P) O elt) g h2
        refine PS.weak (ps_setLc g.calm g.nd (g.slot q1) ll sw pi bo pg pt pe (folded_none ps)) fun D σ H q => ?_
        exact rdF_lc hs (rd_F (key q) rd_lc_lst)
      | _ =>
        have hn := (chk_plain C _ v h2).2.2.2 rfl
        exfalso
        unfold swapLc at h3
        split at h3
        · cases hn
        · cases h3
  · cases h
theorem ss_own (O : Owed) {i : Nat} {e : E} : SS G Φ P (.own i e) := fun X C g st h => by
  unfold chkS at h
  split at h
  · rename_i x p v pos
    simp only [Bool.and_eq_true, Bool.or_eq_true] at h
    obtain ⟨⟨h1, h2⟩, h3⟩ := h
    unfold nmS at h1
    obtain ⟨q1, q2⟩ := Bool.and_eq_true_iff.mp h1
    obtain ⟨lo, fn⟩ := g.sto q2
    have key : ∀ {D σ H}, rdS X.K P (evS G Φ (.own i e)) D σ H → tAsg (rdF X.K P (evE G Φ e)) (gName i) D σ H := fun {D σ H} q => rd_own (rdS_of q fun env => by rw [evS] <;> rfl)
    cases e with
    | lst es => exact PS.weak (ps_set g.nd (g.slot q1) lo (s_lstF (fun c _ => soundE (P := P) O c) g h2) (swap_none ((chk_plain C _ v h2).2.2.2 rfl)) fn) fun D σ H q => key q
    | lc vs t src c elt =>
      rcases h3 with h3 | ⟨_, h3⟩
      · cases h3
      · obtain ⟨sw, ll⟩ := swapLc_of g (line := pos.line) h3
        obtain ⟨x2, tg, it, ifs, sc, pos2, own, rfl, rfl, hs, ps, pi, bo, pg, pt, pe⟩ := lc_parts (soundI (P := P) O src) (soundT (P := P) O c) (soundE (P := P) O elt) g h2
        refine PS.weak (ps_setLc g.calm g.nd (g.slot q1) ll sw pi bo pg pt pe (folded_none ps)) fun D σ H q => ?_
        exact rdF_lc hs (key q)
    | _ =>
      rcases h3 with h3 | ⟨h3, _⟩
      · cases h3
      · cases h3
  · cases h
theorem ss_asg (O : Owed) {t : List Nat} {e : E} : SS G Φ P (.asg t e) := fun X C g st h => by
  unfold chkS at h
  split at h
  · rename_i ts k p v pos
    simp only [Bool.and_eq_true, Bool.not_eq_true'] at h
    obtain ⟨⟨⟨h1, h2⟩, h3⟩, h4⟩ := h
    have sw : swapM C (.Tuple ts k p) v = some none := by
      split at h4
      · assumption
      · cases h4
    obtain ⟨p1, p2, p3⟩ := nmSs_pgs g h1
    have hg : PG X (.Tuple ts k p) (gOf X.K false t) := pg_tup g.calm p1 (by rw [asg_len, p3]) (asg_idx p2)
    exact PS.weak (ps_asg (soundE (P := P) O e X C g v h2) hg (sole (swap_none ((chk_plain C e v h2).2.2.2 h3))) (swap_of g sw)) fun D σ H q => rd_asg (rdS_of q fun env => by rw [evS] <;> rfl)
  · cases h
theorem ss_ex (O : Owed) {e : E} : SS G Φ P (.ex e) := fun X C g st h => by
  unfold chkS at h
  split at h
  · rename_i v pos
    obtain ⟨h1, h2⟩ := Bool.and_eq_true_iff.mp h
    refine PS.weak (ps_expr (soundE (P := P) O e X C g v h1) (swap_none ((chk_plain C e v h1).2.2.2 (by simpa using h2)))) fun D σ H q => ?_
    obtain ⟨env, w, a, fl, e, k⟩ := q
    rw [evS] at e
    obtain ⟨⟨d1, env1⟩, e1, rfl⟩ := Option.map_eq_some_iff.mp e
    exact ⟨env, w, a, d1, env1, e1, fun v w1 H1 a1 x1 r1 => k _ w1 H1 a1 x1⟩
  · cases h
theorem ss_ret (O : Owed) {e : E} : SS G Φ P (.ret e) := fun X C g st h => by
  unfold chkS at h
  split at h
  · rename_i v pos
    refine PS.weak (ps_ret (soundE (P := P) O e X C g v h)) fun D σ H q => ?_
    obtain ⟨env, w, a, fl, e, k⟩ := q
    rw [evS] at e
    obtain ⟨⟨d1, env1⟩, e1, rfl⟩ := Option.map_eq_some_iff.mp e
    exact ⟨env, w, a, d1, env1, e1, fun v w1 H1 a1 x1 r1 => k _ _ w1 H1 a1 x1 r1⟩
  · cases h
theorem ss_retN : SS G Φ P .retN := fun X C g st h => by
  unfold chkS at h
  split at h
  · refine PS.weak ps_retN fun D σ H q => ?_
    obtain ⟨env, w, a, fl, e, k⟩ := q
    rw [evS] at e
    cases e
    exact k _ _ w H a Ext.refl rfl
  · cases h
theorem ss_never : SS G Φ P .never := fun X C g st h => PS.weak ps_never fun D σ H q => by
  obtain ⟨env, w, a, fl, e, k⟩ := q
  rw [evS] at e
  cases e
theorem ss_app (O : Owed) {i : Nat} {e : E} : SS G Φ P (.app i e) := fun X C g st h => by
  unfold chkS at h
  split at h
  · rename_i x p m ap y cp pos
    simp only [Bool.and_eq_true, decide_eq_true_eq] at h
    obtain ⟨⟨⟨h1, rfl⟩, h3⟩, h4⟩ := h
    have ns := (chk_plain C e y h4).1
    refine PS.weak (ps_expr (pe_bm PySem.F.plainAttrs_list PySem.F.slot_list_append PySem.F.type_list_append (mt_append (X := X)) (nm_pe g h1) (pa_cons (soundE (P := P) O e X C g y h4) pa_nil (star_cons ns)) (base_of rfl) (few_of ns rfl (by decide)) h3 (star_cons ns) (star_any rfl)) rfl) fun D σ H q => ?_
    obtain ⟨env, w, a, fl, e1, k⟩ := q
    rw [evS] at e1
    split at e1
    · rename_i fix0 d0 hs0
      obtain ⟨p, hp, ⟨ds0, vs0, rfl, r0, o0⟩, f0⟩ := a.own hs0
      obtain ⟨⟨d1, env1⟩, e2, e1⟩ := Option.bind_eq_some_iff.mp e1
      dsimp only at e1
      split at e1
      · rename_i fix ds hs1
        split at e1
        · rename_i hz
          cases e1
          have hH : H p = some (.lst vs0) := a.sep.oh i p _ (by rw [o0]; exact upd_same)
          refine ⟨_, hp, .inl ⟨rfl, _, SqL.of hH⟩, env, w, a, d1, env1, e2, fun v w1 H1 a1 x1 r1 => ?_⟩
          obtain ⟨p', vs, q1, q2, q3, q4, q5⟩ := a1.lst hs1
          rw [hp] at q1; cases q1
          have hl : vs.length < sizeLine := by
            rw [q2.length]
            have hL : LIM ≤ sizeLine := by rw [sizeLine_eq]; decide
            omega
          refine ⟨p, vs, v, rfl, rfl, q4, hl, ?_⟩
          obtain ⟨a2, x2⟩ := a1.own_put hz.2 hs1 hp q3 q5 (q2.append (RepL.cons r1 RepL.nil))
          exact k _ _ _ a2 (x1.trans a.sep a1.sep x2)
        · cases e1
      · cases e1
    · cases e1
  · cases h
theorem ss_oset (O : Owed) {i : Nat} {ix e : E} : SS G Φ P (.oset i ix e) := fun X C g st h => by
  unfold chkS at h
  split at h
  · rename_i x p y sp v pos
    simp only [Bool.and_eq_true, Bool.not_eq_true'] at h
    obtain ⟨⟨⟨h1, h2⟩, h3⟩, h4⟩ := h
    refine PS.weak (ps_asg (soundE (P := P) O e X C g v h3) (pg_sub (nm_pe g h1) (soundE (P := P) O ix X C g y h2) set_list (plain_as (chk_plain C ix y h2).2.2.1)) (sole (swap_none ((chk_plain C e v h3).2.2.2 h4))) rfl rfl) fun D σ H q => ?_
    obtain ⟨env, w, a, fl, e1, k⟩ := q
    rw [evS] at e1
    obtain ⟨⟨d1, env1⟩, e2, e1⟩ := Option.bind_eq_some_iff.mp e1
    dsimp only at e1
    split at e1
    · rename_i fix0 d0 hs0
      obtain ⟨⟨d2, env2⟩, e3, e1⟩ := Option.bind_eq_some_iff.mp e1
      dsimp only at e1
      split at e1
      · rename_i fix ds kk hs1
        obtain ⟨j, e4, e1⟩ := Option.bind_eq_some_iff.mp e1
        split at e1
        · rename_i hz
          cases e1
          refine ⟨env, w, a, d1, env1, e2, fun v w1 H1 a1 x1 r1 => ?_⟩
          obtain ⟨p, hp, _, _⟩ := a1.own hs0
          refine ⟨_, hp, env1, w1, a1, _, env2, e3, fun v2 w2 H2 a2 x2 r2 => ?_⟩
          cases r2
          obtain ⟨p', vs, q1, q2, q3, q4, q5⟩ := a2.lst hs1
          rw [hp] at q1; cases q1
          refine ⟨p, vs, kk, j, rfl, rfl, q4, by rw [q2.length]; exact e4, ?_⟩
          obtain ⟨a3, x3⟩ := a2.own_put hz hs1 hp q3 q5 (q2.set j (r1.mono x2.ff d1 v))
          exact k _ _ _ a3 ((x1.trans a.sep a1.sep x2).trans a.sep a2.sep x3)
        · cases e1
      · cases e1
    · cases e1
  · cases h
theorem nmLs_of {X : Cx} {C : SC} (g : Good X C G Φ) : ∀ {is : List Nat} {es : List Expr}, nmLs C is es = true → es.length = is.length ∧ ∀ (j i : Nat) (e : Expr), is[j]? = some i → es[j]? = some e → ∃ x p, e = Expr.Name x p ∧ X.N[i]? = some x ∧ X.env.scope.names.lookup x = some .local
  | [], [], _ => ⟨rfl, fun j i e h => by simp at h⟩
  | [], _ :: _, h => by cases h
  | _ :: _, [], h => by cases h
  | i :: is, e :: es, h => by
    obtain ⟨h1, h2⟩ := Bool.and_eq_true_iff.mp (show (nmL C i e && nmLs C is es) = true from h)
    obtain ⟨l1, l2⟩ := nmLs_of g h2
    refine ⟨by simp [l1], fun j i' e' q1 q2 => ?_⟩
    cases j with
    | zero =>
      simp at q1 q2
      subst q1 q2
      unfold nmL at h1
      split at h1
      · obtain ⟨z1, z2⟩ := Bool.and_eq_true_iff.mp h1
        exact ⟨_, _, rfl, g.slot z1, g.loc z2⟩
      · cases h1
    | succ j => exact l2 j i' e' (by simpa using q1) (by simpa using q2)
theorem setVs_len : ∀ {t : List Nat} {ds : List D} {env env1 : Env}, setVs t ds env = some env1 → ds.length = t.length
  | [], [], _, _, _ => rfl
  | [], _ :: _, _, _, h => by cases h
  | _ :: _, [], _, _, h => by cases h
  | i :: is, d :: ds, env, env1, h => by
    obtain ⟨env2, e1, e2⟩ := Option.bind_eq_some_iff.mp h
    simp [setVs_len e2]
theorem ss_par (O : Owed) {is : List Nat} {es : List E} : SS G Φ P (.par is es) := fun X C g st h => by
  unfold chkS at h
  split at h
  · rename_i ts k p vs k2 p2 pos
    simp only [Bool.and_eq_true, Bool.or_eq_true, decide_eq_true_eq, beq_iff_eq] at h
    obtain ⟨⟨⟨⟨⟨h1, h2⟩, h3⟩, h4⟩, h5⟩, h6⟩ := h
    have sw := swap_of g h5
    obtain ⟨l1, l2⟩ := nmLs_of g h1
    have pa := s_L (P := P) g es (fun c _ => soundE (P := P) O c) vs h2
    match ts, vs, is, l1, l2, h3, h4, h6, pa, sw with
    | [a, b], [v, u], [i, j], _, l2, _, _, h6, pa, sw =>
      obtain ⟨x, px, rfl, hx1, hx2⟩ := l2 0 i a rfl rfl
      obtain ⟨y, py, rfl, hy1, hy2⟩ := l2 1 j b rfl rfl
      have hij : i ≠ j := fun z => by simp [z] at h6
      refine PS.weak (ps_par g.calm g.nd hx1 hy1 hij hx2 hy2 pa sw rfl) fun D σ H q => ?_
      obtain ⟨env, w, a, fl, e1, k⟩ := q
      rw [evS] at e1
      obtain ⟨⟨ds, env1⟩, e2, e1⟩ := Option.bind_eq_some_iff.mp e1
      dsimp only at e1
      rw [if_pos h6] at e1
      obtain ⟨env2, e3, rfl⟩ := Option.map_eq_some_iff.mp e1
      refine ⟨env, w, a, ds, env1, e2, fun vs w1 H1 a1 x1 r1 => ?_⟩
      have hl := setVs_len e3
      match ds, hl, e3, r1 with
      | [d1, d2], _, e3, r1 =>
        obtain ⟨v1, v2, rfl, r1, r2⟩ := repL_two r1
        obtain ⟨env3, q1, e3⟩ := Option.bind_eq_some_iff.mp e3
        obtain ⟨env4, q2, e3⟩ := Option.bind_eq_some_iff.mp e3
        cases e3
        obtain ⟨w2, a2, x2, f2⟩ := setV_at q1 a1 r1
        obtain ⟨w3, a3, x3, f3⟩ := setV_at q2 a2 (v := v2) (by rw [f2]; exact r2)
        exact ⟨v1, v2, rfl, k _ w3 H1 a3 ((x1.trans a.sep a1.sep x2).trans a.sep a2.sep x3)⟩
    | [a, b, c], [v, u, z], [i, j, l], _, l2, _, _, h6, pa, sw =>
      obtain ⟨x, px, rfl, hx1, hx2⟩ := l2 0 i a rfl rfl
      obtain ⟨y, py, rfl, hy1, hy2⟩ := l2 1 j b rfl rfl
      obtain ⟨zz, pz, rfl, hz1, hz2⟩ := l2 2 l c rfl rfl
      have hij : i ≠ j := fun q => by simp [q] at h6
      have hil : i ≠ l := fun q => by simp [q] at h6
      have hjl : j ≠ l := fun q => by simp [q] at h6
      refine PS.weak (ps_par3 g.calm g.nd hx1 hy1 hz1 hij hil hjl hx2 hy2 hz2 pa sw rfl) fun D σ H q => ?_
      obtain ⟨env, w, a, fl, e1, k⟩ := q
      rw [evS] at e1
      obtain ⟨⟨ds, env1⟩, e2, e1⟩ := Option.bind_eq_some_iff.mp e1
      dsimp only at e1
      rw [if_pos h6] at e1
      obtain ⟨env2, e3, rfl⟩ := Option.map_eq_some_iff.mp e1
      refine ⟨env, w, a, ds, env1, e2, fun vs w1 H1 a1 x1 r1 => ?_⟩
      have hl := setVs_len e3
      match ds, hl, e3, r1 with
      | [d1, d2, d3], _, e3, r1 =>
        obtain ⟨v1, r, rfl, p1, p2⟩ := repL_cons.mp r1
        obtain ⟨v2, v3, rfl, r2, r3⟩ := repL_two p2
        obtain ⟨env3, q1, e3⟩ := Option.bind_eq_some_iff.mp e3
        obtain ⟨env4, q2, e3⟩ := Option.bind_eq_some_iff.mp e3
        obtain ⟨env5, q3, e3⟩ := Option.bind_eq_some_iff.mp e3
        cases e3
        obtain ⟨w2, a2, x2, f2⟩ := setV_at q1 a1 p1
        obtain ⟨w3, a3, x3, f3⟩ := setV_at q2 a2 (v := v2) (by rw [f2]; exact r2)
        obtain ⟨w4, a4, x4, f4⟩ := setV_at q3 a3 (v := v3) (by rw [f3, f2]; exact r3)
        exact ⟨v1, v2, v3, rfl, k _ w4 H1 a4 (((x1.trans a.sep a1.sep x2).trans a.sep a2.sep x3).trans a.sep a3.sep x4)⟩
    | [], _, _, _, _, h3, _, _, _, _ => exact (by rcases h3 with h3 | h3 <;> cases h3)
    | [_], _, _, _, _, h3, _, _, _, _ => exact (by rcases h3 with h3 | h3 <;> cases h3)
    | _ :: _ :: _ :: _ :: _, _, _, _, _, h3, _, _, _, _ => exact (by rcases h3 with h3 | h3 <;> (simp at h3))
  · cases h
/-! ### statements that hold others -/
theorem ss_nil : SSs G Φ P [] := fun X C g sts h => by
  unfold chkSs at h
  cases sts with
  | nil =>
    refine PSs.weak pss_nil fun D σ H q => ?_
    obtain ⟨env, w, a, fl, e, k⟩ := q
    rw [evSs] at e
    cases e
    exact k _ w H a Ext.refl
  | cons _ _ => cases h
theorem rd_seq {K : PySem.W.Frag} {σ : L2.St} {H : Hp} {s : S} {ss : List S} {D : Ends} (q : rdS K P (evSs G Φ (s :: ss)) D σ H) : tSeq (rdS K P (evS G Φ s)) (rdS K P (evSs G Φ ss)) D σ H := by
  obtain ⟨env, w, a, fl, e, k⟩ := q
  rw [evSs] at e
  obtain ⟨f, e1, e⟩ := Option.bind_eq_some_iff.mp e
  refine ⟨env, w, a, f, e1, ?_⟩
  cases f with
  | nx env1 => exact fun σ' w' H' a' x' => ⟨env1, w', a', fl, e, k.ext a.sep a'.sep x'⟩
  | rt d env1 =>
    cases e
    exact fun v σ' w' H' a' x' r => k v σ' w' H' a' x' r
theorem ss_cons {s : S} {ss : List S} (hs : SS G Φ P s) (ht : SSs G Φ P ss) : SSs G Φ P (s :: ss) := fun X C g sts h => by
  unfold chkSs at h
  split at h
  · rename_i i
    refine PSs.weak (ht X C g sts h) fun D σ H q => ?_
    obtain ⟨env, w, a, fl, e, k⟩ := q
    rw [evSs] at e
    obtain ⟨f, e1, e⟩ := Option.bind_eq_some_iff.mp e
    rw [evS] at e1
    split at e1
    · rename_i d hsl
      split at e1
      · rename_i hi
        cases e1
        obtain ⟨p, _, ⟨ds, vs, rfl, _⟩, _⟩ := a.own hsl
        obtain ⟨w', a', x'⟩ := a.frz hi hsl
        exact ⟨_, w', a', fl, e, k.ext a.sep a'.sep x'⟩
      · cases e1
    · cases e1
  · split at h
    · obtain ⟨h1, h2⟩ := Bool.and_eq_true_iff.mp h
      exact PSs.weak (pss_cons (hs X C g _ h1) (ht X C g _ h2)) fun D σ H q => rd_seq q
    · cases h
theorem ss_ife (O : Owed) {c : E} {a b : List S} (ha : SSs G Φ P a) (hb : SSs G Φ P b) : SS G Φ P (.ife c a b) := fun X C g st h => by
  unfold chkS at h
  split at h
  · simp only [Bool.and_eq_true] at h
    obtain ⟨⟨⟨h1, h2⟩, h3⟩, h4⟩ := h
    refine PS.weak (ps_if (soundT (P := P) O c X C g _ h1 h2) (ha X C g _ h3) (hb X C g _ h4)) fun D σ H q => ?_
    obtain ⟨env, w, a, fl, e, k⟩ := q
    rw [evS] at e
    obtain ⟨⟨d1, env1⟩, e1, e⟩ := Option.bind_eq_some_iff.mp e
    dsimp only at e
    split at e
    · exact ⟨env, w, a, true, env1, e1, fun w1 H1 a1 x1 => ⟨env1, w1, a1, fl, e, k.ext a.sep a1.sep x1⟩⟩
    · exact ⟨env, w, a, false, env1, e1, fun w1 H1 a1 x1 => ⟨env1, w1, a1, fl, e, k.ext a.sep a1.sep x1⟩⟩
    · cases e
  · cases h
theorem ss_for (O : Owed) {t : List Nat} {one : Bool} {src : E} {body : List S} (hb : SSs G Φ P body) : SS G Φ P (.for_ t one src body) := fun X C g st h => by
  unfold chkS at h
  split at h
  · simp only [Bool.and_eq_true] at h
    obtain ⟨⟨⟨⟨h1, h2⟩, h3⟩, h4⟩, h5⟩ := h
    exact PS.weak (ps_for g.pass g.calm (soundI (P := P) O src X C g _ _ h1 h2 h3) (tgt_pg g h4).1 (hb X C g _ h5) (folded_none (src_plain h1 h2))) fun D σ H q => rd_for q
  · cases h
theorem rd_whl {K : PySem.W.Frag} {σ : L2.St} {H : Hp} {n : Nat} {c : E} {body : List S} {D : Ends} (q : rdS K P (evS G Φ (.whl n c body)) D σ H) : tWhile (rdT K P (evE G Φ c)) (rdS K P (evSs G Φ body)) D σ H := by
  obtain ⟨env, w, a, fl, e, k⟩ := q
  rw [evS] at e
  refine ⟨fun m σ' H' => ∃ env' w', At K P σ' env' w' H' ∧ ExtW w H w' H' ∧ whGo (fun e => evE G Φ c e) (fun e => evSs G Φ body e) m env' = some fl, ⟨n, env, w, a, Ext.refl, e⟩, fun m σ' H' ⟨env', w', a', x', e'⟩ => ?_⟩
  cases m with
  | zero => rw [whGo] at e'; cases e'
  | succ m =>
    rw [whGo] at e'
    obtain ⟨⟨d1, env1⟩, e1, e'⟩ := Option.bind_eq_some_iff.mp e'
    dsimp only at e'
    split at e'
    · obtain ⟨f, e2, e'⟩ := Option.bind_eq_some_iff.mp e'
      refine ⟨env', w', a', true, env1, e1, fun w1 H1 a1 x1 => ?_⟩
      have x2 := x'.trans a.sep a'.sep x1
      dsimp only
      rw [if_pos rfl]
      refine ⟨fun σ4 H4 => ∃ env' w', At K P σ4 env' w' H4 ∧ ExtW w H w' H4 ∧ whGo (fun e => evE G Φ c e) (fun e => evSs G Φ body e) m env' = some fl, fun σ4 H4 z => ⟨m, Nat.lt_succ_self m, z⟩, env1, w1, a1, f, e2, ?_⟩
      cases f with
      | nx env3 => exact fun σ4 w4 H4 a4 x4 => ⟨env3, w4, a4, x2.trans a.sep a1.sep x4, e'⟩
      | rt d env3 =>
        cases e'
        exact fun v σ4 w4 H4 a4 x4 r4 => k v σ4 w4 H4 a4 (x2.trans a.sep a1.sep x4) r4
    · cases e'
      refine ⟨env', w', a', false, env1, e1, fun w1 H1 a1 x1 => ?_⟩
      dsimp only
      rw [if_neg Bool.false_ne_true]
      exact k σ' w1 H1 a1 (x'.trans a.sep a'.sep x1)
    · cases e'
theorem ss_whl (O : Owed) {n : Nat} {c : E} {body : List S} (hb : SSs G Φ P body) : SS G Φ P (.whl n c body) := fun X C g st h => by
  unfold chkS at h
  split at h
  · simp only [Bool.and_eq_true] at h
    obtain ⟨⟨h1, h2⟩, h3⟩ := h
    exact PS.weak (ps_while g.pass (soundT (P := P) O c X C g _ h1 h2) (hb X C g _ h3)) fun D σ H q => rd_whl q
  · cases h
theorem ss_frz {i : Nat} : SS G Φ P (.frz i) := fun X C g st h => by unfold chkS at h; cases h
theorem soundB (O : Owed) : ∀ (n : Nat), (∀ s : S, sizeOf s < n → SS G Φ P s) ∧ ∀ ss : List S, sizeOf ss < n → SSs G Φ P ss
  | 0 => ⟨fun _ h => absurd h (Nat.not_lt_zero _), fun _ h => absurd h (Nat.not_lt_zero _)⟩
  | n + 1 => by
    obtain ⟨i1, i2⟩ := soundB O n
    constructor
    · intro s h
      cases s with
      | asg t e => exact ss_asg O
      | asg1 i e => exact ss_asg1 O
      | par is es => exact ss_par O
      | own i e => exact ss_own O
      | oset i ix e => exact ss_oset O
      | app i e => exact ss_app O
      | frz i => exact ss_frz
      | ex e => exact ss_ex O
      | ife c a b => exact ss_ife O (i2 a (by simp at h; omega)) (i2 b (by simp at h; omega))
      | for_ t one src body => exact ss_for O (i2 body (by simp at h; omega))
      | whl m c body => exact ss_whl O (i2 body (by simp at h; omega))
      | ret e => exact ss_ret O
      | retN => exact ss_retN
      | never => exact ss_never
    · intro ss h
      cases ss with
      | nil => exact ss_nil
      | cons s ss => exact ss_cons (i1 s (by simp at h; omega)) (i2 ss (by simp at h; omega))
theorem soundS (O : Owed) (ss : List S) : SSs G Φ P ss := (soundB O _).2 ss (Nat.lt_succ_self _)
end
end Sb

/-! Sb.Fun: a def of the text is worth what its term reckons. -/
namespace Sb
open PySem PySem.Spec PyProof.Rows L2

/-- a def as it stands -/
structure DefR (K : PySem.W.Frag) (mg : Str → Option Value) (x : Str) (st : Stmt) : Prop where
  ex : ∃ (f : Addr) (fd : FuncData), mg x = some (.ref f) ∧ PySem.W.keepIn K (.ref f) = true ∧ Fun K x x st f fd
theorem def_mk {K : PySem.W.Frag} {h : Heap} {mg : Str → Option Value} {x : Str} {st : Stmt} {f : Addr} (X : K.In h) (G : h.Ns mainGlobals mg) {oc : Value} {od an : Option Addr} {osl : Array (Option Value)} {kV doc pm cdv ct : Value}
    (a : PySem.W.nsIn K mainGlobals x = some (some (.ref f))) (l : K.lookup f = some ⟨oc, od, .func (PySem.W.fnOf x x (defArgs st) (defBody st) (defScope st) .none kV doc pm an cdv ct), osl⟩) (c : PySem.W.codeIn K cdv x = true) (k : PySem.W.keepIn K (.ref f) = true) : DefR K mg x st :=
  ⟨⟨f, _, PySem.W.mg_of X G a, k, fun_mk l c k⟩⟩
/-- a def worth φ -/
structure DefAt (P : Program) (w : World) (K : PySem.W.Frag) (mg : Str → Option Value) (base : Heap) (x : Str) (n k : Nat) (φ : FnSem) : Prop where
  ex : ∃ (f : Addr) (fd : FuncData) (ps : List Str), ps.length = n ∧ mg x = some (.ref f) ∧ PySem.W.keepIn K (.ref f) = true ∧ Binds K fd ps [] ∧ FnOk P w K mg base CX0 k f fd ps (spOf K φ n)
section
variable {P : Program} {w : World} {K : PySem.W.Frag} {mg : Str → Option Value} {base : Heap} {x : Str} {n j k : Nat} {φ φ' : FnSem}
theorem spOf_le {vs : List V} {H : Hp} {Q : VK} {E : XK} (h : ∀ as r, as.length = n → φ as = some r → φ' as = some r) (q : spOf K φ n vs H Q E) : spOf K φ' n vs H Q E := by
  obtain ⟨F, O, Pp, as, h1, h2, h3, h4, h5, d, os, h6, h7⟩ := q
  exact ⟨F, O, Pp, as, h1, h2, h3, h4, h5, d, os, h _ _ h3 h6, h7⟩
/-- what it is known to be worth -/
theorem DefAt.imp (D : DefAt P w K mg base x n k φ') (h : ∀ as r, as.length = n → φ as = some r → φ' as = some r) : DefAt P w K mg base x n k φ := by
  obtain ⟨f, fd, ps, h1, h2, h3, h4, h5⟩ := D.ex
  exact ⟨f, fd, ps, h1, h2, h3, h4, h5.imp fun vs H Q E q => spOf_le h q⟩
theorem DefAt.mono (D : DefAt P w K mg base x n j φ) (h : j ≤ k) : DefAt P w K mg base x n k φ := by
  obtain ⟨f, fd, ps, h1, h2, h3, h4, h5⟩ := D.ex
  exact ⟨f, fd, ps, h1, h2, h3, h4, h5.mono h⟩
end
abbrev FnL := List (Str × Nat × FnSem)
def phi (l : FnL) (j : Nat) : FnSem := match l[j]? with
  | some p => p.2.2
  | none => fun _ => none
abbrev GlL := List (Str × D)
def gam (l : GlL) (j : Nat) : Option D := (l[j]?).map (·.2)
/-- what a body is looked at with -/
def mkSC (N : List Str) (names : List (Str × NameKind)) (fns : List (Str × Nat)) (glo blt : List Str) : SC := { N := N, names := names, cs := true, fns := fns.map (·.1), ari := fns.map (·.2), glo := glo, blt := blt }
theorem outs_at : ∀ {as os : List Arg} {s : Nat} {env : Env}, outs as s env = some os → ∀ (i : Nat) (a : Arg), os[i]? = some a → match a with | .v _ => True | .o k d => slotAt env (s + i) = .own k true d
  | [], os, s, env, h, i, a, q => by cases h; simp at q
  | .v d :: r, os, s, env, h, i, a, q => by
    rw [outs] at h
    obtain ⟨os', h1, rfl⟩ := Option.map_eq_some_iff.mp h
    cases i with
    | zero => simp at q; subst q; trivial
    | succ i =>
      have := outs_at h1 i a (by simpa using q)
      have e : s + 1 + i = s + (i + 1) := by omega
      rw [e] at this
      exact this
  | .o k d :: r, os, s, env, h, i, a, q => by
    rw [outs] at h
    split at h
    · rename_i k' d' hs
      split at h
      · rename_i hk
        subst hk
        obtain ⟨os', h1, rfl⟩ := Option.map_eq_some_iff.mp h
        cases i with
        | zero => simp at q; subst q; exact hs
        | succ i =>
          have := outs_at h1 i a (by simpa using q)
          have e : s + 1 + i = s + (i + 1) := by omega
          rw [e] at this
          exact this
      · cases h
    · cases h
theorem start_at {K : PySem.W.Frag} {F : Hp} {O : Nat → Hp} {P : Nat → Addr} {H : Hp} {as : List Arg} {vs : List V} {n : Nat} {N : List Str} (s : Sepd F O H) (hO : ∀ i, n ≤ i → O i = nil) (h1 : as.length = n) (h2 : vs.length = n) (hn : n ≤ N.length)
    (ha : ∀ i a v, as[i]? = some a → vs[i]? = some v → ArgOk K F (O i) (P i) a v) : At K P (L2.start N vs) (startE as N.length) ⟨F, O⟩ H := by
  refine ⟨?_, s, fun i => ?_⟩
  · unfold L2.start startE
    simp only [List.length_append, List.length_map, List.length_replicate]
    omega
  · by_cases hi : i < n
    · have e1 : as[i]? = some as[i] := List.getElem?_eq_getElem (by omega)
      have e2 : vs[i]? = some vs[i] := List.getElem?_eq_getElem (by omega)
      have hs : slotAt (startE as N.length) i = argSlot as[i] := by
        unfold slotAt startE
        rw [List.getD_eq_getElem?_getD, List.getElem?_append_left (by simp; omega), List.getElem?_map, e1]; rfl
      have hv : valAt (L2.start N vs) i = some vs[i] := by
        unfold valAt L2.start
        rw [List.getD_eq_getElem?_getD, List.getElem?_append_left (by simp; omega), List.getElem?_map, e2]; rfl
      rw [hs, hv]
      have h := ha i _ _ e1 e2
      cases q : as[i] with
      | v d =>
        rw [q] at h
        exact ⟨h.1, _, rfl, h.2⟩
      | o k d =>
        rw [q] at h
        exact ⟨P i, congrArg some h.1, h.2, fun _ => rfl⟩
    · have hs : slotAt (startE as N.length) i = .none := by
        unfold slotAt startE
        rw [List.getD_eq_getElem?_getD, List.getElem?_append_right (by simp; omega), List.getElem?_replicate]
        split <;> rfl
      rw [hs]
      exact hO i (by omega)
section
variable {P : Program} {w : World} {K : PySem.W.Frag} {mg : Str → Option Value} {base : Heap}
/-- THE RULE: a def whose text a term says is worth what the term reckons -/
theorem fn_worth (O : Owed) {x : Str} {st : Stmt} {f : Addr} {fd : FuncData} (h3 : Fun K x x st f fd) {N ps : List Str} {k : Nat} {fns : FnL} {gl : GlL} {blt : List Str} {body : List S}
    (S : FnScope N ps (defScope st)) (hc : chkSs (mkSC N (defScope st).names (fns.map fun p => (p.1, p.2.1)) (gl.map (·.1)) blt) body (defBody st) = true)
    (hblt : ∀ y ∈ blt, mg y = none) (hgl : ∀ p ∈ gl, ∃ u v, mg p.1 = some u ∧ RelV v u ∧ ∀ F, Rep K F p.2 v) (hf : ∀ p ∈ fns, DefAt P w K mg base p.1 p.2.1 k p.2.2) :
    FnOk P w K mg base CX0 (k + 1) f fd ps (spOf K (runF (gam gl) (phi fns) N.length body) ps.length) := by
  refine h3.ok S (fun vs H Q E q => ?_) (fun cdv A outer s H vs Q E hr q => ?_)
  · obtain ⟨F, O', Pp, as, _, _, _, q4, _⟩ := q
    exact q4
  · obtain ⟨F, O', Pp, as, q1, q2, q3, q4, q5, d, os, q6, q7⟩ := q
    have gd : Good (cxOf CX0 P w K mg base N x (defScope st) f cdv A outer s H E).nox (mkSC N (defScope st).names (fns.map fun p => (p.1, p.2.1)) (gl.map (·.1)) blt) (gam gl) (phi fns) := by
      refine ⟨S.nd, rfl, rfl, S.kind, rfl, fun _ _ => rfl, PassesOwn.never, (by have := hr.un; show (A.deeper _).units + 70 < _; omega), fun j y n e1 e2 => ?_, fun j y dd e1 e2 => ?_, hblt⟩
      · have e1 : ((fns.map fun p => (p.1, p.2.1)).map (·.1))[j]? = some y := e1
        have e2 : ((fns.map fun p => (p.1, p.2.1)).map (·.2))[j]? = some n := e2
        rw [List.map_map, List.getElem?_map] at e1 e2
        cases e : fns[j]? with
        | none => rw [e] at e1; cases e1
        | some p =>
          rw [e] at e1 e2
          cases e1; cases e2
          obtain ⟨f', fd', ps', z1, z2, z3, z4, z5⟩ := (hf p (List.mem_of_getElem? e)).ex
          have : phi fns j = p.2.2 := by unfold phi; rw [e]
          rw [this]
          exact ⟨⟨f', fd', k, ps', z1, z2, z3, hr, z4, z5⟩⟩
      · have e1 : (gl.map (·.1))[j]? = some y := e1
        unfold gam at e2
        rw [List.getElem?_map] at e1
        cases e : gl[j]? with
        | none => rw [e] at e1; cases e1
        | some p =>
          rw [e] at e1 e2
          cases e1; cases e2
          exact hgl p (List.mem_of_getElem? e)
    refine ⟨_, soundS (P := Pp) O body _ _ gd _ hc, ?_⟩
    have hpl : ps.length ≤ N.length := by have := congrArg List.length S.pre; rw [List.length_take] at this; omega
    have a0 := start_at (K := K) (N := N) q1 q2 q3 q4 hpl q5
    unfold runF at q6
    obtain ⟨fl, q6, q8⟩ := Option.bind_eq_some_iff.mp q6
    refine ⟨_, ⟨F, O'⟩, a0, fl, q6, ?_⟩
    cases fl with
    | nx env' =>
      obtain ⟨os', q9, q8⟩ := Option.map_eq_some_iff.mp q8
      cases q8
      refine fun σ' w' H' a' x' => q7 _ _ _ _ a'.sep x' rfl fun i a e => ?_
      have := outs_at q9 i a e
      cases a with
      | v _ => trivial
      | o kk dd =>
        rw [Nat.zero_add] at this
        obtain ⟨p, _, z1, z2⟩ := a'.own this
        rw [z2 rfl] at z1
        exact z1
    | rt d' env' =>
      obtain ⟨os', q9, q8⟩ := Option.map_eq_some_iff.mp q8
      cases q8
      refine fun v σ' w' H' a' x' r => q7 _ _ _ _ a'.sep x' r fun i a e => ?_
      have := outs_at q9 i a e
      cases a with
      | v _ => trivial
      | o kk dd =>
        rw [Nat.zero_add] at this
        obtain ⟨p, _, z1, z2⟩ := a'.own this
        rw [z2 rfl] at z1
        exact z1
theorem DefR.at (O : Owed) {x : Str} {st : Stmt} (R : DefR K mg x st) {N ps : List Str} {k : Nat} {fns : FnL} {gl : GlL} {blt : List Str} {body : List S}
    (S : FnScope N ps (defScope st)) (hb : ∀ (kV doc pm : Value) (an : Option Addr) (cdv ct : Value) (us : List Value), us.length = ps.length → bindArgs (PySem.W.fnOf x x (defArgs st) (defBody st) (defScope st) .none kV doc pm an cdv ct) ⟨us, []⟩ = pure (ps.zip us))
    (hc : chkSs (mkSC N (defScope st).names (fns.map fun p => (p.1, p.2.1)) (gl.map (·.1)) blt) body (defBody st) = true)
    (hblt : ∀ y ∈ blt, mg y = none) (hgl : ∀ p ∈ gl, ∃ u v, mg p.1 = some u ∧ RelV v u ∧ ∀ F, Rep K F p.2 v) (hf : ∀ p ∈ fns, DefAt P w K mg base p.1 p.2.1 k p.2.2) :
    DefAt P w K mg base x ps.length (k + 1) (runF (gam gl) (phi fns) N.length body) := by
  obtain ⟨f, fd, h1, h2, h3⟩ := R.ex
  exact ⟨f, fd, ps, rfl, h1, h2, h3.binds hb, fn_worth O h3 S hc hblt hgl hf⟩
end
/-- the law's promise -/
def spLaw (K : PySem.W.Frag) : Sp := fun vs H Q _ => ∃ (a : Addr) (ns : List Int), vs = [.ref a] ∧ SqL K H a (ns.map V.int) ∧ ns.length ≤ 63 ∧ ∀ H', Q (.bl true) H'
/-- a law that is worth true at each script -/
theorem spLaw_le {K : PySem.W.Frag} {φ : FnSem} (h : ∀ ns : List Int, ns.length ≤ 63 → ∃ os, φ [.v (.scr ns)] = some (.bl true, os)) {vs : List V} {H : Hp} {Q : VK} {E : XK} (q : spLaw K vs H Q E) : spOf K φ 1 vs H Q E := by
  obtain ⟨a, ns, rfl, hS, hl, hq⟩ := q
  obtain ⟨os, ho⟩ := h ns hl
  refine ⟨H, fun _ => nil, fun _ => 0, [.v (.scr ns)], ⟨Same.refl H, fun _ _ _ z => (by cases z), fun _ _ _ z => (by cases z), fun _ _ _ _ _ _ => rfl⟩, fun _ _ => rfl, rfl, rfl, fun i ar v e1 e2 => ?_, _, os, ho, fun v F' O' H' _ _ r _ => ?_⟩
  · match i, e1, e2 with
    | 0, e1, e2 => cases e1; cases e2; exact ⟨rfl, rep_scr.mpr ⟨a, rfl, hS⟩⟩
    | _ + 1, e1, _ => simp at e1
  · cases r
    exact hq H'
end Sb

/-! Sb.Xor4: set(a) ^ set(b) over the heap of data. -/
namespace Sb
open PySem PySem.Spec PyProof.Rows L2

section
variable {P : Program} {w : World} {A : Around} {E : Value → Shared → Prop} {s : Shared} {a f : Addr} {S T : Int → Bool} {n m : Nat}
theorem xor_call {Q : Value → Shared → Prop} (Ra : SetR w s.heap a S n) (Rf : SetR w s.heap f T m) (hn : n ≤ 60) (hm : m ≤ 60)
    (hQ : ∀ h' d c, (∀ b o, s.heap.get? b = some o → h'.get? b = some o) → SetR w h' s.heap.objs.size (fun j => if S j = true then !T j else T j) c → c ≤ 120 → Q (.ref s.heap.objs.size) { s with heap := h', drawn := d }) :
    wpAny (model P w) A (call (.builtin "set.__xor__") [.ref a, .ref f]) (fun v s' => v ≠ .notImplemented ∧ Q v s') E s := by
  have hTa : s.TypeIs (.ref a) "set" := (Ra.setOf (P := P)).typeIs
  refine wpAny_call_entry slot_set_xor hTa entry_set_xor ?_ (args_set_xor _ _)
  change wpAny _ _ (Bind.bind (Builtin.Frozenset.slot1 "__xor__" _) _) _ _ _
  refine wpAny_bind (wpAny_of_eq (a := (Value.ref a, Value.ref f)) (by rfl) ?_)
  dsimp only
  refine wpAny_bind (wpAny_bind (any_set Ra ?_))
  change wpAny _ _ (Builtin.Frozenset.isAnySet (.ref f)) _ _ _
  refine any_set Rf ?_
  refine wp_if_neg (by decide) ?_
  refine wpAny_bind (wpAny_of_eq (a := a) rfl ?_)
  refine wpAny_bind ?_
  change wpAny _ _ (Bind.bind (Builtin.Frozenset.baseOf a) _) _ _ _
  refine wpAny_bind ?_
  unfold Builtin.Frozenset.baseOf
  refine wpAny_bind (wpAny_isInstance (b := true) hTa sub_set_self ?_)
  change wpAny _ _ (pure (Value.type "set")) _ _ _
  refine wpAny_pure ?_
  try dsimp only
  refine wpAny_bind ?_
  unfold Builtin.Frozenset.newFrom newSet
  refine wpAny_bind ?_
  refine wpAny_bind (wpAny_byText ?_)
  try dsimp only
  simp only [newObj]
  refine wpAny_bind (wpAny_alloc (wpAny_pure ?_))
  try dsimp only
  have hp := Heap.get?_push_size s.heap (o := { cls := .type "set", dict := none, data := .set #[] 0 (.fresh 0 0 (!w.params.followText "set-order")) }) rfl
  generalize hh0 : s.heap.push { cls := .type "set", dict := none, data := .set #[] 0 (.fresh 0 0 (!w.params.followText "set-order")) } = h0 at hp ⊢
  have keep0 : ∀ b o, s.heap.get? b = some o → h0.get? b = some o := fun b o e => by rw [← hh0]; exact Heap.get?_push_of_some _ e
  have Ra0 : SetR w h0 a S n := Ra.at (keep0 a)
  have Rf0 : SetR w h0 f T m := Rf.at (keep0 f)
  have nea : s.heap.objs.size ≠ a := Nat.ne_of_gt Ra.lt
  have nef : s.heap.objs.size ≠ f := Nat.ne_of_gt Rf.lt
  refine wpAny_bind (wpAny_of_eq (a := s.heap.objs.size) rfl ?_)
  refine wpAny_bind (wpAny_holding ?_)
  unfold Builtin.Frozenset.updateFrom
  refine wpAny_bind (any_set (s := { s with heap := h0 }) Rf0 ?_)
  refine wp_if_pos rfl ?_
  refine wpAny_bind (wpAny_of_eq (a := f) rfl ?_)
  unfold Builtin.Frozenset.merge
  refine wpAny_bind (m := setEpoch f) ?_
  have Rf0' := Rf0
  obtain ⟨of, ef, epf, tf, hof, hexf, hdf, gf, ndf, hmf, hbf, hff, hzf, hrf, hlf⟩ := Rf0'
  unfold setEpoch
  refine wpAny_bind (wpAny_setState_of (s := { s with heap := h0 }) hof hdf hff (wpAny_pure ?_))
  dsimp only
  refine merge_new (s := { s with heap := h0 }) hp ⟨rfl, rfl, rfl⟩ rfl (by
    cases w.params.followText "set-order"
    · exact .inr rfl
    · exact .inl rfl) Rf0 nef hm fun h1 sb1 R1 => ?_
  try refine wpAny_pure ?_
  try dsimp only
  have Ra1 : SetR w h1 a S n := Ra0.at fun o e => (sb1.2 a (Ne.symm nea)).trans e
  try refine wpAny_pure ?_
  refine wpAny_bind (wpAny_of_eq (a := s.heap.objs.size) rfl ?_)
  refine wpAny_bind (wpAny_holding ?_)
  refine sym_update (s := { s with heap := h1 }) Ra1 R1 nea hn hm fun h2 d c sb2 R2 hc => ?_
  try refine wpAny_pure ?_
  refine wpAny_pure ⟨_, rfl, by simp, hQ h2 d c (fun b o e => ?_) R2 hc⟩
  have hb : b ≠ s.heap.objs.size := Nat.ne_of_lt (Heap.lt_size e)
  exact (sb2.2 b hb).trans ((sb1.2 b hb).trans (keep0 b o e))
end
/-- the members, each once -/
def Memb (S : Int → Bool) (c : Nat) : Prop := ∃ ks : List Int, ks.Nodup ∧ ks.length = c ∧ ∀ k, k ∈ ks ↔ S k = true
theorem memb_of {w : World} {h : Heap} {a : Addr} {S : Int → Bool} {c : Nat} (R : SetR w h a S c) : Memb S c := by
  obtain ⟨o, es, ep, t, _, _, _, _, nd, hm, _, _, hz, _⟩ := R
  exact ⟨es.toList.map keyOf, nd, by rw [List.length_map, Array.length_toList]; exact hz, fun k => (hm k).symm⟩
section
variable {X : Cx}
def rXorS (w : World) : R2 := fun x y H Q => ∃ a b S T n m, x = .ref a ∧ y = .ref b ∧ H a = some (SetO w a S n) ∧ H b = some (SetO w b T m) ∧ n ≤ 60 ∧ m ≤ 60 ∧
  ∀ p c, H p = none → Memb (fun j => if S j = true then !T j else T j) c → Q (.ref p) (upd H p (SetO w p (fun j => if S j = true then !T j else T j) c))
theorem op_xorS : OpR X (binaryOp .BitXor) (rXorS X.w) := by
  intro pins s σ H x y v u Q I rx ry h
  obtain ⟨a, b, S, T, n, m, rfl, rfl, ha, hb, hn, hm, q⟩ := h
  cases rx
  cases ry
  have Ra := setO_get I ha
  have Rb := setO_get I hb
  refine wpAny_binaryOp_same (op := .BitXor) (T := "set") (Ra.setOf (P := X.prog)).typeIs (Rb.setOf (P := X.prog)).typeIs fills_set_xor slot_set_xor (xor_call Ra Rb hn hm fun h' d c k R _ => ?_)
  have hf : H s.heap.objs.size = none := I.hok.fresh (Nat.le_refl _)
  refine ⟨.ref s.heap.objs.size, upd H s.heap.objs.size (SetO X.w s.heap.objs.size (fun j => if S j = true then !T j else T j) c), ?_, rfl, q _ c hf (memb_of R)⟩
  exact I.call (g' := s.gens) (d' := d) (t' := s.toks) (ch := []) (Un.laid k (Nat.le_refl _) hf) (I.hok.laid k (Nat.le_refl _) (setO_new R)) I.bare (fun _ z => nomatch z)
def rSetTI (K : PySem.W.Frag) (w : World) : List V → Hp → VK → Prop := fun xs H Q => ∃ (p : Addr) (ns : List Int), xs = [.ref p] ∧ SqT K H p (ns.map V.int) ∧ ns.length ≤ 1000 ∧
  ∀ a c, H a = none → Memb (fun j => decide (j ∈ ns)) c → c ≤ ns.length → Q (.ref a) (upd H a (SetO w a (fun j => decide (j ∈ ns)) c))
theorem cr_setTI (hc : X.calm = true) : CallR X (.type "set") (rSetTI X.K X.w) := by
  intro pins s σ H xs us Q I r h
  obtain ⟨p, ns, rfl, hq, hl, q⟩ := h
  rw [Vals.ref1 r]
  obtain ⟨its, rv, pt, hz⟩ := I.tuple hq
  refine call_set_tupI ns (I.ok.hd hc) (show s.heap.IsTuple p its.toArray from pt) (ints_of_vals rv) (by unfold scanBound; omega) fun h' tk c R hcn k => ?_
  have hf : H s.heap.objs.size = none := I.hok.fresh (Nat.le_refl _)
  refine ⟨.ref s.heap.objs.size, upd H s.heap.objs.size (SetO X.w s.heap.objs.size (fun j => decide (j ∈ ns)) c), ?_, rfl, q _ c hf (memb_of R) hcn⟩
  exact I.call (g' := s.gens) (d' := s.drawn) (t' := tk) (ch := []) (Un.laid k (Nat.le_refl _) hf) (I.hok.laid k (Nat.le_refl _) (setO_new R)) I.bare (fun _ z => nomatch z)
end
theorem symI_nodup {xs ys : List Int} (h1 : xs.Nodup) (h2 : ys.Nodup) : (symI xs ys).Nodup := by
  unfold symI
  refine (sortI_perm _).nodup_iff.mpr ?_
  rw [List.nodup_append]
  refine ⟨List.Nodup.sublist List.filter_sublist h1, List.Nodup.sublist List.filter_sublist h2, fun x hx y hy e => ?_⟩
  subst e
  have a := (List.mem_filter.mp hx).2
  have b := (List.mem_filter.mp hy).1
  simp [b] at a
theorem symI_mem {xs ys : List Int} (k : Int) : k ∈ symI xs ys ↔ (if decide (k ∈ xs) = true then !decide (k ∈ ys) else decide (k ∈ ys)) = true := by
  unfold symI
  rw [(sortI_perm _).mem_iff, List.mem_append, List.mem_filter, List.mem_filter]
  by_cases h1 : k ∈ xs <;> by_cases h2 : k ∈ ys <;> simp [h1, h2]
theorem symI_sorted (xs ys : List Int) : (symI xs ys).Pairwise (· ≤ ·) := sortI_sorted _
end Sb

/-! Sb.Sx: sorted(set(a) ^ set(b)). -/
namespace Sb
open PySem PySem.Spec PyProof.Rows L2

theorem evSx_of {a b d : D} (h : evSx a b = some d) : ∃ xs ys : List Int, a = .tup (xs.map .int) ∧ b = .tup (ys.map .int) ∧ xs.Nodup ∧ ys.Nodup ∧ xs.length ≤ 60 ∧ ys.length ≤ 60 ∧ (symI xs ys).length < 64 ∧ d = .lst ((symI xs ys).map .int) := by
  unfold evSx at h
  split at h
  · obtain ⟨xs, e1, h⟩ := Option.bind_eq_some_iff.mp h
    obtain ⟨ys, e2, h⟩ := Option.bind_eq_some_iff.mp h
    split at h
    · rename_i z
      cases h
      obtain ⟨z1, z2, z3, z4, _, z5⟩ := z
      exact ⟨xs, ys, by rw [toInts_of e1], by rw [toInts_of e2], z1, z2, z3, z4, z5, rfl⟩
    · cases h
  · cases h
theorem boot_sorted' : bootBuiltins "sorted" = some (.builtin "sorted") := by decide +kernel
theorem boot_set' : bootBuiltins "set" = some (.type "set") := by decide +kernel
theorem sx_rule {X : Cx} {K : PySem.W.Frag} {P : Nat → Addr} {f g : Env → Option (D × Env)} {a b : Expr} {p1 p2 p3 q1 q2 q3 pos : Pos} (hK : X.K = K) (hc : X.calm = true) (h1 : Gl X "sorted") (m1 : X.mg "sorted" = none) (h2 : Gl X "set") (m2 : X.mg "set" = none)
    (ha : PE X a (rd K P f)) (hb : PE X b (rd K P g)) (sa : noStar a = true) (sb : noStar b = true) :
    PE X (.Call (.Name "sorted" p1) [.BinOp (.Call (.Name "set" p2) [a] [] q1) .BitXor (.Call (.Name "set" p3) [b] [] q2) q3] [] pos) (rd K P fun env => (f env).bind fun p => (g p.2).bind fun q => (evSx p.1 q.1).map fun d => (d, q.2)) := by
  subst hK
  have r1 := pe_callTy (pos := q1) (p := p2) (cr_setTI hc) h2 m2 boot_set' (pa_cons ha pa_nil (star_cons sa)) (by decide) (by decide) (star_cons sa) (star_any rfl)
  have r2 := pe_callTy (pos := q2) (p := p3) (cr_setTI hc) h2 m2 boot_set' (pa_cons hb pa_nil (star_cons sb)) (by decide) (by decide) (star_cons sb) (star_any rfl)
  have r3 := pe_op (pos := q3) op_xorS r1 r2
  refine PE.weak (pe_callB (cr_sortedSet hc) h1 m1 boot_sorted' (pa_cons r3 pa_nil (star_cons rfl)) (by decide) (by decide) (star_cons rfl) (star_any rfl)) fun σ H Q q => ?_
  obtain ⟨env, w, at0, d, env', e, k⟩ := q
  obtain ⟨⟨d1, env1⟩, e1, e⟩ := Option.bind_eq_some_iff.mp e
  obtain ⟨⟨d2, env2⟩, e2, e⟩ := Option.bind_eq_some_iff.mp e
  obtain ⟨d3, e3, e⟩ := Option.map_eq_some_iff.mp e
  cases e
  obtain ⟨xs, ys, z1, z2, n1, n2, l1, l2, lS, rfl⟩ := evSx_of e3
  dsimp only at z1 z2
  subst z1 z2
  refine ⟨env, w, at0, _, env1, e1, fun v1 w1 H1 at1 x1 rp1 => ?_⟩
  obtain ⟨a1, vs1, rfl, s1, rl1⟩ := rep_tup.mp rp1
  have := RepL.ints.mp rl1; subst this
  refine ⟨a1, xs, rfl, Same.seqT at1.sep.fh s1, by omega, fun A c hA mA cA => ?_⟩
  have pxA : PX w1.F H1 w1.F (upd H1 A (SetO X.w A (fun j => decide (j ∈ xs)) c)) := PX.newH at1.sep.fh hA
  have at1' : At X.K P σ env1 w1 (upd H1 A (SetO X.w A (fun j => decide (j ∈ xs)) c)) := at1.px pxA
  have x1' := x1.trans at0.sep at1.sep (ext_px at1.sep pxA)
  refine ⟨env1, w1, at1', _, env2, e2, fun v2 w2 H2 at2 x2 rp2 => ?_⟩
  obtain ⟨a2, vs2, rfl, s2, rl2⟩ := rep_tup.mp rp2
  have := RepL.ints.mp rl2; subst this
  have hA2 : H2 A = some (SetO X.w A (fun j => decide (j ∈ xs)) c) := x2.hh A _ upd_same fun i => (at1.sep.oh i).free hA
  refine ⟨a2, ys, rfl, Same.seqT at2.sep.fh s2, by omega, fun B c2 hB mB cB => ?_⟩
  have pxB : PX w2.F H2 w2.F (upd H2 B (SetO X.w B (fun j => decide (j ∈ ys)) c2)) := PX.newH at2.sep.fh hB
  have hA3 : upd H2 B (SetO X.w B (fun j => decide (j ∈ ys)) c2) A = some (SetO X.w A (fun j => decide (j ∈ xs)) c) := by rw [upd_ne (ne_of_none hA2 hB)]; exact hA2
  refine ⟨A, B, (fun j => decide (j ∈ xs)), (fun j => decide (j ∈ ys)), c, c2, rfl, rfl, hA3, upd_same, by omega, by omega, fun p cp hp mp => ?_⟩
  · have pxp : PX w2.F (upd H2 B (SetO X.w B (fun j => decide (j ∈ ys)) c2)) w2.F _ := PX.newH (o := SetO X.w p (fun j => if decide (j ∈ xs) = true then !decide (j ∈ ys) else decide (j ∈ ys)) cp) pxB.fh hp
    obtain ⟨ks, k1, k2, k3⟩ := mp
    have kp : ks.Perm (symI xs ys) := (List.perm_ext_iff_of_nodup k1 (symI_nodup n1 n2)).mpr fun j => (k3 j).trans (symI_mem j).symm
    have hcp : cp < 64 := by rw [← k2, kp.length_eq]; exact lS
    refine ⟨p, _, cp, rfl, upd_same, hcp, fun ns r hs hm hl hr => ?_⟩
    have en : ns = symI xs ys := by
      refine sorted_one ?_ (hs.imp Int.le_of_lt) (symI_sorted _ _)
      exact (List.perm_ext_iff_of_nodup (hs.imp Int.ne_of_lt) (symI_nodup n1 n2)).mpr fun j => (hm j).trans (symI_mem j).symm
    subst en
    have pxr := new_lst (K := X.K) (ds := (symI xs ys).map .int) (vs := (symI xs ys).map V.int) (pxB.trans pxp).fh hr (RepL.ints.mpr rfl)
    have pxa := (pxB.trans pxp).trans pxr.1
    exact k _ ⟨_, w2.O⟩ _ (at2.px pxa) ((x1'.trans at0.sep at1'.sep x2).trans at0.sep at2.sep (ext_px at2.sep pxa)) pxr.2
end Sb

/-! Sb.En: enumerate of a list or a tuple; nothing is owed any more. -/
namespace Sb
open PySem PySem.Spec PyProof.Rows L2

section
variable {prog : Program} {w : World} {A : Around} {E : Value → Shared → Prop} {s : Shared}
theorem enum_newT (l : Addr) (items : Array Value) (n : Nat) (dct : Option Addr) (sl : Array (Option Value)) :
    Meets (Builtin.«enumerate.__new__» ⟨[.type "enumerate", .ref l], []⟩) (fun _ R s => s.heap.get? l = some { cls := .type "tuple", dict := dct, data := .seq items n, slots := sl } ∧
      R (.ok (.ret (.ref (s.heap.push { cls := .type "tuple_iterator", data := .fields #[.ref l, .int 0 0] }).objs.size)))
        { s with heap := (s.heap.push { cls := .type "tuple_iterator", data := .fields #[.ref l, .int 0 0] }).push { cls := .type "enumerate", data := .fields #[.none, .bool false, .ref s.heap.objs.size, rawInt 0, .none, .none] } }) :=
  .of_wp fun prog w A R s h => by
    obtain ⟨hp, g, d, tk, os⟩ := s; obtain ⟨hl, h⟩ := h
    have hsub := sub_enumerate
    have hT : Heap.IsTuple (Shared.heap ⟨hp, g, d, tk, os⟩) l items := ⟨_, hl, rfl, n, rfl⟩
    wp_walk using PySem.AutoSeq1.wpAny_loadPart' hl
    refine wpAny_stack_any fun st => wpAny_pure ?_
    split
    · rename_i c _ _ _ _ _
      cases (c == Value.type "enumerate") <;> (wp_walk using PySem.AutoSeq1.wpAny_loadPart' hl, wpAny_pyIter_tuple hT; exact ⟨_, rfl, h⟩)
    · wp_walk using PySem.AutoSeq1.wpAny_loadPart' hl, wpAny_pyIter_tuple hT
      exact ⟨_, rfl, h⟩
theorem call_enumT {l : Addr} {items : Array Value} {Q : Value → Shared → Prop} (hT : s.heap.IsTuple l items)
    (h : ∀ h', IsEnum h' (s.heap.objs.size + 1) s.heap.objs.size 0 .none → h'.IsTupleIter s.heap.objs.size l 0 → (∀ b o, s.heap.get? b = some o → h'.get? b = some o) → Q (.ref (s.heap.objs.size + 1)) { s with heap := h' }) :
    wpAny (model prog w) A (call (.type "enumerate") [.ref l]) Q E s := by
  obtain ⟨⟨c, dct, dt, sl⟩, hl, hc, n, hd⟩ := hT
  have hc : c = .type "tuple" := hc
  have hd : dt = .seq items n := hd
  subst hc hd
  have hz : (s.heap.push { cls := .type "tuple_iterator", data := .fields #[.ref l, .int 0 0] }).objs.size = s.heap.objs.size + 1 := Heap.size_push ..
  refine callType_new F.called_enumerate (by decide) (F.typeCall_enumerate_1 _) (F.newCall_enumerate_1 _) (fun obj => F.args_object_init_2 obj _) F.entry_enumerate_new (enum_newT l items n dct sl) ⟨hl, ?_⟩
  show _ ∧ _
  rw [hz]
  have he := Heap.get?_push_size (s.heap.push { cls := .type "tuple_iterator", data := .fields #[.ref l, .int 0 0] }) (o := { cls := .type "enumerate", data := .fields #[.none, .bool false, .ref s.heap.objs.size, rawInt 0, .none, .none] }) rfl
  rw [hz] at he
  exact ⟨⟨_, he, rfl⟩, h _ he ⟨_, Heap.get?_push_of_some _ (Heap.get?_push_size _ rfl), rfl, rfl⟩ fun b o x => Heap.get?_push_of_some _ (Heap.get?_push_of_some _ x)⟩
end
/-- the tuple at a as it stands at each turn, each item in a new pair -/
def Iten (K : PySem.W.Frag) (a : Addr) : It :=
  ⟨fun i H => ∃ (xs : List V) (x : V), SqT K H a xs ∧ xs[i]? = some x, fun i H v H' => ∃ T x, v = .ref T ∧ H T = none ∧ H' = upd H T (.tup [.int (i : Nat), x]) ∧ ∀ xs, SqT K H a xs → xs[i]? = some x, fun i H => ∃ xs : List V, SqT K H a xs ∧ xs.length = i⟩
theorem walk_enumT {K : PySem.W.Frag} {a : Addr} {xs : List V} : L2.Walk (Iten K a) xs.length (fun H => SqT K H a xs) (YPair (fun i => some (.int (i : Nat))) (fun i => xs[i]?)) := by
  refine ⟨fun i _ hi q => ⟨xs, xs[i], q, by simp [hi]⟩, fun _ q => ⟨xs, q, rfl⟩, fun i H v H' _ q y => ?_⟩
  obtain ⟨T, x, h1, h2, h3, h4⟩ := y
  exact ⟨T, .int (i : Nat), x, h1, h2, h3, rfl, h4 xs q⟩
theorem turn_enumT {P : Program} {w : World} {K : PySem.W.Frag} {elts : List Expr} {kk : Nat} {tpos : Pos} (a e it : Addr) (hai : a ≠ it) (hae : a ≠ e) :
    Turn P w K (.Tuple elts kk tpos) (Iten K a) [e, it] e (fun i h => (∃ old, IsEnum h e it ((i : Nat) : Int) old) ∧ h.IsTupleIter it a i ∧ e ≠ it) where
  mem := by simp
  obj := fun i h st b hb => by
    obtain ⟨⟨old, he⟩, ⟨o, ho, hc, hd⟩, _⟩ := st
    rcases List.mem_cons.mp hb with z | z
    · subst z; exact ⟨_, he, fun v q => nomatch q⟩
    · rw [List.mem_singleton.mp z]; exact ⟨o, ho, fun v q => by rw [hd] at q; cases q⟩
  keep := fun i h h' st k => ⟨st.1.imp fun old he => k e (by simp) _ he, st.2.1.at fun o q => k it (by simp) o q, st.2.2⟩
  item := by
    intro X hP hw hK hc i pins s σ H E I hf st hg
    subst hP hw hK
    obtain ⟨⟨old, he⟩, hit, hne⟩ := st
    obtain ⟨xs, x, hq, hx⟩ := hg
    obtain ⟨its, rv, p, hz⟩ := I.tuple hq
    obtain ⟨u, hu, ru⟩ := rv.get hx
    have hel : e < s.heap.objs.size := Heap.lt_size he
    have hil : it < s.heap.objs.size := by obtain ⟨_, q, _⟩ := hit; exact Heap.lt_size q
    have hlt : i < its.toArray.size := by
      have := (List.getElem?_eq_some_iff.mp hu).1
      simpa using this
    refine wpAny_pyNext_enum_itemD (Draws.tuple (A := X.A.in1) (I.ok.hd hc) it a hai its.toArray) he ⟨hit, (show s.heap.IsTuple a its.toArray from p)⟩ hlt hne (by simp [hne, Ne.symm hae]) fun y h' tk hy ho hst hT hsz hk => ?_
    have ey : y = u := by
      have hy : its.toArray[i]? = some y := hy
      rw [List.getElem?_toArray, hu] at hy
      exact (Option.some.inj hy).symm
    subst ey
    refine ⟨_, rfl, wpAny_letOwnedTupleGo_enum (s := { s with heap := h', toks := tk + 1 }) ho fun h'' he' sb => ?_⟩
    have hT2 : h''.get? s.heap.objs.size = some { cls := .type "tuple", data := .seq #[.int i tk, y] } := (sb.2 _ (Nat.ne_of_gt hel)).trans hT
    have new : ObjOk X.prog X.w (upd H s.heap.objs.size (.tup [.int (i : Nat), x])) h'' s.heap.objs.size (.tup [.int (i : Nat), x]) :=
      ⟨by show 2 ≤ sizeLine; decide, [.int i tk, y], .cons ⟨_, rfl⟩ (.cons ru .nil), ⟨_, hT2, rfl, _, rfl⟩⟩
    have I1 : Inv X pins σ (upd H s.heap.objs.size (.tup [.int (i : Nat), x])) { s with heap := h'', toks := tk + 1 } :=
      I.turnedNew (ch := [e, it]) (fun b ob hb q => (sb.2 b (fun z => hb (by simp [z]))).trans (hk b ob (fun z => hb (by simp [z])) (fun z => hb (by simp [z])) q)) hf (Nat.le_refl _) new
    refine ⟨.ref s.heap.objs.size, _, I1, rfl, ⟨_, x, rfl, I.hok.fresh (Nat.le_refl _), rfl, fun ys hy => by rw [I.tuple_inj hy hq]; exact hx⟩, ⟨⟨y, ?_⟩, hst.1.at fun o q => (sb.2 it (Ne.symm hne)).trans q, hne⟩, fun b hb => ?_⟩
    · have e1 : ((i + 1 : Nat) : Int) = (i : Int) + 1 := by omega
      rw [e1]; exact he'
    · have hb' : b < s.heap.objs.size := by
        rcases List.mem_cons.mp hb with z | z
        · rw [z]; exact hel
        · rw [List.mem_singleton.mp z]; exact hil
      rw [upd_ne (Nat.ne_of_lt hb')]
      exact (hf b hb).1
  done := by
    intro X hP hw hK hc i pins s σ H E I hf st hg
    subst hP hw hK
    obtain ⟨⟨old, he⟩, hit, hne⟩ := st
    obtain ⟨xs, hq, hx⟩ := hg
    obtain ⟨its, rv, p, hz⟩ := I.tuple hq
    obtain ⟨f0, f1, f2, f3, f4, f5⟩ := hf it (by simp)
    have hz2 : its.toArray.size = i := by
      have := rv.length
      rw [List.size_toArray]; omega
    have hit' : s.heap.IsTupleIter it a its.toArray.size := by rw [hz2]; exact hit
    exact wpAny_pyNext_enum_endD (Draws.tuple (A := X.A.in1) (I.ok.hd hc) it a hai its.toArray) he ⟨hit', (show s.heap.IsTuple a its.toArray from p)⟩ fun h' eb => ⟨rfl, I.turned (t' := s.toks) (fun b o hb q => eb b o hb q) f0 f1 f3 f4 f5⟩
  self := fun A i s Q E st h => st.1.elim fun _ he => wpAny_pyIter_enum he h
theorem en_rule {X : Cx} {e : Expr} {ta : TA} {p pos tpos : Pos} {elts : List Expr} {kk : Nat} (hc : X.calm = true) (hg : Gl X "enumerate") (hm : X.mg "enumerate" = none) (ha : PA X [e] ta) (hs : starEach [e] X.env = [(false, eval e X.env)]) :
    PI X (.Tuple elts kk tpos) (.Call (.Name "enumerate" p) [e] [] pos) fun σ H R => ta σ H fun vs H1 => ∃ a xs, vs = [.ref a] ∧ ((SqL X.K H1 a xs ∧ R (Ite X.K a) H1) ∨ (SqT X.K H1 a xs ∧ ∀ J, L2.Walk J xs.length (fun H => SqT X.K H a xs) (YPair (fun i => some (.int (i : Nat))) (fun i => xs[i]?)) → R J H1)) := by
  refine ⟨fun pins s σ H R I h => ?_⟩
  refine Call_ (ld_blt I hg hm boot_enumerate (PyProof.Rows.callWith_type1 (thn (ha.run pos pins s σ H _ I h) fun us s1 ⟨vs, H1, I1, r1, q1⟩ => ?_) hs rfl))
  obtain ⟨a, xs, ex, hq⟩ := q1
  subst ex
  rw [Vals.ref1 r1]
  have fp : ∀ b ∈ [s1.heap.objs.size + 1, s1.heap.objs.size], FpOk X pins H1 b := fun b hb => by
    have hle : s1.heap.objs.size ≤ b := by
      rcases List.mem_cons.mp hb with z | z
      · omega
      · rw [List.mem_singleton.mp z]; exact Nat.le_refl _
    exact I1.fpOk hle (I1.hok.fresh hle)
  rcases hq with ⟨hq, q⟩ | ⟨hq, q⟩
  · obtain ⟨its, rv, p', hz⟩ := I1.list hq
    refine call_enumerate_list p'.isList fun h' he hit hsz hk => wpAny_pyIter_enum he ?_
    exact ⟨s1.heap.objs.size + 1, [s1.heap.objs.size + 1, s1.heap.objs.size], _, _, H1, rfl, I1.kept (t' := s1.toks) hk, turn_enum a (s1.heap.objs.size + 1) s1.heap.objs.size, ⟨⟨.none, he⟩, hit, Nat.succ_ne_self _⟩, fp, q⟩
  · obtain ⟨its, rv, p', hz⟩ := I1.tuple hq
    have hal : a < s1.heap.objs.size := by obtain ⟨o, ho, _⟩ := p'; exact Heap.lt_size ho
    refine call_enumT (show s1.heap.IsTuple a its.toArray from p') fun h' he hit hk => wpAny_pyIter_enum he ?_
    exact ⟨s1.heap.objs.size + 1, [s1.heap.objs.size + 1, s1.heap.objs.size], _, _, H1, rfl, I1.kept (t' := s1.toks) hk, turn_enumT a (s1.heap.objs.size + 1) s1.heap.objs.size (Nat.ne_of_lt hal) (Nat.ne_of_lt (Nat.lt_succ_of_lt hal)), ⟨⟨.none, he⟩, hit, Nat.succ_ne_self _⟩, fp, q _ walk_enumT⟩
theorem owed : Owed := ⟨fun hK hc h1 m1 h2 m2 ha hb sa sb => sx_rule hK hc h1 m1 h2 m2 ha hb sa sb, fun hc hg hm ha hs => en_rule hc hg hm ha hs⟩
end Sb

/-! Sb.Val: tools to reckon with the terms. -/
namespace Sb
open PySem L2

theorem forGo_inv {one : Bool} {t : List Nat} {body : Env → Option Fl} (I : Nat → Env → Prop) : ∀ {ds : List D} {env : Env} (k : Nat), I k env →
    (∀ i d env, ds[i]? = some d → I (k + i) env → ∃ env1 env2, asgT one t d env = some env1 ∧ body env1 = some (.nx env2) ∧ I (k + i + 1) env2) →
    ∃ env', forGo one t body ds env = some (.nx env') ∧ I (k + ds.length) env'
  | [], env, k, h0, _ => ⟨env, rfl, h0⟩
  | d :: ds, env, k, h0, st => by
    obtain ⟨env1, env2, e1, e2, h1⟩ := st 0 d env rfl h0
    obtain ⟨env', e3, h3⟩ := forGo_inv I (ds := ds) (k + 1) h1 fun i d env hi hI => by
      have := st (i + 1) d env hi (by rw [show k + (i + 1) = k + 1 + i by omega]; exact hI)
      rw [show k + (i + 1) + 1 = k + 1 + i + 1 by omega] at this
      exact this
    refine ⟨env', ?_, by rw [List.length_cons, show k + (ds.length + 1) = k + 1 + ds.length by omega]; exact h3⟩
    rw [forGo, e1]
    show ((body env1).bind _) = _
    rw [e2]
    exact e3
theorem lcGo_pure {one : Bool} {t vs : List Nat} {c elt : Env → Option (D × Env)} {env0 : Env} (p : D → Bool) (g : D → D) : ∀ {ds : List D},
    (∀ d ∈ ds, ∃ env1, asgT one t d env0 = some env1 ∧ c env1 = some (.bl (p d), env1) ∧ (p d = true → elt env1 = some (g d, env1)) ∧ wipeE env1 vs = env0) →
    lcGo one t c elt vs ds env0 = some ((ds.filter p).map g, env0)
  | [], _ => rfl
  | d :: ds, h => by
    obtain ⟨env1, e1, e2, e3, e4⟩ := h d List.mem_cons_self
    have ih := lcGo_pure p g (ds := ds) fun d hd => h d (List.mem_cons_of_mem _ hd)
    rw [lcGo, e1]
    show ((c env1).bind _) = _
    rw [e2]
    cases hp : p d with
    | true =>
      show ((elt env1).bind _) = _
      rw [e3 hp]
      show ((lcGo one t c elt vs ds (wipeE env1 vs)).bind _) = _
      rw [e4, ih, List.filter_cons, hp]
      rfl
    | false =>
      show lcGo one t c elt vs ds (wipeE env1 vs) = _
      rw [e4, ih, List.filter_cons, hp]
      rfl
/-- every one, changing what is owned -/
theorem lcGo_all {one : Bool} {t vs : List Nat} {c elt : Env → Option (D × Env)} (I : Env → Prop) (R : D → Prop) : ∀ {ds : List D} {env : Env}, I env →
    (∀ d ∈ ds, ∀ env, I env → ∃ env1 env2 r, asgT one t d env = some env1 ∧ c env1 = some (.bl true, env1) ∧ elt env1 = some (r, env2) ∧ R r ∧ I (wipeE env2 vs)) →
    ∃ rs env', lcGo one t c elt vs ds env = some (rs, env') ∧ rs.length = ds.length ∧ (∀ r ∈ rs, R r) ∧ I env'
  | [], env, h0, _ => ⟨[], env, rfl, rfl, fun r h => (by cases h), h0⟩
  | d :: ds, env, h0, st => by
    obtain ⟨env1, env2, r, e1, e2, e3, hr, h1⟩ := st d List.mem_cons_self env h0
    obtain ⟨rs, env', e4, e5, e6, e7⟩ := lcGo_all I R (ds := ds) h1 fun d hd => st d (List.mem_cons_of_mem _ hd)
    refine ⟨r :: rs, env', ?_, by simp [e5], fun x hx => ?_, e7⟩
    · rw [lcGo, e1]
      show ((c env1).bind _) = _
      rw [e2]
      show ((elt env1).bind _) = _
      rw [e3]
      show ((lcGo one t c elt vs ds (wipeE env2 vs)).bind _) = _
      rw [e4]; rfl
    · rcases List.mem_cons.mp hx with z | z
      · rw [z]; exact hr
      · exact e6 x z
/-! ### equalities -/
theorem shp_int (i : Int) : shp (.int i) = true := rfl
theorem shp_bl (b : Bool) : shp (.bl b) = true := rfl
theorem shp_non : shp .non = true := rfl
theorem canLay_ints : ∀ xs : List Int, PyData.canLayAll0 (toPys (xs.map .int)) = true
  | [] => by unfold toPys toPy.toPys PyData.canLayAll0; rfl
  | x :: xs => by
    show PyData.canLayAll0 (toPy (.int x) :: toPys (xs.map .int)) = true
    unfold PyData.canLayAll0
    rw [canLay_ints xs]; rfl
theorem depth_ints : ∀ xs : List Int, PyData.depthAll (toPys (xs.map .int)) = 0
  | [] => by unfold toPys toPy.toPys PyData.depthAll; rfl
  | x :: xs => by
    show PyData.depthAll (toPy (.int x) :: toPys (xs.map .int)) = 0
    unfold PyData.depthAll
    rw [depth_ints xs]; rfl
theorem shp_tups (xs : List Int) : shp (.tup (xs.map .int)) = true := by
  show (PyData.canLay0 (.tuple (toPys (xs.map .int))) && decide (PyData.depth (.tuple (toPys (xs.map .int))) ≤ 64)) = true
  unfold PyData.canLay0 PyData.depth
  rw [canLay_ints, depth_ints]; rfl
theorem shp_lsts (xs : List Int) : shp (.lst (xs.map .int)) = true := by
  show (PyData.canLay0 (.list (toPys (xs.map .int))) && decide (PyData.depth (.list (toPys (xs.map .int))) ≤ 64)) = true
  unfold PyData.canLay0 PyData.depth
  rw [canLay_ints, depth_ints]; rfl
theorem eqv_ints : ∀ xs ys : List Int, PyData.eqvAll (toPys (xs.map .int)) (toPys (ys.map .int)) = decide (xs = ys)
  | [], [] => by show PyData.eqvAll [] [] = _; unfold PyData.eqvAll; rfl
  | [], y :: ys => by show PyData.eqvAll [] (toPy (.int y) :: toPys (ys.map .int)) = _; unfold PyData.eqvAll; simp
  | x :: xs, [] => by show PyData.eqvAll (toPy (.int x) :: toPys (xs.map .int)) [] = _; unfold PyData.eqvAll; simp
  | x :: xs, y :: ys => by
    show PyData.eqvAll (toPy (.int x) :: toPys (xs.map .int)) (toPy (.int y) :: toPys (ys.map .int)) = _
    unfold PyData.eqvAll
    rw [eqv_ints xs ys]
    show (PyData.eqv (.int x) (.int y) && _) = _
    unfold PyData.eqv
    by_cases h1 : x = y <;> by_cases h2 : xs = ys <;> simp [h1, h2]
theorem eq_int (i j : Int) : evCmp .eq (.int i) (.int j) = some (decide (i = j)) := by
  show (if shp (.int i) = true ∧ shp (.int j) = true then some (PyData.eqv (toPy (.int i)) (toPy (.int j))) else none) = _
  rw [if_pos ⟨shp_int i, shp_int j⟩]
  show some (PyData.eqv (.int i) (.int j)) = _
  unfold PyData.eqv
  by_cases h : i = j <;> simp [h]
theorem ne_int (i j : Int) : evCmp .ne (.int i) (.int j) = some (!decide (i = j)) := by
  show (if shp (.int i) = true ∧ shp (.int j) = true then some (!PyData.eqv (toPy (.int i)) (toPy (.int j))) else none) = _
  rw [if_pos ⟨shp_int i, shp_int j⟩]
  show some (!PyData.eqv (.int i) (.int j)) = _
  unfold PyData.eqv
  by_cases h : i = j <;> simp [h]
theorem eq_tups (xs ys : List Int) : evCmp .eq (.tup (xs.map .int)) (.tup (ys.map .int)) = some (decide (xs = ys)) := by
  show (if shp (.tup (xs.map .int)) = true ∧ shp (.tup (ys.map .int)) = true then some (PyData.eqv (toPy (.tup (xs.map .int))) (toPy (.tup (ys.map .int)))) else none) = _
  rw [if_pos ⟨shp_tups xs, shp_tups ys⟩]
  show some (PyData.eqv (.tuple (toPys (xs.map .int))) (.tuple (toPys (ys.map .int)))) = _
  unfold PyData.eqv
  rw [eqv_ints]
theorem ne_tups (xs ys : List Int) : evCmp .ne (.tup (xs.map .int)) (.tup (ys.map .int)) = some (!decide (xs = ys)) := by
  show (if shp (.tup (xs.map .int)) = true ∧ shp (.tup (ys.map .int)) = true then some (!PyData.eqv (toPy (.tup (xs.map .int))) (toPy (.tup (ys.map .int)))) else none) = _
  rw [if_pos ⟨shp_tups xs, shp_tups ys⟩]
  show some (!PyData.eqv (.tuple (toPys (xs.map .int))) (.tuple (toPys (ys.map .int)))) = _
  unfold PyData.eqv
  rw [eqv_ints]
theorem toInts_ints (xs : List Int) : toInts (xs.map .int) = some xs := toInts_map xs
theorem flats_is (xs : List Int) : flats (xs.map .int) = some (xs.map V.int) := flats_ints xs
theorem inV_ints (x : Int) : ∀ xs : List Int, inV (V.int x) (xs.map V.int) = decide (x ∈ xs)
  | [] => by simp [inV]
  | y :: ys => by
    have ih := inV_ints x ys
    unfold inV at ih ⊢
    rw [List.map_cons, List.any_cons, ih]
    by_cases h : y = x
    · subst h; simp [eqV]
    · simp [eqV, h, Ne.symm h]
theorem isIn_ints (x : Int) (xs : List Int) : isIn (.int x) (xs.map .int) = some (decide (x ∈ xs)) := by
  unfold isIn
  show (flats (xs.map .int)).map _ = _
  rw [flats_is]
  show some (inV (V.int x) (xs.map V.int)) = _
  rw [inV_ints]
theorem in_tups (x : Int) (xs : List Int) : evCmp .isin (.int x) (.tup (xs.map .int)) = some (decide (x ∈ xs)) := by unfold evCmp; exact isIn_ints x xs
theorem in_lsts (x : Int) (xs : List Int) : evCmp .isin (.int x) (.lst (xs.map .int)) = some (decide (x ∈ xs)) := by unfold evCmp; exact isIn_ints x xs
theorem nin_tups (x : Int) (xs : List Int) : evCmp .notin (.int x) (.tup (xs.map .int)) = some (!decide (x ∈ xs)) := by
  show (isIn _ _).map _ = _
  rw [isIn_ints]; rfl
theorem nin_lsts (x : Int) (xs : List Int) : evCmp .notin (.int x) (.lst (xs.map .int)) = some (!decide (x ∈ xs)) := by
  show (isIn _ _).map _ = _
  rw [isIn_ints]; rfl
theorem lt_int (i j : Int) : evCmp .lt (.int i) (.int j) = some (decide (i < j)) := id rfl
theorem le_int (i j : Int) : evCmp .le (.int i) (.int j) = some (decide (i ≤ j)) := id rfl
theorem gt_int (i j : Int) : evCmp .gt (.int i) (.int j) = some (decide (j < i)) := id rfl
theorem ge_int (i j : Int) : evCmp .ge (.int i) (.int j) = some (decide (j ≤ i)) := id rfl
theorem add_int (i j : Int) : evOp .add (.int i) (.int j) = some (.int (i + j)) := id rfl
theorem sub_int (i j : Int) : evOp .sub (.int i) (.int j) = some (.int (i - j)) := id rfl
theorem xor_int (i j : Int) : evOp .xor (.int i) (.int j) = some (.int (Builtin.bitXor i j)) := id rfl
theorem mul_int {i j : Int} (h : small i = true ∨ small j = true) : evOp .mul (.int i) (.int j) = some (.int (i * j)) := if_pos h
theorem fdiv_int {i j : Int} (h : 0 < j ∧ j < 1073741824) : evOp .fdiv (.int i) (.int j) = some (.int (i / j)) := if_pos h
theorem mod_int {i j : Int} (h : 0 < j) : evOp .mod (.int i) (.int j) = some (.int (i % j)) := if_pos h
theorem pow_int {i j : Int} (h : 0 ≤ j ∧ j ≤ 1000000 ∧ i.natAbs < 2 ^ 64) : evOp .pow (.int i) (.int j) = some (.int (i ^ j.toNat)) := if_pos h
theorem len_tup (ds : List D) : evBi .len [.tup ds] = some (.int ds.length) := id rfl
theorem len_lst (ds : List D) : evBi .len [.lst ds] = some (.int ds.length) := id rfl
theorem len_scr (ns : List Int) : evBi .len [.scr ns] = some (.int ns.length) := id rfl
theorem tuple_lst (ds : List D) : evBi .tuple [.lst ds] = some (.tup ds) := id rfl
theorem tuple_tup (ds : List D) : evBi .tuple [.tup ds] = some (.tup ds) := id rfl
theorem list_tup (ds : List D) : evBi .list [.tup ds] = some (.lst ds) := id rfl
theorem int_int (i : Int) : evBi .int [.int i] = some (.int i) := id rfl
theorem int_bl (b : Bool) : evBi .int [.bl b] = some (.int (if b then 1 else 0)) := id rfl
theorem min_int (i j : Int) : evBi .min [.int i, .int j] = some (.int (if j < i then j else i)) := id rfl
theorem max_int (i j : Int) : evBi .max [.int i, .int j] = some (.int (if j > i then j else i)) := id rfl
theorem all_bls (bs : List Bool) : evBi .all [.lst (bs.map .bl)] = some (.bl (bs.all id)) := by
  show (toBls _).map _ = _
  rw [toBls_map]; rfl
theorem sorted_ints {xs : List Int} (h : xs.length < 64) : evBi .sorted [.lst (xs.map .int)] = some (.lst ((sortI xs).map .int)) := by
  show (toInts _).bind _ = _
  rw [toInts_map]
  exact if_pos h
theorem count_ints (xs : List Int) (k : Int) : evMt .count (.lst (xs.map .int)) [.int k] = some (.int (xs.count k)) := by
  show (toInts _).map _ = _
  rw [toInts_map]; rfl
theorem add_lsts {xs ys : List D} (h : xs.length + ys.length ≤ LIM) : evOp .add (.lst xs) (.lst ys) = some (.lst (xs ++ ys)) := if_pos h
theorem atI_nat {α : Type} {xs : List α} {k : Nat} {x : α} (h : xs[k]? = some x) : atI xs (k : Int) = some x := by
  have hk := (List.getElem?_eq_some_iff.mp h).1
  have e : ixN xs.length (k : Int) = some k := by
    unfold ixN
    rw [if_pos (Int.natCast_nonneg k), if_pos (by omega)]; rfl
  unfold atI
  rw [e]; exact h
theorem ix_tup {ds : List D} {k : Nat} {x : D} (h : ds[k]? = some x) : evIx (.tup ds) (.int (k : Int)) = some x := atI_nat h
theorem ix_lst {ds : List D} {k : Nat} {x : D} (h : ds[k]? = some x) : evIx (.lst ds) (.int (k : Int)) = some x := atI_nat h
theorem ix_scr {ns : List Int} {k : Nat} {x : Int} (h : ns[k]? = some x) : evIx (.scr ns) (.int (k : Int)) = some (.int x) := by
  show (atI ns _).map _ = _
  rw [atI_nat h]; rfl
theorem ix0 (a : D) (r : List D) : evIx (.tup (a :: r)) (.int 0) = some a := ix_tup (k := 0) rfl
theorem ix1 (a b : D) (r : List D) : evIx (.tup (a :: b :: r)) (.int 1) = some b := ix_tup (k := 1) rfl
theorem ix2 (a b c : D) (r : List D) : evIx (.tup (a :: b :: c :: r)) (.int 2) = some c := ix_tup (k := 2) rfl
theorem at0 (a : D) (r : List D) : atD (a :: r) 0 = some a := atI_nat (k := 0) rfl
theorem at1 (a b : D) (r : List D) : atD (a :: b :: r) 1 = some b := atI_nat (k := 1) rfl
theorem at2 (a b c : D) (r : List D) : atD (a :: b :: c :: r) 2 = some c := atI_nat (k := 2) rfl
theorem at3 (a b c d : D) (r : List D) : atD (a :: b :: c :: d :: r) 3 = some d := atI_nat (k := 3) rfl
/-! ### the evaluator's equations, but for comprehensions and loops -/
section
variable {G : Nat → Option D} {Φ : Nat → FnSem} {env : Env}
theorem e_var (i : Nat) : evE G Φ (.var i) env = (match slotAt env i with | .val d => some (d, env) | _ => none) := by rw [evE] <;> rfl
theorem e_int (i : Int) : evE G Φ (.int i) env = some (.int i, env) := by rw [evE]
theorem e_bl (b : Bool) : evE G Φ (.bl b) env = some (.bl b, env) := by rw [evE]
theorem e_non : evE G Φ .non env = some (.non, env) := by rw [evE]
theorem e_str (s : Str) : evE G Φ (.str s) env = some (.str s, env) := by rw [evE]
theorem e_glo (g : Nat) : evE G Φ (.glo g) env = (G g).map fun d => (d, env) := by rw [evE]
theorem e_op (o : Bop) (a b : E) : evE G Φ (.op o a b) env = (evE G Φ a env).bind fun p => (evE G Φ b p.2).bind fun q => (evOp o p.1 q.1).map fun d => (d, q.2) := by rw [evE]
theorem e_neg (a : E) : evE G Φ (.neg a) env = (evE G Φ a env).bind fun p => match p.1 with | .int i => some (.int (-i), p.2) | _ => none := by rw [evE] <;> rfl
theorem e_cmp (o : Cop) (a b : E) : evE G Φ (.cmp o a b) env = (evE G Φ a env).bind fun p => (evE G Φ b p.2).bind fun q => (evCmp o p.1 q.1).map fun d => (.bl d, q.2) := by rw [evE]
theorem e_cmp2 (o o' : Cop) (a b c : E) : evE G Φ (.cmp2 o o' a b c) env = (evE G Φ a env).bind fun p => (evE G Φ b p.2).bind fun q => (evCmp o p.1 q.1).bind fun k => match k with
    | true => (evE G Φ c q.2).bind fun r => (evCmp o' q.1 r.1).map fun d => (.bl d, r.2)
    | false => some (.bl false, q.2) := by rw [evE] <;> rfl
theorem e_isN (neg : Bool) (a : E) : evE G Φ (.isN neg a) env = (evE G Φ a env).bind fun p => some (.bl (xor neg (isNonD p.1)), p.2) := by rw [evE]
theorem e_bop (and : Bool) (es : List E) : evE G Φ (.bop and es) env = evB G Φ and es env := by rw [evE]
theorem e_not (a : E) : evE G Φ (.not a) env = (evE G Φ a env).bind fun p => match p.1 with | .bl b => some (.bl (!b), p.2) | _ => none := by rw [evE] <;> rfl
theorem e_ife (c a b : E) : evE G Φ (.ife c a b) env = (evE G Φ c env).bind fun p => match p.1 with
    | .bl true => evE G Φ a p.2
    | .bl false => evE G Φ b p.2
    | _ => none := by rw [evE] <;> rfl
theorem e_tup (es : List E) : evE G Φ (.tup es) env = (evL G Φ es env).bind fun p => if p.1.length ≤ LIM then some (.tup p.1, p.2) else none := by rw [evE]
theorem e_lst (es : List E) : evE G Φ (.lst es) env = (evL G Φ es env).bind fun p => if p.1.length ≤ LIM then some (.lst p.1, p.2) else none := by rw [evE]
theorem e_ix (a b : E) : evE G Φ (.ix a b) env = (evE G Φ a env).bind fun p => (evE G Φ b p.2).bind fun q => (evIx p.1 q.1).map fun d => (d, q.2) := by rw [evE]
theorem e_call (f : Nat) (es : List E) : evE G Φ (.call f es) env = (evA G Φ es env).bind fun p => if (refs p.1).Nodup then (resolve p.2 p.1).bind fun as => (Φ f as).bind fun r => (putBack p.1 r.2 p.2).map fun env' => (r.1, env') else none := by rw [evE]
theorem e_bi (b : Bi) (es : List E) : evE G Φ (.bi b es) env = (evL G Φ es env).bind fun p => (evBi b p.1).map fun d => (d, p.2) := by rw [evE]
theorem e_mt (m : Mt) (a : E) (es : List E) : evE G Φ (.mt m a es) env = (evE G Φ a env).bind fun p => (evL G Φ es p.2).bind fun q => (evMt m p.1 q.1).map fun d => (d, q.2) := by rw [evE]
theorem e_isi (k : Ki) (a : E) : evE G Φ (.isi k a) env = (evE G Φ a env).map fun p => (.bl (isKi k p.1), p.2) := by rw [evE]
theorem e_sx (a b : E) : evE G Φ (.sx a b) env = (evE G Φ a env).bind fun p => (evE G Φ b p.2).bind fun q => (evSx p.1 q.1).map fun d => (d, q.2) := by rw [evE]
theorem e_oix (i : Nat) (b : E) : evE G Φ (.oix i b) env = (match slotAt env i with
    | .own .lst _ _ => (evE G Φ b env).bind fun p => match slotAt p.2 i, p.1 with
      | .own .lst _ (.lst ds), .int j => (atD ds j).map fun d => (d, p.2)
      | _, _ => none
    | _ => none) := by rw [evE] <;> rfl
theorem e_rng (es : List E) : evE G Φ (.rng es) env = (evL G Φ es env).bind fun p => match p.1 with
    | [.int n] => if inR n then some (.lst (rngD 0 n.toNat), p.2) else none
    | [.int lo, .int hi] => if inR lo && inR hi then some (.lst (rngD lo (hi - lo).toNat), p.2) else none
    | _ => none := by rw [evE] <;> rfl
theorem e_enm (a : E) : evE G Φ (.enm a) env = (evE G Φ a env).bind fun p => match p.1 with
    | .lst ds => some (.lst (enmD 0 ds), p.2)
    | .tup ds => some (.lst (enmD 0 ds), p.2)
    | _ => none := by rw [evE] <;> rfl
theorem e_seq (a : E) : evE G Φ (.seq a) env = (evE G Φ a env).bind fun p => match p.1 with
    | .lst ds => some (.lst ds, p.2)
    | .tup ds => some (.lst ds, p.2)
    | _ => none := by rw [evE] <;> rfl
/-- a comprehension's value -/
theorem ev_lc {vs t : List Nat} {src c elt : E} {ds rs : List D} {env1 env2 : Env} (h1 : evE G Φ src env = some (.lst ds, env1)) (h2 : noOwn env1 vs = true)
    (h3 : lcGo (t.length == 1) t (fun e => evE G Φ c e) (fun e => evE G Φ elt e) vs ds (wipeE env1 vs) = some (rs, env2)) (h4 : rs.length ≤ LIM) : evE G Φ (.lc vs t src c elt) env = some (.lst rs, backE env1 env2 vs) := by
  rw [evE, h1]
  show (if noOwn env1 vs = true then _ else none) = _
  rw [if_pos h2, h3]
  exact if_pos h4
/-- a loop's -/
theorem ev_for {t : List Nat} {one : Bool} {src : E} {body : List S} {ds : List D} {env1 : Env} {f : Fl} (h1 : evE G Φ src env = some (.lst ds, env1)) (h2 : forGo one t (fun e => evSs G Φ body e) ds env1 = some f) : evS G Φ (.for_ t one src body) env = some f := by
  rw [evS, h1]
  exact h2
theorem s_asg (t : List Nat) (e : E) : evS G Φ (.asg t e) env = (evE G Φ e env).bind fun p => (asgT false t p.1 p.2).map .nx := by rw [evS]
theorem s_asg1 (i : Nat) (e : E) : evS G Φ (.asg1 i e) env = (evE G Φ e env).bind fun p => (setV p.2 i p.1).map .nx := by rw [evS]
theorem s_par (is : List Nat) (es : List E) : evS G Φ (.par is es) env = (evL G Φ es env).bind fun p => if is.Nodup then (setVs is p.1 p.2).map .nx else none := by rw [evS]
theorem s_own (i : Nat) (e : E) : evS G Φ (.own i e) env = (evE G Φ e env).bind fun p => match p.1 with
    | .lst ds => if i < p.2.length then some (.nx (p.2.set i (.own .lst false (.lst ds)))) else none
    | _ => none := by rw [evS] <;> rfl
theorem s_ex (e : E) : evS G Φ (.ex e) env = (evE G Φ e env).map fun p => .nx p.2 := by rw [evS]
theorem s_ifeS (c : E) (a b : List S) : evS G Φ (.ife c a b) env = (evE G Φ c env).bind fun p => match p.1 with
    | .bl true => evSs G Φ a p.2
    | .bl false => evSs G Φ b p.2
    | _ => none := by rw [evS] <;> rfl
theorem s_ret (e : E) : evS G Φ (.ret e) env = (evE G Φ e env).map fun p => .rt p.1 p.2 := by rw [evS]
theorem s_retN : evS G Φ .retN env = some (.rt .non env) := by rw [evS]
theorem s_never : evS G Φ .never env = none := by rw [evS]
theorem s_oset (i : Nat) (ix e : E) : evS G Φ (.oset i ix e) env = (evE G Φ e env).bind fun p => match slotAt p.2 i with
    | .own .lst _ _ => (evE G Φ ix p.2).bind fun q => match slotAt q.2 i, q.1 with
      | .own .lst fix (.lst ds), .int k => (ixN ds.length k).bind fun j => if i < q.2.length then some (.nx (q.2.set i (.own .lst fix (.lst (ds.set j p.1))))) else none
      | _, _ => none
    | _ => none := by rw [evS] <;> rfl
theorem s_app (i : Nat) (e : E) : evS G Φ (.app i e) env = (match slotAt env i with
    | .own .lst _ _ => (evE G Φ e env).bind fun p => match slotAt p.2 i with
      | .own .lst fix (.lst ds) => if ds.length < LIM ∧ i < p.2.length then some (.nx (p.2.set i (.own .lst fix (.lst (ds ++ [p.1]))))) else none
      | _ => none
    | _ => none) := by rw [evS] <;> rfl
end
end Sb

/-! Sb.Set: rising lists of ints as sets; parities. -/
namespace Sb
open PySem L2

def Can (xs : List Int) : Prop := xs.Pairwise (· < ·)
theorem Can.nd {xs : List Int} (h : Can xs) : xs.Nodup := List.Pairwise.imp Int.ne_of_lt h
theorem Can.le {xs : List Int} (h : Can xs) : xs.Pairwise (· ≤ ·) := List.Pairwise.imp Int.le_of_lt h
theorem Can.nil : Can [] := List.Pairwise.nil
theorem Can.one (x : Int) : Can [x] := List.pairwise_singleton _ _
theorem Can.ext {xs ys : List Int} (h1 : Can xs) (h2 : Can ys) (h : ∀ k, k ∈ xs ↔ k ∈ ys) : xs = ys := sorted_one ((List.perm_ext_iff_of_nodup h1.nd h2.nd).mpr h) h1.le h2.le
theorem can_of {xs : List Int} (h : xs.Pairwise (· ≤ ·)) (n : xs.Nodup) : Can xs := lt_of_le_nodup xs h n
theorem can_sort {xs : List Int} (n : xs.Nodup) : Can (sortI xs) := can_of (sortI_sorted _) ((sortI_perm _).nodup_iff.mpr n)
theorem mem_sort {xs : List Int} {k : Int} : k ∈ sortI xs ↔ k ∈ xs := (sortI_perm _).mem_iff
theorem can_sym {xs ys : List Int} (h1 : Can xs) (h2 : Can ys) : Can (symI xs ys) := can_of (symI_sorted _ _) (symI_nodup h1.nd h2.nd)
theorem mem_sym {xs ys : List Int} {k : Int} : k ∈ symI xs ys ↔ xor (decide (k ∈ xs)) (decide (k ∈ ys)) = true := by
  rw [symI_mem]
  by_cases h1 : k ∈ xs <;> by_cases h2 : k ∈ ys <;> simp [h1, h2]
theorem dec_sym {xs ys : List Int} {k : Int} : decide (k ∈ symI xs ys) = xor (decide (k ∈ xs)) (decide (k ∈ ys)) := by
  rw [Bool.eq_iff_iff, decide_eq_true_eq]
  exact mem_sym
theorem dec_ext {xs ys : List Int} (h1 : Can xs) (h2 : Can ys) (h : ∀ k, decide (k ∈ xs) = decide (k ∈ ys)) : xs = ys := h1.ext h2 fun k => by
  have := h k
  rw [Bool.eq_iff_iff, decide_eq_true_eq, decide_eq_true_eq] at this
  exact this
theorem sym_comm {xs ys : List Int} (h1 : Can xs) (h2 : Can ys) : symI xs ys = symI ys xs := dec_ext (can_sym h1 h2) (can_sym h2 h1) fun k => by
  rw [dec_sym, dec_sym]; exact Bool.xor_comm _ _
theorem sym_assoc {xs ys zs : List Int} (h1 : Can xs) (h2 : Can ys) (h3 : Can zs) : symI (symI xs ys) zs = symI xs (symI ys zs) := dec_ext (can_sym (can_sym h1 h2) h3) (can_sym h1 (can_sym h2 h3)) fun k => by
  simp only [dec_sym]; exact Bool.xor_assoc _ _ _
theorem sym_self {xs : List Int} (h : Can xs) : symI xs xs = [] := dec_ext (can_sym h h) Can.nil fun k => by
  rw [dec_sym]; simp
theorem sym_nil {xs : List Int} (h : Can xs) : symI xs [] = xs := dec_ext (can_sym h Can.nil) h fun k => by
  rw [dec_sym]; simp
theorem nil_sym {xs : List Int} (h : Can xs) : symI [] xs = xs := dec_ext (can_sym Can.nil h) h fun k => by
  rw [dec_sym]; simp
/-- all below n -/
def Bel (n : Int) (xs : List Int) : Prop := ∀ x ∈ xs, 0 ≤ x ∧ x < n
theorem Bel.sym {n : Int} {xs ys : List Int} (h1 : Bel n xs) (h2 : Bel n ys) : Bel n (symI xs ys) := fun k hk => by
  have := mem_sym.mp hk
  by_cases q : k ∈ xs
  · exact h1 k q
  · rw [decide_eq_false q] at this
    exact h2 k (by simpa using this)
theorem Can.len {n : Nat} {xs : List Int} (h : Can xs) (b : Bel n xs) : xs.length ≤ n := by
  have : (xs.map Int.toNat).Nodup := nodup_on (fun x hx y hy e => by have := b x hx; have := b y hy; omega) h.nd
  have := nat_nodup_len _ (List.range n) this fun k hk => by
    obtain ⟨x, hx, rfl⟩ := List.mem_map.mp hk
    have := b x hx
    exact List.mem_range.mpr (by omega)
  rwa [List.length_map, List.length_range] at this
/-- how often f, as a parity -/
def par (f : Int → Bool) : List Int → Bool
  | [] => false
  | e :: r => xor (f e) (par f r)
theorem par_perm {f : Int → Bool} {xs ys : List Int} (h : xs.Perm ys) : par f xs = par f ys := by
  induction h with
  | nil => rfl
  | cons x _ ih => rw [par, par, ih]
  | swap x y l => rw [par, par, par, par, ← Bool.xor_assoc, ← Bool.xor_assoc, Bool.xor_comm (f y)]
  | trans _ _ a b => exact a.trans b
theorem par_append {f : Int → Bool} : ∀ {xs ys : List Int}, par f (xs ++ ys) = xor (par f xs) (par f ys)
  | [], ys => by simp [par]
  | x :: xs, ys => by rw [List.cons_append, par, par, par_append, Bool.xor_assoc]
theorem par_split {f : Int → Bool} (p : Int → Bool) (xs : List Int) : par f xs = xor (par f (xs.filter p)) (par f (xs.filter fun x => !p x)) := by
  rw [← par_append]
  exact par_perm (List.filter_append_perm p xs).symm
theorem par_sym {f : Int → Bool} {xs ys : List Int} (h1 : xs.Nodup) (h2 : ys.Nodup) : par f (symI xs ys) = xor (par f xs) (par f ys) := by
  unfold symI
  rw [par_perm (sortI_perm _), par_append, par_split (fun x => ys.contains x) xs, par_split (fun x => xs.contains x) ys]
  have : (xs.filter fun x => ys.contains x).Perm (ys.filter fun x => xs.contains x) := (List.perm_ext_iff_of_nodup (h1.sublist List.filter_sublist) (h2.sublist List.filter_sublist)).mpr fun k => by
    simp only [List.mem_filter, List.contains_iff_mem]
    exact And.comm
  rw [par_perm this]
  generalize par f (ys.filter fun x => xs.contains x) = a
  generalize par f (xs.filter fun x => !ys.contains x) = b
  generalize par f (ys.filter fun x => !xs.contains x) = c
  cases a <;> cases b <;> cases c <;> rfl
end Sb

namespace Sb
open PySem L2
def top (i : Nat) : Stmt := PySem.Challenge.pw_seamboard_k19_whole_flips_behind_flips.main.body.getD i (.Pass ⟨0, 0, 0, 0⟩)
/-! is_number: part, low, high -/
def N_is_number : List Str := ["part", "low", "high"]
def b_is_number : List S :=
  [.ret (.bop true [(.isi .int (.var 0)), (.not (.isi .bool (.var 0))), (.cmp2 .le .le (.var 1) (.var 0) (.var 2))])]
theorem c_is_number : chkSs (mkSC N_is_number (defScope (top 7)).names [] [] ["isinstance", "int", "bool"]) b_is_number (defBody (top 7)) = true := by decide +kernel
theorem s_is_number : FnScope N_is_number ["part", "low", "high"] (defScope (top 7)) := ⟨rfl, rfl, rfl, by decide +kernel, rfl, by decide +kernel, by decide +kernel⟩
def l_is_number : FnL := []
def g_is_number : GlL := []
def f_is_number : FnSem := runF (gam g_is_number) (phi l_is_number) 3 b_is_number
/-! need_board: board, side -/
def N_need_board : List Str := ["board", "side"]
def b_need_board : List S :=
  [.ife (.bop false [(.not (.isi .tuple (.var 0))), (.cmp .ne (.bi .len [(.var 0)]) (.int 2))])
   [.never]
   [],
  .ife (.not (.bi .all [(.lc [1] [1] (.seq (.var 0)) (.bl true) (.call 0 [(.var 1), (.glo 0), (.glo 1)]))]))
   [.never]
   []]
theorem c_need_board : chkSs (mkSC N_need_board (defScope (top 8)).names [("is_number", 3)] ["LEAST_SIDE", "MOST_SIDE"] ["isinstance", "tuple", "len", "all"]) b_need_board (defBody (top 8)) = true := by decide +kernel
theorem s_need_board : FnScope N_need_board ["board"] (defScope (top 8)) := ⟨rfl, rfl, rfl, by decide +kernel, rfl, by decide +kernel, by decide +kernel⟩
def l_need_board : FnL := [("is_number", 3, f_is_number)]
def g_need_board : GlL := [("LEAST_SIDE", .int 2), ("MOST_SIDE", .int 5)]
def f_need_board : FnSem := runF (gam g_need_board) (phi l_need_board) 2 b_need_board
/-! many_sites: board -/
def N_many_sites : List Str := ["board"]
def b_many_sites : List S :=
  [.ret (.op .mul (.ix (.var 0) (.int 0)) (.ix (.var 0) (.int 1)))]
theorem c_many_sites : chkSs (mkSC N_many_sites (defScope (top 9)).names [] [] []) b_many_sites (defBody (top 9)) = true := by decide +kernel
theorem s_many_sites : FnScope N_many_sites ["board"] (defScope (top 9)) := ⟨rfl, rfl, rfl, by decide +kernel, rfl, by decide +kernel, by decide +kernel⟩
def l_many_sites : FnL := []
def g_many_sites : GlL := []
def f_many_sites : FnSem := runF (gam g_many_sites) (phi l_many_sites) 1 b_many_sites
/-! bad_place: some, many, place, one -/
def N_bad_place : List Str := ["some", "many", "place", "one"]
def b_bad_place : List S :=
  [.ife (.not (.isi .tuple (.var 0)))
   [.ret (.int 0)]
   [],
  .for_ [2, 3] false (.enm (.var 0))
   [.ife (.not (.call 0 [(.var 3), (.ife (.cmp .eq (.var 2) (.int 0)) (.int 0) (.op .add (.ix (.var 0) (.op .sub (.var 2) (.int 1))) (.int 1))), (.op .sub (.var 1) (.int 1))]))
    [.ret (.var 2)]
    []],
  .ret .non]
theorem c_bad_place : chkSs (mkSC N_bad_place (defScope (top 10)).names [("is_number", 3)] [] ["isinstance", "tuple", "enumerate"]) b_bad_place (defBody (top 10)) = true := by decide +kernel
theorem s_bad_place : FnScope N_bad_place ["some", "many"] (defScope (top 10)) := ⟨rfl, rfl, rfl, by decide +kernel, rfl, by decide +kernel, by decide +kernel⟩
def l_bad_place : FnL := [("is_number", 3, f_is_number)]
def g_bad_place : GlL := []
def f_bad_place : FnSem := runF (gam g_bad_place) (phi l_bad_place) 4 b_bad_place
/-! need_flips: board, flips, place -/
def N_need_flips : List Str := ["board", "flips", "place"]
def b_need_flips : List S :=
  [.asg1 2 (.call 0 [(.var 1), (.op .mul (.int 2) (.call 1 [(.var 0)]))]),
  .ife (.isN true (.var 2))
   [.never]
   []]
theorem c_need_flips : chkSs (mkSC N_need_flips (defScope (top 11)).names [("bad_place", 2), ("many_sites", 1)] [] []) b_need_flips (defBody (top 11)) = true := by decide +kernel
theorem s_need_flips : FnScope N_need_flips ["board", "flips"] (defScope (top 11)) := ⟨rfl, rfl, rfl, by decide +kernel, rfl, by decide +kernel, by decide +kernel⟩
def l_need_flips : FnL := [("bad_place", 2, f_bad_place), ("many_sites", 1, f_many_sites)]
def g_need_flips : GlL := []
def f_need_flips : FnSem := runF (gam g_need_flips) (phi l_need_flips) 3 b_need_flips
/-! right_of: board, site, row, column -/
def N_right_of : List Str := ["board", "site", "row", "column"]
def b_right_of : List S :=
  [.par [2, 3] [(.op .fdiv (.var 1) (.ix (.var 0) (.int 1))), (.op .mod (.var 1) (.ix (.var 0) (.int 1)))],
  .ret (.op .add (.op .mul (.var 2) (.ix (.var 0) (.int 1))) (.op .mod (.op .add (.var 3) (.int 1)) (.ix (.var 0) (.int 1))))]
theorem c_right_of : chkSs (mkSC N_right_of (defScope (top 12)).names [] [] []) b_right_of (defBody (top 12)) = true := by decide +kernel
theorem s_right_of : FnScope N_right_of ["board", "site"] (defScope (top 12)) := ⟨rfl, rfl, rfl, by decide +kernel, rfl, by decide +kernel, by decide +kernel⟩
def l_right_of : FnL := []
def g_right_of : GlL := []
def f_right_of : FnSem := runF (gam g_right_of) (phi l_right_of) 4 b_right_of
/-! below: board, site -/
def N_below : List Str := ["board", "site"]
def b_below : List S :=
  [.ret (.op .mod (.op .add (.var 1) (.ix (.var 0) (.int 1))) (.call 0 [(.var 0)]))]
theorem c_below : chkSs (mkSC N_below (defScope (top 13)).names [("many_sites", 1)] [] []) b_below (defBody (top 13)) = true := by decide +kernel
theorem s_below : FnScope N_below ["board", "site"] (defScope (top 13)) := ⟨rfl, rfl, rfl, by decide +kernel, rfl, by decide +kernel, by decide +kernel⟩
def l_below : FnL := [("many_sites", 1, f_many_sites)]
def g_below : GlL := []
def f_below : FnSem := runF (gam g_below) (phi l_below) 2 b_below
/-! ends_of: board, edge, site -/
def N_ends_of : List Str := ["board", "edge", "site"]
def b_ends_of : List S :=
  [.asg1 2 (.op .fdiv (.var 1) (.int 2)),
  .ret (.tup [(.var 2), (.ife (.cmp .eq (.op .mod (.var 1) (.int 2)) (.int 0)) (.call 0 [(.var 0), (.var 2)]) (.call 1 [(.var 0), (.var 2)]))])]
theorem c_ends_of : chkSs (mkSC N_ends_of (defScope (top 14)).names [("right_of", 2), ("below", 2)] [] []) b_ends_of (defBody (top 14)) = true := by decide +kernel
theorem s_ends_of : FnScope N_ends_of ["board", "edge"] (defScope (top 14)) := ⟨rfl, rfl, rfl, by decide +kernel, rfl, by decide +kernel, by decide +kernel⟩
def l_ends_of : FnL := [("right_of", 2, f_right_of), ("below", 2, f_below)]
def g_ends_of : GlL := []
def f_ends_of : FnSem := runF (gam g_ends_of) (phi l_ends_of) 3 b_ends_of
/-! seam_of: board, edge, site -/
def N_seam_of : List Str := ["board", "edge", "site"]
def b_seam_of : List S :=
  [.asg1 2 (.op .fdiv (.var 1) (.int 2)),
  .ife (.cmp .eq (.op .mod (.var 1) (.int 2)) (.int 0))
   [.ret (.tup [(.bi .int [(.cmp .eq (.op .mod (.var 2) (.ix (.var 0) (.int 1))) (.op .sub (.ix (.var 0) (.int 1)) (.int 1)))]), (.int 0)])]
   [],
  .ret (.tup [(.int 0), (.bi .int [(.cmp .eq (.op .fdiv (.var 2) (.ix (.var 0) (.int 1))) (.op .sub (.ix (.var 0) (.int 0)) (.int 1)))])])]
theorem c_seam_of : chkSs (mkSC N_seam_of (defScope (top 15)).names [] [] ["int"]) b_seam_of (defBody (top 15)) = true := by decide +kernel
theorem s_seam_of : FnScope N_seam_of ["board", "edge"] (defScope (top 15)) := ⟨rfl, rfl, rfl, by decide +kernel, rfl, by decide +kernel, by decide +kernel⟩
def l_seam_of : FnL := []
def g_seam_of : GlL := []
def f_seam_of : FnSem := runF (gam g_seam_of) (phi l_seam_of) 3 b_seam_of
/-! both: one, other -/
def N_both : List Str := ["one", "other"]
def b_both : List S :=
  [.ret (.bi .tuple [(.sx (.var 0) (.var 1))])]
theorem c_both : chkSs (mkSC N_both (defScope (top 16)).names [] [] ["tuple", "sorted", "set"]) b_both (defBody (top 16)) = true := by decide +kernel
theorem s_both : FnScope N_both ["one", "other"] (defScope (top 16)) := ⟨rfl, rfl, rfl, by decide +kernel, rfl, by decide +kernel, by decide +kernel⟩
def l_both : FnL := []
def g_both : GlL := []
def f_both : FnSem := runF (gam g_both) (phi l_both) 2 b_both
/-! crossed: one, other -/
def N_crossed : List Str := ["one", "other"]
def b_crossed : List S :=
  [.ret (.tup [(.op .xor (.ix (.var 0) (.int 0)) (.ix (.var 1) (.int 0))), (.op .xor (.ix (.var 0) (.int 1)) (.ix (.var 1) (.int 1)))])]
theorem c_crossed : chkSs (mkSC N_crossed (defScope (top 17)).names [] [] []) b_crossed (defBody (top 17)) = true := by decide +kernel
theorem s_crossed : FnScope N_crossed ["one", "other"] (defScope (top 17)) := ⟨rfl, rfl, rfl, by decide +kernel, rfl, by decide +kernel, by decide +kernel⟩
def l_crossed : FnL := []
def g_crossed : GlL := []
def f_crossed : FnSem := runF (gam g_crossed) (phi l_crossed) 2 b_crossed
/-! lit_by: board, flips, found, edge -/
def N_lit_by : List Str := ["board", "flips", "found", "edge"]
def b_lit_by : List S :=
  [.asg1 2 (.tup []),
  .for_ [3] true (.seq (.var 1))
   [.asg1 2 (.call 0 [(.var 2), (.call 1 [(.var 0), (.var 3)])])],
  .ret (.var 2)]
theorem c_lit_by : chkSs (mkSC N_lit_by (defScope (top 18)).names [("both", 2), ("ends_of", 2)] [] []) b_lit_by (defBody (top 18)) = true := by decide +kernel
theorem s_lit_by : FnScope N_lit_by ["board", "flips"] (defScope (top 18)) := ⟨rfl, rfl, rfl, by decide +kernel, rfl, by decide +kernel, by decide +kernel⟩
def l_lit_by : FnL := [("both", 2, f_both), ("ends_of", 2, f_ends_of)]
def g_lit_by : GlL := []
def f_lit_by : FnSem := runF (gam g_lit_by) (phi l_lit_by) 4 b_lit_by
/-! seams_by: board, flips, found, edge -/
def N_seams_by : List Str := ["board", "flips", "found", "edge"]
def b_seams_by : List S :=
  [.asg1 2 (.tup [(.int 0), (.int 0)]),
  .for_ [3] true (.seq (.var 1))
   [.asg1 2 (.call 0 [(.var 2), (.call 1 [(.var 0), (.var 3)])])],
  .ret (.var 2)]
theorem c_seams_by : chkSs (mkSC N_seams_by (defScope (top 19)).names [("crossed", 2), ("seam_of", 2)] [] []) b_seams_by (defBody (top 19)) = true := by decide +kernel
theorem s_seams_by : FnScope N_seams_by ["board", "flips"] (defScope (top 19)) := ⟨rfl, rfl, rfl, by decide +kernel, rfl, by decide +kernel, by decide +kernel⟩
def l_seams_by : FnL := [("crossed", 2, f_crossed), ("seam_of", 2, f_seam_of)]
def g_seams_by : GlL := []
def f_seams_by : FnSem := runF (gam g_seams_by) (phi l_seams_by) 4 b_seams_by
/-! checks: board, flips -/
def N_checks : List Str := ["board", "flips"]
def b_checks : List S :=
  [.ex (.call 0 [(.var 0)]),
  .ex (.call 1 [(.var 0), (.var 1)]),
  .ret (.call 2 [(.var 0), (.var 1)])]
theorem c_checks : chkSs (mkSC N_checks (defScope (top 20)).names [("need_board", 1), ("need_flips", 2), ("lit_by", 2)] [] []) b_checks (defBody (top 20)) = true := by decide +kernel
theorem s_checks : FnScope N_checks ["board", "flips"] (defScope (top 20)) := ⟨rfl, rfl, rfl, by decide +kernel, rfl, by decide +kernel, by decide +kernel⟩
def l_checks : FnL := [("need_board", 1, f_need_board), ("need_flips", 2, f_need_flips), ("lit_by", 2, f_lit_by)]
def g_checks : GlL := []
def f_checks : FnSem := runF (gam g_checks) (phi l_checks) 2 b_checks
/-! seams: board, flips -/
def N_seams : List Str := ["board", "flips"]
def b_seams : List S :=
  [.ex (.call 0 [(.var 0)]),
  .ex (.call 1 [(.var 0), (.var 1)]),
  .ret (.call 2 [(.var 0), (.var 1)])]
theorem c_seams : chkSs (mkSC N_seams (defScope (top 21)).names [("need_board", 1), ("need_flips", 2), ("seams_by", 2)] [] []) b_seams (defBody (top 21)) = true := by decide +kernel
theorem s_seams : FnScope N_seams ["board", "flips"] (defScope (top 21)) := ⟨rfl, rfl, rfl, by decide +kernel, rfl, by decide +kernel, by decide +kernel⟩
def l_seams : FnL := [("need_board", 1, f_need_board), ("need_flips", 2, f_need_flips), ("seams_by", 2, f_seams_by)]
def g_seams : GlL := []
def f_seams : FnSem := runF (gam g_seams) (phi l_seams) 2 b_seams
/-! after: board, one, other -/
def N_after : List Str := ["board", "one", "other"]
def b_after : List S :=
  [.ex (.call 0 [(.var 0)]),
  .ex (.call 1 [(.var 0), (.var 1)]),
  .ex (.call 1 [(.var 0), (.var 2)]),
  .ret (.call 2 [(.var 1), (.var 2)])]
theorem c_after : chkSs (mkSC N_after (defScope (top 22)).names [("need_board", 1), ("need_flips", 2), ("both", 2)] [] []) b_after (defBody (top 22)) = true := by decide +kernel
theorem s_after : FnScope N_after ["board", "one", "other"] (defScope (top 22)) := ⟨rfl, rfl, rfl, by decide +kernel, rfl, by decide +kernel, by decide +kernel⟩
def l_after : FnL := [("need_board", 1, f_need_board), ("need_flips", 2, f_need_flips), ("both", 2, f_both)]
def g_after : GlL := []
def f_after : FnSem := runF (gam g_after) (phi l_after) 3 b_after
/-! _law_taken: _law_row, _law_many, _law_cell, _law_found -/
def N_law_taken : List Str := ["_law_row", "_law_many", "_law_cell", "_law_found"]
def b_law_taken : List S :=
  [.ife (.cmp .gt (.oix 0 (.int 3)) (.int 0))
   [.asg1 3 (.op .mod (.bi .int [(.oix 0 (.int 3))]) (.var 1)),
   .oset 0 (.int 3) (.op .fdiv (.oix 0 (.int 3)) (.var 1)),
   .ret (.var 3)]
   [],
  .oset 0 (.int 1) (.op .add (.oix 0 (.int 1)) (.int 1)),
  .ife (.cmp .gt (.oix 0 (.int 1)) (.bi .len [(.oix 0 (.int 0))]))
   [.oset 0 (.int 2) (.op .mod (.bi .int [(.op .add (.op .mul (.oix 0 (.int 2)) (.int 48271)) (.int 11))]) (.int 2147483647)),
   .ret (.op .mod (.bi .int [(.op .fdiv (.oix 0 (.int 2)) (.int 7))]) (.var 1))]
   [],
  .asg1 2 (.ix (.oix 0 (.int 0)) (.op .sub (.oix 0 (.int 1)) (.int 1))),
  .oset 0 (.int 2) (.op .mod (.bi .int [(.op .add (.op .add (.op .mul (.oix 0 (.int 2)) (.int 48271)) (.var 2)) (.int 11))]) (.int 2147483647)),
  .ife (.cmp .ge (.var 2) (.op .pow (.int 10) (.int 18)))
   [.oset 0 (.int 3) (.op .fdiv (.var 2) (.var 1))]
   [],
  .ret (.op .mod (.bi .int [(.var 2)]) (.var 1))]
theorem c_law_taken : chkSs (mkSC N_law_taken (defScope (top 24)).names [] [] ["int", "len"]) b_law_taken (defBody (top 24)) = true := by decide +kernel
theorem s_law_taken : FnScope N_law_taken ["_law_row", "_law_many"] (defScope (top 24)) := ⟨rfl, rfl, rfl, by decide +kernel, rfl, by decide +kernel, by decide +kernel⟩
def l_law_taken : FnL := []
def g_law_taken : GlL := []
def f_law_taken : FnSem := runF (gam g_law_taken) (phi l_law_taken) 4 b_law_taken
-- owned [0]
/-! _law_board: _law_row, _law_most -/
def N_law_board : List Str := ["_law_row", "_law_most"]
def b_law_board : List S :=
  [.ret (.tup [(.op .add (.int 2) (.call 0 [(.ref 0), (.op .sub (.var 1) (.int 1))])), (.op .add (.int 2) (.call 0 [(.ref 0), (.op .sub (.var 1) (.int 1))]))])]
theorem c_law_board : chkSs (mkSC N_law_board (defScope (top 25)).names [("_law_taken", 2)] [] []) b_law_board (defBody (top 25)) = true := by decide +kernel
theorem s_law_board : FnScope N_law_board ["_law_row", "_law_most"] (defScope (top 25)) := ⟨rfl, rfl, rfl, by decide +kernel, rfl, by decide +kernel, by decide +kernel⟩
def l_law_board : FnL := [("_law_taken", 2, f_law_taken)]
def g_law_board : GlL := []
def f_law_board : FnSem := runF (gam g_law_board) (phi l_law_board) 2 b_law_board
-- owned [0]
/-! _law_some: _law_row, _law_many, _law_most, _law_found, _law_k, _law_one -/
def N_law_some : List Str := ["_law_row", "_law_many", "_law_most", "_law_found", "_law_k", "_law_one"]
def b_law_some : List S :=
  [.asg1 3 (.lst []),
  .for_ [4] true (.rng [(.call 0 [(.ref 0), (.op .add (.bi .min [(.var 1), (.var 2)]) (.int 1))])])
   [.asg1 5 (.call 0 [(.ref 0), (.var 1)]),
   .asg1 3 (.op .add (.var 3) (.op .mul (.lst [(.var 5)]) (.bi .int [(.cmp .notin (.var 5) (.var 3))])))],
  .ret (.bi .tuple [(.bi .sorted [(.var 3)])])]
theorem c_law_some : chkSs (mkSC N_law_some (defScope (top 26)).names [("_law_taken", 2)] [] ["range", "min", "int", "tuple", "sorted"]) b_law_some (defBody (top 26)) = true := by decide +kernel
theorem s_law_some : FnScope N_law_some ["_law_row", "_law_many", "_law_most"] (defScope (top 26)) := ⟨rfl, rfl, rfl, by decide +kernel, rfl, by decide +kernel, by decide +kernel⟩
def l_law_some : FnL := [("_law_taken", 2, f_law_taken)]
def g_law_some : GlL := []
def f_law_some : FnSem := runF (gam g_law_some) (phi l_law_some) 6 b_law_some
-- owned [0]
/-! _law_flips: _law_row, _law_board_here, _law_many, _law_found, _law_line, _law_edge, _law_k -/
def N_law_flips : List Str := ["_law_row", "_law_board_here", "_law_many", "_law_found", "_law_line", "_law_edge", "_law_k"]
def b_law_flips : List S :=
  [.asg1 2 (.op .mul (.ix (.var 1) (.int 0)) (.ix (.var 1) (.int 1))),
  .asg1 3 (.bi .list [(.call 0 [(.ref 0), (.op .mul (.int 2) (.var 2)), (.ix (.lst [(.int 3), (.int 6), (.op .mul (.int 2) (.var 2))]) (.call 1 [(.ref 0), (.int 3)]))])]),
  .ife (.cmp .eq (.call 1 [(.ref 0), (.int 4)]) (.int 0))
   [.asg1 4 (.call 1 [(.ref 0), (.ix (.var 1) (.int 0))]),
   .asg1 3 (.op .add (.var 3) (.lc [6] [6] (.rng [(.ix (.var 1) (.int 1))]) (.bl true) (.op .mul (.int 2) (.op .add (.op .mul (.var 4) (.ix (.var 1) (.int 1))) (.var 6)))))]
   [],
  .ife (.cmp .eq (.call 1 [(.ref 0), (.int 4)]) (.int 0))
   [.asg1 4 (.call 1 [(.ref 0), (.ix (.var 1) (.int 1))]),
   .asg1 3 (.op .add (.var 3) (.lc [6] [6] (.rng [(.ix (.var 1) (.int 0))]) (.bl true) (.op .add (.op .mul (.int 2) (.op .add (.op .mul (.var 6) (.ix (.var 1) (.int 1))) (.var 4))) (.int 1))))]
   [],
  .ret (.bi .tuple [(.lc [5] [5] (.rng [(.op .mul (.int 2) (.var 2))]) (.cmp .eq (.op .mod (.mt .count (.var 3) [(.var 5)]) (.int 2)) (.int 1)) (.var 5))])]
theorem c_law_flips : chkSs (mkSC N_law_flips (defScope (top 27)).names [("_law_some", 3), ("_law_taken", 2)] [] ["list", "range", "tuple"]) b_law_flips (defBody (top 27)) = true := by decide +kernel
theorem s_law_flips : FnScope N_law_flips ["_law_row", "_law_board_here"] (defScope (top 27)) := ⟨rfl, rfl, rfl, by decide +kernel, rfl, by decide +kernel, by decide +kernel⟩
def l_law_flips : FnL := [("_law_some", 3, f_law_some), ("_law_taken", 2, f_law_taken)]
def g_law_flips : GlL := []
def f_law_flips : FnSem := runF (gam g_law_flips) (phi l_law_flips) 7 b_law_flips
-- owned [0]
/-! _law_apart: _law_one, _law_other, _law_k -/
def N_law_apart : List Str := ["_law_one", "_law_other", "_law_k"]
def b_law_apart : List S :=
  [.ret (.bi .tuple [(.bi .sorted [(.op .add (.lc [2] [2] (.seq (.var 0)) (.cmp .notin (.var 2) (.var 1)) (.var 2)) (.lc [2] [2] (.seq (.var 1)) (.cmp .notin (.var 2) (.var 0)) (.var 2)))])])]
theorem c_law_apart : chkSs (mkSC N_law_apart (defScope (top 28)).names [] [] ["tuple", "sorted"]) b_law_apart (defBody (top 28)) = true := by decide +kernel
theorem s_law_apart : FnScope N_law_apart ["_law_one", "_law_other"] (defScope (top 28)) := ⟨rfl, rfl, rfl, by decide +kernel, rfl, by decide +kernel, by decide +kernel⟩
def l_law_apart : FnL := []
def g_law_apart : GlL := []
def f_law_apart : FnSem := runF (gam g_law_apart) (phi l_law_apart) 3 b_law_apart
/-! _law_side: _law_one, _law_other -/
def N_law_side : List Str := ["_law_one", "_law_other"]
def b_law_side : List S :=
  [.ret (.tup [(.op .mod (.bi .int [(.op .add (.ix (.var 0) (.int 0)) (.ix (.var 1) (.int 0)))]) (.int 2)), (.op .mod (.bi .int [(.op .add (.ix (.var 0) (.int 1)) (.ix (.var 1) (.int 1)))]) (.int 2))])]
theorem c_law_side : chkSs (mkSC N_law_side (defScope (top 29)).names [] [] ["int"]) b_law_side (defBody (top 29)) = true := by decide +kernel
theorem s_law_side : FnScope N_law_side ["_law_one", "_law_other"] (defScope (top 29)) := ⟨rfl, rfl, rfl, by decide +kernel, rfl, by decide +kernel, by decide +kernel⟩
def l_law_side : FnL := []
def g_law_side : GlL := []
def f_law_side : FnSem := runF (gam g_law_side) (phi l_law_side) 2 b_law_side
/-! law: _law_script, _law_row, _law_turn, _law_board_here, _law_whole, _law_edge, _law_site, _law_right, _law_one, _law_two, _law_three, _law_lit, _law_side_here, _law_flips_here, _law_line, _law_column -/
def N_law : List Str := ["_law_script", "_law_row", "_law_turn", "_law_board_here", "_law_whole", "_law_edge", "_law_site", "_law_right", "_law_one", "_law_two", "_law_three", "_law_lit", "_law_side_here", "_law_flips_here", "_law_line", "_law_column"]
def b_law : List S :=
  [.own 1 (.lst [(.var 0), (.int 0), (.int 0), (.int 0)]),
  .for_ [2] true (.rng [(.int 4)])
   [.asg1 3 (.call 0 [(.ref 1), (.int 5)]),
   .par [8, 9, 10] [(.call 1 [(.ref 1), (.var 3)]), (.call 1 [(.ref 1), (.var 3)]), (.call 1 [(.ref 1), (.var 3)])],
   .asg1 4 (.call 2 [(.var 3), (.var 8), (.var 9)]),
   .ife (.bop false [(.cmp .ne (.var 4) (.call 3 [(.var 8), (.var 9)])), (.cmp .ne (.var 4) (.call 2 [(.var 3), (.var 9), (.var 8)]))])
    [.ret (.bl false)]
    [],
   .ife (.cmp .ne (.call 2 [(.var 3), (.var 4), (.var 10)]) (.call 2 [(.var 3), (.var 8), (.call 2 [(.var 3), (.var 9), (.var 10)])]))
    [.ret (.bl false)]
    [],
   .ife (.cmp .ne (.call 4 [(.var 3), (.var 4)]) (.call 3 [(.call 4 [(.var 3), (.var 8)]), (.call 4 [(.var 3), (.var 9)])]))
    [.ret (.bl false)]
    [],
   .ife (.cmp .ne (.call 5 [(.var 3), (.var 4)]) (.call 6 [(.call 5 [(.var 3), (.var 8)]), (.call 5 [(.var 3), (.var 9)])]))
    [.ret (.bl false)]
    [],
   .ife (.bop false [(.cmp .ne (.call 2 [(.var 3), (.var 8), (.var 8)]) (.tup [])), (.cmp .ne (.call 2 [(.var 3), (.var 8), (.tup [])]) (.var 8))])
    [.ret (.bl false)]
    [],
   .ife (.bop false [(.cmp .ne (.call 4 [(.var 3), (.tup [])]) (.tup [])), (.cmp .ne (.call 5 [(.var 3), (.tup [])]) (.tup [(.int 0), (.int 0)]))])
    [.ret (.bl false)]
    [],
   .asg [11, 12, 13] (.tup [(.tup []), (.tup [(.int 0), (.int 0)]), (.tup [])]),
   .for_ [5] true (.seq (.var 8))
    [.par [11, 12] [(.call 3 [(.var 11), (.call 4 [(.var 3), (.tup [(.var 5)])])]), (.call 6 [(.var 12), (.call 5 [(.var 3), (.tup [(.var 5)])])])],
    .asg1 13 (.call 2 [(.var 3), (.var 13), (.tup [(.var 5)])])],
   .ife (.bop false [(.cmp .ne (.var 11) (.call 4 [(.var 3), (.var 8)])), (.cmp .ne (.var 12) (.call 5 [(.var 3), (.var 8)])), (.cmp .ne (.var 13) (.var 8)), (.cmp .ne (.op .mod (.bi .len [(.var 11)]) (.int 2)) (.int 0))])
    [.ret (.bl false)]
    [],
   .asg1 6 (.call 7 [(.ref 1), (.op .mul (.ix (.var 3) (.int 0)) (.ix (.var 3) (.int 1)))]),
   .par [14, 15] [(.op .fdiv (.var 6) (.ix (.var 3) (.int 1))), (.op .mod (.bi .int [(.var 6)]) (.ix (.var 3) (.int 1)))],
   .asg1 7 (.tup [(.op .mul (.int 2) (.var 6))]),
   .ife (.bop false [(.cmp .ne (.call 5 [(.var 3), (.var 7)]) (.tup [(.bi .int [(.cmp .eq (.var 15) (.op .sub (.ix (.var 3) (.int 1)) (.int 1)))]), (.int 0)])), (.cmp .notin (.var 6) (.call 4 [(.var 3), (.var 7)]))])
    [.ret (.bl false)]
    [],
   .ife (.bop false [(.cmp .ne (.call 5 [(.var 3), (.tup [(.op .add (.op .mul (.int 2) (.var 6)) (.int 1))])]) (.tup [(.int 0), (.bi .int [(.cmp .eq (.var 14) (.op .sub (.ix (.var 3) (.int 0)) (.int 1)))])])), (.cmp .ne (.bi .len [(.call 4 [(.var 3), (.var 7)])]) (.int 2))])
    [.ret (.bl false)]
    []],
  .ret (.bl true)]
theorem c_law : chkSs (mkSC N_law (defScope (top 30)).names [("_law_board", 2), ("_law_flips", 2), ("after", 3), ("_law_apart", 2), ("checks", 2), ("seams", 2), ("_law_side", 2), ("_law_taken", 2)] [] ["range", "len", "int"]) b_law (defBody (top 30)) = true := by decide +kernel
theorem s_law : FnScope N_law ["_law_script"] (defScope (top 30)) := ⟨rfl, rfl, rfl, by decide +kernel, rfl, by decide +kernel, by decide +kernel⟩
def l_law : FnL := [("_law_board", 2, f_law_board), ("_law_flips", 2, f_law_flips), ("after", 3, f_after), ("_law_apart", 2, f_law_apart), ("checks", 2, f_checks), ("seams", 2, f_seams), ("_law_side", 2, f_law_side), ("_law_taken", 2, f_law_taken)]
def g_law : GlL := []
def f_law : FnSem := runF (gam g_law) (phi l_law) 16 b_law
end Sb

namespace Sb
open PySem L2
@[local simp] def zzK19V_0 := @startE.eq_1
@[local simp] def zzK19V_1 := @argSlot.eq_1
@[local simp] def zzK19V_2 := @argSlot.eq_2
@[local simp] def zzK19V_3 := @evSs.eq_1
@[local simp] def zzK19V_4 := @evSs.eq_2
@[local simp] def zzK19V_5 := @evS.eq_1
@[local simp] def zzK19V_6 := @evS.eq_2
@[local simp] def zzK19V_7 := @evS.eq_3
@[local simp] def zzK19V_8 := @evS.eq_4
@[local simp] def zzK19V_9 := @evS.eq_5
@[local simp] def zzK19V_10 := @evS.eq_6
@[local simp] def zzK19V_11 := @evS.eq_7
@[local simp] def zzK19V_12 := @evS.eq_8
@[local simp] def zzK19V_13 := @evS.eq_9
@[local simp] def zzK19V_14 := @evS.eq_10
@[local simp] def zzK19V_15 := @evS.eq_11
@[local simp] def zzK19V_16 := @evS.eq_12
@[local simp] def zzK19V_17 := @evS.eq_13
@[local simp] def zzK19V_18 := @evS.eq_14
@[local simp] def zzK19V_19 := @evE.eq_1
@[local simp] def zzK19V_20 := @evE.eq_2
@[local simp] def zzK19V_21 := @evE.eq_3
@[local simp] def zzK19V_22 := @evE.eq_4
@[local simp] def zzK19V_23 := @evE.eq_5
@[local simp] def zzK19V_24 := @evE.eq_6
@[local simp] def zzK19V_25 := @evE.eq_7
@[local simp] def zzK19V_26 := @evE.eq_8
@[local simp] def zzK19V_27 := @evE.eq_9
@[local simp] def zzK19V_28 := @evE.eq_10
@[local simp] def zzK19V_29 := @evE.eq_11
@[local simp] def zzK19V_30 := @evE.eq_12
@[local simp] def zzK19V_31 := @evE.eq_13
@[local simp] def zzK19V_32 := @evE.eq_14
@[local simp] def zzK19V_33 := @evE.eq_15
@[local simp] def zzK19V_34 := @evE.eq_16
@[local simp] def zzK19V_35 := @evE.eq_17
@[local simp] def zzK19V_36 := @evE.eq_18
@[local simp] def zzK19V_37 := @evE.eq_19
@[local simp] def zzK19V_38 := @evE.eq_20
@[local simp] def zzK19V_39 := @evE.eq_21
@[local simp] def zzK19V_40 := @evE.eq_22
@[local simp] def zzK19V_41 := @evE.eq_23
@[local simp] def zzK19V_42 := @evE.eq_24
@[local simp] def zzK19V_43 := @evE.eq_25
@[local simp] def zzK19V_44 := @evE.eq_26
@[local simp] def zzK19V_45 := @evE.eq_27
@[local simp] def zzK19V_46 := @evE.eq_28
@[local simp] def zzK19V_47 := @evB.eq_1
@[local simp] def zzK19V_48 := @evB.eq_2
@[local simp] def zzK19V_49 := @evL.eq_1
@[local simp] def zzK19V_50 := @evL.eq_2
@[local simp] def zzK19V_51 := @evA.eq_1
@[local simp] def zzK19V_52 := @evA.eq_2
@[local simp] def zzK19V_53 := @asRef.eq_1
@[local simp] def zzK19V_54 := @asRef.eq_2
@[local simp] def zzK19V_55 := @slotAt.eq_1
@[local simp] def zzK19V_56 := @isKi.eq_1
@[local simp] def zzK19V_57 := @isKi.eq_2
@[local simp] def zzK19V_58 := @isKi.eq_3
@[local simp] def zzK19V_59 := @isKi.eq_4
@[local simp] def zzK19V_60 := @isKi.eq_5
@[local simp] def zzK19V_61 := @isKi.eq_6
@[local simp] def zzK19V_62 := @isKi.eq_7
@[local simp] def zzK19V_63 := @isKi.eq_8
@[local simp] def zzK19V_64 := @outs.eq_1
@[local simp] def zzK19V_65 := @outs.eq_2
@[local simp] def zzK19V_66 := @outs.eq_3
@[local simp] def zzK19V_67 := @eq_int
@[local simp] def zzK19V_68 := @ne_int
@[local simp] def zzK19V_69 := @lt_int
@[local simp] def zzK19V_70 := @le_int
@[local simp] def zzK19V_71 := @gt_int
@[local simp] def zzK19V_72 := @ge_int
@[local simp] def zzK19V_73 := @add_int
@[local simp] def zzK19V_74 := @sub_int
@[local simp] def zzK19V_75 := @xor_int
@[local simp] def zzK19V_76 := @len_tup
@[local simp] def zzK19V_77 := @len_lst
@[local simp] def zzK19V_78 := @len_scr
@[local simp] def zzK19V_79 := @tuple_lst
@[local simp] def zzK19V_80 := @tuple_tup
@[local simp] def zzK19V_81 := @list_tup
@[local simp] def zzK19V_82 := @int_int
@[local simp] def zzK19V_83 := @int_bl
@[local simp] def zzK19V_84 := @min_int
@[local simp] def zzK19V_85 := @max_int
@[local simp] def zzK19V_86 := @ix0
@[local simp] def zzK19V_87 := @ix1
@[local simp] def zzK19V_88 := @ix2
@[local simp] def zzK19V_89 := @at0
@[local simp] def zzK19V_90 := @at1
@[local simp] def zzK19V_91 := @at2
@[local simp] def zzK19V_92 := @at3
@[local simp] def zzK19V_93 := @refs.eq_1
@[local simp] def zzK19V_94 := @refs.eq_2
@[local simp] def zzK19V_95 := @refs.eq_3
@[local simp] def zzK19V_96 := @resolve.eq_1
@[local simp] def zzK19V_97 := @resolve.eq_2
@[local simp] def zzK19V_98 := @resolve.eq_3
@[local simp] def zzK19V_99 := @putBack.eq_1
@[local simp] def zzK19V_100 := @putBack.eq_2
@[local simp] def zzK19V_101 := @putBack.eq_3
@[local simp] def zzK19V_102 := @putBack.eq_4
@[local simp] def zzK19V_103 := @putOwn.eq_1
@[local simp] def zzK19V_104 := @asgT.eq_1
@[local simp] def zzK19V_105 := @asgT.eq_2
@[local simp] def zzK19V_106 := @asgT.eq_3
@[local simp] def zzK19V_107 := @asgT.eq_4
@[local simp] def zzK19V_108 := @setV.eq_1
@[local simp] def zzK19V_109 := @setVs.eq_1
@[local simp] def zzK19V_110 := @setVs.eq_2
@[local simp] def zzK19V_111 := @setVs.eq_3
@[local simp] def zzK19V_112 := @wipeE.eq_1
@[local simp] def zzK19V_113 := @wipeE.eq_2
@[local simp] def zzK19V_114 := @backE.eq_1
@[local simp] def zzK19V_115 := @backE.eq_2
@[local simp] def zzK19V_116 := @noOwn.eq_1
@[local simp] def zzK19V_117 := @in_tups
@[local simp] def zzK19V_118 := @in_lsts
@[local simp] def zzK19V_119 := @nin_tups
@[local simp] def zzK19V_120 := @nin_lsts
@[local simp] def zzK19V_121 := @phi.eq_1
@[local simp] def zzK19V_122 := @gam.eq_1
abbrev bd (r c : Int) : D := .tup [.int r, .int c]
abbrev fl (xs : List Int) : D := .tup (xs.map .int)
structure Bd (r c : Int) : Prop where
  r2 : 2 ≤ r
  r5 : r ≤ 5
  c2 : 2 ≤ c
  c5 : c ≤ 5
theorem Bd.sm {r c : Int} (h : Bd r c) : small r = true ∧ small c = true ∧ small (r * c) = true := by
  obtain ⟨h1, h2, h3, h4⟩ := h
  have : r * c ≤ 5 * 5 := Int.mul_le_mul h2 h4 (by omega) (by omega)
  have : 0 ≤ r * c := Int.mul_nonneg (by omega) (by omega)
  unfold small
  refine ⟨decide_eq_true ?_, decide_eq_true ?_, decide_eq_true ?_⟩ <;> omega
theorem v_is_number (i lo hi : Int) : f_is_number [.v (.int i), .v (.int lo), .v (.int hi)] = some (.bl (decide (lo ≤ i) && decide (i ≤ hi)), [.v (.int i), .v (.int lo), .v (.int hi)]) := by
  unfold f_is_number b_is_number runF
  by_cases h : lo ≤ i <;> simp [h]
theorem v_many_sites {r c : Int} (h : small r = true) : f_many_sites [.v (bd r c)] = some (.int (r * c), [.v (bd r c)]) := by
  unfold f_many_sites b_many_sites runF
  simp [mul_int (.inl h)]
theorem v_need_board {r c : Int} (h : Bd r c) : f_need_board [.v (bd r c)] = some (.non, [.v (bd r c)]) := by
  obtain ⟨h1, h2, h3, h4⟩ := h
  have a2 := all_bls [true, true]
  simp at a2
  unfold f_need_board b_need_board runF
  simp [lcGo, l_need_board, g_need_board, v_is_number, LIM, h1, h2, h3, h4, a2]
theorem enm_get {xs : List Int} : ∀ {i s : Nat} {d : D}, (enmD s (xs.map .int))[i]? = some d → ∃ x, xs[i]? = some x ∧ d = .tup [.int ((s + i : Nat) : Int), .int x] := by
  induction xs with
  | nil => intro i s d h; simp [enmD] at h
  | cons y ys ih =>
    intro i s d h
    cases i with
    | zero => simp [enmD] at h; subst h; exact ⟨y, rfl, rfl⟩
    | succ i =>
      rw [List.map_cons, enmD, List.getElem?_cons_succ] at h
      obtain ⟨x, h1, h2⟩ := ih h
      exact ⟨x, by simpa using h1, by rw [h2, show s + 1 + i = s + (i + 1) by omega]⟩
theorem fl_at {xs : List Int} {k : Nat} {x : Int} (h : xs[k]? = some x) : evIx (fl xs) (.int (k : Int)) = some (.int x) := ix_tup (by rw [List.getElem?_map, h]; rfl)
theorem v_bad_place {xs : List Int} {m : Int} (hc : Can xs) (hb : Bel m xs) : f_bad_place [.v (fl xs), .v (.int m)] = some (.non, [.v (fl xs), .v (.int m)]) := by
  have key := forGo_inv (one := false) (t := [2, 3]) (body := fun e => evSs (gam g_bad_place) (phi l_bad_place) [.ife (.not (.call 0 [(.var 3), (.ife (.cmp .eq (.var 2) (.int 0)) (.int 0) (.op .add (.ix (.var 0) (.op .sub (.var 2) (.int 1))) (.int 1))), (.op .sub (.var 1) (.int 1))])) [.ret (.var 2)] []] e)
    (fun _ env => ∃ a b, env = [.val (fl xs), .val (.int m), a, b]) (ds := enmD 0 (xs.map .int)) (env := [.val (fl xs), .val (.int m), .none, .none]) 0 ⟨_, _, rfl⟩ fun i d env hi ⟨a, b, e⟩ => by
      obtain ⟨x, hx, rfl⟩ := enm_get hi
      subst e
      refine ⟨[.val (fl xs), .val (.int m), .val (.int ((0 + i : Nat) : Int)), .val (.int x)], [.val (fl xs), .val (.int m), .val (.int ((0 + i : Nat) : Int)), .val (.int x)], by simp, ?_, _, _, rfl⟩
      have hxb := hb x (List.mem_of_getElem? hx)
      have z2 : x ≤ m - 1 := by omega
      simp only [Nat.zero_add]
      cases i with
      | zero => simp [l_bad_place, v_is_number, hxb, z2]
      | succ i =>
        have hi2 := (List.getElem?_eq_some_iff.mp hx).1
        have hy : xs[i]? = some xs[i] := List.getElem?_eq_getElem (by omega)
        have hlt : xs[i] < x := by
          have := List.pairwise_iff_getElem.mp hc i (i + 1) (by omega) hi2 (by omega)
          rw [List.getElem?_eq_getElem hi2] at hx
          cases hx; exact this
        have z1 : xs[i] + 1 ≤ x := by omega
        have z3 : ¬ ((i : Int) + 1 = 0) := by omega
        have fa := fl_at hy
        have e1 : (((i : Nat) : Int) + 1 - 1) = (i : Int) := by omega
        simp [l_bad_place, v_is_number, z2, z3, fa, z1, e1]
  obtain ⟨env', e, a, b, rfl⟩ := key
  unfold f_bad_place b_bad_place runF
  simp at e ⊢
  rw [e]
  simp
theorem Bd.m {r c : Int} (h : Bd r c) : 4 ≤ r * c ∧ r * c ≤ 25 := by
  obtain ⟨h1, h2, h3, h4⟩ := h
  have a : r * c ≤ 5 * 5 := Int.mul_le_mul h2 h4 (by omega) (by omega)
  have b : 2 * 2 ≤ r * c := Int.mul_le_mul h1 h3 (by omega) (by omega)
  omega
/-- flips of a board -/
structure Fls (r c : Int) (xs : List Int) : Prop where
  can : Can xs
  bel : Bel (2 * (r * c)) xs
theorem v_need_flips {r c : Int} {xs : List Int} (h : Bd r c) (f : Fls r c xs) : f_need_flips [.v (bd r c), .v (fl xs)] = some (.non, [.v (bd r c), .v (fl xs)]) := by
  have hs := h.sm
  have h2 : small 2 = true := by decide
  have hb := v_bad_place f.can f.bel
  unfold f_need_flips b_need_flips runF
  simp [l_need_flips, v_many_sites hs.1, mul_int (.inl h2), hb, isNonD]
def rightI (c s : Int) : Int := s / c * c + (s % c + 1) % c
def belowI (r c s : Int) : Int := (s + c) % (r * c)
theorem v_right_of {r c s : Int} (h : Bd r c) : f_right_of [.v (bd r c), .v (.int s)] = some (.int (rightI c s), [.v (bd r c), .v (.int s)]) := by
  have hs := h.sm
  have h0 : 0 < c := by have := h.c2; omega
  have h1 : c < 1073741824 := by have := h.c5; omega
  unfold f_right_of b_right_of runF rightI
  simp [fdiv_int ⟨h0, h1⟩, mod_int h0, mul_int (.inr hs.2.1)]
theorem v_below {r c s : Int} (h : Bd r c) : f_below [.v (bd r c), .v (.int s)] = some (.int (belowI r c s), [.v (bd r c), .v (.int s)]) := by
  have hs := h.sm
  have h0 : 0 < r * c := by have := h.m; omega
  unfold f_below b_below runF belowI
  simp [l_below, v_many_sites hs.1, mod_int h0]
def otherI (r c e : Int) : Int := if e % 2 = 0 then rightI c (e / 2) else belowI r c (e / 2)
theorem v_ends_of {r c e : Int} (h : Bd r c) : f_ends_of [.v (bd r c), .v (.int e)] = some (fl [e / 2, otherI r c e], [.v (bd r c), .v (.int e)]) := by
  have k1 : evOp .fdiv (.int e) (.int 2) = some (.int (e / 2)) := fdiv_int (by decide)
  have k2 : evOp .mod (.int e) (.int 2) = some (.int (e % 2)) := mod_int (by decide)
  unfold f_ends_of b_ends_of runF otherI
  by_cases q : e % 2 = 0 <;> simp [l_ends_of, k1, k2, q, v_right_of h, v_below h, LIM]
def seamA (c e : Int) : Bool := decide (e % 2 = 0) && decide (e / 2 % c = c - 1)
def seamB (r c e : Int) : Bool := !decide (e % 2 = 0) && decide (e / 2 / c = r - 1)
def b2 (b : Bool) : Int := if b then 1 else 0
theorem v_seam_of {r c e : Int} (h : Bd r c) : f_seam_of [.v (bd r c), .v (.int e)] = some (bd (b2 (seamA c e)) (b2 (seamB r c e)), [.v (bd r c), .v (.int e)]) := by
  have h0 : 0 < c := by have := h.c2; omega
  have h1 : c < 1073741824 := by have := h.c5; omega
  have k1 : evOp .fdiv (.int e) (.int 2) = some (.int (e / 2)) := fdiv_int (by decide)
  have k2 : evOp .mod (.int e) (.int 2) = some (.int (e % 2)) := mod_int (by decide)
  unfold f_seam_of b_seam_of runF seamA seamB b2
  by_cases q : e % 2 = 0 <;> simp [k1, k2, q, fdiv_int ⟨h0, h1⟩, mod_int h0, LIM]
theorem v_both {xs ys : List Int} (h1 : xs.Nodup) (h2 : ys.Nodup) (l1 : xs.length ≤ 60) (l2 : ys.length ≤ 60) (l3 : (symI xs ys).length < 64) : f_both [.v (fl xs), .v (fl ys)] = some (fl (symI xs ys), [.v (fl xs), .v (fl ys)]) := by
  have k : evSx (fl xs) (fl ys) = some (.lst ((symI xs ys).map .int)) := by
    unfold evSx
    show (toInts (xs.map .int)).bind _ = _
    rw [toInts_map]
    show (toInts (ys.map .int)).bind _ = _
    rw [toInts_map]
    exact if_pos ⟨h1, h2, l1, l2, by omega, l3⟩
  unfold f_both b_both runF
  simp [k]
theorem xor_b2 (a b : Bool) : Builtin.bitXor (b2 a) (b2 b) = b2 (xor a b) := by cases a <;> cases b <;> decide
theorem v_crossed (a b a' b' : Bool) : f_crossed [.v (bd (b2 a) (b2 b)), .v (bd (b2 a') (b2 b'))] = some (bd (b2 (xor a a')) (b2 (xor b b')), [.v (bd (b2 a) (b2 b)), .v (bd (b2 a') (b2 b'))]) := by
  unfold f_crossed b_crossed runF
  simp [xor_b2, LIM]
/-! what is lit, the seams -/
theorem ends_ok {r c e : Int} (h : Bd r c) (h0 : 0 ≤ e) (h1 : e < 2 * (r * c)) : Bel (r * c) [e / 2, otherI r c e] ∧ ([e / 2, otherI r c e] : List Int).Nodup := by
  have a0 : 0 ≤ e / 2 := by omega
  have a1 : e / 2 < r * c := by omega
  have hb : 0 ≤ otherI r c e ∧ otherI r c e < r * c ∧ otherI r c e ≠ e / 2 := by
    obtain ⟨q1, q2, q3, q4⟩ := h
    unfold otherI rightI belowI
    generalize e / 2 = s at a0 a1 ⊢
    have hc : c = 2 ∨ c = 3 ∨ c = 4 ∨ c = 5 := by omega
    have hr : r = 2 ∨ r = 3 ∨ r = 4 ∨ r = 5 := by omega
    rcases hc with rfl | rfl | rfl | rfl <;> rcases hr with rfl | rfl | rfl | rfl <;> (simp only [Int.reduceMul, Int.reduceSub] at a1 ⊢; split <;> (refine ⟨?_, ?_, ?_⟩ <;> omega))
  refine ⟨fun x hx => ?_, ?_⟩
  · rcases List.mem_cons.mp hx with z | z
    · subst z; exact ⟨a0, a1⟩
    · rw [List.mem_singleton.mp z]; exact ⟨hb.1, hb.2.1⟩
  · simp [Ne.symm hb.2.2]
def litI (r c : Int) (xs : List Int) : List Int := xs.foldl (fun f e => symI f [e / 2, otherI r c e]) []
theorem lit_add (r c : Int) : ∀ (xs f : List Int), f.Nodup → (∀ e ∈ xs, ([e / 2, otherI r c e] : List Int).Nodup) → (Can f ∨ xs ≠ []) →
    Can (xs.foldl (fun f e => symI f [e / 2, otherI r c e]) f) ∧ ∀ k, decide (k ∈ xs.foldl (fun f e => symI f [e / 2, otherI r c e]) f) = xor (decide (k ∈ f)) (par (fun e => decide (k ∈ ([e / 2, otherI r c e] : List Int))) xs)
  | [], f, _, _, h => ⟨h.resolve_right (fun z => z rfl), fun k => by rw [List.foldl_nil, par, Bool.xor_false]⟩
  | e :: xs, f, hf, he, _ => by
    have hn := symI_nodup hf (he e List.mem_cons_self)
    obtain ⟨h1, h2⟩ := lit_add r c xs _ hn (fun x hx => he x (List.mem_cons_of_mem _ hx)) (.inl (can_of (symI_sorted _ _) hn))
    refine ⟨h1, fun k => ?_⟩
    rw [List.foldl_cons, h2 k, dec_sym, par, Bool.xor_assoc]
theorem lit_can {r c : Int} {xs : List Int} (h : Bd r c) (f : Bel (2 * (r * c)) xs) : Can (litI r c xs) := (lit_add r c xs [] List.nodup_nil (fun e he => (ends_ok h (f e he).1 (f e he).2).2) (.inl Can.nil)).1
theorem lit_mem {r c : Int} {xs : List Int} (h : Bd r c) (f : Bel (2 * (r * c)) xs) (k : Int) : decide (k ∈ litI r c xs) = par (fun e => decide (k ∈ ([e / 2, otherI r c e] : List Int))) xs := by
  have := (lit_add r c xs [] List.nodup_nil (fun e he => (ends_ok h (f e he).1 (f e he).2).2) (.inl Can.nil)).2 k
  have e0 : decide (k ∈ ([] : List Int)) = false := decide_eq_false (by simp)
  rw [e0, Bool.false_xor] at this
  exact this
theorem Bel.cons {n x : Int} {xs : List Int} (h : Bel n (x :: xs)) : 0 ≤ x ∧ x < n := h x List.mem_cons_self
theorem foldl_take {α β : Type} {g : α → β → α} {xs : List β} {i : Nat} {x : β} {a : α} (h : xs[i]? = some x) : (xs.take (i + 1)).foldl g a = g ((xs.take i).foldl g a) x := by
  rw [List.take_succ, h, List.foldl_append]; rfl
theorem Bel.take {n : Int} {xs : List Int} (h : Bel n xs) (i : Nat) : Bel n (xs.take i) := fun x hx => h x (List.mem_of_mem_take hx)
theorem lit_bel {r c : Int} (h : Bd r c) : ∀ (xs f : List Int), Bel (r * c) f → Bel (2 * (r * c)) xs → Bel (r * c) (xs.foldl (fun f e => symI f [e / 2, otherI r c e]) f)
  | [], f, hf, _ => hf
  | e :: xs, f, hf, hx => lit_bel h xs _ (hf.sym (ends_ok h hx.cons.1 hx.cons.2).1) fun x q => hx x (List.mem_cons_of_mem _ q)
theorem Bd.n {r c : Int} (h : Bd r c) : ∃ n : Nat, r * c = n ∧ n ≤ 25 := ⟨(r * c).toNat, by have := h.m; omega, by have := h.m; omega⟩
theorem Bel.len {r c : Int} (h : Bd r c) {xs : List Int} (hc : Can xs) (hb : Bel (r * c) xs) : xs.length ≤ 25 := by
  obtain ⟨n, e, hn⟩ := h.n
  rw [e] at hb
  exact Nat.le_trans (hc.len hb) hn
theorem Fls.len {r c : Int} (h : Bd r c) {xs : List Int} (f : Fls r c xs) : xs.length ≤ 50 := by
  obtain ⟨n, e, hn⟩ := h.n
  have : Bel ((2 * n : Nat) : Int) xs := by have := f.bel; rw [e] at this; simpa using this
  have := f.can.len this
  omega
theorem map_get {xs : List Int} {i : Nat} {d : D} (h : (xs.map D.int)[i]? = some d) : ∃ x, xs[i]? = some x ∧ d = .int x := by
  rw [List.getElem?_map] at h
  obtain ⟨x, h1, h2⟩ := Option.map_eq_some_iff.mp h
  exact ⟨x, h1, h2.symm⟩
theorem v_lit_by {r c : Int} {xs : List Int} (h : Bd r c) (f : Fls r c xs) : f_lit_by [.v (bd r c), .v (fl xs)] = some (fl (litI r c xs), [.v (bd r c), .v (fl xs)]) := by
  have key := forGo_inv (one := true) (t := [3]) (body := fun e => evSs (gam g_lit_by) (phi l_lit_by) [.asg1 2 (.call 0 [(.var 2), (.call 1 [(.var 0), (.var 3)])])] e)
    (fun k env => ∃ a, env = [.val (bd r c), .val (fl xs), .val (fl (litI r c (xs.take k))), a]) (ds := xs.map .int) (env := [.val (bd r c), .val (fl xs), .val (.tup []), .none]) 0 ⟨_, rfl⟩ fun i d env hi ⟨a, e⟩ => by
      obtain ⟨x, hx, rfl⟩ := map_get hi
      subst e
      refine ⟨[.val (bd r c), .val (fl xs), .val (fl (litI r c (xs.take (0 + i)))), .val (.int x)], [.val (bd r c), .val (fl xs), .val (fl (litI r c (xs.take (0 + i + 1)))), .val (.int x)], by simp, ?_, _, rfl⟩
      simp only [Nat.zero_add]
      have hxb := f.bel x (List.mem_of_getElem? hx)
      obtain ⟨q1, q2⟩ := ends_ok h hxb.1 hxb.2
      have hb := lit_bel h (xs.take i) [] (fun x hx => by cases hx) (f.bel.take i)
      have hcn := lit_can h (f.bel.take i)
      have hl := hb.len h hcn
      have hcs : Can (symI (litI r c (xs.take i)) [x / 2, otherI r c x]) := can_of (symI_sorted _ _) (symI_nodup hcn.nd q2)
      have hl2 := (Bel.sym hb q1).len h hcs
      have vb := v_both hcn.nd q2 (by omega) (by simp) (by omega)
      have et : litI r c (xs.take (i + 1)) = symI (litI r c (xs.take i)) [x / 2, otherI r c x] := foldl_take hx
      rw [et]
      simp [l_lit_by, v_ends_of h, vb]
  obtain ⟨env', e, a, rfl⟩ := key
  have el : xs.take (0 + (xs.map D.int).length) = xs := by rw [Nat.zero_add, List.length_map, List.take_length]
  rw [el] at e
  unfold f_lit_by b_lit_by runF
  simp [LIM] at e ⊢
  rw [e]
  simp
def seamsI (r c : Int) (xs : List Int) : D := bd (b2 (par (seamA c) xs)) (b2 (par (seamB r c) xs))
theorem par_take {f : Int → Bool} {xs : List Int} {i : Nat} {x : Int} (h : xs[i]? = some x) : par f (xs.take (i + 1)) = xor (par f (xs.take i)) (f x) := by
  rw [List.take_succ, h, par_append]
  simp [par]
theorem v_seams_by {r c : Int} {xs : List Int} (h : Bd r c) : f_seams_by [.v (bd r c), .v (fl xs)] = some (seamsI r c xs, [.v (bd r c), .v (fl xs)]) := by
  have key := forGo_inv (one := true) (t := [3]) (body := fun e => evSs (gam g_seams_by) (phi l_seams_by) [.asg1 2 (.call 0 [(.var 2), (.call 1 [(.var 0), (.var 3)])])] e)
    (fun k env => ∃ a, env = [.val (bd r c), .val (fl xs), .val (seamsI r c (xs.take k)), a]) (ds := xs.map .int) (env := [.val (bd r c), .val (fl xs), .val (bd 0 0), .none]) 0 ⟨_, rfl⟩ fun i d env hi ⟨a, e⟩ => by
      obtain ⟨x, hx, rfl⟩ := map_get hi
      subst e
      refine ⟨[.val (bd r c), .val (fl xs), .val (seamsI r c (xs.take (0 + i))), .val (.int x)], [.val (bd r c), .val (fl xs), .val (seamsI r c (xs.take (0 + i + 1))), .val (.int x)], by simp, ?_, _, rfl⟩
      simp only [Nat.zero_add]
      have vc := v_crossed (par (seamA c) (xs.take i)) (par (seamB r c) (xs.take i)) (seamA c x) (seamB r c x)
      unfold seamsI
      rw [par_take hx, par_take hx]
      simp [l_seams_by, v_seam_of h, vc]
  obtain ⟨env', e, a, rfl⟩ := key
  have el : xs.take (0 + (xs.map D.int).length) = xs := by rw [Nat.zero_add, List.length_map, List.take_length]
  rw [el] at e
  unfold f_seams_by b_seams_by runF
  simp [LIM] at e ⊢
  rw [e]
  simp
theorem v_checks {r c : Int} {xs : List Int} (h : Bd r c) (f : Fls r c xs) : f_checks [.v (bd r c), .v (fl xs)] = some (fl (litI r c xs), [.v (bd r c), .v (fl xs)]) := by
  unfold f_checks b_checks runF
  simp [l_checks, v_need_board h, v_need_flips h f, v_lit_by h f]
theorem v_seams {r c : Int} {xs : List Int} (h : Bd r c) (f : Fls r c xs) : f_seams [.v (bd r c), .v (fl xs)] = some (seamsI r c xs, [.v (bd r c), .v (fl xs)]) := by
  unfold f_seams b_seams runF
  simp [l_seams, v_need_board h, v_need_flips h f, v_seams_by h]
theorem Fls.sym {r c : Int} {xs ys : List Int} (f : Fls r c xs) (g : Fls r c ys) : Fls r c (symI xs ys) := ⟨can_sym f.can g.can, f.bel.sym g.bel⟩
theorem v_after {r c : Int} {xs ys : List Int} (h : Bd r c) (f : Fls r c xs) (g : Fls r c ys) : f_after [.v (bd r c), .v (fl xs), .v (fl ys)] = some (fl (symI xs ys), [.v (bd r c), .v (fl xs), .v (fl ys)]) := by
  have l1 := f.len h
  have l2 := g.len h
  have l3 := (f.sym g).len h
  have vb := v_both f.can.nd g.can.nd (by omega) (by omega) (by omega)
  unfold f_after b_after runF
  simp [l_after, v_need_board h, v_need_flips h f, v_need_flips h g, vb]
end Sb

namespace Sb
open PySem L2
@[local simp] def zzK19W_0 := @startE.eq_1
@[local simp] def zzK19W_1 := @argSlot.eq_1
@[local simp] def zzK19W_2 := @argSlot.eq_2
@[local simp] def zzK19W_3 := @evSs.eq_1
@[local simp] def zzK19W_4 := @evSs.eq_2
@[local simp] def zzK19W_5 := @evS.eq_1
@[local simp] def zzK19W_6 := @evS.eq_2
@[local simp] def zzK19W_7 := @evS.eq_3
@[local simp] def zzK19W_8 := @evS.eq_4
@[local simp] def zzK19W_9 := @evS.eq_5
@[local simp] def zzK19W_10 := @evS.eq_6
@[local simp] def zzK19W_11 := @evS.eq_7
@[local simp] def zzK19W_12 := @evS.eq_8
@[local simp] def zzK19W_13 := @evS.eq_9
@[local simp] def zzK19W_14 := @evS.eq_10
@[local simp] def zzK19W_15 := @evS.eq_11
@[local simp] def zzK19W_16 := @evS.eq_12
@[local simp] def zzK19W_17 := @evS.eq_13
@[local simp] def zzK19W_18 := @evS.eq_14
@[local simp] def zzK19W_19 := @evE.eq_1
@[local simp] def zzK19W_20 := @evE.eq_2
@[local simp] def zzK19W_21 := @evE.eq_3
@[local simp] def zzK19W_22 := @evE.eq_4
@[local simp] def zzK19W_23 := @evE.eq_5
@[local simp] def zzK19W_24 := @evE.eq_6
@[local simp] def zzK19W_25 := @evE.eq_7
@[local simp] def zzK19W_26 := @evE.eq_8
@[local simp] def zzK19W_27 := @evE.eq_9
@[local simp] def zzK19W_28 := @evE.eq_10
@[local simp] def zzK19W_29 := @evE.eq_11
@[local simp] def zzK19W_30 := @evE.eq_12
@[local simp] def zzK19W_31 := @evE.eq_13
@[local simp] def zzK19W_32 := @evE.eq_14
@[local simp] def zzK19W_33 := @evE.eq_15
@[local simp] def zzK19W_34 := @evE.eq_16
@[local simp] def zzK19W_35 := @evE.eq_17
@[local simp] def zzK19W_36 := @evE.eq_18
@[local simp] def zzK19W_37 := @evE.eq_19
@[local simp] def zzK19W_38 := @evE.eq_20
@[local simp] def zzK19W_39 := @evE.eq_21
@[local simp] def zzK19W_40 := @evE.eq_22
@[local simp] def zzK19W_41 := @evE.eq_23
@[local simp] def zzK19W_42 := @evE.eq_24
@[local simp] def zzK19W_43 := @evE.eq_25
@[local simp] def zzK19W_44 := @evE.eq_26
@[local simp] def zzK19W_45 := @evE.eq_27
@[local simp] def zzK19W_46 := @evE.eq_28
@[local simp] def zzK19W_47 := @evB.eq_1
@[local simp] def zzK19W_48 := @evB.eq_2
@[local simp] def zzK19W_49 := @evL.eq_1
@[local simp] def zzK19W_50 := @evL.eq_2
@[local simp] def zzK19W_51 := @evA.eq_1
@[local simp] def zzK19W_52 := @evA.eq_2
@[local simp] def zzK19W_53 := @asRef.eq_1
@[local simp] def zzK19W_54 := @asRef.eq_2
@[local simp] def zzK19W_55 := @slotAt.eq_1
@[local simp] def zzK19W_56 := @isKi.eq_1
@[local simp] def zzK19W_57 := @isKi.eq_2
@[local simp] def zzK19W_58 := @isKi.eq_3
@[local simp] def zzK19W_59 := @isKi.eq_4
@[local simp] def zzK19W_60 := @isKi.eq_5
@[local simp] def zzK19W_61 := @isKi.eq_6
@[local simp] def zzK19W_62 := @isKi.eq_7
@[local simp] def zzK19W_63 := @isKi.eq_8
@[local simp] def zzK19W_64 := @outs.eq_1
@[local simp] def zzK19W_65 := @outs.eq_2
@[local simp] def zzK19W_66 := @outs.eq_3
@[local simp] def zzK19W_67 := @eq_int
@[local simp] def zzK19W_68 := @ne_int
@[local simp] def zzK19W_69 := @lt_int
@[local simp] def zzK19W_70 := @le_int
@[local simp] def zzK19W_71 := @gt_int
@[local simp] def zzK19W_72 := @ge_int
@[local simp] def zzK19W_73 := @add_int
@[local simp] def zzK19W_74 := @sub_int
@[local simp] def zzK19W_75 := @xor_int
@[local simp] def zzK19W_76 := @len_tup
@[local simp] def zzK19W_77 := @len_lst
@[local simp] def zzK19W_78 := @len_scr
@[local simp] def zzK19W_79 := @tuple_lst
@[local simp] def zzK19W_80 := @tuple_tup
@[local simp] def zzK19W_81 := @list_tup
@[local simp] def zzK19W_82 := @int_int
@[local simp] def zzK19W_83 := @int_bl
@[local simp] def zzK19W_84 := @min_int
@[local simp] def zzK19W_85 := @max_int
@[local simp] def zzK19W_86 := @ix0
@[local simp] def zzK19W_87 := @ix1
@[local simp] def zzK19W_88 := @ix2
@[local simp] def zzK19W_89 := @at0
@[local simp] def zzK19W_90 := @at1
@[local simp] def zzK19W_91 := @at2
@[local simp] def zzK19W_92 := @at3
@[local simp] def zzK19W_93 := @refs.eq_1
@[local simp] def zzK19W_94 := @refs.eq_2
@[local simp] def zzK19W_95 := @refs.eq_3
@[local simp] def zzK19W_96 := @resolve.eq_1
@[local simp] def zzK19W_97 := @resolve.eq_2
@[local simp] def zzK19W_98 := @resolve.eq_3
@[local simp] def zzK19W_99 := @putBack.eq_1
@[local simp] def zzK19W_100 := @putBack.eq_2
@[local simp] def zzK19W_101 := @putBack.eq_3
@[local simp] def zzK19W_102 := @putBack.eq_4
@[local simp] def zzK19W_103 := @putOwn.eq_1
@[local simp] def zzK19W_104 := @asgT.eq_1
@[local simp] def zzK19W_105 := @asgT.eq_2
@[local simp] def zzK19W_106 := @asgT.eq_3
@[local simp] def zzK19W_107 := @asgT.eq_4
@[local simp] def zzK19W_108 := @setV.eq_1
@[local simp] def zzK19W_109 := @setVs.eq_1
@[local simp] def zzK19W_110 := @setVs.eq_2
@[local simp] def zzK19W_111 := @setVs.eq_3
@[local simp] def zzK19W_112 := @wipeE.eq_1
@[local simp] def zzK19W_113 := @wipeE.eq_2
@[local simp] def zzK19W_114 := @backE.eq_1
@[local simp] def zzK19W_115 := @backE.eq_2
@[local simp] def zzK19W_116 := @noOwn.eq_1
@[local simp] def zzK19W_117 := @in_tups
@[local simp] def zzK19W_118 := @in_lsts
@[local simp] def zzK19W_119 := @nin_tups
@[local simp] def zzK19W_120 := @nin_lsts
@[local simp] def zzK19W_121 := @phi.eq_1
@[local simp] def zzK19W_122 := @gam.eq_1
/-- the row that draws -/
def RowOk (d : D) : Prop := ∃ (ns : List Int) (p s c : Int), d = .lst [.scr ns, .int p, .int s, .int c] ∧ 0 ≤ p ∧ 0 ≤ s ∧ s < 2147483647
theorem ixN_nat {n k : Nat} (h : k < n) : ixN n (k : Int) = some k := by
  unfold ixN
  rw [if_pos (Int.natCast_nonneg k), if_pos (by omega)]; rfl
theorem n1 : ixN 4 1 = some 1 := ixN_nat (k := 1) (by decide)
theorem n2 : ixN 4 2 = some 2 := ixN_nat (k := 2) (by decide)
theorem n3 : ixN 4 3 = some 3 := ixN_nat (k := 3) (by decide)
theorem v_taken {row : D} {m : Int} (h : RowOk row) (h1 : 1 ≤ m) (h2 : m < 1073741824) : ∃ x row', f_law_taken [.o .lst row, .v (.int m)] = some (.int x, [.o .lst row', .v (.int m)]) ∧ RowOk row' ∧ 0 ≤ x ∧ x < m := by
  obtain ⟨ns, p, s, c, rfl, hp, hs, hs2⟩ := h
  have k1 : ∀ i : Int, evOp .mod (.int i) (.int m) = some (.int (i % m)) := fun i => mod_int (by omega)
  have k2 : ∀ i : Int, evOp .fdiv (.int i) (.int m) = some (.int (i / m)) := fun i => fdiv_int ⟨by omega, h2⟩
  have k3 : ∀ i : Int, evOp .mod (.int i) (.int 2147483647) = some (.int (i % 2147483647)) := fun i => mod_int (by decide)
  have k4 : ∀ i : Int, evOp .fdiv (.int i) (.int 7) = some (.int (i / 7)) := fun i => fdiv_int (by decide)
  have k5 : evOp .mul (.int s) (.int 48271) = some (.int (s * 48271)) := mul_int (.inr (by decide))
  have k6 : evOp .pow (.int 10) (.int 18) = some (.int (10 ^ 18)) := pow_int (by decide)
  have m1 : ∀ i : Int, 0 ≤ i % m ∧ i % m < m := fun i => ⟨Int.emod_nonneg _ (by omega), Int.emod_lt_of_pos _ (by omega)⟩
  have m2 : ∀ i : Int, 0 ≤ i % 2147483647 ∧ i % 2147483647 < 2147483647 := fun i => ⟨Int.emod_nonneg _ (by omega), Int.emod_lt_of_pos _ (by omega)⟩
  by_cases q1 : 0 < c
  · refine ⟨c % m, .lst [.scr ns, .int p, .int s, .int (c / m)], ?_, ⟨ns, p, s, _, rfl, hp, hs, hs2⟩, (m1 c).1, (m1 c).2⟩
    unfold f_law_taken b_law_taken runF
    simp [q1, k1, k2, n3]
  · by_cases q2 : (ns.length : Int) < p + 1
    · refine ⟨(s * 48271 + 11) % 2147483647 / 7 % m, .lst [.scr ns, .int (p + 1), .int ((s * 48271 + 11) % 2147483647), .int c], ?_, ⟨ns, _, _, _, rfl, by omega, (m2 _).1, (m2 _).2⟩, (m1 _).1, (m1 _).2⟩
      unfold f_law_taken b_law_taken runF
      simp [q1, q2, k1, k2, k3, k4, k5, n1, n2, n3]
    · obtain ⟨k, rfl⟩ : ∃ k : Nat, p = k := ⟨p.toNat, by omega⟩
      have hk : k < ns.length := by omega
      have e1 : (k : Int) + 1 - 1 = (k : Int) := by omega
      have hix : evIx (.scr ns) (.int (k : Int)) = some (.int ns[k]) := ix_scr (List.getElem?_eq_getElem hk)
      by_cases q3 : (10 : Int) ^ 18 ≤ ns[k]
      · refine ⟨ns[k] % m, .lst [.scr ns, .int ((k : Int) + 1), .int ((s * 48271 + ns[k] + 11) % 2147483647), .int (ns[k] / m)], ?_, ⟨ns, _, _, _, rfl, by omega, (m2 _).1, (m2 _).2⟩, (m1 _).1, (m1 _).2⟩
        unfold f_law_taken b_law_taken runF
        simp at q3
        simp [q1, q2, q3, k1, k2, k3, k4, k5, k6, n1, n2, n3, hix, e1]
      · refine ⟨ns[k] % m, .lst [.scr ns, .int ((k : Int) + 1), .int ((s * 48271 + ns[k] + 11) % 2147483647), .int c], ?_, ⟨ns, _, _, _, rfl, by omega, (m2 _).1, (m2 _).2⟩, (m1 _).1, (m1 _).2⟩
        unfold f_law_taken b_law_taken runF
        have q4 : ¬ ((1000000000000000000 : Int) ≤ ns[k]) := by
          have : (10 : Int) ^ 18 = 1000000000000000000 := by decide
          omega
        simp [q1, q2, q4, k1, k2, k3, k4, k5, k6, n1, n2, n3, hix, e1]
theorem v_board {row : D} (h : RowOk row) : ∃ r c row', f_law_board [.o .lst row, .v (.int 5)] = some (bd r c, [.o .lst row', .v (.int 5)]) ∧ RowOk row' ∧ Bd r c := by
  obtain ⟨x, row1, e1, h1, x0, x1⟩ := v_taken h (m := 4) (by decide) (by decide)
  obtain ⟨y, row2, e2, h2, y0, y1⟩ := v_taken h1 (m := 4) (by decide) (by decide)
  refine ⟨2 + x, 2 + y, row2, ?_, h2, ⟨by omega, by omega, by omega, by omega⟩⟩
  unfold f_law_board b_law_board runF
  simp [l_law_board, e1, e2, LIM]
theorem rep_0 (x : D) : evOp .mul (.lst [x]) (.int 0) = some (.lst []) := by
  show (repn [x] 0).map D.lst = _
  unfold repn
  rw [if_pos (by refine ⟨by decide, by decide, ?_⟩; show 1 * 0 ≤ LIM; decide)]; rfl
theorem rep_1 (x : D) : evOp .mul (.lst [x]) (.int 1) = some (.lst [x]) := by
  show (repn [x] 1).map D.lst = _
  unfold repn
  rw [if_pos (by refine ⟨by decide, by decide, ?_⟩; show 1 * 1 ≤ LIM; decide)]; rfl
theorem v_some {row : D} {many most : Int} (h : RowOk row) (h1 : 1 ≤ many) (h2 : many ≤ 1000) (h3 : 0 ≤ most) (h4 : most ≤ 60) :
    ∃ xs row', f_law_some [.o .lst row, .v (.int many), .v (.int most)] = some (fl xs, [.o .lst row', .v (.int many), .v (.int most)]) ∧ RowOk row' ∧ Can xs ∧ Bel many xs ∧ xs.length ≤ 60 := by
  obtain ⟨n, row1, e1, g1, n0, n1'⟩ := v_taken h (m := (if most < many then most else many) + 1) (by split <;> omega) (by split <;> omega)
  have hn : n ≤ 60 := by
    have : (if most < many then most else many) ≤ 60 := by split <;> omega
    omega
  have hr : inR n = true := decide_eq_true (by constructor <;> omega)
  have key := forGo_inv (one := true) (t := [4]) (body := fun e => evSs (gam g_law_some) (phi l_law_some) [.asg1 5 (.call 0 [(.ref 0), (.var 1)]), .asg1 3 (.op .add (.var 3) (.op .mul (.lst [(.var 5)]) (.bi .int [(.cmp .notin (.var 5) (.var 3))])))] e)
    (fun k env => ∃ row xs a b, env = [.own .lst true row, .val (.int many), .val (.int most), .val (.lst (xs.map .int)), a, b] ∧ RowOk row ∧ xs.Nodup ∧ Bel many xs ∧ xs.length ≤ k) (ds := rngD 0 n.toNat) (env := [.own .lst true row1, .val (.int many), .val (.int most), .val (.lst []), .none, .none]) 0
    ⟨row1, [], _, _, rfl, g1, List.nodup_nil, (fun x hx => (by cases hx)), Nat.le_refl _⟩ fun i d env hi ⟨row, xs, a, b, e, gr, gn, gb, gl⟩ => by
      subst e
      obtain ⟨x, row2, e2, g2, x0, x1⟩ := v_taken gr (m := many) h1 (by omega)
      have hil : i < n.toNat := by
        have := (List.getElem?_eq_some_iff.mp hi).1
        rwa [rngD_length] at this
      have hL : xs.length + 1 ≤ LIM := by
        have : LIM = 100000 := rfl
        omega
      have ka := add_lsts (xs := xs.map D.int) (ys := [D.int x]) (by rw [List.length_map]; exact hL)
      have kb := add_lsts (xs := xs.map D.int) (ys := []) (by rw [List.length_map]; exact Nat.le_of_succ_le hL)
      refine ⟨[.own .lst true row, .val (.int many), .val (.int most), .val (.lst (xs.map .int)), .val d, b], [.own .lst true row2, .val (.int many), .val (.int most), .val (.lst ((if x ∈ xs then xs else xs ++ [x]).map .int)), .val d, .val (.int x)], by simp, ?_, row2, if x ∈ xs then xs else xs ++ [x], _, _, rfl, g2, ?_, ?_, ?_⟩
      · by_cases q : x ∈ xs
        · rw [List.append_nil] at kb
          simp [l_law_some, e2, LIM, q, rep_0, kb]
        · simp [l_law_some, e2, LIM, q, rep_1, ka]
      · by_cases q : x ∈ xs
        · rw [if_pos q]; exact gn
        · rw [if_neg q, List.nodup_append]
          exact ⟨gn, by simp, fun y hy z hz e => by rw [List.mem_singleton.mp hz] at e; exact q (e ▸ hy)⟩
      · by_cases q : x ∈ xs
        · rw [if_pos q]; exact gb
        · rw [if_neg q]
          intro y hy
          rcases List.mem_append.mp hy with z | z
          · exact gb y z
          · rw [List.mem_singleton.mp z]; exact ⟨x0, x1⟩
      · by_cases q : x ∈ xs
        · rw [if_pos q]; omega
        · rw [if_neg q, List.length_append, List.length_singleton]; omega
  obtain ⟨env', e, row3, xs, a, b, rfl, g3, gn, gb, gl⟩ := key
  have hl : xs.length ≤ 60 := by rw [rngD_length] at gl; omega
  refine ⟨sortI xs, row3, ?_, g3, can_sort gn, fun x hx => gb x (mem_sort.mp hx), by rw [(sortI_perm xs).length_eq]; exact hl⟩
  have ks := sorted_ints (xs := xs) (by omega)
  unfold f_law_some b_law_some runF
  simp [l_law_some, LIM, e1, hr] at e ⊢
  rw [e]
  simp [ks]
end Sb

namespace Sb
open PySem L2
@[local simp] def zzK19X_0 := @startE.eq_1
@[local simp] def zzK19X_1 := @argSlot.eq_1
@[local simp] def zzK19X_2 := @argSlot.eq_2
@[local simp] def zzK19X_3 := @evSs.eq_1
@[local simp] def zzK19X_4 := @evSs.eq_2
@[local simp] def zzK19X_5 := @evB.eq_1
@[local simp] def zzK19X_6 := @evB.eq_2
@[local simp] def zzK19X_7 := @evL.eq_1
@[local simp] def zzK19X_8 := @evL.eq_2
@[local simp] def zzK19X_9 := @evA.eq_1
@[local simp] def zzK19X_10 := @evA.eq_2
@[local simp] def zzK19X_11 := @asRef.eq_1
@[local simp] def zzK19X_12 := @asRef.eq_2
@[local simp] def zzK19X_13 := @slotAt.eq_1
@[local simp] def zzK19X_14 := @isKi.eq_1
@[local simp] def zzK19X_15 := @isKi.eq_2
@[local simp] def zzK19X_16 := @isKi.eq_3
@[local simp] def zzK19X_17 := @isKi.eq_4
@[local simp] def zzK19X_18 := @isKi.eq_5
@[local simp] def zzK19X_19 := @isKi.eq_6
@[local simp] def zzK19X_20 := @isKi.eq_7
@[local simp] def zzK19X_21 := @isKi.eq_8
@[local simp] def zzK19X_22 := @outs.eq_1
@[local simp] def zzK19X_23 := @outs.eq_2
@[local simp] def zzK19X_24 := @outs.eq_3
@[local simp] def zzK19X_25 := @eq_int
@[local simp] def zzK19X_26 := @ne_int
@[local simp] def zzK19X_27 := @lt_int
@[local simp] def zzK19X_28 := @le_int
@[local simp] def zzK19X_29 := @gt_int
@[local simp] def zzK19X_30 := @ge_int
@[local simp] def zzK19X_31 := @add_int
@[local simp] def zzK19X_32 := @sub_int
@[local simp] def zzK19X_33 := @xor_int
@[local simp] def zzK19X_34 := @len_tup
@[local simp] def zzK19X_35 := @len_lst
@[local simp] def zzK19X_36 := @len_scr
@[local simp] def zzK19X_37 := @tuple_lst
@[local simp] def zzK19X_38 := @tuple_tup
@[local simp] def zzK19X_39 := @list_tup
@[local simp] def zzK19X_40 := @int_int
@[local simp] def zzK19X_41 := @int_bl
@[local simp] def zzK19X_42 := @min_int
@[local simp] def zzK19X_43 := @max_int
@[local simp] def zzK19X_44 := @ix0
@[local simp] def zzK19X_45 := @ix1
@[local simp] def zzK19X_46 := @ix2
@[local simp] def zzK19X_47 := @at0
@[local simp] def zzK19X_48 := @at1
@[local simp] def zzK19X_49 := @at2
@[local simp] def zzK19X_50 := @at3
@[local simp] def zzK19X_51 := @refs.eq_1
@[local simp] def zzK19X_52 := @refs.eq_2
@[local simp] def zzK19X_53 := @refs.eq_3
@[local simp] def zzK19X_54 := @resolve.eq_1
@[local simp] def zzK19X_55 := @resolve.eq_2
@[local simp] def zzK19X_56 := @resolve.eq_3
@[local simp] def zzK19X_57 := @putBack.eq_1
@[local simp] def zzK19X_58 := @putBack.eq_2
@[local simp] def zzK19X_59 := @putBack.eq_3
@[local simp] def zzK19X_60 := @putBack.eq_4
@[local simp] def zzK19X_61 := @putOwn.eq_1
@[local simp] def zzK19X_62 := @asgT.eq_1
@[local simp] def zzK19X_63 := @asgT.eq_2
@[local simp] def zzK19X_64 := @asgT.eq_3
@[local simp] def zzK19X_65 := @asgT.eq_4
@[local simp] def zzK19X_66 := @setV.eq_1
@[local simp] def zzK19X_67 := @setVs.eq_1
@[local simp] def zzK19X_68 := @setVs.eq_2
@[local simp] def zzK19X_69 := @setVs.eq_3
@[local simp] def zzK19X_70 := @noOwn.eq_1
@[local simp] def zzK19X_71 := @in_tups
@[local simp] def zzK19X_72 := @in_lsts
@[local simp] def zzK19X_73 := @nin_tups
@[local simp] def zzK19X_74 := @nin_lsts
@[local simp] def zzK19X_75 := @phi.eq_1
@[local simp] def zzK19X_76 := @gam.eq_1
@[local simp] def zzK19X_77 := @e_var
@[local simp] def zzK19X_78 := @e_int
@[local simp] def zzK19X_79 := @e_bl
@[local simp] def zzK19X_80 := @e_non
@[local simp] def zzK19X_81 := @e_str
@[local simp] def zzK19X_82 := @e_glo
@[local simp] def zzK19X_83 := @e_op
@[local simp] def zzK19X_84 := @e_neg
@[local simp] def zzK19X_85 := @e_cmp
@[local simp] def zzK19X_86 := @e_cmp2
@[local simp] def zzK19X_87 := @e_isN
@[local simp] def zzK19X_88 := @e_bop
@[local simp] def zzK19X_89 := @e_not
@[local simp] def zzK19X_90 := @e_ife
@[local simp] def zzK19X_91 := @e_tup
@[local simp] def zzK19X_92 := @e_lst
@[local simp] def zzK19X_93 := @e_ix
@[local simp] def zzK19X_94 := @e_call
@[local simp] def zzK19X_95 := @e_bi
@[local simp] def zzK19X_96 := @e_mt
@[local simp] def zzK19X_97 := @e_isi
@[local simp] def zzK19X_98 := @e_sx
@[local simp] def zzK19X_99 := @e_oix
@[local simp] def zzK19X_100 := @e_rng
@[local simp] def zzK19X_101 := @e_enm
@[local simp] def zzK19X_102 := @e_seq
@[local simp] def zzK19X_103 := @s_asg
@[local simp] def zzK19X_104 := @s_asg1
@[local simp] def zzK19X_105 := @s_par
@[local simp] def zzK19X_106 := @s_own
@[local simp] def zzK19X_107 := @s_ex
@[local simp] def zzK19X_108 := @s_ifeS
@[local simp] def zzK19X_109 := @s_ret
@[local simp] def zzK19X_110 := @s_retN
@[local simp] def zzK19X_111 := @s_never
@[local simp] def zzK19X_112 := @s_oset
@[local simp] def zzK19X_113 := @s_app
@[local simp] def zzK19X_114 := @count_ints
theorem rng_mem {n : Nat} {d : D} (h : d ∈ rngD 0 n) : ∃ k : Nat, k < n ∧ d = .int (k : Int) := by
  unfold rngD at h
  obtain ⟨k, hk, rfl⟩ := List.mem_map.mp h
  exact ⟨k, List.mem_range.mp hk, by simp⟩
/-- what is put on to the list: a line of seams -/
theorem ints_of_rng (g : Int → Int) (n : Nat) : ∃ ys : List Int, ((rngD 0 n).filter fun _ => true).map (fun d => match d with | .int k => D.int (g k) | _ => .non) = ys.map .int ∧ ys.length = n := by
  refine ⟨(List.range n).map fun (k : Nat) => g (0 + (k : Int)), ?_, by simp⟩
  rw [List.filter_eq_self.mpr (fun _ _ => rfl)]
  unfold rngD
  rw [List.map_map, List.map_map]
  exact List.map_congr_left fun k _ => rfl

theorem pf0 : phi l_law_flips 0 = f_law_some := rfl
theorem pf1 : phi l_law_flips 1 = f_law_taken := rfl
theorem v_lineA {row : D} {r c m : Int} {zs : List Int} {a : Slot} (h : RowOk row) (hb : Bd r c) (hz : zs.length ≤ 90) :
    ∃ (row' : D) (zs' : List Int) (a' : Slot), evS (gam g_law_flips) (phi l_law_flips) (.ife (.cmp .eq (.call 1 [(.ref 0), (.int 4)]) (.int 0)) [.asg1 4 (.call 1 [(.ref 0), (.ix (.var 1) (.int 0))]), .asg1 3 (.op .add (.var 3) (.lc [6] [6] (.rng [(.ix (.var 1) (.int 1))]) (.bl true) (.op .mul (.int 2) (.op .add (.op .mul (.var 4) (.ix (.var 1) (.int 1))) (.var 6)))))] []) [.own .lst true row, .val (bd r c), .val (.int m), .val (.lst (zs.map .int)), a, .none, .none] =
      some (.nx [.own .lst true row', .val (bd r c), .val (.int m), .val (.lst (zs'.map .int)), a', .none, .none]) ∧ RowOk row' ∧ zs'.length ≤ zs.length + 5 := by
  obtain ⟨q1, q2, q3, q4⟩ := hb
  obtain ⟨x, row1, e1, h1, _, _⟩ := v_taken h (m := 4) (by decide) (by decide)
  by_cases hx : x = 0
  · subst hx
    obtain ⟨l, row2, e2, h2, l0, l1⟩ := v_taken h1 (m := r) (by omega) (by omega)
    obtain ⟨ys, ey, ly⟩ := ints_of_rng (fun k => 2 * (l * c + k)) c.toNat
    have hin : inR c = true := decide_eq_true (by constructor <;> omega)
    have sc : small c = true := decide_eq_true (by constructor <;> omega)
    have s2 : small 2 = true := by decide
    have hl : ys.length ≤ LIM := by have : LIM = 100000 := rfl; omega
    have lg := lcGo_pure (one := true) (t := [6]) (vs := [6]) (c := fun e => evE (gam g_law_flips) (phi l_law_flips) (.bl true) e) (elt := fun e => evE (gam g_law_flips) (phi l_law_flips) (.op .mul (.int 2) (.op .add (.op .mul (.var 4) (.ix (.var 1) (.int 1))) (.var 6))) e) (env0 := [.own .lst true row2, .val (bd r c), .val (.int m), .val (.lst (zs.map .int)), .val (.int l), .none, .none])
      (fun _ => true) (fun d => match d with | .int k => D.int (2 * (l * c + k)) | _ => .non) (ds := rngD 0 c.toNat) fun d hd => by
        obtain ⟨k, _, rfl⟩ := rng_mem hd
        exact ⟨[.own .lst true row2, .val (bd r c), .val (.int m), .val (.lst (zs.map .int)), .val (.int l), .none, .val (.int (k : Int))], by simp, by simp, fun _ => by simp [mul_int (.inr sc), mul_int (.inl s2)], by simp [wipeE]⟩
    rw [ey] at lg
    have lcv := ev_lc (G := gam g_law_flips) (Φ := phi l_law_flips) (vs := [6]) (t := [6]) (src := .rng [(.ix (.var 1) (.int 1))]) (c := .bl true) (elt := (.op .mul (.int 2) (.op .add (.op .mul (.var 4) (.ix (.var 1) (.int 1))) (.var 6)))) (env := [.own .lst true row2, .val (bd r c), .val (.int m), .val (.lst (zs.map .int)), .val (.int l), .none, .none]) (env1 := [.own .lst true row2, .val (bd r c), .val (.int m), .val (.lst (zs.map .int)), .val (.int l), .none, .none]) (ds := rngD 0 c.toNat) (by simp [hin]) (by simp) lg (by rw [List.length_map]; exact hl)
    have ka := add_lsts (xs := zs.map D.int) (ys := ys.map D.int) (by rw [List.length_map, List.length_map]; have : LIM = 100000 := rfl; omega)
    refine ⟨row2, zs ++ ys, .val (.int l), ?_, h2, by rw [List.length_append]; omega⟩
    simp [-zzK19X_75, pf1, e1, e2, lcv, ka, backE]
  · refine ⟨row1, zs, a, ?_, h1, by omega⟩
    simp [-zzK19X_75, pf1, e1, hx]
theorem v_lineB {row : D} {r c m : Int} {zs : List Int} {a : Slot} (h : RowOk row) (hb : Bd r c) (hz : zs.length ≤ 90) :
    ∃ (row' : D) (zs' : List Int) (a' : Slot), evS (gam g_law_flips) (phi l_law_flips) (.ife (.cmp .eq (.call 1 [(.ref 0), (.int 4)]) (.int 0)) [.asg1 4 (.call 1 [(.ref 0), (.ix (.var 1) (.int 1))]), .asg1 3 (.op .add (.var 3) (.lc [6] [6] (.rng [(.ix (.var 1) (.int 0))]) (.bl true) (.op .add (.op .mul (.int 2) (.op .add (.op .mul (.var 6) (.ix (.var 1) (.int 1))) (.var 4))) (.int 1))))] []) [.own .lst true row, .val (bd r c), .val (.int m), .val (.lst (zs.map .int)), a, .none, .none] =
      some (.nx [.own .lst true row', .val (bd r c), .val (.int m), .val (.lst (zs'.map .int)), a', .none, .none]) ∧ RowOk row' ∧ zs'.length ≤ zs.length + 5 := by
  obtain ⟨q1, q2, q3, q4⟩ := hb
  obtain ⟨x, row1, e1, h1, _, _⟩ := v_taken h (m := 4) (by decide) (by decide)
  by_cases hx : x = 0
  · subst hx
    obtain ⟨l, row2, e2, h2, l0, l1⟩ := v_taken h1 (m := c) (by omega) (by omega)
    obtain ⟨ys, ey, ly⟩ := ints_of_rng (fun k => 2 * (k * c + l) + 1) r.toNat
    have hin : inR r = true := decide_eq_true (by constructor <;> omega)
    have sc : small c = true := decide_eq_true (by constructor <;> omega)
    have s2 : small 2 = true := by decide
    have hl : ys.length ≤ LIM := by have : LIM = 100000 := rfl; omega
    have elB : ∀ k : Int, evE (gam g_law_flips) (phi l_law_flips) (.op .add (.op .mul (.int 2) (.op .add (.op .mul (.var 6) (.ix (.var 1) (.int 1))) (.var 4))) (.int 1)) [.own .lst true row2, .val (bd r c), .val (.int m), .val (.lst (zs.map .int)), .val (.int l), .none, .val (.int k)] = some (.int (2 * (k * c + l) + 1), [.own .lst true row2, .val (bd r c), .val (.int m), .val (.lst (zs.map .int)), .val (.int l), .none, .val (.int k)]) := fun k => by
      have f1 : evOp .mul (.int k) (.int c) = some (.int (k * c)) := mul_int (.inr sc)
      have f2 : evOp .add (.int (k * c)) (.int l) = some (.int (k * c + l)) := add_int _ _
      generalize k * c + l = z at f2
      have f3 : evOp .mul (.int 2) (.int z) = some (.int (2 * z)) := mul_int (.inl s2)
      have f4 : evOp .add (.int (2 * z)) (.int 1) = some (.int (2 * z + 1)) := add_int _ _
      generalize 2 * z + 1 = y at f4
      simp [f1, f2, f3, f4, -zzK19X_31]
    have lg := lcGo_pure (one := true) (t := [6]) (vs := [6]) (c := fun e => evE (gam g_law_flips) (phi l_law_flips) (.bl true) e) (elt := fun e => evE (gam g_law_flips) (phi l_law_flips) (.op .add (.op .mul (.int 2) (.op .add (.op .mul (.var 6) (.ix (.var 1) (.int 1))) (.var 4))) (.int 1)) e) (env0 := [.own .lst true row2, .val (bd r c), .val (.int m), .val (.lst (zs.map .int)), .val (.int l), .none, .none])
      (fun _ => true) (fun d => match d with | .int k => D.int (2 * (k * c + l) + 1) | _ => .non) (ds := rngD 0 r.toNat) fun d hd => by
        obtain ⟨k, _, rfl⟩ := rng_mem hd
        exact ⟨[.own .lst true row2, .val (bd r c), .val (.int m), .val (.lst (zs.map .int)), .val (.int l), .none, .val (.int (k : Int))], by simp, by simp, fun _ => elB (k : Int), by simp [wipeE]⟩
    rw [ey] at lg
    have lcv := ev_lc (G := gam g_law_flips) (Φ := phi l_law_flips) (vs := [6]) (t := [6]) (src := .rng [(.ix (.var 1) (.int 0))]) (c := .bl true) (elt := (.op .add (.op .mul (.int 2) (.op .add (.op .mul (.var 6) (.ix (.var 1) (.int 1))) (.var 4))) (.int 1))) (env := [.own .lst true row2, .val (bd r c), .val (.int m), .val (.lst (zs.map .int)), .val (.int l), .none, .none]) (env1 := [.own .lst true row2, .val (bd r c), .val (.int m), .val (.lst (zs.map .int)), .val (.int l), .none, .none]) (ds := rngD 0 r.toNat) (by simp [hin]) (by simp) lg (by rw [List.length_map]; exact hl)
    have ka := add_lsts (xs := zs.map D.int) (ys := ys.map D.int) (by rw [List.length_map, List.length_map]; have : LIM = 100000 := rfl; omega)
    refine ⟨row2, zs ++ ys, .val (.int l), ?_, h2, by rw [List.length_append]; omega⟩
    simp [-zzK19X_75, pf1, e1, e2, lcv, ka, backE]
  · refine ⟨row1, zs, a, ?_, h1, by omega⟩
    simp [-zzK19X_75, pf1, e1, hx]
theorem v_flips {row : D} {r c : Int} (h : RowOk row) (hb : Bd r c) : ∃ xs row', f_law_flips [.o .lst row, .v (bd r c)] = some (fl xs, [.o .lst row', .v (bd r c)]) ∧ RowOk row' ∧ Fls r c xs := by
  obtain ⟨sr, sc, sm⟩ := hb.sm
  obtain ⟨m4, m25⟩ := hb.m
  have s2 : small 2 = true := by decide
  obtain ⟨t, row1, e1, h1, t0, t3⟩ := v_taken h (m := 3) (by decide) (by decide)
  obtain ⟨most, em, mo0, mo1⟩ : ∃ most : Int, evIx (.lst [.int 3, .int 6, .int (2 * (r * c))]) (.int t) = some (.int most) ∧ 0 ≤ most ∧ most ≤ 60 := by
    have : t = 0 ∨ t = 1 ∨ t = 2 := by omega
    rcases this with rfl | rfl | rfl
    · exact ⟨3, ix_lst (k := 0) rfl, by decide, by decide⟩
    · exact ⟨6, ix_lst (k := 1) rfl, by decide, by decide⟩
    · exact ⟨2 * (r * c), ix_lst (k := 2) rfl, by omega, by omega⟩
  obtain ⟨zs, row2, e2, h2, _, _, zl⟩ := v_some h1 (many := 2 * (r * c)) (most := most) (by omega) (by omega) mo0 mo1
  obtain ⟨row3, zs3, a3, e3, h3, l3⟩ := v_lineA (m := r * c) (a := .none) (zs := zs) h2 hb (by omega)
  obtain ⟨row4, zs4, a4, e4, h4, l4⟩ := v_lineB (m := r * c) (a := a3) (zs := zs3) h3 hb (by omega)
  have hin : inR (2 * (r * c)) = true := decide_eq_true (by constructor <;> omega)
  have lg := lcGo_pure (one := true) (t := [5]) (vs := [5]) (c := fun e => evE (gam g_law_flips) (phi l_law_flips) (.cmp .eq (.op .mod (.mt .count (.var 3) [(.var 5)]) (.int 2)) (.int 1)) e) (elt := fun e => evE (gam g_law_flips) (phi l_law_flips) (.var 5) e) (env0 := [.own .lst true row4, .val (bd r c), .val (.int (r * c)), .val (.lst (zs4.map .int)), a4, .none, .none])
    (fun d => match d with | .int k => decide ((zs4.count k : Int) % 2 = 1) | _ => false) id (ds := rngD 0 (2 * (r * c)).toNat) fun d hd => by
      obtain ⟨k, _, rfl⟩ := rng_mem hd
      have km : evOp .mod (.int (zs4.count (k : Int) : Int)) (.int 2) = some (.int ((zs4.count (k : Int) : Int) % 2)) := mod_int (by decide)
      exact ⟨[.own .lst true row4, .val (bd r c), .val (.int (r * c)), .val (.lst (zs4.map .int)), a4, .val (.int (k : Int)), .none], by simp, by simp [km], fun _ => by simp, by simp [wipeE]⟩
  have el : (((rngD 0 (2 * (r * c)).toNat).filter fun d => match d with | .int k => decide ((zs4.count k : Int) % 2 = 1) | _ => false).map id) = (((List.range (2 * (r * c)).toNat).map fun (k : Nat) => (0 + (k : Int))).filter fun k => decide ((zs4.count k : Int) % 2 = 1)).map .int := by
    rw [List.map_id]
    unfold rngD
    rw [show (List.range (2 * (r * c)).toNat).map (fun (i : Nat) => D.int (0 + (i : Int))) = ((List.range (2 * (r * c)).toNat).map fun (k : Nat) => (0 + (k : Int))).map D.int from (List.map_map ..).symm ▸ rfl, List.filter_map]
    rfl
  rw [el] at lg
  generalize hxs : (((List.range (2 * (r * c)).toNat).map fun (k : Nat) => (0 + (k : Int))).filter fun k => decide ((zs4.count k : Int) % 2 = 1)) = xs at lg
  have fx : Fls r c xs := by
    subst hxs
    refine ⟨List.Pairwise.filter _ ?_, fun x hx => ?_⟩
    · rw [List.pairwise_map]
      exact List.Pairwise.imp (fun h => by omega) List.pairwise_lt_range
    · obtain ⟨k, hk, rfl⟩ := List.mem_map.mp (List.mem_filter.mp hx).1
      have := List.mem_range.mp hk
      omega
  have hl : (xs.map D.int).length ≤ LIM := by
    have := fx.len hb
    rw [List.length_map]
    have : LIM = 100000 := rfl
    omega
  have lcv := ev_lc (G := gam g_law_flips) (Φ := phi l_law_flips) (vs := [5]) (t := [5]) (src := .rng [(.op .mul (.int 2) (.var 2))]) (c := (.cmp .eq (.op .mod (.mt .count (.var 3) [(.var 5)]) (.int 2)) (.int 1))) (elt := .var 5) (env := [.own .lst true row4, .val (bd r c), .val (.int (r * c)), .val (.lst (zs4.map .int)), a4, .none, .none]) (env1 := [.own .lst true row4, .val (bd r c), .val (.int (r * c)), .val (.lst (zs4.map .int)), a4, .none, .none]) (ds := rngD 0 (2 * (r * c)).toNat) (by simp [hin, mul_int (.inl s2)]) (by simp) lg hl
  refine ⟨xs, row4, ?_, h4, fx⟩
  have ms : evOp .mul (.int r) (.int c) = some (.int (r * c)) := mul_int (.inl sr)
  have ms2 : evOp .mul (.int 2) (.int (r * c)) = some (.int (2 * (r * c))) := mul_int (.inl s2)
  unfold f_law_flips b_law_flips runF
  simp only [evSs]
  rw [s_asg1]
  simp [-zzK19X_75, -zzK19X_108, pf0, pf1, ms, ms2, LIM, e1, em, e2, e3, e4, lcv, backE]
end Sb

namespace Sb
open PySem L2
@[local simp] def zzK19Y_0 := @startE.eq_1
@[local simp] def zzK19Y_1 := @argSlot.eq_1
@[local simp] def zzK19Y_2 := @argSlot.eq_2
@[local simp] def zzK19Y_3 := @evSs.eq_1
@[local simp] def zzK19Y_4 := @evSs.eq_2
@[local simp] def zzK19Y_5 := @evB.eq_1
@[local simp] def zzK19Y_6 := @evB.eq_2
@[local simp] def zzK19Y_7 := @evL.eq_1
@[local simp] def zzK19Y_8 := @evL.eq_2
@[local simp] def zzK19Y_9 := @evA.eq_1
@[local simp] def zzK19Y_10 := @evA.eq_2
@[local simp] def zzK19Y_11 := @asRef.eq_1
@[local simp] def zzK19Y_12 := @asRef.eq_2
@[local simp] def zzK19Y_13 := @slotAt.eq_1
@[local simp] def zzK19Y_14 := @isKi.eq_1
@[local simp] def zzK19Y_15 := @isKi.eq_2
@[local simp] def zzK19Y_16 := @isKi.eq_3
@[local simp] def zzK19Y_17 := @isKi.eq_4
@[local simp] def zzK19Y_18 := @isKi.eq_5
@[local simp] def zzK19Y_19 := @isKi.eq_6
@[local simp] def zzK19Y_20 := @isKi.eq_7
@[local simp] def zzK19Y_21 := @isKi.eq_8
@[local simp] def zzK19Y_22 := @outs.eq_1
@[local simp] def zzK19Y_23 := @outs.eq_2
@[local simp] def zzK19Y_24 := @outs.eq_3
@[local simp] def zzK19Y_25 := @eq_int
@[local simp] def zzK19Y_26 := @ne_int
@[local simp] def zzK19Y_27 := @lt_int
@[local simp] def zzK19Y_28 := @le_int
@[local simp] def zzK19Y_29 := @gt_int
@[local simp] def zzK19Y_30 := @ge_int
@[local simp] def zzK19Y_31 := @add_int
@[local simp] def zzK19Y_32 := @sub_int
@[local simp] def zzK19Y_33 := @xor_int
@[local simp] def zzK19Y_34 := @len_tup
@[local simp] def zzK19Y_35 := @len_lst
@[local simp] def zzK19Y_36 := @len_scr
@[local simp] def zzK19Y_37 := @tuple_lst
@[local simp] def zzK19Y_38 := @tuple_tup
@[local simp] def zzK19Y_39 := @list_tup
@[local simp] def zzK19Y_40 := @int_int
@[local simp] def zzK19Y_41 := @int_bl
@[local simp] def zzK19Y_42 := @min_int
@[local simp] def zzK19Y_43 := @max_int
@[local simp] def zzK19Y_44 := @ix0
@[local simp] def zzK19Y_45 := @ix1
@[local simp] def zzK19Y_46 := @ix2
@[local simp] def zzK19Y_47 := @at0
@[local simp] def zzK19Y_48 := @at1
@[local simp] def zzK19Y_49 := @at2
@[local simp] def zzK19Y_50 := @at3
@[local simp] def zzK19Y_51 := @refs.eq_1
@[local simp] def zzK19Y_52 := @refs.eq_2
@[local simp] def zzK19Y_53 := @refs.eq_3
@[local simp] def zzK19Y_54 := @resolve.eq_1
@[local simp] def zzK19Y_55 := @resolve.eq_2
@[local simp] def zzK19Y_56 := @resolve.eq_3
@[local simp] def zzK19Y_57 := @putBack.eq_1
@[local simp] def zzK19Y_58 := @putBack.eq_2
@[local simp] def zzK19Y_59 := @putBack.eq_3
@[local simp] def zzK19Y_60 := @putBack.eq_4
@[local simp] def zzK19Y_61 := @putOwn.eq_1
@[local simp] def zzK19Y_62 := @asgT.eq_1
@[local simp] def zzK19Y_63 := @asgT.eq_2
@[local simp] def zzK19Y_64 := @asgT.eq_3
@[local simp] def zzK19Y_65 := @asgT.eq_4
@[local simp] def zzK19Y_66 := @setV.eq_1
@[local simp] def zzK19Y_67 := @setVs.eq_1
@[local simp] def zzK19Y_68 := @setVs.eq_2
@[local simp] def zzK19Y_69 := @setVs.eq_3
@[local simp] def zzK19Y_70 := @noOwn.eq_1
@[local simp] def zzK19Y_71 := @in_tups
@[local simp] def zzK19Y_72 := @in_lsts
@[local simp] def zzK19Y_73 := @nin_tups
@[local simp] def zzK19Y_74 := @nin_lsts
@[local simp] def zzK19Y_75 := @phi.eq_1
@[local simp] def zzK19Y_76 := @gam.eq_1
@[local simp] def zzK19Y_77 := @e_var
@[local simp] def zzK19Y_78 := @e_int
@[local simp] def zzK19Y_79 := @e_bl
@[local simp] def zzK19Y_80 := @e_non
@[local simp] def zzK19Y_81 := @e_str
@[local simp] def zzK19Y_82 := @e_glo
@[local simp] def zzK19Y_83 := @e_op
@[local simp] def zzK19Y_84 := @e_neg
@[local simp] def zzK19Y_85 := @e_cmp
@[local simp] def zzK19Y_86 := @e_cmp2
@[local simp] def zzK19Y_87 := @e_isN
@[local simp] def zzK19Y_88 := @e_bop
@[local simp] def zzK19Y_89 := @e_not
@[local simp] def zzK19Y_90 := @e_ife
@[local simp] def zzK19Y_91 := @e_tup
@[local simp] def zzK19Y_92 := @e_lst
@[local simp] def zzK19Y_93 := @e_ix
@[local simp] def zzK19Y_94 := @e_call
@[local simp] def zzK19Y_95 := @e_bi
@[local simp] def zzK19Y_96 := @e_mt
@[local simp] def zzK19Y_97 := @e_isi
@[local simp] def zzK19Y_98 := @e_sx
@[local simp] def zzK19Y_99 := @e_oix
@[local simp] def zzK19Y_100 := @e_rng
@[local simp] def zzK19Y_101 := @e_enm
@[local simp] def zzK19Y_102 := @e_seq
@[local simp] def zzK19Y_103 := @s_asg
@[local simp] def zzK19Y_104 := @s_asg1
@[local simp] def zzK19Y_105 := @s_par
@[local simp] def zzK19Y_106 := @s_own
@[local simp] def zzK19Y_107 := @s_ex
@[local simp] def zzK19Y_108 := @s_ifeS
@[local simp] def zzK19Y_109 := @s_ret
@[local simp] def zzK19Y_110 := @s_retN
@[local simp] def zzK19Y_111 := @s_never
@[local simp] def zzK19Y_112 := @s_oset
@[local simp] def zzK19Y_113 := @s_app
@[local simp] def zzK19Y_114 := @count_ints
theorem filt_ints (p : Int → Bool) (xs : List Int) : (((xs.map D.int).filter fun d => match d with | .int k => p k | _ => false).map id) = (xs.filter p).map .int := by
  rw [List.map_id, List.filter_map]; rfl
theorem v_apart {xs ys : List Int} (hl : (symI xs ys).length < 64) : f_law_apart [.v (fl xs), .v (fl ys)] = some (fl (symI xs ys), [.v (fl xs), .v (fl ys)]) := by
  have hlen : (xs.filter (fun x => !ys.contains x) ++ ys.filter (fun x => !xs.contains x)).length < 64 := by
    unfold symI at hl
    rwa [(sortI_perm _).length_eq] at hl
  have hl1 : (xs.filter (fun x => !ys.contains x)).length ≤ 63 := by rw [List.length_append] at hlen; omega
  have hl2 : (ys.filter (fun x => !xs.contains x)).length ≤ 63 := by rw [List.length_append] at hlen; omega
  have lg1 := lcGo_pure (one := true) (t := [2]) (vs := [2]) (c := fun e => evE (gam g_law_apart) (phi l_law_apart) (.cmp .notin (.var 2) (.var 1)) e) (elt := fun e => evE (gam g_law_apart) (phi l_law_apart) (.var 2) e) (env0 := [.val (fl xs), .val (fl ys), .none])
    (fun d => match d with | .int k => !ys.contains k | _ => false) id (ds := xs.map .int) fun d hd => by
      obtain ⟨k, _, rfl⟩ := List.mem_map.mp hd
      exact ⟨[.val (fl xs), .val (fl ys), .val (.int k)], by simp, by simp, fun _ => by simp, by simp [wipeE]⟩
  have lg2 := lcGo_pure (one := true) (t := [2]) (vs := [2]) (c := fun e => evE (gam g_law_apart) (phi l_law_apart) (.cmp .notin (.var 2) (.var 0)) e) (elt := fun e => evE (gam g_law_apart) (phi l_law_apart) (.var 2) e) (env0 := [.val (fl xs), .val (fl ys), .none])
    (fun d => match d with | .int k => !xs.contains k | _ => false) id (ds := ys.map .int) fun d hd => by
      obtain ⟨k, _, rfl⟩ := List.mem_map.mp hd
      exact ⟨[.val (fl xs), .val (fl ys), .val (.int k)], by simp, by simp, fun _ => by simp, by simp [wipeE]⟩
  rw [filt_ints (fun k => !ys.contains k)] at lg1
  rw [filt_ints (fun k => !xs.contains k)] at lg2
  have hL : LIM = 100000 := rfl
  have c1 := ev_lc (G := gam g_law_apart) (Φ := phi l_law_apart) (vs := [2]) (t := [2]) (src := .seq (.var 0)) (c := .cmp .notin (.var 2) (.var 1)) (elt := .var 2) (env := [.val (fl xs), .val (fl ys), .none]) (env1 := [.val (fl xs), .val (fl ys), .none]) (ds := xs.map .int) (by simp) (by simp) lg1 (by rw [List.length_map]; omega)
  have c2 := ev_lc (G := gam g_law_apart) (Φ := phi l_law_apart) (vs := [2]) (t := [2]) (src := .seq (.var 1)) (c := .cmp .notin (.var 2) (.var 0)) (elt := .var 2) (env := [.val (fl xs), .val (fl ys), .none]) (env1 := [.val (fl xs), .val (fl ys), .none]) (ds := ys.map .int) (by simp) (by simp) lg2 (by rw [List.length_map]; omega)
  have c3 := add_lsts (xs := (xs.filter (fun x => !ys.contains x)).map D.int) (ys := (ys.filter (fun x => !xs.contains x)).map D.int) (by rw [List.length_map, List.length_map]; omega)
  have c4 := sorted_ints hlen
  rw [List.map_append] at c4
  have b1 : backE [Slot.val (fl xs), .val (fl ys), .none] [Slot.val (fl xs), .val (fl ys), .none] [2] = [Slot.val (fl xs), .val (fl ys), .none] := rfl
  rw [b1] at c1 c2
  have hs : symI xs ys = sortI (xs.filter (fun x => !ys.contains x) ++ ys.filter (fun x => !xs.contains x)) := rfl
  rw [hs]
  generalize xs.filter (fun x => !ys.contains x) = A at c1 c3 c4
  generalize ys.filter (fun x => !xs.contains x) = B at c2 c3 c4
  unfold f_law_apart b_law_apart runF
  simp [-zzK19Y_75, c1, c2, c3, c4]
theorem v_side (a b a' b' : Bool) : f_law_side [.v (bd (b2 a) (b2 b)), .v (bd (b2 a') (b2 b'))] = some (bd (b2 (xor a a')) (b2 (xor b b')), [.v (bd (b2 a) (b2 b)), .v (bd (b2 a') (b2 b'))]) := by
  have k : ∀ i : Int, evOp .mod (.int i) (.int 2) = some (.int (i % 2)) := fun i => mod_int (by decide)
  have e1 : ∀ x y : Bool, (b2 x + b2 y) % 2 = b2 (xor x y) := by decide
  unfold f_law_side b_law_side runF
  simp [k, e1, LIM]
end Sb

namespace Sb
open PySem L2
@[local simp] def zzK19Z_0 := @startE.eq_1
@[local simp] def zzK19Z_1 := @argSlot.eq_1
@[local simp] def zzK19Z_2 := @argSlot.eq_2
@[local simp] def zzK19Z_3 := @evSs.eq_1
@[local simp] def zzK19Z_4 := @evSs.eq_2
@[local simp] def zzK19Z_5 := @evB.eq_1
@[local simp] def zzK19Z_6 := @evB.eq_2
@[local simp] def zzK19Z_7 := @evL.eq_1
@[local simp] def zzK19Z_8 := @evL.eq_2
@[local simp] def zzK19Z_9 := @evA.eq_1
@[local simp] def zzK19Z_10 := @evA.eq_2
@[local simp] def zzK19Z_11 := @asRef.eq_1
@[local simp] def zzK19Z_12 := @asRef.eq_2
@[local simp] def zzK19Z_13 := @slotAt.eq_1
@[local simp] def zzK19Z_14 := @isKi.eq_1
@[local simp] def zzK19Z_15 := @isKi.eq_2
@[local simp] def zzK19Z_16 := @isKi.eq_3
@[local simp] def zzK19Z_17 := @isKi.eq_4
@[local simp] def zzK19Z_18 := @isKi.eq_5
@[local simp] def zzK19Z_19 := @isKi.eq_6
@[local simp] def zzK19Z_20 := @isKi.eq_7
@[local simp] def zzK19Z_21 := @isKi.eq_8
@[local simp] def zzK19Z_22 := @outs.eq_1
@[local simp] def zzK19Z_23 := @outs.eq_2
@[local simp] def zzK19Z_24 := @outs.eq_3
@[local simp] def zzK19Z_25 := @eq_int
@[local simp] def zzK19Z_26 := @ne_int
@[local simp] def zzK19Z_27 := @lt_int
@[local simp] def zzK19Z_28 := @le_int
@[local simp] def zzK19Z_29 := @gt_int
@[local simp] def zzK19Z_30 := @ge_int
@[local simp] def zzK19Z_31 := @add_int
@[local simp] def zzK19Z_32 := @sub_int
@[local simp] def zzK19Z_33 := @xor_int
@[local simp] def zzK19Z_34 := @len_tup
@[local simp] def zzK19Z_35 := @len_lst
@[local simp] def zzK19Z_36 := @len_scr
@[local simp] def zzK19Z_37 := @tuple_lst
@[local simp] def zzK19Z_38 := @tuple_tup
@[local simp] def zzK19Z_39 := @list_tup
@[local simp] def zzK19Z_40 := @int_int
@[local simp] def zzK19Z_41 := @int_bl
@[local simp] def zzK19Z_42 := @min_int
@[local simp] def zzK19Z_43 := @max_int
@[local simp] def zzK19Z_44 := @ix0
@[local simp] def zzK19Z_45 := @ix1
@[local simp] def zzK19Z_46 := @ix2
@[local simp] def zzK19Z_47 := @at0
@[local simp] def zzK19Z_48 := @at1
@[local simp] def zzK19Z_49 := @at2
@[local simp] def zzK19Z_50 := @at3
@[local simp] def zzK19Z_51 := @refs.eq_1
@[local simp] def zzK19Z_52 := @refs.eq_2
@[local simp] def zzK19Z_53 := @refs.eq_3
@[local simp] def zzK19Z_54 := @resolve.eq_1
@[local simp] def zzK19Z_55 := @resolve.eq_2
@[local simp] def zzK19Z_56 := @resolve.eq_3
@[local simp] def zzK19Z_57 := @putBack.eq_1
@[local simp] def zzK19Z_58 := @putBack.eq_2
@[local simp] def zzK19Z_59 := @putBack.eq_3
@[local simp] def zzK19Z_60 := @putBack.eq_4
@[local simp] def zzK19Z_61 := @putOwn.eq_1
@[local simp] def zzK19Z_62 := @asgT.eq_1
@[local simp] def zzK19Z_63 := @asgT.eq_2
@[local simp] def zzK19Z_64 := @asgT.eq_3
@[local simp] def zzK19Z_65 := @asgT.eq_4
@[local simp] def zzK19Z_66 := @setV.eq_1
@[local simp] def zzK19Z_67 := @setVs.eq_1
@[local simp] def zzK19Z_68 := @setVs.eq_2
@[local simp] def zzK19Z_69 := @setVs.eq_3
@[local simp] def zzK19Z_70 := @noOwn.eq_1
@[local simp] def zzK19Z_71 := @in_tups
@[local simp] def zzK19Z_72 := @in_lsts
@[local simp] def zzK19Z_73 := @nin_tups
@[local simp] def zzK19Z_74 := @nin_lsts
@[local simp] def zzK19Z_75 := @gam.eq_1
@[local simp] def zzK19Z_76 := @e_var
@[local simp] def zzK19Z_77 := @e_int
@[local simp] def zzK19Z_78 := @e_bl
@[local simp] def zzK19Z_79 := @e_non
@[local simp] def zzK19Z_80 := @e_str
@[local simp] def zzK19Z_81 := @e_glo
@[local simp] def zzK19Z_82 := @e_op
@[local simp] def zzK19Z_83 := @e_neg
@[local simp] def zzK19Z_84 := @e_cmp
@[local simp] def zzK19Z_85 := @e_cmp2
@[local simp] def zzK19Z_86 := @e_isN
@[local simp] def zzK19Z_87 := @e_bop
@[local simp] def zzK19Z_88 := @e_not
@[local simp] def zzK19Z_89 := @e_ife
@[local simp] def zzK19Z_90 := @e_tup
@[local simp] def zzK19Z_91 := @e_lst
@[local simp] def zzK19Z_92 := @e_ix
@[local simp] def zzK19Z_93 := @e_call
@[local simp] def zzK19Z_94 := @e_bi
@[local simp] def zzK19Z_95 := @e_mt
@[local simp] def zzK19Z_96 := @e_isi
@[local simp] def zzK19Z_97 := @e_sx
@[local simp] def zzK19Z_98 := @e_oix
@[local simp] def zzK19Z_99 := @e_rng
@[local simp] def zzK19Z_100 := @e_enm
@[local simp] def zzK19Z_101 := @e_seq
@[local simp] def zzK19Z_102 := @s_asg
@[local simp] def zzK19Z_103 := @s_asg1
@[local simp] def zzK19Z_104 := @s_par
@[local simp] def zzK19Z_105 := @s_own
@[local simp] def zzK19Z_106 := @s_ex
@[local simp] def zzK19Z_107 := @s_ifeS
@[local simp] def zzK19Z_108 := @s_ret
@[local simp] def zzK19Z_109 := @s_retN
@[local simp] def zzK19Z_110 := @s_never
@[local simp] def zzK19Z_111 := @s_oset
@[local simp] def zzK19Z_112 := @s_app
@[local simp] def zzK19Z_113 := @count_ints
def tbody : List S := match b_law with | [_, .for_ _ _ _ b, _] => b | _ => []
theorem b_law_eq : b_law = [.own 1 (.lst [(.var 0), (.int 0), (.int 0), (.int 0)]), .for_ [2] true (.rng [(.int 4)]) tbody, .ret (.bl true)] := rfl
theorem p0 : phi l_law 0 = f_law_board := rfl
theorem p1 : phi l_law 1 = f_law_flips := rfl
theorem p2 : phi l_law 2 = f_after := rfl
theorem p3 : phi l_law 3 = f_law_apart := rfl
theorem p4 : phi l_law 4 = f_checks := rfl
theorem p5 : phi l_law 5 = f_seams := rfl
theorem p6 : phi l_law 6 = f_law_side := rfl
theorem p7 : phi l_law 7 = f_law_taken := rfl
theorem ne_pair (a b c d : Int) : evCmp .ne (bd a b) (bd c d) = some (!decide (a = c ∧ b = d)) := by
  have := ne_tups [a, b] [c, d]
  simpa using this
theorem ne_nil (xs : List Int) : evCmp .ne (fl xs) (.tup []) = some (!decide (xs = [])) := ne_tups xs []
theorem Fls.nil (r c : Int) : Fls r c [] := ⟨Can.nil, fun x h => by cases h⟩
theorem Fls.one {r c e : Int} (h0 : 0 ≤ e) (h1 : e < 2 * (r * c)) : Fls r c [e] := ⟨Can.one e, fun x h => by rw [List.mem_singleton.mp h]; exact ⟨h0, h1⟩⟩
theorem seams_sym {r c : Int} {xs ys : List Int} (f : Fls r c xs) (g : Fls r c ys) : par (seamA c) (symI xs ys) = xor (par (seamA c) xs) (par (seamA c) ys) ∧ par (seamB r c) (symI xs ys) = xor (par (seamB r c) xs) (par (seamB r c) ys) := ⟨par_sym f.can.nd g.can.nd, par_sym f.can.nd g.can.nd⟩
theorem lit_sym {r c : Int} {xs ys : List Int} (h : Bd r c) (f : Fls r c xs) (g : Fls r c ys) : litI r c (symI xs ys) = symI (litI r c xs) (litI r c ys) :=
  dec_ext (lit_can h (f.sym g).bel) (can_sym (lit_can h f.bel) (lit_can h g.bel)) fun k => by
    rw [dec_sym, lit_mem h (f.sym g).bel, lit_mem h f.bel, lit_mem h g.bel, par_sym f.can.nd g.can.nd]
theorem lit_len {r c : Int} {xs ys : List Int} (h : Bd r c) (f : Fls r c xs) (g : Fls r c ys) : (symI (litI r c xs) (litI r c ys)).length < 64 := by
  rw [← lit_sym h f g]
  have := (lit_bel h _ [] (fun x hx => by cases hx) (f.sym g).bel).len h (lit_can h (f.sym g).bel)
  exact Nat.lt_of_le_of_lt this (by decide)
theorem sym_len {r c : Int} {xs ys : List Int} (h : Bd r c) (f : Fls r c xs) (g : Fls r c ys) : (symI xs ys).length < 64 := Nat.lt_of_le_of_lt ((f.sym g).len h) (by decide)
/-- an even number is lit -/
theorem sym_even : ∀ (xs ys : List Int), xs.Nodup → ys.Nodup → ((symI xs ys).length) % 2 = (xs.length + ys.length) % 2 := fun xs ys h1 h2 => by
  have e : (symI xs ys).length = (xs.filter (fun x => !ys.contains x)).length + (ys.filter (fun x => !xs.contains x)).length := by
    unfold symI
    rw [(sortI_perm _).length_eq, List.length_append]
  have a := (List.filter_append_perm (fun x => ys.contains x) xs).length_eq
  have b := (List.filter_append_perm (fun x => xs.contains x) ys).length_eq
  have c : (xs.filter fun x => ys.contains x).length = (ys.filter fun x => xs.contains x).length := ((List.perm_ext_iff_of_nodup (h1.sublist List.filter_sublist) (h2.sublist List.filter_sublist)).mpr fun k => by
    simp only [List.mem_filter, List.contains_iff_mem]
    exact And.comm).length_eq
  rw [List.length_append] at a b
  omega
theorem lit_even {r c : Int} (h : Bd r c) : ∀ (xs f : List Int), f.Nodup → f.length % 2 = 0 → Bel (2 * (r * c)) xs → (xs.foldl (fun f e => symI f [e / 2, otherI r c e]) f).length % 2 = 0
  | [], f, _, hf, _ => hf
  | e :: xs, f, hn, hf, hx => by
    have q := ends_ok h hx.cons.1 hx.cons.2
    refine lit_even h xs _ (symI_nodup hn q.2) ?_ fun x z => hx x (List.mem_cons_of_mem _ z)
    rw [sym_even _ _ hn q.2]
    show (f.length + 2) % 2 = 0
    omega
end Sb

namespace Sb
open PySem L2
@[local simp] def zzK19A_0 := @startE.eq_1
@[local simp] def zzK19A_1 := @argSlot.eq_1
@[local simp] def zzK19A_2 := @argSlot.eq_2
@[local simp] def zzK19A_3 := @evSs.eq_1
@[local simp] def zzK19A_4 := @evSs.eq_2
@[local simp] def zzK19A_5 := @evB.eq_1
@[local simp] def zzK19A_6 := @evB.eq_2
@[local simp] def zzK19A_7 := @evL.eq_1
@[local simp] def zzK19A_8 := @evL.eq_2
@[local simp] def zzK19A_9 := @evA.eq_1
@[local simp] def zzK19A_10 := @evA.eq_2
@[local simp] def zzK19A_11 := @asRef.eq_1
@[local simp] def zzK19A_12 := @asRef.eq_2
@[local simp] def zzK19A_13 := @slotAt.eq_1
@[local simp] def zzK19A_14 := @isKi.eq_1
@[local simp] def zzK19A_15 := @isKi.eq_2
@[local simp] def zzK19A_16 := @isKi.eq_3
@[local simp] def zzK19A_17 := @isKi.eq_4
@[local simp] def zzK19A_18 := @isKi.eq_5
@[local simp] def zzK19A_19 := @isKi.eq_6
@[local simp] def zzK19A_20 := @isKi.eq_7
@[local simp] def zzK19A_21 := @isKi.eq_8
@[local simp] def zzK19A_22 := @outs.eq_1
@[local simp] def zzK19A_23 := @outs.eq_2
@[local simp] def zzK19A_24 := @outs.eq_3
@[local simp] def zzK19A_25 := @eq_int
@[local simp] def zzK19A_26 := @ne_int
@[local simp] def zzK19A_27 := @lt_int
@[local simp] def zzK19A_28 := @le_int
@[local simp] def zzK19A_29 := @gt_int
@[local simp] def zzK19A_30 := @ge_int
@[local simp] def zzK19A_31 := @add_int
@[local simp] def zzK19A_32 := @sub_int
@[local simp] def zzK19A_33 := @xor_int
@[local simp] def zzK19A_34 := @len_tup
@[local simp] def zzK19A_35 := @len_lst
@[local simp] def zzK19A_36 := @len_scr
@[local simp] def zzK19A_37 := @tuple_lst
@[local simp] def zzK19A_38 := @tuple_tup
@[local simp] def zzK19A_39 := @list_tup
@[local simp] def zzK19A_40 := @int_int
@[local simp] def zzK19A_41 := @int_bl
@[local simp] def zzK19A_42 := @min_int
@[local simp] def zzK19A_43 := @max_int
@[local simp] def zzK19A_44 := @ix0
@[local simp] def zzK19A_45 := @ix1
@[local simp] def zzK19A_46 := @ix2
@[local simp] def zzK19A_47 := @at0
@[local simp] def zzK19A_48 := @at1
@[local simp] def zzK19A_49 := @at2
@[local simp] def zzK19A_50 := @at3
@[local simp] def zzK19A_51 := @refs.eq_1
@[local simp] def zzK19A_52 := @refs.eq_2
@[local simp] def zzK19A_53 := @refs.eq_3
@[local simp] def zzK19A_54 := @resolve.eq_1
@[local simp] def zzK19A_55 := @resolve.eq_2
@[local simp] def zzK19A_56 := @resolve.eq_3
@[local simp] def zzK19A_57 := @putBack.eq_1
@[local simp] def zzK19A_58 := @putBack.eq_2
@[local simp] def zzK19A_59 := @putBack.eq_3
@[local simp] def zzK19A_60 := @putBack.eq_4
@[local simp] def zzK19A_61 := @putOwn.eq_1
@[local simp] def zzK19A_62 := @asgT.eq_1
@[local simp] def zzK19A_63 := @asgT.eq_2
@[local simp] def zzK19A_64 := @asgT.eq_3
@[local simp] def zzK19A_65 := @asgT.eq_4
@[local simp] def zzK19A_66 := @setV.eq_1
@[local simp] def zzK19A_67 := @setVs.eq_1
@[local simp] def zzK19A_68 := @setVs.eq_2
@[local simp] def zzK19A_69 := @setVs.eq_3
@[local simp] def zzK19A_70 := @noOwn.eq_1
@[local simp] def zzK19A_71 := @in_tups
@[local simp] def zzK19A_72 := @in_lsts
@[local simp] def zzK19A_73 := @nin_tups
@[local simp] def zzK19A_74 := @nin_lsts
@[local simp] def zzK19A_75 := @gam.eq_1
@[local simp] def zzK19A_76 := @e_var
@[local simp] def zzK19A_77 := @e_int
@[local simp] def zzK19A_78 := @e_bl
@[local simp] def zzK19A_79 := @e_non
@[local simp] def zzK19A_80 := @e_str
@[local simp] def zzK19A_81 := @e_glo
@[local simp] def zzK19A_82 := @e_op
@[local simp] def zzK19A_83 := @e_neg
@[local simp] def zzK19A_84 := @e_cmp
@[local simp] def zzK19A_85 := @e_cmp2
@[local simp] def zzK19A_86 := @e_isN
@[local simp] def zzK19A_87 := @e_bop
@[local simp] def zzK19A_88 := @e_not
@[local simp] def zzK19A_89 := @e_ife
@[local simp] def zzK19A_90 := @e_tup
@[local simp] def zzK19A_91 := @e_lst
@[local simp] def zzK19A_92 := @e_ix
@[local simp] def zzK19A_93 := @e_call
@[local simp] def zzK19A_94 := @e_bi
@[local simp] def zzK19A_95 := @e_mt
@[local simp] def zzK19A_96 := @e_isi
@[local simp] def zzK19A_97 := @e_sx
@[local simp] def zzK19A_98 := @e_oix
@[local simp] def zzK19A_99 := @e_rng
@[local simp] def zzK19A_100 := @e_enm
@[local simp] def zzK19A_101 := @e_seq
@[local simp] def zzK19A_102 := @s_asg
@[local simp] def zzK19A_103 := @s_asg1
@[local simp] def zzK19A_104 := @s_par
@[local simp] def zzK19A_105 := @s_own
@[local simp] def zzK19A_106 := @s_ex
@[local simp] def zzK19A_107 := @s_ifeS
@[local simp] def zzK19A_108 := @s_ret
@[local simp] def zzK19A_109 := @s_retN
@[local simp] def zzK19A_110 := @s_never
@[local simp] def zzK19A_111 := @s_oset
@[local simp] def zzK19A_112 := @s_app
@[local simp] def zzK19A_113 := @count_ints
@[local simp] def zzK19A_114 := @p0
@[local simp] def zzK19A_115 := @p1
@[local simp] def zzK19A_116 := @p2
@[local simp] def zzK19A_117 := @p3
@[local simp] def zzK19A_118 := @p4
@[local simp] def zzK19A_119 := @p5
@[local simp] def zzK19A_120 := @p6
@[local simp] def zzK19A_121 := @p7
theorem ev_cons {G : Nat → Option D} {Φ : Nat → FnSem} {s : S} {ss : List S} {env env1 : Env} {r : Option Fl} (h1 : evS G Φ s env = some (.nx env1)) (h2 : evSs G Φ ss env1 = r) : evSs G Φ (s :: ss) env = r := by rw [evSs, h1]; exact h2
/-- the loop over the flips, one by one -/
theorem v_edges {r c : Int} {xs : List Int} (h : Bd r c) (f : Fls r c xs) (a0 a1 a2 a4 a5 a6 a7 a9 aA aE aF : Slot) : ∃ b5, evS (gam g_law) (phi l_law) (.for_ [5] true (.seq (.var 8))
    [.par [11, 12] [(.call 3 [(.var 11), (.call 4 [(.var 3), (.tup [(.var 5)])])]), (.call 6 [(.var 12), (.call 5 [(.var 3), (.tup [(.var 5)])])])],
    .asg1 13 (.call 2 [(.var 3), (.var 13), (.tup [(.var 5)])])]) [a0, a1, a2, .val (bd r c), a4, a5, a6, a7, .val (fl xs), a9, aA, .val (.tup []), .val (bd 0 0), .val (.tup []), aE, aF] =
    some (.nx [a0, a1, a2, .val (bd r c), a4, b5, a6, a7, .val (fl xs), a9, aA, .val (fl (litI r c xs)), .val (seamsI r c xs), .val (fl xs), aE, aF]) := by
  have key := forGo_inv (one := true) (t := [5]) (body := fun e => evSs (gam g_law) (phi l_law) [.par [11, 12] [(.call 3 [(.var 11), (.call 4 [(.var 3), (.tup [(.var 5)])])]), (.call 6 [(.var 12), (.call 5 [(.var 3), (.tup [(.var 5)])])])], .asg1 13 (.call 2 [(.var 3), (.var 13), (.tup [(.var 5)])])] e)
    (fun k env => ∃ b5, env = [a0, a1, a2, .val (bd r c), a4, b5, a6, a7, .val (fl xs), a9, aA, .val (fl (litI r c (xs.take k))), .val (seamsI r c (xs.take k)), .val (fl (xs.take k)), aE, aF]) (ds := xs.map .int) (env := [a0, a1, a2, .val (bd r c), a4, a5, a6, a7, .val (fl xs), a9, aA, .val (.tup []), .val (bd 0 0), .val (.tup []), aE, aF]) 0 ⟨_, rfl⟩ fun i d env hi ⟨b5, e⟩ => by
      obtain ⟨x, hx, rfl⟩ := map_get hi
      subst e
      have hxb := f.bel x (List.mem_of_getElem? hx)
      have fo : Fls r c [x] := Fls.one hxb.1 hxb.2
      have ft : Fls r c (xs.take i) := ⟨List.Pairwise.sublist (List.take_sublist _ _) f.can, f.bel.take i⟩
      have hnx : x ∉ xs.take i := fun hm => by
        obtain ⟨k, hk⟩ := List.mem_iff_getElem?.mp hm
        rw [List.getElem?_take] at hk
        split at hk
        · rename_i hki
          obtain ⟨h1, h2⟩ := List.getElem?_eq_some_iff.mp hk
          obtain ⟨h3, h4⟩ := List.getElem?_eq_some_iff.mp hx
          have := List.pairwise_iff_getElem.mp f.can k i h1 h3 hki
          omega
        · cases hk
      have et : symI (xs.take i) [x] = xs.take (i + 1) := by
        refine Can.ext (can_sym ft.can fo.can) (List.Pairwise.sublist (List.take_sublist _ _) f.can) fun k => ?_
        rw [mem_sym, List.take_succ, hx]
        by_cases q : k = x
        · subst q; simp [hnx]
        · simp [q]
      have ft1 : Fls r c (xs.take (i + 1)) := by rw [← et]; exact ft.sym fo
      have va := v_after h ft fo
      have vc := v_checks h fo
      have vs := v_seams h fo
      have vp := v_apart (lit_len h ft fo)
      have vd : f_law_side [.v (seamsI r c (xs.take i)), .v (seamsI r c [x])] = some (seamsI r c (xs.take (i + 1)), [.v (seamsI r c (xs.take i)), .v (seamsI r c [x])]) := by
        have := v_side (par (seamA c) (xs.take i)) (par (seamB r c) (xs.take i)) (par (seamA c) [x]) (par (seamB r c) [x])
        rw [← (seams_sym ft fo).1, ← (seams_sym ft fo).2, et] at this
        exact this
      rw [← lit_sym h ft fo, et] at vp
      rw [et] at va
      refine ⟨[a0, a1, a2, .val (bd r c), a4, .val (.int x), a6, a7, .val (fl xs), a9, aA, .val (fl (litI r c (xs.take (0 + i)))), .val (seamsI r c (xs.take (0 + i))), .val (fl (xs.take (0 + i))), aE, aF], [a0, a1, a2, .val (bd r c), a4, .val (.int x), a6, a7, .val (fl xs), a9, aA, .val (fl (litI r c (xs.take (0 + i + 1)))), .val (seamsI r c (xs.take (0 + i + 1))), .val (fl (xs.take (0 + i + 1))), aE, aF], by simp, ?_, _, rfl⟩
      simp only [Nat.zero_add]
      have s1 : f_checks [.v (bd r c), .v (.tup [.int x])] = some (fl (litI r c [x]), [.v (bd r c), .v (.tup [.int x])]) := vc
      have s2 : f_seams [.v (bd r c), .v (.tup [.int x])] = some (seamsI r c [x], [.v (bd r c), .v (.tup [.int x])]) := vs
      have s3 : f_after [.v (bd r c), .v (fl (xs.take i)), .v (.tup [.int x])] = some (fl (xs.take (i + 1)), [.v (bd r c), .v (fl (xs.take i)), .v (.tup [.int x])]) := va
      generalize seamsI r c (xs.take (i + 1)) = Z1 at vd
      generalize seamsI r c (xs.take i) = Z2 at vd
      generalize seamsI r c [x] = Z3 at vd s2
      generalize fl (litI r c (xs.take (i + 1))) = L1 at vp
      generalize fl (litI r c (xs.take i)) = L2 at vp
      generalize fl (litI r c [x]) = L3 at vp s1
      generalize fl (xs.take (i + 1)) = T1 at s3
      generalize fl (xs.take i) = T2 at s3
      simp [LIM, s1, s2, s3, vp, vd]
  obtain ⟨env', e, b5, rfl⟩ := key
  have el : xs.take (0 + (xs.map D.int).length) = xs := by rw [Nat.zero_add, List.length_map, List.take_length]
  rw [el] at e
  exact ⟨b5, ev_for (ds := xs.map .int) (env1 := [a0, a1, a2, .val (bd r c), a4, a5, a6, a7, .val (fl xs), a9, aA, .val (.tup []), .val (bd 0 0), .val (.tup []), aE, aF]) (by simp) e⟩
end Sb

namespace Sb
open PySem L2
@[local simp] def zzK19B_0 := @startE.eq_1
@[local simp] def zzK19B_1 := @argSlot.eq_1
@[local simp] def zzK19B_2 := @argSlot.eq_2
@[local simp] def zzK19B_3 := @evSs.eq_1
@[local simp] def zzK19B_4 := @evSs.eq_2
@[local simp] def zzK19B_5 := @evB.eq_1
@[local simp] def zzK19B_6 := @evB.eq_2
@[local simp] def zzK19B_7 := @evL.eq_1
@[local simp] def zzK19B_8 := @evL.eq_2
@[local simp] def zzK19B_9 := @evA.eq_1
@[local simp] def zzK19B_10 := @evA.eq_2
@[local simp] def zzK19B_11 := @asRef.eq_1
@[local simp] def zzK19B_12 := @asRef.eq_2
@[local simp] def zzK19B_13 := @slotAt.eq_1
@[local simp] def zzK19B_14 := @isKi.eq_1
@[local simp] def zzK19B_15 := @isKi.eq_2
@[local simp] def zzK19B_16 := @isKi.eq_3
@[local simp] def zzK19B_17 := @isKi.eq_4
@[local simp] def zzK19B_18 := @isKi.eq_5
@[local simp] def zzK19B_19 := @isKi.eq_6
@[local simp] def zzK19B_20 := @isKi.eq_7
@[local simp] def zzK19B_21 := @isKi.eq_8
@[local simp] def zzK19B_22 := @outs.eq_1
@[local simp] def zzK19B_23 := @outs.eq_2
@[local simp] def zzK19B_24 := @outs.eq_3
@[local simp] def zzK19B_25 := @eq_int
@[local simp] def zzK19B_26 := @ne_int
@[local simp] def zzK19B_27 := @lt_int
@[local simp] def zzK19B_28 := @le_int
@[local simp] def zzK19B_29 := @gt_int
@[local simp] def zzK19B_30 := @ge_int
@[local simp] def zzK19B_31 := @add_int
@[local simp] def zzK19B_32 := @sub_int
@[local simp] def zzK19B_33 := @xor_int
@[local simp] def zzK19B_34 := @len_tup
@[local simp] def zzK19B_35 := @len_lst
@[local simp] def zzK19B_36 := @len_scr
@[local simp] def zzK19B_37 := @tuple_lst
@[local simp] def zzK19B_38 := @tuple_tup
@[local simp] def zzK19B_39 := @list_tup
@[local simp] def zzK19B_40 := @int_int
@[local simp] def zzK19B_41 := @int_bl
@[local simp] def zzK19B_42 := @min_int
@[local simp] def zzK19B_43 := @max_int
@[local simp] def zzK19B_44 := @ix0
@[local simp] def zzK19B_45 := @ix1
@[local simp] def zzK19B_46 := @ix2
@[local simp] def zzK19B_47 := @at0
@[local simp] def zzK19B_48 := @at1
@[local simp] def zzK19B_49 := @at2
@[local simp] def zzK19B_50 := @at3
@[local simp] def zzK19B_51 := @refs.eq_1
@[local simp] def zzK19B_52 := @refs.eq_2
@[local simp] def zzK19B_53 := @refs.eq_3
@[local simp] def zzK19B_54 := @resolve.eq_1
@[local simp] def zzK19B_55 := @resolve.eq_2
@[local simp] def zzK19B_56 := @resolve.eq_3
@[local simp] def zzK19B_57 := @putBack.eq_1
@[local simp] def zzK19B_58 := @putBack.eq_2
@[local simp] def zzK19B_59 := @putBack.eq_3
@[local simp] def zzK19B_60 := @putBack.eq_4
@[local simp] def zzK19B_61 := @putOwn.eq_1
@[local simp] def zzK19B_62 := @asgT.eq_1
@[local simp] def zzK19B_63 := @asgT.eq_2
@[local simp] def zzK19B_64 := @asgT.eq_3
@[local simp] def zzK19B_65 := @asgT.eq_4
@[local simp] def zzK19B_66 := @setV.eq_1
@[local simp] def zzK19B_67 := @setVs.eq_1
@[local simp] def zzK19B_68 := @setVs.eq_2
@[local simp] def zzK19B_69 := @setVs.eq_3
@[local simp] def zzK19B_70 := @noOwn.eq_1
@[local simp] def zzK19B_71 := @in_tups
@[local simp] def zzK19B_72 := @in_lsts
@[local simp] def zzK19B_73 := @nin_tups
@[local simp] def zzK19B_74 := @nin_lsts
@[local simp] def zzK19B_75 := @gam.eq_1
@[local simp] def zzK19B_76 := @e_var
@[local simp] def zzK19B_77 := @e_int
@[local simp] def zzK19B_78 := @e_bl
@[local simp] def zzK19B_79 := @e_non
@[local simp] def zzK19B_80 := @e_str
@[local simp] def zzK19B_81 := @e_glo
@[local simp] def zzK19B_82 := @e_op
@[local simp] def zzK19B_83 := @e_neg
@[local simp] def zzK19B_84 := @e_cmp
@[local simp] def zzK19B_85 := @e_cmp2
@[local simp] def zzK19B_86 := @e_isN
@[local simp] def zzK19B_87 := @e_bop
@[local simp] def zzK19B_88 := @e_not
@[local simp] def zzK19B_89 := @e_ife
@[local simp] def zzK19B_90 := @e_tup
@[local simp] def zzK19B_91 := @e_lst
@[local simp] def zzK19B_92 := @e_ix
@[local simp] def zzK19B_93 := @e_call
@[local simp] def zzK19B_94 := @e_bi
@[local simp] def zzK19B_95 := @e_mt
@[local simp] def zzK19B_96 := @e_isi
@[local simp] def zzK19B_97 := @e_sx
@[local simp] def zzK19B_98 := @e_oix
@[local simp] def zzK19B_99 := @e_rng
@[local simp] def zzK19B_100 := @e_enm
@[local simp] def zzK19B_101 := @e_seq
@[local simp] def zzK19B_102 := @s_asg
@[local simp] def zzK19B_103 := @s_asg1
@[local simp] def zzK19B_104 := @s_par
@[local simp] def zzK19B_105 := @s_own
@[local simp] def zzK19B_106 := @s_ex
@[local simp] def zzK19B_107 := @s_ifeS
@[local simp] def zzK19B_108 := @s_ret
@[local simp] def zzK19B_109 := @s_retN
@[local simp] def zzK19B_110 := @s_never
@[local simp] def zzK19B_111 := @s_oset
@[local simp] def zzK19B_112 := @s_app
@[local simp] def zzK19B_113 := @count_ints
@[local simp] def zzK19B_114 := @p0
@[local simp] def zzK19B_115 := @p1
@[local simp] def zzK19B_116 := @p2
@[local simp] def zzK19B_117 := @p3
@[local simp] def zzK19B_118 := @p4
@[local simp] def zzK19B_119 := @p5
@[local simp] def zzK19B_120 := @p6
@[local simp] def zzK19B_121 := @p7
theorem seamsI_self (r c : Int) (xs : List Int) : evCmp .ne (seamsI r c xs) (seamsI r c xs) = some false := by
  unfold seamsI
  rw [ne_pair]
  simp
theorem fl_self (xs : List Int) : evCmp .ne (fl xs) (fl xs) = some false := by rw [ne_tups]; simp
theorem nil_self : evCmp .ne (.tup []) (.tup []) = some false := fl_self []
/-- a site alone -/
theorem site_ok {r c s : Int} (h : Bd r c) (h0 : 0 ≤ s) (h1 : s < r * c) : Fls r c [2 * s] ∧ Fls r c [2 * s + 1] ∧ seamsI r c [2 * s] = bd (if s % c = c - 1 then 1 else 0) 0 ∧ seamsI r c [2 * s + 1] = bd 0 (if s / c = r - 1 then 1 else 0) ∧ s ∈ litI r c [2 * s] ∧ (litI r c [2 * s]).length = 2 := by
  have e1 : (2 * s) % 2 = 0 := by omega
  have e2 : (2 * s) / 2 = s := by omega
  have e3 : (2 * s + 1) % 2 = 1 := by omega
  have e4 : (2 * s + 1) / 2 = s := by omega
  have f1 : Fls r c [2 * s] := Fls.one (by omega) (by omega)
  have en := ends_ok (e := 2 * s) h (by omega) (by omega)
  rw [e2] at en
  have hl : litI r c [2 * s] = symI [] [s, otherI r c (2 * s)] := by unfold litI; rw [List.foldl_cons, List.foldl_nil, e2]
  refine ⟨f1, Fls.one (by omega) (by omega), ?_, ?_, ?_, ?_⟩
  · unfold seamsI seamA seamB par par b2
    rw [e1, e2]
    by_cases q : s % c = c - 1 <;> simp [q]
  · unfold seamsI seamA seamB par par b2
    rw [e3, e4]
    by_cases q : s / c = r - 1 <;> simp [q]
  · rw [hl, mem_sym]; simp
  · rw [hl]
    unfold symI
    rw [(sortI_perm _).length_eq]
    simp
theorem v_turn {row : D} {a0 a2 a3 a4 a5 a6 a7 a8 a9 aA aB aC aD aE aF : Slot} (hr : RowOk row) : ∃ row' b3 b4 b5 b6 b7 b8 b9 bA bB bC bD bE bF, RowOk row' ∧ evSs (gam g_law) (phi l_law) tbody [a0, .own .lst false row, a2, a3, a4, a5, a6, a7, a8, a9, aA, aB, aC, aD, aE, aF] =
    some (.nx [a0, .own .lst false row', a2, b3, b4, b5, b6, b7, b8, b9, bA, bB, bC, bD, bE, bF]) := by
  obtain ⟨r, c, row1, e1, h1, hb⟩ := v_board hr
  obtain ⟨xs, row2, e2, h2, fx⟩ := v_flips h1 hb
  obtain ⟨ys, row3, e3, h3, fy⟩ := v_flips h2 hb
  obtain ⟨zs, row4, e4, h4, fz⟩ := v_flips h3 hb
  have hm := hb.m
  obtain ⟨st, row5, e5, h5, s0, s1⟩ := v_taken h4 (m := r * c) (by omega) (by omega)
  obtain ⟨w1, w2, w3, w4, w5, w6⟩ := site_ok hb s0 s1
  have fxy := fx.sym fy
  have fyz := fy.sym fz
  have A1 := v_after hb fx fy
  have A2 := v_after hb fy fx
  rw [sym_comm fy.can fx.can] at A2
  have A3 := v_after hb fxy fz
  have A4 := v_after hb fy fz
  have A5 := v_after hb fx fyz
  rw [← sym_assoc fx.can fy.can fz.can] at A5
  have A6 := v_after hb fx fx
  rw [sym_self fx.can] at A6
  have A7 := v_after hb fx (Fls.nil r c)
  rw [sym_nil fx.can] at A7
  have P1 := v_apart (sym_len hb fx fy)
  have C1 := v_checks hb fxy
  have C2 := v_checks hb fx
  have C3 := v_checks hb fy
  have C4 := v_checks hb (Fls.nil r c)
  have P2 := v_apart (lit_len hb fx fy)
  rw [← lit_sym hb fx fy] at P2
  have S1 := v_seams hb fxy
  have S2 := v_seams hb fx
  have S3 := v_seams hb fy
  have S4 := v_seams hb (Fls.nil r c)
  have D1 : f_law_side [.v (seamsI r c xs), .v (seamsI r c ys)] = some (seamsI r c (symI xs ys), [.v (seamsI r c xs), .v (seamsI r c ys)]) := by
    have := v_side (par (seamA c) xs) (par (seamB r c) xs) (par (seamA c) ys) (par (seamB r c) ys)
    rw [← (seams_sym fx fy).1, ← (seams_sym fx fy).2] at this
    exact this
  have C5 := v_checks hb w1
  have S5 := v_seams hb w1
  have S6 := v_seams hb w2
  have ev := lit_even hb xs [] List.nodup_nil rfl fx.bel
  have t1 : evS (gam g_law) (phi l_law) (.asg1 3 (.call 0 [(.ref 1), (.int 5)])) [a0, .own .lst false row, a2, a3, a4, a5, a6, a7, a8, a9, aA, aB, aC, aD, aE, aF] = some (.nx [a0, .own .lst false row1, a2, .val (bd r c), a4, a5, a6, a7, a8, a9, aA, aB, aC, aD, aE, aF]) := by simp [e1]
  have t2 : evS (gam g_law) (phi l_law) (.par [8, 9, 10] [(.call 1 [(.ref 1), (.var 3)]), (.call 1 [(.ref 1), (.var 3)]), (.call 1 [(.ref 1), (.var 3)])]) [a0, .own .lst false row1, a2, .val (bd r c), a4, a5, a6, a7, a8, a9, aA, aB, aC, aD, aE, aF] = some (.nx [a0, .own .lst false row4, a2, .val (bd r c), a4, a5, a6, a7, .val (fl xs), .val (fl ys), .val (fl zs), aB, aC, aD, aE, aF]) := by simp [e2, e3, e4]
  have t3 : evS (gam g_law) (phi l_law) (.asg1 4 (.call 2 [(.var 3), (.var 8), (.var 9)])) [a0, .own .lst false row4, a2, .val (bd r c), a4, a5, a6, a7, .val (fl xs), .val (fl ys), .val (fl zs), aB, aC, aD, aE, aF] = some (.nx [a0, .own .lst false row4, a2, .val (bd r c), .val (fl (symI xs ys)), a5, a6, a7, .val (fl xs), .val (fl ys), .val (fl zs), aB, aC, aD, aE, aF]) := by
    simp [A1]
  have t4 : evS (gam g_law) (phi l_law) (.ife (.bop false [(.cmp .ne (.var 4) (.call 3 [(.var 8), (.var 9)])), (.cmp .ne (.var 4) (.call 2 [(.var 3), (.var 9), (.var 8)]))]) [.ret (.bl false)] []) [a0, .own .lst false row4, a2, .val (bd r c), .val (fl (symI xs ys)), a5, a6, a7, .val (fl xs), .val (fl ys), .val (fl zs), aB, aC, aD, aE, aF] = some (.nx [a0, .own .lst false row4, a2, .val (bd r c), .val (fl (symI xs ys)), a5, a6, a7, .val (fl xs), .val (fl ys), .val (fl zs), aB, aC, aD, aE, aF]) := by
    simp [P1, A2, fl_self]
  have t5 : evS (gam g_law) (phi l_law) (.ife (.cmp .ne (.call 2 [(.var 3), (.var 4), (.var 10)]) (.call 2 [(.var 3), (.var 8), (.call 2 [(.var 3), (.var 9), (.var 10)])])) [.ret (.bl false)] []) [a0, .own .lst false row4, a2, .val (bd r c), .val (fl (symI xs ys)), a5, a6, a7, .val (fl xs), .val (fl ys), .val (fl zs), aB, aC, aD, aE, aF] = some (.nx [a0, .own .lst false row4, a2, .val (bd r c), .val (fl (symI xs ys)), a5, a6, a7, .val (fl xs), .val (fl ys), .val (fl zs), aB, aC, aD, aE, aF]) := by
    simp [A3, A4, A5, fl_self]
  have t6 : evS (gam g_law) (phi l_law) (.ife (.cmp .ne (.call 4 [(.var 3), (.var 4)]) (.call 3 [(.call 4 [(.var 3), (.var 8)]), (.call 4 [(.var 3), (.var 9)])])) [.ret (.bl false)] []) [a0, .own .lst false row4, a2, .val (bd r c), .val (fl (symI xs ys)), a5, a6, a7, .val (fl xs), .val (fl ys), .val (fl zs), aB, aC, aD, aE, aF] = some (.nx [a0, .own .lst false row4, a2, .val (bd r c), .val (fl (symI xs ys)), a5, a6, a7, .val (fl xs), .val (fl ys), .val (fl zs), aB, aC, aD, aE, aF]) := by
    simp [C1, C2, C3, P2, fl_self]
  have t7 : evS (gam g_law) (phi l_law) (.ife (.cmp .ne (.call 5 [(.var 3), (.var 4)]) (.call 6 [(.call 5 [(.var 3), (.var 8)]), (.call 5 [(.var 3), (.var 9)])])) [.ret (.bl false)] []) [a0, .own .lst false row4, a2, .val (bd r c), .val (fl (symI xs ys)), a5, a6, a7, .val (fl xs), .val (fl ys), .val (fl zs), aB, aC, aD, aE, aF] = some (.nx [a0, .own .lst false row4, a2, .val (bd r c), .val (fl (symI xs ys)), a5, a6, a7, .val (fl xs), .val (fl ys), .val (fl zs), aB, aC, aD, aE, aF]) := by
    simp [S1, S2, S3, D1, seamsI_self]
  have t8 : evS (gam g_law) (phi l_law) (.ife (.bop false [(.cmp .ne (.call 2 [(.var 3), (.var 8), (.var 8)]) (.tup [])), (.cmp .ne (.call 2 [(.var 3), (.var 8), (.tup [])]) (.var 8))]) [.ret (.bl false)] []) [a0, .own .lst false row4, a2, .val (bd r c), .val (fl (symI xs ys)), a5, a6, a7, .val (fl xs), .val (fl ys), .val (fl zs), aB, aC, aD, aE, aF] = some (.nx [a0, .own .lst false row4, a2, .val (bd r c), .val (fl (symI xs ys)), a5, a6, a7, .val (fl xs), .val (fl ys), .val (fl zs), aB, aC, aD, aE, aF]) := by
    have A6' : f_after [.v (bd r c), .v (fl xs), .v (fl xs)] = some (.tup [], [.v (bd r c), .v (fl xs), .v (fl xs)]) := A6
    have A7' : f_after [.v (bd r c), .v (fl xs), .v (.tup [])] = some (fl xs, [.v (bd r c), .v (fl xs), .v (.tup [])]) := A7
    simp [A6', A7', fl_self, nil_self, LIM]
  have t9 : evS (gam g_law) (phi l_law) (.ife (.bop false [(.cmp .ne (.call 4 [(.var 3), (.tup [])]) (.tup [])), (.cmp .ne (.call 5 [(.var 3), (.tup [])]) (.tup [(.int 0), (.int 0)]))]) [.ret (.bl false)] []) [a0, .own .lst false row4, a2, .val (bd r c), .val (fl (symI xs ys)), a5, a6, a7, .val (fl xs), .val (fl ys), .val (fl zs), aB, aC, aD, aE, aF] = some (.nx [a0, .own .lst false row4, a2, .val (bd r c), .val (fl (symI xs ys)), a5, a6, a7, .val (fl xs), .val (fl ys), .val (fl zs), aB, aC, aD, aE, aF]) := by
    have C4' : f_checks [.v (bd r c), .v (.tup [])] = some (.tup [], [.v (bd r c), .v (.tup [])]) := C4
    have S4' : f_seams [.v (bd r c), .v (.tup [])] = some (bd 0 0, [.v (bd r c), .v (.tup [])]) := S4
    have k : evCmp .ne (bd 0 0) (bd 0 0) = some false := by rw [ne_pair]; simp
    simp [C4', S4', nil_self, k, LIM]
  have t10 : evS (gam g_law) (phi l_law) (.asg [11, 12, 13] (.tup [(.tup []), (.tup [(.int 0), (.int 0)]), (.tup [])])) [a0, .own .lst false row4, a2, .val (bd r c), .val (fl (symI xs ys)), a5, a6, a7, .val (fl xs), .val (fl ys), .val (fl zs), aB, aC, aD, aE, aF] = some (.nx [a0, .own .lst false row4, a2, .val (bd r c), .val (fl (symI xs ys)), a5, a6, a7, .val (fl xs), .val (fl ys), .val (fl zs), .val (.tup []), .val (bd 0 0), .val (.tup []), aE, aF]) := by
    simp [LIM]
  obtain ⟨b5, t11⟩ := v_edges hb fx a0 (.own .lst false row4) a2 (.val (fl (symI xs ys))) a5 a6 a7 (.val (fl ys)) (.val (fl zs)) aE aF
  have t12 : evS (gam g_law) (phi l_law) (.ife (.bop false [(.cmp .ne (.var 11) (.call 4 [(.var 3), (.var 8)])), (.cmp .ne (.var 12) (.call 5 [(.var 3), (.var 8)])), (.cmp .ne (.var 13) (.var 8)), (.cmp .ne (.op .mod (.bi .len [(.var 11)]) (.int 2)) (.int 0))]) [.ret (.bl false)] []) [a0, .own .lst false row4, a2, .val (bd r c), .val (fl (symI xs ys)), b5, a6, a7, .val (fl xs), .val (fl ys), .val (fl zs), .val (fl (litI r c xs)), .val (seamsI r c xs), .val (fl xs), aE, aF] = some (.nx [a0, .own .lst false row4, a2, .val (bd r c), .val (fl (symI xs ys)), b5, a6, a7, .val (fl xs), .val (fl ys), .val (fl zs), .val (fl (litI r c xs)), .val (seamsI r c xs), .val (fl xs), aE, aF]) := by
    have km : ∀ i : Int, evOp .mod (.int i) (.int 2) = some (.int (i % 2)) := fun i => mod_int (by decide)
    have ev' : ((litI r c xs).length : Int) % 2 = 0 := by have : (litI r c xs).length % 2 = 0 := ev; omega
    simp [C2, S2, fl_self, seamsI_self, km, ev']
  have t13 : evS (gam g_law) (phi l_law) (.asg1 6 (.call 7 [(.ref 1), (.op .mul (.ix (.var 3) (.int 0)) (.ix (.var 3) (.int 1)))])) [a0, .own .lst false row4, a2, .val (bd r c), .val (fl (symI xs ys)), b5, a6, a7, .val (fl xs), .val (fl ys), .val (fl zs), .val (fl (litI r c xs)), .val (seamsI r c xs), .val (fl xs), aE, aF] = some (.nx [a0, .own .lst false row5, a2, .val (bd r c), .val (fl (symI xs ys)), b5, .val (.int st), a7, .val (fl xs), .val (fl ys), .val (fl zs), .val (fl (litI r c xs)), .val (seamsI r c xs), .val (fl xs), aE, aF]) := by
    have ms : evOp .mul (.int r) (.int c) = some (.int (r * c)) := mul_int (.inl hb.sm.1)
    simp [e5, ms]
  have t14 : evS (gam g_law) (phi l_law) (.par [14, 15] [(.op .fdiv (.var 6) (.ix (.var 3) (.int 1))), (.op .mod (.bi .int [(.var 6)]) (.ix (.var 3) (.int 1)))]) [a0, .own .lst false row5, a2, .val (bd r c), .val (fl (symI xs ys)), b5, .val (.int st), a7, .val (fl xs), .val (fl ys), .val (fl zs), .val (fl (litI r c xs)), .val (seamsI r c xs), .val (fl xs), aE, aF] = some (.nx [a0, .own .lst false row5, a2, .val (bd r c), .val (fl (symI xs ys)), b5, .val (.int st), a7, .val (fl xs), .val (fl ys), .val (fl zs), .val (fl (litI r c xs)), .val (seamsI r c xs), .val (fl xs), .val (.int (st / c)), .val (.int (st % c))]) := by
    have kd : evOp .fdiv (.int st) (.int c) = some (.int (st / c)) := fdiv_int ⟨by have := hb.c2; omega, by have := hb.c5; omega⟩
    have km : evOp .mod (.int st) (.int c) = some (.int (st % c)) := mod_int (by have := hb.c2; omega)
    simp [kd, km]
  have t15 : evS (gam g_law) (phi l_law) (.asg1 7 (.tup [(.op .mul (.int 2) (.var 6))])) [a0, .own .lst false row5, a2, .val (bd r c), .val (fl (symI xs ys)), b5, .val (.int st), a7, .val (fl xs), .val (fl ys), .val (fl zs), .val (fl (litI r c xs)), .val (seamsI r c xs), .val (fl xs), .val (.int (st / c)), .val (.int (st % c))] = some (.nx [a0, .own .lst false row5, a2, .val (bd r c), .val (fl (symI xs ys)), b5, .val (.int st), .val (.tup [.int (2 * st)]), .val (fl xs), .val (fl ys), .val (fl zs), .val (fl (litI r c xs)), .val (seamsI r c xs), .val (fl xs), .val (.int (st / c)), .val (.int (st % c))]) := by
    have k2 : evOp .mul (.int 2) (.int st) = some (.int (2 * st)) := mul_int (.inl (by decide))
    simp [k2, LIM]
  have t16 : evS (gam g_law) (phi l_law) (.ife (.bop false [(.cmp .ne (.call 5 [(.var 3), (.var 7)]) (.tup [(.bi .int [(.cmp .eq (.var 15) (.op .sub (.ix (.var 3) (.int 1)) (.int 1)))]), (.int 0)])), (.cmp .notin (.var 6) (.call 4 [(.var 3), (.var 7)]))]) [.ret (.bl false)] []) [a0, .own .lst false row5, a2, .val (bd r c), .val (fl (symI xs ys)), b5, .val (.int st), .val (.tup [.int (2 * st)]), .val (fl xs), .val (fl ys), .val (fl zs), .val (fl (litI r c xs)), .val (seamsI r c xs), .val (fl xs), .val (.int (st / c)), .val (.int (st % c))] = some (.nx [a0, .own .lst false row5, a2, .val (bd r c), .val (fl (symI xs ys)), b5, .val (.int st), .val (.tup [.int (2 * st)]), .val (fl xs), .val (fl ys), .val (fl zs), .val (fl (litI r c xs)), .val (seamsI r c xs), .val (fl xs), .val (.int (st / c)), .val (.int (st % c))]) := by
    have C5' : f_checks [.v (bd r c), .v (.tup [.int (2 * st)])] = some (fl (litI r c [2 * st]), [.v (bd r c), .v (.tup [.int (2 * st)])]) := C5
    rw [w3] at S5
    have S5' : f_seams [.v (bd r c), .v (.tup [.int (2 * st)])] = some (bd (if st % c = c - 1 then 1 else 0) 0, [.v (bd r c), .v (.tup [.int (2 * st)])]) := S5
    simp [C5', S5', ne_pair, LIM, w5]
  have t17 : evS (gam g_law) (phi l_law) (.ife (.bop false [(.cmp .ne (.call 5 [(.var 3), (.tup [(.op .add (.op .mul (.int 2) (.var 6)) (.int 1))])]) (.tup [(.int 0), (.bi .int [(.cmp .eq (.var 14) (.op .sub (.ix (.var 3) (.int 0)) (.int 1)))])])), (.cmp .ne (.bi .len [(.call 4 [(.var 3), (.var 7)])]) (.int 2))]) [.ret (.bl false)] []) [a0, .own .lst false row5, a2, .val (bd r c), .val (fl (symI xs ys)), b5, .val (.int st), .val (.tup [.int (2 * st)]), .val (fl xs), .val (fl ys), .val (fl zs), .val (fl (litI r c xs)), .val (seamsI r c xs), .val (fl xs), .val (.int (st / c)), .val (.int (st % c))] = some (.nx [a0, .own .lst false row5, a2, .val (bd r c), .val (fl (symI xs ys)), b5, .val (.int st), .val (.tup [.int (2 * st)]), .val (fl xs), .val (fl ys), .val (fl zs), .val (fl (litI r c xs)), .val (seamsI r c xs), .val (fl xs), .val (.int (st / c)), .val (.int (st % c))]) := by
    have C5' : f_checks [.v (bd r c), .v (.tup [.int (2 * st)])] = some (fl (litI r c [2 * st]), [.v (bd r c), .v (.tup [.int (2 * st)])]) := C5
    rw [w4] at S6
    have S6' : f_seams [.v (bd r c), .v (.tup [.int (2 * st + 1)])] = some (bd 0 (if st / c = r - 1 then 1 else 0), [.v (bd r c), .v (.tup [.int (2 * st + 1)])]) := S6
    have k2 : evOp .mul (.int 2) (.int st) = some (.int (2 * st)) := mul_int (.inl (by decide))
    simp [C5', S6', ne_pair, LIM, w6, k2]
  have all := ev_cons t1 (ev_cons t2 (ev_cons t3 (ev_cons t4 (ev_cons t5 (ev_cons t6 (ev_cons t7 (ev_cons t8 (ev_cons t9 (ev_cons t10 (ev_cons t11 (ev_cons t12 (ev_cons t13 (ev_cons t14 (ev_cons t15 (ev_cons t16 (ev_cons t17 (show evSs (gam g_law) (phi l_law) [] _ = some (.nx _) by rw [evSs])))))))))))))))))
  exact ⟨row5, .val (bd r c), .val (fl (symI xs ys)), b5, .val (.int st), .val (.tup [.int (2 * st)]), .val (fl xs), .val (fl ys), .val (fl zs), .val (fl (litI r c xs)), .val (seamsI r c xs), .val (fl xs), .val (.int (st / c)), .val (.int (st % c)), h5, all⟩
/-- THE LAW, in plain Lean: true at every script -/
theorem v_law (ns : List Int) : ∃ os, f_law [.v (.scr ns)] = some (.bl true, os) := by
  have hin : inR 4 = true := by decide
  have key := forGo_inv (one := true) (t := [2]) (body := fun e => evSs (gam g_law) (phi l_law) tbody e)
    (fun _ env => ∃ row a2 a3 a4 a5 a6 a7 a8 a9 aA aB aC aD aE aF, RowOk row ∧ env = [.val (.scr ns), .own .lst false row, a2, a3, a4, a5, a6, a7, a8, a9, aA, aB, aC, aD, aE, aF]) (ds := rngD 0 4)
    (env := [.val (.scr ns), .own .lst false (.lst [.scr ns, .int 0, .int 0, .int 0]), .none, .none, .none, .none, .none, .none, .none, .none, .none, .none, .none, .none, .none, .none]) 0
    ⟨_, _, _, _, _, _, _, _, _, _, _, _, _, _, _, ⟨ns, 0, 0, 0, rfl, by decide, by decide, by decide⟩, rfl⟩ fun i d env hi ⟨row, a2, a3, a4, a5, a6, a7, a8, a9, aA, aB, aC, aD, aE, aF, hr, e⟩ => by
      subst e
      obtain ⟨row', b3, b4, b5, b6, b7, b8, b9, bA, bB, bC, bD, bE, bF, hr', ev⟩ := v_turn (a0 := .val (.scr ns)) (a2 := .val d) (a3 := a3) (a4 := a4) (a5 := a5) (a6 := a6) (a7 := a7) (a8 := a8) (a9 := a9) (aA := aA) (aB := aB) (aC := aC) (aD := aD) (aE := aE) (aF := aF) hr
      exact ⟨_, _, by simp, ev, row', .val d, b3, b4, b5, b6, b7, b8, b9, bA, bB, bC, bD, bE, bF, hr', rfl⟩
  obtain ⟨env', e, row, a2, a3, a4, a5, a6, a7, a8, a9, aA, aB, aC, aD, aE, aF, hr, rfl⟩ := key
  have ef := ev_for (G := gam g_law) (Φ := phi l_law) (src := .rng [(.int 4)]) (ds := rngD 0 4) (env := [.val (.scr ns), .own .lst false (.lst [.scr ns, .int 0, .int 0, .int 0]), .none, .none, .none, .none, .none, .none, .none, .none, .none, .none, .none, .none, .none, .none]) (env1 := [.val (.scr ns), .own .lst false (.lst [.scr ns, .int 0, .int 0, .int 0]), .none, .none, .none, .none, .none, .none, .none, .none, .none, .none, .none, .none, .none, .none]) (by simp [hin]) e
  refine ⟨[.v (.scr ns)], ?_⟩
  unfold f_law runF
  rw [b_law_eq]
  simp [LIM, ef]
end Sb

namespace Sb
open PySem PySem.Spec PyProof.Rows L2
section
variable {P : Program} {w : World} {K : PySem.W.Frag} {mg : Str → Option Value} {base : Heap}
structure Txt (K : PySem.W.Frag) (mg : Str → Option Value) : Prop where
  d_is_number : DefR K mg "is_number" (top 7)
  d_need_board : DefR K mg "need_board" (top 8)
  d_many_sites : DefR K mg "many_sites" (top 9)
  d_bad_place : DefR K mg "bad_place" (top 10)
  d_need_flips : DefR K mg "need_flips" (top 11)
  d_right_of : DefR K mg "right_of" (top 12)
  d_below : DefR K mg "below" (top 13)
  d_ends_of : DefR K mg "ends_of" (top 14)
  d_seam_of : DefR K mg "seam_of" (top 15)
  d_both : DefR K mg "both" (top 16)
  d_crossed : DefR K mg "crossed" (top 17)
  d_lit_by : DefR K mg "lit_by" (top 18)
  d_seams_by : DefR K mg "seams_by" (top 19)
  d_checks : DefR K mg "checks" (top 20)
  d_seams : DefR K mg "seams" (top 21)
  d_after : DefR K mg "after" (top 22)
  d_law_taken : DefR K mg "_law_taken" (top 24)
  d_law_board : DefR K mg "_law_board" (top 25)
  d_law_some : DefR K mg "_law_some" (top 26)
  d_law_flips : DefR K mg "_law_flips" (top 27)
  d_law_apart : DefR K mg "_law_apart" (top 28)
  d_law_side : DefR K mg "_law_side" (top 29)
  d_law : DefR K mg "law" (top 30)
  b_all : mg "all" = none
  b_bool : mg "bool" = none
  b_enumerate : mg "enumerate" = none
  b_int : mg "int" = none
  b_isinstance : mg "isinstance" = none
  b_len : mg "len" = none
  b_list : mg "list" = none
  b_min : mg "min" = none
  b_range : mg "range" = none
  b_set : mg "set" = none
  b_sorted : mg "sorted" = none
  b_tuple : mg "tuple" = none
  g_LEAST_SIDE : ∃ u v, mg "LEAST_SIDE" = some u ∧ RelV v u ∧ ∀ F, Rep K F (.int 2) v
  g_MOST_SIDE : ∃ u v, mg "MOST_SIDE" = some u ∧ RelV v u ∧ ∀ F, Rep K F (.int 5) v
theorem at_is_number (T : Txt K mg) : DefAt P w K mg base "is_number" 3 1 f_is_number := by
  refine T.d_is_number.at owed (k := 0) (fns := l_is_number) (gl := g_is_number) (blt := ["isinstance", "int", "bool"]) s_is_number (fun _ _ _ _ _ _ us hl => match us, hl with | [_, _, _], _ => rfl) c_is_number ?_ ?_ ?_
  · intro y hy
    simp only [List.mem_cons, List.not_mem_nil, or_false] at hy
    rcases hy with rfl | rfl | rfl
    · exact T.b_isinstance
    · exact T.b_int
    · exact T.b_bool
  · intro p hp
    cases hp
  · intro p hp
    cases hp
theorem at_need_board (T : Txt K mg) : DefAt P w K mg base "need_board" 1 2 f_need_board := by
  refine T.d_need_board.at owed (k := 1) (fns := l_need_board) (gl := g_need_board) (blt := ["isinstance", "tuple", "len", "all"]) s_need_board (fun _ _ _ _ _ _ us hl => match us, hl with | [_], _ => rfl) c_need_board ?_ ?_ ?_
  · intro y hy
    simp only [List.mem_cons, List.not_mem_nil, or_false] at hy
    rcases hy with rfl | rfl | rfl | rfl
    · exact T.b_isinstance
    · exact T.b_tuple
    · exact T.b_len
    · exact T.b_all
  · intro p hp
    simp only [g_need_board, List.mem_cons, List.not_mem_nil, or_false] at hp
    rcases hp with rfl | rfl
    · exact T.g_LEAST_SIDE
    · exact T.g_MOST_SIDE
  · intro p hp
    simp only [l_need_board, List.mem_cons, List.not_mem_nil, or_false] at hp
    rcases hp with rfl
    · exact (at_is_number T).mono (by decide)
theorem at_many_sites (T : Txt K mg) : DefAt P w K mg base "many_sites" 1 1 f_many_sites := by
  refine T.d_many_sites.at owed (k := 0) (fns := l_many_sites) (gl := g_many_sites) (blt := []) s_many_sites (fun _ _ _ _ _ _ us hl => match us, hl with | [_], _ => rfl) c_many_sites ?_ ?_ ?_
  · intro y hy
    cases hy
  · intro p hp
    cases hp
  · intro p hp
    cases hp
theorem at_bad_place (T : Txt K mg) : DefAt P w K mg base "bad_place" 2 2 f_bad_place := by
  refine T.d_bad_place.at owed (k := 1) (fns := l_bad_place) (gl := g_bad_place) (blt := ["isinstance", "tuple", "enumerate"]) s_bad_place (fun _ _ _ _ _ _ us hl => match us, hl with | [_, _], _ => rfl) c_bad_place ?_ ?_ ?_
  · intro y hy
    simp only [List.mem_cons, List.not_mem_nil, or_false] at hy
    rcases hy with rfl | rfl | rfl
    · exact T.b_isinstance
    · exact T.b_tuple
    · exact T.b_enumerate
  · intro p hp
    cases hp
  · intro p hp
    simp only [l_bad_place, List.mem_cons, List.not_mem_nil, or_false] at hp
    rcases hp with rfl
    · exact (at_is_number T).mono (by decide)
theorem at_need_flips (T : Txt K mg) : DefAt P w K mg base "need_flips" 2 3 f_need_flips := by
  refine T.d_need_flips.at owed (k := 2) (fns := l_need_flips) (gl := g_need_flips) (blt := []) s_need_flips (fun _ _ _ _ _ _ us hl => match us, hl with | [_, _], _ => rfl) c_need_flips ?_ ?_ ?_
  · intro y hy
    cases hy
  · intro p hp
    cases hp
  · intro p hp
    simp only [l_need_flips, List.mem_cons, List.not_mem_nil, or_false] at hp
    rcases hp with rfl | rfl
    · exact (at_bad_place T).mono (by decide)
    · exact (at_many_sites T).mono (by decide)
theorem at_right_of (T : Txt K mg) : DefAt P w K mg base "right_of" 2 1 f_right_of := by
  refine T.d_right_of.at owed (k := 0) (fns := l_right_of) (gl := g_right_of) (blt := []) s_right_of (fun _ _ _ _ _ _ us hl => match us, hl with | [_, _], _ => rfl) c_right_of ?_ ?_ ?_
  · intro y hy
    cases hy
  · intro p hp
    cases hp
  · intro p hp
    cases hp
theorem at_below (T : Txt K mg) : DefAt P w K mg base "below" 2 2 f_below := by
  refine T.d_below.at owed (k := 1) (fns := l_below) (gl := g_below) (blt := []) s_below (fun _ _ _ _ _ _ us hl => match us, hl with | [_, _], _ => rfl) c_below ?_ ?_ ?_
  · intro y hy
    cases hy
  · intro p hp
    cases hp
  · intro p hp
    simp only [l_below, List.mem_cons, List.not_mem_nil, or_false] at hp
    rcases hp with rfl
    · exact (at_many_sites T).mono (by decide)
theorem at_ends_of (T : Txt K mg) : DefAt P w K mg base "ends_of" 2 3 f_ends_of := by
  refine T.d_ends_of.at owed (k := 2) (fns := l_ends_of) (gl := g_ends_of) (blt := []) s_ends_of (fun _ _ _ _ _ _ us hl => match us, hl with | [_, _], _ => rfl) c_ends_of ?_ ?_ ?_
  · intro y hy
    cases hy
  · intro p hp
    cases hp
  · intro p hp
    simp only [l_ends_of, List.mem_cons, List.not_mem_nil, or_false] at hp
    rcases hp with rfl | rfl
    · exact (at_right_of T).mono (by decide)
    · exact (at_below T).mono (by decide)
theorem at_seam_of (T : Txt K mg) : DefAt P w K mg base "seam_of" 2 1 f_seam_of := by
  refine T.d_seam_of.at owed (k := 0) (fns := l_seam_of) (gl := g_seam_of) (blt := ["int"]) s_seam_of (fun _ _ _ _ _ _ us hl => match us, hl with | [_, _], _ => rfl) c_seam_of ?_ ?_ ?_
  · intro y hy
    simp only [List.mem_cons, List.not_mem_nil, or_false] at hy
    rcases hy with rfl
    · exact T.b_int
  · intro p hp
    cases hp
  · intro p hp
    cases hp
theorem at_both (T : Txt K mg) : DefAt P w K mg base "both" 2 1 f_both := by
  refine T.d_both.at owed (k := 0) (fns := l_both) (gl := g_both) (blt := ["tuple", "sorted", "set"]) s_both (fun _ _ _ _ _ _ us hl => match us, hl with | [_, _], _ => rfl) c_both ?_ ?_ ?_
  · intro y hy
    simp only [List.mem_cons, List.not_mem_nil, or_false] at hy
    rcases hy with rfl | rfl | rfl
    · exact T.b_tuple
    · exact T.b_sorted
    · exact T.b_set
  · intro p hp
    cases hp
  · intro p hp
    cases hp
theorem at_crossed (T : Txt K mg) : DefAt P w K mg base "crossed" 2 1 f_crossed := by
  refine T.d_crossed.at owed (k := 0) (fns := l_crossed) (gl := g_crossed) (blt := []) s_crossed (fun _ _ _ _ _ _ us hl => match us, hl with | [_, _], _ => rfl) c_crossed ?_ ?_ ?_
  · intro y hy
    cases hy
  · intro p hp
    cases hp
  · intro p hp
    cases hp
theorem at_lit_by (T : Txt K mg) : DefAt P w K mg base "lit_by" 2 4 f_lit_by := by
  refine T.d_lit_by.at owed (k := 3) (fns := l_lit_by) (gl := g_lit_by) (blt := []) s_lit_by (fun _ _ _ _ _ _ us hl => match us, hl with | [_, _], _ => rfl) c_lit_by ?_ ?_ ?_
  · intro y hy
    cases hy
  · intro p hp
    cases hp
  · intro p hp
    simp only [l_lit_by, List.mem_cons, List.not_mem_nil, or_false] at hp
    rcases hp with rfl | rfl
    · exact (at_both T).mono (by decide)
    · exact (at_ends_of T).mono (by decide)
theorem at_seams_by (T : Txt K mg) : DefAt P w K mg base "seams_by" 2 2 f_seams_by := by
  refine T.d_seams_by.at owed (k := 1) (fns := l_seams_by) (gl := g_seams_by) (blt := []) s_seams_by (fun _ _ _ _ _ _ us hl => match us, hl with | [_, _], _ => rfl) c_seams_by ?_ ?_ ?_
  · intro y hy
    cases hy
  · intro p hp
    cases hp
  · intro p hp
    simp only [l_seams_by, List.mem_cons, List.not_mem_nil, or_false] at hp
    rcases hp with rfl | rfl
    · exact (at_crossed T).mono (by decide)
    · exact (at_seam_of T).mono (by decide)
theorem at_checks (T : Txt K mg) : DefAt P w K mg base "checks" 2 5 f_checks := by
  refine T.d_checks.at owed (k := 4) (fns := l_checks) (gl := g_checks) (blt := []) s_checks (fun _ _ _ _ _ _ us hl => match us, hl with | [_, _], _ => rfl) c_checks ?_ ?_ ?_
  · intro y hy
    cases hy
  · intro p hp
    cases hp
  · intro p hp
    simp only [l_checks, List.mem_cons, List.not_mem_nil, or_false] at hp
    rcases hp with rfl | rfl | rfl
    · exact (at_need_board T).mono (by decide)
    · exact (at_need_flips T).mono (by decide)
    · exact (at_lit_by T).mono (by decide)
theorem at_seams (T : Txt K mg) : DefAt P w K mg base "seams" 2 4 f_seams := by
  refine T.d_seams.at owed (k := 3) (fns := l_seams) (gl := g_seams) (blt := []) s_seams (fun _ _ _ _ _ _ us hl => match us, hl with | [_, _], _ => rfl) c_seams ?_ ?_ ?_
  · intro y hy
    cases hy
  · intro p hp
    cases hp
  · intro p hp
    simp only [l_seams, List.mem_cons, List.not_mem_nil, or_false] at hp
    rcases hp with rfl | rfl | rfl
    · exact (at_need_board T).mono (by decide)
    · exact (at_need_flips T).mono (by decide)
    · exact (at_seams_by T).mono (by decide)
theorem at_after (T : Txt K mg) : DefAt P w K mg base "after" 3 4 f_after := by
  refine T.d_after.at owed (k := 3) (fns := l_after) (gl := g_after) (blt := []) s_after (fun _ _ _ _ _ _ us hl => match us, hl with | [_, _, _], _ => rfl) c_after ?_ ?_ ?_
  · intro y hy
    cases hy
  · intro p hp
    cases hp
  · intro p hp
    simp only [l_after, List.mem_cons, List.not_mem_nil, or_false] at hp
    rcases hp with rfl | rfl | rfl
    · exact (at_need_board T).mono (by decide)
    · exact (at_need_flips T).mono (by decide)
    · exact (at_both T).mono (by decide)
theorem at_law_taken (T : Txt K mg) : DefAt P w K mg base "_law_taken" 2 1 f_law_taken := by
  refine T.d_law_taken.at owed (k := 0) (fns := l_law_taken) (gl := g_law_taken) (blt := ["int", "len"]) s_law_taken (fun _ _ _ _ _ _ us hl => match us, hl with | [_, _], _ => rfl) c_law_taken ?_ ?_ ?_
  · intro y hy
    simp only [List.mem_cons, List.not_mem_nil, or_false] at hy
    rcases hy with rfl | rfl
    · exact T.b_int
    · exact T.b_len
  · intro p hp
    cases hp
  · intro p hp
    cases hp
theorem at_law_board (T : Txt K mg) : DefAt P w K mg base "_law_board" 2 2 f_law_board := by
  refine T.d_law_board.at owed (k := 1) (fns := l_law_board) (gl := g_law_board) (blt := []) s_law_board (fun _ _ _ _ _ _ us hl => match us, hl with | [_, _], _ => rfl) c_law_board ?_ ?_ ?_
  · intro y hy
    cases hy
  · intro p hp
    cases hp
  · intro p hp
    simp only [l_law_board, List.mem_cons, List.not_mem_nil, or_false] at hp
    rcases hp with rfl
    · exact (at_law_taken T).mono (by decide)
theorem at_law_some (T : Txt K mg) : DefAt P w K mg base "_law_some" 3 2 f_law_some := by
  refine T.d_law_some.at owed (k := 1) (fns := l_law_some) (gl := g_law_some) (blt := ["range", "min", "int", "tuple", "sorted"]) s_law_some (fun _ _ _ _ _ _ us hl => match us, hl with | [_, _, _], _ => rfl) c_law_some ?_ ?_ ?_
  · intro y hy
    simp only [List.mem_cons, List.not_mem_nil, or_false] at hy
    rcases hy with rfl | rfl | rfl | rfl | rfl
    · exact T.b_range
    · exact T.b_min
    · exact T.b_int
    · exact T.b_tuple
    · exact T.b_sorted
  · intro p hp
    cases hp
  · intro p hp
    simp only [l_law_some, List.mem_cons, List.not_mem_nil, or_false] at hp
    rcases hp with rfl
    · exact (at_law_taken T).mono (by decide)
theorem at_law_flips (T : Txt K mg) : DefAt P w K mg base "_law_flips" 2 3 f_law_flips := by
  refine T.d_law_flips.at owed (k := 2) (fns := l_law_flips) (gl := g_law_flips) (blt := ["list", "range", "tuple"]) s_law_flips (fun _ _ _ _ _ _ us hl => match us, hl with | [_, _], _ => rfl) c_law_flips ?_ ?_ ?_
  · intro y hy
    simp only [List.mem_cons, List.not_mem_nil, or_false] at hy
    rcases hy with rfl | rfl | rfl
    · exact T.b_list
    · exact T.b_range
    · exact T.b_tuple
  · intro p hp
    cases hp
  · intro p hp
    simp only [l_law_flips, List.mem_cons, List.not_mem_nil, or_false] at hp
    rcases hp with rfl | rfl
    · exact (at_law_some T).mono (by decide)
    · exact (at_law_taken T).mono (by decide)
theorem at_law_apart (T : Txt K mg) : DefAt P w K mg base "_law_apart" 2 1 f_law_apart := by
  refine T.d_law_apart.at owed (k := 0) (fns := l_law_apart) (gl := g_law_apart) (blt := ["tuple", "sorted"]) s_law_apart (fun _ _ _ _ _ _ us hl => match us, hl with | [_, _], _ => rfl) c_law_apart ?_ ?_ ?_
  · intro y hy
    simp only [List.mem_cons, List.not_mem_nil, or_false] at hy
    rcases hy with rfl | rfl
    · exact T.b_tuple
    · exact T.b_sorted
  · intro p hp
    cases hp
  · intro p hp
    cases hp
theorem at_law_side (T : Txt K mg) : DefAt P w K mg base "_law_side" 2 1 f_law_side := by
  refine T.d_law_side.at owed (k := 0) (fns := l_law_side) (gl := g_law_side) (blt := ["int"]) s_law_side (fun _ _ _ _ _ _ us hl => match us, hl with | [_, _], _ => rfl) c_law_side ?_ ?_ ?_
  · intro y hy
    simp only [List.mem_cons, List.not_mem_nil, or_false] at hy
    rcases hy with rfl
    · exact T.b_int
  · intro p hp
    cases hp
  · intro p hp
    cases hp
theorem fn_law (T : Txt K mg) {f : Addr} {fd : FuncData} (F : Fun K "law" "law" (top 30) f fd) : FnOk P w K mg base CX0 6 f fd ["_law_script"] (spOf K f_law 1) := by
  refine fn_worth owed F (k := 5) (fns := l_law) (gl := g_law) (blt := ["range", "len", "int"]) s_law c_law ?_ ?_ ?_
  · intro y hy
    simp only [List.mem_cons, List.not_mem_nil, or_false] at hy
    rcases hy with rfl | rfl | rfl
    · exact T.b_range
    · exact T.b_len
    · exact T.b_int
  · intro p hp
    cases hp
  · intro p hp
    simp only [l_law, List.mem_cons, List.not_mem_nil, or_false] at hp
    rcases hp with rfl | rfl | rfl | rfl | rfl | rfl | rfl | rfl
    · exact (at_law_board T).mono (by decide)
    · exact (at_law_flips T).mono (by decide)
    · exact (at_after T).mono (by decide)
    · exact (at_law_apart T).mono (by decide)
    · exact (at_checks T).mono (by decide)
    · exact (at_seams T).mono (by decide)
    · exact (at_law_side T).mono (by decide)
    · exact (at_law_taken T).mono (by decide)
end
/-! the top, the head -/
theorem all_mk {l : PySem.W.OpenLaw} {w : World} {K : PySem.W.Frag} {h : Heap} {mg : Str → Option Value} {fa f0 f1 f2 f3 f4 f5 f6 f7 f8 f9 f10 f11 f12 f13 f14 f15 f16 f17 f18 f19 f20 f21 f22 : Addr} (X : K.In h) (G : h.Ns mainGlobals mg) (hfa : mg "law" = some (.ref fa))
    {od0 an0 od1 an1 od2 an2 od3 an3 od4 an4 od5 an5 od6 an6 od7 an7 od8 an8 od9 an9 od10 an10 od11 an11 od12 an12 od13 an13 od14 an14 od15 an15 od16 an16 od17 an17 od18 an18 od19 an19 od20 an20 od21 an21 od22 an22 : Option Addr} {sl0 sl1 sl2 sl3 sl4 sl5 sl6 sl7 sl8 sl9 sl10 sl11 sl12 sl13 sl14 sl15 sl16 sl17 sl18 sl19 sl20 sl21 sl22 : Array (Option Value)} {oc0 kV0 dc0 pm0 cd0 ct0 oc1 kV1 dc1 pm1 cd1 ct1 oc2 kV2 dc2 pm2 cd2 ct2 oc3 kV3 dc3 pm3 cd3 ct3 oc4 kV4 dc4 pm4 cd4 ct4 oc5 kV5 dc5 pm5 cd5 ct5 oc6 kV6 dc6 pm6 cd6 ct6 oc7 kV7 dc7 pm7 cd7 ct7 oc8 kV8 dc8 pm8 cd8 ct8 oc9 kV9 dc9 pm9 cd9 ct9 oc10 kV10 dc10 pm10 cd10 ct10 oc11 kV11 dc11 pm11 cd11 ct11 oc12 kV12 dc12 pm12 cd12 ct12 oc13 kV13 dc13 pm13 cd13 ct13 oc14 kV14 dc14 pm14 cd14 ct14 oc15 kV15 dc15 pm15 cd15 ct15 oc16 kV16 dc16 pm16 cd16 ct16 oc17 kV17 dc17 pm17 cd17 ct17 oc18 kV18 dc18 pm18 cd18 ct18 oc19 kV19 dc19 pm19 cd19 ct19 oc20 kV20 dc20 pm20 cd20 ct20 oc21 kV21 dc21 pm21 cd21 ct21 oc22 kV22 dc22 pm22 cd22 ct22 : Value} {t_LEAST_SIDE t_MOST_SIDE : Tok}
    (a0 : PySem.W.nsIn K mainGlobals "is_number" = some (some (.ref f0))) (l0 : K.lookup f0 = some ⟨oc0, od0, .func (PySem.W.fnOf "is_number" "is_number" (defArgs (top 7)) (defBody (top 7)) (defScope (top 7)) .none kV0 dc0 pm0 an0 cd0 ct0), sl0⟩) (c0 : PySem.W.codeIn K cd0 "is_number" = true) (k0 : PySem.W.keepIn K (.ref f0) = true)
    (a1 : PySem.W.nsIn K mainGlobals "need_board" = some (some (.ref f1))) (l1 : K.lookup f1 = some ⟨oc1, od1, .func (PySem.W.fnOf "need_board" "need_board" (defArgs (top 8)) (defBody (top 8)) (defScope (top 8)) .none kV1 dc1 pm1 an1 cd1 ct1), sl1⟩) (c1 : PySem.W.codeIn K cd1 "need_board" = true) (k1 : PySem.W.keepIn K (.ref f1) = true)
    (a2 : PySem.W.nsIn K mainGlobals "many_sites" = some (some (.ref f2))) (l2 : K.lookup f2 = some ⟨oc2, od2, .func (PySem.W.fnOf "many_sites" "many_sites" (defArgs (top 9)) (defBody (top 9)) (defScope (top 9)) .none kV2 dc2 pm2 an2 cd2 ct2), sl2⟩) (c2 : PySem.W.codeIn K cd2 "many_sites" = true) (k2 : PySem.W.keepIn K (.ref f2) = true)
    (a3 : PySem.W.nsIn K mainGlobals "bad_place" = some (some (.ref f3))) (l3 : K.lookup f3 = some ⟨oc3, od3, .func (PySem.W.fnOf "bad_place" "bad_place" (defArgs (top 10)) (defBody (top 10)) (defScope (top 10)) .none kV3 dc3 pm3 an3 cd3 ct3), sl3⟩) (c3 : PySem.W.codeIn K cd3 "bad_place" = true) (k3 : PySem.W.keepIn K (.ref f3) = true)
    (a4 : PySem.W.nsIn K mainGlobals "need_flips" = some (some (.ref f4))) (l4 : K.lookup f4 = some ⟨oc4, od4, .func (PySem.W.fnOf "need_flips" "need_flips" (defArgs (top 11)) (defBody (top 11)) (defScope (top 11)) .none kV4 dc4 pm4 an4 cd4 ct4), sl4⟩) (c4 : PySem.W.codeIn K cd4 "need_flips" = true) (k4 : PySem.W.keepIn K (.ref f4) = true)
    (a5 : PySem.W.nsIn K mainGlobals "right_of" = some (some (.ref f5))) (l5 : K.lookup f5 = some ⟨oc5, od5, .func (PySem.W.fnOf "right_of" "right_of" (defArgs (top 12)) (defBody (top 12)) (defScope (top 12)) .none kV5 dc5 pm5 an5 cd5 ct5), sl5⟩) (c5 : PySem.W.codeIn K cd5 "right_of" = true) (k5 : PySem.W.keepIn K (.ref f5) = true)
    (a6 : PySem.W.nsIn K mainGlobals "below" = some (some (.ref f6))) (l6 : K.lookup f6 = some ⟨oc6, od6, .func (PySem.W.fnOf "below" "below" (defArgs (top 13)) (defBody (top 13)) (defScope (top 13)) .none kV6 dc6 pm6 an6 cd6 ct6), sl6⟩) (c6 : PySem.W.codeIn K cd6 "below" = true) (k6 : PySem.W.keepIn K (.ref f6) = true)
    (a7 : PySem.W.nsIn K mainGlobals "ends_of" = some (some (.ref f7))) (l7 : K.lookup f7 = some ⟨oc7, od7, .func (PySem.W.fnOf "ends_of" "ends_of" (defArgs (top 14)) (defBody (top 14)) (defScope (top 14)) .none kV7 dc7 pm7 an7 cd7 ct7), sl7⟩) (c7 : PySem.W.codeIn K cd7 "ends_of" = true) (k7 : PySem.W.keepIn K (.ref f7) = true)
    (a8 : PySem.W.nsIn K mainGlobals "seam_of" = some (some (.ref f8))) (l8 : K.lookup f8 = some ⟨oc8, od8, .func (PySem.W.fnOf "seam_of" "seam_of" (defArgs (top 15)) (defBody (top 15)) (defScope (top 15)) .none kV8 dc8 pm8 an8 cd8 ct8), sl8⟩) (c8 : PySem.W.codeIn K cd8 "seam_of" = true) (k8 : PySem.W.keepIn K (.ref f8) = true)
    (a9 : PySem.W.nsIn K mainGlobals "both" = some (some (.ref f9))) (l9 : K.lookup f9 = some ⟨oc9, od9, .func (PySem.W.fnOf "both" "both" (defArgs (top 16)) (defBody (top 16)) (defScope (top 16)) .none kV9 dc9 pm9 an9 cd9 ct9), sl9⟩) (c9 : PySem.W.codeIn K cd9 "both" = true) (k9 : PySem.W.keepIn K (.ref f9) = true)
    (a10 : PySem.W.nsIn K mainGlobals "crossed" = some (some (.ref f10))) (l10 : K.lookup f10 = some ⟨oc10, od10, .func (PySem.W.fnOf "crossed" "crossed" (defArgs (top 17)) (defBody (top 17)) (defScope (top 17)) .none kV10 dc10 pm10 an10 cd10 ct10), sl10⟩) (c10 : PySem.W.codeIn K cd10 "crossed" = true) (k10 : PySem.W.keepIn K (.ref f10) = true)
    (a11 : PySem.W.nsIn K mainGlobals "lit_by" = some (some (.ref f11))) (l11 : K.lookup f11 = some ⟨oc11, od11, .func (PySem.W.fnOf "lit_by" "lit_by" (defArgs (top 18)) (defBody (top 18)) (defScope (top 18)) .none kV11 dc11 pm11 an11 cd11 ct11), sl11⟩) (c11 : PySem.W.codeIn K cd11 "lit_by" = true) (k11 : PySem.W.keepIn K (.ref f11) = true)
    (a12 : PySem.W.nsIn K mainGlobals "seams_by" = some (some (.ref f12))) (l12 : K.lookup f12 = some ⟨oc12, od12, .func (PySem.W.fnOf "seams_by" "seams_by" (defArgs (top 19)) (defBody (top 19)) (defScope (top 19)) .none kV12 dc12 pm12 an12 cd12 ct12), sl12⟩) (c12 : PySem.W.codeIn K cd12 "seams_by" = true) (k12 : PySem.W.keepIn K (.ref f12) = true)
    (a13 : PySem.W.nsIn K mainGlobals "checks" = some (some (.ref f13))) (l13 : K.lookup f13 = some ⟨oc13, od13, .func (PySem.W.fnOf "checks" "checks" (defArgs (top 20)) (defBody (top 20)) (defScope (top 20)) .none kV13 dc13 pm13 an13 cd13 ct13), sl13⟩) (c13 : PySem.W.codeIn K cd13 "checks" = true) (k13 : PySem.W.keepIn K (.ref f13) = true)
    (a14 : PySem.W.nsIn K mainGlobals "seams" = some (some (.ref f14))) (l14 : K.lookup f14 = some ⟨oc14, od14, .func (PySem.W.fnOf "seams" "seams" (defArgs (top 21)) (defBody (top 21)) (defScope (top 21)) .none kV14 dc14 pm14 an14 cd14 ct14), sl14⟩) (c14 : PySem.W.codeIn K cd14 "seams" = true) (k14 : PySem.W.keepIn K (.ref f14) = true)
    (a15 : PySem.W.nsIn K mainGlobals "after" = some (some (.ref f15))) (l15 : K.lookup f15 = some ⟨oc15, od15, .func (PySem.W.fnOf "after" "after" (defArgs (top 22)) (defBody (top 22)) (defScope (top 22)) .none kV15 dc15 pm15 an15 cd15 ct15), sl15⟩) (c15 : PySem.W.codeIn K cd15 "after" = true) (k15 : PySem.W.keepIn K (.ref f15) = true)
    (a16 : PySem.W.nsIn K mainGlobals "_law_taken" = some (some (.ref f16))) (l16 : K.lookup f16 = some ⟨oc16, od16, .func (PySem.W.fnOf "_law_taken" "_law_taken" (defArgs (top 24)) (defBody (top 24)) (defScope (top 24)) .none kV16 dc16 pm16 an16 cd16 ct16), sl16⟩) (c16 : PySem.W.codeIn K cd16 "_law_taken" = true) (k16 : PySem.W.keepIn K (.ref f16) = true)
    (a17 : PySem.W.nsIn K mainGlobals "_law_board" = some (some (.ref f17))) (l17 : K.lookup f17 = some ⟨oc17, od17, .func (PySem.W.fnOf "_law_board" "_law_board" (defArgs (top 25)) (defBody (top 25)) (defScope (top 25)) .none kV17 dc17 pm17 an17 cd17 ct17), sl17⟩) (c17 : PySem.W.codeIn K cd17 "_law_board" = true) (k17 : PySem.W.keepIn K (.ref f17) = true)
    (a18 : PySem.W.nsIn K mainGlobals "_law_some" = some (some (.ref f18))) (l18 : K.lookup f18 = some ⟨oc18, od18, .func (PySem.W.fnOf "_law_some" "_law_some" (defArgs (top 26)) (defBody (top 26)) (defScope (top 26)) .none kV18 dc18 pm18 an18 cd18 ct18), sl18⟩) (c18 : PySem.W.codeIn K cd18 "_law_some" = true) (k18 : PySem.W.keepIn K (.ref f18) = true)
    (a19 : PySem.W.nsIn K mainGlobals "_law_flips" = some (some (.ref f19))) (l19 : K.lookup f19 = some ⟨oc19, od19, .func (PySem.W.fnOf "_law_flips" "_law_flips" (defArgs (top 27)) (defBody (top 27)) (defScope (top 27)) .none kV19 dc19 pm19 an19 cd19 ct19), sl19⟩) (c19 : PySem.W.codeIn K cd19 "_law_flips" = true) (k19 : PySem.W.keepIn K (.ref f19) = true)
    (a20 : PySem.W.nsIn K mainGlobals "_law_apart" = some (some (.ref f20))) (l20 : K.lookup f20 = some ⟨oc20, od20, .func (PySem.W.fnOf "_law_apart" "_law_apart" (defArgs (top 28)) (defBody (top 28)) (defScope (top 28)) .none kV20 dc20 pm20 an20 cd20 ct20), sl20⟩) (c20 : PySem.W.codeIn K cd20 "_law_apart" = true) (k20 : PySem.W.keepIn K (.ref f20) = true)
    (a21 : PySem.W.nsIn K mainGlobals "_law_side" = some (some (.ref f21))) (l21 : K.lookup f21 = some ⟨oc21, od21, .func (PySem.W.fnOf "_law_side" "_law_side" (defArgs (top 29)) (defBody (top 29)) (defScope (top 29)) .none kV21 dc21 pm21 an21 cd21 ct21), sl21⟩) (c21 : PySem.W.codeIn K cd21 "_law_side" = true) (k21 : PySem.W.keepIn K (.ref f21) = true)
    (a22 : PySem.W.nsIn K mainGlobals "law" = some (some (.ref f22))) (l22 : K.lookup f22 = some ⟨oc22, od22, .func (PySem.W.fnOf "law" "law" (defArgs (top 30)) (defBody (top 30)) (defScope (top 30)) .none kV22 dc22 pm22 an22 cd22 ct22), sl22⟩) (c22 : PySem.W.codeIn K cd22 "law" = true) (k22 : PySem.W.keepIn K (.ref f22) = true)
    (z_all : PySem.W.nsIn K mainGlobals "all" = some none)
    (z_bool : PySem.W.nsIn K mainGlobals "bool" = some none)
    (z_enumerate : PySem.W.nsIn K mainGlobals "enumerate" = some none)
    (z_int : PySem.W.nsIn K mainGlobals "int" = some none)
    (z_isinstance : PySem.W.nsIn K mainGlobals "isinstance" = some none)
    (z_len : PySem.W.nsIn K mainGlobals "len" = some none)
    (z_list : PySem.W.nsIn K mainGlobals "list" = some none)
    (z_min : PySem.W.nsIn K mainGlobals "min" = some none)
    (z_range : PySem.W.nsIn K mainGlobals "range" = some none)
    (z_set : PySem.W.nsIn K mainGlobals "set" = some none)
    (z_sorted : PySem.W.nsIn K mainGlobals "sorted" = some none)
    (z_tuple : PySem.W.nsIn K mainGlobals "tuple" = some none)
    (y_LEAST_SIDE : PySem.W.nsIn K mainGlobals "LEAST_SIDE" = some (some (.int 2 t_LEAST_SIDE)))
    (y_MOST_SIDE : PySem.W.nsIn K mainGlobals "MOST_SIDE" = some (some (.int 5 t_MOST_SIDE))) :
    ∃ fd : FuncData, (∀ (s : Shared) (v : Value), BindsTo s fd ⟨[v], []⟩ [("_law_script", v)]) ∧ ∀ base : Heap, K.In base → base.Ns mainGlobals mg → FnOk l.prog w K mg base CX0 6 fa fd ["_law_script"] (spLaw K) := by
  have e := hfa.symm.trans (PySem.W.mg_of X G a22)
  cases e
  have T : Txt K mg := ⟨def_mk X G a0 l0 c0 k0, def_mk X G a1 l1 c1 k1, def_mk X G a2 l2 c2 k2, def_mk X G a3 l3 c3 k3, def_mk X G a4 l4 c4 k4, def_mk X G a5 l5 c5 k5, def_mk X G a6 l6 c6 k6, def_mk X G a7 l7 c7 k7, def_mk X G a8 l8 c8 k8, def_mk X G a9 l9 c9 k9, def_mk X G a10 l10 c10 k10, def_mk X G a11 l11 c11 k11, def_mk X G a12 l12 c12 k12, def_mk X G a13 l13 c13 k13, def_mk X G a14 l14 c14 k14, def_mk X G a15 l15 c15 k15, def_mk X G a16 l16 c16 k16, def_mk X G a17 l17 c17 k17, def_mk X G a18 l18 c18 k18, def_mk X G a19 l19 c19 k19, def_mk X G a20 l20 c20 k20, def_mk X G a21 l21 c21 k21, def_mk X G a22 l22 c22 k22, PySem.W.mg_none_of X G z_all, PySem.W.mg_none_of X G z_bool, PySem.W.mg_none_of X G z_enumerate, PySem.W.mg_none_of X G z_int, PySem.W.mg_none_of X G z_isinstance, PySem.W.mg_none_of X G z_len, PySem.W.mg_none_of X G z_list, PySem.W.mg_none_of X G z_min, PySem.W.mg_none_of X G z_range, PySem.W.mg_none_of X G z_set, PySem.W.mg_none_of X G z_sorted, PySem.W.mg_none_of X G z_tuple, ⟨_, .int 2, PySem.W.mg_of X G y_LEAST_SIDE, ⟨_, rfl⟩, fun F => rfl⟩, ⟨_, .int 5, PySem.W.mg_of X G y_MOST_SIDE, ⟨_, rfl⟩, fun F => rfl⟩⟩
  exact ⟨PySem.W.fnOf "law" "law" (defArgs (top 30)) (defBody (top 30)) (defScope (top 30)) .none kV22 dc22 pm22 an22 cd22 ct22, fun s v => .of_eq rfl, fun base _ _ =>
    (fn_law T (fun_mk l22 c22 k22)).imp fun vs H Q E q => spLaw_le (fun ns _ => v_law ns) q⟩
theorem walk {l : PySem.W.OpenLaw} {q : Program} {loose : List Str} {XP : (Str → Option Value) → Heap → Prop} {YP : World → Heap → Prop} {d : DefRec} {K : Params → PySem.W.Frag} (hn : l.most = some 63) (hdf : d.params.defaults = [])
    (hY : ∀ (w : World) (h : Heap), YP w h → (K w.params).In h)
    (F : ∀ (w : World) (mg : Str → Option Value) (fa : Addr) (h : Heap), (K w.params).In h → h.Ns mainGlobals mg → mg d.name = some (.ref fa) →
      ∃ fd : FuncData, (∀ (s : Shared) (u : Value), BindsTo s fd ⟨[u], []⟩ [("_law_script", u)]) ∧ ∀ base : Heap, (K w.params).In base → base.Ns mainGlobals mg → FnOk l.prog w (K w.params) mg base CX0 6 fa fd ["_law_script"] (spLaw (K w.params))) :
    PySem.W.WalkO q loose XP YP l.row.toRowW d [] (fun f vs => PySem.call f vs) :=
  L2.walk_of (n := 63) (k := 6) (x := "_law_script") (CX := fun _ => CX0) (sp := fun w => spLaw (K w.params)) hn (by decide) hdf ⟨rfl, by decide, by decide⟩ hY F (fun _ _ a ns hl _ hS => ⟨a, ns, rfl, hS, hl, fun _ => rfl⟩) fun _ _ _ _ _ z => z
end Sb

open PySem PySem.W PyProof.Rows in
set_option maxRecDepth 100000 in
set_option maxHeartbeats 0 in
theorem PySem.Challenge.cw_seamboard_k19_whole_flips_behind_flips_holds : PySem.Challenge.rw_seamboard_k19_whole_flips_behind_flips.Holds := by
  w_on; o_law; k_head; (case hw => w_witness2)
  k_fill
  refine Sb.walk (l := PySem.Challenge.rw_seamboard_k19_whole_flips_behind_flips) rfl rfl (fun w h Y => PySem.W.kIn_of Y) ?F
  case F =>
    intro w mg fa h KX G hmg
    refine' Sb.all_mk KX G hmg ?a0 ?l0 ?c0 ?k0 ?a1 ?l1 ?c1 ?k1 ?a2 ?l2 ?c2 ?k2 ?a3 ?l3 ?c3 ?k3 ?a4 ?l4 ?c4 ?k4 ?a5 ?l5 ?c5 ?k5 ?a6 ?l6 ?c6 ?k6 ?a7 ?l7 ?c7 ?k7 ?a8 ?l8 ?c8 ?k8 ?a9 ?l9 ?c9 ?k9 ?a10 ?l10 ?c10 ?k10 ?a11 ?l11 ?c11 ?k11 ?a12 ?l12 ?c12 ?k12 ?a13 ?l13 ?c13 ?k13 ?a14 ?l14 ?c14 ?k14 ?a15 ?l15 ?c15 ?k15 ?a16 ?l16 ?c16 ?k16 ?a17 ?l17 ?c17 ?k17 ?a18 ?l18 ?c18 ?k18 ?a19 ?l19 ?c19 ?k19 ?a20 ?l20 ?c20 ?k20 ?a21 ?l21 ?c21 ?k21 ?a22 ?l22 ?c22 ?k22 ?z_all ?z_bool ?z_enumerate ?z_int ?z_isinstance ?z_len ?z_list ?z_min ?z_range ?z_set ?z_sorted ?z_tuple ?y_LEAST_SIDE ?y_MOST_SIDE
    (case a0 => k_is)
    (case l0 => k_is)
    (case c0 => k_is)
    (case k0 => k_is)
    (case a1 => k_is)
    (case l1 => k_is)
    (case c1 => k_is)
    (case k1 => k_is)
    (case a2 => k_is)
    (case l2 => k_is)
    (case c2 => k_is)
    (case k2 => k_is)
    (case a3 => k_is)
    (case l3 => k_is)
    (case c3 => k_is)
    (case k3 => k_is)
    (case a4 => k_is)
    (case l4 => k_is)
    (case c4 => k_is)
    (case k4 => k_is)
    (case a5 => k_is)
    (case l5 => k_is)
    (case c5 => k_is)
    (case k5 => k_is)
    (case a6 => k_is)
    (case l6 => k_is)
    (case c6 => k_is)
    (case k6 => k_is)
    (case a7 => k_is)
    (case l7 => k_is)
    (case c7 => k_is)
    (case k7 => k_is)
    (case a8 => k_is)
    (case l8 => k_is)
    (case c8 => k_is)
    (case k8 => k_is)
    (case a9 => k_is)
    (case l9 => k_is)
    (case c9 => k_is)
    (case k9 => k_is)
    (case a10 => k_is)
    (case l10 => k_is)
    (case c10 => k_is)
    (case k10 => k_is)
    (case a11 => k_is)
    (case l11 => k_is)
    (case c11 => k_is)
    (case k11 => k_is)
    (case a12 => k_is)
    (case l12 => k_is)
    (case c12 => k_is)
    (case k12 => k_is)
    (case a13 => k_is)
    (case l13 => k_is)
    (case c13 => k_is)
    (case k13 => k_is)
    (case a14 => k_is)
    (case l14 => k_is)
    (case c14 => k_is)
    (case k14 => k_is)
    (case a15 => k_is)
    (case l15 => k_is)
    (case c15 => k_is)
    (case k15 => k_is)
    (case a16 => k_is)
    (case l16 => k_is)
    (case c16 => k_is)
    (case k16 => k_is)
    (case a17 => k_is)
    (case l17 => k_is)
    (case c17 => k_is)
    (case k17 => k_is)
    (case a18 => k_is)
    (case l18 => k_is)
    (case c18 => k_is)
    (case k18 => k_is)
    (case a19 => k_is)
    (case l19 => k_is)
    (case c19 => k_is)
    (case k19 => k_is)
    (case a20 => k_is)
    (case l20 => k_is)
    (case c20 => k_is)
    (case k20 => k_is)
    (case a21 => k_is)
    (case l21 => k_is)
    (case c21 => k_is)
    (case k21 => k_is)
    (case a22 => k_is)
    (case l22 => k_is)
    (case c22 => k_is)
    (case k22 => k_is)
    (case z_all => k_is)
    (case z_bool => k_is)
    (case z_enumerate => k_is)
    (case z_int => k_is)
    (case z_isinstance => k_is)
    (case z_len => k_is)
    (case z_list => k_is)
    (case z_min => k_is)
    (case z_range => k_is)
    (case z_set => k_is)
    (case z_sorted => k_is)
    (case z_tuple => k_is)
    (case y_LEAST_SIDE => k_is)
    (case y_MOST_SIDE => k_is)

