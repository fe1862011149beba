import PyProof.Rows.All
import Wide.All
import OpenK.AllK
import Wide.FinOn
import HandS.ForMost
import HandS.TupSets
import HandS.ForExc
import HandS.Lambda
import KE.KDictKeyed
import HandS.TupAny
import HandS.TupMul
import HandS.SetFor
import HandS.Strs
import HandS.Conv
import HandS.IsInst
import HandS.Deep
import HandS.More
import HandS.Text
import HandS.Walk
import HandS.CallSlots
import HandS.WordsExc
import HandS.Defaults
import HandS.SetKeys
import KE.GoesMore
import HandS.Style
import HandS.Small
import HandS.MakeKwOnly
import PySem.Challenge.RW_seamboard_k20_whole_faces_that_lead
set_option Elab.async false
set_option linter.all false
set_option maxRecDepth 100000
set_option maxHeartbeats 8000000
/-! Sf.Lay: a set's table laid anew, for the masks 7, 15, 31, 63, 127. -/
namespace Sf
open PySem PySem.Spec PyProof.Rows L2

theorem nodup_on {α β : Type} {f : α → β} {l : List α} (h : ∀ x ∈ l, ∀ y ∈ l, f x = f y → x = y) (n : l.Nodup) : (l.map f).Nodup := by
  unfold List.Nodup at n ⊢
  rw [List.pairwise_map]
  exact List.Pairwise.imp_of_mem (fun hx hy hne e => hne (h _ hx _ hy e)) n
/-- from nought the round of 5 i + 1 comes by every slot and back -/
def whole (m : Nat) : Bool := (List.range (m + 1)).all (fun j => (List.range (m + 1)).any fun b => lcgN m b == j) && lcgN m (m + 1) == 0
theorem whole_meets {m : Nat} (h : whole m = true) {i j : Nat} (hi : i ≤ m) (hj : j ≤ m) : ∃ k, k ≤ m ∧ lcgI m i k = j := by
  obtain ⟨h1, h2⟩ := Bool.and_eq_true_iff.mp h
  have h2 : lcgN m (m + 1) = 0 := eq_of_beq h2
  have hit : ∀ {x : Nat}, x ≤ m → ∃ b, b ≤ m ∧ lcgN m b = x := fun {x} hx => by
    have q := List.all_eq_true.mp h1 x (List.mem_range.mpr (by omega))
    obtain ⟨b, hb, e⟩ := List.any_eq_true.mp q
    have := List.mem_range.mp hb
    exact ⟨b, by omega, eq_of_beq e⟩
  have per : ∀ k, lcgN m (m + 1 + k) = lcgN m k := fun k => by
    induction k with
    | zero => exact h2
    | succ k ih => exact congrArg (fun z => (z * 5 + 1) % (m + 1)) ih
  obtain ⟨a, ha, rfl⟩ := hit hi
  obtain ⟨b, hb, rfl⟩ := hit hj
  by_cases hab : a ≤ b
  · exact ⟨b - a, by omega, by rw [lcgN_add, Nat.add_sub_cancel' hab]⟩
  · refine ⟨m + 1 + b - a, by omega, ?_⟩
    rw [lcgN_add, Nat.add_sub_cancel' (by omega : a ≤ m + 1 + b), per]
def MOk (m : Nat) : Prop := m = 7 ∨ m = 15 ∨ m = 31 ∨ m = 63 ∨ m = 127
theorem MOk.whole {m : Nat} (h : MOk m) : whole m = true := by
  rcases h with rfl | rfl | rfl | rfl | rfl <;> decide +kernel
/-- where a run of the search begins that finds a free slot, the search ends well -/
theorem free_by {m : Nat} (owner : Array (Option Nat)) : ∀ (f n i b : Nat), n < f → i ≤ m → oAt owner (itL m i b n).1 = none →
    ∃ r, SetTable.layClean.free m owner f i b = some r ∧ r ≤ m ∧ oAt owner r = none
  | 0, _, _, _, h, _, _ => absurd h (Nat.not_lt_zero _)
  | f + 1, n, i, b, hn, hi, he => by
    rw [free_succ]
    obtain ⟨b1, b2, _⟩ := runEnd_bd hi
    cases q : (List.range (SetTable.runEnd m i + 1 - i)).find? fun k => (oAt owner (i + k)).isNone with
    | some k =>
      have hk := List.mem_range.mp (List.mem_of_find?_eq_some q)
      have hf := List.find?_some q
      exact ⟨i + k, rfl, by omega, Option.isNone_iff_eq_none.mp hf⟩
    | none =>
      cases n with
      | zero =>
        have := List.find?_eq_none.mp q 0 (List.mem_range.mpr (by omega))
        have he : oAt owner i = none := he
        rw [Nat.add_zero, he] at this
        exact absurd rfl this
      | succ n => exact free_by owner f n _ _ (by omega) (leap_le m i b) he
theorem free_gets {m : Nat} (hm : MOk m) (owner : Array (Option Nat)) (h : Int) {j : Nat} (hj : j ≤ m) (hf : oAt owner j = none) :
    ∃ r, SetTable.layClean.free m owner (SetTable.turns m) (SetTable.bits h % (m + 1)) (SetTable.bits h) = some r ∧ r ≤ m ∧ oAt owner r = none := by
  obtain ⟨k, hk, e⟩ := whole_meets hm.whole (runI_le m (SetTable.bits h) 12) hj
  refine free_by owner _ (12 + k) _ _ (by unfold SetTable.turns; omega) (Nat.le_of_lt_succ (Nat.mod_lt _ (Nat.succ_pos _))) ?_
  rw [itL_run, runI_tail (bits_lt h), e]
  exact hf
/-- k sit in the slots, each in one -/
structure Sit (m k : Nat) (owner : Array (Option Nat)) : Prop where
  sz : owner.size = m + 1
  lt : ∀ j i, j ≤ m → oAt owner j = some i → i < k
  all : ∀ i, i < k → ∃ j, j ≤ m ∧ oAt owner j = some i
  inj : ∀ j j' i, j ≤ m → j' ≤ m → oAt owner j = some i → oAt owner j' = some i → j = j'
theorem Sit.room {m k : Nat} {owner : Array (Option Nat)} (W : Sit m k owner) (hk : k ≤ m) : ∃ j, j ≤ m ∧ oAt owner j = none := by
  refine Classical.byContradiction fun hno => ?_
  have full : ∀ j, j ≤ m → ∃ i, oAt owner j = some i := fun j hj => by
    cases q : oAt owner j with
    | none => exact absurd ⟨j, hj, q⟩ hno
    | some i => exact ⟨i, rfl⟩
  have nd : ((List.range (m + 1)).map fun j => (oAt owner j).getD 0).Nodup := by
    refine nodup_on (fun x hx y hy e => ?_) List.nodup_range
    obtain ⟨i, hi⟩ := full x (Nat.le_of_lt_succ (List.mem_range.mp hx))
    obtain ⟨i', hi'⟩ := full y (Nat.le_of_lt_succ (List.mem_range.mp hy))
    rw [hi, hi'] at e
    have e : i = i' := e
    subst e
    exact W.inj x y i (Nat.le_of_lt_succ (List.mem_range.mp hx)) (Nat.le_of_lt_succ (List.mem_range.mp hy)) hi hi'
  have := nat_nodup_len _ (List.range k) nd fun x hx => by
    obtain ⟨j, hj, rfl⟩ := List.mem_map.mp hx
    have hj := Nat.le_of_lt_succ (List.mem_range.mp hj)
    obtain ⟨i, hi⟩ := full j hj
    rw [hi]
    exact List.mem_range.mpr (W.lt j i hj hi)
  rw [List.length_map, List.length_range, List.length_range] at this
  omega
theorem Sit.put {m k r : Nat} {owner : Array (Option Nat)} (W : Sit m k owner) (hr : r ≤ m) (hf : oAt owner r = none) : Sit m (k + 1) (owner.setIfInBounds r (some k)) := by
  have hsz := W.sz
  have at_r : oAt (owner.setIfInBounds r (some k)) r = some k := oAt_set_self _ (by omega)
  refine ⟨by rw [Array.size_setIfInBounds]; exact hsz, fun j i hj e => ?_, fun i hi => ?_, fun j j' i hj hj' e e' => ?_⟩
  · by_cases q : j = r
    · subst q; rw [at_r] at e; cases e; omega
    · rw [oAt_set_ne _ q] at e
      have := W.lt j i hj e
      omega
  · by_cases q : i = k
    · subst q; exact ⟨r, hr, at_r⟩
    · obtain ⟨j, hj, e⟩ := W.all i (by omega)
      refine ⟨j, hj, ?_⟩
      rw [oAt_set_ne _ (fun z => by rw [z, hf] at e; cases e)]
      exact e
  · by_cases q : j = r
    · by_cases q' : j' = r
      · exact q.trans q'.symm
      · subst q
        rw [at_r] at e; cases e
        rw [oAt_set_ne _ q'] at e'
        exact absurd (W.lt j' _ hj' e') (Nat.lt_irrefl _)
    · rw [oAt_set_ne _ q] at e
      by_cases q' : j' = r
      · subst q'
        rw [at_r] at e'; cases e'
        exact absurd (W.lt j _ hj e) (Nat.lt_irrefl _)
      · rw [oAt_set_ne _ q'] at e'
        exact W.inj j j' i hj hj' e e'
theorem sit_fold {m : Nat} (hm : MOk m) : ∀ (hs : List Int) (k : Nat) (owner : Array (Option Nat)), Sit m k owner → k + hs.length ≤ m →
    ∃ owner', hs.foldl (stepF m) (some (owner, k)) = some (owner', k + hs.length) ∧ Sit m (k + hs.length) owner'
  | [], k, owner, W, _ => ⟨owner, rfl, W⟩
  | h :: hs, k, owner, W, hl => by
    rw [List.length_cons] at hl
    obtain ⟨j, hj, hf⟩ := W.room (by omega)
    obtain ⟨r, e, hr, hf'⟩ := free_gets hm owner h hj hf
    obtain ⟨owner', e2, W2⟩ := sit_fold hm hs (k + 1) _ (W.put hr hf') (by omega)
    have el : k + (h :: hs).length = k + 1 + hs.length := by rw [List.length_cons]; omega
    rw [el]
    exact ⟨owner', by rw [List.foldl_cons, stepF_some e, e2], W2⟩
/-- a table laid anew holds what it held, in another order -/
theorem laid_by {m fg mv : Nat} {ld pl : Bool} (hm : MOk m) {hs : Array Int} (hn : hs.size ≤ m) :
    ∃ t order, SetTable.laid m fg mv ld pl hs = some (t, order) ∧ order.toList.Perm (List.range hs.size) ∧ Ris t.place.toList ∧ t.place.size = hs.size ∧ t.dummies = #[] ∧ t.mask = m ∧ t.led = ld ∧ t.plain = pl := by
  have W0 : Sit m 0 (Array.replicate (m + 1) none) := ⟨by simp, fun j i hj e => (by rw [oAt_init hj] at e; cases e), fun i hi => absurd hi (Nat.not_lt_zero _), fun j j' i hj _ e _ => (by rw [oAt_init hj] at e; cases e)⟩
  obtain ⟨owner, e, W⟩ := sit_fold hm hs.toList 0 _ W0 (by rw [Array.length_toList]; omega)
  rw [Nat.zero_add, Array.length_toList] at W
  have ec : SetTable.layClean m hs = some owner := by rw [layClean_eq, e]; rfl
  have el : SetTable.laid m fg mv ld pl hs = some ({ mask := m, place := ((liveOf m owner).map (·.1)).toArray, dummies := #[], finger := fg, led := ld, moves := mv, plain := pl }, ((liveOf m owner).map (·.2)).toArray) := by
    unfold SetTable.laid
    rw [ec]; rfl
  have rr : Ris (List.range (m + 1)) := List.pairwise_lt_range
  have ris := (ris_live (fun j => owner.getD j none) (List.range (m + 1)) rr).1
  have nd1 : ((liveOf m owner).map (·.1)).Nodup := List.Pairwise.imp (fun h => Nat.ne_of_lt h) ris
  have nd2 : ((liveOf m owner).map (·.2)).Nodup := by
    refine nodup_on (fun x hx y hy e => ?_) (nodup_of_map nd1)
    obtain ⟨j, i⟩ := x
    obtain ⟨j', i'⟩ := y
    have e : i = i' := e
    subst e
    obtain ⟨a1, a2⟩ := (mem_live W.sz).1 hx
    obtain ⟨b1, b2⟩ := (mem_live W.sz).1 hy
    rw [W.inj j j' i a1 b1 a2 b2]
  have l1 := nat_nodup_len _ (List.range hs.size) nd2 fun i hi => by
    obtain ⟨⟨j, i⟩, hx, rfl⟩ := List.mem_map.mp hi
    obtain ⟨a1, a2⟩ := (mem_live W.sz).1 hx
    exact List.mem_range.mpr (W.lt j i a1 a2)
  have cov : ∀ i, i < hs.size → i ∈ (liveOf m owner).map (·.2) := fun i hi => by
    obtain ⟨j, a1, a2⟩ := W.all i hi
    exact List.mem_map.mpr ⟨(j, i), (mem_live W.sz).2 ⟨a1, a2⟩, rfl⟩
  have l2 := nat_nodup_len (List.range hs.size) _ List.nodup_range fun i hi => cov i (List.mem_range.mp hi)
  rw [List.length_range] at l1 l2
  have ll : ((liveOf m owner).map (·.2)).length = hs.size := Nat.le_antisymm l1 l2
  refine ⟨_, _, el, perm_range _ _ ll cov, ris, ?_, rfl, rfl, rfl, rfl⟩
  rw [List.size_toArray, List.length_map]
  rw [List.length_map] at ll
  exact ll
/-- the items in that order -/
theorem order_perm {α : Type} {es : Array α} {order : Array Nat} (h : order.toList.Perm (List.range es.size)) : (order.filterMap (es[·]?)).toList.Perm es.toList := by
  rw [Array.toList_filterMap]
  refine (h.filterMap _).trans ?_
  have : (List.range es.size).filterMap (es[·]?) = es.toList := by
    have e : ∀ (l : List α), (List.range l.length).filterMap (fun i => l[i]?) = l := by
      intro l
      induction l with
      | nil => rfl
      | cons x l ih =>
        rw [List.length_cons, List.range_succ_eq_map, List.filterMap_cons]
        have : (x :: l)[0]? = some x := rfl
        rw [this, List.filterMap_map]
        exact congrArg (x :: ·) ih
    have e := e es.toList
    rw [Array.length_toList] at e
    rw [← e]
    congr 1
    funext i
    rw [Array.getElem?_toList]
  rw [this]
end Sf

/-! Sf.Xor: the symmetric difference of two sets of ints. -/
namespace Sf
open PySem PySem.Spec PyProof.Rows L2

theorem eraseAt_list {α : Type} (xs : Array α) (p : Nat) : (SetTable.eraseAt xs p).toList = xs.toList.eraseIdx p := by
  unfold SetTable.eraseAt
  rw [List.eraseIdx_eq_take_drop_succ]
  simp only [Array.toList_append, Array.toList_extract, List.extract_eq_take_drop, Nat.sub_zero, List.drop_zero]
  congr 1
  exact List.take_of_length_le (by simp)
section
variable {P : Program} {w : World} {A : Around} {E : Value → Shared → Prop} {s : Shared} {a : Addr} {S : Int → Bool} {n : Nat}
theorem drop_fits {t : SetTable} {m i : Nat} (hf : t.fits m = true) (hi : i < m) : (t.drop i).fits (m - 1) = true ∧ (t.drop i).led = t.led ∧ (t.drop i).plain = t.plain ∧ (Ris t.place.toList → Ris (t.drop i).place.toList) := by
  unfold SetTable.fits at hf ⊢
  unfold SetTable.fill at hf ⊢
  simp only [Bool.and_eq_true, beq_iff_eq, decide_eq_true_eq] at hf ⊢
  obtain ⟨h1, h2⟩ := hf
  have hp : i < t.place.size := by omega
  have e : t.place[i]? = some t.place[i] := Array.getElem?_eq_getElem hp
  have ed : t.drop i = { t with place := SetTable.eraseAt t.place i, dummies := SetTable.insertAt t.dummies (SetTable.below t.dummies t.place[i]) t.place[i] } := by
    unfold SetTable.drop
    rw [e]
  have s1 : (SetTable.eraseAt t.place i).size = t.place.size - 1 := by
    rw [← Array.length_toList, eraseAt_list, List.length_eraseIdx, Array.length_toList, if_pos hp]
  have s2 : (SetTable.insertAt t.dummies (SetTable.below t.dummies t.place[i]) t.place[i]).size ≤ t.dummies.size + 1 := by
    unfold SetTable.insertAt
    simp only [Array.size_append, Array.size_push, Array.size_extract]
    omega
  rw [ed]
  dsimp only
  refine ⟨⟨by rw [s1]; omega, by rw [s1]; omega⟩, rfl, rfl, fun r => ?_⟩
  rw [eraseAt_list]
  exact List.Pairwise.sublist (List.eraseIdx_sublist ..) r
/-- one member less -/
theorem setR_drop {o : Obj} {es : Array (Int × Value)} {ep i : Nat} {t : SetTable} {e : Int × Value} {k : Int} (ho : s.heap.get? a = some o) (hex : o.ExactSet) (hd : o.data = .set es ep t) (g : ∀ e ∈ es.toList, GoodE e) (nd : (es.toList.map keyOf).Nodup)
    (hm : ∀ k, S k = true ↔ k ∈ es.toList.map keyOf) (hb : es.size < scanBound) (hf : t.fits es.size = true) (hn : es.size = n) (hr : Ris t.place.toList) (hl : w.params.followText "set-order" = true ∨ t.led = true)
    (hi : es.toList[i]? = some e) (hk : keyOf e = k) : SetR w (s.heap.update a (Obj.putSet (SetTable.eraseAt es i) (t.drop i))) a (fun j => if j = k then false else S j) (n - 1) := by
  have hlt : i < es.toList.length := (List.getElem?_eq_some_iff.mp hi).1
  rw [Array.length_toList] at hlt
  obtain ⟨f1, f2, f3, f4⟩ := drop_fits hf hlt
  have pm := erase_perm es.toList i e hi
  have pk : (k :: (es.toList.eraseIdx i).map keyOf).Perm (es.toList.map keyOf) := by
    have := pm.map keyOf
    rw [List.map_cons, hk] at this
    exact this
  have ndk := pk.nodup_iff.mpr nd
  obtain ⟨nk, nd'⟩ := List.nodup_cons.mp ndk
  have sz : (SetTable.eraseAt es i).size = es.size - 1 := by
    rw [← Array.length_toList, eraseAt_list, List.length_eraseIdx, Array.length_toList, if_pos hlt]
  refine ⟨_, SetTable.eraseAt es i, _, t.drop i, store_at ho hd, ⟨hex.1, hex.2.1, hex.2.2⟩, rfl, fun x hx => ?_, ?_, fun j => ?_, ?_, ?_, by rw [sz, hn], f4 hr, hl.imp id fun z => f2.trans z⟩
  · rw [eraseAt_list] at hx
    exact g x (List.mem_of_mem_eraseIdx hx)
  · rw [eraseAt_list]; exact nd'
  · rw [eraseAt_list]
    dsimp only
    by_cases q : j = k
    · subst q
      rw [if_pos rfl]
      exact ⟨fun z => (by cases z), fun z => absurd z nk⟩
    · rw [if_neg q, hm j, ← pk.mem_iff]
      exact ⟨fun z => (List.mem_cons.mp z).resolve_left q, List.mem_cons_of_mem _⟩
  · rw [sz]; omega
  · rw [sz]; exact f1
theorem setR_discard {k : Int} {tk : Tok} {Q : Bool → Shared → Prop} (R : SetR w s.heap a S n)
    (hQ : ∀ h', Heap.SameBut a s.heap h' → SetR w h' a (fun j => if j = k then false else S j) (if S k = true then n - 1 else n) → Q (S k) { s with heap := h' }) :
    wpAny (model P w) A (setDiscardHashed a (.int k tk) ((intKind P w).hash k)) Q E s := by
  obtain ⟨o, es, ep, t, ho, hex, hd, g, nd, hm, hb, hf, hn, hr, hl⟩ := R
  have hkey : (intKind P w).is k (.int k tk) = true := intKind_is P w k tk
  have hel : ElemsOf (intKind P w) es.toList := good_elems g
  unfold setDiscardHashed setFind setFindIn
  refine wpAny_bind (wpAny_bind (wpAny_setState_of ho hd hf ?_))
  dsimp only
  rw [byScan_of (by rfl) hb hel]
  simp only [↓reduceIte]
  refine wpAny_bind (wpAny_rule ?_)
  refine wpAny_bind (wpAny_setScan_of hkey ho hd hf hel ?_)
  cases hfi : List.findIdx? (fun e => (intKind P w).is k e.2) es.toList with
  | none =>
    dsimp only
    have hSk : S k = false := by
      cases q : S k with
      | false => rfl
      | true =>
        obtain ⟨e, he, q2⟩ := (good_mem (P := P) (w := w) g k).1 ((hm k).1 q)
        have c := List.findIdx?_eq_none_iff.mp hfi e he
        rw [q2] at c; cases c
    refine wpAny_pure (wpAny_pure ?_)
    have q := hQ s.heap (Heap.SameBut.refl a s.heap) ⟨o, es, ep, t, ho, hex, hd, g, nd, fun j => by
      dsimp only
      by_cases z : j = k
      · subst z; rw [if_pos rfl, ← hm j, hSk]
      · rw [if_neg z]; exact hm j, hb, hf, by rw [hSk, if_neg Bool.false_ne_true]; exact hn, hr, hl⟩
    rw [hSk] at q
    exact q
  | some i =>
    dsimp only
    obtain ⟨hi, pi, _⟩ := List.findIdx?_eq_some_iff_getElem.mp hfi
    have hSk : S k = true := (hm k).2 ((good_mem (P := P) (w := w) g k).2 ⟨es.toList[i], List.getElem_mem hi, pi⟩)
    refine wpAny_pure ?_
    dsimp only
    refine wpAny_bind (wpAny_setState_of ho hd hf ?_)
    dsimp only
    rw [Nat.zero_add]
    have hsz : (SetTable.eraseAt es i).size ≤ es.size := by
      rw [← Array.length_toList, eraseAt_list, List.length_eraseIdx, Array.length_toList]
      split <;> omega
    refine wpAny_bind (wpAny_storeSet_of ho hd ?_ (Nat.le_trans hsz (fits_of_scanBound hb)))
    refine wpAny_bind (wpAny_point (wpAny_pure ?_))
    have q := hQ _ (Heap.SameBut.update s.heap a (Obj.putSet (SetTable.eraseAt es i) (t.drop i))) (by
      rw [if_pos hSk]
      exact setR_drop ho hex hd g nd hm hb hf hn hr hl (List.getElem?_eq_getElem hi) ((good_is (P := P) (w := w) (g _ (List.getElem_mem hi)) k).1 pi))
    rw [hSk] at q
    exact q
end
end Sf

/-! Sf.Xor2: a set walked unseen, a set merged into a new one. -/
namespace Sf
open PySem PySem.Spec PyProof.Rows L2

section
variable {P : Program} {w : World} {A : Around} {E : Value → Shared → Prop} {s : Shared} {a f : Addr} {S T : Int → Bool} {n m : Nat}
theorem walk_any {o : Obj} {es : Array (Int × Value)} {ep : Nat} {t : SetTable} {Q : Array (Int × Value) → Shared → Prop} (ho : s.heap.get? a = some o) (hd : o.data = .set es ep t) (hf : t.fits es.size = true)
    (hl : w.params.followText "set-order" = true ∨ t.led = true) (hQ : ∀ ys d, ys.toList.Perm es.toList → Q ys { s with drawn := d }) : wpAny (model P w) A (setWalk a) Q E s := by
  unfold setWalk
  refine wpAny_bind (wpAny_setState_of ho hd hf ?_)
  dsimp only
  refine wpAny_bind (wpAny_byText ?_)
  cases hb : w.params.followText "set-order" with
  | true =>
    refine wp_if_pos rfl ?_
    exact wpAny_bind (wpAny_askSetting (wpAny_pure (hQ _ s.drawn (pick_perm _ _))))
  | false =>
    have hled : t.led = true := hl.resolve_left (by rw [hb]; exact Bool.false_ne_true)
    refine wp_if_neg Bool.false_ne_true ?_
    try refine wpAny_bind (wpAny_pure ?_)
    by_cases hdr : (!t.plain && decide (es.size > 1)) = true
    · refine wp_if_pos hdr ?_
      exact wpAny_bind (drawOrder_at _ _ _ _ (Nat.le_of_eq (Array.length_toList)) fun ys d p => wpAny_pure (hQ _ d (by simpa using p)))
    · refine wp_if_neg hdr ?_
      try refine wpAny_bind (wpAny_pure ?_)
      refine wpAny_bind (wpAny_of_eq (a := ()) ?_ (wpAny_pure (hQ es s.drawn (List.Perm.refl _))))
      show (if (!t.led && decide (es.size > 1)) = true then unsupported "set:maker-not-led" else pure ()) = pure ()
      rw [hled]; rfl
theorem quiet_ints {Q : Bool → Shared → Prop} (Ra : SetR w s.heap a S n) (Rf : SetR w s.heap f T m) (h : Q true s) : wpAny (model P w) A (setsQuiet [a, f]) Q E s := by
  have one : ∀ (x : Addr), x = a ∨ x = f → ∃ o es ep t, s.heap.get? x = some o ∧ o.data = .set es ep t ∧ t.fits es.size = true ∧ ∀ e ∈ es.toList, GoodE e := fun x hx => by
    rcases hx with rfl | rfl
    · obtain ⟨o, es, ep, t, ho, _, hd, g, _, _, _, hf, _⟩ := Ra
      exact ⟨o, es, ep, t, ho, hd, hf, g⟩
    · obtain ⟨o, es, ep, t, ho, _, hd, g, _, _, _, hf, _⟩ := Rf
      exact ⟨o, es, ep, t, ho, hd, hf, g⟩
  unfold setsQuiet
  refine wpAny_bind (wpAny_forIn_list _ (fun rest b s' => b.1 = none ∧ s' = s ∧ ∀ x ∈ rest, x = a ∨ x = f) _ ?_ ?_ _ _ ⟨rfl, rfl, fun x hx => by simpa using hx⟩)
  · rintro x rest b s' ⟨hb, rfl, hr⟩
    obtain ⟨o, es, ep, t, ho, hd, hf, g⟩ := one x (hr x List.mem_cons_self)
    refine wpAny_bind (wpAny_setEntries_of ho hd hf ?_)
    refine wpAny_bind (PySem.MeetsSeq2.wpAny_forIn_array _ (fun rest b s2 => b.1 = none ∧ s2 = s' ∧ ∀ e ∈ rest, GoodE e) _ ?_ ?_ _ _ ⟨rfl, rfl, g⟩)
    · rintro ⟨hh, v⟩ rest2 b2 s2 ⟨hb2, rfl, hg⟩
      obtain ⟨k, tk, e1, _⟩ := hg _ List.mem_cons_self
      dsimp only at e1
      subst e1
      exact wpAny_pure ⟨rfl, rfl, fun e he => hg e (List.mem_cons_of_mem _ he)⟩
    · rintro ⟨b2, u2⟩ s2 ⟨hb2, rfl, _⟩
      have hb2 : b2 = none := hb2
      subst hb2
      exact wpAny_pure ⟨rfl, rfl, fun z hz => hr z (List.mem_cons_of_mem _ hz)⟩
  · rintro ⟨b, u⟩ s' ⟨hb, rfl, _⟩
    have hb : b = none := hb
    subst hb
    exact wpAny_pure h
theorem walk_unseen {o : Obj} {es : Array (Int × Value)} {ep : Nat} {t : SetTable} {Q : Array (Int × Value) → Shared → Prop} (Ra : SetR w s.heap a S n) (ho : s.heap.get? a = some o) (hd : o.data = .set es ep t) (hf : t.fits es.size = true)
    (hl : w.params.followText "set-order" = true ∨ t.led = true) (Rf : SetR w s.heap f T m)
    (hQ : ∀ ys h' d, ys.toList.Perm es.toList → Heap.SameBut f s.heap h' → SetR w h' f T m → Q ys { s with heap := h', drawn := d }) : wpAny (model P w) A (setWalkUnseen a [f] (some f)) Q E s := by
  unfold setWalkUnseen
  refine wpAny_bind (wpAny_setState_of ho hd hf ?_)
  dsimp only
  refine wpAny_bind (wpAny_byText ?_)
  by_cases hc : (w.params.followText "set-order" || (t.led && t.plain) || decide (es.size ≤ 1)) = true
  · refine wp_if_pos hc ?_
    exact walk_any ho hd hf hl fun ys d p => hQ ys s.heap d p (Heap.SameBut.refl _ _) Rf
  · refine wp_if_neg hc ?_
    try refine wpAny_bind (wpAny_pure ?_)
    have hbt : w.params.followText "set-order" = false := by
      cases q : w.params.followText "set-order" with
      | false => rfl
      | true => rw [q] at hc; exact absurd rfl hc
    have hled : t.led = true := hl.resolve_left (by rw [hbt]; exact Bool.false_ne_true)
    refine wpAny_bind (quiet_ints Ra Rf ?_)
    refine wp_if_neg (by decide) ?_
    try refine wpAny_bind (wpAny_pure ?_)
    refine wpAny_bind (wpAny_rule ?_)
    try dsimp only
    obtain ⟨of, ef, epf, tf, hof, hex, hdf, g, nd, hm, hb, hff, hn, hr, hlf⟩ := Rf
    refine wpAny_bind (wpAny_setState_of hof hdf hff ?_)
    dsimp only
    split
    · refine wpAny_bind (wpAny_storeSet_of hof hdf ?_ (fits_of_scanBound hb))
      refine wpAny_pure (hQ es _ s.drawn (List.Perm.refl _) (Heap.SameBut.update ..) ⟨_, ef, _, _, store_at hof hdf, ⟨hex.1, hex.2.1, hex.2.2⟩, rfl, g, nd, hm, hb, hff, hn, hr, hlf.imp id fun z => ?_⟩)
      show (tf.led && t.led) = true
      rw [z, hled]; rfl
    · try refine wpAny_bind (wpAny_pure ?_)
      exact wpAny_pure (hQ es s.heap s.drawn (List.Perm.refl _) (Heap.SameBut.refl _ _) ⟨of, ef, epf, tf, hof, hex, hdf, g, nd, hm, hb, hff, hn, hr, hlf⟩)
/-- a table without members, with room for m -/
structure Bare (w : World) (h : Heap) (a : Addr) (m : Nat) (o : Obj) (ep : Nat) (t : SetTable) : Prop where
  at_ : h.get? a = some o
  hex : o.ExactSet
  dt : o.data = .set #[] ep t
  pl : t.place = #[]
  dm : t.dummies = #[]
  mok : MOk t.mask
  rm : m ≤ t.mask
  ld : w.params.followText "set-order" = true ∨ t.led = true
theorem Bare.fits {h : Heap} {o : Obj} {ep : Nat} {t : SetTable} (b : Bare w h a m o ep t) : t.fits (#[] : Array (Int × Value)).size = true := by
  unfold SetTable.fits SetTable.fill
  rw [b.pl, b.dm]
  simp
def fitsAll : Bool := (List.range 61).all fun k => !decide (5 ≤ k) || (decide (SetTable.sizeAbove (k * 2) ≤ 128) && decide (k ≤ SetTable.sizeAbove (k * 2) - 1) && (SetTable.sizeAbove (k * 2) - 1 == 15 || SetTable.sizeAbove (k * 2) - 1 == 31 || SetTable.sizeAbove (k * 2) - 1 == 63 || SetTable.sizeAbove (k * 2) - 1 == 127))
theorem fits_all : fitsAll = true := by decide +kernel
theorem fits_at {k : Nat} (h5 : 5 ≤ k) (h60 : k ≤ 60) : SetTable.sizeAbove (k * 2) ≤ 128 ∧ k ≤ SetTable.sizeAbove (k * 2) - 1 ∧ MOk (SetTable.sizeAbove (k * 2) - 1) := by
  have := List.all_eq_true.mp fits_all k (List.mem_range.mpr (by omega))
  simp only [Bool.or_eq_true, Bool.not_eq_true', decide_eq_false_iff_not, Bool.and_eq_true, decide_eq_true_eq, beq_iff_eq] at this
  rcases this with h | ⟨⟨h1, h2⟩, h3⟩
  · exact absurd h5 h
  · refine ⟨h1, h2, ?_⟩
    unfold MOk
    omega
/-- a new set is given room -/
theorem room_new {o : Obj} {ep fg mv : Nat} {ld : Bool} {Q : Unit → Shared → Prop} (ho : s.heap.get? a = some o) (hex : o.ExactSet) (hd : o.data = .set #[] ep (.fresh fg mv ld)) (hl : w.params.followText "set-order" = true ∨ ld = true) (hm : m ≤ 60)
    (hQ : ∀ h' o' ep' t', Heap.SameBut a s.heap h' → Bare w h' a m o' ep' t' → Q () { s with heap := h' }) : wpAny (model P w) A (setRoomFor a m) Q E s := by
  have hf : (SetTable.fresh fg mv ld).fits (#[] : Array (Int × Value)).size = true := rfl
  unfold setRoomFor
  refine wpAny_bind (wpAny_setState_of ho hd hf ?_)
  dsimp only
  have er : (SetTable.fresh fg mv ld).roomFor m = if (0 + m) * 5 ≥ 7 * 3 then some ((0 + m) * 2) else none := rfl
  rw [er, Nat.zero_add]
  by_cases hc : m * 5 ≥ 7 * 3
  · rw [if_pos hc]
    dsimp only
    obtain ⟨f1, f2, f3⟩ := fits_at (k := m) (by omega) hm
    rw [setRelay_eq]
    refine wpAny_bind (wpAny_setState_of ho hd hf ?_)
    dsimp only
    refine wp_if_neg (by rw [sizeLine_eq]; omega) ?_
    try refine wpAny_bind (wpAny_pure ?_)
    obtain ⟨t', order, e, p, r, z1, z2, z3, z4, z5⟩ := laid_by (fg := fg) (mv := (SetTable.fresh fg mv ld).movedTo (SetTable.sizeAbove (m * 2) - 1)) (ld := ld) (pl := true) f3 (hs := ((#[] : Array (Int × Value)).map (·.1))) (by simp)
    rw [Array.size_map] at p z1
    have e' : (SetTable.fresh fg mv ld).relaid ((#[] : Array (Int × Value)).map (·.1)) (m * 2) = some (t', order) := e
    rw [e']
    dsimp only
    have hs2 : (order.filterMap ((#[] : Array (Int × Value))[·]?)).size = 0 := by
      have := order_perm (es := (#[] : Array (Int × Value))) (order := order) p
      have := this.length_eq
      rw [Array.length_toList] at this
      exact this
    have hs3 : order.filterMap ((#[] : Array (Int × Value))[·]?) = #[] := Array.eq_empty_of_size_eq_zero hs2
    refine wpAny_bind ?_
    rw [hs3]
    refine wp_if_neg (by simp) ?_
    try refine wpAny_bind (wpAny_pure ?_)
    refine wpAny_pure ?_
    dsimp only
    refine wpAny_storeSet_of ho hd ?_ (Nat.zero_le _)
    have hp : t'.place = #[] := Array.eq_empty_of_size_eq_zero z1
    exact hQ _ _ _ t' (Heap.SameBut.update ..) ⟨store_at ho hd, ⟨hex.1, hex.2.1, hex.2.2⟩, rfl, hp, z2, by rw [z3]; exact f3, by rw [z3]; exact f2, hl.imp id fun q => z4.trans q⟩
  · rw [if_neg hc]
    exact wpAny_pure (hQ s.heap o ep _ (Heap.SameBut.refl _ _) ⟨ho, hex, hd, rfl, rfl, .inl rfl, by show m ≤ 7; omega, hl⟩)
/-- all of another set's members into a new set -/
theorem merge_new {each : Sem Unit} {Q : Unit → Shared → Prop} {fg mv : Nat} {ld : Bool} {r : Addr} {o : Obj} {ep : Nat} (ho : s.heap.get? r = some o) (hex : o.ExactSet) (hd : o.data = .set #[] ep (.fresh fg mv ld)) (hl : w.params.followText "set-order" = true ∨ ld = true)
    (Ra : SetR w s.heap a S n) (hne : r ≠ a) (hn : n ≤ 60) (hQ : ∀ h', Heap.SameBut r s.heap h' → SetR w h' r S n → Q () { s with heap := h' }) : wpAny (model P w) A (setMerge r a each) Q E s := by
  obtain ⟨oa, ea, epa, ta, hoa, hexa, hda, g, nd, hm, hb, hf, hz, hr, hla⟩ := Ra
  unfold setMerge
  refine wp_if_neg (by simpa using hne) ?_
  try refine wpAny_bind (wpAny_pure ?_)
  refine wpAny_bind (wpAny_setState_of hoa hda hf ?_)
  dsimp only
  by_cases hemp : ea.isEmpty = true
  · refine wp_if_pos hemp ?_
    have e0 : ea = #[] := Array.isEmpty_iff.mp hemp
    subst e0
    refine wpAny_pure (hQ s.heap (Heap.SameBut.refl _ _) ⟨o, #[], ep, _, ho, hex, hd, fun e he => (by simp at he), (by simp), fun k => ?_, (by decide), rfl, hz, List.Pairwise.nil, hl⟩)
    rw [hm k]
  · refine wp_if_neg hemp ?_
    try refine wpAny_bind (wpAny_pure ?_)
    refine wpAny_bind (room_new (m := ea.size) ho hex hd hl (by omega) fun h1 o1 ep1 t1 sb B => ?_)
    refine wpAny_bind (wpAny_setState_of (s := { s with heap := h1 }) B.at_ B.dt B.fits ?_)
    dsimp only
    have hfill : t1.fill = 0 := by unfold SetTable.fill; rw [B.pl, B.dm]; rfl
    have er : t1.road ta = if t1.mask == ta.mask && ta.dummies.isEmpty then .slotForSlot else .clean := by
      unfold SetTable.road
      rw [hfill]; rfl
    rw [er]
    have hled : w.params.followText "set-order" = true ∨ (t1.led && ta.led) = true := by
      rcases B.ld with q | q
      · exact .inl q
      · rcases hla with q' | q'
        · exact .inl q'
        · exact .inr (by rw [q, q']; rfl)
    by_cases hc : (t1.mask == ta.mask && ta.dummies.isEmpty) = true
    · rw [if_pos hc]
      dsimp only
      refine wpAny_storeSet_of B.at_ B.dt ?_ (fits_of_scanBound hb)
      exact hQ _ (sb.trans (Heap.SameBut.update ..)) ⟨_, ea, _, _, store_at B.at_ B.dt, ⟨B.hex.1, B.hex.2.1, B.hex.2.2⟩, rfl, g, nd, hm, hb, hf, hz, hr, hled⟩
    · rw [if_neg hc]
      dsimp only
      obtain ⟨t', order, e, p, rr, z1, z2, z3, z4, z5⟩ := laid_by (fg := t1.finger) (mv := t1.moves) (ld := t1.led && ta.led) (pl := t1.plain && ta.plain) B.mok (hs := ea.map (·.1)) (by rw [Array.size_map]; exact B.rm)
      rw [Array.size_map] at p z1
      have pm := order_perm p
      have hs2 : (order.filterMap (ea[·]?)).size = ea.size := by
        have := pm.length_eq
        rw [Array.length_toList, Array.length_toList] at this
        exact this
      refine wpAny_bind (wpAny_of_eq (a := (order.filterMap (ea[·]?), t')) ?_ ?_)
      · rw [e]
        show (if ((order.filterMap (ea[·]?)).size != ea.size) = true then _ else _) = _
        rw [if_neg (by rw [hs2]; simp)]
      · dsimp only
        refine wpAny_storeSet_of B.at_ B.dt ?_ (by rw [hs2]; exact fits_of_scanBound hb)
        refine hQ _ (sb.trans (Heap.SameBut.update ..)) ⟨_, _, _, t', store_at B.at_ B.dt, ⟨B.hex.1, B.hex.2.1, B.hex.2.2⟩, rfl, fun x hx => g x (pm.mem_iff.mp hx), (pm.map keyOf).nodup_iff.mpr nd, fun k => (hm k).trans (pm.map keyOf).mem_iff.symm, by rw [hs2]; exact hb, ?_, hs2.trans hz, rr, hled.imp id fun q => z4.trans q⟩
        unfold SetTable.fits SetTable.fill
        rw [z1, z2, z3, hs2]
        simp only [beq_self_eq_true, Bool.true_and, decide_eq_true_eq]
        exact B.rm
end
end Sf

/-! Sf.Xor3: set ^ set. -/
namespace Sf
open PySem PySem.Spec PyProof.Rows L2

theorem slot_set_xor : Slot "set" (dunder "xor") "set.__xor__" :=
  .of (owner := "set") (n := "__xor__") (by rw [typeLookup_type, builtinLookup_eq_fast]; kernel_rfl) (by decide +kernel) (by decide +kernel) (by decide +kernel)
    (by first | exact .inl (by decide +kernel) | exact .inr (by decide +kernel)) (by rw [isSubtype_type]; kernel_rfl)
theorem fills_set_xor : fillsNumberSlot (.type "set") "xor" = pure true :=
  fillsNumberSlot_of (id := "set.__xor__") (r := some (.builtin "set.__rxor__")) (by rw [typeLookup_type, builtinLookup_eq_fast]; kernel_rfl) (by decide +kernel) (by rw [typeLookup_type, builtinLookup_eq_fast]; kernel_rfl)
theorem entry_set_xor : entryFor table "set.__xor__" = some Builtin.«frozenset.__xor__» := entryFor_alias (id' := "frozenset.__xor__") (by kernel_rfl) rfl (by decide +kernel) (by kernel_rfl)
theorem args_set_xor (a b : Value) : argsOk "set.__xor__" ⟨[a, b], []⟩ := by unfold argsOk; kernel_rfl

section
variable {P : Program} {w : World} {A : Around} {E : Value → Shared → Prop} {s : Shared} {a f : Addr} {S T : Int → Bool} {n m : Nat}
theorem any_set {Q : Bool → Shared → Prop} (R : SetR w s.heap a S n) (h : Q true s) : wpAny (model P w) A (Builtin.Frozenset.isAnySet (.ref a)) Q E s := by
  have hT : s.TypeIs (.ref a) "set" := (R.setOf (P := P)).typeIs
  unfold Builtin.Frozenset.isAnySet
  refine wpAny_bind (wpAny_isInstance (b := true) hT sub_set_self ?_)
  exact wpAny_pure h
/-- who is in one of the two alone -/
def flipS (S : Int → Bool) : List Int → Int → Bool
  | [], j => S j
  | k :: ks, j => flipS (fun i => if i = k then !S i else S i) ks j
theorem le_one {n : Nat} (c : Prop) [Decidable c] : (if c then n else n + 1) ≤ n + 1 := by split <;> omega
theorem flip_one {k : Int} {tk : Tok} {Q : Unit → Shared → Prop} (R : SetR w s.heap a S n) (room : n + 1 < scanBound)
    (hQ : ∀ h' c, Heap.SameBut a s.heap h' → SetR w h' a (fun i => if i = k then !S i else S i) c → c ≤ n + 1 → Q () { s with heap := h' }) :
    wpAny (model P w) A (do
      if !(← setDiscardHashed a (.int k tk) ((intKind P w).hash k)) then
        let _ ← setAddHashed a (.int k tk) ((intKind P w).hash k)) Q E s := by
  refine wpAny_bind (setR_discard R fun h1 sb1 R1 => ?_)
  cases hS : S k with
  | true =>
    refine wp_if_neg (by decide) ?_
    rw [hS, if_pos rfl] at R1
    refine wpAny_pure (hQ h1 _ sb1 (R1.congr fun j => ?_) (by omega))
    by_cases q : j = k
    · subst q; rw [if_pos rfl, if_pos rfl, hS]; rfl
    · rw [if_neg q, if_neg q]
  | false =>
    refine wp_if_pos rfl ?_
    rw [hS, if_neg Bool.false_ne_true] at R1
    refine wpAny_bind (setR_add_hashed (s := { s with heap := h1 }) R1 room fun h2 sb2 R2 => ?_)
    refine wpAny_pure (hQ h2 _ (sb1.trans sb2) (R2.congr fun j => ?_) (le_one _))
    by_cases q : j = k
    · subst q; rw [if_pos rfl, if_pos rfl, hS]; simp
    · rw [if_neg q, if_neg q]; simp [q]
theorem flipS_at : ∀ (ks : List Int) (S : Int → Bool) (j : Int), ks.Nodup → flipS S ks j = if j ∈ ks then !S j else S j
  | [], S, j, _ => by simp [flipS]
  | k :: ks, S, j, h => by
    obtain ⟨h1, h2⟩ := List.nodup_cons.mp h
    rw [flipS, flipS_at ks _ j h2]
    by_cases q : j = k
    · subst q
      rw [if_neg h1, if_pos rfl, if_pos List.mem_cons_self]
    · rw [if_neg q]
      by_cases z : j ∈ ks
      · rw [if_pos z, if_pos (List.mem_cons_of_mem _ z)]
      · rw [if_neg z, if_neg (fun y => (List.mem_cons.mp y).elim q z)]
theorem hash_good {e : Int × Value} (g : GoodE e) : ∃ k tk, e = ((intKind P w).hash k, .int k tk) ∧ keyOf e = k := by
  obtain ⟨k, tk, h1, h2⟩ := g
  obtain ⟨x, y⟩ := e
  dsimp only at h1 h2
  subst h1 h2
  exact ⟨k, tk, rfl, rfl⟩
theorem sym_update {Q : Unit → Shared → Prop} {id : String} {r : Addr} (Ra : SetR w s.heap a S n) (Rr : SetR w s.heap r T m) (hne : r ≠ a) (hn : n ≤ 60) (hm : m ≤ 60)
    (hQ : ∀ h' d c, Heap.SameBut r s.heap h' → SetR w h' r (fun j => if S j = true then !T j else T j) c → c ≤ 120 → Q () { s with heap := h', drawn := d }) :
    wpAny (model P w) A (Builtin.Frozenset.symmetricDifferenceUpdate id r (.ref a)) Q E s := by
  have hTa : s.TypeIs (.ref a) "set" := (Ra.setOf (P := P)).typeIs
  have Ra' := Ra
  obtain ⟨o, es, ep, t, ho, hex, hd, g, nd, hmm, hb, hf, hz, hr, hl⟩ := Ra'
  unfold Builtin.Frozenset.symmetricDifferenceUpdate
  refine wp_if_neg (by simpa using Ne.symm hne) ?_
  try refine wpAny_bind (wpAny_pure ?_)
  refine wpAny_bind (wpAny_typeOf hTa ?_)
  refine wp_if_neg (by decide) ?_
  try refine wpAny_bind (wpAny_pure ?_)
  refine wpAny_bind (any_set Ra ?_)
  dsimp only
  refine wp_if_pos rfl ?_
  refine wpAny_bind (wpAny_pure ?_)
  refine wpAny_bind (wpAny_of_eq (a := a) rfl ?_)
  refine wpAny_bind (m := setEpoch a) ?_
  unfold setEpoch
  refine wpAny_bind (wpAny_setState_of ho hd hf (wpAny_pure ?_))
  dsimp only
  refine wpAny_holding ?_
  refine wpAny_bind (walk_unseen Ra ho hd hf hl Rr fun ys h1 d p sb R1 => ?_)
  have gy : ∀ e ∈ ys.toList, GoodE e := fun e he => g e (p.mem_iff.mp he)
  have ndy : (ys.toList.map keyOf).Nodup := (p.map keyOf).nodup_iff.mpr nd
  have hoa : h1.get? a = some o := (sb.2 a (Ne.symm hne)).trans ho
  have ylen : ys.toList.length = n := by rw [p.length_eq, Array.length_toList]; exact hz
  refine wpAny_bind (PySem.MeetsSeq2.wpAny_forIn_array _ (fun rest _ s' => ∃ h' U c, s' = { s with heap := h', drawn := d } ∧ Heap.SameBut r h1 h' ∧ SetR w h' r U c ∧ (∀ e ∈ rest, GoodE e) ∧ c + rest.length ≤ 120 ∧ ∀ j, flipS U (rest.map keyOf) j = flipS T (ys.toList.map keyOf) j) _ ?_ ?_ _ _
    ⟨h1, T, m, rfl, Heap.SameBut.refl _ _, R1, gy, by omega, fun _ => rfl⟩)
  · rintro e rest b s' ⟨h', U, c, rfl, sb2, R2, gr, hc, hfl⟩
    obtain ⟨k, tk, rfl, hk⟩ := hash_good (P := P) (w := w) (gr _ List.mem_cons_self)
    dsimp only
    rw [List.length_cons] at hc
    refine wpAny_bind (wpAny_holding (flip_one (s := { s with heap := h', drawn := d }) R2 (by unfold scanBound; omega) fun h2 c2 sb3 R3 hc2 => ?_))
    refine wpAny_bind ?_
    unfold Builtin.Frozenset.unchanged setEpoch
    have hoa2 : h2.get? a = some o := (sb3.2 a (Ne.symm hne)).trans ((sb2.2 a (Ne.symm hne)).trans hoa)
    refine wpAny_bind (wpAny_bind (wpAny_setState_of (s := { s with heap := h2, drawn := d }) hoa2 hd hf (wpAny_pure ?_)))
    dsimp only
    refine wp_if_neg (by simp) ?_
    refine wpAny_pure (wpAny_pure ⟨h2, _, c2, rfl, sb2.trans sb3, R3, fun e he => gr e (List.mem_cons_of_mem _ he), by omega, fun j => ?_⟩)
    have := hfl j
    rw [List.map_cons, hk, flipS] at this
    exact this
  · rintro b s' ⟨h', U, c, rfl, sb2, R2, _, hc, hfl⟩
    refine wpAny_pure (hQ h' d c (sb.trans sb2) (R2.congr fun j => ?_) (by simpa using hc))
    have := hfl j
    rw [List.map_nil, flipS] at this
    rw [this, flipS_at _ _ _ ndy]
    by_cases q : S j = true
    · rw [if_pos q, if_pos ((p.map keyOf).mem_iff.mpr ((hmm j).1 q))]
    · rw [if_neg q, if_neg (fun z => q ((hmm j).2 ((p.map keyOf).mem_iff.mp z)))]
end
end Sf

/-! Sf.Data: values as plain data over a store, how the heap bears them, what a step keeps. -/
namespace Sf
open PySem L2

/-- plain data; ref: a cell of the store; dct: a dict that stands still (t: its keys are tuples); fn: a function made here -/
inductive D where
  | non
  | bl (b : Bool)
  | int (i : Int)
  | str (s : Str)
  | tup (ds : List D)
  | lst (ds : List D)
  | scr (ns : List Int)
  | dct (t : Bool) (ks : List NestedKey) (ds : List D)
  | ref (n : Nat)

/-- what is fixed: the written part, the world, the tables of code objects, the classes' places -/
structure Kx where
  K : PySem.W.Frag
  P : Program
  w : World
  T : List (Addr × Str)
  cl : Nat → Addr
/-- the frozen heap, the cells' places -/
structure Fz where
  F : Hp
  A : Nat → Option Addr
structure Le (f g : Fz) : Prop where
  ff : Same f.F g.F
  aa : ∀ n a, f.A n = some a → g.A n = some a
theorem Le.refl (f : Fz) : Le f f := ⟨Same.refl _, fun _ _ h => h⟩
theorem Le.trans {f g h : Fz} (a : Le f g) (b : Le g h) : Le f h := ⟨a.ff.trans b.ff, fun n x e => b.aa n x (a.aa n x e)⟩

/-- the keys' values: the raw entries of a dict whose keys are tuples -/
def kvOk (k : Kx) (F : Hp) : NestedKey → V → Prop
  | .none, v => v = .non
  | .num i, v => v = .int i ∨ ∃ b : Bool, v = .bl b ∧ i = if b then 1 else 0
  | .text s, v => v = .str s
  | .tup ks, v => ∃ (a : Addr) (vs : List V), v = .ref a ∧ SqT k.K F a vs ∧ kvOks k F ks vs
where
  kvOks (k : Kx) (F : Hp) : List NestedKey → List V → Prop
  | [], vs => vs = []
  | x :: xs, vs => ∃ (v : V) (r : List V), vs = v :: r ∧ kvOk k F x v ∧ kvOks k F xs r
abbrev kvOks := kvOk.kvOks
/-- a dict with tuple keys as an object: its entries, their keys at ka -/
def dictH (k : Kx) (p : Addr) (es : List (NestedKey × Addr × V)) : HO := .ext fun h => (p == sysModules) = false ∧ ∃ (o : Obj) (en : Array DictEntry) (ep : Nat) (us : List Value), h.get? p = some o ∧ o.ExactDict ∧ o.data = .dict en ep ∧
  Vals (es.map (·.2.2)) us ∧ en.toList = List.zipWith (fun (e : NestedKey × Addr × V) (u : Value) => entryOfKey (nestedKind k.P k.w) (e.1, e.2.1, u)) es us ∧ (es.map (·.1)).Nodup
/-- a dict's object: keys ks, values vs -/
def DictOk (k : Kx) (F : Hp) (p : Addr) (t : Bool) (ks : List NestedKey) (vs : List V) (o : HO) : Prop := ks.length = vs.length ∧ match t with
  | false => ∃ qs : List Key, ks = qs.map (fun q => match q with | .inl i => NestedKey.num i | .inr s => .text s) ∧ o = .dK (qs.zip vs)
  | true => ∃ as : List Addr, as.length = ks.length ∧ (∀ (i : Nat) (x : NestedKey) (a : Addr), ks[i]? = some x → as[i]? = some a → kvOk k F x (.ref a) ∧ NestedKey.depth x ≤ 8) ∧ o = dictH k p (ks.zip (as.zip vs))

/-- the frozen heap bears d as v -/
def Rep (k : Kx) (f : Fz) : D → V → Prop
  | .non, v => v = .non
  | .bl b, v => v = .bl b
  | .int i, v => v = .int i
  | .str s, v => v = .str s
  | .tup ds, v => ∃ (a : Addr) (vs : List V), v = .ref a ∧ SqT k.K f.F a vs ∧ RepL ds vs
  | .lst ds, v => ∃ (a : Addr) (vs : List V), v = .ref a ∧ f.F a = some (.lst vs) ∧ RepL ds vs
  | .scr ns, v => ∃ a : Addr, v = .ref a ∧ SqL k.K f.F a (ns.map V.int)
  | .dct t ks ds, v => ∃ (a : Addr) (vs : List V) (o : HO), v = .ref a ∧ f.F a = some o ∧ DictOk k f.F a t ks vs o ∧ RepL ds vs
  | .ref n, v => ∃ a : Addr, f.A n = some a ∧ v = .ref a
where
  RepL : List D → List V → Prop
  | [], vs => vs = []
  | d :: ds, vs => ∃ (v : V) (r : List V), vs = v :: r ∧ Rep k f d v ∧ RepL ds r

abbrev RepL (k : Kx) (f : Fz) : List D → List V → Prop := Rep.RepL k f

theorem Same.seqT {K : PySem.W.Frag} {H H' : Hp} {a : Addr} {xs : List V} (e : Same H H') (h : SqT K H a xs) : SqT K H' a xs := by
  rcases h with (h | ⟨o, h⟩) | h
  · exact .inl (.inl (e _ _ h))
  · exact .inl (.inr ⟨o, e _ _ h⟩)
  · exact .inr h
mutual
theorem kvOk.mono {k : Kx} {F F' : Hp} (e : Same F F') : ∀ (x : NestedKey) (v : V), kvOk k F x v → kvOk k F' x v
  | .none, _, h => h
  | .num _, _, h => h
  | .text _, _, h => h
  | .tup ks, _, h => by
    unfold kvOk at h ⊢
    obtain ⟨a, vs, h1, h2, h3⟩ := h
    exact ⟨a, vs, h1, Same.seqT e h2, kvOks.mono e ks vs h3⟩
theorem kvOks.mono {k : Kx} {F F' : Hp} (e : Same F F') : ∀ (xs : List NestedKey) (vs : List V), kvOks k F xs vs → kvOks k F' xs vs
  | [], _, h => h
  | x :: xs, _, h => by
    unfold kvOks kvOk.kvOks at h ⊢
    obtain ⟨v, r, h1, h2, h3⟩ := h
    exact ⟨v, r, h1, kvOk.mono e x v h2, kvOks.mono e xs r h3⟩
end
theorem DictOk.mono {k : Kx} {F F' : Hp} {p : Addr} {t : Bool} {ks : List NestedKey} {vs : List V} {o : HO} (e : Same F F') (h : DictOk k F p t ks vs o) : DictOk k F' p t ks vs o := by
  obtain ⟨h1, h2⟩ := h
  refine ⟨h1, ?_⟩
  cases t with
  | false => exact h2
  | true =>
    obtain ⟨as, e1, e2, e3⟩ := h2
    exact ⟨as, e1, fun i x a q1 q2 => ⟨kvOk.mono e x _ (e2 i x a q1 q2).1, (e2 i x a q1 q2).2⟩, e3⟩

mutual
theorem Rep.mono {k : Kx} {f g : Fz} (e : Le f g) : ∀ (d : D) (v : V), Rep k f d v → Rep k g d v
  | .non, _, h => h
  | .bl _, _, h => h
  | .int _, _, h => h
  | .str _, _, h => h
  | .tup ds, _, h => by
    unfold Rep at h ⊢
    obtain ⟨a, vs, h1, h2, h3⟩ := h
    exact ⟨a, vs, h1, Same.seqT e.ff h2, RepL.mono e ds vs h3⟩
  | .lst ds, _, h => by
    unfold Rep at h ⊢
    obtain ⟨a, vs, h1, h2, h3⟩ := h
    exact ⟨a, vs, h1, e.ff _ _ h2, RepL.mono e ds vs h3⟩
  | .scr ns, _, h => by
    unfold Rep at h ⊢
    obtain ⟨a, h1, h2⟩ := h
    exact ⟨a, h1, e.ff.seq h2⟩
  | .dct t ks ds, _, h => by
    unfold Rep at h ⊢
    obtain ⟨a, vs, o, h1, h2, h3, h4⟩ := h
    exact ⟨a, vs, o, h1, e.ff _ _ h2, h3.mono e.ff, RepL.mono e ds vs h4⟩
  | .ref n, _, h => by
    unfold Rep at h ⊢
    obtain ⟨a, h1, h2⟩ := h
    exact ⟨a, e.aa _ _ h1, h2⟩
theorem RepL.mono {k : Kx} {f g : Fz} (e : Le f g) : ∀ (ds : List D) (vs : List V), RepL k f ds vs → RepL k g ds vs
  | [], _, h => h
  | d :: ds, _, h => by
    unfold RepL Rep.RepL at h ⊢
    obtain ⟨v, r, h1, h2, h3⟩ := h
    exact ⟨v, r, h1, Rep.mono e d v h2, RepL.mono e ds r h3⟩
end

section
variable {k : Kx} {f g : Fz} {H H' : Hp}
theorem repL_nil {vs : List V} : RepL k f [] vs ↔ vs = [] := by unfold RepL Rep.RepL; exact Iff.rfl
theorem repL_cons {d : D} {ds : List D} {vs : List V} : RepL k f (d :: ds) vs ↔ ∃ v r, vs = v :: r ∧ Rep k f d v ∧ RepL k f ds r := by
  unfold RepL; rw [Rep.RepL]
theorem RepL.cons {d : D} {ds : List D} {v : V} {r : List V} (h : Rep k f d v) (t : RepL k f ds r) : RepL k f (d :: ds) (v :: r) := repL_cons.mpr ⟨v, r, rfl, h, t⟩
theorem RepL.nil : RepL k f [] [] := repL_nil.mpr rfl
theorem RepL.length : ∀ {ds : List D} {vs : List V}, RepL k f ds vs → vs.length = ds.length
  | [], _, h => by rw [repL_nil.mp h]; rfl
  | _ :: _, _, h => by
    obtain ⟨v, r, rfl, _, t⟩ := repL_cons.mp h
    simp [RepL.length t]
theorem RepL.append : ∀ {ds es : List D} {vs ws : List V}, RepL k f ds vs → RepL k f es ws → RepL k f (ds ++ es) (vs ++ ws)
  | [], _, _, _, h, t => by rw [repL_nil.mp h]; exact t
  | _ :: _, _, _, _, h, t => by
    obtain ⟨v, r, rfl, h1, h2⟩ := repL_cons.mp h
    exact RepL.cons h1 (RepL.append h2 t)
theorem RepL.get : ∀ {ds : List D} {vs : List V} {i : Nat} {d : D}, RepL k f ds vs → ds[i]? = some d → ∃ v, vs[i]? = some v ∧ Rep k f d v
  | [], _, _, _, _, e => by simp at e
  | _ :: _, _, 0, _, h, e => by
    obtain ⟨v, r, rfl, h1, h2⟩ := repL_cons.mp h
    simp at e; subst e
    exact ⟨v, rfl, h1⟩
  | _ :: _, _, i + 1, d, h, e => by
    obtain ⟨v, r, rfl, h1, h2⟩ := repL_cons.mp h
    obtain ⟨w, e2, h3⟩ := RepL.get (i := i) h2 (by simpa using e)
    exact ⟨w, by simpa using e2, h3⟩
theorem RepL.getV {ds : List D} {vs : List V} {i : Nat} {v : V} (h : RepL k f ds vs) (e : vs[i]? = some v) : ∃ d, ds[i]? = some d ∧ Rep k f d v := by
  have hl := h.length
  have hi : i < vs.length := (List.getElem?_eq_some_iff.mp e).1
  have e2 : ds[i]? = some ds[i] := List.getElem?_eq_getElem (by omega)
  obtain ⟨w, e3, r⟩ := h.get e2
  rw [e] at e3; cases e3
  exact ⟨_, e2, r⟩
theorem RepL.of_get : ∀ {ds : List D} {vs : List V}, vs.length = ds.length → (∀ (i : Nat) (d : D) (v : V), ds[i]? = some d → vs[i]? = some v → Rep k f d v) → RepL k f ds vs
  | [], [], _, _ => RepL.nil
  | [], _ :: _, h, _ => by simp at h
  | _ :: _, [], h, _ => by simp at h
  | d :: ds, v :: vs, h, q => RepL.cons (q 0 d v rfl rfl) (RepL.of_get (by simpa using h) fun i d v a b => q (i + 1) d v (by simpa using a) (by simpa using b))
theorem RepL.set : ∀ {ds : List D} {vs : List V} (i : Nat) {d : D} {v : V}, RepL k f ds vs → Rep k f d v → RepL k f (ds.set i d) (vs.set i v)
  | [], _, _, _, _, h, _ => by rw [repL_nil.mp h]; exact RepL.nil
  | _ :: _, _, 0, _, _, h, g => by
    obtain ⟨v, r, rfl, h1, h2⟩ := repL_cons.mp h
    exact RepL.cons g h2
  | _ :: _, _, i + 1, _, _, h, g => by
    obtain ⟨v, r, rfl, h1, h2⟩ := repL_cons.mp h
    exact RepL.cons h1 (RepL.set i h2 g)
theorem RepL.take : ∀ {ds : List D} {vs : List V} (n : Nat), RepL k f ds vs → RepL k f (ds.take n) (vs.take n)
  | _, _, 0, _ => by simp; exact RepL.nil
  | [], _, _ + 1, h => by rw [repL_nil.mp h]; exact RepL.nil
  | _ :: _, _, n + 1, h => by
    obtain ⟨v, r, rfl, h1, h2⟩ := repL_cons.mp h
    exact RepL.cons h1 (RepL.take n h2)
theorem RepL.drop : ∀ {ds : List D} {vs : List V} (n : Nat), RepL k f ds vs → RepL k f (ds.drop n) (vs.drop n)
  | _, _, 0, h => h
  | [], _, _ + 1, h => by rw [repL_nil.mp h]; exact RepL.nil
  | _ :: _, _, n + 1, h => by
    obtain ⟨v, r, rfl, h1, h2⟩ := repL_cons.mp h
    exact RepL.drop n h2
theorem RepL.ints : ∀ {ns : List Int} {vs : List V}, RepL k f (ns.map D.int) vs ↔ vs = ns.map V.int
  | [], vs => by rw [List.map_nil, List.map_nil, repL_nil]
  | n :: ns, vs => by
    rw [List.map_cons, List.map_cons, repL_cons]
    constructor
    · rintro ⟨v, r, rfl, h1, h2⟩
      have h1 : v = V.int n := h1
      rw [h1, RepL.ints.mp h2]
    · rintro rfl
      exact ⟨_, _, rfl, rfl, RepL.ints.mpr rfl⟩
theorem RepL.rep {ds : List D} {vs : List V} (h : RepL k f ds vs) : ∀ n : Nat, RepL k f (List.replicate n ds).flatten (List.replicate n vs).flatten
  | 0 => RepL.nil
  | n + 1 => by
    rw [List.replicate_succ, List.replicate_succ, List.flatten_cons, List.flatten_cons]
    exact h.append (RepL.rep h n)
theorem RepL.reverse : ∀ {ds : List D} {vs : List V}, RepL k f ds vs → RepL k f ds.reverse vs.reverse
  | [], _, h => by rw [repL_nil.mp h]; exact RepL.nil
  | _ :: _, _, h => by
    obtain ⟨v, r, rfl, h1, h2⟩ := repL_cons.mp h
    rw [List.reverse_cons, List.reverse_cons]
    exact (RepL.reverse h2).append (RepL.cons h1 RepL.nil)

/-- one more frozen object -/
def Fz.put (f : Fz) (p : Addr) (o : HO) : Fz := ⟨upd f.F p o, f.A⟩
/-! ### a step that changes nothing that stood -/
structure PX (f : Fz) (H : Hp) (g : Fz) (H' : Hp) : Prop where
  ff : Same f.F g.F
  aa : g.A = f.A
  fh : Same g.F H'
  hh : Same H H'
  nw : ∀ a o, g.F a = some o → (∃ o', f.F a = some o') ∨ H a = none
theorem PX.le (x : PX f H g H') : Le f g := ⟨x.ff, fun n a e => by rw [x.aa]; exact e⟩
theorem PX.refl (h : Same f.F H) : PX f H f H := ⟨Same.refl _, rfl, h, Same.refl H, fun _ o e => .inl ⟨o, e⟩⟩
theorem PX.trans {f1 f2 : Fz} {H1 H2 : Hp} (a : PX f H f1 H1) (b : PX f1 H1 f2 H2) : PX f H f2 H2 where
  ff := a.ff.trans b.ff
  aa := b.aa.trans a.aa
  fh := b.fh
  hh := a.hh.trans b.hh
  nw := fun x o e => by
    rcases b.nw x o e with ⟨o', q⟩ | q
    · exact a.nw x o' q
    · exact .inr (a.hh.free q)
theorem same_new {H : Hp} {p : Addr} {o : HO} (h : H p = none) : Same H (upd H p o) := fun b x e => by
  rw [upd_ne (ne_of_none e h)]
  exact e
theorem PX.new {p : Addr} {o : HO} (s : Same f.F H) (h : H p = none) : PX f H (f.put p o) (upd H p o) where
  ff := same_new (s.free h)
  aa := rfl
  fh := fun b x e => by
    have e : upd f.F p o b = some x := e
    by_cases hb : b = p
    · subst hb; rw [upd_same] at e ⊢; exact e
    · rw [upd_ne hb] at e ⊢; exact s _ _ e
  hh := same_new h
  nw := fun b x e => by
    have e : upd f.F p o b = some x := e
    by_cases hb : b = p
    · subst hb; exact .inr h
    · rw [upd_ne hb] at e; exact .inl ⟨x, e⟩
/-- a new object that is left out of the frozen heap -/
theorem PX.newH {p : Addr} {o : HO} (s : Same f.F H) (h : H p = none) : PX f H f (upd H p o) := ⟨Same.refl _, rfl, s.trans (same_new h), same_new h, fun _ o e => .inl ⟨o, e⟩⟩
theorem Le.put {p : Addr} {o : HO} (s : Same f.F H) (h : H p = none) : Le f (f.put p o) := (PX.new s h).le
end
end Sf

/-! Sf.World: the store's cells, slots, what a step keeps. -/
namespace Sf
open PySem L2

/-- a cell's content -/
inductive Ob where
  | gone
  | lst (ds : List D)
  | dct (t : Bool) (ks : List NestedKey) (ds : List D)
  | ins (c : Nat) (fs : List (Str × D))
abbrev Sto := List Ob
abbrev Env := List (Option D)

def nil : Hp := fun _ => Option.none
theorem one_eq {p a : Addr} {o o' : HO} (h : upd nil p o a = some o') : a = p ∧ o' = o := by
  by_cases e : a = p
  · subst e; rw [upd_same] at h; cases h; exact ⟨rfl, rfl⟩
  · rw [upd_ne e] at h; cases h
def FsOk (k : Kx) (f : Fz) : List (Str × D) → List (Str × V) → Prop := Paired fun p q => p.1 = q.1 ∧ Rep k f p.2 q.2
/-- the cells of the heap that a content owns: O -/
def CellOk (k : Kx) (f : Fz) (p : Addr) (O : Hp) : Ob → Prop
  | .gone => O = nil
  | .lst ds => ∃ vs : List V, RepL k f ds vs ∧ O = upd nil p (.lst vs)
  | .dct t ks ds => ∃ (vs : List V) (o : HO), DictOk k f.F p t ks vs o ∧ RepL k f ds vs ∧ O = upd nil p o
  | .ins c fs => ∃ (gs : List (Str × V)) (dx : Addr), FsOk k f fs gs ∧ dx ≠ p ∧ O = upd (upd nil dx (.own p)) p (.ins (k.cl c) dx gs)
theorem FsOk.mono {k : Kx} {f g : Fz} (e : Le f g) {fs : List (Str × D)} {gs : List (Str × V)} (h : FsOk k f fs gs) : FsOk k g fs gs := Paired.mapP h fun p q z => ⟨z.1, z.2.mono e _ _⟩
theorem CellOk.mono {k : Kx} {f g : Fz} {p : Addr} {O : Hp} {o : Ob} (e : Le f g) (h : CellOk k f p O o) : CellOk k g p O o := by
  cases o with
  | gone => exact h
  | lst ds => obtain ⟨vs, h1, h2⟩ := h; exact ⟨vs, RepL.mono e ds vs h1, h2⟩
  | dct t ks ds => obtain ⟨vs, o, h1, h2, h3⟩ := h; exact ⟨vs, o, h1.mono e.ff, RepL.mono e ds vs h2, h3⟩
  | ins c fs => obtain ⟨gs, dx, h1, h2, h3⟩ := h; exact ⟨gs, dx, h1.mono e, h2, h3⟩

/-- a world: the frozen heap, the cells' places, what is owned (0: the tables of code objects; n + 1: cell n) -/
structure Wd where
  f : Fz
  O : Nat → Hp
/-- the frozen heap and the owned ones lie in H, apart -/
structure Sepd (F : Hp) (O : Nat → Hp) (H : Hp) : Prop where
  fh : Same F H
  oh : ∀ i, Same (O i) H
  fo : ∀ i a o, O i a = some o → F a = none
  oo : ∀ i j a o, i ≠ j → O i a = some o → O j a = none
/-- what a step keeps -/
structure Ext (w : Wd) (H : Hp) (w' : Wd) (H' : Hp) : Prop where
  le : Le w.f w'.f
  hh : ∀ a o, H a = some o → (∀ i, w.O i a = none) → H' a = some o
  nf : ∀ a o, w'.f.F a = some o → (∃ u, w.f.F a = some u) ∨ (∃ i u, w.O i a = some u) ∨ H a = none
  no : ∀ j a o, w'.O j a = some o → (∃ i u, w.O i a = some u) ∨ H a = none

section
variable {w w1 w2 w' : Wd} {H H1 H2 H' : Hp} {g : Fz}
abbrev Sp (w : Wd) (H : Hp) : Prop := Sepd w.f.F w.O H
theorem Ext.refl : Ext w H w H := ⟨Le.refl _, fun _ _ h _ => h, fun _ o e => .inl ⟨o, e⟩, fun j _ o e => .inl ⟨j, o, e⟩⟩
theorem Ext.trans (s : Sp w H) (s1 : Sp w1 H1) (a : Ext w H w1 H1) (b : Ext w1 H1 w2 H2) : Ext w H w2 H2 := by
  have key : ∀ c : Addr, H1 c = none → (∃ i u, w.O i c = some u) ∨ H c = none := fun c hc => by
    by_cases q : ∃ i u, w.O i c = some u
    · exact .inl q
    · right
      cases e : H c with
      | none => rfl
      | some o =>
        have := a.hh c o e fun i => by
          cases z : w.O i c with
          | none => rfl
          | some u => exact absurd ⟨i, u, z⟩ q
        rw [hc] at this; cases this
  refine ⟨a.le.trans b.le, fun c o e n => ?_, fun c o e => ?_, fun j c o e => ?_⟩
  · refine b.hh c o (a.hh c o e n) fun i => ?_
    cases z : w1.O i c with
    | none => rfl
    | some u =>
      exfalso
      rcases a.no i c u z with ⟨i', u', q⟩ | q
      · rw [n i'] at q; cases q
      · rw [e] at q; cases q
  · rcases b.nf c o e with ⟨u, q⟩ | ⟨i, u, q⟩ | q
    · exact a.nf c u q
    · exact .inr (a.no i c u q)
    · exact .inr (key c q)
  · rcases b.no j c o e with ⟨i, u, q⟩ | q
    · exact a.no i c u q
    · exact key c q
theorem Sepd.px (s : Sp w H) (x : PX w.f H g H') : Sp ⟨g, w.O⟩ H' where
  fh := x.fh
  oh := fun i => (s.oh i).trans x.hh
  fo := fun i a o e => by
    cases q : g.F a with
    | none => rfl
    | some u =>
      rcases x.nw a u q with ⟨u', z⟩ | z
      · rw [s.fo i a o e] at z; cases z
      · rw [s.oh i a o e] at z; cases z
  oo := s.oo
theorem Ext.px (s : Sp w H) (x : PX w.f H g H') : Ext w H ⟨g, w.O⟩ H' where
  le := x.le
  hh := fun a o e _ => x.hh a o e
  nf := fun a o e => (x.nw a o e).imp id .inr
  no := fun j a o e => .inl ⟨j, o, e⟩
end

def slotAt (env : Env) (i : Nat) : Option D := env.getD i none
def valAt (σ : St) (i : Nat) : Option V := σ.getD i Option.none
/-- the slots σ and the heap H bear env and the store S -/
structure At (k : Kx) (σ : St) (env : Env) (S : Sto) (w : Wd) (H : Hp) : Prop where
  len : env.length = σ.length
  sep : Sp w H
  tab : LamX.Tabs k.T (w.O 0)
  out : ∀ n, S.length ≤ n → w.f.A n = none ∧ w.O (n + 1) = nil
  ce : ∀ n o, S[n]? = some o → ∃ a, w.f.A n = some a ∧ CellOk k w.f a (w.O (n + 1)) o
  sl : ∀ i d, slotAt env i = some d → ∃ v, valAt σ i = some v ∧ Rep k w.f d v

section
variable {k : Kx} {σ : St} {env env' : Env} {S : Sto} {w w' w1 : Wd} {H H' H1 : Hp} {g : Fz}
theorem At.px (a : At k σ env S w H) (x : PX w.f H g H') : At k σ env S ⟨g, w.O⟩ H' where
  len := a.len
  sep := a.sep.px x
  tab := a.tab
  out := fun n h => ⟨by show g.A n = none; rw [x.aa]; exact (a.out n h).1, (a.out n h).2⟩
  ce := fun n o e => by
    obtain ⟨p, h1, h2⟩ := a.ce n o e
    exact ⟨p, x.le.aa _ _ h1, h2.mono x.le⟩
  sl := fun i d e => by
    obtain ⟨v, h1, h2⟩ := a.sl i d e
    exact ⟨v, h1, h2.mono x.le d v⟩
theorem At.val {i : Nat} {d : D} (a : At k σ env S w H) (e : slotAt env i = some d) : ∃ v, σ[i]? = some (some v) ∧ Rep k w.f d v := by
  obtain ⟨x, h2, h3⟩ := a.sl i d e
  refine ⟨x, ?_, h3⟩
  unfold valAt at h2
  rw [List.getD_eq_getElem?_getD] at h2
  cases q : σ[i]? with
  | none => rw [q] at h2; cases h2
  | some y => rw [q] at h2; exact congrArg some h2
theorem slotAt_set (env : Env) (i j : Nat) (s : Option D) (hi : i < env.length) : slotAt (env.set i s) j = if i = j then s else slotAt env j := by
  unfold slotAt
  rw [List.getD_eq_getElem?_getD, List.getD_eq_getElem?_getD, List.getElem?_set]
  split
  · rename_i e; subst e; first | rfl | (rw [if_pos hi]; rfl)
  · rfl
theorem valAt_set (σ : St) (i j : Nat) (v : Option V) (hi : i < σ.length) : valAt (σ.set i v) j = if i = j then v else valAt σ j := by
  unfold valAt
  rw [List.getD_eq_getElem?_getD, List.getD_eq_getElem?_getD, List.getElem?_set]
  split
  · rename_i e; subst e; first | rfl | (rw [if_pos hi]; rfl)
  · rfl
/-- a slot is given a value -/
theorem At.set {i : Nat} {d : D} {v : V} (a : At k σ env S w H) (h1 : i < env.length) (r : Rep k w.f d v) :
    At k (σ.set i (some v)) (env.set i (some d)) S w H := by
  have h2 : i < σ.length := by rw [← a.len]; exact h1
  refine ⟨by simp [a.len], a.sep, a.tab, a.out, a.ce, fun j e hj => ?_⟩
  rw [slotAt_set _ _ _ _ h1] at hj
  rw [valAt_set _ _ _ _ h2]
  by_cases z : i = j
  · rw [if_pos z] at hj ⊢; cases hj
    exact ⟨v, rfl, r⟩
  · rw [if_neg z] at hj ⊢
    exact a.sl j e hj
theorem At.clr {i : Nat} (a : At k σ env S w H) (o : Option V) : At k (σ.set i o) (env.set i none) S w H := by
  by_cases h1 : i < env.length
  · have h2 : i < σ.length := by rw [← a.len]; exact h1
    refine ⟨by simp [a.len], a.sep, a.tab, a.out, a.ce, fun j e hj => ?_⟩
    rw [slotAt_set _ _ _ _ h1] at hj
    rw [valAt_set _ _ _ _ h2]
    by_cases z : i = j
    · rw [if_pos z] at hj; cases hj
    · rw [if_neg z] at hj ⊢
      exact a.sl j e hj
  · have e1 : σ.set i o = σ := List.set_eq_of_length_le (by have := a.len; omega)
    have e2 : env.set i none = env := List.set_eq_of_length_le (by omega)
    rw [e1, e2]; exact a

/-! ### cells -/
def setO (O : Nat → Hp) (i : Nat) (o : Hp) : Nat → Hp := fun j => if j = i then o else O j
theorem setO_same {O : Nat → Hp} {i : Nat} {o : Hp} : setO O i o i = o := if_pos rfl
theorem setO_ne {O : Nat → Hp} {i j : Nat} {o : Hp} (h : j ≠ i) : setO O i o j = O j := if_neg h
/-- a cell is made: the object at p, new, is owned by it -/
theorem At.new {o : Ob} {p : Addr} {O : Hp} (a : At k σ env S w H) (hO : ∀ b u, O b = some u → H b = none) (hs : Same O H') (hH : Same H H') (ok : CellOk k w.f p O o) :
    At k σ env (S ++ [o]) ⟨⟨w.f.F, fun n => if n = S.length then some p else w.f.A n⟩, setO w.O (S.length + 1) O⟩ H' ∧
    Ext w H ⟨⟨w.f.F, fun n => if n = S.length then some p else w.f.A n⟩, setO w.O (S.length + 1) O⟩ H' := by
  have le : Le w.f ⟨w.f.F, fun n => if n = S.length then some p else w.f.A n⟩ := ⟨Same.refl _, fun n b e => by
    show (if n = S.length then some p else w.f.A n) = some b
    by_cases z : n = S.length
    · rw [z, (a.out _ (Nat.le_refl _)).1] at e; cases e
    · rw [if_neg z]; exact e⟩
  refine ⟨⟨a.len, ⟨a.sep.fh.trans hH, fun i => ?_, fun i b u e => ?_, fun i j b u n e => ?_⟩, ?_, fun n hn => ?_, fun n x e => ?_, fun i d e => ?_⟩, ⟨le, fun b u e _ => hH b u e, fun b u e => .inl ⟨u, e⟩, fun j b u e => ?_⟩⟩
  · show Same (setO w.O (S.length + 1) O i) H'
    by_cases z : i = S.length + 1
    · rw [z, setO_same]; exact hs
    · rw [setO_ne z]; exact (a.sep.oh i).trans hH
  · have e : setO w.O (S.length + 1) O i b = some u := e
    by_cases z : i = S.length + 1
    · rw [z, setO_same] at e; exact a.sep.fh.free (hO b u e)
    · rw [setO_ne z] at e; exact a.sep.fo i b u e
  · have e : setO w.O (S.length + 1) O i b = some u := e
    show setO w.O (S.length + 1) O j b = none
    by_cases z : i = S.length + 1
    · rw [z, setO_same] at e
      have zj : j ≠ S.length + 1 := fun q => n (z.trans q.symm)
      rw [setO_ne zj]; exact (a.sep.oh j).free (hO b u e)
    · rw [setO_ne z] at e
      by_cases zj : j = S.length + 1
      · rw [zj, setO_same]
        cases q : O b with
        | none => rfl
        | some u' => have := a.sep.oh i b u e; rw [hO b u' q] at this; cases this
      · rw [setO_ne zj]; exact a.sep.oo i j b u n e
  · show LamX.Tabs k.T (setO w.O (S.length + 1) O 0)
    rw [setO_ne (by omega)]; exact a.tab
  · rw [List.length_append, List.length_singleton] at hn
    obtain ⟨h1, h2⟩ := a.out n (by omega)
    refine ⟨?_, ?_⟩
    · show (if n = S.length then some p else w.f.A n) = none
      rw [if_neg (by omega)]; exact h1
    · show setO w.O (S.length + 1) O (n + 1) = nil
      rw [setO_ne (by omega)]; exact h2
  · by_cases z : n = S.length
    · subst z
      rw [List.getElem?_append_right (Nat.le_refl _), Nat.sub_self] at e
      cases e
      refine ⟨p, if_pos rfl, ?_⟩
      show CellOk k _ p (setO w.O (S.length + 1) O (S.length + 1)) o
      rw [setO_same]; exact ok.mono le
    · have hn : n < S.length := by
        have := (List.getElem?_eq_some_iff.mp e).1
        rw [List.length_append, List.length_singleton] at this; omega
      rw [List.getElem?_append_left hn] at e
      obtain ⟨q, h1, h2⟩ := a.ce n x e
      refine ⟨q, by show (if n = S.length then some p else w.f.A n) = some q; rw [if_neg z]; exact h1, ?_⟩
      show CellOk k _ q (setO w.O (S.length + 1) O (n + 1)) x
      rw [setO_ne (by omega)]; exact h2.mono le
  · obtain ⟨v, h1, h2⟩ := a.sl i d e
    exact ⟨v, h1, h2.mono le d v⟩
  · have e : setO w.O (S.length + 1) O j b = some u := e
    by_cases z : j = S.length + 1
    · rw [z, setO_same] at e; exact .inr (hO b u e)
    · rw [setO_ne z] at e; exact .inl ⟨j, u, e⟩
/-- .. at a place that is known of, but of nobody's -/
theorem At.newAt {o : Ob} {p : Addr} {u : HO} (a : At k σ env S w H) (hF : w.f.F p = none) (hO : ∀ i, w.O i p = none) (ok : CellOk k w.f p (upd nil p u) o) :
    At k σ env (S ++ [o]) ⟨⟨w.f.F, fun n => if n = S.length then some p else w.f.A n⟩, setO w.O (S.length + 1) (upd nil p u)⟩ (upd H p u) := by
  have le : Le w.f ⟨w.f.F, fun n => if n = S.length then some p else w.f.A n⟩ := ⟨Same.refl _, fun n b e => by
    show (if n = S.length then some p else w.f.A n) = some b
    by_cases z : n = S.length
    · rw [z, (a.out _ (Nat.le_refl _)).1] at e; cases e
    · rw [if_neg z]; exact e⟩
  have nF : ∀ b x, w.f.F b = some x → b ≠ p := fun b x e z => by rw [z, hF] at e; cases e
  have nO : ∀ i b x, w.O i b = some x → b ≠ p := fun i b x e z => by rw [z, hO i] at e; cases e
  refine ⟨a.len, ⟨fun b x e => ?_, fun i b x e => ?_, fun i b x e => ?_, fun i j b x n e => ?_⟩, ?_, fun n hn => ?_, fun n x e => ?_, fun i d e => ?_⟩
  · rw [upd_ne (nF b x e)]; exact a.sep.fh b x e
  · have e : setO w.O (S.length + 1) (upd nil p u) i b = some x := e
    by_cases z : i = S.length + 1
    · rw [z, setO_same] at e; obtain ⟨rfl, rfl⟩ := one_eq e; exact upd_same
    · rw [setO_ne z] at e; rw [upd_ne (nO i b x e)]; exact a.sep.oh i b x e
  · have e : setO w.O (S.length + 1) (upd nil p u) i b = some x := e
    by_cases z : i = S.length + 1
    · rw [z, setO_same] at e; obtain ⟨rfl, rfl⟩ := one_eq e; exact hF
    · rw [setO_ne z] at e; exact a.sep.fo i b x e
  · have e : setO w.O (S.length + 1) (upd nil p u) i b = some x := e
    show setO w.O (S.length + 1) (upd nil p u) j b = none
    by_cases z : i = S.length + 1
    · rw [z, setO_same] at e; obtain ⟨rfl, rfl⟩ := one_eq e
      rw [setO_ne (fun q => n (z.trans q.symm))]; exact hO j
    · rw [setO_ne z] at e
      by_cases zj : j = S.length + 1
      · rw [zj, setO_same, upd_ne (nO i b x e)]; rfl
      · rw [setO_ne zj]; exact a.sep.oo i j b x n e
  · show LamX.Tabs k.T (setO w.O (S.length + 1) (upd nil p u) 0)
    rw [setO_ne (by omega)]; exact a.tab
  · rw [List.length_append, List.length_singleton] at hn
    obtain ⟨h1, h2⟩ := a.out n (by omega)
    refine ⟨?_, ?_⟩
    · show (if n = S.length then some p else w.f.A n) = none
      rw [if_neg (by omega)]; exact h1
    · show setO w.O (S.length + 1) (upd nil p u) (n + 1) = nil
      rw [setO_ne (by omega)]; exact h2
  · by_cases z : n = S.length
    · subst z
      rw [List.getElem?_append_right (Nat.le_refl _), Nat.sub_self] at e
      cases e
      refine ⟨p, if_pos rfl, ?_⟩
      show CellOk k _ p (setO w.O (S.length + 1) (upd nil p u) (S.length + 1)) o
      rw [setO_same]; exact ok.mono le
    · have hn : n < S.length := by
        have := (List.getElem?_eq_some_iff.mp e).1
        rw [List.length_append, List.length_singleton] at this; omega
      rw [List.getElem?_append_left hn] at e
      obtain ⟨q, h1, h2⟩ := a.ce n x e
      refine ⟨q, by show (if n = S.length then some p else w.f.A n) = some q; rw [if_neg z]; exact h1, ?_⟩
      show CellOk k _ q (setO w.O (S.length + 1) (upd nil p u) (n + 1)) x
      rw [setO_ne (by omega)]; exact h2.mono le
  · obtain ⟨v, h1, h2⟩ := a.sl i d e
    exact ⟨v, h1, h2.mono le d v⟩
theorem Ext.newAt {w0 : Wd} {H0 : Hp} {p : Addr} {u : HO} (x : Ext w0 H0 w H) (a : At k σ env S w H) (h0 : H0 p = none) :
    Ext w0 H0 ⟨⟨w.f.F, fun n => if n = S.length then some p else w.f.A n⟩, setO w.O (S.length + 1) (upd nil p u)⟩ (upd H p u) where
  le := x.le.trans ⟨Same.refl _, fun n b e => by
    show (if n = S.length then some p else w.f.A n) = some b
    by_cases z : n = S.length
    · rw [z, (a.out _ (Nat.le_refl _)).1] at e; cases e
    · rw [if_neg z]; exact e⟩
  hh := fun b o e n => by
    rw [upd_ne (fun z => by rw [z, h0] at e; cases e)]
    exact x.hh b o e n
  nf := fun b o e => x.nf b o e
  no := fun j b o e => by
    have e : setO w.O (S.length + 1) (upd nil p u) j b = some o := e
    by_cases z : j = S.length + 1
    · rw [z, setO_same] at e; obtain ⟨rfl, rfl⟩ := one_eq e; exact .inr h0
    · rw [setO_ne z] at e; exact x.no j b o e
theorem At.rep_new {p : Addr} : Rep k ⟨w.f.F, fun n => if n = S.length then some p else w.f.A n⟩ (.ref S.length) (.ref p) := by
  unfold Rep
  exact ⟨p, if_pos rfl, rfl⟩
theorem rep_ref {f : Fz} {n : Nat} {v : V} : Rep k f (.ref n) v ↔ ∃ a, f.A n = some a ∧ v = .ref a := by unfold Rep; exact Iff.rfl
/-- a cell's content is changed: the object at p becomes u -/
theorem At.put {n : Nat} {o o' : Ob} {p : Addr} {u0 u : HO} {O' : Hp} (a : At k σ env S w H) (e : S[n]? = some o) (hp : w.f.A n = some p) (ho : w.O (n + 1) p = some u0) (hO : O' = upd (w.O (n + 1)) p u) (ok : CellOk k w.f p O' o') :
    At k σ env (S.set n o') ⟨w.f, setO w.O (n + 1) O'⟩ (upd H p u) ∧ Ext w H ⟨w.f, setO w.O (n + 1) O'⟩ (upd H p u) := by
  have hn : n < S.length := (List.getElem?_eq_some_iff.mp e).1
  have off : ∀ i b x, i ≠ n + 1 → w.O i b = some x → b ≠ p := fun i b x hi q z => by
    subst z; rw [a.sep.oo i (n + 1) b x hi q] at ho; cases ho
  have offF : ∀ b x, w.f.F b = some x → b ≠ p := fun b x q z => by
    subst z; rw [a.sep.fo (n + 1) b _ ho] at q; cases q
  have own' : ∀ b x, O' b = some x → ∃ y, w.O (n + 1) b = some y := fun b x q => by
    rw [hO] at q
    by_cases z : b = p
    · subst z; exact ⟨u0, ho⟩
    · rw [upd_ne z] at q; exact ⟨x, q⟩
  refine ⟨⟨a.len, ⟨fun b x q => by rw [upd_ne (offF b x q)]; exact a.sep.fh b x q, fun i => ?_, fun i b x q => ?_, fun i j b x ne q => ?_⟩, ?_, fun m hm => ?_, fun m x q => ?_, a.sl⟩, ⟨Le.refl _, fun b x q z => ?_, fun b x q => .inl ⟨x, q⟩, fun j b x q => ?_⟩⟩
  · show Same (setO w.O (n + 1) O' i) _
    intro b x q
    by_cases z : i = n + 1
    · rw [z, setO_same, hO] at q
      by_cases y : b = p
      · subst y; rw [upd_same] at q ⊢; exact q
      · rw [upd_ne y] at q ⊢; exact a.sep.oh (n + 1) b x q
    · rw [setO_ne z] at q; rw [upd_ne (off i b x z q)]; exact a.sep.oh i b x q
  · have q : setO w.O (n + 1) O' i b = some x := q
    by_cases z : i = n + 1
    · rw [z, setO_same] at q; obtain ⟨y, q⟩ := own' b x q; exact a.sep.fo _ b y q
    · rw [setO_ne z] at q; exact a.sep.fo i b x q
  · have q : setO w.O (n + 1) O' i b = some x := q
    show setO w.O (n + 1) O' j b = none
    by_cases z : i = n + 1
    · rw [z, setO_same] at q; obtain ⟨y, q⟩ := own' b x q
      rw [setO_ne (fun h => ne (z.trans h.symm))]; exact a.sep.oo _ j b y (fun h => ne (z.trans h)) q
    · rw [setO_ne z] at q
      by_cases y : j = n + 1
      · rw [y, setO_same, hO, upd_ne (off i b x z q)]; exact a.sep.oo i _ b x z q
      · rw [setO_ne y]; exact a.sep.oo i j b x ne q
  · show LamX.Tabs k.T (setO w.O (n + 1) O' 0)
    rw [setO_ne (by omega)]; exact a.tab
  · rw [List.length_set] at hm
    exact ⟨(a.out m hm).1, by show setO w.O (n + 1) O' (m + 1) = nil; rw [setO_ne (by omega)]; exact (a.out m hm).2⟩
  · rw [List.getElem?_set] at q
    by_cases z : n = m
    · subst z
      rw [if_pos rfl, if_pos hn] at q; cases q
      exact ⟨p, hp, by show CellOk k w.f p (setO w.O (n + 1) O' (n + 1)) o'; rw [setO_same]; exact ok⟩
    · rw [if_neg z] at q
      obtain ⟨y, h1, h2⟩ := a.ce m x q
      exact ⟨y, h1, by show CellOk k w.f y (setO w.O (n + 1) O' (m + 1)) x; rw [setO_ne (by omega)]; exact h2⟩
  · rw [upd_ne (fun y => by subst y; rw [z (n + 1)] at ho; cases ho)]; exact q
  · have q : setO w.O (n + 1) O' j b = some x := q
    by_cases z : j = n + 1
    · rw [z, setO_same] at q; obtain ⟨y, q⟩ := own' b x q; exact .inl ⟨_, y, q⟩
    · rw [setO_ne z] at q; exact .inl ⟨j, x, q⟩
/-- a list's cell as it stands -/
theorem At.lst {n : Nat} {ds : List D} {v : V} (a : At k σ env S w H) (e : S[n]? = some (.lst ds)) (r : Rep k w.f (.ref n) v) : ∃ p vs, v = .ref p ∧ w.f.A n = some p ∧ RepL k w.f ds vs ∧ w.O (n + 1) = upd nil p (.lst vs) ∧ H p = some (.lst vs) := by
  obtain ⟨p, h1, rfl⟩ := rep_ref.mp r
  obtain ⟨p', h2, vs, h3, h4⟩ := a.ce n _ e
  rw [h1] at h2; cases h2
  exact ⟨p, vs, rfl, h1, h3, h4, a.sep.oh (n + 1) p _ (by rw [h4]; exact upd_same)⟩
theorem At.put_lst {n : Nat} {ds ds' : List D} {p : Addr} {vs vs' : List V} (a : At k σ env S w H) (e : S[n]? = some (.lst ds)) (hp : w.f.A n = some p) (ho : w.O (n + 1) = upd nil p (.lst vs)) (r : RepL k w.f ds' vs') :
    ∃ w', At k σ env (S.set n (.lst ds')) w' (upd H p (.lst vs')) ∧ Ext w H w' (upd H p (.lst vs')) ∧ w'.f = w.f := by
  obtain ⟨h1, h2⟩ := a.put (o' := .lst ds') (u := .lst vs') (O' := upd nil p (.lst vs')) e hp (by rw [ho]; exact upd_same) (by rw [ho, upd_upd]) ⟨vs', r, rfl⟩
  exact ⟨_, h1, h2, rfl⟩
theorem At.new_lst {ds : List D} {vs : List V} {p : Addr} (a : At k σ env S w H) (r : RepL k w.f ds vs) (hp : H p = none) :
    ∃ w', At k σ env (S ++ [.lst ds]) w' (upd H p (.lst vs)) ∧ Ext w H w' (upd H p (.lst vs)) ∧ Rep k w'.f (.ref S.length) (.ref p) := by
  obtain ⟨h1, h2⟩ := a.new (o := .lst ds) (p := p) (O := upd nil p (.lst vs)) (H' := upd H p (.lst vs)) (fun b u e => by rw [(one_eq e).1]; exact hp) (fun b u e => by obtain ⟨rfl, rfl⟩ := one_eq e; exact upd_same) (same_new hp) ⟨vs, r, rfl⟩
  exact ⟨_, h1, h2, At.rep_new⟩
end
end Sf

/-! Sf.IR: a small tongue for what the text does, and what it reckons over plain data and a store. -/
namespace Sf
open PySem L2

/-! ### data -/
def toInts : List D → Option (List Int)
  | [] => some []
  | .int i :: r => (toInts r).map (i :: ·)
  | _ :: _ => none
theorem toInts_map : ∀ ns : List Int, toInts (ns.map D.int) = some ns
  | [] => rfl
  | n :: ns => by rw [List.map_cons, toInts, toInts_map ns]; rfl
theorem toInts_of : ∀ {ds : List D} {ns : List Int}, toInts ds = some ns → ds = ns.map D.int
  | [], ns, h => by cases h; rfl
  | d :: r, ns, h => by
    cases d with
    | int i =>
      rw [toInts] at h
      cases q : toInts r with
      | none => rw [q] at h; cases h
      | some ms => rw [q] at h; cases h; rw [List.map_cons, toInts_of q]
    | _ => cases h
def toBls : List D → Option (List Bool)
  | [] => some []
  | .bl b :: r => (toBls r).map (b :: ·)
  | _ :: _ => none
theorem toBls_map : ∀ ns : List Bool, toBls (ns.map D.bl) = some ns
  | [] => rfl
  | n :: ns => by rw [List.map_cons, toBls, toBls_map ns]; rfl
theorem toBls_of : ∀ {ds : List D} {ns : List Bool}, toBls ds = some ns → ds = ns.map D.bl
  | [], ns, h => by cases h; rfl
  | d :: r, ns, h => by
    cases d with
    | bl i =>
      rw [toBls] at h
      cases q : toBls r with
      | none => rw [q] at h; cases h
      | some ms => rw [q] at h; cases h; rw [List.map_cons, toBls_of q]
    | _ => cases h
def toStrs : List D → Option (List Str)
  | [] => some []
  | .str b :: r => (toStrs r).map (b :: ·)
  | _ :: _ => none
theorem toStrs_map : ∀ ns : List Str, toStrs (ns.map D.str) = some ns
  | [] => rfl
  | n :: ns => by rw [List.map_cons, toStrs, toStrs_map ns]; rfl
theorem toStrs_of : ∀ {ds : List D} {ns : List Str}, toStrs ds = some ns → ds = ns.map D.str
  | [], ns, h => by cases h; rfl
  | d :: r, ns, h => by
    cases d with
    | str i =>
      rw [toStrs] at h
      cases q : toStrs r with
      | none => rw [q] at h; cases h
      | some ms => rw [q] at h; cases h; rw [List.map_cons, toStrs_of q]
    | _ => cases h
/-- the flat ones -/
def flat : D → Option V
  | .non => some .non
  | .bl b => some (.bl b)
  | .int i => some (.int i)
  | .str s => some (.str s)
  | _ => none
def flats : List D → Option (List V)
  | [] => some []
  | d :: r => (flat d).bind fun v => (flats r).map (v :: ·)
theorem flats_ints : ∀ ns : List Int, flats (ns.map D.int) = some (ns.map V.int)
  | [] => rfl
  | n :: ns => by rw [List.map_cons, flats, flats_ints ns]; rfl
/-- as the library's data; ref, dct: none -/
def toPy : D → PyData
  | .non => .none
  | .bl b => .bool b
  | .int i => .int i
  | .str s => .str s
  | .tup ds => .tuple (toPys ds)
  | .lst ds => .list (toPys ds)
  | .scr ns => .list (ns.map PyData.int)
  | .dct _ _ _ => .none
  | .ref _ => .none
where
  toPys : List D → List PyData
  | [] => []
  | d :: ds => toPy d :: toPys ds
abbrev toPys := toPy.toPys
/-- no cell and no dict in it -/
def plain : D → Bool
  | .tup ds => plains ds
  | .lst ds => plains ds
  | .dct _ _ _ => false
  | .ref _ => false
  | _ => true
where
  plains : List D → Bool
  | [] => true
  | d :: ds => plain d && plains ds
abbrev plains := plain.plains
def shp (d : D) : Bool := plain d && SeqAt.shaped (toPy d)
/-- the most that a list may hold here -/
def LIM : Nat := 100000
def atD (ds : List D) (i : Int) : Option D := atI ds i
/-- what a cell holds, to be read -/
def vw (S : Sto) : D → D
  | .ref n => match S[n]? with
    | some (.lst ds) => .lst ds
    | some (.dct t ks ds) => .dct t ks ds
    | _ => .ref n
  | d => d

inductive Bop where
  | add | sub | mul | fdiv | mod | pow | xor
  deriving DecidableEq
inductive Cop where
  | eq | ne | lt | le | gt | ge | isin | notin
  deriving DecidableEq
/-- built-ins, by name -/
inductive Bi where
  | len | min | max | sum | sorted | abs | all | int | tuple | list
  deriving DecidableEq
/-- methods -/
inductive Mt where
  | count | scount | join | split
  deriving DecidableEq

def small (i : Int) : Bool := decide (i.natAbs < 18446744073709551616)
def repn (ds : List D) (k : Int) : Option (List D) :=
  if k.natAbs < 9223372036854775808 ∧ ds.length * k.toNat ≤ LIM then some (List.replicate k.toNat ds).flatten else none
def evOp : Bop → D → D → Option D
  | .add, .int i, .int j => some (.int (i + j))
  | .add, .str a, .str b => if a.length + b.length ≤ LIM then some (.str (a ++ b)) else none
  | .add, .tup a, .tup b => if a.length + b.length ≤ LIM then some (.tup (a ++ b)) else none
  | .add, .lst a, .lst b => if a.length + b.length ≤ LIM then some (.lst (a ++ b)) else none
  | .sub, .int i, .int j => some (.int (i - j))
  | .mul, .int i, .int j => if small i ∨ small j then some (.int (i * j)) else none
  | .mul, .lst a, .int k => (repn a k).map .lst
  | .mul, .tup a, .int k => if a.isEmpty = false ∧ 2 ≤ k ∧ k ≤ 1000 ∧ a.length ≤ 1000 then some (.tup (List.replicate k.toNat a).flatten) else none
  | .fdiv, .int i, .int j => if 0 < j ∧ j < 1073741824 then some (.int (i / j)) else none
  | .mod, .int i, .int j => if 0 < j then some (.int (i % j)) else none
  | .pow, .int i, .int j => if 0 ≤ j ∧ j ≤ 1000000 ∧ i.natAbs < 2 ^ 64 then some (.int (i ^ j.toNat)) else none
  | .xor, .int i, .int j => some (.int (Builtin.bitXor i j))
  | _, _, _ => none
def isInD (x : D) (ds : List D) : Option Bool := (flat x).bind fun v => (flats ds).map fun vs => inV v vs
/-- a key of a dict whose keys are numbers and texts -/
def toKeyF : D → Option NestedKey
  | .int i => some (.num i)
  | .str s => some (.text s)
  | _ => none
mutual
def toKeyD : D → Option NestedKey
  | .non => some .none
  | .int i => some (.num i)
  | .bl b => some (.num (if b then 1 else 0))
  | .str s => some (.text s)
  | .tup ds => (toKeyDs ds).map .tup
  | _ => none
def toKeyDs : List D → Option (List NestedKey)
  | [] => some []
  | d :: ds => (toKeyD d).bind fun k => (toKeyDs ds).map (k :: ·)
end
/-- t: tuples alone, to depth 8 -/
def toKey (t : Bool) (d : D) : Option NestedKey := match t with
  | false => toKeyF d
  | true => none
def lookD (ks : List NestedKey) (ds : List D) (k : NestedKey) : Option D := (ks.zip ds).lookup k
def signIn (x s : Str) : Option Bool := match x.cps.toList with
  | [c] => some (decide (c ∈ s.cps.toList))
  | _ => none
def evCmp : Cop → D → D → Option Bool
  | .eq, a, b => if shp a = true ∧ shp b = true then some (PyData.eqv (toPy a) (toPy b)) else none
  | .ne, a, b => if shp a = true ∧ shp b = true then some (!PyData.eqv (toPy a) (toPy b)) else none
  | .lt, .int i, .int j => some (decide (i < j))
  | .le, .int i, .int j => some (decide (i ≤ j))
  | .gt, .int i, .int j => some (decide (j < i))
  | .ge, .int i, .int j => some (decide (j ≤ i))
  | .isin, x, .tup ds => isInD x ds
  | .isin, x, .lst ds => isInD x ds
  | .isin, .str x, .str s => signIn x s
  | .isin, x, .dct t ks ds => (toKey t x).map fun k => (lookD ks ds k).isSome
  | .notin, x, .tup ds => (isInD x ds).map (!·)
  | .notin, x, .lst ds => (isInD x ds).map (!·)
  | .notin, .str x, .str s => (signIn x s).map (!·)
  | .notin, x, .dct t ks ds => (toKey t x).map fun k => !(lookD ks ds k).isSome
  | _, _, _ => none
def minI : Int → List Int → Int
  | m, [] => m
  | m, x :: r => minI (if x < m then x else m) r
def maxI : Int → List Int → Int
  | m, [] => m
  | m, x :: r => maxI (if m < x then x else m) r
/-- rising, by putting in -/
def putIn (x : Int) : List Int → List Int
  | [] => [x]
  | y :: r => if x ≤ y then x :: y :: r else y :: putIn x r
def sortI (ns : List Int) : List Int := ns.foldr putIn []
def toNums : List NestedKey → Option (List Int)
  | [] => some []
  | .num i :: r => (toNums r).map (i :: ·)
  | _ :: _ => none
def evBi : Bi → List D → Option D
  | .len, [.tup ds] => some (.int ds.length)
  | .len, [.lst ds] => some (.int ds.length)
  | .len, [.scr ns] => some (.int ns.length)
  | .len, [.str s] => if s.length ≤ LIM then some (.int s.length) else none
  | .min, [.int i, .int j] => some (.int (if j < i then j else i))
  | .max, [.int i, .int j] => some (.int (if j > i then j else i))
  | .min, [.lst ds] => (toInts ds).bind fun ns => match ns with | [] => none | m :: r => some (.int (minI m r))
  | .max, [.lst ds] => (toInts ds).bind fun ns => match ns with | [] => none | m :: r => some (.int (maxI m r))
  | .sum, [.lst ds] => (toInts ds).map fun ns => .int ns.sum
  | .sorted, [.dct false ks _] => (toNums ks).bind fun ns => if ns.length < 64 then some (.lst ((sortI ns).map .int)) else none
  | .sorted, [.lst ds] => (toInts ds).bind fun ns => if ns.length < 64 then some (.lst ((sortI ns).map .int)) else none
  | .abs, [.int i] => some (.int (if i < 0 then -i else i))
  | .all, [.lst ds] => (toBls ds).map fun bs => .bl (bs.all id)
  | .int, [.int i] => some (.int i)
  | .int, [.bl b] => some (.int (if b then 1 else 0))
  | .tuple, [.tup ds] => some (.tup ds)
  | .tuple, [.lst ds] => some (.tup ds)
  | .list, [.tup ds] => some (.lst ds)
  | .list, [.lst ds] => some (.lst ds)
  | _, _ => none
/-- whose method it is -/
def mtRecv : Mt → D → Bool
  | .count, .lst _ => true
  | .scount, .str _ => true
  | .join, .str _ => true
  | .split, .str _ => true
  | _, _ => false
def isDctF : D → Bool
  | .dct false _ _ => true
  | _ => false
def joinLen (a : Str) (ys : List Str) : Nat := (ys.map (fun y => y.length + a.length)).sum
def evCnt : D → List D → Option D
  | .lst ds, [.int k] => (toInts ds).map fun ns => .int (ns.count k)
  | _, _ => none
def evSCnt : D → List D → Option D
  | .str a, [.str b] => some (.int (Txt.count a b))
  | _, _ => none
def evJoin : D → List D → Option D
  | .str a, [.lst ds] => (toStrs ds).bind fun ys => if joinLen a ys ≤ LIM then some (.str (Txt.join a ys)) else none
  | _, _ => none
def evSplit : D → List D → Option D
  | .str a, [.str b] => if (b.length == 0) = false ∧ a.length ≤ LIM then some (.lst ((Txt.split a b).map .str)) else none
  | _, _ => none
def evMt : Mt → D → List D → Option D
  | .count => evCnt
  | .scount => evSCnt
  | .join => evJoin
  | .split => evSplit
def evIx : D → D → Option D
  | .tup ds, .int i => atD ds i
  | .lst ds, .int i => atD ds i
  | .scr ns, .int i => (atI ns i).map .int
  | .str s, .int i => if s.length ≤ LIM then (atI s.cps.toList i).map fun c => .str ⟨#[c]⟩ else none
  | .dct t ks ds, x => (toKey t x).bind fun k => lookD ks ds k
  | _, _ => none
/-- the symmetric difference of two lists of distinct ints, rising -/
def symI (a b : List Int) : List Int := sortI ((a.filter fun x => !b.contains x) ++ (b.filter fun x => !a.contains x))
/-- a tuple of few distinct numbers -/
def okSx (a : D) : Bool := match a with
  | .tup as => match toInts as with
    | some xs => decide (xs.Nodup ∧ xs.length ≤ 60)
    | none => false
  | _ => false
def evSx (a b : D) : Option D := match a, b with
  | .tup as, .tup bs => (toInts as).bind fun xs => (toInts bs).bind fun ys =>
    if xs.Nodup ∧ ys.Nodup ∧ xs.length ≤ 60 ∧ ys.length ≤ 60 ∧ xs.length + ys.length < 64 + 64 ∧ (symI xs ys).length < 64 then some (.lst ((symI xs ys).map .int)) else none
  | _, _ => none
/-- kinds that are asked for -/
inductive Ki where
  | int | bool | tuple | list | str
  deriving DecidableEq
def isKi : Ki → D → Bool
  | .int, .int _ => true
  | .int, .bl _ => true
  | .bool, .bl _ => true
  | .tuple, .tup _ => true
  | .list, .lst _ => true
  | .list, .scr _ => true
  | .str, .str _ => true
  | _, _ => false
/-- an object, or a dict -/
def isRefD : D → Bool
  | .ref _ => true
  | .dct _ _ _ => true
  | _ => false
def cutL {α : Type} (xs : List α) (lo hi : Option Int) : List α := (xs.drop (HT.sIx xs.length 0 lo)).take (HT.sIx xs.length xs.length hi - HT.sIx xs.length 0 lo)
def evSl (d : D) (lo hi : Option Int) : Option D := match d with
  | .tup ds => some (.tup (cutL ds lo hi))
  | .lst ds => some (.lst (cutL ds lo hi))
  | .str s => if s.length ≤ LIM then some (.str (cutS s lo hi)) else none
  | _ => none
def intOf : D → Option Int
  | .int i => some i
  | _ => none

/-! ### terms -/
/-- a target: a name, or a tuple of such -/
inductive Tg where
  | nm (i : Nat)
  | tup (ts : List Tg)
/-- where a parameter that is handed in by its name comes from: the j-th word, or its default -/
inductive Kf where
  | g (j : Nat)
  | int (i : Int)
  | non
  deriving DecidableEq
inductive E where
  | var (i : Nat)
  | int (i : Int) | bl (b : Bool) | non | str (s : Str)
  | glo (g : Nat)
  | op (o : Bop) (a b : E)
  | neg (a : E)
  | cmp (o : Cop) (a b : E)
  | cmp2 (o o' : Cop) (a b c : E)
  | isN (neg : Bool) (a : E)
  | bop (and : Bool) (es : List E)
  | not (a : E)
  | ife (c a b : E)
  | tup (es : List E)
  | lst (es : List E)
  | ix (a b : E)
  /-- a[lo:hi]; false: none is written -/
  | slc (bl bh : Bool) (a lo hi : E)
  | call (f : Nat) (es ks : List E) (fs : List Kf)
  | bi (b : Bi) (es : List E)
  | mt (m : Mt) (a : E) (es : List E)
  | isi (ks : List Ki) (one : Bool) (a : E)
  /-- sorted(set(a) ^ set(b)) -/
  | sx (a b : E)
  /-- what is walked (in a for, a comprehension alone): range(..), enumerate(..), a list or tuple -/
  | rng (es : List E)
  | enm (a : E)
  | seq (a : E)
  /-- [elt for t in src if c]; c is .bl true where no test is written -/
  | lc (vs : List Nat) (t : Tg) (src c elt : E)
  /-- a new list or dict, put into the store -/
  | new (e : E)
  /-- {}, {k: v, ..} -/
  | dsp (t : Bool) (ks vs : List E)
  /-- d.setdefault(k, []) -/
  | sdf (a b : E)
  /-- xs.pop() -/
  | popL (a : E)
  /-- tuple(range(..)), list(range(..)) -/
  | trg (l : Bool) (a : E)
  | trg2 (l : Bool) (a b : E)
  /-- {a: b}, put into the store -/
  | ds1 (a b : E)

inductive S where
  | asg (t : Tg) (e : E)
  | asg1 (i : Nat) (e : E)
  | par (is : List Nat) (es : List E)
  | oset (a ix e : E)
  | app (a e : E)
  | ext (a e : E)
  /-- (no text) the variable's cells are frozen -/
  | frz (i : Nat)
  | ex (e : E)
  | ife (c : E) (a b : List S)
  | for_ (t : Tg) (src : E) (body : List S)
  /-- n: more turns than are taken -/
  | whl (n : Nat) (c : E) (body : List S)
  | ret (e : E)
  | retN
  | never

/-! ### what a step tells -/
/-- an exception: its class, its own value -/
structure Ex where
  c : Nat
  f : Option (Str × D)
inductive Re (α : Type) where
  | ok (a : α) (S : Sto)
  | ex (x : Ex) (S : Sto)
def bnd {α β : Type} (m : Option (Re α)) (g : α → Sto → Option (Re β)) : Option (Re β) := match m with
  | some (.ok a S) => g a S
  | some (.ex x S) => some (.ex x S)
  | none => none
def lift {α : Type} (o : Option α) (S : Sto) : Option (Re α) := o.map fun a => .ok a S
theorem bnd_ok {α β : Type} {a : α} {S : Sto} {g : α → Sto → Option (Re β)} : bnd (some (.ok a S)) g = g a S := rfl
theorem lift_some {α : Type} {a : α} {S : Sto} : lift (some a) S = some (.ok a S) := rfl
def toI (m : Option (Re D)) : Option (Re (Option Int)) := bnd m fun y S => match y with | .int i => some (.ok (some i) S) | _ => none
abbrev FnSem := List D → Sto → Option (Re D)
def setV (env : Env) (i : Nat) (d : D) : Option Env := if i < env.length then some (env.set i (some d)) else none
mutual
def asgT : Tg → D → Env → Option Env
  | .nm i, d, env => setV env i d
  | .tup ts, d, env => match d with | .tup ds => asgTs ts ds env | _ => none
def asgTs : List Tg → List D → Env → Option Env
  | [], [], env => some env
  | t :: ts, d :: ds, env => (asgT t d env).bind fun env' => asgTs ts ds env'
  | _, _, _ => none
end
def setVs : List Nat → List D → Env → Option Env
  | [], [], env => some env
  | i :: is, d :: ds, env => (setV env i d).bind fun env' => setVs is ds env'
  | _, _, _ => none
def wipeE (env : Env) : List Nat → Env
  | [] => env
  | v :: vs => (wipeE env vs).set v none
def lcGo (t : Tg) (c elt : Env → Sto → Option (Re D)) (env : Env) : List D → Sto → Option (List D × Sto)
  | [], S => some ([], S)
  | d :: ds, S => (asgT t d env).bind fun env1 => match c env1 S with
    | some (.ok (.bl true) S1) => (match elt env1 S1 with
      | some (.ok x S2) => (lcGo t c elt env ds S2).map fun r => (x :: r.1, r.2)
      | _ => none)
    | some (.ok (.bl false) S1) => lcGo t c elt env ds S1
    | _ => none
def isNonD : D → Bool
  | .non => true
  | _ => false
def rngD (lo : Int) (n : Nat) : List D := (List.range n).map fun (i : Nat) => D.int (lo + (i : Int))
def inR (i : Int) : Bool := decide (i.natAbs < 4611686018427387904)
def enmD (k : Nat) : List D → List D
  | [] => []
  | d :: r => .tup [.int k, d] :: enmD (k + 1) r
def rngOf : List D → Option (List D)
  | [.int n] => if inR n then some (rngD 0 n.toNat) else none
  | [.int lo, .int hi] => if inR lo && inR hi then some (rngD lo (hi - lo).toNat) else none
  | _ => none
def rgD (l : Bool) : D → D → Option D
  | .int i, .int j => if inR i = true ∧ inR j = true ∧ (j - i).toNat ≤ LIM then some (if l then .lst (rngD i (j - i).toNat) else .tup (rngD i (j - i).toNat)) else none
  | _, _ => none
/-- what is walked stands still -/
def seqOf : D → Option (List D)
  | .lst ds => some ds
  | .tup ds => some ds
  | .scr ns => some (ns.map .int)
  | _ => none
/-- a text's signs -/
def sgn (s : Str) : List D := s.cps.toList.map fun c => .str ⟨#[c]⟩
def enmOf : D → Option (List D)
  | .lst ds => some (enmD 0 ds)
  | .tup ds => some (enmD 0 ds)
  | .str s => some (enmD 0 (sgn s))
  | _ => none
/-- the keys, for a display or a store -/
def storeD (ks : List NestedKey) (ds : List D) (k : NestedKey) (v : D) : List NestedKey × List D :=
  if k ∈ ks then (ks, (ks.zip ds).map fun p => if p.1 = k then v else p.2) else (ks ++ [k], ds ++ [v])
def dspD (t : Bool) : List D → List D → List NestedKey × List D → Option (List NestedKey × List D)
  | [], [], acc => some acc
  | k :: ks, v :: vs, acc => (toKey t k).bind fun x => dspD t ks vs (storeD acc.1 acc.2 x v)
  | _, _, _ => none
def kfD (zs : List D) : Kf → Option D
  | .g j => zs[j]?
  | .int i => some (.int i)
  | .non => some .non
def kfs (zs : List D) : List Kf → Option (List D)
  | [] => some []
  | x :: r => (kfD zs x).bind fun d => (kfs zs r).map (d :: ·)
/-- a new object into the store -/
def newD (d : D) (S : Sto) : Option (Re D) := match d with
  | .lst ds => some (.ok (.ref S.length) (S ++ [.lst ds]))
  | .dct t ks ds => some (.ok (.ref S.length) (S ++ [.dct t ks ds]))
  | _ => none
def sdfD (a b : D) (S : Sto) : Option (Re D) := match a with
  | .ref n => match S[n]? with
    | some (.dct t ks ds) => (toKey t b).bind fun k => if ks.length < LIM then match lookD ks ds k with
      | some d => some (.ok d S)
      | none => some (.ok (.ref S.length) (List.set (S ++ [Ob.lst []]) n (.dct t (ks ++ [k]) (ds ++ [D.ref S.length]))))
      else none
    | _ => none
  | _ => none
def popD (a : D) (S : Sto) : Option (Re D) := match a with
  | .ref n => match S[n]? with
    | some (.lst ds) => match ds[ds.length - 1]? with
      | some d => some (.ok d (S.set n (.lst ds.dropLast)))
      | none => none
    | _ => none
  | _ => none
mutual
/-- a cell and what it holds stand still from now on -/
def frzD : Nat → D → Sto → Option (D × Sto)
  | 0, _, _ => none
  | n + 1, .ref m, S => match S[m]? with
    | some (.lst ds) => (frzL n ds (S.set m .gone)).map fun p => (.lst p.1, p.2)
    | some (.dct t ks ds) => (frzL n ds (S.set m .gone)).map fun p => (.dct t ks p.1, p.2)
    | _ => none
  | _ + 1, d, S => some (d, S)
def frzL : Nat → List D → Sto → Option (List D × Sto)
  | _, [], S => some ([], S)
  | n, d :: ds, S => (frzD n d S).bind fun p => (frzL n ds p.2).map fun q => (p.1 :: q.1, q.2)
end

variable (G : Nat → Option D) (Φ : Nat → FnSem)
mutual
def evE : E → Env → Sto → Option (Re D)
  | .var i, env, S => (slotAt env i).map fun d => .ok d S
  | .int i, _, S => some (.ok (.int i) S)
  | .bl b, _, S => some (.ok (.bl b) S)
  | .non, _, S => some (.ok .non S)
  | .str s, _, S => some (.ok (.str s) S)
  | .glo g, _, S => lift (G g) S
  | .op o a b, env, S => bnd (evE a env S) fun x S => bnd (evE b env S) fun y S => lift (evOp o (vw S x) (vw S y)) S
  | .neg a, env, S => bnd (evE a env S) fun x S => lift ((intOf x).map fun i => .int (-i)) S
  | .cmp o a b, env, S => bnd (evE a env S) fun x S => bnd (evE b env S) fun y S => lift ((evCmp o (vw S x) (vw S y)).map .bl) S
  | .cmp2 o o' a b c, env, S => bnd (evE a env S) fun x S => bnd (evE b env S) fun y S => match evCmp o (vw S x) (vw S y) with
    | some true => bnd (evE c env S) fun z S => lift ((evCmp o' (vw S y) (vw S z)).map .bl) S
    | some false => some (.ok (.bl false) S)
    | none => none
  | .isN neg a, env, S => bnd (evE a env S) fun x S => some (.ok (.bl (xor neg (isNonD x))) S)
  | .bop and es, env, S => evB and es env S
  | .not a, env, S => bnd (evE a env S) fun x S => match x with | .bl b => some (.ok (.bl (!b)) S) | _ => none
  | .ife c a b, env, S => bnd (evE c env S) fun x S => match x with
    | .bl true => evE a env S
    | .bl false => evE b env S
    | _ => none
  | .tup es, env, S => bnd (evL es env S) fun ds S => if ds.length ≤ LIM then some (.ok (.tup ds) S) else none
  | .lst es, env, S => bnd (evL es env S) fun ds S => if ds.length ≤ LIM then some (.ok (.lst ds) S) else none
  | .ix a b, env, S => bnd (evE a env S) fun x S => bnd (evE b env S) fun y S => lift (evIx (vw S x) y) S
  | .slc bl bh a lo hi, env, S => bnd (evE a env S) fun x S => bnd (if bl then toI (evE lo env S) else some (.ok none S)) fun y S => bnd (if bh then toI (evE hi env S) else some (.ok none S)) fun z S => lift (evSl (vw S x) y z) S
  | .call f es ks fs, env, S => bnd (evL es env S) fun xs S => bnd (evL ks env S) fun zs S => (kfs zs fs).bind fun ds => Φ f (xs ++ ds) S
  | .bi b es, env, S => bnd (evL es env S) fun xs S => lift (evBi b (xs.map (vw S))) S
  | .mt m a es, env, S => bnd (evE a env S) fun x S => if mtRecv m (vw S x) then bnd (evL es env S) fun xs S => lift (evMt m (vw S x) (xs.map (vw S))) S else none
  | .isi ks _ a, env, S => bnd (evE a env S) fun x S => if isRefD (vw S x) then none else some (.ok (.bl (ks.any fun k => isKi k (vw S x))) S)
  | .sx a b, env, S => bnd (evE a env S) fun x S => if okSx x = true then bnd (evE b env S) fun y S => lift (evSx x y) S else none
  | .rng es, env, S => bnd (evL es env S) fun xs S => lift ((rngOf xs).map .lst) S
  | .enm a, env, S => bnd (evE a env S) fun x S => lift ((enmOf x).map .lst) S
  | .seq a, env, S => bnd (evE a env S) fun x S => lift ((seqOf x).map .lst) S
  | .lc vs t src c elt, env, S => bnd (evE src env S) fun x S => match x with
    | .lst ds => (lcGo t (fun e s => evE c e s) (fun e s => evE elt e s) (wipeE env vs) ds S).bind fun r => if r.1.length ≤ LIM then some (.ok (.lst r.1) r.2) else none
    | _ => none
  | .new e, env, S => bnd (evE e env S) fun x S => newD x S
  | .dsp t ks vs, env, S => bnd (evL ks env S) fun xs S => bnd (evL vs env S) fun ys S => lift ((dspD t xs ys ([], [])).map fun p => .dct t p.1 p.2) S
  | .sdf a b, env, S => bnd (evE a env S) fun x S => if isDctF (vw S x) then bnd (evE b env S) fun y S => sdfD x y S else none
  | .popL a, env, S => bnd (evE a env S) fun x S => popD x S
  | .trg l a, env, S => bnd (evE a env S) fun x S => lift (rgD l (.int 0) x) S
  | .trg2 l a b, env, S => bnd (evE a env S) fun x S => bnd (evE b env S) fun y S => lift (rgD l x y) S
  | .ds1 a b, env, S => bnd (evE a env S) fun x S => bnd (evE b env S) fun y S => (toKeyF x).bind fun k => newD (.dct false [k] [y]) S
def evB (and : Bool) : List E → Env → Sto → Option (Re D)
  | [], _, _ => none
  | e :: es, env, S => match es with
    | [] => evE e env S
    | _ :: _ => bnd (evE e env S) fun x S => match x with
      | .bl b => if b = and then evB and es env S else some (.ok (.bl b) S)
      | _ => none
def evL : List E → Env → Sto → Option (Re (List D))
  | [], _, S => some (.ok [] S)
  | e :: es, env, S => bnd (evE e env S) fun x S => bnd (evL es env S) fun xs S => some (.ok (x :: xs) S)
end

inductive Fl where
  | nx (env : Env) (S : Sto)
  | rt (d : D) (S : Sto)
  | ex (x : Ex) (env : Env) (S : Sto)
def bndS {α : Type} (m : Option (Re α)) (env : Env) (g : α → Sto → Option Fl) : Option Fl := match m with
  | some (.ok a S) => g a S
  | some (.ex x S) => some (.ex x env S)
  | none => none
theorem bndS_ok {α : Type} {a : α} {S : Sto} {env : Env} {g : α → Sto → Option Fl} : bndS (some (.ok a S)) env g = g a S := rfl
def forGo (t : Tg) (body : Env → Sto → Option Fl) : List D → Env → Sto → Option Fl
  | [], env, S => some (.nx env S)
  | d :: ds, env, S => (asgT t d env).bind fun env1 => match body env1 S with
    | some (.nx env2 S2) => forGo t body ds env2 S2
    | r => r
def whGo (c : Env → Sto → Option (Re D)) (b : Env → Sto → Option Fl) : Nat → Env → Sto → Option Fl
  | 0, _, _ => none
  | n + 1, env, S => bndS (c env S) env fun x S => match x with
    | .bl true => (match b env S with
      | some (.nx env2 S2) => whGo c b n env2 S2
      | r => r)
    | .bl false => some (.nx env S)
    | _ => none
def osetD (a i v : D) (env : Env) (S : Sto) : Option Fl := match a with
  | .ref n => match S[n]? with
    | some (.lst ds) => match i with
      | .int k => (ixN ds.length k).map fun j => .nx env (S.set n (.lst (ds.set j v)))
      | _ => none
    | some (.dct t ks ds) => (toKey t i).bind fun k => if ks.length < LIM then some (.nx env (S.set n (.dct t (storeD ks ds k v).1 (storeD ks ds k v).2))) else none
    | _ => none
  | _ => none
def appD (a v : D) (env : Env) (S : Sto) : Option Fl := match a with
  | .ref n => match S[n]? with
    | some (.lst ds) => if ds.length < LIM then some (.nx env (S.set n (.lst (ds ++ [v])))) else none
    | _ => none
  | _ => none
def extD (a v : D) (env : Env) (S : Sto) : Option Fl := match a, v with
  | .ref n, .lst es => match S[n]? with
    | some (.lst ds) => if ds.length + es.length < LIM then some (.nx env (S.set n (.lst (ds ++ es)))) else none
    | _ => none
  | _, _ => none
mutual
def evS : S → Env → Sto → Option Fl
  | .asg t e, env, S => bndS (evE G Φ e env S) env fun x S => (asgT t x env).map fun env => .nx env S
  | .asg1 i e, env, S => bndS (evE G Φ e env S) env fun x S => (setV env i x).map fun env => .nx env S
  | .par is es, env, S => bndS (evL G Φ es env S) env fun xs S => if is.Nodup then (setVs is xs env).map fun env => .nx env S else none
  | .oset a ix e, env, S => bndS (evE G Φ e env S) env fun v S => bndS (evE G Φ a env S) env fun x S => bndS (evE G Φ ix env S) env fun i S => osetD x i v env S
  | .app a e, env, S => bndS (evE G Φ a env S) env fun x S => match vw S x with
    | .lst _ => bndS (evE G Φ e env S) env fun v S => appD x v env S
    | _ => none
  | .ext a e, env, S => bndS (evE G Φ a env S) env fun x S => match vw S x with
    | .lst _ => bndS (evE G Φ e env S) env fun v S => extD x v env S
    | _ => none
  | .frz i, env, S => (slotAt env i).bind fun d => (frzD 5 d S).bind fun p => (setV env i p.1).map fun env => .nx env p.2
  | .ex e, env, S => bndS (evE G Φ e env S) env fun _ S => some (.nx env S)
  | .ife c a b, env, S => bndS (evE G Φ c env S) env fun x S => match x with
    | .bl true => evSs a env S
    | .bl false => evSs b env S
    | _ => none
  | .for_ t src body, env, S => bndS (evE G Φ src env S) env fun x S => match x with
    | .lst ds => forGo t (fun e s => evSs body e s) ds env S
    | _ => none
  | .whl n c body, env, S => whGo (fun e s => evE G Φ c e s) (fun e s => evSs body e s) n env S
  | .ret e, env, S => bndS (evE G Φ e env S) env fun x S => some (.rt x S)
  | .retN, _, S => some (.rt .non S)
  | .never, _, _ => none
def evSs : List S → Env → Sto → Option Fl
  | [], env, S => some (.nx env S)
  | s :: ss, env, S => match evS s env S with
    | some (.nx env' S') => evSs ss env' S'
    | r => r
end

/-! ### a def's worth -/
def startE (as : List D) (n : Nat) : Env := as.map some ++ List.replicate (n - as.length) none
def runF (n : Nat) (body : List S) (as : List D) (S : Sto) : Option (Re D) := match evSs G Φ body (startE as n) S with
  | some (.nx _ S') => some (.ok .non S')
  | some (.rt d S') => some (.ok d S')
  | some (.ex x _ S') => some (.ex x S')
  | none => none
end Sf

/-! Sf.Chk: does a text say what a term of the small tongue says? -/
namespace Sf
open PySem L2

/-- a way of calling a def: its name, how many words by place, the names of the others, where the named parameters come from -/
structure Cf where
  x : Str
  n : Nat
  ks : List Str
  fs : List Kf
structure SC where
  N : List Str
  names : List (Str × NameKind)
  /-- a def's own body (cells may be stored), not a comprehension's -/
  cs : Bool
  fns : List Cf
  glo : List Str
  blt : List Str

def vis (C : SC) (x : Str) : Bool := match C.names.lookup x with
  | some .local => true
  | some .cell => true
  | some .free => true
  | _ => false
def isGl (C : SC) (x : Str) : Bool := match C.names.lookup x with
  | some .globalImplicit => true
  | _ => false
def sto (C : SC) (x : Str) : Bool := match C.names.lookup x with
  | some .local => true
  | some .cell => C.cs
  | _ => false
def loc (C : SC) (x : Str) : Bool := match C.names.lookup x with
  | some .local => true
  | _ => false
def noDbg (x : Str) : Bool := !(x == ("__debug__" : Str)) && !(x == ("__classdict__" : Str)) && !(x == ("__name__" : Str))
def slotIs (C : SC) (i : Nat) (x : Str) : Bool := decide (C.N[i]? = some x)
def nmV (C : SC) (i : Nat) : Expr → Bool
  | .Name x _ => slotIs C i x && vis C x && noDbg x
  | _ => false
def nmS (C : SC) (i : Nat) : Expr → Bool
  | .Name x _ => slotIs C i x && sto C x
  | _ => false
def nmL (C : SC) (i : Nat) : Expr → Bool
  | .Name x _ => slotIs C i x && loc C x
  | _ => false
def nmLs (C : SC) : List Nat → List Expr → Bool
  | [], [] => true
  | i :: is, e :: es => nmL C i e && nmLs C is es
  | _, _ => false
def isB (C : SC) (x y : Str) : Bool := decide (x = y) && isGl C x && decide (x ∈ C.blt)

def bopOf : Bop → Operator
  | .add => .Add | .sub => .Sub | .mul => .Mult | .fdiv => .FloorDiv | .mod => .Mod | .pow => .Pow | .xor => .BitXor
def copOf : Cop → CmpOp
  | .eq => .Eq | .ne => .NotEq | .lt => .Lt | .le => .LtE | .gt => .Gt | .ge => .GtE | .isin => .In | .notin => .NotIn
def biName : Bi → Str
  | .len => "len" | .min => "min" | .max => "max" | .sum => "sum" | .sorted => "sorted" | .abs => "abs" | .all => "all" | .int => "int" | .tuple => "tuple" | .list => "list"
def mtName : Mt → Str
  | .count => "count" | .scount => "count" | .join => "join" | .split => "split"
def kiName : Ki → Str
  | .int => "int" | .bool => "bool" | .tuple => "tuple" | .list => "list" | .str => "str"

def noIfe : E → Bool
  | .ife .. => false
  | _ => true
def isSrc : E → Bool
  | .rng _ => true
  | .enm _ => true
  | .seq _ => true
  | _ => false
def isLc : E → Bool
  | .lc .. => true
  | .new (.lc ..) => true
  | _ => false
/-- what makes a new list or dict -/
def isFresh : E → Bool
  | .lst _ => true
  | .lc .. => true
  | .dsp .. => true
  | .op .add _ _ => true
  | .op .mul _ _ => true
  | _ => false
def relN (names : List (Str × NameKind)) (outer : List (Str × NameKind)) : List (Str × NameKind) :=
  names.map fun (n, k) => if (k == NameKind.free && true && outer.lookup n == some .cell) then (n, NameKind.cell) else (n, k)
def blkSC (C : SC) (sc : Scope) : SC := { C with names := relN sc.names C.names, cs := false }
def scOf (C : SC) : Scope := { kind := .function, names := C.names, isGenerator := false, isCoroutine := false }
/-- enumerate's target is a tuple -/
def enTg : E → Expr → Bool
  | .enm _, .Tuple .. => true
  | .enm _, _ => false
  | _, _ => true
/-- not f() -/
def noC0 : Expr → Bool
  | .Call (.Name _ _) [] [] _ => false
  | _ => true
def isNone : Expr → Bool
  | .Constant .none _ _ => true
  | _ => false
mutual
def tgt (C : SC) : Tg → Expr → Bool
  | .nm i, e => nmS C i e
  | .tup ts, e => match e with | .Tuple es _ _ => tgts C ts es | _ => false
def tgts (C : SC) : List Tg → List Expr → Bool
  | [], es => es.isEmpty
  | t :: ts, es => match es with | e :: r => tgt C t e && tgts C ts r | [] => false
end
mutual
def tgNames : Tg → List Nat
  | .nm i => [i]
  | .tup ts => tgsNames ts
def tgsNames : List Tg → List Nat
  | [] => []
  | t :: ts => tgNames t ++ tgsNames ts
end
def kiList (C : SC) : List Ki → List Expr → Bool
  | [], es => es.isEmpty
  | k :: ks, es => match es with | .Name z _ :: r => isB C z (kiName k) && kiList C ks r | _ => false

mutual
def chkE (C : SC) : E → Expr → Bool
  | .var i, e => nmV C i e
  | .int i, e => match e with | .Constant (.int j) _ _ => decide (i = j) | _ => false
  | .bl b, e => match e with | .Constant (.bool c) _ _ => b == c | _ => false
  | .non, e => isNone e
  | .str s, e => match e with | .Constant (.str t) _ _ => decide (s = t) | _ => false
  | .glo g, e => match e with | .Name x _ => decide (C.glo[g]? = some x) && isGl C x && noDbg x | _ => false
  | .op o a b, e => match e with | .BinOp x p y _ => decide (bopOf o = p) && chkE C a x && chkE C b y | _ => false
  | .neg a, e => match e with | .UnaryOp .USub x _ => chkE C a x | _ => false
  | .cmp o a b, e => match e with | .Compare x [p] [y] _ => decide (copOf o = p) && chkE C a x && chkE C b y | _ => false
  | .cmp2 o o' a b c, e => match e with | .Compare x [p, p'] [y, z] _ => decide (copOf o = p) && decide (copOf o' = p') && chkE C a x && chkE C b y && chkE C c z | _ => false
  | .isN neg a, e => match e with | .Compare x [p] [y] _ => (match p with | .Is => !neg | .IsNot => neg | _ => false) && isNone y && chkE C a x | _ => false
  | .bop and es, e => match e with | .BoolOp p xs _ => (match p with | .And => and | .Or => !and) && chkEs C es xs && es.all noIfe | _ => false
  | .not a, e => match e with | .UnaryOp .Not x _ => chkE C a x && noIfe a | _ => false
  | .ife c a b, e => match e with | .IfExp x y z _ => chkE C c x && chkE C a y && chkE C b z && noIfe c | _ => false
  | .tup es, e => match e with | .Tuple xs _ _ => chkEs C es xs | _ => false
  | .lst es, e => match e with | .List xs _ => chkEs C es xs | _ => false
  | .ix a b, e => match e with | .Subscript x y _ => chkE C a x && chkE C b y | _ => false
  | .slc bl bh a lo hi, e => match e with
    | .Subscript x (.Slice l h none _) _ => chkE C a x && (match l with | some y => bl && chkE C lo y | none => !bl) && (match h with | some y => bh && chkE C hi y | none => !bh)
    | _ => false
  | .call f es ks fs, e => match e with
    | .Call (.Name x _) xs kws _ => (match C.fns[f]? with
      | some c => decide (c.x = x) && decide (c.n = es.length) && decide (c.fs = fs) && decide (c.ks.length = ks.length) && isGl C x && noDbg x && chkEs C es xs && chkKs C c.ks ks kws && (kws.isEmpty || !xs.isEmpty)
      | none => false)
    | _ => false
  | .bi b es, e => match e with | .Call (.Name x _) (y :: xs) [] _ => isB C x (biName b) && chkEs C es (y :: xs) | _ => false
  | .mt m a es, e => match e with | .Call (.Attribute x y ap) (z :: xs) [] cp => decide (y = mtName m) && (ap.endLine == cp.line) && noC0 x && decide (xs.length < 20) && chkE C a x && chkEs C es (z :: xs) | _ => false
  | .isi ks one a, e => match e with
    | .Call (.Name x _) [y, z] [] _ => isB C x "isinstance" && chkE C a y && (match z with
      | .Name u _ => one && (match ks with | [k] => isB C u (kiName k) | _ => false)
      | .Tuple us _ _ => !one && decide (ks.length < 20) && kiList C ks us
      | _ => false)
    | _ => false
  | .sx a b, e => match e with
    | .Call (.Name x _) [.BinOp (.Call (.Name y _) [u] [] _) .BitXor (.Call (.Name z _) [v] [] _) _] [] _ => isB C x "sorted" && isB C y "set" && isB C z "set" && chkE C a u && chkE C b v
    | _ => false
  | .rng _, _ => false
  | .enm _, _ => false
  | .seq _, _ => false
  | .lc vs t src c elt, e => match e with
    | .ListComp x [⟨tg, it, ifs, 0⟩] sc _ => decide (vs.Nodup) && blkC C.N (scOf C) sc ((vs.map fun i => C.N.getD i Str.empty).zip vs) && (vs.all fun i => decide (i < C.N.length)) && ((tgNames t).all fun i => vs.contains i) && isSrc src && noIfe c &&
      chkSrc C src it && enTg src tg && tgt (blkSC C sc) t tg && (match ifs with | [] => (match c with | .bl true => true | _ => false) | [y] => chkE (blkSC C sc) c y | _ => false) && chkE (blkSC C sc) elt x
    | _ => false
  | .new a, e => isFresh a && chkE C a e
  | .dsp t ks vs, e => !t && (match e with | .Dict xs ys _ => (match xs with | [] => ks.isEmpty && vs.isEmpty && ys.isEmpty | _ => false) | _ => false)
  | .sdf a b, e => match e with | .Call (.Attribute x y ap) [z, .List [] _] [] cp => decide (y = ("setdefault" : Str)) && (ap.endLine == cp.line) && noC0 x && chkE C a x && chkE C b z | _ => false
  | .popL a, e => match e with | .Call (.Attribute x y ap) [] [] cp => decide (y = ("pop" : Str)) && (ap.endLine == cp.line) && noC0 x && chkE C a x | _ => false
  | .trg l a, e => match e with | .Call (.Name x _) [.Call (.Name y _) [u] [] _] [] _ => isB C x (if l then "list" else "tuple") && isB C y "range" && chkE C a u | _ => false
  | .trg2 l a b, e => match e with | .Call (.Name x _) [.Call (.Name y _) [u, v] [] _] [] _ => isB C x (if l then "list" else "tuple") && isB C y "range" && chkE C a u && chkE C b v | _ => false
  | .ds1 a b, e => match e with | .Dict [some x] [y] _ => chkE C a x && chkE C b y | _ => false
def chkEs (C : SC) : List E → List Expr → Bool
  | [], xs => xs.isEmpty
  | e :: es, xs => match xs with | x :: r => chkE C e x && chkEs C es r | [] => false
/-- words by name -/
def chkKs (C : SC) (ns : List Str) : List E → List Keyword → Bool
  | [], xs => xs.isEmpty && ns.isEmpty
  | e :: es, xs => match ns, xs with | n :: ns, ⟨some m, x, _⟩ :: r => decide (n = m) && chkE C e x && chkKs C ns es r | _, _ => false
def chkSrc (C : SC) : E → Expr → Bool
  | .rng es, e => match e with | .Call (.Name x _) xs [] _ => isB C x "range" && chkEs C es xs && (es.length == 1 || es.length == 2) | _ => false
  | .enm a, e => match e with | .Call (.Name x _) [y] [] _ => isB C x "enumerate" && chkE C a y | _ => false
  | .seq a, e => chkE C a e
  | _, _ => false
end
/-- the names that are stored from the right, in a def's body -/
def swapM (C : SC) (tg v : Expr) : Option (Option (List Str)) :=
  match tg, v with
  | .Tuple ts _ _, .Tuple vs _ _ =>
    if !(ts.length == 2 || ts.length == 3) || vs.length != ts.length then some none
    else if vs.any fun | .Starred .. => true | _ => false then some none
    else if (ts.filterMap fun
        | .Name id pos => if C.names.lookup id == some .local && pos.line == (ts.head?.map (·.pos.line)).getD 0 then some id else none
        | _ => none).length != ts.length || (ts.filterMap fun
        | .Name id pos => if C.names.lookup id == some .local && pos.line == (ts.head?.map (·.pos.line)).getD 0 then some id else none
        | _ => none).eraseDups.length != (ts.filterMap fun
        | .Name id pos => if C.names.lookup id == some .local && pos.line == (ts.head?.map (·.pos.line)).getD 0 then some id else none
        | _ => none).length then some none
    else if vs.all (foldedForSure 8) then some none
    else if vs.all (constantsAlone 8) then none
    else some (some (ts.filterMap fun
        | .Name id pos => if C.names.lookup id == some .local && pos.line == (ts.head?.map (·.pos.line)).getD 0 then some id else none
        | _ => none))
  | .List .., _ => none
  | _, _ => some none
def nmOf : Expr → Str
  | .Name x _ => x
  | _ => Str.empty
/-- a comprehension under a name's store swaps -/
def swapLc (C : SC) (x : Str) (p : Pos) (v : Expr) : Bool := match v with
  | .ListComp _ _ sc q => C.names.lookup x == some .local && p.line == q.line && !(sc.names.any fun (n, k) => n == x && (k == .local || k == .cell))
  | _ => false
def noName : Tg → Bool
  | .nm _ => false
  | _ => true
mutual
def chkS (C : SC) : S → Stmt → Bool
  | .asg t e, s => match s with | .Assign [.Tuple ts k p] v _ => noName t && tgt C t (.Tuple ts k p) && chkE C e v && !isLc e && (match swapM C (.Tuple ts k p) v with | some none => true | _ => false) | _ => false
  | .asg1 i e, s => match s with | .Assign [.Name x p] v _ => nmS C i (.Name x p) && chkE C e v && (!isLc e || swapLc C x p v) | _ => false
  | .par is es, s => match s with
    | .Assign [.Tuple ts k p] (.Tuple vs k2 p2) _ => nmLs C is ts && chkEs C es vs && (ts.length == 2 || ts.length == 3) && vs.length == ts.length && decide (swapM C (.Tuple ts k p) (.Tuple vs k2 p2) = some (some (ts.map nmOf))) && decide is.Nodup
    | _ => false
  | .oset a ix e, s => match s with | .Assign [.Subscript x y _] v _ => chkE C a x && chkE C ix y && chkE C e v && !isLc e | _ => false
  | .app a e, s => match s with | .Expr (.Call (.Attribute x m ap) [y] [] cp) _ => chkE C a x && decide (m = ("append" : Str)) && noC0 x && (ap.endLine == cp.line) && chkE C e y | _ => false
  | .ext a e, s => match s with | .Expr (.Call (.Attribute x m ap) [y] [] cp) _ => chkE C a x && decide (m = ("extend" : Str)) && noC0 x && (ap.endLine == cp.line) && chkE C e y | _ => false
  | .frz _, _ => false
  | .ex e, s => match s with | .Expr v _ => chkE C e v && !isLc e | _ => false
  | .ife c a b, s => match s with | .If x y z _ => chkE C c x && noIfe c && chkSs C a y && chkSs C b z | _ => false
  | .for_ t src body, s => match s with | .For tg it b [] _ => isSrc src && chkSrc C src it && enTg src tg && tgt C t tg && chkSs C body b | _ => false
  | .whl _ c body, s => match s with | .While x b [] _ => chkE C c x && noIfe c && chkSs C body b | _ => false
  | .ret e, s => match s with | .Return (some v) _ => chkE C e v | _ => false
  | .retN, s => match s with | .Return none _ => true | _ => false
  | .never, _ => true
def chkSs (C : SC) : List S → List Stmt → Bool
  | [], xs => xs.isEmpty
  | s :: ss, xs => match s with
    | .frz _ => chkSs C ss xs
    | _ => match xs with | x :: r => chkS C s x && chkSs C ss r | [] => false
end
end Sf

/-! Sf.Ops: operators, built-ins and methods upon plain data. -/
namespace Sf
open PySem PySem.Spec PyProof.Rows L2

/-- what may be read as d: it stands frozen, or a cell holds it now -/
def RepV (k : Kx) (f : Fz) (H : Hp) (d : D) (v : V) : Prop := Rep k f d v ∨ match d with
  | .lst ds => ∃ (a : Addr) (vs : List V), v = .ref a ∧ H a = some (.lst vs) ∧ RepL k f ds vs
  | .dct t ks ds => ∃ (a : Addr) (vs : List V) (o : HO), v = .ref a ∧ H a = some o ∧ DictOk k f.F a t ks vs o ∧ RepL k f ds vs
  | _ => False
def RepVs (k : Kx) (f : Fz) (H : Hp) : List D → List V → Prop
  | [], vs => vs = []
  | d :: ds, vs => ∃ (v : V) (r : List V), vs = v :: r ∧ RepV k f H d v ∧ RepVs k f H ds r
def PR1 (k : Kx) (sem : D → Option D) : V → Hp → VK → Prop := fun x H Q => ∃ f d1 d, Same f.F H ∧ RepV k f H d1 x ∧ sem d1 = some d ∧ ∀ v g H', PX f H g H' → Rep k g d v → Q v H'
def PR2 (k : Kx) (sem : D → D → Option D) : R2 := fun x y H Q => ∃ f d1 d2 d, Same f.F H ∧ RepV k f H d1 x ∧ RepV k f H d2 y ∧ sem d1 d2 = some d ∧ ∀ v g H', PX f H g H' → Rep k g d v → Q v H'
def PRn (k : Kx) (sem : List D → Option D) : List V → Hp → VK → Prop := fun xs H Q => ∃ f ds d, Same f.F H ∧ RepVs k f H ds xs ∧ sem ds = some d ∧ ∀ v g H', PX f H g H' → Rep k g d v → Q v H'
def PRm (k : Kx) (sem : D → List D → Option D) : V → List V → Hp → VK → Prop := fun x xs H Q => ∃ f d1 ds d, Same f.F H ∧ RepV k f H d1 x ∧ RepVs k f H ds xs ∧ sem d1 ds = some d ∧ ∀ v g H', PX f H g H' → Rep k g d v → Q v H'

section
variable {k : Kx} {f : Fz} {H : Hp}
theorem rep_int {i : Int} {v : V} : Rep k f (.int i) v ↔ v = .int i := Iff.rfl
theorem rep_bl {i : Bool} {v : V} : Rep k f (.bl i) v ↔ v = .bl i := Iff.rfl
theorem rep_str {i : Str} {v : V} : Rep k f (.str i) v ↔ v = .str i := Iff.rfl
theorem rep_non {v : V} : Rep k f .non v ↔ v = .non := Iff.rfl
theorem rep_tup {ds : List D} {v : V} : Rep k f (.tup ds) v ↔ ∃ (a : Addr) (vs : List V), v = .ref a ∧ SqT k.K f.F a vs ∧ RepL k f ds vs := by
  unfold RepL; rw [Rep]
theorem rep_lst {ds : List D} {v : V} : Rep k f (.lst ds) v ↔ ∃ (a : Addr) (vs : List V), v = .ref a ∧ f.F a = some (.lst vs) ∧ RepL k f ds vs := by
  unfold RepL; rw [Rep]
theorem rep_dct {t : Bool} {ks : List NestedKey} {ds : List D} {v : V} : Rep k f (.dct t ks ds) v ↔ ∃ (a : Addr) (vs : List V) (o : HO), v = .ref a ∧ f.F a = some o ∧ DictOk k f.F a t ks vs o ∧ RepL k f ds vs := by
  unfold RepL; rw [Rep]
theorem rep_scr {ns : List Int} {v : V} : Rep k f (.scr ns) v ↔ ∃ a : Addr, v = .ref a ∧ SqL k.K f.F a (ns.map V.int) := by rw [Rep]
theorem lim_line {n : Nat} (h : n ≤ LIM) : n ≤ sizeLine := Nat.le_trans h (by rw [sizeLine_eq]; decide)
/-! views -/
theorem repV_int {i : Int} {v : V} (h : RepV k f H (.int i) v) : v = .int i := h.elim id False.elim
theorem repV_bl {i : Bool} {v : V} (h : RepV k f H (.bl i) v) : v = .bl i := h.elim id False.elim
theorem repV_str {i : Str} {v : V} (h : RepV k f H (.str i) v) : v = .str i := h.elim id False.elim
theorem repV_non {v : V} (h : RepV k f H .non v) : v = .non := h.elim id False.elim
theorem repV_tup {ds : List D} {v : V} (h : RepV k f H (.tup ds) v) : Rep k f (.tup ds) v := h.elim id False.elim
theorem repV_scr {ns : List Int} {v : V} (h : RepV k f H (.scr ns) v) : Rep k f (.scr ns) v := h.elim id False.elim
theorem repV_ref {n : Nat} {v : V} (h : RepV k f H (.ref n) v) : Rep k f (.ref n) v := h.elim id False.elim
theorem repV_lst {ds : List D} {v : V} (s : Same f.F H) (h : RepV k f H (.lst ds) v) : ∃ (a : Addr) (vs : List V), v = .ref a ∧ H a = some (.lst vs) ∧ RepL k f ds vs := by
  rcases h with h | h
  · obtain ⟨a, vs, h1, h2, h3⟩ := rep_lst.mp h
    exact ⟨a, vs, h1, s _ _ h2, h3⟩
  · exact h
theorem repV_dct {t : Bool} {ks : List NestedKey} {ds : List D} {v : V} (s : Same f.F H) (h : RepV k f H (.dct t ks ds) v) : ∃ (a : Addr) (vs : List V) (o : HO), v = .ref a ∧ H a = some o ∧ DictOk k f.F a t ks vs o ∧ RepL k f ds vs := by
  rcases h with h | h
  · obtain ⟨a, vs, o, h1, h2, h3, h4⟩ := rep_dct.mp h
    exact ⟨a, vs, o, h1, s _ _ h2, h3, h4⟩
  · exact h
/-- what a world's cells hold may be read -/
theorem vw_at {σ : L2.St} {env : Env} {S : Sto} {w : Wd} {H : Hp} {d : D} {v : V} (a : At k σ env S w H) (r : Rep k w.f d v) : RepV k w.f H (vw S d) v := by
  unfold vw
  split
  · rename_i n
    split
    · rename_i ds hs
      obtain ⟨p, vs, h1, h2, h3, h4, h5⟩ := a.lst hs r
      exact .inr ⟨p, vs, h1, h5, h3⟩
    · rename_i t ks ds hs
      obtain ⟨p, h1, rfl⟩ := rep_ref.mp r
      obtain ⟨p', h2, vs, o, h3, h4, h5⟩ := a.ce n _ hs
      rw [h1] at h2; cases h2
      exact .inr ⟨p, vs, o, rfl, a.sep.oh (n + 1) p _ (by rw [h5]; exact upd_same), h3, h4⟩
    · exact .inl r
  · exact .inl r
theorem vws_at {σ : L2.St} {env : Env} {S : Sto} {w : Wd} {H : Hp} (a : At k σ env S w H) : ∀ {ds : List D} {vs : List V}, RepL k w.f ds vs → RepVs k w.f H (ds.map (vw S)) vs
  | [], _, h => repL_nil.mp h
  | d :: ds, _, h => by
    obtain ⟨v, r, rfl, h1, h2⟩ := repL_cons.mp h
    exact ⟨v, r, rfl, vw_at a h1, vws_at a h2⟩
/-- a new list, frozen -/
theorem new_lst {p : Addr} {ds : List D} {vs : List V} (s : Same f.F H) (h : H p = none) (r : RepL k f ds vs) : PX f H (f.put p (.lst vs)) (upd H p (.lst vs)) ∧ Rep k (f.put p (.lst vs)) (.lst ds) (.ref p) :=
  ⟨PX.new s h, rep_lst.mpr ⟨p, vs, rfl, upd_same, RepL.mono (Le.put s h) _ _ r⟩⟩
theorem new_tup {p : Addr} {ds : List D} {vs : List V} (s : Same f.F H) (h : H p = none) (r : RepL k f ds vs) : PX f H (f.put p (.tup vs)) (upd H p (.tup vs)) ∧ Rep k (f.put p (.tup vs)) (.tup ds) (.ref p) :=
  ⟨PX.new s h, rep_tup.mpr ⟨p, vs, rfl, SqT.of upd_same, RepL.mono (Le.put s h) _ _ r⟩⟩
theorem RepL.nil_iff {ds : List D} {vs : List V} (r : RepL k f ds vs) : vs = [] ↔ ds = [] := by
  have h := r.length
  constructor
  · rintro rfl; cases ds with
    | nil => rfl
    | cons _ _ => simp at h
  · rintro rfl; exact repL_nil.mp r
/-- the flat ones are told by their values -/
theorem flat_rep {d : D} {v x : V} (h : flat d = some v) (r : Rep k f d x) : x = v ∧ flatV v = true := by
  cases d with
  | non => cases h; exact ⟨r, rfl⟩
  | bl b => cases h; exact ⟨r, rfl⟩
  | int i => cases h; exact ⟨r, rfl⟩
  | str s => cases h; exact ⟨r, rfl⟩
  | _ => cases h
theorem flat_repV {d : D} {v x : V} (h : flat d = some v) (r : RepV k f H d x) : x = v ∧ flatV v = true := by
  rcases r with r | r
  · exact flat_rep h r
  · cases d with
    | lst ds => cases h
    | dct t ks ds => cases h
    | _ => exact r.elim
theorem flats_rep : ∀ {ds : List D} {vs xs : List V}, flats ds = some vs → RepL k f ds xs → xs = vs ∧ vs.all flatV = true
  | [], vs, xs, h, r => by cases h; exact ⟨repL_nil.mp r, rfl⟩
  | d :: ds, vs, xs, h, r => by
    obtain ⟨x, r', rfl, h1, h2⟩ := repL_cons.mp r
    rw [flats] at h
    cases q : flat d with
    | none => rw [q] at h; cases h
    | some v =>
      rw [q] at h
      cases q2 : flats ds with
      | none => rw [q2] at h; cases h
      | some ws =>
        rw [q2] at h; cases h
        obtain ⟨e1, f1⟩ := flat_rep q h1
        obtain ⟨e2, f2⟩ := flats_rep q2 h2
        subst e1 e2
        exact ⟨rfl, by rw [List.all_cons, f1, f2]; rfl⟩
mutual
theorem rep_dp : ∀ (d : D) (v : V), plain d = true → Rep k f d v → Same f.F H → Dp k.K H v (toPy d)
  | .non, _, _, h, _ => by cases h; exact .non
  | .bl _, _, _, h, _ => by cases h; exact .bl _
  | .int _, _, _, h, _ => by cases h; exact .int _
  | .str _, _, _, h, _ => by cases h; exact .str _
  | .tup ds, _, p, h, s => by
    obtain ⟨a, vs, rfl, h2, h3⟩ := rep_tup.mp h
    rw [toPy]
    exact .tup (Same.seqT s h2) (repL_dp ds vs (by rw [plain] at p; exact p) h3 s)
  | .lst ds, _, p, h, s => by
    obtain ⟨a, vs, rfl, h2, h3⟩ := rep_lst.mp h
    rw [toPy]
    exact .lst (SqL.of (s _ _ h2)) (repL_dp ds vs (by rw [plain] at p; exact p) h3 s)
  | .scr ns, _, hp, h, s => by
    obtain ⟨a, rfl, h2⟩ := rep_scr.mp h
    rw [toPy]
    refine .lst (s.seq h2) ?_
    clear h2 h hp
    induction ns with
    | nil => exact .nil
    | cons n r ih => exact .cons (.int n) ih
  | .dct _ _ _, _, p, _, _ => by rw [plain] at p; cases p
  | .ref _, _, p, _, _ => by rw [plain] at p; cases p
theorem repL_dp : ∀ (ds : List D) (vs : List V), plains ds = true → RepL k f ds vs → Same f.F H → DpAll k.K H vs (toPys ds)
  | [], _, _, h, _ => by rw [repL_nil.mp h]; exact .nil
  | d :: ds, _, p, h, s => by
    obtain ⟨v, r, rfl, h1, h2⟩ := repL_cons.mp h
    have p := Bool.and_eq_true_iff.mp (show (plain d && plains ds) = true by rw [plains, plain.plains] at p; exact p)
    exact .cons (rep_dp d v p.1 h1 s) (repL_dp ds r p.2 h2 s)
end
theorem repV_dp {d : D} {v : V} (p : plain d = true) (h : RepV k f H d v) (s : Same f.F H) : Dp k.K H v (toPy d) := by
  rcases h with h | h
  · exact rep_dp d v p h s
  · cases d with
    | lst ds =>
      obtain ⟨a, vs, rfl, h2, h3⟩ := h
      rw [toPy]
      exact .lst (SqL.of h2) (repL_dp ds vs (by rw [plain] at p; exact p) h3 s)
    | dct t ks ds => rw [plain] at p; cases p
    | _ => exact h.elim
theorem repVs_one {d : D} {xs : List V} (h : RepVs k f H [d] xs) : ∃ x, xs = [x] ∧ RepV k f H d x := by
  obtain ⟨v, r, rfl, h1, h2⟩ := h
  have h2 : r = [] := h2
  rw [h2]
  exact ⟨v, rfl, h1⟩
theorem repVs_two {d e : D} {xs : List V} (h : RepVs k f H [d, e] xs) : ∃ x y, xs = [x, y] ∧ RepV k f H d x ∧ RepV k f H e y := by
  obtain ⟨v, r, rfl, h1, h2⟩ := h
  obtain ⟨y, rfl, h3⟩ := repVs_one h2
  exact ⟨v, y, rfl, h1, h3⟩
theorem repL_one {d : D} {xs : List V} (h : RepL k f [d] xs) : ∃ x, xs = [x] ∧ Rep k f d x := by
  obtain ⟨v, r, rfl, h1, h2⟩ := repL_cons.mp h
  rw [repL_nil.mp h2]
  exact ⟨v, rfl, h1⟩
theorem repL_two {d e : D} {xs : List V} (h : RepL k f [d, e] xs) : ∃ x y, xs = [x, y] ∧ Rep k f d x ∧ Rep k f e y := by
  obtain ⟨v, r, rfl, h1, h2⟩ := repL_cons.mp h
  obtain ⟨y, rfl, h3⟩ := repL_one h2
  exact ⟨v, y, rfl, h1, h3⟩
theorem repL_bls : ∀ {bs : List Bool} {vs : List V}, RepL k f (bs.map D.bl) vs → vs = bs.map V.bl
  | [], vs, h => repL_nil.mp h
  | b :: bs, vs, h => by
    obtain ⟨v, r, rfl, h1, h2⟩ := repL_cons.mp h
    have h1 : v = V.bl b := h1
    rw [h1, repL_bls h2]; rfl
theorem repL_strs : ∀ {bs : List Str} {vs : List V}, RepL k f (bs.map D.str) vs ↔ vs = bs.map V.str
  | [], vs => by rw [List.map_nil, List.map_nil, repL_nil]
  | n :: ns, vs => by
    rw [List.map_cons, List.map_cons, repL_cons]
    constructor
    · rintro ⟨v, r, rfl, h1, h2⟩
      have h1 : v = V.str n := h1
      rw [h1, repL_strs.mp h2]
    · rintro rfl
      exact ⟨_, _, rfl, rfl, repL_strs.mpr rfl⟩

/-! ### dicts whose keys are numbers and texts -/
def nk : Key → NestedKey
  | .inl i => .num i
  | .inr s => .text s
theorem nk_inj {a b : Key} (h : nk a = nk b) : a = b := by
  cases a <;> cases b <;> first | (cases h; rfl) | cases h
theorem toKeyF_of {d : D} {x : NestedKey} {v : V} (h : toKeyF d = some x) (r : RepV k f H d v) : ∃ q, x = nk q ∧ v = kV q := by
  cases d with
  | int i => cases h; exact ⟨.inl i, rfl, repV_int r⟩
  | str s => cases h; exact ⟨.inr s, rfl, repV_str r⟩
  | _ => cases h
theorem dictF {p : Addr} {ks : List NestedKey} {vs : List V} {o : HO} (h : DictOk k f.F p false ks vs o) : ∃ qs : List Key, ks = qs.map nk ∧ qs.length = vs.length ∧ o = .dK (qs.zip vs) := by
  obtain ⟨h1, qs, h2, h3⟩ := h
  refine ⟨qs, ?_, ?_, h3⟩
  · rw [h2]; refine List.map_congr_left fun q _ => ?_; cases q <;> rfl
  · rw [← h1, h2, List.length_map]
theorem look_valV : ∀ {qs : List Key} {ds : List D} {vs : List V} (q : Key), RepL k f ds vs → qs.length = vs.length →
    (lookD (qs.map nk) ds (nk q) = none ∧ valV (qs.zip vs) q = none) ∨ ∃ d v, lookD (qs.map nk) ds (nk q) = some d ∧ valV (qs.zip vs) q = some v ∧ Rep k f d v
  | [], ds, vs, q, r, h => .inl ⟨rfl, rfl⟩
  | a :: qs, [], vs, q, r, h => by rw [repL_nil.mp r] at h; simp at h
  | a :: qs, d :: ds, vs, q, r, h => by
    obtain ⟨v, rs, rfl, h1, h2⟩ := repL_cons.mp r
    by_cases e : a = q
    · subst e
      refine .inr ⟨d, v, ?_, ?_, h1⟩
      · unfold lookD; rw [List.map_cons, List.zip_cons_cons, List.lookup_cons, beq_self_eq_true]
      · rw [List.zip_cons_cons]; exact valV_pos rfl
    · have ih := look_valV (qs := qs) q h2 (by simpa using h)
      have e1 : lookD ((a :: qs).map nk) (d :: ds) (nk q) = lookD (qs.map nk) ds (nk q) := by
        unfold lookD
        rw [List.map_cons, List.zip_cons_cons, List.lookup_cons]
        have : (nk q == nk a) = false := beq_eq_false_iff_ne.mpr fun z => e (nk_inj z).symm
        rw [this]
      have e2 : valV ((a :: qs).zip (v :: rs)) q = valV (qs.zip rs) q := by rw [List.zip_cons_cons]; exact valV_neg e
      rw [e1, e2]; exact ih
end

section
variable {X : Cx} {k : Kx}
theorem small_of {i : Int} (h : small i = true) : -(2 ^ 64) < i ∧ i < 2 ^ 64 := by
  have := of_decide_eq_true h
  omega
theorem opOk (o : Bop) (hK : X.K = k.K) : OpR X (binaryOp (bopOf o)) (PR2 k (evOp o)) := by
  intro pins s σ H x y v u Q I rx ry h
  obtain ⟨f, d1, d2, d, sF, r1, r2, e, q⟩ := h
  unfold evOp at e
  split at e
  · cases e; have r1 := repV_int r1; have r2 := repV_int r2; subst r1 r2
    exact op_add pins s σ H _ _ v u Q I rx ry ⟨_, _, rfl, rfl, q _ f H (PX.refl sF) rfl⟩
  · split at e
    · rename_i hz
      cases e; have r1 := repV_str r1; have r2 := repV_str r2; subst r1 r2
      exact op_add_str pins s σ H _ _ v u Q I rx ry ⟨_, _, rfl, rfl, lim_line hz, q _ f H (PX.refl sF) rfl⟩
    · cases e
  · split at e
    · rename_i hz
      cases e
      have r1 := repV_tup r1
      have r2 := repV_tup r2
      obtain ⟨a, vs, rfl, ha, ra⟩ := rep_tup.mp r1
      obtain ⟨b, ws, rfl, hb, rb⟩ := rep_tup.mp r2
      refine op_catA pins s σ H _ _ v u Q I rx ry ⟨a, b, vs, ws, rfl, rfl, by rw [hK]; exact Same.seqT sF ha, by rw [hK]; exact Same.seqT sF hb, lim_line (by rw [ra.length, rb.length]; exact hz), fun e1 => ?_, fun e1 e2 => ?_, fun _ _ p hp => ?_⟩
      · rw [ra.nil_iff] at e1; subst e1
        exact q _ f H (PX.refl sF) r2
      · rw [rb.nil_iff] at e2; subst e2
        rw [List.append_nil] at q
        exact q _ f H (PX.refl sF) r1
      · obtain ⟨px, r⟩ := new_tup sF hp (ra.append rb)
        exact q _ _ _ px r
    · cases e
  · split at e
    · rename_i hz
      cases e
      obtain ⟨a, vs, rfl, ha, ra⟩ := repV_lst sF r1
      obtain ⟨b, ws, rfl, hb, rb⟩ := repV_lst sF r2
      refine op_cat pins s σ H _ _ v u Q I rx ry ⟨a, b, vs, ws, rfl, rfl, ha, hb, lim_line (by rw [ra.length, rb.length]; exact hz), fun p hp => ?_⟩
      obtain ⟨px, r⟩ := new_lst sF hp (ra.append rb)
      exact q _ _ _ px r
    · cases e
  · cases e; have r1 := repV_int r1; have r2 := repV_int r2; subst r1 r2
    exact op_sub pins s σ H _ _ v u Q I rx ry ⟨_, _, rfl, rfl, q _ f H (PX.refl sF) rfl⟩
  · split at e
    · rename_i hz
      cases e; have r1 := repV_int r1; have r2 := repV_int r2; subst r1 r2
      exact op_mul pins s σ H _ _ v u Q I rx ry ⟨_, _, rfl, rfl, hz.imp small_of small_of, q _ f H (PX.refl sF) rfl⟩
    · cases e
  · rename_i ds n
    unfold repn at e
    split at e
    · rename_i hz
      cases e; have r2 := repV_int r2; subst r2
      obtain ⟨a, vs, rfl, ha, ra⟩ := repV_lst sF r1
      refine op_rep pins s σ H _ _ v u Q I rx ry ⟨a, n, vs, rfl, rfl, ha, by have := hz.1; omega, by have := hz.1; omega, lim_line (by rw [ra.length]; exact hz.2), fun p hp => ?_⟩
      obtain ⟨px, r⟩ := new_lst sF hp (ra.rep n.toNat)
      exact q _ _ _ px r
    · cases e
  · rename_i ds n
    split at e
    · rename_i hz
      cases e; have r2 := repV_int r2; subst r2
      have r1 := repV_tup r1
      obtain ⟨a, vs, rfl, ha, ra⟩ := rep_tup.mp r1
      refine op_repT pins s σ H _ _ v u Q I rx ry ⟨a, n, vs, rfl, rfl, by rw [hK]; exact Same.seqT sF ha, fun z => ?_, hz.2.1, hz.2.2.1, by rw [ra.length]; exact hz.2.2.2, fun p hp => ?_⟩
      · rw [ra.nil_iff] at z; rw [z] at hz; exact absurd hz.1 (by simp)
      · obtain ⟨px, r⟩ := new_tup sF hp (ra.rep n.toNat)
        exact q _ _ _ px r
    · cases e
  · split at e
    · rename_i hz
      cases e; have r1 := repV_int r1; have r2 := repV_int r2; subst r1 r2
      exact op_fdiv pins s σ H _ _ v u Q I rx ry ⟨_, _, rfl, rfl, hz, q _ f H (PX.refl sF) rfl⟩
    · cases e
  · split at e
    · rename_i hz
      cases e; have r1 := repV_int r1; have r2 := repV_int r2; subst r1 r2
      exact op_mod pins s σ H _ _ v u Q I rx ry ⟨_, _, rfl, rfl, hz, q _ f H (PX.refl sF) rfl⟩
    · cases e
  · split at e
    · rename_i hz
      cases e; have r1 := repV_int r1; have r2 := repV_int r2; subst r1 r2
      exact op_pow pins s σ H _ _ v u Q I rx ry ⟨_, _, rfl, rfl, hz, q _ f H (PX.refl sF) rfl⟩
    · cases e
  · cases e; have r1 := repV_int r1; have r2 := repV_int r2; subst r1 r2
    exact op_xor pins s σ H _ _ v u Q I rx ry ⟨_, _, rfl, rfl, q _ f H (PX.refl sF) rfl⟩
  · cases e

theorem isIn_of {f : Fz} {H : Hp} {d : D} {ds : List D} {x : V} {vs : List V} {b : Bool} (h : isInD d ds = some b) (r : RepV k f H d x) (rs : RepL k f ds vs) : flatV x = true ∧ vs.all flatV = true ∧ inV x vs = b := by
  unfold isInD at h
  cases q : flat d with
  | none => rw [q] at h; cases h
  | some v =>
    rw [q] at h
    cases q2 : flats ds with
    | none => rw [q2] at h; cases h
    | some ws =>
      rw [q2] at h
      obtain ⟨e1, f1⟩ := flat_repV q r
      obtain ⟨e2, f2⟩ := flats_rep q2 rs
      subst e1 e2
      exact ⟨f1, f2, Option.some.inj h⟩
theorem signIn_of {x s : Str} {b : Bool} (h : signIn x s = some b) : ∃ c, x = ⟨#[c]⟩ ∧ b = decide (c ∈ s.cps.toList) := by
  unfold signIn at h
  split at h
  · rename_i c hc
    cases h
    refine ⟨c, ?_, rfl⟩
    obtain ⟨a⟩ := x
    have : a.toList = [c] := hc
    congr 1
    exact Array.toList_inj.mp this
  · cases h
/-- d[y], there: the very value -/
theorem dk_item {pins : List (Addr × Obj)} {σ : L2.St} {H : Hp} {s : Shared} {a : Addr} {y v : V} {u : Value} {kvs : List (Key × V)} {q : Key} (I : Inv X pins σ H s) (e : H a = some (.dK kvs)) (ey : y = kV q) (l : valV kvs q = some v) (ry : RelV y u) :
    ∃ w', RelV v w' ∧ ∀ {Q : Value → Shared → Prop} {E : Value → Shared → Prop}, (∀ s', Inv X pins σ H s' → Q w' s') → wpAny (model X.prog X.w) X.A (getItem (.ref a) u) Q E s := by
  subst ey
  obtain ⟨z, hd, vs, rel, dd⟩ := dk_rd I.hok (.inl e)
  obtain ⟨w', hw, rw'⟩ := RelO.some_of (v := v) (o := valueAt vs q) (by rw [← l]; exact rel.val q)
  exact ⟨w', rw', fun h => wpAny_getItem_of (kV_is ry) dd.mapOf hw (h _ (I.tok _))⟩
theorem get_of {f : Fz} {H : Hp} {t : Bool} {ks : List NestedKey} {ds : List D} {d : D} {x : NestedKey} {v y : V} (sF : Same f.F H) (r : RepV k f H (.dct t ks ds) v) (ry : RepV k f H d y) (e : toKey t d = some x) :
    ∃ (a : Addr) (o : Option V), v = .ref a ∧ DGet H a y o ∧ (∃ kvs q, H a = some (.dK kvs) ∧ y = kV q ∧ valV kvs q = o) ∧ ((lookD ks ds x = none ∧ o = none) ∨ ∃ d' v', lookD ks ds x = some d' ∧ o = some v' ∧ Rep k f d' v') := by
  cases t with
  | true => cases e
  | false =>
    obtain ⟨q, rfl, rfl⟩ := toKeyF_of (show toKeyF d = some x from e) ry
    obtain ⟨a, vs, o, rfl, ha, hd, rl⟩ := repV_dct sF r
    obtain ⟨qs, rfl, hl, rfl⟩ := dictF hd
    refine ⟨a, valV (qs.zip vs) q, rfl, .k ha, ⟨_, _, ha, rfl, rfl⟩, ?_⟩
    exact look_valV q rl hl
theorem cmpOk (o : Cop) (hK : X.K = k.K) (hu : X.A.units + 64 < cLine) : OpR X (compareOp (copOf o)) (PR2 k fun a b => (evCmp o a b).map D.bl) := by
  intro pins s σ H x y v u Q I rx ry h
  obtain ⟨f, d1, d2, d, sF, r1, r2, e, q⟩ := h
  obtain ⟨b, e1, rfl⟩ := Option.map_eq_some_iff.mp e
  clear e
  have e := e1
  clear e1
  unfold evCmp at e
  split at e
  · split at e
    · rename_i hz
      cases e
      have z1 := Bool.and_eq_true_iff.mp hz.1
      have z2 := Bool.and_eq_true_iff.mp hz.2
      exact op_eqD hu pins s σ H _ _ v u Q I rx ry ⟨_, _, by rw [hK]; exact repV_dp z1.1 r1 sF, by rw [hK]; exact repV_dp z2.1 r2 sF, z1.2, z2.2, q _ f H (PX.refl sF) rfl⟩
    · cases e
  · split at e
    · rename_i hz
      cases e
      have z1 := Bool.and_eq_true_iff.mp hz.1
      have z2 := Bool.and_eq_true_iff.mp hz.2
      exact op_neD hu pins s σ H _ _ v u Q I rx ry ⟨_, _, by rw [hK]; exact repV_dp z1.1 r1 sF, by rw [hK]; exact repV_dp z2.1 r2 sF, z1.2, z2.2, q _ f H (PX.refl sF) rfl⟩
    · cases e
  · cases e; have r1 := repV_int r1; have r2 := repV_int r2; subst r1 r2
    exact op_lt pins s σ H _ _ v u Q I rx ry ⟨_, _, rfl, rfl, q _ f H (PX.refl sF) rfl⟩
  · cases e; have r1 := repV_int r1; have r2 := repV_int r2; subst r1 r2
    exact op_le pins s σ H _ _ v u Q I rx ry ⟨_, _, rfl, rfl, q _ f H (PX.refl sF) rfl⟩
  · cases e; have r1 := repV_int r1; have r2 := repV_int r2; subst r1 r2
    exact op_gt pins s σ H _ _ v u Q I rx ry ⟨_, _, rfl, rfl, q _ f H (PX.refl sF) rfl⟩
  · cases e; have r1 := repV_int r1; have r2 := repV_int r2; subst r1 r2
    exact op_ge pins s σ H _ _ v u Q I rx ry ⟨_, _, rfl, rfl, q _ f H (PX.refl sF) rfl⟩
  · obtain ⟨a, vs, rfl, ha, ra⟩ := rep_tup.mp (repV_tup r2)
    obtain ⟨f1, f2, f3⟩ := isIn_of e r1 ra
    subst f3
    exact op_in_seq pins s σ H _ _ v u Q I rx ry ⟨a, vs, rfl, .inr (by rw [hK]; exact Same.seqT sF ha), f1, f2, q _ f H (PX.refl sF) rfl⟩
  · obtain ⟨a, vs, rfl, ha, ra⟩ := repV_lst sF r2
    obtain ⟨f1, f2, f3⟩ := isIn_of e r1 ra
    subst f3
    exact op_in_seq pins s σ H _ _ v u Q I rx ry ⟨a, vs, rfl, .inl (SqL.of ha), f1, f2, q _ f H (PX.refl sF) rfl⟩
  · obtain ⟨c, rfl, rfl⟩ := signIn_of e
    have r1 := repV_str r1; have r2 := repV_str r2; subst r1 r2
    exact op_in_sign pins s σ H _ _ v u Q I rx ry ⟨c, _, rfl, rfl, q _ f H (PX.refl sF) rfl⟩
  · obtain ⟨x', e1, rfl⟩ := Option.map_eq_some_iff.mp e
    obtain ⟨a, o, rfl, g, ⟨kvs, q0, hk, ey, el⟩, hh⟩ := get_of sF r2 r1 e1
    obtain rfl : u = Value.ref a := ry
    refine d_in (by omega) I g rx fun s3 I3 => ⟨.bl o.isSome, H, I3, rfl, ?_⟩
    rcases hh with ⟨h1, h2⟩ | ⟨d', v', h1, h2, _⟩ <;> (rw [h1] at q; rw [h2]; exact q _ f H (PX.refl sF) rfl)
  · obtain ⟨c, e1, rfl⟩ := Option.map_eq_some_iff.mp e
    clear e
    have e := e1
    clear e1
    obtain ⟨a, vs, rfl, ha, ra⟩ := rep_tup.mp (repV_tup r2)
    obtain ⟨f1, f2, f3⟩ := isIn_of e r1 ra
    subst f3
    exact op_notIn_seq pins s σ H _ _ v u Q I rx ry ⟨a, vs, rfl, .inr (by rw [hK]; exact Same.seqT sF ha), f1, f2, q _ f H (PX.refl sF) rfl⟩
  · obtain ⟨c, e1, rfl⟩ := Option.map_eq_some_iff.mp e
    clear e
    have e := e1
    clear e1
    obtain ⟨a, vs, rfl, ha, ra⟩ := repV_lst sF r2
    obtain ⟨f1, f2, f3⟩ := isIn_of e r1 ra
    subst f3
    exact op_notIn_seq pins s σ H _ _ v u Q I rx ry ⟨a, vs, rfl, .inl (SqL.of ha), f1, f2, q _ f H (PX.refl sF) rfl⟩
  · obtain ⟨c, e1, rfl⟩ := Option.map_eq_some_iff.mp e
    obtain ⟨c, rfl, rfl⟩ := signIn_of e1
    have r1 := repV_str r1; have r2 := repV_str r2; subst r1 r2
    refine op_notIn_sign pins s σ H _ _ v u Q I rx ry ⟨c, _, rfl, rfl, ?_⟩
    exact q _ f H (PX.refl sF) (by rfl)
  · obtain ⟨x', e1, rfl⟩ := Option.map_eq_some_iff.mp e
    obtain ⟨a, o, rfl, g, ⟨kvs, q0, hk, ey, el⟩, hh⟩ := get_of sF r2 r1 e1
    obtain rfl : u = Value.ref a := ry
    refine d_notIn (by omega) I g rx fun s3 I3 => ⟨.bl (!o.isSome), H, I3, rfl, ?_⟩
    rcases hh with ⟨h1, h2⟩ | ⟨d', v', h1, h2, _⟩ <;> (rw [h1] at q; rw [h2]; exact q _ f H (PX.refl sF) rfl)
  · cases e
theorem ixOk (hK : X.K = k.K) (hu : X.A.units + 64 < cLine) : IxR X (PR2 k evIx) := by
  intro vl sl pins s σ H x y v u Q I rx ry h hs
  obtain ⟨f, d1, d2, d, sF, r1, r2, e, q⟩ := h
  unfold evIx at e
  have key : ∀ {ds : List D} {vs : List V} {i : Int}, RepL k f ds vs → atD ds i = some d → ∃ z, atI vs i = some z ∧ Rep k f d z := fun {ds vs i} r h => by
    unfold atD atI at h
    unfold atI
    rw [r.length]
    cases q : ixN ds.length i with
    | none => rw [q] at h; cases h
    | some j => rw [q] at h; exact r.get h
  split at e
  · have r2 := repV_int r2; subst r2
    obtain ⟨a, vs, rfl, ha, ra⟩ := rep_tup.mp (repV_tup r1)
    obtain ⟨z, hz, rz⟩ := key ra e
    exact ix_tup vl sl pins s σ H _ _ v u Q I rx ry ⟨a, vs, _, z, rfl, rfl, by rw [hK]; exact Same.seqT sF ha, hz, q _ f H (PX.refl sF) rz⟩ hs
  · have r2 := repV_int r2; subst r2
    obtain ⟨a, vs, rfl, ha, ra⟩ := repV_lst sF r1
    obtain ⟨z, hz, rz⟩ := key ra e
    exact ix_list vl sl pins s σ H _ _ v u Q I rx ry ⟨a, vs, _, z, rfl, rfl, SqL.of ha, hz, q _ f H (PX.refl sF) rz⟩ hs
  · have r2 := repV_int r2; subst r2
    obtain ⟨a, rfl, ha⟩ := rep_scr.mp (repV_scr r1)
    obtain ⟨n, e1, rfl⟩ := Option.map_eq_some_iff.mp e
    clear e
    refine ix_list vl sl pins s σ H _ _ v u Q I rx ry ⟨a, _, _, .int n, rfl, rfl, by rw [hK]; exact sF.seq ha, ?_, q _ f H (PX.refl sF) rfl⟩ hs
    unfold atI at e1 ⊢
    rw [List.length_map]
    cases z : ixN _ _ with
    | none => rw [z] at e1; cases e1
    | some j =>
      rw [z] at e1
      show (List.map V.int _)[j]? = _
      rw [List.getElem?_map, (show _[j]? = some n from e1)]
      rfl
  · split at e
    · rename_i hz
      have r1 := repV_str r1; have r2 := repV_int r2; subst r1 r2
      obtain ⟨c, e1, rfl⟩ := Option.map_eq_some_iff.mp e
      exact ix_str vl sl pins s σ H _ _ v u Q I rx ry ⟨_, _, c, rfl, rfl, lim_line hz, e1, q _ f H (PX.refl sF) rfl⟩ hs
    · cases e
  · obtain ⟨x', e1, e2⟩ := Option.bind_eq_some_iff.mp e
    obtain ⟨a, o, rfl, g, ⟨kvs, q0, hk, ey, el⟩, hh⟩ := get_of sF r1 r2 e1
    obtain rfl : v = Value.ref a := rx
    rcases hh with ⟨h1, h2⟩ | ⟨d', v', h1, h2, rd⟩
    · rw [h1] at e2; cases e2
    · rw [h1] at e2; cases e2; subst h2
      obtain ⟨w', rw', run⟩ := dk_item I hk ey el ry
      exact subscriptTail_builtinR (x := w') (dict_typeIs I g) PySem.F.slot_dict_getitem.lookup (run fun s3 I3 => ⟨rfl, ⟨v', H, I3, rw', q _ f H (PX.refl sF) rd⟩⟩) hs
  · cases e
/-! ### built-ins -/
theorem put_perm (x : Int) : ∀ l : List Int, (putIn x l).Perm (x :: l)
  | [] => List.Perm.refl _
  | y :: r => by
    rw [putIn]
    split
    · exact List.Perm.refl _
    · exact ((put_perm x r).cons y).trans (List.Perm.swap x y r)
theorem put_sorted {x : Int} : ∀ {l : List Int}, l.Pairwise (· ≤ ·) → (putIn x l).Pairwise (· ≤ ·)
  | [], _ => List.pairwise_singleton _ _
  | y :: r, h => by
    rw [putIn]
    have h1 := List.pairwise_cons.mp h
    split
    · rename_i hx
      refine List.pairwise_cons.mpr ⟨fun z hz => ?_, h⟩
      rcases List.mem_cons.mp hz with e | hz
      · omega
      · have := h1.1 z hz; omega
    · rename_i hx
      refine List.pairwise_cons.mpr ⟨fun z hz => ?_, put_sorted h1.2⟩
      rcases List.mem_cons.mp ((put_perm x r).mem_iff.mp hz) with e | hz
      · omega
      · exact h1.1 z hz
theorem sortI_perm : ∀ ns : List Int, (sortI ns).Perm ns
  | [] => List.Perm.refl _
  | n :: r => (put_perm n (sortI r)).trans ((sortI_perm r).cons n)
theorem sortI_sorted : ∀ ns : List Int, (sortI ns).Pairwise (· ≤ ·)
  | [] => List.Pairwise.nil
  | n :: r => put_sorted (sortI_sorted r)
theorem sorted_one : ∀ {l m : List Int}, l.Perm m → l.Pairwise (· ≤ ·) → m.Pairwise (· ≤ ·) → l = m
  | [], m, p, _, _ => (List.nil_perm.mp p).symm
  | x :: l, [], p, _, _ => absurd (List.perm_nil.mp p) (by simp)
  | x :: l, y :: m, p, h1, h2 => by
    have a1 := List.pairwise_cons.mp h1
    have a2 := List.pairwise_cons.mp h2
    have e : x = y := by
      have m1 : x ∈ y :: m := p.mem_iff.mp List.mem_cons_self
      have m2 : y ∈ x :: l := p.mem_iff.mpr List.mem_cons_self
      rcases List.mem_cons.mp m1 with e | m1
      · exact e
      · rcases List.mem_cons.mp m2 with e | m2
        · exact e.symm
        · have := a2.1 x m1
          have := a1.1 y m2
          omega
    subst e
    rw [sorted_one (List.perm_cons x |>.mp p) a1.2 a2.2]
theorem minI_mem : ∀ (m : Int) (r : List Int), minI m r ∈ m :: r ∧ ∀ y ∈ m :: r, minI m r ≤ y
  | m, [] => ⟨List.mem_cons_self, fun y h => by rw [List.mem_singleton.mp h]; exact Int.le_refl _⟩
  | m, x :: r => by
    rw [minI]
    obtain ⟨h1, h2⟩ := minI_mem (if x < m then x else m) r
    refine ⟨?_, fun y hy => ?_⟩
    · rcases List.mem_cons.mp h1 with e | e
      · rw [e]; split <;> simp
      · simp [e]
    · have h3 := h2 (if x < m then x else m) List.mem_cons_self
      rcases List.mem_cons.mp hy with e | hy
      · subst e; split at h3 <;> split <;> omega
      · rcases List.mem_cons.mp hy with e | hy
        · subst e; split at h3 <;> split <;> omega
        · exact h2 y (List.mem_cons_of_mem _ hy)
theorem maxI_mem : ∀ (m : Int) (r : List Int), maxI m r ∈ m :: r ∧ ∀ y ∈ m :: r, y ≤ maxI m r
  | m, [] => ⟨List.mem_cons_self, fun y h => by rw [List.mem_singleton.mp h]; exact Int.le_refl _⟩
  | m, x :: r => by
    rw [maxI]
    obtain ⟨h1, h2⟩ := maxI_mem (if m < x then x else m) r
    refine ⟨?_, fun y hy => ?_⟩
    · rcases List.mem_cons.mp h1 with e | e
      · rw [e]; split <;> simp
      · simp [e]
    · have h3 := h2 (if m < x then x else m) List.mem_cons_self
      rcases List.mem_cons.mp hy with e | hy
      · subst e; split at h3 <;> split <;> omega
      · rcases List.mem_cons.mp hy with e | hy
        · subst e; split at h3 <;> split <;> omega
        · exact h2 y (List.mem_cons_of_mem _ hy)

def biVal : Bi → Value
  | .len => .builtin "len" | .min => .builtin "min" | .max => .builtin "max" | .sum => .builtin "sum" | .sorted => .builtin "sorted" | .abs => .builtin "abs" | .all => .builtin "all"
  | .int => .type "int" | .tuple => .type "tuple" | .list => .type "list"
theorem toNums_of : ∀ {ks : List NestedKey} {ns : List Int}, toNums ks = some ns → ks = ns.map .num
  | [], ns, h => by cases h; rfl
  | x :: r, ns, h => by
    cases x with
    | num i =>
      rw [toNums] at h
      cases q : toNums r with
      | none => rw [q] at h; cases h
      | some ms => rw [q] at h; cases h; rw [List.map_cons, toNums_of q]
    | _ => cases h
theorem nums_keys : ∀ {ns : List Int} {qs : List Key}, qs.map nk = ns.map .num → qs = ns.map Sum.inl
  | [], [], _ => rfl
  | [], _ :: _, h => by simp at h
  | _ :: _, [], h => by simp at h
  | n :: ns, q :: qs, h => by
    simp only [List.map_cons, List.cons.injEq] at h
    rw [nums_keys h.2]
    cases q with
    | inl i => have := h.1; cases this; rfl
    | inr s => have := h.1; cases this
theorem biOk (b : Bi) (hK : X.K = k.K) (hc : X.calm = true) : CallR X (biVal b) (PRn k (evBi b)) := by
  intro pins s σ H xs us Q I r h
  obtain ⟨f, ds, d, sF, rs, e, q⟩ := h
  unfold evBi at e
  split at e
  · cases e
    obtain ⟨x, rfl, rx⟩ := repVs_one rs
    obtain ⟨a, vs, rfl, ha, ra⟩ := rep_tup.mp (repV_tup rx)
    refine call_len_seq pins s σ H _ us Q I r ⟨a, vs, rfl, .inr (by rw [hK]; exact Same.seqT sF ha), ?_⟩
    rw [ra.length]; exact q _ f H (PX.refl sF) rfl
  · cases e
    obtain ⟨x, rfl, rx⟩ := repVs_one rs
    obtain ⟨a, vs, rfl, ha, ra⟩ := repV_lst sF rx
    refine call_len_seq pins s σ H _ us Q I r ⟨a, vs, rfl, .inl (SqL.of ha), ?_⟩
    rw [ra.length]; exact q _ f H (PX.refl sF) rfl
  · cases e
    obtain ⟨x, rfl, rx⟩ := repVs_one rs
    obtain ⟨a, rfl, ha⟩ := rep_scr.mp (repV_scr rx)
    refine call_len_seq pins s σ H _ us Q I r ⟨a, _, rfl, .inl (by rw [hK]; exact sF.seq ha), ?_⟩
    rw [List.length_map]; exact q _ f H (PX.refl sF) rfl
  · split at e
    · rename_i hz
      cases e
      obtain ⟨x, rfl, rx⟩ := repVs_one rs
      have rx := repV_str rx; subst rx
      exact call_len_str pins s σ H _ us Q I r ⟨_, rfl, lim_line hz, q _ f H (PX.refl sF) rfl⟩
    · cases e
  · cases e
    obtain ⟨x, y, rfl, rx, ry⟩ := repVs_two rs
    have rx := repV_int rx; have ry := repV_int ry; subst rx ry
    exact call_min2 hc pins s σ H _ us Q I r ⟨_, _, rfl, q _ f H (PX.refl sF) rfl⟩
  · cases e
    obtain ⟨x, y, rfl, rx, ry⟩ := repVs_two rs
    have rx := repV_int rx; have ry := repV_int ry; subst rx ry
    exact call_max2 hc pins s σ H _ us Q I r ⟨_, _, rfl, q _ f H (PX.refl sF) rfl⟩
  · obtain ⟨ns, e1, e2⟩ := Option.bind_eq_some_iff.mp e
    clear e
    have e := e2
    clear e2
    have := toInts_of e1
    subst this
    obtain ⟨x, rfl, rx⟩ := repVs_one rs
    obtain ⟨a, vs, rfl, ha, ra⟩ := repV_lst sF rx
    have := RepL.ints.mp ra
    subst this
    cases ns with
    | nil => cases e
    | cons m t =>
      cases e
      refine cr_min hc pins s σ H _ us Q I r ⟨a, _, rfl, SqL.of ha, by simp, fun z hz hl => ?_⟩
      obtain ⟨h1, h2⟩ := minI_mem m t
      have : z = minI m t := by have := h2 z hz; have := hl _ h1; omega
      rw [this]; exact q _ f H (PX.refl sF) rfl
  · obtain ⟨ns, e1, e2⟩ := Option.bind_eq_some_iff.mp e
    clear e
    have e := e2
    clear e2
    have := toInts_of e1
    subst this
    obtain ⟨x, rfl, rx⟩ := repVs_one rs
    obtain ⟨a, vs, rfl, ha, ra⟩ := repV_lst sF rx
    have := RepL.ints.mp ra
    subst this
    cases ns with
    | nil => cases e
    | cons m t =>
      cases e
      refine cr_max hc pins s σ H _ us Q I r ⟨a, _, rfl, SqL.of ha, by simp, fun z hz hl => ?_⟩
      obtain ⟨h1, h2⟩ := maxI_mem m t
      have : z = maxI m t := by have := h2 z hz; have := hl _ h1; omega
      rw [this]; exact q _ f H (PX.refl sF) rfl
  · obtain ⟨ns, e1, rfl⟩ := Option.map_eq_some_iff.mp e
    have := toInts_of e1
    subst this
    obtain ⟨x, rfl, rx⟩ := repVs_one rs
    obtain ⟨a, vs, rfl, ha, ra⟩ := repV_lst sF rx
    have := RepL.ints.mp ra
    subst this
    exact cr_sum hc pins s σ H _ us Q I r ⟨a, _, rfl, SqL.of ha, q _ f H (PX.refl sF) rfl⟩
  · obtain ⟨ns, e1, e2⟩ := Option.bind_eq_some_iff.mp e
    clear e
    have e := e2
    clear e2
    have := toNums_of e1
    subst this
    obtain ⟨x, rfl, rx⟩ := repVs_one rs
    obtain ⟨a, vs, o, rfl, ha, hd, rl⟩ := repV_dct sF rx
    obtain ⟨qs, hq, hl, rfl⟩ := dictF hd
    have hqs := nums_keys hq.symm
    subst hqs
    split at e
    · rename_i hz
      cases e
      refine call_sortedDI hc pins s σ H _ us Q I r ⟨a, _, ns, rfl, .inl ha, ?_, hz, fun ns' p hp hs hn => ?_⟩
      · rw [List.map_fst_zip (by omega)]
      · have : ns' = sortI ns := sorted_one (hp.trans (sortI_perm ns).symm) hs (sortI_sorted ns)
        subst this
        obtain ⟨px, r'⟩ := new_lst (k := k) (ds := (sortI ns).map D.int) sF hn (RepL.ints.mpr rfl)
        exact q _ _ _ px r'
    · cases e
  · obtain ⟨ns, e1, e2⟩ := Option.bind_eq_some_iff.mp e
    clear e
    have e := e2
    clear e2
    have := toInts_of e1
    subst this
    obtain ⟨x, rfl, rx⟩ := repVs_one rs
    obtain ⟨a, vs, rfl, ha, ra⟩ := repV_lst sF rx
    have := RepL.ints.mp ra
    subst this
    split at e
    · rename_i hz
      cases e
      refine cr_sorted pins s σ H _ us Q I r ⟨a, _, rfl, SqL.of ha, hz, fun ns' p hp hs hn => ?_⟩
      have : ns' = sortI ns := sorted_one (hp.trans (sortI_perm ns).symm) hs (sortI_sorted ns)
      subst this
      obtain ⟨px, r'⟩ := new_lst (k := k) (ds := (sortI ns).map D.int) sF hn (RepL.ints.mpr rfl)
      exact q _ _ _ px r'
    · cases e
  · cases e
    obtain ⟨x, rfl, rx⟩ := repVs_one rs
    have rx := repV_int rx; subst rx
    exact call_abs pins s σ H _ us Q I r ⟨_, rfl, q _ f H (PX.refl sF) rfl⟩
  · obtain ⟨ns, e1, rfl⟩ := Option.map_eq_some_iff.mp e
    have := toBls_of e1
    subst this
    obtain ⟨x, rfl, rx⟩ := repVs_one rs
    obtain ⟨a, vs, rfl, ha, ra⟩ := repV_lst sF rx
    have := repL_bls ra
    subst this
    exact cr_all hc pins s σ H _ us Q I r ⟨a, _, rfl, SqL.of ha, q _ f H (PX.refl sF) rfl⟩
  · cases e
    obtain ⟨x, rfl, rx⟩ := repVs_one rs
    have rx := repV_int rx; subst rx
    exact call_int1 pins s σ H _ us Q I r (.inl ⟨_, rfl, q _ f H (PX.refl sF) rfl⟩)
  · cases e
    obtain ⟨x, rfl, rx⟩ := repVs_one rs
    have rx := repV_bl rx; subst rx
    exact call_int1 pins s σ H _ us Q I r (.inr ⟨_, rfl, q _ f H (PX.refl sF) rfl⟩)
  · cases e
    obtain ⟨x, rfl, rx⟩ := repVs_one rs
    obtain ⟨a, vs, rfl, ha, ra⟩ := rep_tup.mp (repV_tup rx)
    exact call_tuple_of pins s σ H _ us Q I r ⟨a, vs, rfl, .inr ⟨by rw [hK]; exact Same.seqT sF ha, q _ f H (PX.refl sF) (repV_tup rx)⟩⟩
  · cases e
    obtain ⟨x, rfl, rx⟩ := repVs_one rs
    obtain ⟨a, vs, rfl, ha, ra⟩ := repV_lst sF rx
    refine call_tuple_of pins s σ H _ us Q I r ⟨a, vs, rfl, .inl ⟨SqL.of ha, fun p hp => ?_⟩⟩
    obtain ⟨px, r'⟩ := new_tup sF hp ra
    exact q _ _ _ px r'
  · cases e
    obtain ⟨x, rfl, rx⟩ := repVs_one rs
    obtain ⟨a, vs, rfl, ha, ra⟩ := rep_tup.mp (repV_tup rx)
    refine call_list_of pins s σ H _ us Q I r ⟨a, vs, rfl, .inr (by rw [hK]; exact Same.seqT sF ha), fun p hp => ?_⟩
    obtain ⟨px, r'⟩ := new_lst sF hp ra
    exact q _ _ _ px r'
  · cases e
    obtain ⟨x, rfl, rx⟩ := repVs_one rs
    obtain ⟨a, vs, rfl, ha, ra⟩ := repV_lst sF rx
    refine call_list_of pins s σ H _ us Q I r ⟨a, vs, rfl, .inl (SqL.of ha), fun p hp => ?_⟩
    obtain ⟨px, r'⟩ := new_lst sF hp ra
    exact q _ _ _ px r'
  · cases e

/-! ### kinds -/
def kiStr : Ki → String
  | .int => "int" | .bool => "bool" | .tuple => "tuple" | .list => "list" | .str => "str"
/-- a plain value's kind -/
theorem ty_of {f : Fz} {H : Hp} {x : V} {d : D} (hK : X.K = k.K) (sF : Same f.F H) (rd : RepV k f H d x) (hr : isRefD d = false) :
    ∃ t : String, TyX X.K H x (.type t) ∧ ∀ q : Ki, kitB t (kiStr q) = some (isKi q d) := by
  have tyT : ∀ {a : Addr} {vs : List V}, SqT k.K f.F a vs → TyX X.K H (.ref a) (.type "tuple") := fun {a vs} h => by
    rw [hK]
    rcases h with (h | ⟨o, h⟩) | ⟨o, its, n, h1, h2, _⟩
    · exact .base (.tup (sF _ _ h))
    · exact .fTuple (sF _ _ h)
    · exact .kTuple h1 h2
  cases d with
  | non => have rd := repV_non rd; subst rd; exact ⟨_, .base .non, fun q => by cases q <;> (simp only [isKi]; decide +kernel)⟩
  | bl b => have rd := repV_bl rd; subst rd; exact ⟨_, .base (.bl b), fun q => by cases q <;> (simp only [isKi]; decide +kernel)⟩
  | int i => have rd := repV_int rd; subst rd; exact ⟨_, .base (.int i), fun q => by cases q <;> (simp only [isKi]; decide +kernel)⟩
  | str z => have rd := repV_str rd; subst rd; exact ⟨_, .base (.str z), fun q => by cases q <;> (simp only [isKi]; decide +kernel)⟩
  | tup ds =>
    obtain ⟨a, vs, rfl, ha, ra⟩ := rep_tup.mp (repV_tup rd)
    exact ⟨_, tyT ha, fun q => by cases q <;> (simp only [isKi]; decide +kernel)⟩
  | lst ds =>
    obtain ⟨a, vs, rfl, ha, ra⟩ := repV_lst sF rd
    exact ⟨_, .base (.lst ha), fun q => by cases q <;> (simp only [isKi]; decide +kernel)⟩
  | scr ns =>
    obtain ⟨a, rfl, ha⟩ := rep_scr.mp (repV_scr rd)
    have hq : ∀ q : Ki, kitB "list" (kiStr q) = some (isKi q (.scr ns)) := fun q => by cases q <;> (simp only [isKi]; decide +kernel)
    rcases ha with (h | ⟨o, h⟩) | ⟨o, its, n, h1, h2, _⟩
    · exact ⟨_, .base (.lst (sF _ _ h)), hq⟩
    · exact ⟨_, .base (.frz (sF _ _ h)), hq⟩
    · exact ⟨_, by rw [hK]; exact .kList h1 h2, hq⟩
  | dct t ks ds => cases hr
  | ref n => cases hr
end
end Sf

/-! Sf.Read: the readings of the small tongue's terms. -/
namespace Sf
open PySem PySem.Spec PyProof.Rows L2

theorem PE.weak {X : Cx} {e : Expr} {t t' : TE} (h : PE X e t) (w : ∀ σ H Q, t' σ H Q → t σ H Q) : PE X e t' := ⟨fun pins s σ H Q I q => h.run pins s σ H Q I (w _ _ _ q)⟩
theorem PT.weak {X : Cx} {e : Expr} {t t' : TT} (h : PT X e t) (w : ∀ σ H Q, t' σ H Q → t σ H Q) : PT X e t' := ⟨fun pins s σ H Q I q => h.run pins s σ H Q I (w _ _ _ q)⟩
theorem PW.weak {X : Cx} {e : Expr} {t t' : TT} (h : PW X e t) (w : ∀ σ H Q, t' σ H Q → t σ H Q) : PW X e t' := ⟨fun wh pins s σ H Q I q => h.run wh pins s σ H Q I (w _ _ _ q)⟩
theorem PA.weak {X : Cx} {e : List Expr} {t t' : TA} (h : PA X e t) (w : ∀ σ H Q, t' σ H Q → t σ H Q) : PA X e t' := ⟨fun pos pins s σ H Q I q => h.run pos pins s σ H Q I (w _ _ _ q)⟩
theorem PK.weak {X : Cx} {e : List Keyword} {t t' : TA} (h : PK X e t) (w : ∀ σ H Q, t' σ H Q → t σ H Q) : PK X e t' := ⟨fun pos pins s σ H Q I q => h.run pos pins s σ H Q I (w _ _ _ q)⟩
theorem PS.weak {X : Cx} {e : Stmt} {t t' : TS} (h : PS X e t) (w : ∀ D σ H, t' D σ H → t D σ H) : PS X e t' := ⟨fun pins s σ H D I q => h.run pins s σ H D I (w _ _ _ q)⟩
theorem PSs.weak {X : Cx} {e : List Stmt} {t t' : TS} (h : PSs X e t) (w : ∀ D σ H, t' D σ H → t D σ H) : PSs X e t' := ⟨fun pins s σ H D I q => h.run pins s σ H D I (w _ _ _ q)⟩
theorem PI.weak {X : Cx} {tg e : Expr} {t t' : TI} (h : PI X tg e t) (w : ∀ σ H Q, t' σ H Q → t σ H Q) : PI X tg e t' := ⟨fun pins s σ H Q I q => h.run pins s σ H Q I (w _ _ _ q)⟩
theorem PG.weak {X : Cx} {e : Expr} {t t' : TG} (h : PG X e t) (w : ∀ v σ H Q, t' v σ H Q → t v σ H Q) : PG X e t' := ⟨fun pins s σ H v u Q I r q => h.run pins s σ H v u Q I r (w _ _ _ _ q)⟩

/-- an exception as it flies -/
def ExOk (k : Kx) (f : Fz) (H : Hp) (x : Ex) (c : Value) (d : Option Addr) : Prop := c = .ref (k.cl x.c) ∧ match x.f with
  | none => d = none
  | some (nm, dd) => ∃ a v, d = some a ∧ H a = some (.xd [(nm, v)]) ∧ Rep k f dd v
section
variable (k : Kx) (W : XK) {α β : Type} (R : Fz → α → β → Prop)
/-- behind a step that tells r -/
def Aft (σ : L2.St) (env : Env) (w : Wd) (H : Hp) (Q : β → Hp → Prop) : Re α → Prop
  | .ok a S' => ∀ b w' H', At k σ env S' w' H' → Ext w H w' H' → R w'.f a b → Q b H'
  | .ex x S' => ∀ c d w' H', At k σ env S' w' H' → Ext w H w' H' → ExOk k w'.f H' x c d → W c d H'
def rdG (ev : Env → Sto → Option (Re α)) : L2.St → Hp → (β → Hp → Prop) → Prop := fun σ H Q => ∃ env S w, At k σ env S w H ∧ ∃ r, ev env S = some r ∧ Aft k W R σ env w H Q r
def rd (ev : Env → Sto → Option (Re D)) : TE := rdG k W (Rep k) ev
def toB (m : Option (Re D)) : Option (Re Bool) := bnd m fun x S => match x with | .bl b => some (.ok b S) | _ => none
def rdT (ev : Env → Sto → Option (Re D)) : TT := rdG k W (fun _ (a b : Bool) => a = b) (fun env S => toB (ev env S))
def rdL (ev : Env → Sto → Option (Re (List D))) : TA := rdG k W (RepL k) ev
/-- the iterator J walks ds -/
def Wlk (f : Fz) (J : It) (ds : List D) : Prop := L2.Walk J ds.length (fun H => Same f.F H) fun i H x H' => ∀ g, Le f g → Same g.F H → ∃ g2 d, ds[i]? = some d ∧ PX g H g2 H' ∧ Rep k g2 d x
def rdI (ev : Env → Sto → Option (Re D)) : TI := rdG k W (fun f a (J : It) => ∃ ds, a = .lst ds ∧ Wlk k f J ds) ev
/-- behind a statement -/
def AftS (w : Wd) (H : Hp) (σ : L2.St) (D : Ends) : Fl → Prop
  | .nx env' S' => ∀ σ' w' H', At k σ' env' S' w' H' → Ext w H w' H' → D.nx σ' H'
  | .rt d S' => ∀ v σ' w' H', (∃ env', At k σ' env' S' w' H') → Ext w H w' H' → Rep k w'.f d v → D.rt v H'
  | .ex x env' S' => ∀ c d σ' w' H', At k σ' env' S' w' H' → Ext w H w' H' → ExOk k w'.f H' x c d → W c d H'
def rdS (ev : Env → Sto → Option Fl) : TS := fun D σ H => ∃ env S w, At k σ env S w H ∧ ∃ fl, ev env S = some fl ∧ AftS k W w H σ D fl
end

section
variable {k : Kx} {W : XK} {σ : L2.St} {env : Env} {S S' : Sto} {w w1 : Wd} {H H1 : Hp}
theorem ext_px {g : Fz} {H' : Hp} (s : Sp w H) (x : PX w.f H g H') : Ext w H ⟨g, w.O⟩ H' := Ext.px s x
/-- the slots stand over another store that goes on from this one -/
theorem At.over {σ2 : L2.St} {env2 : Env} (a : At k σ env S w H) (b : At k σ2 env2 S' w1 H1) (e : Le w.f w1.f) : At k σ env S' w1 H1 :=
  ⟨a.len, b.sep, b.tab, b.out, b.ce, fun i d h => by
    obtain ⟨v, h1, h2⟩ := a.sl i d h
    exact ⟨v, h1, h2.mono e d v⟩⟩
section
variable {α β α' β' : Type} {R : Fz → α → β → Prop} {R' : Fz → α' → β' → Prop} {Q : β → Hp → Prop} {Q' : β' → Hp → Prop}
theorem Aft.imp {r : Re α} {Q2 : β → Hp → Prop} (h : Aft k W R σ env w H Q r) (i : ∀ b H, Q b H → Q2 b H) : Aft k W R σ env w H Q2 r := by
  cases r with
  | ok a S => exact fun b w' H' h1 h2 h3 => i _ _ (h b w' H' h1 h2 h3)
  | ex x S => exact h
theorem Aft.ext {r : Re α} (s : Sp w H) (s1 : Sp w1 H1) (x : Ext w H w1 H1) (h : Aft k W R σ env w H Q r) : Aft k W R σ env w1 H1 Q r := by
  cases r with
  | ok a S => exact fun b w' H' h1 h2 h3 => h b w' H' h1 (x.trans s s1 h2) h3
  | ex e S => exact fun c d w' H' h1 h2 h3 => h c d w' H' h1 (x.trans s s1 h2) h3
/-- two steps in a row -/
theorem run_bnd {m : Option (Re α)} {g : α → Sto → Option (Re α')} {r : Re α'} (at0 : At k σ env S w H) (e : bnd m g = some r) (h : Aft k W R' σ env w H Q' r) :
    ∃ r1, m = some r1 ∧ Aft k W R σ env w H (fun b H1 => ∃ S1 w1 a, At k σ env S1 w1 H1 ∧ Ext w H w1 H1 ∧ R w1.f a b ∧ ∃ r, g a S1 = some r ∧ Aft k W R' σ env w1 H1 Q' r) r1 := by
  cases m with
  | none => cases e
  | some r1 =>
    refine ⟨r1, rfl, ?_⟩
    cases r1 with
    | ok a S1 => exact fun b w1 H1 a1 x1 rb => ⟨S1, w1, a, a1, x1, rb, r, e, h.ext at0.sep a1.sep x1⟩
    | ex x S1 =>
      have e : some (Re.ex x S1) = some r := e
      cases e
      exact h
/-- the step's end -/
theorem run_lift {o : Option α} {r : Re α} (e : lift o S = some r) (h : Aft k W R σ env w H Q r) : ∃ a, o = some a ∧ ∀ b w' H', At k σ env S w' H' → Ext w H w' H' → R w'.f a b → Q b H' := by
  cases o with
  | none => cases e
  | some a => cases e; exact ⟨a, rfl, h⟩
end

/-! ### the parts of a reading -/
variable {f g h : Env → Sto → Option (Re D)} {Q : VK}
theorem rd_op {sem : D → D → Option D} (q : rd k W (fun env S => bnd (f env S) fun x S => bnd (g env S) fun y S => lift (sem (vw S x) (vw S y)) S) σ H Q) : tOp (PR2 k sem) (rd k W f) (rd k W g) σ H Q := by
  obtain ⟨env, S, w, a, r, e, q⟩ := q
  obtain ⟨r1, e1, q1⟩ := run_bnd (R := Rep k) a e q
  refine ⟨env, S, w, a, r1, e1, q1.imp fun x H1 ⟨S1, w1, d1, a1, x1, rx, r2, e2, q2⟩ => ?_⟩
  obtain ⟨r3, e3, q3⟩ := run_bnd (R := Rep k) a1 e2 q2
  refine ⟨env, S1, w1, a1, r3, e3, q3.imp fun y H2 ⟨S2, w2, d2, a2, x2, ry, r4, e4, q4⟩ => ?_⟩
  obtain ⟨d, e5, q5⟩ := run_lift e4 q4
  exact ⟨w2.f, _, _, d, a2.sep.fh, vw_at a2 (rx.mono x2.le d1 x), vw_at a2 ry, e5, fun v g' H' px rv => q5 v ⟨g', w2.O⟩ H' (a2.px px) (ext_px a2.sep px) rv⟩
theorem rd_un {sem : D → Option D} (q : rd k W (fun env S => bnd (f env S) fun x S => lift (sem (vw S x)) S) σ H Q) : tUn (PR1 k sem) (rd k W f) σ H Q := by
  obtain ⟨env, S, w, a, r, e, q⟩ := q
  obtain ⟨r1, e1, q1⟩ := run_bnd (R := Rep k) a e q
  refine ⟨env, S, w, a, r1, e1, q1.imp fun x H1 ⟨S1, w1, d1, a1, x1, rx, r2, e2, q2⟩ => ?_⟩
  obtain ⟨d, e5, q5⟩ := run_lift e2 q2
  exact ⟨w1.f, _, d, a1.sep.fh, vw_at a1 rx, e5, fun v g' H' px rv => q5 v ⟨g', w1.O⟩ H' (a1.px px) (ext_px a1.sep px) rv⟩
theorem rd_cb {sem : List D → Option D} {ev : Env → Sto → Option (Re (List D))} (q : rd k W (fun env S => bnd (ev env S) fun xs S => lift (sem (xs.map (vw S))) S) σ H Q) : tCB (PRn k sem) (rdL k W ev) σ H Q := by
  obtain ⟨env, S, w, a, r, e, q⟩ := q
  obtain ⟨r1, e1, q1⟩ := run_bnd (R := RepL k) a e q
  refine ⟨env, S, w, a, r1, e1, q1.imp fun xs H1 ⟨S1, w1, ds, a1, x1, rx, r2, e2, q2⟩ => ?_⟩
  obtain ⟨d, e5, q5⟩ := run_lift e2 q2
  exact ⟨w1.f, _, d, a1.sep.fh, vws_at a1 rx, e5, fun v g' H' px rv => q5 v ⟨g', w1.O⟩ H' (a1.px px) (ext_px a1.sep px) rv⟩
theorem toB_ok {b : Bool} {S : Sto} : toB (some (.ok (.bl b) S)) = some (.ok b S) := rfl
theorem toB_some {m : Option (Re D)} {r : Re Bool} (h : toB m = some r) : (∃ b S, m = some (.ok (.bl b) S) ∧ r = .ok b S) ∨ ∃ x S, m = some (.ex x S) ∧ r = .ex x S := by
  cases m with
  | none => cases h
  | some r1 =>
    cases r1 with
    | ok d S =>
      cases d with
      | bl b =>
        have h : some (Re.ok b S) = some r := h
        cases h; exact .inl ⟨b, S, rfl, rfl⟩
      | _ => cases h
    | ex x S => cases h; exact .inr ⟨x, S, rfl, rfl⟩
/-- a test's two ways -/
theorem bnd_toB {α : Type} (m : Option (Re D)) (A B : Sto → Option (Re α)) : (bnd m fun x S => match x with | .bl true => A S | .bl false => B S | _ => none) = bnd (toB m) fun b S => if b then A S else B S := by
  cases m with
  | none => rfl
  | some r1 =>
    cases r1 with
    | ok d S =>
      show (match d with | .bl true => A S | .bl false => B S | _ => none) = bnd (match d with | .bl b => some (.ok b S) | _ => none) _
      cases d with
      | bl b => cases b <;> rfl
      | _ => rfl
    | ex x S => rfl
theorem rd_T {ev : Env → Sto → Option (Re D)} {Q : Bool → Hp → Prop} (q : rdT k W ev σ H Q) : rd k W ev σ H fun x H' => ∃ b, x = .bl b ∧ Q b H' := by
  obtain ⟨env, S, w, a, r, e, q⟩ := q
  rcases toB_some e with ⟨b, S1, e1, rfl⟩ | ⟨x, S1, e1, rfl⟩
  · exact ⟨env, S, w, a, _, e1, fun v w' H' a' x r => ⟨b, r, q b w' H' a' x rfl⟩⟩
  · exact ⟨env, S, w, a, _, e1, q⟩
theorem rd_of {ev ev' : Env → Sto → Option (Re D)} (q : rd k W ev σ H Q) (e : ∀ env S, ev env S = ev' env S) : rd k W ev' σ H Q := by
  have : ev = ev' := funext fun env => funext (e env)
  rw [← this]; exact q
theorem rdT_of {ev ev' : Env → Sto → Option (Re D)} {Q : Bool → Hp → Prop} (q : rdT k W ev σ H Q) (e : ∀ env S, ev env S = ev' env S) : rdT k W ev' σ H Q := by
  have : ev = ev' := funext fun env => funext (e env)
  rw [← this]; exact q
theorem rdL_of {ev ev' : Env → Sto → Option (Re (List D))} {Q : List V → Hp → Prop} (q : rdL k W ev σ H Q) (e : ∀ env S, ev env S = ev' env S) : rdL k W ev' σ H Q := by
  have : ev = ev' := funext fun env => funext (e env)
  rw [← this]; exact q
theorem rdL_cons {ev : Env → Sto → Option (Re (List D))} {Q : List V → Hp → Prop} (q : rdL k W (fun env S => bnd (f env S) fun x S => bnd (ev env S) fun xs S => some (.ok (x :: xs) S)) σ H Q) : tCons (rd k W f) (rdL k W ev) σ H Q := by
  obtain ⟨env, S, w, a, r, e, q⟩ := q
  obtain ⟨r1, e1, q1⟩ := run_bnd (R := Rep k) a e q
  refine ⟨env, S, w, a, r1, e1, q1.imp fun x H1 ⟨S1, w1, d1, a1, x1, rx, r2, e2, q2⟩ => ?_⟩
  obtain ⟨r3, e3, q3⟩ := run_bnd (R := RepL k) a1 e2 q2
  refine ⟨env, S1, w1, a1, r3, e3, q3.imp fun ys H2 ⟨S2, w2, ds, a2, x2, ry, r4, e4, q4⟩ => ?_⟩
  cases e4
  exact q4 _ w2 H2 a2 Ext.refl (RepL.cons (rx.mono x2.le d1 x) ry)
theorem rdL_nil {Q : List V → Hp → Prop} (q : rdL k W (fun _ S => some (.ok [] S)) σ H Q) : tNil σ H Q := by
  obtain ⟨env, S, w, a, r, e, q⟩ := q
  cases e
  exact q [] w H a Ext.refl RepL.nil
theorem rd_c {d : D} {v : V} (hr : ∀ f, Rep k f d v) (q : rd k W (fun _ S => some (.ok d S)) σ H Q) : tC v σ H Q := by
  obtain ⟨env, S, w, a, r, e, q⟩ := q
  cases e
  exact q v w H a Ext.refl (hr _)
/-- a new tuple -/
theorem rd_tup {ev : Env → Sto → Option (Re (List D))} (q : rd k W (fun env S => bnd (ev env S) fun ds S => if ds.length ≤ LIM then some (.ok (.tup ds) S) else none) σ H Q) : tTup (rdL k W ev) σ H Q := by
  obtain ⟨env, S, w, a, r, e, q⟩ := q
  obtain ⟨r1, e1, q1⟩ := run_bnd (R := RepL k) a e q
  refine ⟨env, S, w, a, r1, e1, q1.imp fun vs H1 ⟨S1, w1, ds, a1, x1, rx, r2, e2, q2⟩ => ?_⟩
  split at e2
  · rename_i hz
    cases e2
    refine ⟨lim_line (by rw [rx.length]; exact hz), fun p hp => ?_⟩
    obtain ⟨px, r⟩ := new_tup a1.sep.fh hp rx
    exact q2 _ ⟨_, w1.O⟩ _ (a1.px px) (ext_px a1.sep px) r
  · cases e2
/-- the object that a fresh value is: left out of the frozen heap -/
def FrObj (k : Kx) (f : Fz) (p : Addr) : D → HO → Prop
  | .lst ds, o => ∃ vs, RepL k f ds vs ∧ o = .lst vs
  | .dct t ks ds, o => ∃ vs, DictOk k f.F p t ks vs o ∧ RepL k f ds vs
  | _, _ => False
def AftF (k : Kx) (W : XK) (σ : L2.St) (env : Env) (w : Wd) (H : Hp) (Q : VK) : Re D → Prop
  | .ok d S' => ∀ p o w' H', At k σ env S' w' H' → Ext w H w' H' → H' p = none → FrObj k w'.f p d o → Q (.ref p) (upd H' p o)
  | .ex x S' => ∀ c d w' H', At k σ env S' w' H' → Ext w H w' H' → ExOk k w'.f H' x c d → W c d H'
def rdF (k : Kx) (W : XK) (ev : Env → Sto → Option (Re D)) : TE := fun σ H Q => ∃ env S w, At k σ env S w H ∧ ∃ r, ev env S = some r ∧ AftF k W σ env w H Q r
/-- .. and frozen -/
theorem FrObj.frz {f : Fz} {p : Addr} {d : D} {o : HO} {H : Hp} (s : Same f.F H) (h : FrObj k f p d o) (hp : H p = none) : PX f H (f.put p o) (upd H p o) ∧ Rep k (f.put p o) d (.ref p) := by
  refine ⟨PX.new s hp, ?_⟩
  have le := Le.put (o := o) s hp
  cases d with
  | lst ds =>
    obtain ⟨vs, h1, rfl⟩ := h
    exact rep_lst.mpr ⟨p, vs, rfl, upd_same, RepL.mono le _ _ h1⟩
  | dct t ks ds =>
    obtain ⟨vs, h1, h2⟩ := h
    exact rep_dct.mpr ⟨p, vs, o, rfl, upd_same, h1.mono le.ff, RepL.mono le _ _ h2⟩
  | _ => exact h.elim
theorem rd_F {ev : Env → Sto → Option (Re D)} (q : rd k W ev σ H Q) : rdF k W ev σ H Q := by
  obtain ⟨env, S, w, a, r, e, q⟩ := q
  refine ⟨env, S, w, a, r, e, ?_⟩
  cases r with
  | ok d S1 =>
    refine fun p o w' H' a' x hp fo => ?_
    obtain ⟨px, rp⟩ := fo.frz a'.sep.fh hp
    exact q _ ⟨_, w'.O⟩ _ (a'.px px) (x.trans a.sep a'.sep (ext_px a'.sep px)) rp
  | ex x S1 => exact q
/-- .. or put into the store -/
theorem rd_new {ev : Env → Sto → Option (Re D)} (q : rd k W (fun env S => bnd (ev env S) fun x S => newD x S) σ H Q) : rdF k W ev σ H Q := by
  obtain ⟨env, S, w, a, r, e, q⟩ := q
  cases m : ev env S with
  | none => dsimp only at e; rw [m] at e; cases e
  | some r1 =>
    dsimp only at e
    rw [m] at e
    refine ⟨env, S, w, a, r1, m, ?_⟩
    cases r1 with
    | ok d S1 =>
      refine fun p o w' H' a' x hp fo => ?_
      have e : newD d S1 = some r := e
      unfold newD at e
      have hs := same_new (o := o) hp
      have key : ∀ ob : Ob, r = .ok (.ref S1.length) (S1 ++ [ob]) → CellOk k w'.f p (upd nil p o) ob → Q (.ref p) (upd H' p o) := fun ob er ok => by
        subst er
        obtain ⟨b1, b2⟩ := a'.new (o := ob) (p := p) (O := upd nil p o) (H' := upd H' p o) (fun b u z => by rw [(one_eq z).1]; exact hp) (fun b u z => by obtain ⟨rfl, rfl⟩ := one_eq z; exact upd_same) hs ok
        exact q _ _ _ b1 (x.trans a.sep a'.sep b2) At.rep_new
      split at e
      · obtain ⟨vs, h1, rfl⟩ := fo
        cases e; exact key _ rfl ⟨vs, h1, rfl⟩
      · obtain ⟨vs, h1, h2⟩ := fo
        cases e; exact key _ rfl ⟨vs, o, h1, h2, rfl⟩
      · cases e
    | ex x S1 => cases e; exact q
theorem rdF_of {ev ev' : Env → Sto → Option (Re D)} (q : rdF k W ev σ H Q) (e : ∀ env S, ev env S = ev' env S) : rdF k W ev' σ H Q := by
  have : ev = ev' := funext fun env => funext (e env)
  rw [← this]; exact q
theorem rdF_lst {ev : Env → Sto → Option (Re (List D))} (q : rdF k W (fun env S => bnd (ev env S) fun ds S => if ds.length ≤ LIM then some (.ok (.lst ds) S) else none) σ H Q) : tLst (rdL k W ev) σ H Q := by
  obtain ⟨env, S, w, a, r, e, q⟩ := q
  cases m : ev env S with
  | none => dsimp only at e; rw [m] at e; cases e
  | some r1 =>
    dsimp only at e
    rw [m] at e
    refine ⟨env, S, w, a, r1, m, ?_⟩
    cases r1 with
    | ok ds S1 =>
      refine fun vs w' H' a' x rl => ?_
      have e : (if ds.length ≤ LIM then some (Re.ok (D.lst ds) S1) else none) = some r := e
      split at e
      · rename_i hz
        cases e
        exact ⟨lim_line (by rw [rl.length]; exact hz), fun p hp => q p _ w' H' a' x hp ⟨vs, rl, rfl⟩⟩
      · cases e
    | ex x S1 => cases e; exact q
end
end Sf

/-! Sf.Shape: what the look at a text tells of its forms. -/
namespace Sf
open PySem PySem.Spec PyProof.Rows L2

def noStar : Expr → Bool
  | .Starred .. => false
  | _ => true
def noStars (es : List Expr) : Bool := es.all noStar
theorem star_cons {e : Expr} {es : List Expr} {env : PySem.Env} (h : noStar e = true) : starEach (e :: es) env = (false, eval e env) :: starEach es env := by
  cases e <;> first | rfl | cases h
theorem star_any {pos : Pos} {env : PySem.Env} : ∀ {es : List Expr}, noStars es = true → (backTo pos (starEach es env)).any (·.1) = false
  | [], _ => rfl
  | e :: es, h => by
    have h := Bool.and_eq_true_iff.mp (show (noStar e && noStars es) = true from h)
    rw [star_cons h.1]
    show (false || (backTo pos (starEach es env)).any (·.1)) = false
    rw [star_any h.2]; rfl
theorem asg_one {t : Expr} {env : PySem.Env} (h : noStar t = true) : (assignEach [t] env).map (·.2) = [assign t env] := by
  cases t <;> first | rfl | cases h
theorem asg_cons {t : Expr} {es : List Expr} {env : PySem.Env} (h : noStar t = true) : (assignEach (t :: es) env).map (·.2) = assign t env :: (assignEach es env).map (·.2) := by
  cases t <;> first | rfl | cases h
theorem asg_len {env : PySem.Env} : ∀ {es : List Expr}, (assignEach es env).length = es.length
  | [] => rfl
  | e :: es => by
    cases e <;> (show (assignEach es env).length + 1 = es.length + 1; rw [asg_len])
theorem asg_idx {env : PySem.Env} : ∀ {es : List Expr}, noStars es = true → (assignEach es env).findIdx? (·.1) = none
  | [], _ => rfl
  | e :: es, h => by
    have h := Bool.and_eq_true_iff.mp (show (noStar e && noStars es) = true from h)
    have ih := asg_idx (env := env) h.2
    cases e <;> first
      | (show List.findIdx? _ ((false, _) :: _) = none
         rw [List.findIdx?_cons, ih]; rfl)
      | cases h.1
def noComp : Expr → Bool
  | .ListComp .. => false
  | .SetComp .. => false
  | .DictComp .. => false
  | _ => true
theorem swap_none {v : Expr} {t : Option Expr} {l : Nat} {env : PySem.Env} (h : noComp v = true) : swapsWith v t l env = pure false := by
  cases v <;> first | rfl | cases h
def noSet : Expr → Bool
  | .Set .. => false
  | _ => true
theorem folded_none {e : Expr} {env : PySem.Env} (h : noSet e = true) (x : Value) : foldedSetIterable e env x = pure x := by
  cases e <;> first | rfl | cases h
theorem marks_none {op : CmpOp} {e : Expr} (h : noSet e = true) : behindInMarks op e = false := by
  cases e <;> first | rfl | cases h
def noSlice : Expr → Bool
  | .Slice .. => false
  | _ => true
theorem plain_ix {e : Expr} (h : noSlice e = true) : PlainIx e := by
  intro o i
  cases e <;> first | rfl | cases h
/-- tests that are plain values -/
def plainT : Expr → Bool
  | .UnaryOp .Not _ _ => false
  | .BoolOp .. => false
  | .IfExp .. => false
  | .Compare .. => false
  | _ => true
theorem plain_test {e : Expr} {env : PySem.Env} (h : plainT e = true) : ∀ whole, isTrue e env whole = (do let v ← whole; standAt e.pos; holding [v] (truthy v)) := by
  intro wh
  cases e <;> first | rfl | cases h | (rename_i op _ _; cases op <;> first | rfl | cases h)
/-- everything plain -/
def plainX (e : Expr) : Bool := noStar e && noSet e && noSlice e

theorem chk_plain0 (C : SC) (c : E) (hc : ∀ a, c ≠ .new a) (e : Expr) (h : chkE C c e = true) : noStar e = true ∧ noSet e = true ∧ noSlice e = true ∧ (isLc c = false → noComp e = true) := by
  cases c with
  | new a => exact absurd rfl (hc a)
  | dsp t ks vs =>
    unfold chkE at h
    have h := (Bool.and_eq_true_iff.mp h).2
    split at h
    · exact ⟨rfl, rfl, rfl, fun _ => rfl⟩
    · cases h
  | _ =>
    cases e with
    | Starred v p => first | exact absurd h Bool.false_ne_true | cases h
    | Set v k p => first | exact absurd h Bool.false_ne_true | cases h
    | Slice a b d p => first | exact absurd h Bool.false_ne_true | cases h
    | ListComp a b sc p => first | exact absurd h Bool.false_ne_true | exact ⟨rfl, rfl, rfl, fun z => Bool.noConfusion z⟩
    | SetComp a b sc p => first | exact absurd h Bool.false_ne_true | cases h
    | DictComp a b d sc p => first | exact absurd h Bool.false_ne_true | cases h
    | _ => exact ⟨rfl, rfl, rfl, fun _ => rfl⟩
theorem fresh_new {a : E} (h : isFresh a = true) : ∀ b, a ≠ .new b := fun b z => by subst z; cases h
theorem chk_plain (C : SC) (c : E) (e : Expr) (h : chkE C c e = true) : noStar e = true ∧ noSet e = true ∧ noSlice e = true ∧ (isLc c = false → noComp e = true) := by
  cases c with
  | new a =>
    unfold chkE at h
    obtain ⟨h1, h2⟩ := Bool.and_eq_true_iff.mp h
    obtain ⟨q1, q2, q3, q4⟩ := chk_plain0 C a (fresh_new h1) e h2
    refine ⟨q1, q2, q3, fun z => q4 ?_⟩
    cases a with
    | lc vs t src c elt => cases z
    | new b => cases h1
    | _ => rfl
  | _ => exact chk_plain0 C _ (fun a z => by cases z) e h
end Sf

/-! Sf.Good: what a def's promise is, where a body runs. -/
namespace Sf
open PySem PySem.Spec PyProof.Rows L2

section
variable (k : Kx)
abbrev At0 (S : Sto) (w : Wd) (H : Hp) : Prop := At k [] [] S w H
/-- the promise of a def of n parameters that is worth φ -/
def spOf (φ : FnSem) (n : Nat) : L2.Sp := fun vs H Q E => ∃ S w ds, At0 k S w H ∧ RepL k w.f ds vs ∧ ds.length = n ∧ vs.length = n ∧
  ∃ r, φ ds S = some r ∧ match r with
    | .ok d S' => ∀ v w' H', At0 k S' w' H' → Ext w H w' H' → Rep k w'.f d v → Q v H'
    | .ex x S' => ∀ c d w' H', At0 k S' w' H' → Ext w H w' H' → ExOk k w'.f H' x c d → E c d H'
end
def kfC : Kf → Option V
  | .g _ => none
  | .int i => some (.int i)
  | .non => some .non
def kfV (zs : List V) : Kf → Option V
  | .g j => zs[j]?
  | .int i => some (.int i)
  | .non => some .non
/-- the named parameters' values -/
def KfVs (zs : List V) : List Kf → List V → Prop := Paired fun x v => kfV zs x = some v
/-- a def that may be called here in this way -/
structure FnAt (X : Cx) (k : Kx) (c : Cf) (φ : FnSem) : Prop where
  ex : ∃ (f : Addr) (fd : FuncData) (lv : Nat) (ps : List Str), X.mg c.x = some (.ref f) ∧ PySem.W.keepIn X.K (.ref f) = true ∧ Room lv X.A ∧
    FnOk X.prog X.w X.K X.mg X.base (L2.CX X.prog X.w) lv f fd ps (spOf k φ (c.n + c.fs.length)) ∧
    ((c.ks = [] ∧ ∃ dvs ds, Vals dvs ds ∧ Binds X.K fd ps ds ∧ KfVs [] c.fs dvs) ∨
      (c.ks ≠ [] ∧ ∃ g gV, KBn X.K fd ps c.n c.ks g gV ∧ ∀ vs zs dz, vs.length = c.n → zs.length = c.ks.length → KfVs zs c.fs dz → gV vs zs = vs ++ dz))
structure Good (X : Cx) (k : Kx) (W : XK) (C : SC) (G : Nat → Option D) (Φ : Nat → FnSem) : Prop where
  kk : X.K = k.K
  kp : X.prog = k.P
  kw : X.w = k.w
  nd : X.N.Nodup
  N : X.N = C.N
  names : X.env.scope.names = C.names
  kind : X.env.scope.kind = .function
  calm : X.calm = true
  cells : C.cs = true → ∀ x, X.fn x = true
  pass : PassesOwn (model X.prog X.w) X.A X.env X.xe
  tk : Takes X fun c d _ H => W c d H
  units : X.A.units + 70 < cLine
  fn : ∀ j c, C.fns[j]? = some c → FnAt X k c (Φ j)
  glo : ∀ j x d, C.glo[j]? = some x → G j = some d → ∃ u v, X.mg x = some u ∧ RelV v u ∧ ∀ f, Rep k f d v
  blt : ∀ x ∈ C.blt, X.mg x = none

section
variable {X : Cx} {k : Kx} {W : XK} {C : SC} {G : Nat → Option D} {Φ : Nat → FnSem}
theorem Good.vis (g : Good X k W C G Φ) {x : Str} (h : vis C x = true) : Vis X.env.scope x := by
  unfold Sf.vis at h
  unfold Vis
  rw [g.names]
  split at h
  · exact .inl (by assumption)
  · exact .inr (.inl (by assumption))
  · exact .inr (.inr (by assumption))
  · cases h
theorem Good.gl (g : Good X k W C G Φ) {x : Str} (h : isGl C x = true) : Gl X x := by
  unfold isGl at h
  show X.env.scope.names.lookup x = _
  rw [g.names]
  split at h
  · assumption
  · cases h
theorem Good.loc (g : Good X k W C G Φ) {x : Str} (h : loc C x = true) : X.env.scope.names.lookup x = some .local := by
  unfold Sf.loc at h
  rw [g.names]
  split at h
  · assumption
  · cases h
theorem Good.sto (g : Good X k W C G Φ) {x : Str} (h : sto C x = true) : L2.Loc X.env.scope x ∧ (X.fn x = true ∨ X.env.scope.names.lookup x = some .local) := by
  unfold Sf.sto at h
  unfold L2.Loc
  rw [g.names]
  split at h
  · rename_i e; exact ⟨.inl e, .inr e⟩
  · rename_i e; exact ⟨.inr e, .inl (g.cells h x)⟩
  · cases h
theorem Good.slot (g : Good X k W C G Φ) {i : Nat} {x : Str} (h : slotIs C i x = true) : X.N[i]? = some x := by
  rw [g.N]; exact of_decide_eq_true h
theorem noDbg_of {x : Str} (h : noDbg x = true) : (x == ("__debug__" : Str)) = false ∧ (x == ("__classdict__" : Str)) = false ∧ x ≠ "__name__" := by
  unfold noDbg at h
  simp only [Bool.and_eq_true, Bool.not_eq_true'] at h
  exact ⟨h.1.1, h.1.2, fun z => by rw [z] at h; simp at h⟩
theorem isB_of (g : Good X k W C G Φ) {x y : Str} (h : isB C x y = true) : x = y ∧ Gl X x ∧ X.mg x = none := by
  unfold isB at h
  simp only [Bool.and_eq_true, decide_eq_true_eq] at h
  exact ⟨h.1.1, g.gl h.1.2, g.blt _ h.2⟩
/-- a name as a value -/
theorem nm_pe (g : Good X k W C G Φ) {i : Nat} {e : Expr} (h : nmV C i e = true) : PE X e (tVar i) := by
  unfold nmV at h
  split at h
  · simp only [Bool.and_eq_true] at h
    obtain ⟨⟨h1, h2⟩, h3⟩ := h
    obtain ⟨d1, d2, _⟩ := noDbg_of h3
    exact pe_var (g.slot h1) (g.vis h2) d1 d2
  · cases h
theorem base_of {o : Expr} {n : Str} {env : PySem.Env} {wh : Sem Value} (h : noC0 o = true) : attributeBase o n env wh = wh := by
  unfold attributeBase
  split
  · cases h
  · rfl
/-- targets -/
theorem nmS_pg (g : Good X k W C G Φ) {i : Nat} {e : Expr} (h : nmS C i e = true) : PG X e (gName i) ∧ noStar e = true := by
  unfold nmS at h
  split at h
  · simp only [Bool.and_eq_true] at h
    obtain ⟨h1, h2⟩ := h
    exact ⟨pg_name g.nd (g.slot h1) (g.sto h2).1 (g.sto h2).2, rfl⟩
  · cases h
mutual
/-- what a target's reading is -/
def gOf (K : PySem.W.Frag) : Tg → TG
  | .nm i => gName i
  | .tup ts => gTup K ts.length (gsOf K ts)
def gsOf (K : PySem.W.Frag) : List Tg → TGs
  | [] => gNil
  | t :: ts => gCons (gOf K t) (gsOf K ts)
end
mutual
theorem tgt_pg (g : Good X k W C G Φ) : ∀ {t : Tg} {e : Expr}, tgt C t e = true → PG X e (gOf X.K t) ∧ noStar e = true
  | .nm i, e, h => by
    unfold tgt at h
    exact nmS_pg g h
  | .tup ts, e, h => by
    unfold tgt at h
    split at h
    · obtain ⟨p1, p2, p3⟩ := tgts_pg g h
      exact ⟨pg_tup g.calm p1 (by rw [asg_len, p3]) (asg_idx p2), rfl⟩
    · cases h
theorem tgts_pg (g : Good X k W C G Φ) : ∀ {ts : List Tg} {es : List Expr}, tgts C ts es = true → PGs X es (gsOf X.K ts) ∧ noStars es = true ∧ es.length = ts.length
  | [], es, h => by
    unfold tgts at h
    have : es = [] := List.isEmpty_iff.mp h
    subst this
    exact ⟨pgs_nil, rfl, rfl⟩
  | t :: ts, es, h => by
    unfold tgts at h
    split at h
    · obtain ⟨h1, h2⟩ := Bool.and_eq_true_iff.mp h
      obtain ⟨q1, q2⟩ := tgt_pg g h1
      obtain ⟨q3, q4, q5⟩ := tgts_pg g h2
      exact ⟨pgs_cons q1 q3 (asg_cons q2), Bool.and_eq_true_iff.mpr ⟨q2, q4⟩, by simp [q5]⟩
    · cases h
end
theorem setV_at {env env1 : Env} {S : Sto} {i : Nat} {d : D} {w : Wd} {σ : L2.St} {H : Hp} {v : V} (e : setV env i d = some env1) (a : At k σ env S w H) (r : Rep k w.f d v) :
    At k (σ.set i (some v)) env1 S w H := by
  unfold setV at e
  split at e
  · rename_i hi
    cases e
    exact a.set hi r
  · cases e
theorem asgTs_len : ∀ {ts : List Tg} {ds : List D} {env env1 : Env}, asgTs ts ds env = some env1 → ds.length = ts.length
  | [], [], _, _, _ => rfl
  | [], _ :: _, _, _, h => by unfold asgTs at h; cases h
  | _ :: _, [], _, _, h => by unfold asgTs at h; cases h
  | t :: ts, d :: ds, env, env1, h => by
    unfold asgTs at h
    obtain ⟨env2, e1, e2⟩ := Option.bind_eq_some_iff.mp h
    simp [asgTs_len e2]
mutual
theorem g_at : ∀ {t : Tg} {d : D} {env env1 : Env} {S : Sto} {w : Wd} {σ : L2.St} {H : Hp} {v : V} {Q : L2.St → Hp → Prop}, asgT t d env = some env1 → At k σ env S w H → Rep k w.f d v →
    (∀ σ', At k σ' env1 S w H → (σ'.length = σ.length ∧ ∀ j, j ∉ tgNames t → σ'[j]? = σ[j]?) → Q σ' H) → gOf k.K t v σ H Q
  | .nm i, d, env, env1, S, w, σ, H, v, Q, e, a, r, q => by
    unfold asgT at e
    unfold gOf
    exact q _ (setV_at e a r) ⟨List.length_set, fun j hj => List.getElem?_set_ne (fun z : i = j => hj (by simp [tgNames, z]))⟩
  | .tup ts, d, env, env1, S, w, σ, H, v, Q, e, a, r, q => by
    unfold asgT at e
    unfold gOf
    split at e
    · obtain ⟨b, vs, rfl, hb, rb⟩ := rep_tup.mp r
      exact ⟨b, vs, rfl, Same.seqT a.sep.fh hb, by rw [rb.length]; exact asgTs_len e, gs_at e a rb (by unfold tgNames at q; exact q)⟩
    · cases e
theorem gs_at : ∀ {ts : List Tg} {ds : List D} {env env1 : Env} {S : Sto} {w : Wd} {σ : L2.St} {H : Hp} {vs : List V} {Q : L2.St → Hp → Prop}, asgTs ts ds env = some env1 → At k σ env S w H → RepL k w.f ds vs →
    (∀ σ', At k σ' env1 S w H → (σ'.length = σ.length ∧ ∀ j, j ∉ tgsNames ts → σ'[j]? = σ[j]?) → Q σ' H) → gsOf k.K ts vs σ H Q
  | [], [], env, env1, S, w, σ, H, vs, Q, e, a, r, q => by
    unfold asgTs at e
    cases e
    unfold gsOf
    exact ⟨repL_nil.mp r, q σ a ⟨rfl, fun _ _ => rfl⟩⟩
  | [], _ :: _, _, _, _, _, _, _, _, _, e, _, _, _ => by unfold asgTs at e; cases e
  | _ :: _, [], _, _, _, _, _, _, _, _, e, _, _, _ => by unfold asgTs at e; cases e
  | t :: ts, d :: ds, env, env1, S, w, σ, H, vs, Q, e, a, r, q => by
    unfold asgTs at e
    unfold gsOf
    obtain ⟨env2, e1, e2⟩ := Option.bind_eq_some_iff.mp e
    obtain ⟨v, r', rfl, h1, h2⟩ := repL_cons.mp r
    refine ⟨v, r', rfl, g_at e1 a h1 fun σ1 a1 n1 => gs_at e2 a1 h2 fun σ2 a2 n2 => q σ2 a2 ⟨n2.1.trans n1.1, fun j hj => ?_⟩⟩
    unfold tgsNames at hj
    rw [List.mem_append, not_or] at hj
    rw [n2.2 j hj.2, n1.2 j hj.1]
end
end
end Sf

/-! Sf.Loop: what is walked; for; comprehensions; calls. -/
namespace Sf
open PySem PySem.Spec PyProof.Rows L2

section
variable {k : Kx} {f : Fz}
theorem wlk_list {a : Addr} {ds : List D} {vs : List V} (ha : f.F a = some (.lst vs)) (r : RepL k f ds vs) : Wlk k f (Itl k.K a) ds := by
  unfold Wlk
  rw [← r.length]
  refine (walk_list (K := k.K) (a := a) (xs := vs)).mono (fun H s => SqL.of (s _ _ ha)) fun i H x H' hi s y => ?_
  obtain ⟨rfl, hx⟩ := y
  obtain ⟨d, h1, h2⟩ := r.getV hx
  exact fun g s1 s2 => ⟨g, d, h1, PX.refl s2, h2.mono s1 d x⟩
theorem wlk_tup {a : Addr} {ds : List D} {vs : List V} (ha : SqT k.K f.F a vs) (r : RepL k f ds vs) : Wlk k f (Itt k.K a) ds := by
  unfold Wlk
  rw [← r.length]
  refine (walk_tup (K := k.K) (a := a) (xs := vs)).mono (fun H s => Same.seqT s ha) fun i H x H' hi s y => ?_
  obtain ⟨rfl, hx⟩ := y
  obtain ⟨d, h1, h2⟩ := r.getV hx
  exact fun g s1 s2 => ⟨g, d, h1, PX.refl s2, h2.mono s1 d x⟩
theorem wlk_scr {a : Addr} {ns : List Int} (ha : SqL k.K f.F a (ns.map V.int)) : Wlk k f (Itl k.K a) (ns.map .int) := by
  unfold Wlk
  rw [List.length_map, ← List.length_map (f := V.int)]
  refine (walk_list (K := k.K) (a := a) (xs := ns.map V.int)).mono (fun H s => s.seq ha) fun i H x H' hi s y => ?_
  obtain ⟨rfl, hx⟩ := y
  obtain ⟨d, h1, h2⟩ := (RepL.ints (k := k) (f := f).mpr rfl).getV hx
  exact fun g s1 s2 => ⟨g, d, h1, PX.refl s2, h2.mono s1 d x⟩
theorem rngD_length (lo : Int) (n : Nat) : (rngD lo n).length = n := by unfold rngD; simp
theorem rngD_at {lo : Int} {n i : Nat} (h : i < n) : (rngD lo n)[i]? = some (.int (lo + (i : Int))) := by unfold rngD; simp [h]
theorem wlk_rng {lo : Int} {n : Nat} : Wlk k f (Itr lo n) (rngD lo n) := by
  unfold Wlk
  rw [rngD_length]
  refine (walk_range (lo := lo) (n := n)).mono (fun _ _ => trivial) fun i H x H' hi s y => ?_
  obtain ⟨rfl, rfl⟩ := y
  exact fun g s1 s2 => ⟨g, _, rngD_at hi, PX.refl s2, rfl⟩
theorem enmD_length : ∀ (n : Nat) (ds : List D), (enmD n ds).length = ds.length
  | _, [] => rfl
  | n, d :: r => by rw [enmD, List.length_cons, enmD_length, List.length_cons]
theorem enmD_at : ∀ {n : Nat} {ds : List D} {i : Nat} {d : D}, ds[i]? = some d → (enmD n ds)[i]? = some (.tup [.int ((n + i : Nat) : Int), d])
  | _, [], _, _, h => by simp at h
  | n, e :: r, 0, d, h => by simp at h; subst h; rfl
  | n, e :: r, i + 1, d, h => by
    rw [enmD, List.getElem?_cons_succ, enmD_at (n := n + 1) (by simpa using h)]
    have : n + 1 + i = n + (i + 1) := by omega
    rw [this]
/-- each item in a new pair behind its place -/
theorem wlk_pair {J : It} {ds : List D} {vs : List V} {Gd : Hp → Prop} (w : L2.Walk J vs.length Gd (YPair (fun i => some (.int (i : Nat))) (fun i => vs[i]?))) (hg : ∀ H, Same f.F H → Gd H) (r : RepL k f ds vs) : Wlk k f J (enmD 0 ds) := by
  unfold Wlk
  rw [enmD_length, ← r.length]
  refine w.mono hg fun i H x H' hi s y => ?_
  obtain ⟨T, x1, x2, rfl, hT, rfl, e1, e2⟩ := y
  cases e1
  obtain ⟨d, h1, h2⟩ := r.getV e2
  refine fun g s1 s2 => ?_
  obtain ⟨px, rr⟩ := new_tup (k := k) (ds := [.int (i : Nat), d]) (vs := [.int (i : Nat), x2]) s2 hT (RepL.cons rfl (RepL.cons (h2.mono s1 d x2) RepL.nil))
  exact ⟨_, _, by rw [enmD_at h1, Nat.zero_add], px, rr⟩
end

section
variable {k : Kx} {W : XK} {G : Nat → Option D} {Φ : Nat → FnSem} {σ : L2.St} {H : Hp}
theorem drop_at {α : Type} {l : List α} {i : Nat} {d : α} (h : l[i]? = some d) : l.drop i = d :: l.drop (i + 1) := by
  obtain ⟨h1, h2⟩ := List.getElem?_eq_some_iff.mp h
  rw [List.drop_eq_getElem_cons h1, h2]
theorem AftS.ext {w w1 : Wd} {H1 : Hp} {D : Ends} {fl : Fl} {σ1 : L2.St} (s : Sp w H) (s1 : Sp w1 H1) (x : Ext w H w1 H1) (h : AftS k W w H σ D fl) : AftS k W w1 H1 σ1 D fl := by
  cases fl with
  | nx env S => exact fun σ' w' H' h1 h2 => h σ' w' H' h1 (x.trans s s1 h2)
  | rt d S => exact fun v σ' w' H' h1 h2 h3 => h v σ' w' H' h1 (x.trans s s1 h2) h3
  | ex e env S => exact fun c d σ' w' H' h1 h2 h3 => h c d σ' w' H' h1 (x.trans s s1 h2) h3
/-- a step ahead of a statement's end -/
theorem run_bndS {α β : Type} {R : Fz → α → β → Prop} {env : Env} {S : Sto} {w : Wd} {D : Ends} {m : Option (Re α)} {g : α → Sto → Option Fl} {fl : Fl} (at0 : At k σ env S w H) (e : bndS m env g = some fl) (h : AftS k W w H σ D fl) :
    ∃ r1, m = some r1 ∧ Aft k W R σ env w H (fun b H1 => ∃ S1 w1 a, At k σ env S1 w1 H1 ∧ Ext w H w1 H1 ∧ R w1.f a b ∧ ∃ fl, g a S1 = some fl ∧ AftS k W w1 H1 σ D fl) r1 := by
  cases m with
  | none => cases e
  | some r1 =>
    refine ⟨r1, rfl, ?_⟩
    cases r1 with
    | ok a S1 => exact fun b w1 H1 a1 x1 rb => ⟨S1, w1, a, a1, x1, rb, fl, e, h.ext at0.sep a1.sep x1⟩
    | ex x S1 =>
      have e : some (Fl.ex x env S1) = some fl := e
      cases e
      exact fun c d w' H' h1 h2 h3 => h c d σ w' H' h1 h2 h3
theorem rd_for {t : Tg} {src : E} {body : List S} {D : Ends} (h : rdS k W (evS G Φ (.for_ t src body)) D σ H) :
    tFor (rdI k W (evE G Φ src)) (gOf k.K t) (rdS k W (evSs G Φ body)) D σ H := by
  obtain ⟨env, S, w, a, fl, e, q⟩ := h
  rw [evS] at e
  obtain ⟨r1, e1, q1⟩ := run_bndS (R := fun f a (J : It) => ∃ ds, a = .lst ds ∧ Wlk k f J ds) a e q
  refine ⟨env, S, w, a, r1, e1, q1.imp fun J H1 ⟨S1, w1, d1, a1, x1, ⟨ds, ed, wk⟩, fl2, e2, q2⟩ => ?_⟩
  subst ed
  have e2 : forGo t (fun e s => evSs G Φ body e s) ds env S1 = some fl2 := e2
  refine for_it wk (fun i σ' H' => ∃ env' S' w', At k σ' env' S' w' H' ∧ Ext w1 H1 w' H' ∧ forGo t (fun e s => evSs G Φ body e s) (ds.drop i) env' S' = some fl2)
    ⟨env, S1, w1, a1, Ext.refl, e2⟩ (fun i σ' H' _ ⟨env', S', w', a', x', _⟩ => x'.le.ff.trans a'.sep.fh) (fun i x σ' H' H'' hi ⟨env', S', w', a', x', e'⟩ y => ?_) fun σ' H' ⟨env', S', w', a', x', e'⟩ => ?_
  · obtain ⟨g2, d, h1, px, r⟩ := y w'.f x'.le a'.sep.fh
    rw [drop_at h1, forGo] at e'
    obtain ⟨env2, e2, e'⟩ := Option.bind_eq_some_iff.mp e'
    have a2 : At k σ' env' S' ⟨g2, w'.O⟩ H'' := a'.px px
    have x2 := x'.trans a1.sep a'.sep (ext_px a'.sep px)
    refine g_at (w := ⟨g2, w'.O⟩) e2 a2 r fun σ3 a3 _ => ?_
    cases hb : evSs G Φ body env2 S' with
    | none => rw [hb] at e'; cases e'
    | some f =>
      rw [hb] at e'
      refine ⟨env2, S', _, a3, f, hb, ?_⟩
      cases f with
      | nx env3 S3 => exact fun σ4 w4 H4 a4 x4 => ⟨env3, S3, w4, a4, x2.trans a1.sep a3.sep x4, e'⟩
      | rt d2 S3 =>
        have e' : some (Fl.rt d2 S3) = some fl2 := e'
        cases e'
        exact fun v σ4 w4 H4 a4 x4 r4 => q2 v σ4 w4 H4 a4 (x2.trans a1.sep a3.sep x4) r4
      | ex xx env3 S3 =>
        have e' : some (Fl.ex xx env3 S3) = some fl2 := e'
        cases e'
        exact fun c d σ4 w4 H4 a4 x4 r4 => q2 c d σ4 w4 H4 a4 (x2.trans a1.sep a3.sep x4) r4
  · rw [List.drop_of_length_le (Nat.le_refl _), forGo] at e'
    cases e'
    exact q2 σ' w' H' a' x'

/-! ### comprehensions -/
theorem wipe_at (σ : L2.St) : ∀ (vs : List Nat) (j : Nat), valAt (wipe σ vs) j = if j ∈ vs then Option.none else valAt σ j
  | [], j => by simp [wipe]
  | v :: vs, j => by
    rw [wipe]
    by_cases hv : v < (wipe σ vs).length
    · rw [valAt_set _ _ _ _ hv, wipe_at σ vs j]
      by_cases e : v = j
      · subst e; simp
      · rw [if_neg e]
        by_cases h2 : j ∈ vs
        · rw [if_pos h2, if_pos (List.mem_cons_of_mem _ h2)]
        · rw [if_neg h2, if_neg (by simp [h2, Ne.symm e])]
    · rw [List.set_eq_of_length_le (by omega), wipe_at σ vs j]
      by_cases e : v = j
      · subst e
        have : valAt σ v = Option.none := by
          rw [wipe_length] at hv
          unfold valAt
          rw [List.getD_eq_getElem?_getD, List.getElem?_eq_none (by omega)]; rfl
        rw [this]; simp
      · by_cases h2 : j ∈ vs
        · rw [if_pos h2, if_pos (List.mem_cons_of_mem _ h2)]
        · rw [if_neg h2, if_neg (by simp [h2, Ne.symm e])]
theorem wipeE_length (env : Env) : ∀ vs : List Nat, (wipeE env vs).length = env.length
  | [] => rfl
  | v :: vs => by rw [wipeE, List.length_set, wipeE_length env vs]
theorem wipeE_sl (env : Env) : ∀ (vs : List Nat) {j : Nat} {d : D}, slotAt (wipeE env vs) j = some d → j ∉ vs ∧ slotAt env j = some d
  | [], j, d, h => ⟨by simp, h⟩
  | v :: vs, j, d, h => by
    rw [wipeE] at h
    by_cases hv : v < (wipeE env vs).length
    · rw [slotAt_set _ _ _ _ hv] at h
      by_cases e : v = j
      · rw [if_pos e] at h; cases h
      · rw [if_neg e] at h
        obtain ⟨h1, h2⟩ := wipeE_sl env vs h
        exact ⟨by simp [h1, Ne.symm e], h2⟩
    · rw [List.set_eq_of_length_le (by omega)] at h
      obtain ⟨h1, h2⟩ := wipeE_sl env vs h
      refine ⟨?_, h2⟩
      intro z
      rcases List.mem_cons.mp z with z | z
      · subst z
        rw [wipeE_length] at hv
        unfold slotAt at h2
        rw [List.getD_eq_getElem?_getD, List.getElem?_eq_none (by omega)] at h2
        cases h2
      · exact h1 z
theorem At.wipe {env : Env} {S : Sto} {w : Wd} (a : At k σ env S w H) (vs : List Nat) : At k (wipe σ vs) (wipeE env vs) S w H :=
  ⟨by rw [wipeE_length, wipe_length]; exact a.len, a.sep, a.tab, a.out, a.ce, fun j d h => by
    obtain ⟨h1, h2⟩ := wipeE_sl env vs h
    rw [wipe_at, if_neg h1]
    exact a.sl j d h2⟩
theorem wipe_eq {σ σ2 : L2.St} {t vs : List Nat} (hs : ∀ i ∈ t, i ∈ vs) (hl : σ2.length = (wipe σ vs).length) (h : ∀ j, j ∉ t → σ2[j]? = (wipe σ vs)[j]?) : wipe σ2 vs = wipe σ vs := by
  have gw : ∀ (τ : L2.St) (vs : List Nat) (j : Nat), (wipe τ vs)[j]? = if j ∈ vs then (if j < τ.length then some Option.none else Option.none) else τ[j]? := by
    intro τ vs
    induction vs with
    | nil => intro j; simp [wipe]
    | cons v r ih =>
      intro j
      rw [wipe, List.getElem?_set, ih j, wipe_length]
      by_cases e : v = j
      · subst e; simp
      · rw [if_neg e]
        by_cases h2 : j ∈ r
        · rw [if_pos h2, if_pos (List.mem_cons_of_mem _ h2)]
        · rw [if_neg h2, if_neg (by simp [h2, Ne.symm e])]
  apply List.ext_getElem?
  intro j
  rw [gw, gw]
  rw [wipe_length] at hl
  by_cases hj : j ∈ vs
  · rw [if_pos hj, if_pos hj, hl]
  · rw [if_neg hj, if_neg hj, h j fun z => hj (hs j z), gw, if_neg hj]
/-- H without the cell at D -/
def era (H : Hp) (D : Addr) : Hp := fun a => if a = D then Option.none else H a
theorem era_same {H : Hp} {D : Addr} : era H D D = Option.none := if_pos rfl
theorem era_ne {H : Hp} {D a : Addr} (h : a ≠ D) : era H D a = H a := if_neg h
theorem upd_era {H : Hp} {D : Addr} {o : HO} (h : H D = some o) : upd (era H D) D o = H := by
  funext a
  by_cases e : a = D
  · subst e; rw [upd_same, h]
  · rw [upd_ne e, era_ne e]
/-- the world stands where the object at p, which is none of its own, is another, or is not looked at -/
theorem At.off {env : Env} {S : Sto} {w : Wd} {H2 : Hp} {p : Addr} (a : At k σ env S w H) (h1 : w.f.F p = none) (h2 : ∀ i, w.O i p = none) (h : ∀ b, b ≠ p → H2 b = H b) : At k σ env S w H2 :=
  ⟨a.len, ⟨fun b o e => by rw [h b (fun z => by rw [z, h1] at e; cases e)]; exact a.sep.fh b o e, fun i b o e => by rw [h b (fun z => by rw [z, h2 i] at e; cases e)]; exact a.sep.oh i b o e, a.sep.fo, a.sep.oo⟩, a.tab, a.out, a.ce, a.sl⟩
/-- .. and an object that is none of its own stays so -/
theorem Ext.stay {w w' : Wd} {H' : Hp} {p : Addr} {o : HO} (x : Ext w H w' H') (h0 : H p = some o) (h1 : w.f.F p = none) (h2 : ∀ i, w.O i p = none) : H' p = some o ∧ w'.f.F p = none ∧ ∀ i, w'.O i p = none := by
  refine ⟨x.hh p o h0 h2, ?_, fun j => ?_⟩
  · cases z : w'.f.F p with
    | none => rfl
    | some u =>
      rcases x.nf p u z with ⟨u', z'⟩ | ⟨i', u', z'⟩ | z'
      · rw [h1] at z'; cases z'
      · rw [h2 i'] at z'; cases z'
      · rw [h0] at z'; cases z'
  · cases z : w'.O j p with
    | none => rfl
    | some u =>
      rcases x.no j p u z with ⟨i', u', z'⟩ | z'
      · rw [h2 i'] at z'; cases z'
      · rw [h0] at z'; cases z'
theorem rdF_lc {vs : List Nat} {t : Tg} {src c elt : E} {Q : VK} (hs : ∀ i ∈ tgNames t, i ∈ vs) (h : rdF k W (evE G Φ (.lc vs t src c elt)) σ H Q) :
    tLc (rdI k W (evE G Φ src)) (gOf k.K t) (rdT k (fun _ _ _ => False) (evE G Φ c)) (rd k (fun _ _ _ => False) (evE G Φ elt)) vs σ H Q := by
  obtain ⟨env, S, w, a, r, e, q⟩ := h
  rw [evE] at e
  cases m : evE G Φ src env S with
  | none => rw [m] at e; cases e
  | some r1 =>
    rw [m] at e
    refine ⟨env, S, w, a, r1, m, ?_⟩
    cases r1 with
    | ex x S1 => cases e; exact q
    | ok d1 S1 =>
      refine fun J w1 H1 a1 x1 ⟨ds, ed, wk⟩ => ?_
      subst ed
      have e : ((lcGo t (fun e s => evE G Φ c e s) (fun e s => evE G Φ elt e s) (wipeE env vs) ds S1).bind fun r => if r.1.length ≤ LIM then some (Re.ok (D.lst r.1) r.2) else none) = some r := e
      obtain ⟨⟨xs, S2⟩, e2, e3⟩ := Option.bind_eq_some_iff.mp e
      dsimp only at e3
      split at e3
      · rename_i hlim
        cases e3
        refine fun D hD => ?_
        have aw := a1.wipe vs
        have f1D := a1.sep.fh.free hD
        have o1D : ∀ i, w1.O i D = none := fun i => (a1.sep.oh i).free hD
        refine lc_it wk (fun i H' => ∃ S' w2 accD accV rest, At k (wipe σ vs) (wipeE env vs) S' w2 H' ∧ Ext w1 H1 w2 H' ∧ H' D = some (.lst accV) ∧ w2.f.F D = none ∧ (∀ j, w2.O j D = none) ∧
            RepL k w2.f accD accV ∧ lcGo t (fun e s => evE G Φ c e s) (fun e s => evE G Φ elt e s) (wipeE env vs) (ds.drop i) S' = some (rest, S2) ∧ accD ++ rest = xs)
          ⟨S1, w1, [], [], xs, aw.off f1D o1D fun b z => upd_ne z, Ext.px (w := w1) a1.sep (PX.newH a1.sep.fh hD), upd_same, f1D, o1D, RepL.nil, e2, rfl⟩
          (fun i H' _ ⟨_, w2, _, _, _, a2, x2, _⟩ => x2.le.ff.trans a2.sep.fh) (fun i x H' H'' hi hp y => ?_) fun H' hp => ?_
        · obtain ⟨S', w2, accD, accV, rest, a2, x2, hDl, fD, oD, rA, e3, e4⟩ := hp
          obtain ⟨g2, d, h1, px, rx⟩ := y w2.f x2.le a2.sep.fh
          rw [drop_at h1, lcGo] at e3
          obtain ⟨env3, e5, e3⟩ := Option.bind_eq_some_iff.mp e3
          have a2' : At k (wipe σ vs) (wipeE env vs) S' ⟨g2, w2.O⟩ H'' := a2.px px
          have xp := ext_px a2.sep px
          have xa := x2.trans a1.sep a2.sep xp
          obtain ⟨hD2, fD2, oD2⟩ := xp.stay hDl fD oD
          -- a turn's end
          have fin : ∀ {S4 : Sto} {w4 : Wd} {H4 : Hp} {aD : List Sf.D} {aV : List V} {rr : List Sf.D} {σ4 : L2.St} {env4 : Env}, At k σ4 env4 S4 w4 H4 → Ext ⟨g2, w2.O⟩ H'' w4 H4 → RepL k w4.f aD aV →
              lcGo t (fun e s => evE G Φ c e s) (fun e s => evE G Φ elt e s) (wipeE env vs) (ds.drop (i + 1)) S4 = some (rr, S2) → aD ++ rr = xs →
              ∃ S' w2 accD accV rest, At k (wipe σ vs) (wipeE env vs) S' w2 (upd H4 D (.lst aV)) ∧ Ext w1 H1 w2 (upd H4 D (.lst aV)) ∧ (upd H4 D (.lst aV)) D = some (.lst accV) ∧ w2.f.F D = none ∧ (∀ j, w2.O j D = none) ∧
                RepL k w2.f accD accV ∧ lcGo t (fun e s => evE G Φ c e s) (fun e s => evE G Φ elt e s) (wipeE env vs) (ds.drop (i + 1)) S' = some (rest, S2) ∧ accD ++ rest = xs := fun {S4 w4 H4 aD aV rr σ4 env4} a4 x4 ra el ex => by
            obtain ⟨k1, k2, k3⟩ := x4.stay hD2 fD2 oD2
            have aB : At k (L2.wipe σ vs) (wipeE env vs) S4 w4 H4 := a2'.over a4 x4.le
            refine ⟨S4, w4, aD, aV, rr, aB.off k2 k3 fun b z => upd_ne z, ?_, upd_same, k2, k3, ra, el, ex⟩
            have xb := xa.trans a1.sep a2'.sep x4
            exact ⟨xb.le, fun b o z1 z2 => by rw [upd_ne (fun z => by rw [z, hD] at z1; cases z1)]; exact xb.hh b o z1 z2, xb.nf, xb.no⟩
          refine g_at (w := ⟨g2, w2.O⟩) e5 a2' rx fun σ3 a3 hσ => ?_
          refine ⟨wipe_eq hs hσ.1 hσ.2, ?_⟩
          cases hc : evE G Φ c env3 S' with
          | none => rw [hc] at e3; cases e3
          | some r4 =>
            rw [hc] at e3
            cases r4 with
            | ex _ _ => cases e3
            | ok d4 S4 =>
              cases d4 with
              | bl b =>
                refine ⟨env3, S', _, a3, .ok b S4, by dsimp only; rw [hc]; rfl, fun b' w4 H4 a4 x4 eb => ?_⟩
                subst eb
                cases b with
                | true =>
                  rw [if_pos rfl]
                  cases he : evE G Φ elt env3 S4 with
                  | none => dsimp only at e3; rw [he] at e3; cases e3
                  | some r5 =>
                    dsimp only at e3
                    rw [he] at e3
                    cases r5 with
                    | ex _ _ => cases e3
                    | ok d5 S5 =>
                      obtain ⟨⟨rr, Sr⟩, e8, e9⟩ := Option.map_eq_some_iff.mp e3
                      cases e9
                      refine ⟨env3, S4, w4, a4, _, he, fun z w5 H5 a5 x5 r5 => ?_⟩
                      have x25 := x4.trans a3.sep a4.sep x5
                      obtain ⟨k1, _, _⟩ := x25.stay hD2 fD2 oD2
                      refine ⟨accV, k1, ?_, ?_⟩
                      · have := congrArg List.length e4
                        rw [List.length_append, List.length_cons] at this
                        rw [rA.length]
                        have hL : LIM ≤ sizeLine := by rw [sizeLine_eq]; decide
                        omega
                      · exact fin (aD := accD ++ [d5]) (aV := accV ++ [z]) a5 x25 (RepL.append (RepL.mono (px.le.trans x25.le) _ _ rA) (RepL.cons r5 RepL.nil)) e8 (by rw [List.append_assoc]; exact e4)
                | false =>
                  rw [if_neg Bool.false_ne_true]
                  obtain ⟨k1, _, _⟩ := x4.stay hD2 fD2 oD2
                  have := fin (aD := accD) (aV := accV) a4 x4 (RepL.mono (px.le.trans x4.le) _ _ rA) e3 e4
                  have hu : upd H4 D (.lst accV) = H4 := by
                    funext b
                    by_cases z : b = D
                    · subst z; rw [upd_same, k1]
                    · rw [upd_ne z]
                  rw [hu] at this
                  exact this
              | _ => cases e3
        · obtain ⟨S', w2, accD, accV, rest, a2, x2, hDl, fD, oD, rA, e3, e4⟩ := hp
          rw [List.drop_of_length_le (Nat.le_refl _), lcGo] at e3
          cases e3
          rw [List.append_nil] at e4
          subst e4
          have hb := upd_era hDl
          rw [← hb]
          have aB := (a1.over a2 x2.le).off (H2 := era H' D) fD oD fun b z => era_ne z
          refine q D _ w2 (era H' D) aB (x1.trans a.sep a1.sep ⟨x2.le, fun b o z1 z2 => by rw [era_ne (fun z => by rw [z, hD] at z1; cases z1)]; exact x2.hh b o z1 z2, x2.nf, x2.no⟩) era_same ⟨accV, rA, rfl⟩
      · cases e3

/-! ### calls -/
theorem At.at0 {env : Env} {S : Sto} {w : Wd} (a : At k σ env S w H) : At0 k S w H := ⟨rfl, a.sep, a.tab, a.out, a.ce, fun i d h => by cases i <;> cases h⟩
/-- a def's promise at a call -/
theorem sp_call {φ : FnSem} {n : Nat} {env : Env} {S : Sto} {w : Wd} {ds : List D} {vs : List V} {Q : VK} {r : Re D} (a : At k σ env S w H) (rl : RepL k w.f ds vs) (hn : ds.length = n) (e : φ ds S = some r) (q : Aft k W (Rep k) σ env w H Q r) : spOf k φ n vs H Q W := by
  refine ⟨S, w, ds, a.at0, rl, hn, by rw [rl.length]; exact hn, r, e, ?_⟩
  cases r with
  | ok d S' => exact fun v w' H' a' x' rv => q v w' H' (a.over a' x'.le) x' rv
  | ex x S' => exact fun c d w' H' a' x' ro => q c d w' H' (a.over a' x'.le) x' ro
end
end Sf

/-! Sf.Main: the expressions' soundness. -/
namespace Sf
open PySem PySem.Spec PyProof.Rows L2

section
variable {X : Cx} {k : Kx} {W : XK} {C : SC} {G : Nat → Option D} {Φ : Nat → FnSem}
abbrev W0 : XK := fun _ _ _ => False
/-- in a comprehension's block -/
theorem Good.blk (g : Good X k W C G Φ) (sc : Scope) (hk : sc.kind = .function) (s : Shared) (H : Hp) (c : Addr) (cl : List (Str × Addr)) (fp : List Addr) : Good (X.blk s H sc (compEnvC sc cl c X.env) fp) k W0 (blkSC C sc) G Φ where
  kk := g.kk
  kp := g.kp
  kw := g.kw
  nd := g.nd
  N := g.N
  names := by
    show (relabel sc X.env).names = _
    show (sc.names.map _) = _
    unfold blkSC relN
    refine List.map_congr_left fun y _ => ?_
    have e1 : (X.env.scope.kind == ScopeKind.function) = true := by rw [g.kind]; rfl
    have e2 : X.env.kindOf y.1 = C.names.lookup y.1 := by unfold PySem.Env.kindOf; rw [g.names]
    dsimp only
    rw [e1, e2]
  kind := hk
  calm := g.calm
  cells := fun z => by cases z
  pass := PassesOwn.never
  tk := takes0
  units := g.units
  fn := fun j c h => ⟨(g.fn j c h).ex⟩
  glo := g.glo
  blt := g.blt
theorem bi_boot (b : Bi) : bootBuiltins (biName b) = some (biVal b) := by cases b <;> decide +kernel
theorem ki_boot (q : Ki) : bootBuiltins (kiName q) = some (.type (kiStr q)) := by cases q <;> decide +kernel
theorem bi_nm (b : Bi) : biName b ≠ "__name__" ∧ (biName b == ("__debug__" : Str)) = false := by cases b <;> exact ⟨by decide +kernel, by decide +kernel⟩
theorem ki_nm (b : Ki) : kiName b ≠ "__name__" ∧ (kiName b == ("__debug__" : Str)) = false := by cases b <;> exact ⟨by decide +kernel, by decide +kernel⟩
theorem few_of {cpos : Pos} {env : PySem.Env} {e : Expr} {es : List Expr} (h1 : noStar e = true) (h2 : noStars es = true) (h3 : es.length < 20) :
    ((backTo cpos (starEach (e :: es) env)).all (fun x => !x.1) && (backToKw cpos (keywordEach [] env)).all (fun x => x.1.isSome)
      && decide ((e :: es).length + ([] : List Keyword).length + (if ([] : List Keyword).isEmpty then 0 else 1) < 30)) = true := by
  have a1 : (backTo cpos (starEach (e :: es) env)).all (fun x => !x.1) = true := by
    have := star_any (pos := cpos) (env := env) (es := e :: es) (Bool.and_eq_true_iff.mpr ⟨h1, h2⟩)
    rw [List.all_eq_not_any_not]
    simpa using this
  rw [a1]
  simp [keywordEach, backToKw]
  omega
theorem pe_bi {b : Bi} {e : Expr} {es : List Expr} {t : TA} {p pos : Pos} (hK : X.K = k.K) (hc : X.calm = true) (hg : Gl X (biName b)) (hm : X.mg (biName b) = none) (ha : PA X (e :: es) t) (h1 : noStar e = true) (h2 : noStars es = true) :
    PE X (.Call (.Name (biName b) p) (e :: es) [] pos) (tCB (PRn k (evBi b)) t) := by
  have hv := bi_boot b
  obtain ⟨n1, n2⟩ := bi_nm b
  have hb := biOk (X := X) (k := k) b hK hc
  cases b <;> first
    | exact pe_callB hb hg hm hv ha n1 n2 (star_cons h1) (star_any h2)
    | exact pe_callTy hb hg hm hv ha n1 n2 (star_cons h1) (star_any h2)
theorem PE.vac {X : Cx} {e : Expr} {t : TE} (h : ∀ σ H Q, t σ H Q → False) : PE X e t := ⟨fun pins s σ H Q I q => (h _ _ _ q).elim⟩
theorem PW.vac {X : Cx} {e : Expr} {t : TT} (h : ∀ σ H Q, t σ H Q → False) : PW X e t := ⟨fun w pins s σ H Q I q => (h _ _ _ q).elim⟩
theorem chkEs_star : ∀ {es : List E} {xs : List Expr}, chkEs C es xs = true → noStars xs = true
  | [], [], _ => rfl
  | [], _ :: _, h => by unfold chkEs at h; cases h
  | _ :: _, [], h => by unfold chkEs at h; cases h
  | e :: es, x :: xs, h => by
    unfold chkEs at h
    have h := Bool.and_eq_true_iff.mp h
    exact Bool.and_eq_true_iff.mpr ⟨(chk_plain C e _ h.1).1, chkEs_star h.2⟩
theorem chkEs_len : ∀ {es : List E} {xs : List Expr}, chkEs C es xs = true → xs.length = es.length
  | [], [], _ => rfl
  | [], _ :: _, h => by unfold chkEs at h; cases h
  | _ :: _, [], h => by unfold chkEs at h; cases h
  | e :: es, x :: xs, h => by
    unfold chkEs at h
    have h := Bool.and_eq_true_iff.mp h
    simp [chkEs_len h.2]
theorem evL_len : ∀ {es : List E} {env : Env} {S S' : Sto} {ds : List D}, evL G Φ es env S = some (.ok ds S') → ds.length = es.length
  | [], env, S, S', ds, h => by rw [evL] at h; cases h; rfl
  | e :: es, env, S, S', ds, h => by
    rw [evL] at h
    cases m : evE G Φ e env S with
    | none => rw [m] at h; cases h
    | some r =>
      rw [m] at h
      cases r with
      | ex x S => cases h
      | ok d S1 =>
        rw [bnd_ok] at h
        cases m2 : evL G Φ es env S1 with
        | none => rw [m2] at h; cases h
        | some r =>
          rw [m2] at h
          cases r with
          | ex x S => cases h
          | ok xs S2 => cases h; simp [evL_len m2]
/-- a value that is a truth, as a test -/
theorem pt_of {ev : Env → Sto → Option (Re D)} {e : Expr} (h : PE X e (rd k W ev)) (hp : plainT e = true) : PT X e (rdT k W ev) := PT.weak (pt_val h (plain_test hp)) fun σ H Q q => rd_T q
end

section
variable (G : Nat → Option D) (Φ : Nat → FnSem) (k : Kx)
/-- a term's text does what the term reckons: as a value, as a test, as what is walked; as a new object -/
def SE (c : E) : Prop := ∀ (X : Cx) (W : XK) (C : SC), Good X k W C G Φ → ∀ e, chkE C c e = true → PE X e (rd k W (evE G Φ c))
def ST (c : E) : Prop := ∀ (X : Cx) (W : XK) (C : SC), Good X k W C G Φ → ∀ e, chkE C c e = true → noIfe c = true → PT X e (rdT k W (evE G Φ c))
def SI (c : E) : Prop := ∀ (X : Cx) (W : XK) (C : SC), Good X k W C G Φ → ∀ tg e, isSrc c = true → chkSrc C c e = true → enTg c tg = true → PI X tg e (rdI k W (evE G Φ c))
variable {G Φ k}
variable {σ : L2.St} {H : Hp} {Q : VK} {W : XK}
theorem s_var (i : Nat) : SE G Φ k (.var i) := fun X W C g e h => PE.weak (nm_pe g (by unfold chkE at h; exact h)) fun σ H Q q => by
  obtain ⟨env, S, w, a, r, e, q⟩ := q
  rw [evE] at e
  obtain ⟨d, e1, rfl⟩ := Option.map_eq_some_iff.mp e
  obtain ⟨v, hv, rv⟩ := a.val e1
  exact ⟨v, hv, q v w H a Ext.refl rv⟩
theorem s_int (i : Int) : SE G Φ k (.int i) := fun X W C g e h => by
  unfold chkE at h
  split at h
  · have := of_decide_eq_true h; subst this
    exact PE.weak pe_int fun σ H Q q => rd_c (d := .int i) (fun f => rfl) (rd_of q fun env S => by rw [evE])
  · cases h
theorem s_bl (b : Bool) : SE G Φ k (.bl b) := fun X W C g e h => by
  unfold chkE at h
  split at h
  · have := eq_of_beq h; subst this
    exact PE.weak pe_bl fun σ H Q q => rd_c (d := .bl b) (fun f => rfl) (rd_of q fun env S => by rw [evE])
  · cases h
theorem s_non : SE G Φ k .non := fun X W C g e h => by
  unfold chkE isNone at h
  split at h
  · exact PE.weak pe_non fun σ H Q q => rd_c (d := .non) (fun f => rfl) (rd_of q fun env S => by rw [evE])
  · cases h
theorem s_str (b : Str) : SE G Φ k (.str b) := fun X W C g e h => by
  unfold chkE at h
  split at h
  · have := of_decide_eq_true h; subst this
    exact PE.weak pe_str fun σ H Q q => rd_c (d := .str b) (fun f => rfl) (rd_of q fun env S => by rw [evE])
  · cases h
theorem s_glo (j : Nat) : SE G Φ k (.glo j) := fun X W C g e h => by
  unfold chkE at h
  split at h
  · simp only [Bool.and_eq_true, decide_eq_true_eq] at h
    obtain ⟨⟨h1, h2⟩, h3⟩ := h
    obtain ⟨d1, _, _⟩ := noDbg_of h3
    cases hd : G j with
    | none => exact PE.vac fun σ H Q ⟨env, S, w, a, r, e, q⟩ => by rw [evE, hd] at e; cases e
    | some d =>
      obtain ⟨u, v, m, r, rp⟩ := g.glo j _ d h1 hd
      exact PE.weak (pe_glob (g.gl h2) m r d1) fun σ H Q q => rd_c (k := k) (W := W) (d := d) rp (rd_of q fun env S => by rw [evE, hd]; rfl)
  · cases h
theorem s_op {o : Bop} {a b : E} (ha : SE G Φ k a) (hb : SE G Φ k b) : SE G Φ k (.op o a b) := fun X W C g e h => by
  unfold chkE at h
  split at h
  · simp only [Bool.and_eq_true, decide_eq_true_eq] at h
    obtain ⟨⟨rfl, h1⟩, h2⟩ := h
    exact PE.weak (pe_op (opOk o g.kk) (ha X W C g _ h1) (hb X W C g _ h2)) fun σ H Q q => rd_op (rd_of q fun env S => by rw [evE])
  · cases h
theorem s_neg {a : E} (ha : SE G Φ k a) : SE G Φ k (.neg a) := fun X W C g e h => by
  unfold chkE at h
  split at h
  · refine PE.weak (pe_un un_neg (ha X W C g _ h)) fun σ H Q q => ?_
    obtain ⟨env, S, w, a, r, e, q⟩ := q
    rw [evE] at e
    obtain ⟨r1, e1, q1⟩ := run_bnd (R := Rep k) a e q
    refine ⟨env, S, w, a, r1, e1, q1.imp fun x H1 ⟨S1, w1, d1, a1, x1, rx, r2, e2, q2⟩ => ?_⟩
    obtain ⟨d, e3, q3⟩ := run_lift e2 q2
    obtain ⟨i, e4, rfl⟩ := Option.map_eq_some_iff.mp e3
    cases d1 with
    | int j => cases e4; exact ⟨_, rx, q3 _ w1 H1 a1 Ext.refl rfl⟩
    | _ => cases e4
  · cases h
theorem cmp_chk {C : SC} {o : Cop} {a b : E} {e : Expr} (h : chkE C (.cmp o a b) e = true) : ∃ x y p, e = .Compare x [copOf o] [y] p ∧ chkE C a x = true ∧ chkE C b y = true := by
  unfold chkE at h
  split at h
  · simp only [Bool.and_eq_true, decide_eq_true_eq] at h
    obtain ⟨⟨rfl, h1⟩, h2⟩ := h
    exact ⟨_, _, _, rfl, h1, h2⟩
  · cases h
theorem rd_cmp {o : Cop} {a b : E} (q : rd k W (evE G Φ (.cmp o a b)) σ H Q) : tOp (PR2 k fun a b => (evCmp o a b).map D.bl) (rd k W (evE G Φ a)) (rd k W (evE G Φ b)) σ H Q :=
  rd_op (sem := fun a b => (evCmp o a b).map D.bl) (rd_of q fun env S => by rw [evE])
theorem s_cmp {o : Cop} {a b : E} (ha : SE G Φ k a) (hb : SE G Φ k b) : SE G Φ k (.cmp o a b) := fun X W C g e h => by
  obtain ⟨x, y, p, rfl, h1, h2⟩ := cmp_chk h
  exact PE.weak (pe_cmpR (cmpOk o g.kk (by have := g.units; omega)) (ha X W C g _ h1) (hb X W C g _ h2) (marks_none (chk_plain C b _ h2).2.1)) fun σ H Q q => rd_cmp q
theorem t_cmp {o : Cop} {a b : E} (ha : SE G Φ k a) (hb : SE G Φ k b) : ST G Φ k (.cmp o a b) := fun X W C g e h _ => by
  obtain ⟨x, y, p, rfl, h1, h2⟩ := cmp_chk h
  exact PT.weak (pt_cmpR (cmpOk o g.kk (by have := g.units; omega)) (ha X W C g _ h1) (hb X W C g _ h2) (marks_none (chk_plain C b _ h2).2.1)) fun σ H Q q => rd_cmp (rd_T q)
theorem cmp2_chk {C : SC} {o o' : Cop} {a b c : E} {e : Expr} (h : chkE C (.cmp2 o o' a b c) e = true) : ∃ x y z p, e = .Compare x [copOf o, copOf o'] [y, z] p ∧ chkE C a x = true ∧ chkE C b y = true ∧ chkE C c z = true := by
  unfold chkE at h
  split at h
  · simp only [Bool.and_eq_true, decide_eq_true_eq] at h
    obtain ⟨⟨⟨⟨rfl, rfl⟩, h1⟩, h2⟩, h3⟩ := h
    exact ⟨_, _, _, _, rfl, h1, h2, h3⟩
  · cases h
theorem rd_cmp2 {o o' : Cop} {a b c : E} (q : rd k W (evE G Φ (.cmp2 o o' a b c)) σ H Q) :
    tChain (PR2 k fun a b => (evCmp o a b).map D.bl) (PR2 k fun a b => (evCmp o' a b).map D.bl) (rd k W (evE G Φ a)) (rd k W (evE G Φ b)) (rd k W (evE G Φ c)) σ H Q := by
  obtain ⟨env, S, w, a, r, e, q⟩ := q
  rw [evE] at e
  obtain ⟨r1, e1, q1⟩ := run_bnd (R := Rep k) a e q
  refine ⟨env, S, w, a, r1, e1, q1.imp fun x H1 ⟨S1, w1, d1, a1, x1, rx, r2, e2, q2⟩ => ?_⟩
  obtain ⟨r3, e3, q3⟩ := run_bnd (R := Rep k) a1 e2 q2
  refine ⟨env, S1, w1, a1, r3, e3, q3.imp fun y H2 ⟨S2, w2, d2, a2, x2, ry, r4, e4, q4⟩ => ?_⟩
  have rx2 := rx.mono x2.le d1 x
  cases m : evCmp o (vw S2 d1) (vw S2 d2) with
  | none => rw [m] at e4; cases e4
  | some b =>
    rw [m] at e4
    refine ⟨w2.f, _, _, .bl b, a2.sep.fh, vw_at a2 rx2, vw_at a2 ry, by dsimp only; rw [m]; rfl, fun v g' H' px rv => ⟨b, rv, ?_⟩⟩
    have a3 := a2.px px
    have x3 := ext_px a2.sep px
    cases b with
    | false =>
      cases e4
      rw [if_neg Bool.false_ne_true]
      exact q4 _ _ _ a3 x3 rfl
    | true =>
      rw [if_pos rfl]
      have q5 := q4.ext a2.sep a3.sep x3
      obtain ⟨r6, e6, q6⟩ := run_bnd (R := Rep k) a3 e4 q5
      refine ⟨env, S2, _, a3, r6, e6, q6.imp fun z H4 ⟨S4, w4, d4, a4, x4, rz, r7, e7, q7⟩ => ?_⟩
      obtain ⟨d, e8, q8⟩ := run_lift e7 q7
      exact ⟨w4.f, _, _, d, a4.sep.fh, vw_at a4 ((ry.mono px.le d2 y).mono x4.le d2 y), vw_at a4 rz, e8, fun v g'' H'' px4 r8 => q8 v ⟨g'', w4.O⟩ H'' (a4.px px4) (ext_px a4.sep px4) r8⟩
theorem s_cmp2 {o o' : Cop} {a b c : E} (ha : SE G Φ k a) (hb : SE G Φ k b) (hc : SE G Φ k c) : SE G Φ k (.cmp2 o o' a b c) := fun X W C g e h => by
  obtain ⟨x, y, z, p, rfl, h1, h2, h3⟩ := cmp2_chk h
  have hu : X.A.units + 64 < cLine := by have := g.units; omega
  exact PE.weak (pe_chain (cmpOk o g.kk hu) (cmpOk o' g.kk hu) (ha X W C g _ h1) (hb X W C g _ h2) (hc X W C g _ h3) (marks_none (chk_plain C c _ h3).2.1)) fun σ H Q q => rd_cmp2 q
theorem t_cmp2 {o o' : Cop} {a b c : E} (ha : SE G Φ k a) (hb : SE G Φ k b) (hc : SE G Φ k c) : ST G Φ k (.cmp2 o o' a b c) := fun X W C g e h _ => by
  obtain ⟨x, y, z, p, rfl, h1, h2, h3⟩ := cmp2_chk h
  have hu : X.A.units + 64 < cLine := by have := g.units; omega
  exact PT.weak (pt_chain (cmpOk o g.kk hu) (cmpOk o' g.kk hu) (ha X W C g _ h1) (hb X W C g _ h2) (hc X W C g _ h3) (marks_none (chk_plain C c _ h3).2.1)) fun σ H Q q => rd_cmp2 (rd_T q)
theorem isN_chk {C : SC} {neg : Bool} {a : E} {e : Expr} (h : chkE C (.isN neg a) e = true) : ∃ x k p p', e = .Compare x [if neg then .IsNot else .Is] [.Constant .none k p'] p ∧ chkE C a x = true := by
  unfold chkE at h
  split at h
  · rename_i x p y pos
    simp only [Bool.and_eq_true] at h
    obtain ⟨⟨h1, h2⟩, h3⟩ := h
    unfold isNone at h2
    split at h2
    · split at h1
      · have : neg = false := by simpa using h1
        subst this
        exact ⟨_, _, _, _, rfl, h3⟩
      · have : neg = true := h1
        subst this
        exact ⟨_, _, _, _, rfl, h3⟩
      · cases h1
    · cases h2
  · cases h
theorem isnon_rep {f : Fz} {d : D} {v : V} (r : Rep k f d v) : decide (v = V.non) = isNonD d := by
  cases d with
  | non => cases r; rfl
  | bl b => cases r; rfl
  | int b => cases r; rfl
  | str b => cases r; rfl
  | tup ds => obtain ⟨a, vs, rfl, _⟩ := rep_tup.mp r; rfl
  | lst ds => obtain ⟨a, vs, rfl, _⟩ := rep_lst.mp r; rfl
  | scr ds => obtain ⟨a, rfl, _⟩ := rep_scr.mp r; rfl
  | dct t ks ds => obtain ⟨a, vs, o, rfl, _⟩ := rep_dct.mp r; rfl
  | ref n => obtain ⟨a, _, rfl⟩ := rep_ref.mp r; rfl
theorem rd_isN {neg : Bool} {a : E} {r : R2} (hr : ∀ x H Q, Q (.bl (xor neg (decide (x = V.non)))) H → r x .non H Q) (q : rd k W (evE G Φ (.isN neg a)) σ H Q) : tOp r (rd k W (evE G Φ a)) (tC .non) σ H Q := by
  obtain ⟨env, S, w, a, r0, e, q⟩ := q
  rw [evE] at e
  obtain ⟨r1, e1, q1⟩ := run_bnd (R := Rep k) a e q
  refine ⟨env, S, w, a, r1, e1, q1.imp fun x H1 ⟨S1, w1, d1, a1, x1, rx, r2, e2, q2⟩ => hr _ _ _ ?_⟩
  cases e2
  rw [isnon_rep rx]
  exact q2 _ w1 H1 a1 Ext.refl rfl
theorem s_isN {neg : Bool} {a : E} (ha : SE G Φ k a) : SE G Φ k (.isN neg a) := fun X W C g e h => by
  obtain ⟨x, k', p, p', rfl, h3⟩ := isN_chk h
  cases neg with
  | false => exact PE.weak (pe_cmpR op_isN (ha X W C g _ h3) pe_non rfl) fun σ H Q q => rd_isN (neg := false) (fun x H Q q => ⟨rfl, by simpa using q⟩) q
  | true => exact PE.weak (pe_cmpR op_notN (ha X W C g _ h3) pe_non rfl) fun σ H Q q => rd_isN (neg := true) (fun x H Q q => ⟨rfl, by simpa using q⟩) q
theorem t_isN {neg : Bool} {a : E} (ha : SE G Φ k a) : ST G Φ k (.isN neg a) := fun X W C g e h _ => by
  obtain ⟨x, k', p, p', rfl, h3⟩ := isN_chk h
  cases neg with
  | false => exact PT.weak (pt_cmpR op_isN (ha X W C g _ h3) pe_non rfl) fun σ H Q q => rd_isN (neg := false) (fun x H Q q => ⟨rfl, by simpa using q⟩) (rd_T q)
  | true => exact PT.weak (pt_cmpR op_notN (ha X W C g _ h3) pe_non rfl) fun σ H Q q => rd_isN (neg := true) (fun x H Q q => ⟨rfl, by simpa using q⟩) (rd_T q)
/-! ### and, or -/
theorem evB_one {and : Bool} {e : E} {env : Env} {S : Sto} : evB G Φ and [e] env S = evE G Φ e env S := by rw [evB]
theorem evB_more {and : Bool} {e e2 : E} {es : List E} {env : Env} {S : Sto} : evB G Φ and (e :: e2 :: es) env S = bnd (evE G Φ e env S) fun x S => match x with | .bl b => if b = and then evB G Φ and (e2 :: es) env S else some (.ok (.bl b) S) | _ => none := by rw [evB] <;> rfl
theorem toB_more {and : Bool} {e e2 : E} {es : List E} {env : Env} {S : Sto} : toB (evB G Φ and (e :: e2 :: es) env S) = bnd (toB (evE G Φ e env S)) fun b S => if b = and then toB (evB G Φ and (e2 :: es) env S) else some (.ok b S) := by
  rw [evB_more]
  cases evE G Φ e env S with
  | none => rfl
  | some r =>
    cases r with
    | ex x S => rfl
    | ok d S1 =>
      cases d with
      | bl b =>
        show toB (if b = and then evB G Φ and (e2 :: es) env S1 else some (.ok (.bl b) S1)) = (if b = and then _ else _)
        split <;> rfl
      | _ => rfl
theorem rd_and {e e2 : E} {es : List E} (q : rd k W (evB G Φ true (e :: e2 :: es)) σ H Q) : tAndV (rd k W (evE G Φ e)) (rd k W (evB G Φ true (e2 :: es))) σ H Q := by
  obtain ⟨env, S, w, a, r, e0, q⟩ := q
  rw [evB_more] at e0
  obtain ⟨r1, e1, q1⟩ := run_bnd (R := Rep k) a e0 q
  refine ⟨env, S, w, a, r1, e1, q1.imp fun x H1 ⟨S1, w1, d1, a1, x1, rx, r2, e2, q2⟩ => ?_⟩
  cases d1 with
  | bl b =>
    refine ⟨b, rx, ?_⟩
    cases b with
    | true => rw [if_pos rfl]; exact ⟨env, S1, w1, a1, r2, e2, q2⟩
    | false => rw [if_neg Bool.false_ne_true]; cases e2; exact q2 _ w1 H1 a1 Ext.refl rfl
  | _ => cases e2
theorem rd_or {e e2 : E} {es : List E} (q : rd k W (evB G Φ false (e :: e2 :: es)) σ H Q) : tOrV (rd k W (evE G Φ e)) (rd k W (evB G Φ false (e2 :: es))) σ H Q := by
  obtain ⟨env, S, w, a, r, e0, q⟩ := q
  rw [evB_more] at e0
  obtain ⟨r1, e1, q1⟩ := run_bnd (R := Rep k) a e0 q
  refine ⟨env, S, w, a, r1, e1, q1.imp fun x H1 ⟨S1, w1, d1, a1, x1, rx, r2, e2, q2⟩ => ?_⟩
  cases d1 with
  | bl b =>
    refine ⟨b, rx, ?_⟩
    cases b with
    | true => rw [if_pos rfl]; cases e2; exact q2 _ w1 H1 a1 Ext.refl rfl
    | false => rw [if_neg Bool.false_ne_true]; exact ⟨env, S1, w1, a1, r2, e2, q2⟩
  | _ => cases e2
theorem rdT_and {e e2 : E} {es : List E} {Q : Bool → Hp → Prop} (q : rdT k W (evB G Φ true (e :: e2 :: es)) σ H Q) : tAnd (rdT k W (evE G Φ e)) (rdT k W (evB G Φ true (e2 :: es))) σ H Q := by
  obtain ⟨env, S, w, a, r, e0, q⟩ := q
  dsimp only at e0
  rw [toB_more] at e0
  obtain ⟨r1, e1, q1⟩ := run_bnd (R := fun _ (a b : Bool) => a = b) a e0 q
  refine ⟨env, S, w, a, r1, e1, q1.imp fun x H1 ⟨S1, w1, d1, a1, x1, rx, r2, e2, q2⟩ => ?_⟩
  subst rx
  cases d1 with
  | true => rw [if_pos rfl]; exact ⟨env, S1, w1, a1, r2, e2, q2⟩
  | false => rw [if_neg Bool.false_ne_true]; cases e2; exact q2 _ w1 H1 a1 Ext.refl rfl
theorem rdT_or {e e2 : E} {es : List E} {Q : Bool → Hp → Prop} (q : rdT k W (evB G Φ false (e :: e2 :: es)) σ H Q) : tOr (rdT k W (evE G Φ e)) (rdT k W (evB G Φ false (e2 :: es))) σ H Q := by
  obtain ⟨env, S, w, a, r, e0, q⟩ := q
  dsimp only at e0
  rw [toB_more] at e0
  obtain ⟨r1, e1, q1⟩ := run_bnd (R := fun _ (a b : Bool) => a = b) a e0 q
  refine ⟨env, S, w, a, r1, e1, q1.imp fun x H1 ⟨S1, w1, d1, a1, x1, rx, r2, e2, q2⟩ => ?_⟩
  subst rx
  cases d1 with
  | true => rw [if_pos rfl]; cases e2; exact q2 _ w1 H1 a1 Ext.refl rfl
  | false => rw [if_neg Bool.false_ne_true]; exact ⟨env, S1, w1, a1, r2, e2, q2⟩
theorem s_bb {X : Cx} {C : SC} (g : Good X k W C G Φ) {pos : Pos} (and : Bool) : ∀ (es : List E), (∀ c ∈ es, SE G Φ k c) → ∀ xs, chkEs C es xs = true → PE X (.BoolOp (if and then .And else .Or) xs pos) (rd k W (evB G Φ and es))
  | [], _, xs, h => PE.vac fun σ H Q ⟨env, S, w, a, r, e, q⟩ => by rw [evB] at e; cases e
  | [c], hs, xs, h => by
    unfold chkEs at h
    split at h
    · obtain ⟨h1, h2⟩ := Bool.and_eq_true_iff.mp h
      unfold chkEs at h2
      rename_i x r
      cases r with
      | nil => exact PE.weak (pe_one (hs c List.mem_cons_self X W C g _ h1)) fun σ H Q q => rd_of q fun env S => evB_one
      | cons _ _ => cases h2
    · cases h
  | c :: c2 :: es, hs, xs, h => by
    unfold chkEs at h
    split at h
    · obtain ⟨h1, h2⟩ := Bool.and_eq_true_iff.mp h
      have ih := s_bb g (pos := pos) and (c2 :: es) (fun c hc => hs c (List.mem_cons_of_mem _ hc)) _ h2
      rename_i x r
      cases r with
      | nil => unfold chkEs at h2; cases h2
      | cons y r =>
        cases and with
        | true => exact PE.weak (pe_and (hs c List.mem_cons_self X W C g _ h1) ih) fun σ H Q q => rd_and q
        | false => exact PE.weak (pe_or (hs c List.mem_cons_self X W C g _ h1) ih) fun σ H Q q => rd_or q
    · cases h
theorem t_bb {X : Cx} {C : SC} (g : Good X k W C G Φ) {pos : Pos} (and : Bool) : ∀ (es : List E), (∀ c ∈ es, ST G Φ k c) → es.all noIfe = true → ∀ xs, chkEs C es xs = true → PW X (.BoolOp (if and then .And else .Or) xs pos) (rdT k W (evB G Φ and es))
  | [], _, _, xs, h => PW.vac fun σ H Q ⟨env, S, w, a, r, e, q⟩ => by dsimp only at e; rw [evB] at e; cases e
  | [c], hs, hn, xs, h => by
    unfold chkEs at h
    split at h
    · obtain ⟨h1, h2⟩ := Bool.and_eq_true_iff.mp h
      unfold chkEs at h2
      have hc := hs c List.mem_cons_self X W C g _ h1 (List.all_eq_true.mp hn c List.mem_cons_self)
      rename_i x r
      cases r with
      | nil =>
        cases and with
        | true => exact PW.weak (pw_and1 hc) fun σ H Q q => rdT_of q fun env S => evB_one
        | false => exact PW.weak (pw_or1 hc) fun σ H Q q => rdT_of q fun env S => evB_one
      | cons _ _ => cases h2
    · cases h
  | c :: c2 :: es, hs, hn, xs, h => by
    unfold chkEs at h
    split at h
    · obtain ⟨h1, h2⟩ := Bool.and_eq_true_iff.mp h
      have ih := t_bb g (pos := pos) and (c2 :: es) (fun c hc => hs c (List.mem_cons_of_mem _ hc)) (Bool.and_eq_true_iff.mp hn).2 _ h2
      have hc := hs c List.mem_cons_self X W C g _ h1 (List.all_eq_true.mp hn c List.mem_cons_self)
      rename_i x r
      cases r with
      | nil => unfold chkEs at h2; cases h2
      | cons y r =>
        cases and with
        | true => exact PW.weak (pw_and hc ih) fun σ H Q q => rdT_and q
        | false => exact PW.weak (pw_or hc ih) fun σ H Q q => rdT_or q
    · cases h
theorem bop_chk {C : SC} {and : Bool} {es : List E} {e : Expr} (h : chkE C (.bop and es) e = true) : ∃ xs p, e = .BoolOp (if and then .And else .Or) xs p ∧ chkEs C es xs = true ∧ es.all noIfe = true := by
  unfold chkE at h
  split at h
  · rename_i p xs pos
    simp only [Bool.and_eq_true] at h
    obtain ⟨⟨h1, h2⟩, h3⟩ := h
    split at h1
    · subst h1
      exact ⟨_, _, rfl, h2, h3⟩
    · have : and = false := by simpa using h1
      subst this
      exact ⟨_, _, rfl, h2, h3⟩
  · cases h
theorem s_bop {and : Bool} {es : List E} (hs : ∀ c ∈ es, SE G Φ k c) : SE G Φ k (.bop and es) := fun X W C g e h => by
  obtain ⟨xs, p, rfl, h1, _⟩ := bop_chk h
  exact PE.weak (s_bb g and es hs xs h1) fun σ H Q q => rd_of q fun env S => by rw [evE]
theorem t_bop {and : Bool} {es : List E} (hs : ∀ c ∈ es, ST G Φ k c) : ST G Φ k (.bop and es) := fun X W C g e h _ => by
  obtain ⟨xs, p, rfl, h1, h2⟩ := bop_chk h
  exact PT.weak (t_bb g and es hs h2 xs h1).pt fun σ H Q q => rdT_of q fun env S => by rw [evE]
theorem not_chk {C : SC} {a : E} {e : Expr} (h : chkE C (.not a) e = true) : ∃ x p, e = .UnaryOp .Not x p ∧ chkE C a x = true ∧ noIfe a = true := by
  unfold chkE at h
  split at h
  · obtain ⟨h1, h2⟩ := Bool.and_eq_true_iff.mp h
    exact ⟨_, _, rfl, h1, h2⟩
  · cases h
theorem s_not {a : E} (ha : SE G Φ k a) : SE G Φ k (.not a) := fun X W C g e h => by
  obtain ⟨x, p, rfl, h1, _⟩ := not_chk h
  refine PE.weak (pe_not (ha X W C g _ h1)) fun σ H Q q => ?_
  obtain ⟨env, S, w, a, r, e, q⟩ := q
  rw [evE] at e
  obtain ⟨r1, e1, q1⟩ := run_bnd (R := Rep k) a e q
  refine ⟨env, S, w, a, r1, e1, q1.imp fun x H1 ⟨S1, w1, d1, a1, x1, rx, r2, e2, q2⟩ => ?_⟩
  cases d1 with
  | bl b => cases e2; exact ⟨b, rx, q2 _ w1 H1 a1 Ext.refl rfl⟩
  | _ => cases e2
theorem t_not {a : E} (ha : ST G Φ k a) : ST G Φ k (.not a) := fun X W C g e h _ => by
  obtain ⟨x, p, rfl, h1, h2⟩ := not_chk h
  refine PT.weak (pt_not (ha X W C g _ h1 h2)) fun σ H Q q => ?_
  obtain ⟨env, S, w, a, r, e, q⟩ := q
  rename_i a0 _
  have e' : (bnd (toB (evE G Φ a0 env S)) fun b S => some (.ok (!b) S)) = some r := by
    rw [← e]
    dsimp only
    rw [evE]
    cases evE G Φ a0 env S with
    | none => rfl
    | some r =>
      cases r with
      | ex x S => rfl
      | ok d S1 => cases d <;> rfl
  obtain ⟨r1, e1, q1⟩ := run_bnd (R := fun _ (a b : Bool) => a = b) a e' q
  refine ⟨env, S, w, a, r1, e1, q1.imp fun x H1 ⟨S1, w1, d1, a1, x1, rx, r2, e2, q2⟩ => ?_⟩
  subst rx
  cases e2
  exact q2 _ w1 H1 a1 Ext.refl rfl
theorem s_ife {c a b : E} (hc : ST G Φ k c) (ha : SE G Φ k a) (hb : SE G Φ k b) : SE G Φ k (.ife c a b) := fun X W C g e h => by
  unfold chkE at h
  split at h
  · simp only [Bool.and_eq_true] at h
    obtain ⟨⟨⟨h1, h2⟩, h3⟩, h4⟩ := h
    refine PE.weak (pe_ifExp (hc X W C g _ h1 h4) (ha X W C g _ h2) (hb X W C g _ h3)) fun σ H Q q => ?_
    obtain ⟨env, S, w, a0, r, e, q⟩ := q
    rw [evE] at e
    have e := (bnd_toB _ (fun S => evE G Φ a env S) (fun S => evE G Φ b env S)).symm.trans e
    obtain ⟨r1, e1, q1⟩ := run_bnd (R := fun _ (a b : Bool) => a = b) a0 e q
    refine ⟨env, S, w, a0, r1, e1, q1.imp fun x H1 ⟨S1, w1, d1, a1, x1, rx, r2, e2, q2⟩ => ?_⟩
    subst rx
    cases d1 with
    | true => rw [if_pos rfl]; exact ⟨env, S1, w1, a1, r2, e2, q2⟩
    | false => rw [if_neg Bool.false_ne_true]; exact ⟨env, S1, w1, a1, r2, e2, q2⟩
  · cases h
theorem s_L {X : Cx} {C : SC} (g : Good X k W C G Φ) : ∀ (es : List E), (∀ c ∈ es, SE G Φ k c) → ∀ xs, chkEs C es xs = true → PA X xs (rdL k W (evL G Φ es))
  | [], _, xs, h => by
    unfold chkEs at h
    cases xs with
    | nil => exact PA.weak pa_nil fun σ H Q q => rdL_nil (k := k) (W := W) (rdL_of q fun env S => by rw [evL])
    | cons _ _ => cases h
  | e :: es, hs, xs, h => by
    unfold chkEs at h
    split at h
    · obtain ⟨h1, h2⟩ := Bool.and_eq_true_iff.mp h
      exact PA.weak (pa_cons (hs e List.mem_cons_self X W C g _ h1) (s_L g es (fun c hc => hs c (List.mem_cons_of_mem _ hc)) _ h2) (star_cons (chk_plain C e _ h1).1)) fun σ H Q q => rdL_cons (rdL_of q fun env S => by rw [evL])
    · cases h
theorem s_tup {es : List E} (hs : ∀ c ∈ es, SE G Φ k c) : SE G Φ k (.tup es) := fun X W C g e h => by
  unfold chkE at h
  split at h
  · exact PE.weak (pe_tup (s_L g es hs _ h)) fun σ H Q q => rd_tup (rd_of q fun env S => by rw [evE])
  · cases h
theorem s_lstF {es : List E} (hs : ∀ c ∈ es, SE G Φ k c) {X : Cx} {C : SC} (g : Good X k W C G Φ) {e : Expr} (h : chkE C (.lst es) e = true) : PE X e (rdF k W (evE G Φ (.lst es))) := by
  unfold chkE at h
  split at h
  · exact PE.weak (pe_lst (s_L g es hs _ h)) fun σ H Q q => rdF_lst (rdF_of q fun env S => by rw [evE])
  · cases h
theorem s_lst {es : List E} (hs : ∀ c ∈ es, SE G Φ k c) : SE G Φ k (.lst es) := fun X W C g e h => PE.weak (s_lstF hs g h) fun σ H Q q => rd_F q
theorem s_ix {a b : E} (ha : SE G Φ k a) (hb : SE G Φ k b) : SE G Φ k (.ix a b) := fun X W C g e h => by
  unfold chkE at h
  split at h
  · obtain ⟨h1, h2⟩ := Bool.and_eq_true_iff.mp h
    refine PE.weak (pe_ix (ixOk g.kk (by have := g.units; omega)) (ha X W C g _ h1) (hb X W C g _ h2) (plain_ix (chk_plain C b _ h2).2.2.1)) fun σ H Q q => ?_
    obtain ⟨env, S, w, a0, r, e, q⟩ := q
    rw [evE] at e
    obtain ⟨r1, e1, q1⟩ := run_bnd (R := Rep k) a0 e q
    refine ⟨env, S, w, a0, r1, e1, q1.imp fun x H1 ⟨S1, w1, d1, a1, x1, rx, r2, e2, q2⟩ => ?_⟩
    obtain ⟨r3, e3, q3⟩ := run_bnd (R := Rep k) a1 e2 q2
    refine ⟨env, S1, w1, a1, r3, e3, q3.imp fun y H2 ⟨S2, w2, d2, a2, x2, ry, r4, e4, q4⟩ => ?_⟩
    obtain ⟨d, e5, q5⟩ := run_lift e4 q4
    exact ⟨w2.f, _, _, d, a2.sep.fh, vw_at a2 (rx.mono x2.le d1 x), .inl ry, e5, fun v g' H' px rv => q5 v ⟨g', w2.O⟩ H' (a2.px px) (ext_px a2.sep px) rv⟩
  · cases h
/-! ### slices -/
def PRs (k : Kx) (sem : D → Option Int → Option Int → Option D) : V → Option Int → Option Int → Hp → VK → Prop := fun x lo hi H Q => ∃ f d1 d, Same f.F H ∧ RepV k f H d1 x ∧ sem d1 lo hi = some d ∧ ∀ v g H', PX f H g H' → Rep k g d v → Q v H'
theorem cutL_rep {f : Fz} {ds : List D} {vs : List V} (r : RepL k f ds vs) (lo hi : Option Int) : RepL k f (cutL ds lo hi) (cutV vs lo hi) := by
  unfold cutL cutV
  rw [r.length]
  exact (r.drop _).take _
theorem cutL_whole {f : Fz} {ds : List D} {vs : List V} {lo hi : Option Int} (r : RepL k f ds vs) (hw : HT.sIx vs.length 0 lo = 0 ∧ HT.sIx vs.length vs.length hi = vs.length) : cutL ds lo hi = ds := by
  rw [r.length] at hw
  unfold cutL
  rw [hw.1, hw.2]; simp
theorem slOk {X : Cx} (hK : X.K = k.K) : SlR X (PRs k evSl) := by
  intro pins s σ H x v vl vu lo hi sl Q I rx hs pl pu h
  obtain ⟨f, d1, d, sF, r1, e, q⟩ := h
  unfold evSl at e
  split at e
  · cases e
    have r1 := repV_tup r1
    obtain ⟨a, vs, rfl, ha, ra⟩ := rep_tup.mp r1
    have hcut := cutL_rep ra lo hi
    refine sl_tupA pins s σ H _ v vl vu lo hi sl Q I rx hs pl pu ⟨a, vs, rfl, by rw [hK]; exact Same.seqT sF ha, fun hw => ?_, fun _ p hp => ?_⟩
    · rw [cutL_whole ra hw] at q
      exact q _ f H (PX.refl sF) r1
    · obtain ⟨px, r⟩ := new_tup sF hp hcut
      exact q _ _ _ px r
  · cases e
    obtain ⟨a, vs, rfl, ha, ra⟩ := repV_lst sF r1
    have hcut := cutL_rep ra lo hi
    refine sl_list pins s σ H _ v vl vu lo hi sl Q I rx hs pl pu ⟨a, vs, rfl, SqL.of ha, fun p hp => ?_⟩
    obtain ⟨px, r⟩ := new_lst sF hp hcut
    exact q _ _ _ px r
  · split at e
    · rename_i hz
      cases e
      have r1 := repV_str r1; subst r1
      exact sl_str pins s σ H _ v vl vu lo hi sl Q I rx hs pl pu ⟨_, rfl, lim_line hz, q _ f H (PX.refl sF) rfl⟩
    · cases e
  · cases e
/-- an end of a slice -/
def evO (b : Bool) (ev : Env → Sto → Option (Re D)) (env : Env) (S : Sto) : Option (Re (Option Int)) := if b then toI (ev env S) else some (.ok none S)
theorem po_end {X : Cx} {b : Bool} {ev : Env → Sto → Option (Re D)} {l : Option Expr} (h : match l with | some y => b = true ∧ PE X y (rd k W ev) | none => b = false) : PO X l (rdG k W (fun _ (a b : Option Int) => a = b) (evO b ev)) := by
  cases l with
  | none =>
    have h : b = false := h
    subst h
    refine ⟨fun pins s σ H Q I q => po_none.run pins s σ H Q I ?_⟩
    obtain ⟨env, S, w, a, r, e, q⟩ := q
    cases e
    exact q _ w H a Ext.refl rfl
  | some y =>
    obtain ⟨rfl, h⟩ : b = true ∧ PE X y (rd k W ev) := h
    refine ⟨fun pins s σ H Q I q => (po_some h).run pins s σ H Q I ?_⟩
    obtain ⟨env, S, w, a, r, e, q⟩ := q
    have e : bnd (ev env S) (fun y S => match y with | .int i => some (.ok (some i) S) | _ => none) = some r := e
    obtain ⟨r1, e1, q1⟩ := run_bnd (R := Rep k) a e q
    refine ⟨env, S, w, a, r1, e1, q1.imp fun x H1 ⟨S1, w1, d1, a1, x1, rx, r2, e2, q2⟩ => ?_⟩
    cases d1 with
    | int i => cases e2; exact ⟨i, rx, q2 _ w1 H1 a1 Ext.refl rfl⟩
    | _ => cases e2
theorem s_slc {bl bh : Bool} {a lo hi : E} (ha : SE G Φ k a) (hl : SE G Φ k lo) (hh : SE G Φ k hi) : SE G Φ k (.slc bl bh a lo hi) := fun X W C g e h => by
  unfold chkE at h
  split at h
  · rename_i x l u p2 pos
    simp only [Bool.and_eq_true] at h
    obtain ⟨⟨h1, h2⟩, h3⟩ := h
    have pl : PO X l (rdG k W (fun _ (a b : Option Int) => a = b) (evO bl (evE G Φ lo))) := po_end (by
      cases l with
      | none => simpa using h2
      | some y => obtain ⟨q1, q2⟩ := Bool.and_eq_true_iff.mp h2; exact ⟨q1, hl X W C g _ q2⟩)
    have pu : PO X u (rdG k W (fun _ (a b : Option Int) => a = b) (evO bh (evE G Φ hi))) := po_end (by
      cases u with
      | none => simpa using h3
      | some y => obtain ⟨q1, q2⟩ := Bool.and_eq_true_iff.mp h3; exact ⟨q1, hh X W C g _ q2⟩)
    refine PE.weak (pe_slice (slOk g.kk) (ha X W C g _ h1) pl pu) fun σ H Q q => ?_
    obtain ⟨env, S, w, a0, r, e, q⟩ := q
    rw [evE] at e
    obtain ⟨r1, e1, q1⟩ := run_bnd (R := Rep k) a0 e q
    refine ⟨env, S, w, a0, r1, e1, q1.imp fun x H1 ⟨S1, w1, d1, a1, x1, rx, r2, e2, q2⟩ => ?_⟩
    obtain ⟨r3, e3, q3⟩ := run_bnd (R := fun _ (a b : Option Int) => a = b) a1 e2 q2
    refine ⟨env, S1, w1, a1, r3, e3, q3.imp fun o1 H2 ⟨S2, w2, d2, a2, x2, ry, r4, e4, q4⟩ => ?_⟩
    obtain ⟨r5, e5, q5⟩ := run_bnd (R := fun _ (a b : Option Int) => a = b) a2 e4 q4
    refine ⟨env, S2, w2, a2, r5, e5, q5.imp fun o2 H3 ⟨S3, w3, d3, a3, x3, rz, r6, e6, q6⟩ => ?_⟩
    obtain ⟨d, e7, q7⟩ := run_lift e6 q6
    subst ry rz
    exact ⟨w3.f, _, d, a3.sep.fh, vw_at a3 ((rx.mono x2.le d1 x).mono x3.le d1 x), e7, fun v g' H' px rv => q7 v ⟨g', w3.O⟩ H' (a3.px px) (ext_px a3.sep px) rv⟩
  · cases h
/-! ### calls -/
theorem kf_rep {f : Fz} {zs : List D} {zv : List V} (r : RepL k f zs zv) : ∀ {fs : List Kf} {ds : List D}, kfs zs fs = some ds → ∃ dz, KfVs zv fs dz ∧ RepL k f ds dz
  | [], ds, h => by cases h; exact ⟨[], .nil, RepL.nil⟩
  | x :: fs, ds, h => by
    rw [kfs] at h
    obtain ⟨d, h1, h⟩ := Option.bind_eq_some_iff.mp h
    obtain ⟨ds', h2, rfl⟩ := Option.map_eq_some_iff.mp h
    obtain ⟨dz, q1, q2⟩ := kf_rep r h2
    cases x with
    | g j =>
      obtain ⟨v, e, rv⟩ := r.get (show zs[j]? = some d from h1)
      exact ⟨v :: dz, .cons e q1, RepL.cons rv q2⟩
    | int i => cases h1; exact ⟨.int i :: dz, .cons rfl q1, RepL.cons rfl q2⟩
    | non => cases h1; exact ⟨.non :: dz, .cons rfl q1, RepL.cons rfl q2⟩
theorem KfVs.uniq {zv : List V} : ∀ {fs : List Kf} {a b : List V}, KfVs zv fs a → KfVs zv fs b → a = b
  | _, _, _, .nil, .nil => rfl
  | _, _, _, .cons h t, .cons h' t' => by
    rw [h] at h'
    cases h'
    rw [KfVs.uniq t t']
theorem kfs_len {zs : List D} : ∀ {fs : List Kf} {ds : List D}, kfs zs fs = some ds → ds.length = fs.length
  | [], ds, h => by cases h; rfl
  | x :: fs, ds, h => by
    rw [kfs] at h
    obtain ⟨d, h1, h⟩ := Option.bind_eq_some_iff.mp h
    obtain ⟨ds', h2, rfl⟩ := Option.map_eq_some_iff.mp h
    simp [kfs_len h2]
/-- words by name -/
theorem s_K {X : Cx} {C : SC} (g : Good X k W C G Φ) {pos : Pos} : ∀ (es : List E), (∀ c ∈ es, SE G Φ k c) → ∀ ns kws, chkKs C ns es kws = true → PK X kws (rdL k W (evL G Φ es)) ∧
    (backToKw pos (keywordEach kws X.env)).all (·.1.isSome) = true ∧ (backToKw pos (keywordEach kws X.env)).filterMap (·.1) = ns ∧ (backToKw pos (keywordEach kws X.env)).any (·.1.isNone) = false
  | [], _, ns, kws, h => by
    unfold chkKs at h
    obtain ⟨h1, h2⟩ := Bool.and_eq_true_iff.mp h
    have h1 := List.isEmpty_iff.mp h1
    have h2 := List.isEmpty_iff.mp h2
    subst h1 h2
    exact ⟨PK.weak pk_nil fun σ H Q q => rdL_nil (k := k) (W := W) (rdL_of q fun env S => by rw [evL]), rfl, rfl, rfl⟩
  | e :: es, hs, ns, kws, h => by
    unfold chkKs at h
    split at h
    · rename_i n ns m x kp r
      simp only [Bool.and_eq_true, decide_eq_true_eq] at h
      obtain ⟨⟨rfl, h1⟩, h2⟩ := h
      obtain ⟨q1, q2, q3, q4⟩ := s_K g (pos := pos) es (fun c hc => hs c (List.mem_cons_of_mem _ hc)) _ _ h2
      refine ⟨PK.weak (pk_cons (hs e List.mem_cons_self X W C g _ h1) q1) fun σ H Q q => rdL_cons (rdL_of q fun env S => by rw [evL]), ?_, ?_, ?_⟩
      · show (true && _) = true; exact q2
      · show n :: _ = n :: ns; exact congrArg _ q3
      · show (false || _) = false; exact q4
    · cases h
theorem kws_nil {C : SC} {ns : List Str} {ks : List E} (h : chkKs C ns ks [] = true) : ks = [] ∧ ns = [] := by
  cases ks with
  | nil =>
    unfold chkKs at h
    obtain ⟨_, h2⟩ := Bool.and_eq_true_iff.mp h
    exact ⟨rfl, List.isEmpty_iff.mp h2⟩
  | cons _ _ =>
    unfold chkKs at h
    cases ns <;> cases h
theorem kws_cons {C : SC} {ns : List Str} {ks : List E} {x : Keyword} {r : List Keyword} (h : chkKs C ns ks (x :: r) = true) : ns ≠ [] ∧ ks ≠ [] := by
  cases ks with
  | nil => unfold chkKs at h; cases h
  | cons _ _ =>
    cases ns with
    | nil => unfold chkKs at h; cases h
    | cons _ _ => exact ⟨by simp, by simp⟩
theorem rd_call0 {f : Nat} {es : List E} {fs : List Kf} {n : Nat} {dvs : List V} (hn : es.length = n) (hd : KfVs [] fs dvs) (q : rd k W (evE G Φ (.call f es [] fs)) σ H Q) : tCall (spOf k (Φ f) (n + fs.length)) dvs W (rdL k W (evL G Φ es)) σ H Q := by
  obtain ⟨env, S, w, a0, r, e, q⟩ := q
  rw [evE] at e
  cases m : evL G Φ es env S with
  | none => rw [m] at e; cases e
  | some r1 =>
    rw [m] at e
    refine ⟨env, S, w, a0, r1, m, ?_⟩
    cases r1 with
    | ex x S1 => cases e; exact q
    | ok xs S1 =>
      rw [bnd_ok, evL, bnd_ok] at e
      obtain ⟨ds, e1, e2⟩ := Option.bind_eq_some_iff.mp e
      refine fun vs w1 H1 a1 x1 rl => ?_
      obtain ⟨dz, k1, k2⟩ := kf_rep (k := k) (f := w1.f) (zs := []) (zv := []) RepL.nil e1
      have := KfVs.uniq k1 hd; subst this
      refine sp_call a1 (rl.append k2) ?_ e2 (q.ext a0.sep a1.sep x1)
      rw [List.length_append, kfs_len e1, evL_len m, hn]
theorem rd_callK {f : Nat} {es ks : List E} {fs : List Kf} {n m : Nat} {gV : List V → List V → List V} (hn : es.length = n) (hm : ks.length = m) (hg : ∀ vs zs dz, vs.length = n → zs.length = m → KfVs zs fs dz → gV vs zs = vs ++ dz)
    (q : rd k W (evE G Φ (.call f es ks fs)) σ H Q) : tCallN n m (spOf k (Φ f) (n + fs.length)) gV W (rdL k W (evL G Φ es)) (rdL k W (evL G Φ ks)) σ H Q := by
  obtain ⟨env, S, w, a0, r, e, q⟩ := q
  rw [evE] at e
  cases m1 : evL G Φ es env S with
  | none => rw [m1] at e; cases e
  | some r1 =>
    rw [m1] at e
    refine ⟨env, S, w, a0, r1, m1, ?_⟩
    cases r1 with
    | ex x S1 => cases e; exact q
    | ok xs S1 =>
      rw [bnd_ok] at e
      refine fun vs w1 H1 a1 x1 rl => ?_
      have q1 := q.ext a0.sep a1.sep x1
      cases m2 : evL G Φ ks env S1 with
      | none => rw [m2] at e; cases e
      | some r2 =>
        rw [m2] at e
        refine ⟨env, S1, w1, a1, r2, m2, ?_⟩
        cases r2 with
        | ex x S2 => cases e; exact q1
        | ok zs S2 =>
          rw [bnd_ok] at e
          refine fun zv w2 H2 a2 x2 rz => ?_
          obtain ⟨ds, e1, e2⟩ := Option.bind_eq_some_iff.mp e
          obtain ⟨dz, k1, k2⟩ := kf_rep rz e1
          have l1 : vs.length = n := by rw [rl.length, evL_len m1, hn]
          have l2 : zv.length = m := by rw [rz.length, evL_len m2, hm]
          refine ⟨l1, l2, ?_⟩
          rw [hg vs zv dz l1 l2 k1]
          refine sp_call a2 ((RepL.mono x2.le _ _ rl).append k2) ?_ e2 (q1.ext a1.sep a2.sep x2)
          rw [List.length_append, kfs_len e1, evL_len m1, hn]
theorem s_call {f : Nat} {es ks : List E} {fs : List Kf} (hs : ∀ c ∈ es, SE G Φ k c) (hks : ∀ c ∈ ks, SE G Φ k c) : SE G Φ k (.call f es ks fs) := fun X W C g e h => by
  unfold chkE at h
  split at h
  · rename_i x p xs kws pos
    split at h
    · rename_i c hc
      simp only [Bool.and_eq_true, decide_eq_true_eq] at h
      obtain ⟨⟨⟨⟨⟨⟨⟨⟨h1, h2⟩, h3⟩, h4⟩, h5⟩, h6⟩, h7⟩, h8⟩, h9⟩ := h
      obtain ⟨d1, _, _⟩ := noDbg_of h6
      obtain ⟨fa, fd, lv, ps, m, kp, hr, F, hb⟩ := (g.fn f c hc).ex
      rw [h1] at m
      have pa := s_L (W := W) g es hs xs h7
      have ns := chkEs_star h7
      have hx : Passes (L2.CX X.prog X.w) X W := passes_call g.tk (fun _ _ _ _ z => z)
      cases kws with
      | nil =>
        obtain ⟨rfl, hn⟩ := kws_nil h8
        rcases hb with ⟨_, dvs, ds, b1, b2, b3⟩ | ⟨z, _⟩
        · rw [h3] at b3 F
          cases xs with
          | nil =>
            refine PE.weak (pe_call0 F hr (g.gl h5) m kp b2 b1 hx d1) fun σ H Q q => ?_
            have := rd_call0 (W := W) h2.symm b3 q
            cases es with
            | nil =>
              refine rdL_nil (k := k) (W := W) (rdL_of this fun env S => by rw [evL])
            | cons _ _ => unfold chkEs at h7; cases h7
          | cons y ys =>
            have ns := Bool.and_eq_true_iff.mp (show (noStar y && noStars ys) = true from ns)
            exact PE.weak (pe_call F hr (g.gl h5) m kp b2 b1 hx pa d1 (star_cons ns.1) (star_any ns.2)) fun σ H Q q => rd_call0 h2.symm b3 q
        · exact absurd hn z
      | cons kw kwr =>
        obtain ⟨n1, n2⟩ := kws_cons h8
        rcases hb with ⟨z, _⟩ | ⟨_, gg, gV, b1, b2⟩
        · exact absurd z n1
        · cases xs with
          | nil => cases h9
          | cons y ys =>
            obtain ⟨pk, k1, k2, k3⟩ := s_K (W := W) g (pos := pos) ks hks c.ks (kw :: kwr) h8
            have ns' := Bool.and_eq_true_iff.mp (show (noStar y && noStars ys) = true from ns)
            rw [h3] at b2 F
            have hpl : ((backTo pos (starEach (y :: ys) X.env)).any (·.1) || (backToKw pos (keywordEach (kw :: kwr) X.env)).any (·.1.isNone)) = false := by rw [star_any ns, k3]; rfl
            exact PE.weak (pe_callN F hr (g.gl h5) m kp b1 hx pa pk k1 k2 d1 (star_cons ns'.1) hpl) fun σ H Q q => rd_callK h2.symm h4.symm b2 q
    · cases h
  · cases h
theorem s_bi {b : Bi} {es : List E} (hs : ∀ c ∈ es, SE G Φ k c) : SE G Φ k (.bi b es) := fun X W C g e h => by
  unfold chkE at h
  split at h
  · rename_i x p y ys pos
    simp only [Bool.and_eq_true] at h
    obtain ⟨h1, h2⟩ := h
    obtain ⟨rfl, hg, hm⟩ := isB_of g h1
    have ns := Bool.and_eq_true_iff.mp (show (noStar y && noStars ys) = true from chkEs_star h2)
    exact PE.weak (pe_bi g.kk g.calm hg hm (s_L g es hs _ h2) ns.1 ns.2) fun σ H Q q => rd_cb (rd_of q fun env S => by rw [evE])
  · cases h
end
end Sf

/-! Sf.Xor4: set(a) ^ set(b) over the heap of data. -/
namespace Sf
open PySem PySem.Spec PyProof.Rows L2

section
variable {P : Program} {w : World} {A : Around} {E : Value → Shared → Prop} {s : Shared} {a f : Addr} {S T : Int → Bool} {n m : Nat}
theorem xor_call {Q : Value → Shared → Prop} (Ra : SetR w s.heap a S n) (Rf : SetR w s.heap f T m) (hn : n ≤ 60) (hm : m ≤ 60)
    (hQ : ∀ h' d c, (∀ b o, s.heap.get? b = some o → h'.get? b = some o) → SetR w h' s.heap.objs.size (fun j => if S j = true then !T j else T j) c → c ≤ 120 → Q (.ref s.heap.objs.size) { s with heap := h', drawn := d }) :
    wpAny (model P w) A (call (.builtin "set.__xor__") [.ref a, .ref f]) (fun v s' => v ≠ .notImplemented ∧ Q v s') E s := by
  have hTa : s.TypeIs (.ref a) "set" := (Ra.setOf (P := P)).typeIs
  refine wpAny_call_entry slot_set_xor hTa entry_set_xor ?_ (args_set_xor _ _)
  change wpAny _ _ (Bind.bind (Builtin.Frozenset.slot1 "__xor__" _) _) _ _ _
  refine wpAny_bind (wpAny_of_eq (a := (Value.ref a, Value.ref f)) (by rfl) ?_)
  dsimp only
  refine wpAny_bind (wpAny_bind (any_set Ra ?_))
  change wpAny _ _ (Builtin.Frozenset.isAnySet (.ref f)) _ _ _
  refine any_set Rf ?_
  refine wp_if_neg (by decide) ?_
  refine wpAny_bind (wpAny_of_eq (a := a) rfl ?_)
  refine wpAny_bind ?_
  change wpAny _ _ (Bind.bind (Builtin.Frozenset.baseOf a) _) _ _ _
  refine wpAny_bind ?_
  unfold Builtin.Frozenset.baseOf
  refine wpAny_bind (wpAny_isInstance (b := true) hTa sub_set_self ?_)
  change wpAny _ _ (pure (Value.type "set")) _ _ _
  refine wpAny_pure ?_
  try dsimp only
  refine wpAny_bind ?_
  unfold Builtin.Frozenset.newFrom newSet
  refine wpAny_bind ?_
  refine wpAny_bind (wpAny_byText ?_)
  try dsimp only
  simp only [newObj]
  refine wpAny_bind (wpAny_alloc (wpAny_pure ?_))
  try dsimp only
  have hp := Heap.get?_push_size s.heap (o := { cls := .type "set", dict := none, data := .set #[] 0 (.fresh 0 0 (!w.params.followText "set-order")) }) rfl
  generalize hh0 : s.heap.push { cls := .type "set", dict := none, data := .set #[] 0 (.fresh 0 0 (!w.params.followText "set-order")) } = h0 at hp ⊢
  have keep0 : ∀ b o, s.heap.get? b = some o → h0.get? b = some o := fun b o e => by rw [← hh0]; exact Heap.get?_push_of_some _ e
  have Ra0 : SetR w h0 a S n := Ra.at (keep0 a)
  have Rf0 : SetR w h0 f T m := Rf.at (keep0 f)
  have nea : s.heap.objs.size ≠ a := Nat.ne_of_gt Ra.lt
  have nef : s.heap.objs.size ≠ f := Nat.ne_of_gt Rf.lt
  refine wpAny_bind (wpAny_of_eq (a := s.heap.objs.size) rfl ?_)
  refine wpAny_bind (wpAny_holding ?_)
  unfold Builtin.Frozenset.updateFrom
  refine wpAny_bind (any_set (s := { s with heap := h0 }) Rf0 ?_)
  refine wp_if_pos rfl ?_
  refine wpAny_bind (wpAny_of_eq (a := f) rfl ?_)
  unfold Builtin.Frozenset.merge
  refine wpAny_bind (m := setEpoch f) ?_
  have Rf0' := Rf0
  obtain ⟨of, ef, epf, tf, hof, hexf, hdf, gf, ndf, hmf, hbf, hff, hzf, hrf, hlf⟩ := Rf0'
  unfold setEpoch
  refine wpAny_bind (wpAny_setState_of (s := { s with heap := h0 }) hof hdf hff (wpAny_pure ?_))
  dsimp only
  refine merge_new (s := { s with heap := h0 }) hp ⟨rfl, rfl, rfl⟩ rfl (by
    cases w.params.followText "set-order"
    · exact .inr rfl
    · exact .inl rfl) Rf0 nef hm fun h1 sb1 R1 => ?_
  try refine wpAny_pure ?_
  try dsimp only
  have Ra1 : SetR w h1 a S n := Ra0.at fun o e => (sb1.2 a (Ne.symm nea)).trans e
  try refine wpAny_pure ?_
  refine wpAny_bind (wpAny_of_eq (a := s.heap.objs.size) rfl ?_)
  refine wpAny_bind (wpAny_holding ?_)
  refine sym_update (s := { s with heap := h1 }) Ra1 R1 nea hn hm fun h2 d c sb2 R2 hc => ?_
  try refine wpAny_pure ?_
  refine wpAny_pure ⟨_, rfl, by simp, hQ h2 d c (fun b o e => ?_) R2 hc⟩
  have hb : b ≠ s.heap.objs.size := Nat.ne_of_lt (Heap.lt_size e)
  exact (sb2.2 b hb).trans ((sb1.2 b hb).trans (keep0 b o e))
end
/-- the members, each once -/
def Memb (S : Int → Bool) (c : Nat) : Prop := ∃ ks : List Int, ks.Nodup ∧ ks.length = c ∧ ∀ k, k ∈ ks ↔ S k = true
theorem memb_of {w : World} {h : Heap} {a : Addr} {S : Int → Bool} {c : Nat} (R : SetR w h a S c) : Memb S c := by
  obtain ⟨o, es, ep, t, _, _, _, _, nd, hm, _, _, hz, _⟩ := R
  exact ⟨es.toList.map keyOf, nd, by rw [List.length_map, Array.length_toList]; exact hz, fun k => (hm k).symm⟩
section
variable {X : Cx}
def rXorS (w : World) : R2 := fun x y H Q => ∃ a b S T n m, x = .ref a ∧ y = .ref b ∧ H a = some (SetO w a S n) ∧ H b = some (SetO w b T m) ∧ n ≤ 60 ∧ m ≤ 60 ∧
  ∀ p c, H p = none → Memb (fun j => if S j = true then !T j else T j) c → Q (.ref p) (upd H p (SetO w p (fun j => if S j = true then !T j else T j) c))
theorem op_xorS : OpR X (binaryOp .BitXor) (rXorS X.w) := by
  intro pins s σ H x y v u Q I rx ry h
  obtain ⟨a, b, S, T, n, m, rfl, rfl, ha, hb, hn, hm, q⟩ := h
  cases rx
  cases ry
  have Ra := setO_get I ha
  have Rb := setO_get I hb
  refine wpAny_binaryOp_same (op := .BitXor) (T := "set") (Ra.setOf (P := X.prog)).typeIs (Rb.setOf (P := X.prog)).typeIs fills_set_xor slot_set_xor (xor_call Ra Rb hn hm fun h' d c k R _ => ?_)
  have hf : H s.heap.objs.size = none := I.hok.fresh (Nat.le_refl _)
  refine ⟨.ref s.heap.objs.size, upd H s.heap.objs.size (SetO X.w s.heap.objs.size (fun j => if S j = true then !T j else T j) c), ?_, rfl, q _ c hf (memb_of R)⟩
  exact I.call (g' := s.gens) (d' := d) (t' := s.toks) (ch := []) (Un.laid k (Nat.le_refl _) hf) (I.hok.laid k (Nat.le_refl _) (setO_new R)) I.bare (fun _ z => nomatch z)
def rSetTI (K : PySem.W.Frag) (w : World) : List V → Hp → VK → Prop := fun xs H Q => ∃ (p : Addr) (ns : List Int), xs = [.ref p] ∧ SqT K H p (ns.map V.int) ∧ ns.length ≤ 1000 ∧
  ∀ a c, H a = none → Memb (fun j => decide (j ∈ ns)) c → c ≤ ns.length → Q (.ref a) (upd H a (SetO w a (fun j => decide (j ∈ ns)) c))
theorem cr_setTI (hc : X.calm = true) : CallR X (.type "set") (rSetTI X.K X.w) := by
  intro pins s σ H xs us Q I r h
  obtain ⟨p, ns, rfl, hq, hl, q⟩ := h
  rw [Vals.ref1 r]
  obtain ⟨its, rv, pt, hz⟩ := I.tuple hq
  refine call_set_tupI ns (I.ok.hd hc) (show s.heap.IsTuple p its.toArray from pt) (ints_of_vals rv) (by unfold scanBound; omega) fun h' tk c R hcn k => ?_
  have hf : H s.heap.objs.size = none := I.hok.fresh (Nat.le_refl _)
  refine ⟨.ref s.heap.objs.size, upd H s.heap.objs.size (SetO X.w s.heap.objs.size (fun j => decide (j ∈ ns)) c), ?_, rfl, q _ c hf (memb_of R) hcn⟩
  exact I.call (g' := s.gens) (d' := s.drawn) (t' := tk) (ch := []) (Un.laid k (Nat.le_refl _) hf) (I.hok.laid k (Nat.le_refl _) (setO_new R)) I.bare (fun _ z => nomatch z)
end
theorem symI_nodup {xs ys : List Int} (h1 : xs.Nodup) (h2 : ys.Nodup) : (symI xs ys).Nodup := by
  unfold symI
  refine (sortI_perm _).nodup_iff.mpr ?_
  rw [List.nodup_append]
  refine ⟨List.Nodup.sublist List.filter_sublist h1, List.Nodup.sublist List.filter_sublist h2, fun x hx y hy e => ?_⟩
  subst e
  have a := (List.mem_filter.mp hx).2
  have b := (List.mem_filter.mp hy).1
  simp [b] at a
theorem symI_mem {xs ys : List Int} (k : Int) : k ∈ symI xs ys ↔ (if decide (k ∈ xs) = true then !decide (k ∈ ys) else decide (k ∈ ys)) = true := by
  unfold symI
  rw [(sortI_perm _).mem_iff, List.mem_append, List.mem_filter, List.mem_filter]
  by_cases h1 : k ∈ xs <;> by_cases h2 : k ∈ ys <;> simp [h1, h2]
theorem symI_sorted (xs ys : List Int) : (symI xs ys).Pairwise (· ≤ ·) := sortI_sorted _
end Sf

/-! Sf.Term: methods, kinds, sources, comprehensions, new objects. -/
namespace Sf
open PySem PySem.Spec PyProof.Rows L2

section
variable {X : Cx} {k : Kx}
theorem RepV.up {f : Fz} {H H2 : Hp} {d : D} {v : V} (s : Same H H2) (h : RepV k f H d v) : RepV k f H2 d v := by
  rcases h with h | h
  · exact .inl h
  · refine .inr ?_
    cases d with
    | lst ds => obtain ⟨a, vs, h1, h2, h3⟩ := h; exact ⟨a, vs, h1, s _ _ h2, h3⟩
    | dct t ks ds => obtain ⟨a, vs, o, h1, h2, h3⟩ := h; exact ⟨a, vs, o, h1, s _ _ h2, h3⟩
    | _ => exact h
theorem tyV_lst {K : PySem.W.Frag} {f : Fz} {H : Hp} {ds : List D} {x : V} (s : Same f.F H) (r : RepV k f H (.lst ds) x) : tyV K "list" x H := by
  obtain ⟨a, vs, rfl, h, _⟩ := repV_lst s r
  exact .inl ⟨rfl, _, SqL.of h⟩
theorem tyV_str {K : PySem.W.Frag} {f : Fz} {H : Hp} {z : Str} {x : V} (r : RepV k f H (.str z) x) : tyV K "str" x H := by
  have := repV_str r; subst this
  exact rfl
/-- methods that only read -/
theorem mt_cnt (hK : X.K = k.K) : MtR X "list.count" (PRm k (evMt .count)) := fun pins s σ H x xs v us Q I rx rs h => by
  obtain ⟨f, d1, ds, d, sF, r1, r2, e, q⟩ := h
  have e : evCnt d1 ds = some d := e
  unfold evCnt at e
  split at e
  · obtain ⟨nn, e4, rfl⟩ := Option.map_eq_some_iff.mp e
    have := toInts_of e4
    subst this
    obtain ⟨v2, rfl, rv⟩ := repVs_one r2
    have rv := repV_int rv; subst rv
    obtain ⟨b, ws, rfl, hb, rb⟩ := repV_lst sF r1
    have := RepL.ints.mp rb
    subst this
    exact mt_lcount pins s σ H _ _ v us Q I rx rs ⟨b, nn, _, rfl, rfl, SqL.of hb, q _ f H (PX.refl sF) rfl⟩
  · cases e
theorem mt_scnt : MtR X "str.count" (PRm k (evMt .scount)) := fun pins s σ H x xs v us Q I rx rs h => by
  obtain ⟨f, d1, ds, d, sF, r1, r2, e, q⟩ := h
  have e : evSCnt d1 ds = some d := e
  unfold evSCnt at e
  split at e
  · cases e
    obtain ⟨v2, rfl, rv⟩ := repVs_one r2
    have rv := repV_str rv; subst rv
    have r1 := repV_str r1; subst r1
    exact mt_count pins s σ H _ _ v us Q I rx rs ⟨_, _, rfl, rfl, q _ f H (PX.refl sF) rfl⟩
  · cases e
theorem joinLen_le {a : Str} : ∀ {ys : List Str}, (ys.map (·.length)).sum + ys.length * a.length ≤ joinLen a ys
  | [] => by simp [joinLen]
  | y :: ys => by
    have := joinLen_le (a := a) (ys := ys)
    unfold joinLen at this ⊢
    simp only [List.map_cons, List.sum_cons, List.length_cons, Nat.add_mul, Nat.one_mul] at this ⊢
    omega
theorem mt_jn (hK : X.K = k.K) : MtR X "str.join" (PRm k (evMt .join)) := fun pins s σ H x xs v us Q I rx rs h => by
  obtain ⟨f, d1, ds, d, sF, r1, r2, e, q⟩ := h
  have e : evJoin d1 ds = some d := e
  unfold evJoin at e
  split at e
  · obtain ⟨ys, e1, e2⟩ := Option.bind_eq_some_iff.mp e
    have := toStrs_of e1
    subst this
    split at e2
    · rename_i hz
      cases e2
      obtain ⟨v2, rfl, rv⟩ := repVs_one r2
      have r1 := repV_str r1; subst r1
      obtain ⟨b, ws, rfl, hb, rb⟩ := repV_lst sF rv
      have := repL_strs.mp rb
      subst this
      refine mt_join pins s σ H _ _ v us Q I rx rs ⟨_, b, ys, rfl, rfl, .inl (SqL.of hb), ?_, q _ f H (PX.refl sF) rfl⟩
      have h1 := joinLen_le (a := (by assumption)) (ys := ys)
      have h2 : LIM ≤ 16777216 := by decide
      exact Nat.le_trans h1 (Nat.le_trans hz h2)
    · cases e2
  · cases e
theorem mt_spl : MtR X "str.split" (PRm k (evMt .split)) := fun pins s σ H x xs v us Q I rx rs h => by
  obtain ⟨f, d1, ds, d, sF, r1, r2, e, q⟩ := h
  have e : evSplit d1 ds = some d := e
  unfold evSplit at e
  split at e
  · split at e
    · rename_i hz
      cases e
      obtain ⟨v2, rfl, rv⟩ := repVs_one r2
      have r1 := repV_str r1; subst r1
      have rv := repV_str rv; subst rv
      refine mt_split pins s σ H _ _ v us Q I rx rs ⟨_, _, rfl, rfl, hz.1, ?_, fun p hp => ?_⟩
      · have h2 : LIM + 2 ≤ sizeLine := by rw [sizeLine_eq]; decide
        omega
      · obtain ⟨px, r⟩ := new_lst (k := k) (ds := (Txt.split _ _).map .str) sF hp (repL_strs.mpr rfl)
        exact q _ _ _ px r
    · cases e
  · cases e
end

section
variable {G : Nat → Option D} {Φ : Nat → FnSem} {k : Kx} {σ : L2.St} {H : Hp} {Q : VK} {W : XK}
/-- a method of built-in objects by its reading -/
theorem rd_bm {m : Mt} {T : String} {a : E} {es : List E} (hT : ∀ {f : Fz} {H : Hp} {d : D} {x : V}, Same f.F H → RepV k f H d x → mtRecv m d = true → tyV k.K T x H)
    (q : rd k W (evE G Φ (.mt m a es)) σ H Q) : tBM k.K T (PRm k (evMt m)) (rd k W (evE G Φ a)) (rdL k W (evL G Φ es)) σ H Q := by
  obtain ⟨env, S, w, a0, r0, e, q⟩ := q
  rw [evE] at e
  obtain ⟨r1, e1, q1⟩ := run_bnd (R := Rep k) a0 e q
  refine ⟨env, S, w, a0, r1, e1, q1.imp fun x H1 ⟨S1, w1, d1, a1, x1, rx, r2, e2, q2⟩ => ?_⟩
  split at e2
  · rename_i hm
    refine ⟨hT a1.sep.fh (vw_at a1 rx) hm, ?_⟩
    obtain ⟨r3, e3, q3⟩ := run_bnd (R := RepL k) a1 e2 q2
    refine ⟨env, S1, w1, a1, r3, e3, q3.imp fun ys H2 ⟨S2, w2, ds, a2, x2, ry, r4, e4, q4⟩ => ?_⟩
    obtain ⟨d, e5, q5⟩ := run_lift e4 q4
    exact ⟨w2.f, _, _, d, a2.sep.fh, vw_at a2 (rx.mono x2.le d1 x), vws_at a2 ry, e5, fun v g' H' px rv => q5 v ⟨g', w2.O⟩ H' (a2.px px) (ext_px a2.sep px) rv⟩
  · cases e2
theorem recv_lst {f : Fz} {H : Hp} {d : D} {x : V} (s : Same f.F H) (r : RepV k f H d x) (hm : mtRecv .count d = true) : tyV k.K "list" x H := by
  cases d with
  | lst ds => exact tyV_lst s r
  | _ => cases hm
theorem recv_str {m : Mt} {f : Fz} {H : Hp} {d : D} {x : V} (hn : m ≠ .count) (r : RepV k f H d x) (hm : mtRecv m d = true) : tyV k.K "str" x H := by
  cases d with
  | str z => exact tyV_str r
  | _ => cases m <;> first | exact absurd rfl hn | cases hm
theorem s_mt {m : Mt} {a : E} {es : List E} (ha : SE G Φ k a) (hs : ∀ c ∈ es, SE G Φ k c) : SE G Φ k (.mt m a es) := fun X W C g e h => by
  unfold chkE at h
  split at h
  · rename_i x y ap z xs cp
    simp only [Bool.and_eq_true, decide_eq_true_eq] at h
    obtain ⟨⟨⟨⟨⟨rfl, h2⟩, h3⟩, h4⟩, h5⟩, h6⟩ := h
    have ns := Bool.and_eq_true_iff.mp (show (noStar z && noStars xs) = true from chkEs_star h6)
    have hK := g.kk
    have hP := ha X W C g _ h5
    have hL := s_L (W := W) g es hs _ h6
    cases m with
    | count => exact PE.weak (pe_bm (name := mtName .count) PySem.F.plainAttrs_list PySem.F.slot_list_count PySem.F.type_list_count (mt_cnt hK) hP hL (base_of h3) (few_of ns.1 ns.2 h4) h2 (star_cons ns.1) (star_any ns.2)) fun σ H Q q => by rw [hK]; exact rd_bm recv_lst q
    | scount => exact PE.weak (pe_bm (name := mtName .scount) PySem.F.plainAttrs_str PySem.F.slot_str_count PySem.F.type_str_count (mt_scnt (k := k)) hP hL (base_of h3) (few_of ns.1 ns.2 h4) h2 (star_cons ns.1) (star_any ns.2)) fun σ H Q q => by rw [hK]; exact rd_bm (fun s r hm => recv_str (by simp) r hm) q
    | join => exact PE.weak (pe_bm (name := mtName .join) PySem.F.plainAttrs_str PySem.F.slot_str_join PySem.F.type_str_join (mt_jn hK) hP hL (base_of h3) (few_of ns.1 ns.2 h4) h2 (star_cons ns.1) (star_any ns.2)) fun σ H Q q => by rw [hK]; exact rd_bm (fun s r hm => recv_str (by simp) r hm) q
    | split => exact PE.weak (pe_bm (name := mtName .split) PySem.F.plainAttrs_str PySem.F.slot_str_split PySem.F.type_str_split (mt_spl (k := k)) hP hL (base_of h3) (few_of ns.1 ns.2 h4) h2 (star_cons ns.1) (star_any ns.2)) fun σ H Q q => by rw [hK]; exact rd_bm (fun s r hm => recv_str (by simp) r hm) q
  · cases h
/-! ### kinds -/
theorem ki_list {X : Cx} {C : SC} (g : Good X k W C G Φ) : ∀ {ks : List Ki} {us : List Expr}, kiList C ks us = true → PA X us (fun σ H Q => Q (ks.map fun q => V.ty (kiStr q)) H) ∧ noStars us = true
  | [], us, h => by
    unfold kiList at h
    have := List.isEmpty_iff.mp h
    subst this
    exact ⟨pa_nil, rfl⟩
  | q :: ks, us, h => by
    unfold kiList at h
    split at h
    · rename_i z pz r
      obtain ⟨h1, h2⟩ := Bool.and_eq_true_iff.mp h
      obtain ⟨rfl, hg2, hm2⟩ := isB_of g h1
      obtain ⟨n1, n2⟩ := ki_nm q
      obtain ⟨p1, p2⟩ := ki_list g h2
      exact ⟨PA.weak (pa_cons (pe_bltn (v := .ty (kiStr q)) hg2 hm2 (ki_boot q) rfl n1 n2) p1 (star_cons rfl)) fun σ H Q h => h, p2⟩
    · cases h
theorem kit_any {K : PySem.W.Frag} {t : String} {d : D} (h : ∀ q : Ki, kitB t (kiStr q) = some (isKi q d)) : ∀ ks : List Ki, PySem.W.kitAny K (.type t) (ks.map fun q => Value.type (kiStr q)) = some (ks.any fun q => isKi q d)
  | [] => kitAny_nil
  | q :: ks => by
    refine kitAny_cons (kit_ty (h q)) (fun e => ?_) (fun e => ?_)
    · rw [kit_any h ks, List.any_cons, e]; rfl
    · rw [List.any_cons, e]; rfl
theorem cls_map (ks : List Ki) : Paired ClsV (ks.map fun q => V.ty (kiStr q)) (ks.map fun q => Value.type (kiStr q)) := by
  induction ks with
  | nil => exact .nil
  | cons q ks ih => exact .cons (.ty _) ih
theorem s_isi {ks : List Ki} {one : Bool} {a : E} (ha : SE G Φ k a) : SE G Φ k (.isi ks one a) := fun X W C g e h => by
  unfold chkE at h
  split at h
  · rename_i x p y z pos
    simp only [Bool.and_eq_true] at h
    obtain ⟨⟨h1, h3⟩, h4⟩ := h
    obtain ⟨rfl, hg, hm⟩ := isB_of g h1
    have ns := (chk_plain C a _ h3).1
    have hK := g.kk
    have step : ∀ {σ : L2.St} {H : Hp} {Q : VK}, rd k W (evE G Φ (.isi ks one a)) σ H Q → rd k W (evE G Φ a) σ H fun x H1 => ∃ (f : Fz) (d : D), Same f.F H1 ∧ RepV k f H1 d x ∧ isRefD d = false ∧ (∀ H2, Same H1 H2 → Q (.bl (ks.any fun q => isKi q d)) H2) := fun {σ H Q} q => by
      obtain ⟨env, S, w, a0, r0, e, q⟩ := q
      rw [evE] at e
      obtain ⟨r1, e1, q1⟩ := run_bnd (R := Rep k) a0 e q
      refine ⟨env, S, w, a0, r1, e1, q1.imp fun x H1 ⟨S1, w1, d1, a1, x1, rx, r2, e2, q2⟩ => ?_⟩
      split at e2
      · cases e2
      · rename_i hr
        cases e2
        refine ⟨w1.f, _, a1.sep.fh, vw_at a1 rx, by simpa using hr, fun H2 sH => ?_⟩
        have px : PX w1.f H1 w1.f H2 := ⟨Same.refl _, rfl, a1.sep.fh.trans sH, sH, fun _ o e => .inl ⟨o, e⟩⟩
        exact q2 _ ⟨w1.f, w1.O⟩ H2 (a1.px px) (ext_px a1.sep px) rfl
    split at h4
    · rename_i u pu
      obtain ⟨ho, h4⟩ := Bool.and_eq_true_iff.mp h4
      have hk : ∃ q, ks = [q] := by
        rcases ks with _ | ⟨q, _ | ⟨_, _⟩⟩
        · cases h4
        · exact ⟨q, rfl⟩
        · cases h4
      obtain ⟨q, rfl⟩ := hk
      · obtain ⟨rfl, hg2, hm2⟩ := isB_of g (show isB C u (kiName q) = true from h4)
        obtain ⟨n1, n2⟩ := ki_nm q
        have pz : PE X (.Name (kiName q) pu) (tC (.ty (kiStr q))) := pe_bltn hg2 hm2 (ki_boot q) rfl n1 n2
        refine PE.weak (pe_callB call_isi hg hm boot_isinstance (pa_cons (ha X W C g _ h3) (pa_cons pz pa_nil (star_cons rfl)) (star_cons ns)) (by decide) (by decide) (star_cons ns) (star_any rfl)) fun σ H Q z => ?_
        refine (?_ : rd k W (evE G Φ a) σ H _)
        obtain ⟨env, S, w, a0, r0, e0, q0⟩ := step z
        refine ⟨env, S, w, a0, r0, e0, q0.imp fun x H1 ⟨f, d, s1, rv, hr, qq⟩ => ?_⟩
        obtain ⟨t, ty, kt⟩ := ty_of (X := X) hK s1 rv hr
        refine ⟨x, _, _, _, isKi q d, rfl, .ty _, ty, kit_ty (kt q), ?_⟩
        have := qq H1 (Same.refl _)
        simpa using this
    · rename_i us kt pt
      obtain ⟨ho, h4⟩ := Bool.and_eq_true_iff.mp h4
      have hlen := of_decide_eq_true (Bool.and_eq_true_iff.mp ho).2
      obtain ⟨pk, pn⟩ := ki_list (W := W) g h4
      refine PE.weak (pe_callB call_isiT hg hm boot_isinstance (pa_cons (ha X W C g _ h3) (pa_cons (pe_tup pk) pa_nil (star_cons rfl)) (star_cons ns)) (by decide) (by decide) (star_cons ns) (star_any rfl)) fun σ H Q z => ?_
      refine (?_ : rd k W (evE G Φ a) σ H _)
      obtain ⟨env, S, w, a0, r0, e0, q0⟩ := step z
      refine ⟨env, S, w, a0, r0, e0, q0.imp fun x H1 ⟨f, d, s1, rv, hr, qq⟩ => ?_⟩
      refine ⟨lim_line (by rw [List.length_map]; unfold LIM; omega), fun p hp => ?_⟩
      have sH := same_new (o := .tup (ks.map fun q => V.ty (kiStr q))) hp
      obtain ⟨t, ty, kt⟩ := ty_of (X := X) hK (s1.trans sH) (rv.up sH) hr
      exact ⟨x, p, _, _, _, _, rfl, upd_same, cls_map ks, ty, kit_any kt ks, qq _ sH⟩
    · cases h4
  · cases h

/-! ### sorted(set(a) ^ set(b)) -/
theorem evSx_of {a b d : D} (h : evSx a b = some d) : ∃ xs ys : List Int, a = .tup (xs.map .int) ∧ b = .tup (ys.map .int) ∧ xs.Nodup ∧ ys.Nodup ∧ xs.length ≤ 60 ∧ ys.length ≤ 60 ∧ (symI xs ys).length < 64 ∧ d = .lst ((symI xs ys).map .int) := by
  unfold evSx at h
  split at h
  · obtain ⟨xs, e1, h⟩ := Option.bind_eq_some_iff.mp h
    obtain ⟨ys, e2, h⟩ := Option.bind_eq_some_iff.mp h
    split at h
    · rename_i z
      cases h
      obtain ⟨z1, z2, z3, z4, _, z5⟩ := z
      exact ⟨xs, ys, by rw [toInts_of e1], by rw [toInts_of e2], z1, z2, z3, z4, z5, rfl⟩
    · cases h
  · cases h
theorem okSx_of {a : D} (h : okSx a = true) : ∃ xs : List Int, a = .tup (xs.map .int) ∧ xs.Nodup ∧ xs.length ≤ 60 := by
  unfold okSx at h
  split at h
  · split at h
    · rename_i xs hx
      have := of_decide_eq_true h
      exact ⟨xs, by rw [toInts_of hx], this.1, this.2⟩
    · cases h
  · cases h
theorem boot_sorted' : bootBuiltins "sorted" = some (.builtin "sorted") := by decide +kernel
theorem boot_set' : bootBuiltins "set" = some (.type "set") := by decide +kernel
theorem s_sx {a b : E} (ha : SE G Φ k a) (hb : SE G Φ k b) : SE G Φ k (.sx a b) := fun X W C g e h => by
  unfold chkE at h
  split at h
  · simp only [Bool.and_eq_true] at h
    obtain ⟨⟨⟨⟨h1, h2⟩, h3⟩, h4⟩, h5⟩ := h
    obtain ⟨rfl, hg, hm⟩ := isB_of g h1
    obtain ⟨rfl, hg2, hm2⟩ := isB_of g h2
    obtain ⟨rfl, _, _⟩ := isB_of g h3
    have hc := g.calm
    have hK := g.kk
    have sa := (chk_plain C a _ h4).1
    have sb := (chk_plain C b _ h5).1
    refine PE.weak (pe_callB (cr_sortedSet hc) hg hm boot_sorted' (pa_cons (pe_op op_xorS (pe_callTy (cr_setTI hc) hg2 hm2 boot_set' (pa_cons (ha X W C g _ h4) pa_nil (star_cons sa)) (by decide) (by decide) (star_cons sa) (star_any rfl))
      (pe_callTy (cr_setTI hc) hg2 hm2 boot_set' (pa_cons (hb X W C g _ h5) pa_nil (star_cons sb)) (by decide) (by decide) (star_cons sb) (star_any rfl))) pa_nil (star_cons rfl)) (by decide) (by decide) (star_cons rfl) (star_any rfl)) fun σ H Q q => ?_
    obtain ⟨env, S, w, a0, r, e, q⟩ := q
    rw [evE] at e
    cases m1 : evE G Φ a env S with
    | none => rw [m1] at e; cases e
    | some rr1 =>
      rw [m1] at e
      refine (?_ : rd k W (evE G Φ a) σ H _)
      refine ⟨env, S, w, a0, rr1, m1, ?_⟩
      cases rr1 with
      | ex x S1 => cases e; exact q
      | ok d1 S1 =>
        rw [bnd_ok] at e
        refine fun v1 w1 H1 at1 x1 rp1 => ?_
        split at e
        · rename_i hok
          cases m2 : evE G Φ b env S1 with
          | none => rw [m2] at e; cases e
          | some rr2 =>
            rw [m2] at e
            obtain ⟨xs, rfl, n1, l1⟩ := okSx_of hok
            obtain ⟨a1, vs1, rfl, s1, rl1⟩ := rep_tup.mp rp1
            have := RepL.ints.mp rl1; subst this
            refine ⟨a1, xs, rfl, by rw [hK]; exact Same.seqT at1.sep.fh s1, by omega, fun A c hA mA cA => ?_⟩
            have pxA : PX w1.f H1 w1.f (upd H1 A (SetO X.w A (fun j => decide (j ∈ xs)) c)) := PX.newH at1.sep.fh hA
            have at1' := at1.px pxA
            have x1' := x1.trans a0.sep at1.sep (ext_px at1.sep pxA)
            refine (?_ : rd k W (evE G Φ b) σ _ _)
            refine ⟨env, S1, _, at1', rr2, m2, ?_⟩
            cases rr2 with
            | ex x S2 => cases e; exact q.ext a0.sep at1'.sep x1'
            | ok d2 S2 =>
              rw [bnd_ok] at e
              refine fun v2 w2 H2 at2 x2 rp2 => ?_
              cases m3 : evSx (D.tup (xs.map .int)) d2 with
              | none => rw [m3] at e; cases e
              | some d3 =>
                rw [m3] at e
                cases e
                obtain ⟨xs', ys, z1, rfl, _, n2, _, l2, lS, rfl⟩ := evSx_of m3
                have : xs' = xs := by
                  injection z1 with z1
                  have := congrArg toInts z1
                  rw [toInts_map, toInts_map] at this
                  exact (Option.some.inj this).symm
                subst this
                obtain ⟨a2, vs2, rfl, s2, rl2⟩ := rep_tup.mp rp2
                have := RepL.ints.mp rl2; subst this
                have hA2 : H2 A = some (SetO X.w A (fun j => decide (j ∈ xs')) c) := x2.hh A _ upd_same fun i => (at1.sep.oh i).free hA
                refine ⟨a2, ys, rfl, by rw [hK]; exact Same.seqT at2.sep.fh s2, by omega, fun B c2 hB mB cB => ?_⟩
                have pxB : PX w2.f H2 w2.f (upd H2 B (SetO X.w B (fun j => decide (j ∈ ys)) c2)) := PX.newH at2.sep.fh hB
                have hA3 : upd H2 B (SetO X.w B (fun j => decide (j ∈ ys)) c2) A = some (SetO X.w A (fun j => decide (j ∈ xs')) c) := by rw [upd_ne (ne_of_none hA2 hB)]; exact hA2
                refine ⟨A, B, (fun j => decide (j ∈ xs')), (fun j => decide (j ∈ ys)), c, c2, rfl, rfl, hA3, upd_same, by omega, by omega, fun p cp hp mp => ?_⟩
                have pxp : PX w2.f (upd H2 B (SetO X.w B (fun j => decide (j ∈ ys)) c2)) w2.f _ := PX.newH (o := SetO X.w p (fun j => if decide (j ∈ xs') = true then !decide (j ∈ ys) else decide (j ∈ ys)) cp) pxB.fh hp
                obtain ⟨ks, k1, k2, k3⟩ := mp
                have kp : ks.Perm (symI xs' ys) := (List.perm_ext_iff_of_nodup k1 (symI_nodup n1 n2)).mpr fun j => (k3 j).trans (symI_mem j).symm
                have hcp : cp < 64 := by rw [← k2, kp.length_eq]; exact lS
                refine ⟨p, _, cp, rfl, upd_same, hcp, fun ns r hs hm hl hr => ?_⟩
                have en : ns = symI xs' ys := by
                  refine sorted_one ?_ (hs.imp Int.le_of_lt) (symI_sorted _ _)
                  exact (List.perm_ext_iff_of_nodup (hs.imp Int.ne_of_lt) (symI_nodup n1 n2)).mpr fun j => (hm j).trans (symI_mem j).symm
                subst en
                have pxr := new_lst (k := k) (ds := (symI xs' ys).map .int) (vs := (symI xs' ys).map V.int) (pxB.trans pxp).fh hr (RepL.ints.mpr rfl)
                have pxa := (pxB.trans pxp).trans pxr.1
                have x2' := x1'.trans a0.sep at1'.sep x2
                exact q _ ⟨_, w2.O⟩ _ (at2.px pxa) (x2'.trans a0.sep at2.sep (ext_px at2.sep pxa)) pxr.2
        · cases e
  · cases h
end
end Sf

/-! Sf.En: enumerate of a list or a tuple; nothing is owed any more. -/
namespace Sf
open PySem PySem.Spec PyProof.Rows L2

section
variable {prog : Program} {w : World} {A : Around} {E : Value → Shared → Prop} {s : Shared}
theorem enum_newT (l : Addr) (items : Array Value) (n : Nat) (dct : Option Addr) (sl : Array (Option Value)) :
    Meets (Builtin.«enumerate.__new__» ⟨[.type "enumerate", .ref l], []⟩) (fun _ R s => s.heap.get? l = some { cls := .type "tuple", dict := dct, data := .seq items n, slots := sl } ∧
      R (.ok (.ret (.ref (s.heap.push { cls := .type "tuple_iterator", data := .fields #[.ref l, .int 0 0] }).objs.size)))
        { s with heap := (s.heap.push { cls := .type "tuple_iterator", data := .fields #[.ref l, .int 0 0] }).push { cls := .type "enumerate", data := .fields #[.none, .bool false, .ref s.heap.objs.size, rawInt 0, .none, .none] } }) :=
  .of_wp fun prog w A R s h => by
    obtain ⟨hp, g, d, tk, os⟩ := s; obtain ⟨hl, h⟩ := h
    have hsub := sub_enumerate
    have hT : Heap.IsTuple (Shared.heap ⟨hp, g, d, tk, os⟩) l items := ⟨_, hl, rfl, n, rfl⟩
    wp_walk using PySem.AutoSeq1.wpAny_loadPart' hl
    refine wpAny_stack_any fun st => wpAny_pure ?_
    split
    · rename_i c _ _ _ _ _
      cases (c == Value.type "enumerate") <;> (wp_walk using PySem.AutoSeq1.wpAny_loadPart' hl, wpAny_pyIter_tuple hT; exact ⟨_, rfl, h⟩)
    · wp_walk using PySem.AutoSeq1.wpAny_loadPart' hl, wpAny_pyIter_tuple hT
      exact ⟨_, rfl, h⟩
theorem call_enumT {l : Addr} {items : Array Value} {Q : Value → Shared → Prop} (hT : s.heap.IsTuple l items)
    (h : ∀ h', IsEnum h' (s.heap.objs.size + 1) s.heap.objs.size 0 .none → h'.IsTupleIter s.heap.objs.size l 0 → (∀ b o, s.heap.get? b = some o → h'.get? b = some o) → Q (.ref (s.heap.objs.size + 1)) { s with heap := h' }) :
    wpAny (model prog w) A (call (.type "enumerate") [.ref l]) Q E s := by
  obtain ⟨⟨c, dct, dt, sl⟩, hl, hc, n, hd⟩ := hT
  have hc : c = .type "tuple" := hc
  have hd : dt = .seq items n := hd
  subst hc hd
  have hz : (s.heap.push { cls := .type "tuple_iterator", data := .fields #[.ref l, .int 0 0] }).objs.size = s.heap.objs.size + 1 := Heap.size_push ..
  refine callType_new F.called_enumerate (by decide) (F.typeCall_enumerate_1 _) (F.newCall_enumerate_1 _) (fun obj => F.args_object_init_2 obj _) F.entry_enumerate_new (enum_newT l items n dct sl) ⟨hl, ?_⟩
  show _ ∧ _
  rw [hz]
  have he := Heap.get?_push_size (s.heap.push { cls := .type "tuple_iterator", data := .fields #[.ref l, .int 0 0] }) (o := { cls := .type "enumerate", data := .fields #[.none, .bool false, .ref s.heap.objs.size, rawInt 0, .none, .none] }) rfl
  rw [hz] at he
  exact ⟨⟨_, he, rfl⟩, h _ he ⟨_, Heap.get?_push_of_some _ (Heap.get?_push_size _ rfl), rfl, rfl⟩ fun b o x => Heap.get?_push_of_some _ (Heap.get?_push_of_some _ x)⟩
end
/-- the tuple at a as it stands at each turn, each item in a new pair -/
def Iten (K : PySem.W.Frag) (a : Addr) : It :=
  ⟨fun i H => ∃ (xs : List V) (x : V), SqT K H a xs ∧ xs[i]? = some x, fun i H v H' => ∃ T x, v = .ref T ∧ H T = none ∧ H' = upd H T (.tup [.int (i : Nat), x]) ∧ ∀ xs, SqT K H a xs → xs[i]? = some x, fun i H => ∃ xs : List V, SqT K H a xs ∧ xs.length = i⟩
theorem walk_enumT {K : PySem.W.Frag} {a : Addr} {xs : List V} : L2.Walk (Iten K a) xs.length (fun H => SqT K H a xs) (YPair (fun i => some (.int (i : Nat))) (fun i => xs[i]?)) := by
  refine ⟨fun i _ hi q => ⟨xs, xs[i], q, by simp [hi]⟩, fun _ q => ⟨xs, q, rfl⟩, fun i H v H' _ q y => ?_⟩
  obtain ⟨T, x, h1, h2, h3, h4⟩ := y
  exact ⟨T, .int (i : Nat), x, h1, h2, h3, rfl, h4 xs q⟩
theorem turn_enumT {P : Program} {w : World} {K : PySem.W.Frag} {elts : List Expr} {kk : Nat} {tpos : Pos} (a e it : Addr) (hai : a ≠ it) (hae : a ≠ e) :
    Turn P w K (.Tuple elts kk tpos) (Iten K a) [e, it] e (fun i h => (∃ old, IsEnum h e it ((i : Nat) : Int) old) ∧ h.IsTupleIter it a i ∧ e ≠ it) where
  mem := by simp
  obj := fun i h st b hb => by
    obtain ⟨⟨old, he⟩, ⟨o, ho, hc, hd⟩, _⟩ := st
    rcases List.mem_cons.mp hb with z | z
    · subst z; exact ⟨_, he, fun v q => nomatch q⟩
    · rw [List.mem_singleton.mp z]; exact ⟨o, ho, fun v q => by rw [hd] at q; cases q⟩
  keep := fun i h h' st k => ⟨st.1.imp fun old he => k e (by simp) _ he, st.2.1.at fun o q => k it (by simp) o q, st.2.2⟩
  item := by
    intro X hP hw hK hc i pins s σ H E I hf st hg
    subst hP hw hK
    obtain ⟨⟨old, he⟩, hit, hne⟩ := st
    obtain ⟨xs, x, hq, hx⟩ := hg
    obtain ⟨its, rv, p, hz⟩ := I.tuple hq
    obtain ⟨u, hu, ru⟩ := rv.get hx
    have hel : e < s.heap.objs.size := Heap.lt_size he
    have hil : it < s.heap.objs.size := by obtain ⟨_, q, _⟩ := hit; exact Heap.lt_size q
    have hlt : i < its.toArray.size := by
      have := (List.getElem?_eq_some_iff.mp hu).1
      simpa using this
    refine wpAny_pyNext_enum_itemD (Draws.tuple (A := X.A.in1) (I.ok.hd hc) it a hai its.toArray) he ⟨hit, (show s.heap.IsTuple a its.toArray from p)⟩ hlt hne (by simp [hne, Ne.symm hae]) fun y h' tk hy ho hst hT hsz hk => ?_
    have ey : y = u := by
      have hy : its.toArray[i]? = some y := hy
      rw [List.getElem?_toArray, hu] at hy
      exact (Option.some.inj hy).symm
    subst ey
    refine ⟨_, rfl, wpAny_letOwnedTupleGo_enum (s := { s with heap := h', toks := tk + 1 }) ho fun h'' he' sb => ?_⟩
    have hT2 : h''.get? s.heap.objs.size = some { cls := .type "tuple", data := .seq #[.int i tk, y] } := (sb.2 _ (Nat.ne_of_gt hel)).trans hT
    have new : ObjOk X.prog X.w (upd H s.heap.objs.size (.tup [.int (i : Nat), x])) h'' s.heap.objs.size (.tup [.int (i : Nat), x]) :=
      ⟨by show 2 ≤ sizeLine; decide, [.int i tk, y], .cons ⟨_, rfl⟩ (.cons ru .nil), ⟨_, hT2, rfl, _, rfl⟩⟩
    have I1 : Inv X pins σ (upd H s.heap.objs.size (.tup [.int (i : Nat), x])) { s with heap := h'', toks := tk + 1 } :=
      I.turnedNew (ch := [e, it]) (fun b ob hb q => (sb.2 b (fun z => hb (by simp [z]))).trans (hk b ob (fun z => hb (by simp [z])) (fun z => hb (by simp [z])) q)) hf (Nat.le_refl _) new
    refine ⟨.ref s.heap.objs.size, _, I1, rfl, ⟨_, x, rfl, I.hok.fresh (Nat.le_refl _), rfl, fun ys hy => by rw [I.tuple_inj hy hq]; exact hx⟩, ⟨⟨y, ?_⟩, hst.1.at fun o q => (sb.2 it (Ne.symm hne)).trans q, hne⟩, fun b hb => ?_⟩
    · have e1 : ((i + 1 : Nat) : Int) = (i : Int) + 1 := by omega
      rw [e1]; exact he'
    · have hb' : b < s.heap.objs.size := by
        rcases List.mem_cons.mp hb with z | z
        · rw [z]; exact hel
        · rw [List.mem_singleton.mp z]; exact hil
      rw [upd_ne (Nat.ne_of_lt hb')]
      exact (hf b hb).1
  done := by
    intro X hP hw hK hc i pins s σ H E I hf st hg
    subst hP hw hK
    obtain ⟨⟨old, he⟩, hit, hne⟩ := st
    obtain ⟨xs, hq, hx⟩ := hg
    obtain ⟨its, rv, p, hz⟩ := I.tuple hq
    obtain ⟨f0, f1, f2, f3, f4, f5⟩ := hf it (by simp)
    have hz2 : its.toArray.size = i := by
      have := rv.length
      rw [List.size_toArray]; omega
    have hit' : s.heap.IsTupleIter it a its.toArray.size := by rw [hz2]; exact hit
    exact wpAny_pyNext_enum_endD (Draws.tuple (A := X.A.in1) (I.ok.hd hc) it a hai its.toArray) he ⟨hit', (show s.heap.IsTuple a its.toArray from p)⟩ fun h' eb => ⟨rfl, I.turned (t' := s.toks) (fun b o hb q => eb b o hb q) f0 f1 f3 f4 f5⟩
  self := fun A i s Q E st h => st.1.elim fun _ he => wpAny_pyIter_enum he h
/-- a text's signs, each in a new pair behind its place -/
def Itens (x : Str) : It :=
  ⟨fun i _ => i < x.cps.size, fun i H v H' => ∃ T c, v = .ref T ∧ H T = none ∧ H' = upd H T (.tup [.int (i : Nat), .str ⟨#[c]⟩]) ∧ x.cps[i]? = some c, fun i _ => x.cps.size = i⟩
def sgnV (x : Str) : List V := x.cps.toList.map fun c => .str ⟨#[c]⟩
theorem walk_enumS {x : Str} : L2.Walk (Itens x) (sgnV x).length (fun _ => True) (YPair (fun i => some (.int (i : Nat))) (fun i => (sgnV x)[i]?)) := by
  refine ⟨fun i _ hi _ => by simpa [sgnV, Itens] using hi, fun _ _ => by simp [sgnV, Itens], fun i H v H' _ _ y => ?_⟩
  obtain ⟨T, c, h1, h2, h3, h4⟩ := y
  exact ⟨T, .int (i : Nat), .str ⟨#[c]⟩, h1, h2, h3, rfl, by simp [sgnV, h4]⟩
theorem turn_enumS {P : Program} {w : World} {K : PySem.W.Frag} {elts : List Expr} {kk : Nat} {tpos : Pos} (x : Str) (t : Tok) (e it : Addr) :
    Turn P w K (.Tuple elts kk tpos) (Itens x) [e, it] e (fun i h => (∃ old, IsEnum h e it ((i : Nat) : Int) old) ∧ h.IsStrIter it (strIterType x) x t i ∧ e ≠ it) where
  mem := by simp
  obj := fun i h st b hb => by
    obtain ⟨⟨old, he⟩, ⟨o, ho, hc, hd⟩, _⟩ := st
    rcases List.mem_cons.mp hb with z | z
    · subst z; exact ⟨_, he, fun v q => nomatch q⟩
    · rw [List.mem_singleton.mp z]; exact ⟨o, ho, fun v q => by rw [hd] at q; cases q⟩
  keep := fun i h h' st k => ⟨st.1.imp fun old he => k e (by simp) _ he, by
    obtain ⟨o, ho, r⟩ := st.2.1
    exact ⟨o, k it (by simp) o ho, r⟩, st.2.2⟩
  item := by
    intro X hP hw hK hc i pins s σ H E I hf st hg
    subst hP hw hK
    obtain ⟨⟨old, he⟩, hit, hne⟩ := st
    have hlt : i < x.cps.size := hg
    have hel : e < s.heap.objs.size := Heap.lt_size he
    have hil : it < s.heap.objs.size := by obtain ⟨_, q, _⟩ := hit; exact Heap.lt_size q
    refine wpAny_pyNext_enum_itemD (Draws.text (A := X.A.in1) (I.ok.hd hc) it x t) he hit hlt hne (by simp [hne]) fun y h' tk hy ho hst hT hsz hk => ?_
    obtain ⟨c, u, hc1, rfl⟩ := hy
    refine ⟨_, rfl, wpAny_letOwnedTupleGo_enum (s := { s with heap := h', toks := tk + 1 }) ho fun h'' he' sb => ?_⟩
    have hT2 : h''.get? s.heap.objs.size = some { cls := .type "tuple", data := .seq #[.int i tk, .str ⟨#[c]⟩ u] } := (sb.2 _ (Nat.ne_of_gt hel)).trans hT
    have new : ObjOk X.prog X.w (upd H s.heap.objs.size (.tup [.int (i : Nat), .str ⟨#[c]⟩])) h'' s.heap.objs.size (.tup [.int (i : Nat), .str ⟨#[c]⟩]) :=
      ⟨by show 2 ≤ sizeLine; decide, [.int i tk, .str ⟨#[c]⟩ u], .cons ⟨_, rfl⟩ (.cons ⟨_, rfl⟩ .nil), ⟨_, hT2, rfl, _, rfl⟩⟩
    have I1 : Inv X pins σ (upd H s.heap.objs.size (.tup [.int (i : Nat), .str ⟨#[c]⟩])) { s with heap := h'', toks := tk + 1 } :=
      I.turnedNew (ch := [e, it]) (fun b ob hb q => (sb.2 b (fun z => hb (by simp [z]))).trans (hk b ob (fun z => hb (by simp [z])) (fun z => hb (by simp [z])) q)) hf (Nat.le_refl _) new
    refine ⟨.ref s.heap.objs.size, _, I1, rfl, ⟨_, c, rfl, I.hok.fresh (Nat.le_refl _), rfl, hc1⟩, ⟨⟨.str ⟨#[c]⟩ u, ?_⟩, ?_, hne⟩, fun b hb => ?_⟩
    · have e1 : ((i + 1 : Nat) : Int) = (i : Int) + 1 := by omega
      rw [e1]; exact he'
    · obtain ⟨o, ho, r⟩ := hst
      exact ⟨o, (sb.2 it (Ne.symm hne)).trans ho, r⟩
    · have hb' : b < s.heap.objs.size := by
        rcases List.mem_cons.mp hb with z | z
        · rw [z]; exact hel
        · rw [List.mem_singleton.mp z]; exact hil
      rw [upd_ne (Nat.ne_of_lt hb')]
      exact (hf b hb).1
  done := by
    intro X hP hw hK hc i pins s σ H E I hf st hg
    subst hP hw hK
    obtain ⟨⟨old, he⟩, hit, hne⟩ := st
    have hz2 : x.cps.size = i := hg
    subst hz2
    obtain ⟨f0, f1, f2, f3, f4, f5⟩ := hf it (by simp)
    exact wpAny_pyNext_enum_endD (Draws.text (A := X.A.in1) (I.ok.hd hc) it x t) he hit fun h' eb => ⟨rfl, I.turned (t' := s.toks) (fun b o hb q => eb b o hb q) f0 f1 f3 f4 f5⟩
  self := fun A i s Q E st h => st.1.elim fun _ he => wpAny_pyIter_enum he h
theorem en_rule {X : Cx} {e : Expr} {ta : TA} {p pos tpos : Pos} {elts : List Expr} {kk : Nat} (hc : X.calm = true) (hg : Gl X "enumerate") (hm : X.mg "enumerate" = none) (ha : PA X [e] ta) (hs : starEach [e] X.env = [(false, eval e X.env)]) :
    PI X (.Tuple elts kk tpos) (.Call (.Name "enumerate" p) [e] [] pos) fun σ H R => ta σ H fun vs H1 => (∃ a xs, vs = [.ref a] ∧ ((SqL X.K H1 a xs ∧ R (Ite X.K a) H1) ∨ (SqT X.K H1 a xs ∧ ∀ J, L2.Walk J xs.length (fun H => SqT X.K H a xs) (YPair (fun i => some (.int (i : Nat))) (fun i => xs[i]?)) → R J H1))) ∨ ∃ x, vs = [.str x] ∧ R (Itens x) H1 := by
  refine ⟨fun pins s σ H R I h => ?_⟩
  refine Call_ (ld_blt I hg hm boot_enumerate (PyProof.Rows.callWith_type1 (thn (ha.run pos pins s σ H _ I h) fun us s1 ⟨vs, H1, I1, r1, q1⟩ => ?_) hs rfl))
  have fp : ∀ b ∈ [s1.heap.objs.size + 1, s1.heap.objs.size], FpOk X pins H1 b := fun b hb => by
    have hle : s1.heap.objs.size ≤ b := by
      rcases List.mem_cons.mp hb with z | z
      · omega
      · rw [List.mem_singleton.mp z]; exact Nat.le_refl _
    exact I1.fpOk hle (I1.hok.fresh hle)
  rcases q1 with ⟨a, xs, ex, hq⟩ | ⟨x, ex, q⟩
  · subst ex
    rw [Vals.ref1 r1]
    rcases hq with ⟨hq, q⟩ | ⟨hq, q⟩
    · obtain ⟨its, rv, p', hz⟩ := I1.list hq
      refine call_enumerate_list p'.isList fun h' he hit hsz hk => wpAny_pyIter_enum he ?_
      exact ⟨s1.heap.objs.size + 1, [s1.heap.objs.size + 1, s1.heap.objs.size], _, _, H1, rfl, I1.kept (t' := s1.toks) hk, turn_enum a (s1.heap.objs.size + 1) s1.heap.objs.size, ⟨⟨.none, he⟩, hit, Nat.succ_ne_self _⟩, fp, q⟩
    · obtain ⟨its, rv, p', hz⟩ := I1.tuple hq
      have hal : a < s1.heap.objs.size := by obtain ⟨o, ho, _⟩ := p'; exact Heap.lt_size ho
      refine call_enumT (show s1.heap.IsTuple a its.toArray from p') fun h' he hit hk => wpAny_pyIter_enum he ?_
      exact ⟨s1.heap.objs.size + 1, [s1.heap.objs.size + 1, s1.heap.objs.size], _, _, H1, rfl, I1.kept (t' := s1.toks) hk, turn_enumT a (s1.heap.objs.size + 1) s1.heap.objs.size (Nat.ne_of_lt hal) (Nat.ne_of_lt (Nat.lt_succ_of_lt hal)), ⟨⟨.none, he⟩, hit, Nat.succ_ne_self _⟩, fp, q _ walk_enumT⟩
  · subst ex
    obtain ⟨u, e1, t, rfl⟩ : ∃ u, us = [u] ∧ ∃ t, u = .str x t := by
      cases r1 with
      | cons h t => cases t; obtain ⟨t, h⟩ := h; exact ⟨_, rfl, t, h⟩
    subst e1
    refine call_enumerate_str fun h' he hit hsz hk => wpAny_pyIter_enum he ?_
    exact ⟨s1.heap.objs.size + 1, [s1.heap.objs.size + 1, s1.heap.objs.size], _, _, H1, rfl, I1.kept (t' := s1.toks) hk, turn_enumS x t (s1.heap.objs.size + 1) s1.heap.objs.size, ⟨⟨.none, he⟩, hit, Nat.succ_ne_self _⟩, fp, q⟩
end Sf

/-! Sf.Snd: sources, new objects, all terms. -/
namespace Sf
open PySem PySem.Spec PyProof.Rows L2

section
variable {X : Cx} {tg : Expr}
/-- a list or a tuple, walked -/
def iSeq (K : PySem.W.Frag) (tl : TE) : TI := fun σ H R => tl σ H fun x H1 => ∃ a, x = .ref a ∧ (((∃ xs, SqL K H1 a xs) ∧ R (Itl K a) H1) ∨ ((∃ xs, SqT K H1 a xs) ∧ R (Itt K a) H1))
theorem pi_seq {l : Expr} {tl : TE} (hl : PE X l tl) : PI X tg l (iSeq X.K tl) := by
  refine ⟨fun pins s σ H R I h => thn (hl.run pins s σ H _ I h) fun v s1 ⟨x, H1, I1, r1, a, e, q1⟩ => ?_⟩
  subst e
  cases r1
  have fresh : ∀ b ∈ [s1.heap.objs.size], FpOk X pins H1 b := fun b hb => by
    rw [List.mem_singleton.mp hb]
    exact I1.fpOk (Nat.le_refl _) (I1.hok.fresh (Nat.le_refl _))
  rcases q1 with ⟨⟨xs, hq⟩, q⟩ | ⟨⟨xs, hq⟩, q⟩
  · obtain ⟨its, rv, p, hz⟩ := I1.list hq
    exact wpAny_pyIter_list p.isList ⟨s1.heap.objs.size, [s1.heap.objs.size], _, _, H1, rfl, I1.kept (t' := s1.toks) fun b o e => Heap.get?_push_of_some _ e, turn_list a _, ⟨_, Heap.get?_push_size _ rfl, rfl, rfl⟩, fresh, q⟩
  · obtain ⟨its, rv, p, hz⟩ := I1.tuple hq
    exact wpAny_pyIter_tuple (show s1.heap.IsTuple a its.toArray from p) ⟨s1.heap.objs.size, [s1.heap.objs.size], _, _, H1, rfl, I1.kept (t' := s1.toks) fun b o e => Heap.get?_push_of_some _ e, turn_tuple a _, ⟨_, Heap.get?_push_size _ rfl, rfl, rfl⟩, fresh, q⟩
end

section
variable {G : Nat → Option D} {Φ : Nat → FnSem} {k : Kx} {σ : L2.St} {H : Hp} {Q : VK} {W : XK}
theorem i_seq {a : E} (ha : SE G Φ k a) : SI G Φ k (.seq a) := fun X W C g tg e _ h _ => by
  unfold chkSrc at h
  refine PI.weak (pi_seq (ha X W C g e h)) fun σ H Q q => ?_
  have hK := g.kk
  obtain ⟨env, S, w, a0, r, e, q⟩ := q
  rw [evE] at e
  obtain ⟨r1, e1, q1⟩ := run_bnd (R := Rep k) a0 e q
  refine ⟨env, S, w, a0, r1, e1, q1.imp fun x H1 ⟨S1, w1, d1, a1, x1, rx, r2, e2, q2⟩ => ?_⟩
  obtain ⟨d, e3, q3⟩ := run_lift e2 q2
  obtain ⟨ds, e4, rfl⟩ := Option.map_eq_some_iff.mp e3
  cases d1 with
  | lst es =>
    cases e4
    obtain ⟨b, vs, rfl, hb, rb⟩ := rep_lst.mp rx
    exact ⟨b, rfl, .inl ⟨⟨vs, SqL.of (a1.sep.fh _ _ hb)⟩, q3 _ w1 H1 a1 Ext.refl ⟨_, rfl, by rw [hK]; exact wlk_list hb rb⟩⟩⟩
  | tup es =>
    cases e4
    obtain ⟨b, vs, rfl, hb, rb⟩ := rep_tup.mp rx
    exact ⟨b, rfl, .inr ⟨⟨vs, by rw [hK]; exact Same.seqT a1.sep.fh hb⟩, q3 _ w1 H1 a1 Ext.refl ⟨_, rfl, by rw [hK]; exact wlk_tup hb rb⟩⟩⟩
  | scr ns =>
    cases e4
    obtain ⟨b, rfl, hb⟩ := rep_scr.mp rx
    exact ⟨b, rfl, .inl ⟨⟨_, by rw [hK]; exact a1.sep.fh.seq hb⟩, q3 _ w1 H1 a1 Ext.refl ⟨_, rfl, by rw [hK]; exact wlk_scr hb⟩⟩⟩
  | _ => cases e4
theorem inR_of {i : Int} (h : inR i = true) : -(2 ^ 62) ≤ i ∧ i < 2 ^ 62 := by
  have := of_decide_eq_true h
  omega
theorem i_rng {es : List E} (hs : ∀ c ∈ es, SE G Φ k c) : SI G Φ k (.rng es) := fun X W C g tg e _ h _ => by
  unfold chkSrc at h
  split at h
  · rename_i x p xs pos
    simp only [Bool.and_eq_true, Bool.or_eq_true] at h
    obtain ⟨⟨h1, h2⟩, h3⟩ := h
    obtain ⟨rfl, hg, hm⟩ := isB_of g h1
    have hl := chkEs_len h2
    have ns := chkEs_star h2
    have pa := s_L (W := W) g es hs xs h2
    have key : ∀ {σ : L2.St} {H : Hp} {R : It → Hp → Prop}, rdI k W (evE G Φ (.rng es)) σ H R → rdL k W (evL G Φ es) σ H fun vs H1 => (∃ j : Int, vs = [.int j] ∧ es.length = 1 ∧ -(2 ^ 62) ≤ j ∧ j < 2 ^ 62 ∧ R (Itr 0 j.toNat) H1) ∨
        (∃ i j : Int, vs = [.int i, .int j] ∧ es.length = 2 ∧ (-(2 ^ 62) ≤ i ∧ i < 2 ^ 62 ∧ -(2 ^ 62) ≤ j ∧ j < 2 ^ 62) ∧ R (Itr i (j - i).toNat) H1) := fun {σ H R} q => by
      obtain ⟨env, S, w, a0, r, e, q⟩ := q
      rw [evE] at e
      cases m1 : evL G Φ es env S with
      | none => rw [m1] at e; cases e
      | some r1 =>
        rw [m1] at e
        refine ⟨env, S, w, a0, r1, m1, ?_⟩
        cases r1 with
        | ex x S1 => cases e; exact q
        | ok ds S1 =>
          rw [bnd_ok] at e
          have el := evL_len m1
          refine fun vs w1 H1 a1 x1 rl => ?_
          obtain ⟨d, e3, q3⟩ := run_lift e q
          obtain ⟨rs, e4, rfl⟩ := Option.map_eq_some_iff.mp e3
          unfold rngOf at e4
          split at e4
          · split at e4
            · rename_i hr
              cases e4
              refine .inl ?_
              obtain ⟨v, rfl, rv⟩ := repL_one rl
              cases rv
              exact ⟨_, rfl, el.symm, (inR_of hr).1, (inR_of hr).2, q3 _ w1 H1 a1 x1 ⟨_, rfl, wlk_rng⟩⟩
            · cases e4
          · split at e4
            · rename_i hr
              obtain ⟨q1, q2⟩ := Bool.and_eq_true_iff.mp hr
              cases e4
              refine .inr ?_
              obtain ⟨v, u, rfl, rv, ru⟩ := repL_two rl
              cases rv
              cases ru
              exact ⟨_, _, rfl, el.symm, ⟨(inR_of q1).1, (inR_of q1).2, (inR_of q2).1, (inR_of q2).2⟩, q3 _ w1 H1 a1 x1 ⟨_, rfl, wlk_rng⟩⟩
            · cases e4
          · cases e4
    match xs, hl, ns, pa with
    | [], hl, _, _ => rcases h3 with h3 | h3 <;> (have := eq_of_beq h3; simp [this] at hl)
    | [y], hl, ns, pa =>
      have ns := Bool.and_eq_true_iff.mp (show (noStar y && noStars []) = true from ns)
      refine PI.weak (pi_range1 hg hm pa (star_cons ns.1)) fun σ H R q => ?_
      obtain ⟨env, S, w, aa, r, e1, kk⟩ := key q
      refine ⟨env, S, w, aa, r, e1, kk.imp fun vs H1 z => ?_⟩
      rcases z with ⟨j, z1, z2, z3⟩ | ⟨i, j, z1, z2, z3⟩
      · exact ⟨j, z1, z3⟩
      · simp at hl; omega
    | [y, z], hl, ns, pa =>
      have ns := Bool.and_eq_true_iff.mp (show (noStar y && noStars [z]) = true from ns)
      have ns2 := Bool.and_eq_true_iff.mp (show (noStar z && noStars []) = true from ns.2)
      have sz : starEach [z] X.env = [(false, eval z X.env)] := star_cons ns2.1
      refine PI.weak (pi_range2 hg hm pa ((star_cons ns.1).trans (by rw [sz])) sz) fun σ H R q => ?_
      obtain ⟨env, S, w, aa, r, e1, kk⟩ := key q
      refine ⟨env, S, w, aa, r, e1, kk.imp fun vs H1 z => ?_⟩
      rcases z with ⟨j, z1, z2, z3⟩ | ⟨i, j, z1, z2, z3⟩
      · simp at hl; omega
      · exact ⟨i, j, z1, z3⟩
    | _ :: _ :: _ :: _, hl, _, _ => rcases h3 with h3 | h3 <;> (have := eq_of_beq h3; simp [this] at hl)
  · cases h
theorem sgn_rep {f : Fz} (x : Str) : RepL k f (sgn x) (sgnV x) := by
  unfold sgn sgnV
  induction x.cps.toList with
  | nil => exact RepL.nil
  | cons c r ih => exact RepL.cons rfl ih
theorem i_enm {a : E} (ha : SE G Φ k a) : SI G Φ k (.enm a) := fun X W C g tg e _ h ht => by
  unfold chkSrc at h
  split at h
  · rename_i x p y pos
    obtain ⟨h1, h2⟩ := Bool.and_eq_true_iff.mp h
    obtain ⟨rfl, hg, hm⟩ := isB_of g h1
    have ns := (chk_plain C a _ h2).1
    have hK := g.kk
    unfold enTg at ht
    split at ht
    · rename_i elts kk tpos hz
      cases hz
      refine PI.weak (en_rule g.calm hg hm (pa_cons (ha X W C g _ h2) pa_nil (star_cons ns)) (star_cons ns)) fun σ H R q => ?_
      refine (?_ : rd k W (evE G Φ a) σ H _)
      obtain ⟨env, S, w, a0, r, e, q⟩ := q
      rw [evE] at e
      obtain ⟨r1, e1, q1⟩ := run_bnd (R := Rep k) a0 e q
      refine ⟨env, S, w, a0, r1, e1, q1.imp fun x H1 ⟨S1, w1, d1, a1, x1, rx, r2, e2, q2⟩ => ?_⟩
      obtain ⟨d, e3, q3⟩ := run_lift e2 q2
      obtain ⟨ds, e4, rfl⟩ := Option.map_eq_some_iff.mp e3
      cases d1 with
      | lst es =>
        cases e4
        obtain ⟨b, vs, rfl, hb, rb⟩ := rep_lst.mp rx
        refine .inl ⟨b, vs, rfl, .inl ⟨SqL.of (a1.sep.fh _ _ hb), q3 _ w1 H1 a1 Ext.refl ⟨_, rfl, wlk_pair (Gd := fun H => SqL X.K H b vs) ?_ (fun H s => SqL.of (s _ _ hb)) rb⟩⟩⟩
        exact walk_enum
      | tup es =>
        cases e4
        obtain ⟨b, vs, rfl, hb, rb⟩ := rep_tup.mp rx
        exact .inl ⟨b, vs, rfl, .inr ⟨by rw [hK]; exact Same.seqT a1.sep.fh hb, fun J wj => q3 _ w1 H1 a1 Ext.refl ⟨_, rfl, wlk_pair wj (fun H s => by rw [hK]; exact Same.seqT s hb) rb⟩⟩⟩
      | str x =>
        cases e4
        cases rx
        exact .inr ⟨x, rfl, q3 _ w1 H1 a1 Ext.refl ⟨_, rfl, wlk_pair walk_enumS (fun _ _ => trivial) (sgn_rep x)⟩⟩
      | _ => cases e4
    · cases ht
    · rename_i z _
      exact (z _ rfl).elim
  · cases h
theorem src_plain {C : SC} {src : E} {it : Expr} (h5 : isSrc src = true) (h7 : chkSrc C src it = true) : noSet it = true := by
  cases src with
  | rng es =>
    unfold chkSrc at h7
    split at h7
    · rfl
    · cases h7
  | enm es =>
    unfold chkSrc at h7
    split at h7
    · rfl
    · cases h7
  | seq a =>
    unfold chkSrc at h7
    exact (chk_plain C a _ h7).2.1
  | _ => cases h5
theorem lc_parts {vs : List Nat} {t : Tg} {src c elt : E} (hsrc : SI G Φ k src) (hc : ST G Φ k c) (he : SE G Φ k elt) {X : Cx} {C : SC} (g : Good X k W C G Φ) {e : Expr} (h : chkE C (.lc vs t src c elt) e = true) :
    ∃ x tg it ifs sc pos own, e = .ListComp x [⟨tg, it, ifs, 0⟩] sc pos ∧ own.map (·.2) = vs ∧ (∀ i ∈ tgNames t, i ∈ vs) ∧ noSet it = true ∧ PI X tg it (rdI k W (evE G Φ src)) ∧ BlkOk X.N X.env.scope sc own ∧
      (∀ (s : Shared) (H : Hp) (c : Addr) (cl : List (Str × Addr)) (fp : List Addr), PG (X.blk s H sc (compEnvC sc cl c X.env) fp) tg (gOf k.K t)) ∧
      (∀ (s : Shared) (H : Hp) (c' : Addr) (cl : List (Str × Addr)) (fp : List Addr), PTs (X.blk s H sc (compEnvC sc cl c' X.env) fp) ifs (rdT k W0 (evE G Φ c))) ∧
      (∀ (s : Shared) (H : Hp) (c : Addr) (cl : List (Str × Addr)) (fp : List Addr), PE (X.blk s H sc (compEnvC sc cl c X.env) fp) x (rd k W0 (evE G Φ elt))) := by
  unfold chkE at h
  split at h
  · rename_i x tg it ifs sc pos
    simp only [Bool.and_eq_true] at h
    obtain ⟨⟨⟨⟨⟨⟨⟨⟨⟨⟨h1, h2⟩, h3⟩, h4⟩, h5⟩, h6⟩, h7⟩, h7'⟩, h8⟩, h9⟩, h10⟩ := h
    have hx : blkC X.N X.env.scope sc ((vs.map fun i => C.N.getD i Str.empty).zip vs) = true := by
      rw [g.N]
      have : ∀ (N : List Str) (sc1 sc2 : Scope) own, sc1.names = sc2.names → blkC N sc1 sc own = blkC N sc2 sc own := fun N sc1 sc2 own e => by unfold blkC; rw [e]
      rw [this _ X.env.scope (scOf C) _ g.names]
      exact h2
    have bo := blkOk_by hx
    have hmap : ((vs.map fun i => C.N.getD i Str.empty).zip vs).map (·.2) = vs := by
      rw [List.map_snd_zip]
      simp
    have hs : ∀ i ∈ tgNames t, i ∈ vs := fun i hi => by
      have := List.all_eq_true.mp h4 i hi
      simpa using this
    have ps : noSet it = true := src_plain h5 h7
    have pi := hsrc X W C g tg it h5 h7 h7'
    have pg : ∀ (s : Shared) (H : Hp) (c : Addr) (cl : List (Str × Addr)) (fp : List Addr), PG (X.blk s H sc (compEnvC sc cl c X.env) fp) tg (gOf k.K t) := fun s H c cl fp => by
      have := (tgt_pg (g.blk sc bo.kind s H c cl fp) h8).1
      rw [show (X.blk s H sc (compEnvC sc cl c X.env) fp).K = k.K from g.kk] at this
      exact this
    have pe : ∀ (s : Shared) (H : Hp) (c : Addr) (cl : List (Str × Addr)) (fp : List Addr), PE (X.blk s H sc (compEnvC sc cl c X.env) fp) x (rd k W0 (evE G Φ elt)) := fun s H c cl fp => he _ _ _ (g.blk sc bo.kind s H c cl fp) x h10
    have pt : ∀ (s : Shared) (H : Hp) (c' : Addr) (cl : List (Str × Addr)) (fp : List Addr), PTs (X.blk s H sc (compEnvC sc cl c' X.env) fp) ifs (rdT k W0 (evE G Φ c)) := fun s H c' cl fp => by
      split at h9
      · split at h9
        · refine ⟨fun pins s σ H Q I q => pts_nil.run pins s σ H Q I ?_⟩
          obtain ⟨env, S, w, a, r, e, q⟩ := q
          dsimp only at e
          rw [evE] at e
          cases e
          exact q _ w H a Ext.refl rfl
        · cases h9
      · rename_i y
        exact pts_one (hc _ _ _ (g.blk sc bo.kind s H c' cl fp) y h9 h6)
      · cases h9
    exact ⟨x, tg, it, ifs, sc, pos, _, rfl, hmap, hs, ps, pi, bo, pg, pt, pe⟩
  · cases h
theorem lc_F {vs : List Nat} {t : Tg} {src c elt : E} (hsrc : SI G Φ k src) (hc : ST G Φ k c) (he : SE G Φ k elt) {X : Cx} {C : SC} (g : Good X k W C G Φ) {e : Expr} (h : chkE C (.lc vs t src c elt) e = true) : PE X e (rdF k W (evE G Φ (.lc vs t src c elt))) := by
  obtain ⟨x, tg, it, ifs, sc, pos, own, rfl, rfl, hs, ps, pi, bo, pg, pt, pe⟩ := lc_parts hsrc hc he g h
  exact PE.weak (pe_lc g.calm g.nd pi bo pg pt pe (folded_none ps)) fun σ H Q q => rdF_lc hs q
theorem s_lc {vs : List Nat} {t : Tg} {src c elt : E} (hsrc : SI G Φ k src) (hc : ST G Φ k c) (he : SE G Φ k elt) : SE G Φ k (.lc vs t src c elt) := fun X W C g e h => PE.weak (lc_F hsrc hc he g h) fun σ H Q q => rd_F q
/-! ### dicts that are written, new objects -/
theorem dsp_F {t : Bool} {ks vs : List E} {X : Cx} {C : SC} (g : Good X k W C G Φ) {e : Expr} (h : chkE C (.dsp t ks vs) e = true) : PE X e (rdF k W (evE G Φ (.dsp t ks vs))) := by
  unfold chkE at h
  replace h := Bool.and_eq_true_iff.mp h
  obtain ⟨h1, h⟩ := h
  have ht : t = false := by simpa using h1
  subst ht
  clear h1
  split at h
  · split at h
    · obtain ⟨h2, h5⟩ := Bool.and_eq_true_iff.mp h
      obtain ⟨h3, h4⟩ := Bool.and_eq_true_iff.mp h2
      have z3 := List.isEmpty_iff.mp h3
      have z4 := List.isEmpty_iff.mp h4
      have z5 := List.isEmpty_iff.mp h5
      subst z3; subst z4; subst z5
      refine PE.weak pe_dnewK fun σ H Q q => ?_
      obtain ⟨env, S, w, a, r, e, q⟩ := q
      rw [evE, evL, bnd_ok, evL, bnd_ok] at e
      cases e
      exact fun p hp => q p _ w H a Ext.refl hp ⟨[], ⟨rfl, [], rfl, rfl⟩, RepL.nil⟩
    · cases h
  · cases h
theorem s_dsp {t : Bool} {ks vs : List E} : SE G Φ k (.dsp t ks vs) := fun X W C g e h => PE.weak (dsp_F g h) fun σ H Q q => rd_F q
/-- a new list by + or * -/
theorem add_inv {d1 d2 : D} {ds : List D} (h : evOp .add d1 d2 = some (.lst ds)) : ∃ a b, d1 = .lst a ∧ d2 = .lst b ∧ ds = a ++ b ∧ a.length + b.length ≤ LIM := by
  unfold evOp at h
  cases d1 <;> cases d2 <;> simp at h
  obtain ⟨h1, h2⟩ := h
  exact ⟨_, _, rfl, rfl, h2.symm, h1⟩
theorem mul_inv {d1 d2 : D} {ds : List D} (h : evOp .mul d1 d2 = some (.lst ds)) : ∃ a n, d1 = .lst a ∧ d2 = .int n ∧ repn a n = some ds := by
  unfold evOp at h
  cases d1 <;> cases d2 <;> simp at h
  exact ⟨_, _, rfl, rfl, h⟩
def PRL (k : Kx) (o : Bop) : R2 := fun x y H Q => ∃ f d1 d2 ds, Same f.F H ∧ RepV k f H d1 x ∧ RepV k f H d2 y ∧ evOp o d1 d2 = some (.lst ds) ∧ ∀ p vs, H p = none → RepL k f ds vs → Q (.ref p) (upd H p (.lst vs))
theorem opL {o : Bop} (ho : o = .add ∨ o = .mul) {X : Cx} : OpR X (binaryOp (bopOf o)) (PRL k o) := by
  intro pins s σ H x y v u Q I rx ry q
  obtain ⟨f, d1, d2, ds, sF, r1, r2, e, q⟩ := q
  rcases ho with rfl | rfl
  · obtain ⟨a, b, rfl, rfl, rfl, hz⟩ := add_inv e
    obtain ⟨a, vs, rfl, ha, ra⟩ := repV_lst sF r1
    obtain ⟨b, ws, rfl, hb, rb⟩ := repV_lst sF r2
    exact op_cat pins s σ H _ _ v u Q I rx ry ⟨a, b, vs, ws, rfl, rfl, ha, hb, lim_line (by rw [ra.length, rb.length]; exact hz), fun p hp => q p _ hp (ra.append rb)⟩
  · obtain ⟨a, n, rfl, rfl, e2⟩ := mul_inv e
    unfold repn at e2
    split at e2
    · rename_i hz
      replace e2 := Option.some.inj e2
      subst e2; have r2 := repV_int r2; subst r2
      obtain ⟨a, vs, rfl, ha, ra⟩ := repV_lst sF r1
      exact op_rep pins s σ H _ _ v u Q I rx ry ⟨a, n, vs, rfl, rfl, ha, by have := hz.1; omega, by have := hz.1; omega, lim_line (by rw [ra.length]; exact hz.2), fun p hp => q p _ hp (ra.rep n.toNat)⟩
    · cases e2
theorem opF_new {o : Bop} {a b : E} (ho : o = .add ∨ o = .mul) {X : Cx} {C : SC} (g : Good X k W C G Φ) (ha : SE G Φ k a) (hb : SE G Φ k b) {e : Expr} (h : chkE C (.op o a b) e = true) : PE X e (rd k W (evE G Φ (.new (.op o a b)))) := by
  unfold chkE at h
  split at h
  · simp only [Bool.and_eq_true, decide_eq_true_eq] at h
    obtain ⟨⟨rfl, h1⟩, h2⟩ := h
    refine PE.weak (pe_op (opL (k := k) ho) (ha X W C g _ h1) (hb X W C g _ h2)) fun σ H Q q => ?_
    obtain ⟨env, S, w, a0, r, e, q⟩ := q
    have e : bnd (evE G Φ a env S) (fun x S => bnd (evE G Φ b env S) fun y S => bnd (lift (evOp o (vw S x) (vw S y)) S) newD) = some r := by
      rw [← e, evE, evE]
      cases evE G Φ a env S with
      | none => rfl
      | some r =>
        cases r with
        | ex x S => rfl
        | ok d S1 =>
          simp only [bnd_ok]
          cases evE G Φ b env S1 with
          | none => rfl
          | some r => cases r <;> rfl
    obtain ⟨r1, e1, q1⟩ := run_bnd (R := Rep k) a0 e q
    refine ⟨env, S, w, a0, r1, e1, q1.imp fun x H1 ⟨S1, w1, d1, a1, x1, rx, r2, e2, q2⟩ => ?_⟩
    obtain ⟨r3, e3, q3⟩ := run_bnd (R := Rep k) a1 e2 q2
    refine ⟨env, S1, w1, a1, r3, e3, q3.imp fun y H2 ⟨S2, w2, d2, a2, x2, ry, r4, e4, q4⟩ => ?_⟩
    cases m : evOp o (vw S2 d1) (vw S2 d2) with
    | none => rw [m] at e4; cases e4
    | some d =>
      rw [m, lift_some, bnd_ok] at e4
      have hd : ∃ ds, d = .lst ds := by
        unfold newD at e4
        split at e4
        · exact ⟨_, rfl⟩
        · exfalso
          rcases ho with rfl | rfl
          · unfold evOp at m
            cases hx : vw S2 d1 <;> cases hy : vw S2 d2 <;> simp [hx, hy] at m
          · unfold evOp at m
            cases hx : vw S2 d1 <;> cases hy : vw S2 d2 <;> simp [hx, hy] at m
        · cases e4
      obtain ⟨ds, rfl⟩ := hd
      cases e4
      refine ⟨w2.f, _, _, ds, a2.sep.fh, vw_at a2 (rx.mono x2.le d1 x), vw_at a2 ry, m, fun p vs hp rl => ?_⟩
      obtain ⟨w3, b1, b2, b3⟩ := a2.new_lst rl hp
      exact q4 _ w3 _ b1 b2 b3
  · cases h
theorem s_new {a : E} (hl : ∀ es, a = .lst es → ∀ c ∈ es, SE G Φ k c) (hc : ∀ vs t src c elt, a = .lc vs t src c elt → SI G Φ k src ∧ ST G Φ k c ∧ SE G Φ k elt) (ho : ∀ o b c, a = .op o b c → SE G Φ k b ∧ SE G Φ k c) : SE G Φ k (.new a) := fun X W C g e h => by
  unfold chkE at h
  obtain ⟨h1, h2⟩ := Bool.and_eq_true_iff.mp h
  have fin : ∀ {e}, PE X e (rdF k W (evE G Φ a)) → PE X e (rd k W (evE G Φ (.new a))) := fun {e} p => PE.weak p fun σ H Q q => rd_new (rd_of q fun env S => by rw [evE])
  cases a with
  | lst es => exact fin (s_lstF (hl es rfl) g h2)
  | lc vs t src c elt =>
    obtain ⟨q1, q2, q3⟩ := hc vs t src c elt rfl
    exact fin (lc_F q1 q2 q3 g h2)
  | dsp t ks vs => exact fin (dsp_F g h2)
  | op o b c =>
    obtain ⟨q1, q2⟩ := ho o b c rfl
    cases o with
    | add => exact opF_new (.inl rfl) g q1 q2 h2
    | mul => exact opF_new (.inr rfl) g q1 q2 h2
    | _ => cases h1
  | _ => cases h1
/-! ### setdefault, pop -/
theorem two_of {X : Cx} {o e f : Expr} {m : Str} {apos cpos : Pos} (h1 : noC0 o = true) (h2 : (apos.endLine == cpos.line) = true) (h3 : noStar e = true) (h4 : noStar f = true) : M2 X o m apos e f cpos where
  base := base_of h1
  few := few_of (es := [f]) h3 (Bool.and_eq_true_iff.mpr ⟨h4, rfl⟩) (by simp)
  line := h2
  trees := by
    have e1 : starEach (e :: [f]) X.env = [(false, eval e X.env), (false, eval f X.env)] := by rw [star_cons h3, star_cons h4]; rfl
    rw [e1]
    rfl
end
end Sf

/-! Sf.All: setdefault, pop, then all terms. -/
namespace Sf
open PySem PySem.Spec PyProof.Rows L2

section
variable {G : Nat → Option D} {Φ : Nat → FnSem} {k : Kx} {σ : L2.St} {env : Env} {S : Sto} {w : Wd} {H : Hp} {Q : VK} {W : XK}
/-- a dict's cell as it stands -/
theorem At.dctF {n : Nat} {ks : List NestedKey} {ds : List D} {v : V} (a : At k σ env S w H) (e : S[n]? = some (.dct false ks ds)) (r : Rep k w.f (.ref n) v) : ∃ (p : Addr) (qs : List Key) (vs : List V), v = .ref p ∧ w.f.A n = some p ∧ ks = qs.map nk ∧ qs.length = vs.length ∧ RepL k w.f ds vs ∧ w.O (n + 1) = upd nil p (.dK (qs.zip vs)) ∧ H p = some (.dK (qs.zip vs)) := by
  obtain ⟨p, h1, rfl⟩ := rep_ref.mp r
  obtain ⟨p', h2, vs, o, h3, h4, h5⟩ := a.ce n _ e
  rw [h1] at h2; cases h2
  obtain ⟨qs, rfl, hl, rfl⟩ := dictF h3
  exact ⟨p, qs, vs, rfl, h1, rfl, hl, h4, h5, a.sep.oh (n + 1) p _ (by rw [h5]; exact upd_same)⟩
theorem dictOk_F {F : Hp} {p : Addr} {qs : List Key} {vs : List V} (h : qs.length = vs.length) : DictOk k F p false (qs.map nk) vs (.dK (qs.zip vs)) := by
  refine ⟨by rw [List.length_map]; exact h, qs, ?_, rfl⟩
  refine List.map_congr_left fun q _ => ?_
  cases q <;> rfl
theorem At.put_dct {n : Nat} {ob : Ob} {p : Addr} {u0 : HO} {qs : List Key} {ds : List D} {vs : List V} (a : At k σ env S w H) (e : S[n]? = some ob) (hp : w.f.A n = some p) (ho : w.O (n + 1) = upd nil p u0) (hl : qs.length = vs.length) (r : RepL k w.f ds vs) :
    ∃ w', At k σ env (S.set n (.dct false (qs.map nk) ds)) w' (upd H p (.dK (qs.zip vs))) ∧ Ext w H w' (upd H p (.dK (qs.zip vs))) ∧ w'.f = w.f := by
  obtain ⟨h1, h2⟩ := a.put (o' := .dct false (qs.map nk) ds) (u := .dK (qs.zip vs)) (O' := upd nil p (.dK (qs.zip vs))) e hp (by rw [ho]; exact upd_same) (by rw [ho, upd_upd]) ⟨vs, _, dictOk_F hl, r, rfl⟩
  exact ⟨_, h1, h2, rfl⟩
theorem s_sdf {a b : E} (ha : SE G Φ k a) (hb : SE G Φ k b) : SE G Φ k (.sdf a b) := fun X W C g e h => by
  unfold chkE at h
  split at h
  · rename_i x y ap z zp cp
    simp only [Bool.and_eq_true, decide_eq_true_eq] at h
    obtain ⟨⟨⟨⟨rfl, h2⟩, h3⟩, h4⟩, h5⟩ := h
    have ns := (chk_plain C b z h5).1
    refine PE.weak (pe_dsetd (ha X W C g _ h4) (hb X W C g _ h5) (pe_lst pa_nil) (two_of h3 h2 ns rfl)) fun σ H Q q => ?_
    obtain ⟨env, S, w, a0, r, e, q⟩ := q
    rw [evE] at e
    obtain ⟨r1, e1, q1⟩ := run_bnd (R := Rep k) a0 e q
    refine ⟨env, S, w, a0, r1, e1, q1.imp fun x H1 ⟨S1, w1, d1, a1, x1, rx, r2, e2, q2⟩ => ?_⟩
    split at e2
    · rename_i hd
      have hv := vw_at a1 rx
      obtain ⟨p, rfl, hp⟩ : ∃ p, x = .ref p ∧ ∃ kvs, H1 p = some (.dK kvs) := by
        cases m : vw S1 d1 with
        | dct t ks ds =>
          cases t with
          | false =>
            rw [m] at hv
            obtain ⟨p, vs, o, rfl, hp, hk, _⟩ := repV_dct a1.sep.fh hv
            obtain ⟨qs, _, _, rfl⟩ := dictF hk
            exact ⟨p, rfl, _, hp⟩
          | true => rw [m] at hd; cases hd
        | _ => rw [m] at hd; cases hd
      obtain ⟨kvs0, hp⟩ := hp
      refine ⟨p, rfl, .inl ⟨_, .inl hp⟩, ?_⟩
      obtain ⟨r3, e3, q3⟩ := run_bnd (R := Rep k) a1 e2 q2
      refine ⟨env, S1, w1, a1, r3, e3, q3.imp fun y H2 ⟨S2, w2, d2, a2, x2, ry, r4, e4, q4⟩ => ?_⟩
      refine ⟨Nat.zero_le _, fun p2 hp2 => ?_⟩
      obtain ⟨n, rfl⟩ : ∃ n, d1 = .ref n := by cases d1 <;> first | exact ⟨_, rfl⟩ | cases e4
      replace e4 : (match S2[n]? with
        | some (Ob.dct t ks ds) => (toKey t d2).bind fun k => if ks.length < LIM then match lookD ks ds k with
          | some d => some (Re.ok d S2)
          | none => some (Re.ok (D.ref S2.length) (List.set (S2 ++ [Ob.lst []]) n (.dct t (ks ++ [k]) (ds ++ [D.ref S2.length]))))
          else none
        | _ => none) = some r4 := e4
      · split at e4
        · rename_i t ks ds hn
          obtain ⟨kx, e5, e6⟩ := Option.bind_eq_some_iff.mp e4
          split at e6
          · rename_i hz
            cases t with
            | true => cases e5
            | false =>
              obtain ⟨q0, rfl, ey⟩ := toKeyF_of (k := k) (f := w2.f) (H := H2) (show toKeyF d2 = some kx from e5) (.inl ry)
              subst ey
              obtain ⟨p', qs, vs, z1, z2, rfl, z4, z5, z6, z7⟩ := a2.dctF hn (rx.mono x2.le _ _)
              cases z1
              have ne : p ≠ p2 := fun q => by rw [← q, z7] at hp2; cases hp2
              refine ⟨_, q0, (by rw [upd_ne ne]; exact z7), rfl, ?_, fun v hv => ?_, fun hv => ?_⟩
              · have hL : LIM ≤ sizeLine := by rw [sizeLine_eq]; decide
                have : (qs.zip vs).length ≤ qs.length := by rw [List.length_zip]; omega
                rw [List.length_map] at hz
                omega
              · rcases look_valV (k := k) (f := w2.f) q0 z5 z4 with ⟨l1, l2⟩ | ⟨d', v', l1, l2, l3⟩
                · rw [hv] at l2; cases l2
                · rw [hv] at l2; cases l2
                  rw [l1] at e6
                  cases e6
                  have px := PX.newH (f := w2.f) (o := .lst []) a2.sep.fh hp2
                  exact q4 _ _ _ (a2.px px) (ext_px a2.sep px) l3
              · rcases look_valV (k := k) (f := w2.f) q0 z5 z4 with ⟨l1, l2⟩ | ⟨d', v', l1, l2, l3⟩
                · rw [l1] at e6
                  cases e6
                  obtain ⟨w3, b1, b2, b3⟩ := a2.new_lst (ds := []) (vs := []) RepL.nil hp2
                  have hn3 : (S2 ++ [Ob.lst []])[n]? = some (.dct false (qs.map nk) ds) := by
                    rw [List.getElem?_append_left (List.getElem?_eq_some_iff.mp hn).1]; exact hn
                  obtain ⟨p', qs', vs', y1, y2, y3, y4, y5, y6, y7⟩ := b1.dctF hn3 ((rx.mono x2.le _ _).mono b2.le _ _)
                  cases y1
                  rw [upd_ne ne, z7] at y7
                  have y7 : qs.zip vs = qs'.zip vs' := by injection y7 with y7; injection y7
                  have hq : qs' = qs := by
                    have := congrArg (List.map Prod.fst) y7
                    rw [List.map_fst_zip (by omega), List.map_fst_zip (by omega)] at this
                    exact this.symm
                  have hw : vs' = vs := by
                    have := congrArg (List.map Prod.snd) y7
                    rw [List.map_snd_zip (by omega), List.map_snd_zip (by omega)] at this
                    exact this.symm
                  subst hq hw
                  have hl2 : (qs' ++ [q0]).length = (vs' ++ [V.ref p2]).length := by simp [y4]
                  obtain ⟨w4, c1, c2, c3⟩ := b1.put_dct (qs := qs' ++ [q0]) (ds := ds ++ [.ref S2.length]) (vs := vs' ++ [.ref p2]) hn3 y2 y6 hl2 (y5.append (RepL.cons b3 RepL.nil))
                  have e1 : putK (qs'.zip vs') q0 (V.ref p2) = (qs' ++ [q0]).zip (vs' ++ [V.ref p2]) := by
                    rw [putK_new _ hv, List.zip_append (by omega)]; rfl
                  rw [e1]
                  rw [List.map_append] at c1
                  exact q4 _ w4 _ c1 (b2.trans a2.sep b1.sep c2) (by rw [c3]; exact b3)
                · rw [hv] at l2; cases l2
          · cases e6
        · cases e4
    · cases e2
  · cases h
theorem s_popL {a : E} (ha : SE G Φ k a) : SE G Φ k (.popL a) := fun X W C g e h => by
  unfold chkE at h
  split at h
  · rename_i x y ap cp
    simp only [Bool.and_eq_true, decide_eq_true_eq] at h
    obtain ⟨⟨⟨rfl, h2⟩, h3⟩, h4⟩ := h
    refine PE.weak (pe_bm0 (name := "pop") PySem.F.plainAttrs_list PySem.F.slot_list_pop PySem.F.type_list_pop (mt_pop (X := X)) (ha X W C g _ h4) (base_of h3) h2) fun σ H Q q => ?_
    obtain ⟨env, S, w, a0, r, e, q⟩ := q
    rw [evE] at e
    obtain ⟨r1, e1, q1⟩ := run_bnd (R := Rep k) a0 e q
    refine ⟨env, S, w, a0, r1, e1, q1.imp fun x H1 ⟨S1, w1, d1, a1, x1, rx, r2, e2, q2⟩ => ?_⟩
    unfold popD at e2
    split at e2
    · rename_i n
      split at e2
      · rename_i ds hn
        obtain ⟨p, vs, rfl, z2, z3, z4, z5⟩ := a1.lst hn rx
        refine ⟨.inl ⟨rfl, _, SqL.of z5⟩, ?_⟩
        split at e2
        · rename_i d hd
          cases e2
          have hl := z3.length
          obtain ⟨v, e3, rv⟩ := z3.get hd
          have r2 : RepL k w1.f ds.dropLast vs.dropLast := by
            rw [List.dropLast_eq_take, List.dropLast_eq_take, hl]
            exact z3.take _
          obtain ⟨w2, b1, b2, b3⟩ := a1.put_lst hn z2 z4 r2
          exact ⟨p, vs, v, rfl, rfl, z5, by rw [hl]; exact e3, q2 v w2 _ b1 b2 (by rw [b3]; exact rv)⟩
        · cases e2
      · cases e2
    · cases e2
  · cases h
theorem s_ds1 {a b : E} (ha : SE G Φ k a) (hb : SE G Φ k b) : SE G Φ k (.ds1 a b) := fun X W C g e h => by
  unfold chkE at h
  split at h
  · rename_i x y pos
    obtain ⟨h1, h2⟩ := Bool.and_eq_true_iff.mp h
    refine PE.weak (pe_disp (pps_cons (ha X W C g _ h1) (hb X W C g _ h2) pps_nil) rfl rfl (fun z => by cases z) (by show 1 ≤ 15; decide)) fun σ H Q q => ?_
    obtain ⟨env, S, w, a0, r, e, q⟩ := q
    rw [evE] at e
    intro p hp
    have px := PX.newH (f := w.f) (o := .dK []) a0.sep.fh hp
    have a1 : At k σ env S w (upd H p (.dK [])) := a0.px px
    have x0 : Ext w H w (upd H p (.dK [])) := ext_px a0.sep px
    show rd k W (evE G Φ a) σ (upd H p (.dK [])) fun x H1 => rd k W (evE G Φ b) σ H1 fun y H2 => H2 p = some (.dK []) ∧ ∃ kvs : List (Key × V), [(x, y)] = kvs.map (fun kv => (kV kv.1, kv.2)) ∧ kvs.length ≤ 15 ∧ Q (.ref p) (upd H2 p (.dK (mergeK [] kvs)))
    cases m1 : evE G Φ a env S with
    | none => rw [m1] at e; cases e
    | some r1 =>
      rw [m1] at e
      refine ⟨env, S, w, a1, r1, m1, ?_⟩
      cases r1 with
      | ex x S1 =>
        cases e
        exact fun c d w' H' h1 h2 h3 => q c d w' H' h1 (x0.trans a0.sep a1.sep h2) h3
      | ok d1 S1 =>
        rw [bnd_ok] at e
        refine fun x w1 H1 at1 x1 rx => ?_
        cases m2 : evE G Φ b env S1 with
        | none => rw [m2] at e; cases e
        | some r2 =>
          rw [m2] at e
          refine ⟨env, S1, w1, at1, r2, m2, ?_⟩
          cases r2 with
          | ex x S2 =>
            cases e
            exact fun c d w' H' h1 h2 h3 => q c d w' H' h1 ((x0.trans a0.sep a1.sep x1).trans a0.sep at1.sep h2) h3
          | ok d2 S2 =>
            rw [bnd_ok] at e
            refine fun y w2 H2 at2 x2 ry => ?_
            obtain ⟨kx, e1, e2⟩ := Option.bind_eq_some_iff.mp e
            cases e2
            obtain ⟨q0, rfl, ey⟩ := toKeyF_of (k := k) (f := w2.f) (H := H2) e1 (.inl (rx.mono x2.le _ _))
            subst ey
            have x12 := x1.trans a1.sep at1.sep x2
            have nH : ∀ o, H p = some o → False := fun o z => by rw [hp] at z; cases z
            have hF : w2.f.F p = none := by
              cases z : w2.f.F p with
              | none => rfl
              | some o =>
                rcases x12.nf p o z with ⟨u, q1⟩ | ⟨i, u, q1⟩ | q1
                · exact (nH _ (a0.sep.fh _ _ q1)).elim
                · exact (nH _ (a0.sep.oh i _ _ q1)).elim
                · rw [upd_same] at q1; cases q1
            have hO : ∀ i, w2.O i p = none := fun i => by
              cases z : w2.O i p with
              | none => rfl
              | some o =>
                rcases x12.no i p o z with ⟨j, u, q1⟩ | q1
                · exact (nH _ (a0.sep.oh j _ _ q1)).elim
                · rw [upd_same] at q1; cases q1
            refine ⟨x12.hh p _ upd_same fun i => ?_, [(q0, y)], rfl, by show 1 ≤ 15; decide, ?_⟩
            · cases z : w.O i p with
              | none => rfl
              | some o => exact (nH _ (a0.sep.oh i _ _ z)).elim
            · have ok : CellOk k w2.f p (upd nil p (.dK [(q0, y)])) (.dct false [nk q0] [d2]) := ⟨[y], _, dictOk_F (qs := [q0]) rfl, RepL.cons ry RepL.nil, rfl⟩
              have b1 := at2.newAt hF hO ok
              have b2 : Ext w H _ _ := Ext.newAt (u := .dK [(q0, y)]) ((x0.trans a0.sep a1.sep x12)) at2 hp
              exact q _ _ _ b1 b2 At.rep_new
  · cases h
/-! ### ranges as tuples and lists -/
theorem rng_rep {f : Fz} (a : Int) (n : Nat) {b : Int} (h : n = (b - a).toNat) : RepL k f (rngD a n) (rgV a b) := by
  subst h
  have e1 : rngD a (b - a).toNat = ((List.range (b - a).toNat).map fun (i : Nat) => a + (i : Int)).map D.int := by
    unfold rngD; rw [List.map_map]; rfl
  have e2 : rgV a b = ((List.range (b - a).toNat).map fun (i : Nat) => a + (i : Int)).map V.int := by
    unfold rgV; rw [List.map_map]; rfl
  rw [e1]
  exact RepL.ints.mpr e2
theorem rgD_of {l : Bool} {x y d : D} (h : rgD l x y = some d) : ∃ i j, x = .int i ∧ y = .int j ∧ RgOk i j ∧ d = if l then .lst (rngD i (j - i).toNat) else .tup (rngD i (j - i).toNat) := by
  unfold rgD at h
  split at h
  · rename_i i j
    split at h
    · rename_i hz
      cases h
      obtain ⟨h1, h2, h3⟩ := hz
      have h1 := inR_of h1
      have h2 := inR_of h2
      exact ⟨i, j, rfl, rfl, ⟨h1.1, h1.2, h2.1, h2.2, Nat.le_trans h3 (by decide)⟩, rfl⟩
    · cases h
  · cases h
/-- what a range is worth here -/
def rdR (k : Kx) (W : XK) (l : Bool) (t : L2.St → Hp → (Int → Int → Hp → Prop) → Prop) (ev : Env → Sto → Option (Re D)) : Prop := ∀ σ H Q, rd k W ev σ H Q → t σ H fun a b H1 => RgOk a b ∧ ∀ q, H1 q = none → Q (.ref q) (upd H1 q (if l then .lst (rgV a b) else .tup (rgV a b)))
theorem rg_end {l : Bool} {i j : Int} {S : Sto} (a : At k σ env S w H) (q : ∀ b w' H', At k σ env S w' H' → Ext w H w' H' → Rep k w'.f (if l then .lst (rngD i (j - i).toNat) else .tup (rngD i (j - i).toNat)) b → Q b H') (p : Addr) (hp : H p = none) :
    Q (.ref p) (upd H p (if l then .lst (rgV i j) else .tup (rgV i j))) := by
  have r := rng_rep (k := k) (f := w.f) i (j - i).toNat (b := j) rfl
  cases l with
  | false =>
    obtain ⟨px, rr⟩ := new_tup a.sep.fh hp r
    exact q _ ⟨_, w.O⟩ _ (a.px px) (ext_px a.sep px) rr
  | true =>
    obtain ⟨px, rr⟩ := FrObj.frz (k := k) (d := .lst (rngD i (j - i).toNat)) (o := .lst (rgV i j)) a.sep.fh ⟨_, r, rfl⟩ hp
    exact q _ ⟨_, w.O⟩ _ (a.px px) (ext_px a.sep px) rr
theorem pe_rg {l : Bool} {X : Cx} {e : Expr} {p pos : Pos} {x : Str} {t : L2.St → Hp → (Int → Int → Hp → Prop) → Prop} {ev : Env → Sto → Option (Re D)} (hc : X.calm = true) (hx : x = (if l then "list" else "tuple")) (hg : Gl X x) (hm : X.mg x = none) (he : PRg X e t) (h : rdR k W l t ev) (ns : noStar e = true) : PE X (.Call (.Name x p) [e] [] pos) (rd k W ev) := by
  subst hx
  cases l with
  | false => exact PE.weak (pe_tupRg hc hg hm he (star_cons ns)) fun σ H Q q => h σ H Q q
  | true => exact PE.weak (pe_listRg hc hg hm he (star_cons ns)) fun σ H Q q => h σ H Q q
theorem s_trg {l : Bool} {a : E} (ha : SE G Φ k a) : SE G Φ k (.trg l a) := fun X W C g e h => by
  unfold chkE at h
  split at h
  · rename_i x p y p2 u p3 p4
    simp only [Bool.and_eq_true] at h
    obtain ⟨⟨h1, h2⟩, h3⟩ := h
    obtain ⟨e1, hg, hm⟩ := isB_of g h1
    obtain ⟨rfl, hg2, hm2⟩ := isB_of g h2
    have ns := (chk_plain C a u h3).1
    refine pe_rg (l := l) g.calm (by rw [e1]; cases l <;> rfl) hg hm (prg_1 hg2 hm2 (ha X W C g u h3) (star_cons ns)) (fun σ H Q q => ?_) rfl
    obtain ⟨env, S, w, a0, r, e, q⟩ := q
    rw [evE] at e
    obtain ⟨r1, e1, q1⟩ := run_bnd (R := Rep k) a0 e q
    refine ⟨env, S, w, a0, r1, e1, q1.imp fun x H1 ⟨S1, w1, d1, a1, x1, rx, r2, e2, q2⟩ => ?_⟩
    obtain ⟨d, e3, q3⟩ := run_lift e2 q2
    obtain ⟨i, j, z1, rfl, z3, rfl⟩ := rgD_of e3
    cases z1
    cases rx
    exact ⟨j, rfl, z3, fun p hp => rg_end a1 q3 p hp⟩
  · cases h
theorem s_trg2 {l : Bool} {a b : E} (ha : SE G Φ k a) (hb : SE G Φ k b) : SE G Φ k (.trg2 l a b) := fun X W C g e h => by
  unfold chkE at h
  split at h
  · rename_i x p y p2 u v p3 p4
    simp only [Bool.and_eq_true] at h
    obtain ⟨⟨⟨h1, h2⟩, h3⟩, h4⟩ := h
    obtain ⟨e1, hg, hm⟩ := isB_of g h1
    obtain ⟨rfl, hg2, hm2⟩ := isB_of g h2
    have ns := (chk_plain C a u h3).1
    have ns2 := (chk_plain C b v h4).1
    have sz : starEach [v] X.env = [(false, eval v X.env)] := star_cons ns2
    refine pe_rg (l := l) g.calm (by rw [e1]; cases l <;> rfl) hg hm (prg_2 hg2 hm2 (ha X W C g u h3) (hb X W C g v h4) ((star_cons ns).trans (by rw [sz])) sz (star_any (Bool.and_eq_true_iff.mpr ⟨ns2, rfl⟩))) (fun σ H Q q => ?_) rfl
    obtain ⟨env, S, w, a0, r, e, q⟩ := q
    rw [evE] at e
    obtain ⟨r1, e1, q1⟩ := run_bnd (R := Rep k) a0 e q
    refine ⟨env, S, w, a0, r1, e1, q1.imp fun x H1 ⟨S1, w1, d1, a1, x1, rx, r2, e2, q2⟩ => ?_⟩
    obtain ⟨r3, e3, q3⟩ := run_bnd (R := Rep k) a1 e2 q2
    refine ⟨env, S1, w1, a1, r3, e3, q3.imp fun y H2 ⟨S2, w2, d2, a2, x2, ry, r4, e4, q4⟩ => ?_⟩
    obtain ⟨d, e5, q5⟩ := run_lift e4 q4
    obtain ⟨i, j, rfl, rfl, z3, rfl⟩ := rgD_of e5
    cases rx
    cases ry
    exact ⟨i, j, rfl, rfl, z3, fun p hp => rg_end a2 q5 p hp⟩
  · cases h
/-- a term's three readings -/
structure Snd (G : Nat → Option D) (Φ : Nat → FnSem) (k : Kx) (c : E) : Prop where
  e : SE G Φ k c
  t : ST G Φ k c
  i : SI G Φ k c
theorem i_no {c : E} (h : isSrc c = false) : SI G Φ k c := fun X W C g tg e h1 _ _ => by rw [h] at h1; cases h1
theorem s_no {c : E} (h : ∀ C e, chkE C c e = true → False) : SE G Φ k c := fun X W C g e h1 => (h _ _ h1).elim
/-- terms that stand as a test by their value -/
theorem t_val {c : E} (hs : SE G Φ k c) (hp : ∀ C e, chkE C c e = true → plainT e = true) : ST G Φ k c := fun X W C g e h _ => pt_of (hs X W C g e h) (hp C e h)
theorem fresh_plainT {c : E} : ∀ {C e}, chkE C (.new c) e = true → plainT e = true := fun {C e} h => by
  unfold chkE at h
  obtain ⟨h1, h2⟩ := Bool.and_eq_true_iff.mp h
  cases c with
  | lst es => unfold chkE at h2; split at h2; rfl; cases h2
  | lc vs t src c elt => unfold chkE at h2; split at h2; rfl; cases h2
  | dsp t ks vs =>
    unfold chkE at h2
    obtain ⟨h3, h4⟩ := Bool.and_eq_true_iff.mp h2
    split at h4; rfl; cases h4
  | op o b c =>
    unfold chkE at h2; split at h2; rfl; cases h2
  | _ => cases h1
theorem sound : ∀ (n : Nat) (c : E), sizeOf c < n → Snd G Φ k c
  | 0, _, h => absurd h (Nat.not_lt_zero _)
  | n + 1, c, h => by
    have L : ∀ {es : List E}, sizeOf es < n → ∀ c ∈ es, Snd G Φ k c := fun {es} hz c hc => sound n c (Nat.lt_trans (List.sizeOf_lt_of_mem hc) hz)
    cases c with
    | var i => exact ⟨s_var i, t_val (s_var i) (fun C e h => by
        unfold chkE nmV at h; split at h
        · rfl
        · cases h), i_no rfl⟩
    | int i => exact ⟨s_int i, t_val (s_int i) (fun C e h => by
        unfold chkE at h; split at h
        · rfl
        · cases h), i_no rfl⟩
    | bl i => exact ⟨s_bl i, t_val (s_bl i) (fun C e h => by
        unfold chkE at h; split at h
        · rfl
        · cases h), i_no rfl⟩
    | non => exact ⟨s_non, t_val s_non (fun C e h => by
        unfold chkE isNone at h; split at h
        · rfl
        · cases h), i_no rfl⟩
    | str i => exact ⟨s_str i, t_val (s_str i) (fun C e h => by
        unfold chkE at h; split at h
        · rfl
        · cases h), i_no rfl⟩
    | glo i => exact ⟨s_glo i, t_val (s_glo i) (fun C e h => by
        unfold chkE at h; split at h
        · rfl
        · cases h), i_no rfl⟩
    | op o a b =>
      have s := s_op (o := o) (sound n a (by simp at h; omega)).e (sound n b (by simp at h; omega)).e
      exact ⟨s, t_val s (fun C e h => by
        unfold chkE at h; split at h
        · rfl
        · cases h), i_no rfl⟩
    | neg a =>
      have s := s_neg (sound n a (by simp at h; omega)).e
      exact ⟨s, t_val s (fun C e h => by
        unfold chkE at h; split at h
        · rfl
        · cases h), i_no rfl⟩
    | cmp o a b =>
      have ha := (sound n a (by simp at h; omega)).e
      have hb := (sound n b (by simp at h; omega)).e
      exact ⟨s_cmp ha hb, t_cmp ha hb, i_no rfl⟩
    | cmp2 o o' a b c =>
      have ha := (sound n a (by simp at h; omega)).e
      have hb := (sound n b (by simp at h; omega)).e
      have hc := (sound n c (by simp at h; omega)).e
      exact ⟨s_cmp2 ha hb hc, t_cmp2 ha hb hc, i_no rfl⟩
    | isN g a =>
      have ha := (sound n a (by simp at h; omega)).e
      exact ⟨s_isN ha, t_isN ha, i_no rfl⟩
    | bop o es =>
      have hs := L (es := es) (by simp at h; omega)
      exact ⟨s_bop (fun c hc => (hs c hc).e), t_bop (fun c hc => (hs c hc).t), i_no rfl⟩
    | not a =>
      have ha := sound n a (by simp at h; omega)
      exact ⟨s_not ha.e, t_not ha.t, i_no rfl⟩
    | ife c a b => exact ⟨s_ife (sound n c (by simp at h; omega)).t (sound n a (by simp at h; omega)).e (sound n b (by simp at h; omega)).e, (fun X W C g e _ z => by cases z), i_no rfl⟩
    | tup es =>
      have s := s_tup fun c hc => (L (es := es) (by simp at h; omega) c hc).e
      exact ⟨s, t_val s (fun C e h => by
        unfold chkE at h; split at h
        · rfl
        · cases h), i_no rfl⟩
    | lst es =>
      have s := s_lst fun c hc => (L (es := es) (by simp at h; omega) c hc).e
      exact ⟨s, t_val s (fun C e h => by
        unfold chkE at h; split at h
        · rfl
        · cases h), i_no rfl⟩
    | ix a b =>
      have s := s_ix (sound n a (by simp at h; omega)).e (sound n b (by simp at h; omega)).e
      exact ⟨s, t_val s (fun C e h => by
        unfold chkE at h; split at h
        · rfl
        · cases h), i_no rfl⟩
    | slc bl bh a lo hi =>
      have s := s_slc (bl := bl) (bh := bh) (sound n a (by simp at h; omega)).e (sound n lo (by simp at h; omega)).e (sound n hi (by simp at h; omega)).e
      exact ⟨s, t_val s (fun C e h => by
        unfold chkE at h; split at h
        · rfl
        · cases h), i_no rfl⟩
    | call f es ks fs =>
      have s := s_call (f := f) (fs := fs) (fun c hc => (L (es := es) (by simp at h; omega) c hc).e) (fun c hc => (L (es := ks) (by simp at h; omega) c hc).e)
      exact ⟨s, t_val s (fun C e h => by
        unfold chkE at h; split at h
        · rfl
        · cases h), i_no rfl⟩
    | bi b es =>
      have s := s_bi (b := b) fun c hc => (L (es := es) (by simp at h; omega) c hc).e
      exact ⟨s, t_val s (fun C e h => by
        unfold chkE at h; split at h
        · rfl
        · cases h), i_no rfl⟩
    | mt m a es =>
      have s := s_mt (m := m) (sound n a (by simp at h; omega)).e fun c hc => (L (es := es) (by simp at h; omega) c hc).e
      exact ⟨s, t_val s (fun C e h => by
        unfold chkE at h; split at h
        · rfl
        · cases h), i_no rfl⟩
    | isi ks one a =>
      have s := s_isi (ks := ks) (one := one) (sound n a (by simp at h; omega)).e
      exact ⟨s, t_val s (fun C e h => by
        unfold chkE at h; split at h
        · rfl
        · cases h), i_no rfl⟩
    | sx a b =>
      have s := s_sx (sound n a (by simp at h; omega)).e (sound n b (by simp at h; omega)).e
      exact ⟨s, t_val s (fun C e h => by
        unfold chkE at h; split at h
        · rfl
        · cases h), i_no rfl⟩
    | rng es => exact ⟨s_no (fun C e h => by unfold chkE at h; cases h), (fun X W C g e h _ => by unfold chkE at h; cases h), i_rng (fun c hc => (L (es := es) (by simp at h; omega) c hc).e)⟩
    | enm a => exact ⟨s_no (fun C e h => by unfold chkE at h; cases h), (fun X W C g e h _ => by unfold chkE at h; cases h), i_enm (sound n a (by simp at h; omega)).e⟩
    | seq a => exact ⟨s_no (fun C e h => by unfold chkE at h; cases h), (fun X W C g e h _ => by unfold chkE at h; cases h), i_seq (sound n a (by simp at h; omega)).e⟩
    | lc vs t src c elt =>
      have s := s_lc (vs := vs) (t := t) (sound n src (by simp at h; omega)).i (sound n c (by simp at h; omega)).t (sound n elt (by simp at h; omega)).e
      exact ⟨s, t_val s (fun C e h => by
        unfold chkE at h; split at h
        · rfl
        · cases h), i_no rfl⟩
    | dsp t ks vs =>
      exact ⟨s_dsp, t_val s_dsp (fun C e h => by
        unfold chkE at h
        have h := (Bool.and_eq_true_iff.mp h).2
        split at h
        · rfl
        · cases h), i_no rfl⟩
    | sdf a b =>
      have s := s_sdf (sound n a (by simp at h; omega)).e (sound n b (by simp at h; omega)).e
      exact ⟨s, t_val s (fun C e h => by
        unfold chkE at h; split at h
        · rfl
        · cases h), i_no rfl⟩
    | popL a =>
      have s := s_popL (sound n a (by simp at h; omega)).e
      exact ⟨s, t_val s (fun C e h => by
        unfold chkE at h; split at h
        · rfl
        · cases h), i_no rfl⟩
    | trg l a =>
      have s := s_trg (l := l) (sound n a (by simp at h; omega)).e
      exact ⟨s, t_val s (fun C e h => by
        unfold chkE at h; split at h
        · rfl
        · cases h), i_no rfl⟩
    | trg2 l a b =>
      have s := s_trg2 (l := l) (sound n a (by simp at h; omega)).e (sound n b (by simp at h; omega)).e
      exact ⟨s, t_val s (fun C e h => by
        unfold chkE at h; split at h
        · rfl
        · cases h), i_no rfl⟩
    | ds1 a b =>
      have s := s_ds1 (sound n a (by simp at h; omega)).e (sound n b (by simp at h; omega)).e
      exact ⟨s, t_val s (fun C e h => by
        unfold chkE at h; split at h
        · rfl
        · cases h), i_no rfl⟩
    | new a =>
      have s := s_new (a := a) (fun es ea c hc => by
        subst ea
        exact (L (es := es) (by simp at h; omega) c hc).e) (fun vs t src c elt ea => by
        subst ea
        exact ⟨(sound n src (by simp at h; omega)).i, (sound n c (by simp at h; omega)).t, (sound n elt (by simp at h; omega)).e⟩) (fun o b c ea => by
        subst ea
        exact ⟨(sound n b (by simp at h; omega)).e, (sound n c (by simp at h; omega)).e⟩)
      exact ⟨s, t_val s (fun C e h => fresh_plainT h), i_no rfl⟩
theorem soundE (c : E) : SE G Φ k c := (sound _ c (Nat.lt_succ_self _)).e
theorem soundT (c : E) : ST G Φ k c := (sound _ c (Nat.lt_succ_self _)).t
theorem soundI (c : E) : SI G Φ k c := (sound _ c (Nat.lt_succ_self _)).i
end
end Sf

/-! Sf.Stmt: cells that come to stand still, what is stored how. -/
namespace Sf
open PySem PySem.Spec PyProof.Rows L2

section
variable {k : Kx} {σ : L2.St} {env : Env} {S : Sto} {w : Wd} {H : Hp}
/-- a cell's object is given up: nobody changes it any more -/
theorem At.give {n : Nat} {ob : Ob} {p : Addr} {u0 : HO} (a : At k σ env S w H) (e : S[n]? = some ob) (hp : w.f.A n = some p) (ho : w.O (n + 1) = upd nil p u0) :
    ∃ w', At k σ env (S.set n .gone) w' H ∧ Ext w H w' H ∧ w'.f.F p = some u0 ∧ w'.f.A = w.f.A := by
  have hO : w.O (n + 1) p = some u0 := by rw [ho]; exact upd_same
  have hF : w.f.F p = none := a.sep.fo (n + 1) p _ hO
  have hn : n < S.length := (List.getElem?_eq_some_iff.mp e).1
  have hff : Same w.f.F (upd w.f.F p u0) := same_new hF
  have le : Le w.f ⟨upd w.f.F p u0, w.f.A⟩ := ⟨hff, fun _ _ z => z⟩
  have fcase : ∀ {b : Addr} {o : HO}, upd w.f.F p u0 b = some o → (b = p ∧ o = u0) ∨ w.f.F b = some o := fun {b o} z => by
    by_cases q : b = p
    · subst q; rw [upd_same] at z; cases z; exact .inl ⟨rfl, rfl⟩
    · rw [upd_ne q] at z; exact .inr z
  have ocase : ∀ {j b o}, setO w.O (n + 1) nil j b = some o → j ≠ n + 1 ∧ w.O j b = some o := fun {j b o} z => by
    by_cases q : j = n + 1
    · subst q; rw [setO_same] at z; cases z
    · rw [setO_ne q] at z; exact ⟨q, z⟩
  refine ⟨⟨⟨upd w.f.F p u0, w.f.A⟩, setO w.O (n + 1) nil⟩, ⟨a.len, ⟨fun b o z => ?_, fun j b o z => ?_, fun j b o z => ?_, fun j l b o ne z => ?_⟩, ?_, fun m hm => ?_, fun m x q => ?_, fun i d q => ?_⟩, ⟨le, fun b o z _ => z, fun b o z => ?_, fun j b o z => ?_⟩, upd_same, rfl⟩
  · rcases fcase z with ⟨rfl, rfl⟩ | z
    · exact a.sep.oh _ _ _ hO
    · exact a.sep.fh _ _ z
  · exact a.sep.oh j b o (ocase z).2
  · obtain ⟨z1, z2⟩ := ocase z
    have : b ≠ p := fun q => by subst q; rw [a.sep.oo j (n + 1) b _ z1 z2] at hO; cases hO
    show upd w.f.F p u0 b = none
    rw [upd_ne this]; exact a.sep.fo j b o z2
  · obtain ⟨z1, z2⟩ := ocase z
    show setO w.O (n + 1) nil l b = none
    by_cases q : l = n + 1
    · subst q; rw [setO_same]; rfl
    · rw [setO_ne q]; exact a.sep.oo j l b o ne z2
  · show LamX.Tabs k.T (setO w.O (n + 1) nil 0)
    rw [setO_ne (by omega)]; exact a.tab
  · rw [List.length_set] at hm
    exact ⟨(a.out m hm).1, by show setO w.O (n + 1) nil (m + 1) = nil; rw [setO_ne (by omega)]; exact (a.out m hm).2⟩
  · rw [List.getElem?_set] at q
    by_cases z : n = m
    · subst z
      rw [if_pos rfl, if_pos hn] at q; cases q
      exact ⟨p, hp, by show setO w.O (n + 1) nil (n + 1) = nil; exact setO_same⟩
    · rw [if_neg z] at q
      obtain ⟨y, h1, h2⟩ := a.ce m x q
      exact ⟨y, h1, by show CellOk k _ y (setO w.O (n + 1) nil (m + 1)) x; rw [setO_ne (by omega)]; exact h2.mono le⟩
  · obtain ⟨v, h1, h2⟩ := a.sl i d q
    exact ⟨v, h1, h2.mono le d v⟩
  · rcases fcase z with ⟨rfl, rfl⟩ | z
    · exact .inr (.inl ⟨n + 1, _, hO⟩)
    · exact .inl ⟨_, z⟩
  · exact .inl ⟨j, o, (ocase z).2⟩
mutual
/-- .. and what it holds -/
theorem At.frzD : ∀ {n : Nat} {d d' : D} {S S' : Sto} {w : Wd} {v : V}, frzD n d S = some (d', S') → At k σ env S w H → Rep k w.f d v → ∃ w', At k σ env S' w' H ∧ Ext w H w' H ∧ Rep k w'.f d' v
  | 0, d, d', S, S', w, v, e, a, r => by unfold Sf.frzD at e; cases e
  | n + 1, d, d', S, S', w, v, e, a, r => by
    by_cases hd : ∃ m, d = .ref m
    · obtain ⟨m, rfl⟩ := hd
      unfold Sf.frzD at e
      split at e
      · rename_i ds hm
        obtain ⟨⟨ds', S1⟩, e1, e2⟩ := Option.map_eq_some_iff.mp e
        cases e2
        obtain ⟨p, vs, rfl, z2, z3, z4, z5⟩ := a.lst hm r
        obtain ⟨w1, a1, x1, f1, f2⟩ := a.give hm z2 z4
        obtain ⟨w2, a2, x2, r2⟩ := At.frzL e1 a1 (RepL.mono x1.le _ _ z3)
        exact ⟨w2, a2, x1.trans a.sep a1.sep x2, rep_lst.mpr ⟨p, vs, rfl, x2.le.ff _ _ f1, r2⟩⟩
      · rename_i t ks ds hm
        obtain ⟨⟨ds', S1⟩, e1, e2⟩ := Option.map_eq_some_iff.mp e
        cases e2
        obtain ⟨p, h1, rfl⟩ := rep_ref.mp r
        obtain ⟨p', h2, vs, o, h3, h4, h5⟩ := a.ce m _ hm
        rw [h1] at h2; cases h2
        obtain ⟨w1, a1, x1, f1, f2⟩ := a.give hm h1 h5
        obtain ⟨w2, a2, x2, r2⟩ := At.frzL e1 a1 (RepL.mono x1.le _ _ h4)
        exact ⟨w2, a2, x1.trans a.sep a1.sep x2, rep_dct.mpr ⟨p, vs, o, rfl, x2.le.ff _ _ f1, h3.mono (x1.le.trans x2.le).ff, r2⟩⟩
      · cases e
    · have e : some (d, S) = some (d', S') := by
        rw [← e]
        cases d with
        | ref m => exact (hd ⟨m, rfl⟩).elim
        | _ => unfold Sf.frzD; rfl
      cases e
      exact ⟨w, a, Ext.refl, r⟩
theorem At.frzL : ∀ {n : Nat} {ds ds' : List D} {S S' : Sto} {w : Wd} {vs : List V}, frzL n ds S = some (ds', S') → At k σ env S w H → RepL k w.f ds vs → ∃ w', At k σ env S' w' H ∧ Ext w H w' H ∧ RepL k w'.f ds' vs
  | n, [], ds', S, S', w, vs, e, a, r => by unfold Sf.frzL at e; cases e; exact ⟨w, a, Ext.refl, r⟩
  | n, d :: ds, ds', S, S', w, vs, e, a, r => by
    unfold Sf.frzL at e
    obtain ⟨⟨d1, S1⟩, e1, e2⟩ := Option.bind_eq_some_iff.mp e
    obtain ⟨⟨ds1, S2⟩, e3, e4⟩ := Option.map_eq_some_iff.mp e2
    cases e4
    obtain ⟨v, rs, rfl, r1, r2⟩ := repL_cons.mp r
    obtain ⟨w1, a1, x1, q1⟩ := At.frzD e1 a r1
    obtain ⟨w2, a2, x2, q2⟩ := At.frzL e3 a1 (RepL.mono x1.le _ _ r2)
    exact ⟨w2, a2, x1.trans a.sep a1.sep x2, RepL.cons (q1.mono x2.le _ _) q2⟩
end
end
/-! ### a dict's entries -/
section
variable {k : Kx} {f : Fz}
theorem store_put {qs : List Key} {ds : List D} {vs : List V} {d : D} {v : V} (q : Key) (rl : RepL k f ds vs) (hl : qs.length = vs.length) (r : Rep k f d v) :
    ∃ (qs' : List Key) (vs' : List V), (storeD (qs.map nk) ds (nk q) d).1 = qs'.map nk ∧ qs'.length = vs'.length ∧ RepL k f (storeD (qs.map nk) ds (nk q) d).2 vs' ∧ putK (qs.zip vs) q v = qs'.zip vs' := by
  unfold storeD putK
  by_cases h : q ∈ qs
  · have h1 : nk q ∈ qs.map nk := List.mem_map_of_mem h
    rw [if_pos h1]
    have h2 : ((qs.zip vs).any fun kv => decide (kv.1 = q)) = true := by
      rw [List.any_eq_true]
      obtain ⟨i, hi, e⟩ := List.getElem_of_mem h
      exact ⟨(qs[i], vs[i]'(by omega)), List.mem_of_getElem? (i := i) (by rw [List.getElem?_zip_eq_some]; simp [hi, hl ▸ hi]), by simp [e]⟩
    rw [if_pos h2]
    clear h h1 h2
    refine ⟨qs, (qs.zip vs).map (fun kv => if kv.1 = q then v else kv.2), rfl, by rw [List.length_map, List.length_zip]; omega, ?_, ?_⟩
    · induction qs generalizing ds vs with
      | nil => exact RepL.nil
      | cons a qs ih =>
        cases vs with
        | nil => simp at hl
        | cons w vs =>
          cases ds with
          | nil => have := repL_nil.mp rl; cases this
          | cons x ds =>
            obtain ⟨w', r', e, h1, h2⟩ := repL_cons.mp rl
            cases e
            have ih := ih h2 (by simpa using hl)
            refine RepL.cons ?_ ih
            dsimp only
            by_cases z : a = q
            · rw [if_pos (show nk a = nk q by rw [z]), if_pos z]; exact r
            · rw [if_neg (fun y => z (nk_inj y)), if_neg z]; exact h1
    · clear rl
      induction qs generalizing vs with
      | nil => rfl
      | cons a qs ih =>
        cases vs with
        | nil => simp at hl
        | cons w vs =>
          have ih := ih (vs := vs) (by simpa using hl)
          rw [List.zip_cons_cons, List.map_cons, List.map_cons, List.zip_cons_cons, ih]
          congr 1
          by_cases z : a = q
          · simp [z]
          · simp [z]
  · have h1 : ¬ nk q ∈ qs.map nk := fun z => by
      obtain ⟨y, y1, y2⟩ := List.mem_map.mp z
      exact h (nk_inj y2 ▸ y1)
    rw [if_neg h1]
    have h2 : ¬ ((qs.zip vs).any fun kv => decide (kv.1 = q)) = true := fun z => by
      rw [List.any_eq_true] at z
      obtain ⟨x, y1, y2⟩ := z
      have : x.1 = q := by simpa using y2
      exact h (this ▸ (List.of_mem_zip y1).1)
    rw [if_neg h2]
    exact ⟨qs ++ [q], vs ++ [v], by simp, by simp [hl], rl.append (RepL.cons r RepL.nil), by rw [List.zip_append hl]; rfl⟩
end
/-! ### what is stored how -/
section
variable {X : Cx} {k : Kx} {W : XK} {C : SC} {G : Nat → Option D} {Φ : Nat → FnSem}
theorem Good.blockKind (g : Good X k W C G Φ) : X.env.blockKind = .function := by unfold PySem.Env.blockKind; rw [g.kind]; rfl
theorem Good.kindOf (g : Good X k W C G Φ) (x : Str) : X.env.kindOf x = C.names.lookup x := by unfold PySem.Env.kindOf; rw [g.names]
theorem swap_of (g : Good X k W C G Φ) {tg v : Expr} {r : Option (List Str)} (h : swapM C tg v = some r) : swappedStores [tg] v X.env = pure r := by
  unfold swapM at h
  split at h
  · rename_i ts k1 p1 vs k2 p2
    unfold swappedStores
    simp only [g.blockKind, g.kindOf, Bool.or_eq_true, Bool.not_eq_true', bne_self_eq_false, or_false]
    split at h
    · rename_i z
      cases h
      exact if_pos (by simpa using z)
    · rename_i z
      refine Eq.trans (if_neg (by simpa using z)) ?_
      split at h
      · rename_i z
        cases h
        exact if_pos (by exact z)
      · rename_i z
        refine Eq.trans (if_neg (by exact z)) ?_
        split at h
        · rename_i z
          cases h
          simp only [Bool.or_eq_true] at z
          exact if_pos (by exact z)
        · rename_i z
          simp only [Bool.or_eq_true] at z
          refine Eq.trans (if_neg (by exact z)) ?_
          split at h
          · rename_i z
            cases h
            exact if_pos (by exact z)
          · rename_i z
            refine Eq.trans (if_neg (by exact z)) ?_
            split at h
            · cases h
            · rename_i z
              cases h
              exact if_neg (by exact z)
  · cases h
  · rename_i h1 h2
    cases h
    unfold swappedStores
    split
    · rename_i z
      split at z
      · rename_i heq
        cases heq
        exact (h2 _ _ _ _ _ _ rfl rfl).elim
      · rename_i heq
        cases heq
        exact (h1 _ _ rfl).elim
      · cases z
    · rfl
theorem swapLc_of (g : Good X k W C G Φ) {x : Str} {p : Pos} {v : Expr} {line : Nat} (h : swapLc C x p v = true) : swapsWith v (some (.Name x p)) line X.env = pure true ∧ X.env.scope.names.lookup x = some .local := by
  unfold swapLc at h
  split at h
  · rename_i a b sc q
    simp only [Bool.and_eq_true] at h
    obtain ⟨⟨h1, h2⟩, h3⟩ := h
    refine ⟨?_, ?_⟩
    · unfold swapsWith
      dsimp only
      rw [g.blockKind, g.kindOf, h1, show (Expr.ListComp a b sc q).pos = q from rfl, h2, h3]
      rfl
    · rw [g.names]
      have := eq_of_beq h1
      exact this
  · cases h
end
end Sf

/-! Sf.Body: statement by statement, then a def's body. -/
namespace Sf
open PySem PySem.Spec PyProof.Rows L2

theorem sole {v t : Expr} {l : Nat} {env : PySem.Env} {r : Sem Bool} (h : swapsWith v (some t) l env = r) : swapsWithSole [t] v l env = r := by
  unfold swapsWithSole
  exact h
theorem plain_as {o i : Expr} {pos : Pos} {env : PySem.Env} (h : noSlice i = true) : ∀ v, assign (.Subscript o i pos) env v = (do
      let ov ← holding [v] (eval o env)
      let iv ← holding [v, ov] (eval i env)
      standAt pos
      holding [v, ov, iv] (setItem ov iv v)
      release [v, ov, iv] []) := by
  intro v
  cases i <;> first | rfl | cases h
/-- a list's place or a dict's entry -/
def rSetA : TSet := fun o i v H Q => rSetL o i v H Q ∨ rSetD o i v H Q
theorem set_any {X : Cx} (hu : X.A.units + 1 < cLine) : PSet X rSetA := by
  intro pins s σ H o i v ov iv u Q I ro ri rv h
  rcases h with h | h
  · exact set_list pins s σ H o i v ov iv u Q I ro ri rv h
  · exact set_dict hu pins s σ H o i v ov iv u Q I ro ri rv h

section
variable {G : Nat → Option D} {Φ : Nat → FnSem} {k : Kx}
variable (G Φ k)
def SS (s : S) : Prop := ∀ (X : Cx) (W : XK) (C : SC), Good X k W C G Φ → ∀ st, chkS C s st = true → PS X st (rdS k W (evS G Φ s))
def SSs (ss : List S) : Prop := ∀ (X : Cx) (W : XK) (C : SC), Good X k W C G Φ → ∀ sts, chkSs C ss sts = true → PSs X sts (rdS k W (evSs G Φ ss))
variable {G Φ k}
section
variable {σ : L2.St} {H : Hp} {W : XK}
/-- name = value -/
theorem rd_set {i : Nat} {ev : Env → Sto → Option (Re D)} {D : Ends} (h : rdS k W (fun env S => bndS (ev env S) env fun x S => (setV env i x).map fun env => .nx env S) D σ H) : tAsg (rd k W ev) (gName i) D σ H := by
  obtain ⟨env, S, w, a, fl, e, q⟩ := h
  obtain ⟨r1, e1, q1⟩ := run_bndS (R := Rep k) a e q
  refine ⟨env, S, w, a, r1, e1, q1.imp fun v H1 ⟨S1, w1, d1, a1, x1, r1, fl2, e2, q2⟩ => ?_⟩
  obtain ⟨env2, e3, rfl⟩ := Option.map_eq_some_iff.mp e2
  exact q2 _ w1 H1 (setV_at e3 a1 r1) Ext.refl
theorem rd_asg {t : Tg} {ev : Env → Sto → Option (Re D)} {D : Ends} (h : rdS k W (fun env S => bndS (ev env S) env fun x S => (asgT t x env).map fun env => .nx env S) D σ H) : tAsg (rd k W ev) (gOf k.K t) D σ H := by
  obtain ⟨env, S, w, a, fl, e, q⟩ := h
  obtain ⟨r1, e1, q1⟩ := run_bndS (R := Rep k) a e q
  refine ⟨env, S, w, a, r1, e1, q1.imp fun v H1 ⟨S1, w1, d1, a1, x1, r1, fl2, e2, q2⟩ => ?_⟩
  obtain ⟨env2, e3, rfl⟩ := Option.map_eq_some_iff.mp e2
  exact g_at e3 a1 r1 fun σ' a' _ => q2 _ w1 H1 a' Ext.refl
theorem rdS_of {f h : Env → Sto → Option Fl} {D : Ends} (q : rdS k W f D σ H) (e : ∀ env S, f env S = h env S) : rdS k W h D σ H := by
  have : f = h := funext fun env => funext (e env)
  rw [← this]; exact q
end
theorem ss_asg1 {i : Nat} {e : E} : SS G Φ k (.asg1 i e) := fun X W C g st h => by
  unfold chkS at h
  split at h
  · rename_i x p v pos
    simp only [Bool.and_eq_true, Bool.or_eq_true, Bool.not_eq_true'] at h
    obtain ⟨⟨h1, h2⟩, h3⟩ := h
    unfold nmS at h1
    obtain ⟨q1, q2⟩ := Bool.and_eq_true_iff.mp h1
    obtain ⟨lo, fn⟩ := g.sto q2
    have key : ∀ {D σ H}, rdS k W (evS G Φ (.asg1 i e)) D σ H → tAsg (rd k W (evE G Φ e)) (gName i) D σ H := fun {D σ H} q => rd_set (rdS_of q fun env S => by rw [evS])
    rcases h3 with h3 | h3
    · exact PS.weak (ps_set g.nd (g.slot q1) lo (soundE e X W C g v h2) (swap_none ((chk_plain C e v h2).2.2.2 h3)) fn) fun D σ H q => key q
    · obtain ⟨sw, ll⟩ := swapLc_of g (line := pos.line) h3
      cases e with
      | lc vs t src c elt =>
        obtain ⟨x2, tg, it, ifs, sc, pos2, own, rfl, rfl, hs, ps, pi, bo, pg, pt, pe⟩ := lc_parts (soundI (k := k) src) (soundT c) (soundE elt) g h2
        refine PS.weak (ps_setLc g.calm g.nd (g.slot q1) ll sw pi bo pg pt pe (folded_none ps)) fun D σ H q => ?_
        exact rdF_lc hs (rd_F (key q))
      | new e =>
        unfold chkE at h2
        obtain ⟨f1, h2⟩ := Bool.and_eq_true_iff.mp h2
        cases e with
        | lc vs t src c elt =>
          obtain ⟨x2, tg, it, ifs, sc, pos2, own, rfl, rfl, hs, ps, pi, bo, pg, pt, pe⟩ := lc_parts (soundI (k := k) src) (soundT c) (soundE elt) g h2
          refine PS.weak (ps_setLc g.calm g.nd (g.slot q1) ll sw pi bo pg pt pe (folded_none ps)) fun D σ H q => ?_
          exact rdF_lc hs (rd_new (rd_of (key q) fun env S => by simp only [evE]))
        | new e => cases f1
        | _ =>
          have hn := (chk_plain C _ v h2).2.2.2 rfl
          exfalso
          unfold swapLc at h3
          split at h3
          · cases hn
          · cases h3
      | _ =>
        have hn := (chk_plain C _ v h2).2.2.2 rfl
        exfalso
        unfold swapLc at h3
        split at h3
        · cases hn
        · cases h3
  · cases h
theorem ss_asg {t : Tg} {e : E} : SS G Φ k (.asg t e) := fun X W C g st h => by
  unfold chkS at h
  split at h
  · rename_i ts k1 p v pos
    simp only [Bool.and_eq_true, Bool.not_eq_true'] at h
    obtain ⟨⟨⟨⟨h0, h1⟩, h2⟩, h3⟩, h4⟩ := h
    have sw : swapM C (.Tuple ts k1 p) v = some none := by
      split at h4
      · assumption
      · cases h4
    have hg := (tgt_pg g h1).1
    rw [show X.K = k.K from g.kk] at hg
    exact PS.weak (ps_asg (soundE e X W C g v h2) hg (sole (swap_none ((chk_plain C e v h2).2.2.2 h3))) (swap_of g sw)) fun D σ H q => rd_asg (rdS_of q fun env S => by rw [evS])
  · cases h
theorem ss_ex {e : E} : SS G Φ k (.ex e) := fun X W C g st h => by
  unfold chkS at h
  split at h
  · rename_i v pos
    obtain ⟨h1, h2⟩ := Bool.and_eq_true_iff.mp h
    refine PS.weak (ps_expr (soundE e X W C g v h1) (swap_none ((chk_plain C e v h1).2.2.2 (by simpa using h2)))) fun D σ H q => ?_
    obtain ⟨env, S, w, a, fl, e, q⟩ := q
    rw [evS] at e
    obtain ⟨r1, e1, q1⟩ := run_bndS (R := Rep k) a e q
    refine ⟨env, S, w, a, r1, e1, q1.imp fun v H1 ⟨S1, w1, d1, a1, x1, r1, fl2, e2, q2⟩ => ?_⟩
    cases e2
    exact q2 _ w1 H1 a1 Ext.refl
  · cases h
theorem ss_ret {e : E} : SS G Φ k (.ret e) := fun X W C g st h => by
  unfold chkS at h
  split at h
  · refine PS.weak (ps_ret (soundE e X W C g _ h)) fun D σ H q => ?_
    obtain ⟨env, S, w, a, fl, e, q⟩ := q
    rw [evS] at e
    obtain ⟨r1, e1, q1⟩ := run_bndS (R := Rep k) a e q
    refine ⟨env, S, w, a, r1, e1, q1.imp fun v H1 ⟨S1, w1, d1, a1, x1, r1, fl2, e2, q2⟩ => ?_⟩
    cases e2
    exact q2 v σ w1 H1 ⟨env, a1⟩ Ext.refl r1
  · cases h
theorem ss_retN : SS G Φ k .retN := fun X W C g st h => by
  unfold chkS at h
  split at h
  · refine PS.weak ps_retN fun D σ H q => ?_
    obtain ⟨env, S, w, a, fl, e, q⟩ := q
    rw [evS] at e
    cases e
    exact q _ σ w H ⟨env, a⟩ Ext.refl rfl
  · cases h
theorem ss_never : SS G Φ k .never := fun X W C g st h => PS.weak ps_never fun D σ H q => by
  obtain ⟨env, S, w, a, fl, e, q⟩ := q
  rw [evS] at e
  cases e
theorem vw_lst {S : Sto} {d : D} {ds : List D} (h : vw S d = .lst ds) : d = .lst ds ∨ ∃ n, d = .ref n ∧ S[n]? = some (.lst ds) := by
  unfold vw at h
  split at h
  · rename_i n
    split at h
    · rename_i e; cases h; exact .inr ⟨n, rfl, e⟩
    · cases h
    · cases h
  · exact .inl h
theorem ss_app {a e : E} : SS G Φ k (.app a e) := fun X W C g st h => by
  unfold chkS at h
  split at h
  · rename_i x m ap y cp pos
    simp only [Bool.and_eq_true, decide_eq_true_eq] at h
    obtain ⟨⟨⟨⟨h1, rfl⟩, h2⟩, h3⟩, h4⟩ := h
    have ns := (chk_plain C e y h4).1
    have hK := g.kk
    refine PS.weak (ps_expr (pe_bm PySem.F.plainAttrs_list PySem.F.slot_list_append PySem.F.type_list_append (mt_append (X := X)) (soundE a X W C g x h1) (pa_cons (soundE e X W C g y h4) pa_nil (star_cons ns)) (base_of h2) (few_of ns rfl (by decide)) h3 (star_cons ns) (star_any rfl)) rfl) fun D σ H q => ?_
    obtain ⟨env, S, w, a0, fl, e0, q⟩ := q
    rw [evS] at e0
    obtain ⟨r1, e1, q1⟩ := run_bndS (R := Rep k) a0 e0 q
    refine ⟨env, S, w, a0, r1, e1, q1.imp fun x H1 ⟨S1, w1, d1, a1, x1, rx, fl2, e2, q2⟩ => ?_⟩
    split at e2
    · rename_i ds0 hd
      have hv := vw_at a1 rx
      rw [hd] at hv
      refine ⟨tyV_lst a1.sep.fh hv, ?_⟩
      obtain ⟨r3, e3, q3⟩ := run_bndS (R := Rep k) a1 e2 q2
      refine ⟨env, S1, w1, a1, r3, e3, q3.imp fun y H2 ⟨S2, w2, d2, a2, x2, ry, fl3, e4, q4⟩ => ?_⟩
      obtain ⟨n, rfl⟩ : ∃ n, d1 = .ref n := by cases d1 <;> first | exact ⟨_, rfl⟩ | cases e4
      unfold appD at e4
      dsimp only at e4
      split at e4
      · rename_i ds hn
        split at e4
        · rename_i hz
          cases e4
          obtain ⟨p, vs, rfl, z2, z3, z4, z5⟩ := a2.lst hn (rx.mono x2.le _ _)
          have hl : vs.length < sizeLine := by
            rw [z3.length]
            have hL : LIM ≤ sizeLine := by rw [sizeLine_eq]; decide
            omega
          obtain ⟨w3, b1, b2, b3⟩ := a2.put_lst hn z2 z4 (z3.append (RepL.cons ry RepL.nil))
          exact ⟨p, vs, y, rfl, rfl, z5, hl, q4 _ w3 _ b1 b2⟩
        · cases e4
      · cases e4
    · cases e2
  · cases h
theorem ss_ext {a e : E} : SS G Φ k (.ext a e) := fun X W C g st h => by
  unfold chkS at h
  split at h
  · rename_i x m ap y cp pos
    simp only [Bool.and_eq_true, decide_eq_true_eq] at h
    obtain ⟨⟨⟨⟨h1, rfl⟩, h2⟩, h3⟩, h4⟩ := h
    have ns := (chk_plain C e y h4).1
    have hK := g.kk
    refine PS.weak (ps_expr (pe_bm PySem.F.plainAttrs_list PySem.F.slot_list_extend PySem.F.type_list_extend (mt_extend (X := X)) (soundE a X W C g x h1) (pa_cons (soundE e X W C g y h4) pa_nil (star_cons ns)) (base_of h2) (few_of ns rfl (by decide)) h3 (star_cons ns) (star_any rfl)) rfl) fun D σ H q => ?_
    obtain ⟨env, S, w, a0, fl, e0, q⟩ := q
    rw [evS] at e0
    obtain ⟨r1, e1, q1⟩ := run_bndS (R := Rep k) a0 e0 q
    refine ⟨env, S, w, a0, r1, e1, q1.imp fun x H1 ⟨S1, w1, d1, a1, x1, rx, fl2, e2, q2⟩ => ?_⟩
    split at e2
    · rename_i ds0 hd
      have hv := vw_at a1 rx
      rw [hd] at hv
      refine ⟨tyV_lst a1.sep.fh hv, ?_⟩
      obtain ⟨r3, e3, q3⟩ := run_bndS (R := Rep k) a1 e2 q2
      refine ⟨env, S1, w1, a1, r3, e3, q3.imp fun y H2 ⟨S2, w2, d2, a2, x2, ry, fl3, e4, q4⟩ => ?_⟩
      obtain ⟨n, es, rfl, rfl⟩ : ∃ n es, d1 = .ref n ∧ d2 = .lst es := by
        cases d1 <;> first | (cases d2 <;> first | exact ⟨_, _, rfl, rfl⟩ | cases e4) | cases e4
      unfold extD at e4
      dsimp only at e4
      split at e4
      · rename_i ds hn
        split at e4
        · rename_i hz
          cases e4
          obtain ⟨p, vs, rfl, z2, z3, z4, z5⟩ := a2.lst hn (rx.mono x2.le _ _)
          obtain ⟨b, ws, rfl, hb, rb⟩ := rep_lst.mp ry
          have hl : vs.length + ws.length ≤ sizeLine := by
            rw [z3.length, rb.length]
            have hL : LIM ≤ sizeLine := by rw [sizeLine_eq]; decide
            omega
          obtain ⟨w3, b1, b2, b3⟩ := a2.put_lst hn z2 z4 (z3.append rb)
          exact ⟨p, b, vs, ws, rfl, rfl, z5, a2.sep.fh _ _ hb, hl, q4 _ w3 _ b1 b2⟩
        · cases e4
      · cases e4
    · cases e2
  · cases h
theorem ss_oset {a ix e : E} : SS G Φ k (.oset a ix e) := fun X W C g st h => by
  unfold chkS at h
  split at h
  · rename_i x y sp v pos
    simp only [Bool.and_eq_true, Bool.not_eq_true'] at h
    obtain ⟨⟨⟨h1, h2⟩, h3⟩, h4⟩ := h
    have hu := g.units
    refine PS.weak (ps_asg (soundE e X W C g v h3) (pg_sub (soundE a X W C g x h1) (soundE ix X W C g y h2) (set_any (by omega)) (plain_as (chk_plain C ix y h2).2.2.1)) (sole (swap_none ((chk_plain C e v h3).2.2.2 h4))) rfl rfl) fun D σ H q => ?_
    obtain ⟨env, S, w, a0, fl, e0, q⟩ := q
    rw [evS] at e0
    obtain ⟨r1, e1, q1⟩ := run_bndS (R := Rep k) a0 e0 q
    refine ⟨env, S, w, a0, r1, e1, q1.imp fun v H1 ⟨S1, w1, d1, a1, x1, rv, fl2, e2, q2⟩ => ?_⟩
    obtain ⟨r3, e3, q3⟩ := run_bndS (R := Rep k) a1 e2 q2
    refine ⟨env, S1, w1, a1, r3, e3, q3.imp fun o H2 ⟨S2, w2, d2, a2, x2, ro, fl3, e4, q4⟩ => ?_⟩
    obtain ⟨r5, e5, q5⟩ := run_bndS (R := Rep k) a2 e4 q4
    refine ⟨env, S2, w2, a2, r5, e5, q5.imp fun i H3 ⟨S3, w3, d3, a3, x3, ri, fl4, e6, q6⟩ => ?_⟩
    obtain ⟨n, rfl⟩ : ∃ n, d2 = .ref n := by cases d2 <;> first | exact ⟨_, rfl⟩ | cases e6
    unfold osetD at e6
    dsimp only at e6
    split at e6
    · rename_i ds hn
      split at e6
      · rename_i kk
        obtain ⟨j, e7, e8⟩ := Option.map_eq_some_iff.mp e6
        subst e8
        cases ri
        obtain ⟨p, vs, rfl, z2, z3, z4, z5⟩ := a3.lst hn (ro.mono x3.le _ _)
        obtain ⟨w4, b1, b2, b3⟩ := a3.put_lst hn z2 z4 (z3.set j ((rv.mono x2.le _ _).mono x3.le _ _))
        exact .inl ⟨p, vs, kk, j, rfl, rfl, z5, by rw [z3.length]; exact e7, q6 _ w4 _ b1 b2⟩
      · cases e6
    · rename_i t ks ds hn
      obtain ⟨kx, e7, e8⟩ := Option.bind_eq_some_iff.mp e6
      split at e8
      · rename_i hz
        cases e8
        cases t with
        | true => cases e7
        | false =>
          obtain ⟨q0, rfl, rfl⟩ := toKeyF_of (k := k) (f := w3.f) (H := H3) (show toKeyF d3 = some kx from e7) (.inl ri)
          obtain ⟨p, qs, vs, rfl, z2, rfl, z4, z5, z6, z7⟩ := a3.dctF hn (ro.mono x3.le _ _)
          obtain ⟨qs', vs', y1, y2, y3, y4⟩ := store_put q0 z5 z4 ((rv.mono x2.le _ _).mono x3.le _ _)
          obtain ⟨w4, b1, b2, b3⟩ := a3.put_dct hn z2 z6 y2 y3
          have hl : (qs.zip vs).length < sizeLine := by
            have hL : LIM ≤ sizeLine := by rw [sizeLine_eq]; decide
            have : (qs.zip vs).length ≤ qs.length := by rw [List.length_zip]; omega
            rw [List.length_map] at hz
            omega
          refine .inr ⟨p, _, rfl, DPut.k z7 hl, ?_⟩
          rw [y4]
          rw [y1] at q6
          exact q6 _ w4 _ b1 b2
      · cases e8
    · cases e6
  · cases h
theorem nmLs_of {X : Cx} {W : XK} {C : SC} (g : Good X k W C G Φ) : ∀ {is : List Nat} {es : List Expr}, nmLs C is es = true → es.length = is.length ∧ ∀ (j i : Nat) (e : Expr), is[j]? = some i → es[j]? = some e → ∃ x p, e = Expr.Name x p ∧ X.N[i]? = some x ∧ X.env.scope.names.lookup x = some .local
  | [], [], _ => ⟨rfl, fun j i e h => by simp at h⟩
  | [], _ :: _, h => by cases h
  | _ :: _, [], h => by cases h
  | i :: is, e :: es, h => by
    obtain ⟨h1, h2⟩ := Bool.and_eq_true_iff.mp (show (nmL C i e && nmLs C is es) = true from h)
    obtain ⟨l1, l2⟩ := nmLs_of g h2
    refine ⟨by simp [l1], fun j i' e' q1 q2 => ?_⟩
    cases j with
    | zero =>
      simp at q1 q2
      subst q1 q2
      unfold nmL at h1
      split at h1
      · obtain ⟨z1, z2⟩ := Bool.and_eq_true_iff.mp h1
        exact ⟨_, _, rfl, g.slot z1, g.loc z2⟩
      · cases h1
    | succ j => exact l2 j i' e' (by simpa using q1) (by simpa using q2)
theorem setVs_len : ∀ {t : List Nat} {ds : List D} {env env1 : Env}, setVs t ds env = some env1 → ds.length = t.length
  | [], [], _, _, _ => rfl
  | [], _ :: _, _, _, h => by cases h
  | _ :: _, [], _, _, h => by cases h
  | i :: is, d :: ds, env, env1, h => by
    obtain ⟨env2, e1, e2⟩ := Option.bind_eq_some_iff.mp h
    simp [setVs_len e2]
theorem ss_par {is : List Nat} {es : List E} : SS G Φ k (.par is es) := fun X W C g st h => by
  unfold chkS at h
  split at h
  · rename_i ts k1 p vs k2 p2 pos
    simp only [Bool.and_eq_true, Bool.or_eq_true, decide_eq_true_eq, beq_iff_eq] at h
    obtain ⟨⟨⟨⟨⟨h1, h2⟩, h3⟩, h4⟩, h5⟩, h6⟩ := h
    have sw := swap_of g h5
    obtain ⟨l1, l2⟩ := nmLs_of g h1
    have pa := s_L (W := W) g es (fun c _ => soundE c) vs h2
    match ts, vs, is, l1, l2, h3, h4, h6, pa, sw with
    | [a, b], [v, u], [i, j], _, l2, _, _, h6, pa, sw =>
      obtain ⟨x, px, rfl, hx1, hx2⟩ := l2 0 i a rfl rfl
      obtain ⟨y, py, rfl, hy1, hy2⟩ := l2 1 j b rfl rfl
      have hij : i ≠ j := fun z => by simp [z] at h6
      refine PS.weak (ps_par g.calm g.nd hx1 hy1 hij hx2 hy2 pa sw rfl) fun D σ H q => ?_
      obtain ⟨env, S, w, a, fl, e1, q⟩ := q
      rw [evS] at e1
      obtain ⟨r1, e2, q1⟩ := run_bndS (R := RepL k) a e1 q
      refine ⟨env, S, w, a, r1, e2, q1.imp fun vs H1 ⟨S1, w1, ds, a1, x1, r1, fl2, e3, q2⟩ => ?_⟩
      rw [if_pos h6] at e3
      obtain ⟨env2, e4, rfl⟩ := Option.map_eq_some_iff.mp e3
      have hl := setVs_len e4
      clear e3
      match ds, hl, e4, r1 with
      | [d1, d2], _, e3, r1 =>
        obtain ⟨v1, v2, rfl, r1, r2⟩ := repL_two r1
        obtain ⟨env3, q1, e3⟩ := Option.bind_eq_some_iff.mp e3
        obtain ⟨env4, q3, e3⟩ := Option.bind_eq_some_iff.mp e3
        cases e3
        have a2 := setV_at q1 a1 r1
        have a3 := setV_at q3 a2 r2
        exact ⟨v1, v2, rfl, q2 _ w1 H1 a3 Ext.refl⟩
    | [a, b, c], [v, u, z], [i, j, l], _, l2, _, _, h6, pa, sw =>
      obtain ⟨x, px, rfl, hx1, hx2⟩ := l2 0 i a rfl rfl
      obtain ⟨y, py, rfl, hy1, hy2⟩ := l2 1 j b rfl rfl
      obtain ⟨zz, pz, rfl, hz1, hz2⟩ := l2 2 l c rfl rfl
      have hij : i ≠ j := fun q => by simp [q] at h6
      have hil : i ≠ l := fun q => by simp [q] at h6
      have hjl : j ≠ l := fun q => by simp [q] at h6
      refine PS.weak (ps_par3 g.calm g.nd hx1 hy1 hz1 hij hil hjl hx2 hy2 hz2 pa sw rfl) fun D σ H q => ?_
      obtain ⟨env, S, w, a, fl, e1, q⟩ := q
      rw [evS] at e1
      obtain ⟨r1, e2, q1⟩ := run_bndS (R := RepL k) a e1 q
      refine ⟨env, S, w, a, r1, e2, q1.imp fun vs H1 ⟨S1, w1, ds, a1, x1, r1, fl2, e3, q2⟩ => ?_⟩
      rw [if_pos h6] at e3
      obtain ⟨env2, e4, rfl⟩ := Option.map_eq_some_iff.mp e3
      have hl := setVs_len e4
      clear e3
      match ds, hl, e4, r1 with
      | [d1, d2, d3], _, e3, r1 =>
        obtain ⟨v1, r, rfl, p1, p2⟩ := repL_cons.mp r1
        obtain ⟨v2, v3, rfl, r2, r3⟩ := repL_two p2
        obtain ⟨env3, q1, e3⟩ := Option.bind_eq_some_iff.mp e3
        obtain ⟨env4, q3, e3⟩ := Option.bind_eq_some_iff.mp e3
        obtain ⟨env5, q4, e3⟩ := Option.bind_eq_some_iff.mp e3
        cases e3
        have a2 := setV_at q1 a1 p1
        have a3 := setV_at q3 a2 r2
        have a4 := setV_at q4 a3 r3
        exact ⟨v1, v2, v3, rfl, q2 _ w1 H1 a4 Ext.refl⟩
    | [], _, _, _, _, h3, _, _, _, _ => exact (by rcases h3 with h3 | h3 <;> cases h3)
    | [_], _, _, _, _, h3, _, _, _, _ => exact (by rcases h3 with h3 | h3 <;> cases h3)
    | _ :: _ :: _ :: _ :: _, _, _, _, _, h3, _, _, _, _ => exact (by rcases h3 with h3 | h3 <;> (simp at h3))
  · cases h
/-! ### statements that hold others -/
theorem ss_nil : SSs G Φ k [] := fun X W C g sts h => by
  unfold chkSs at h
  cases sts with
  | nil =>
    refine PSs.weak pss_nil fun D σ H q => ?_
    obtain ⟨env, S, w, a, fl, e, q⟩ := q
    rw [evSs] at e
    cases e
    exact q _ w H a Ext.refl
  | cons _ _ => cases h
theorem rd_seq {W : XK} {σ : L2.St} {H : Hp} {s : S} {ss : List S} {D : Ends} (q : rdS k W (evSs G Φ (s :: ss)) D σ H) : tSeq (rdS k W (evS G Φ s)) (rdS k W (evSs G Φ ss)) D σ H := by
  obtain ⟨env, S, w, a, fl, e, q⟩ := q
  rw [evSs] at e
  cases m : evS G Φ s env S with
  | none => rw [m] at e; cases e
  | some f =>
    rw [m] at e
    refine ⟨env, S, w, a, f, m, ?_⟩
    cases f with
    | nx env1 S1 => exact fun σ' w' H' a' x' => ⟨env1, S1, w', a', fl, e, q.ext a.sep a'.sep x'⟩
    | rt d S1 =>
      have e : some (Fl.rt d S1) = some fl := e
      cases e
      exact fun v σ' w' H' a' x' r => q v σ' w' H' a' x' r
    | ex x env1 S1 =>
      have e : some (Fl.ex x env1 S1) = some fl := e
      cases e
      exact fun c d σ' w' H' a' x' r => q c d σ' w' H' a' x' r
theorem ss_cons {s : S} {ss : List S} (hs : SS G Φ k s) (ht : SSs G Φ k ss) : SSs G Φ k (s :: ss) := fun X W C g sts h => by
  unfold chkSs at h
  split at h
  · rename_i i
    refine PSs.weak (ht X W C g sts h) fun D σ H q => ?_
    obtain ⟨env, S, w, a, fl, e, q⟩ := q
    rw [evSs, evS] at e
    cases m : slotAt env i with
    | none => rw [m] at e; cases e
    | some d =>
      rw [m, Option.bind_some] at e
      cases m2 : frzD 5 d S with
      | none => rw [m2] at e; cases e
      | some p =>
        rw [m2, Option.bind_some] at e
        cases m3 : setV env i p.1 with
        | none => rw [m3] at e; cases e
        | some env1 =>
          rw [m3] at e
          have e : evSs G Φ ss env1 p.2 = some fl := e
          obtain ⟨v, hv, rv⟩ := a.sl i d m
          obtain ⟨w1, a1, x1, r1⟩ := At.frzD (show frzD 5 d S = some (p.1, p.2) from m2) a rv
          have a2 := setV_at m3 a1 r1
          have hs2 : σ.set i (some v) = σ := by
            apply List.ext_getElem?
            intro j
            rw [List.getElem?_set]
            by_cases z : i = j
            · subst z
              have hj : σ[i]? = some (some v) := by
                unfold valAt at hv
                rw [List.getD_eq_getElem?_getD] at hv
                cases q : σ[i]? with
                | none => rw [q] at hv; cases hv
                | some y => rw [q] at hv; exact congrArg some hv
              rw [if_pos rfl, if_pos (List.getElem?_eq_some_iff.mp hj).1, hj]
            · rw [if_neg z]
          rw [hs2] at a2
          exact ⟨env1, p.2, w1, a2, fl, e, q.ext a.sep a1.sep x1⟩
  · split at h
    · obtain ⟨h1, h2⟩ := Bool.and_eq_true_iff.mp h
      exact PSs.weak (pss_cons (hs X W C g _ h1) (ht X W C g _ h2)) fun D σ H q => rd_seq q
    · cases h
theorem bndS_toB {m : Option (Re D)} {env : Env} {A B : Sto → Option Fl} : (bndS m env fun x S => match x with | .bl true => A S | .bl false => B S | _ => none) = bndS (toB m) env fun b S => if b then A S else B S := by
  cases m with
  | none => rfl
  | some r1 =>
    cases r1 with
    | ok d S =>
      cases d with
      | bl b => cases b <;> rfl
      | _ => rfl
    | ex x S => rfl
theorem ss_ife {c : E} {aa b : List S} (ha : SSs G Φ k aa) (hb : SSs G Φ k b) : SS G Φ k (.ife c aa b) := fun X W C g st h => by
  unfold chkS at h
  split at h
  · simp only [Bool.and_eq_true] at h
    obtain ⟨⟨⟨h1, h2⟩, h3⟩, h4⟩ := h
    refine PS.weak (ps_if (soundT c X W C g _ h1 h2) (ha X W C g _ h3) (hb X W C g _ h4)) fun D σ H q => ?_
    obtain ⟨env, S, w, a, fl, e, q⟩ := q
    rw [evS] at e
    replace e := (bndS_toB (A := fun S => evSs G Φ aa env S) (B := fun S => evSs G Φ b env S)).symm.trans e
    obtain ⟨r1, e1, q1⟩ := run_bndS (R := fun _ (a b : Bool) => a = b) a e q
    refine ⟨env, S, w, a, r1, e1, q1.imp fun v H1 ⟨S1, w1, d1, a1, x1, r1, fl2, e2, q2⟩ => ?_⟩
    subst r1
    cases d1 with
    | true => exact ⟨env, S1, w1, a1, fl2, e2, q2⟩
    | false => exact ⟨env, S1, w1, a1, fl2, e2, q2⟩
  · cases h
theorem ss_for {t : Tg} {src : E} {body : List S} (hb : SSs G Φ k body) : SS G Φ k (.for_ t src body) := fun X W C g st h => by
  unfold chkS at h
  split at h
  · simp only [Bool.and_eq_true] at h
    obtain ⟨⟨⟨⟨h1, h2⟩, h3⟩, h4⟩, h5⟩ := h
    have hg := (tgt_pg g h4).1
    rw [show X.K = k.K from g.kk] at hg
    exact PS.weak (ps_for g.pass g.calm (soundI src X W C g _ _ h1 h2 h3) hg (hb X W C g _ h5) (folded_none (src_plain h1 h2))) fun D σ H q => rd_for q
  · cases h
theorem rd_whl {W : XK} {σ : L2.St} {H : Hp} {n : Nat} {c : E} {body : List S} {D : Ends} (q : rdS k W (evS G Φ (.whl n c body)) D σ H) : tWhile (rdT k W (evE G Φ c)) (rdS k W (evSs G Φ body)) D σ H := by
  obtain ⟨env, S, w, a, fl, e, q⟩ := q
  rw [evS] at e
  refine ⟨fun m σ' H' => ∃ env' S' w' fl, At k σ' env' S' w' H' ∧ whGo (fun e s => evE G Φ c e s) (fun e s => evSs G Φ body e s) m env' S' = some fl ∧ AftS k W w' H' σ' D fl, ⟨n, env, S, w, fl, a, e, q⟩, fun m σ' H' ⟨env', S', w', fl', a', e', q'⟩ => ?_⟩
  cases m with
  | zero => rw [whGo] at e'; cases e'
  | succ m =>
    rw [whGo] at e'
    replace e' := (bndS_toB (A := fun S => match evSs G Φ body env' S with
      | some (Fl.nx env2 S2) => whGo (fun e s => evE G Φ c e s) (fun e s => evSs G Φ body e s) m env2 S2
      | r => r) (B := fun S => some (Fl.nx env' S))).symm.trans e'
    obtain ⟨r1, e1, q1⟩ := run_bndS (R := fun _ (a b : Bool) => a = b) a' e' q'
    refine ⟨env', S', w', a', r1, e1, q1.imp fun v H1 ⟨S1, w1, d1, a1, x1, r1, fl2, e2, q2⟩ => ?_⟩
    subst r1
    cases d1 with
    | false =>
      rw [if_neg Bool.false_ne_true]
      cases e2
      exact q2 σ' w1 H1 a1 Ext.refl
    | true =>
      rw [if_pos rfl]
      rw [if_pos rfl] at e2
      refine ⟨fun σ' H' => ∃ env' S' w' fl, At k σ' env' S' w' H' ∧ whGo (fun e s => evE G Φ c e s) (fun e s => evSs G Φ body e s) m env' S' = some fl ∧ AftS k W w' H' σ' D fl, fun σ4 H4 z => ⟨m, Nat.lt_succ_self m, z⟩, ?_⟩
      cases mm : evSs G Φ body env' S1 with
      | none => rw [mm] at e2; cases e2
      | some f =>
        rw [mm] at e2
        refine ⟨env', S1, w1, a1, f, mm, ?_⟩
        cases f with
        | nx env3 S3 => exact fun σ4 w4 H4 a4 x4 => ⟨env3, S3, w4, fl2, a4, e2, q2.ext a1.sep a4.sep x4⟩
        | rt d S3 =>
          have e2 : some (Fl.rt d S3) = some fl2 := e2
          cases e2
          exact fun v σ4 w4 H4 a4 x4 r4 => q2 v σ4 w4 H4 a4 x4 r4
        | ex xx env3 S3 =>
          have e2 : some (Fl.ex xx env3 S3) = some fl2 := e2
          cases e2
          exact fun c d σ4 w4 H4 a4 x4 r4 => q2 c d σ4 w4 H4 a4 x4 r4
theorem ss_whl {n : Nat} {c : E} {body : List S} (hb : SSs G Φ k body) : SS G Φ k (.whl n c body) := fun X W C g st h => by
  unfold chkS at h
  split at h
  · simp only [Bool.and_eq_true] at h
    obtain ⟨⟨h1, h2⟩, h3⟩ := h
    exact PS.weak (ps_while g.pass (soundT c X W C g _ h1 h2) (hb X W C g _ h3)) fun D σ H q => rd_whl q
  · cases h
theorem ss_frz {i : Nat} : SS G Φ k (.frz i) := fun X W C g st h => by unfold chkS at h; cases h
theorem soundB : ∀ (n : Nat), (∀ s : S, sizeOf s < n → SS G Φ k s) ∧ ∀ ss : List S, sizeOf ss < n → SSs G Φ k ss
  | 0 => ⟨fun _ h => absurd h (Nat.not_lt_zero _), fun _ h => absurd h (Nat.not_lt_zero _)⟩
  | n + 1 => by
    obtain ⟨i1, i2⟩ := soundB n
    constructor
    · intro s h
      cases s with
      | asg t e => exact ss_asg
      | asg1 i e => exact ss_asg1
      | par is es => exact ss_par
      | oset a ix e => exact ss_oset
      | app a e => exact ss_app
      | ext a e => exact ss_ext
      | frz i => exact ss_frz
      | ex e => exact ss_ex
      | ife c a b => exact ss_ife (i2 a (by simp at h; omega)) (i2 b (by simp at h; omega))
      | for_ t src body => exact ss_for (i2 body (by simp at h; omega))
      | whl m c body => exact ss_whl (i2 body (by simp at h; omega))
      | ret e => exact ss_ret
      | retN => exact ss_retN
      | never => exact ss_never
    · intro ss h
      cases ss with
      | nil => exact ss_nil
      | cons s ss => exact ss_cons (i1 s (by simp at h; omega)) (i2 ss (by simp at h; omega))
theorem soundS (ss : List S) : SSs G Φ k ss := (soundB _).2 ss (Nat.lt_succ_self _)
end
end Sf

/-! Sf.Fun: a def of the text is worth what its term reckons. -/
namespace Sf
open PySem PySem.Spec PyProof.Rows L2

/-! ### cells at the store's end that nobody knows of -/
mutual
/-- no cell at n or behind -/
def bd (n : Nat) : D → Bool
  | .tup ds => bds n ds
  | .lst ds => bds n ds
  | .dct _ _ ds => bds n ds
  | .ref m => decide (m < n)
  | _ => true
def bds (n : Nat) : List D → Bool
  | [] => true
  | d :: ds => bd n d && bds n ds
end
def bdO (n : Nat) : Ob → Bool
  | .gone => true
  | .lst ds => bds n ds
  | .dct _ _ ds => bds n ds
  | .ins _ fs => bds n (fs.map (·.2))
def WfS (S : Sto) : Prop := ∀ o ∈ S, bdO S.length o = true
theorem bds_mem {n : Nat} : ∀ {ds : List D}, bds n ds = true ↔ ∀ d ∈ ds, bd n d = true
  | [] => by simp [bds]
  | d :: ds => by rw [bds, Bool.and_eq_true, bds_mem]; simp
section
variable {k : Kx} {f g : Fz} {n : Nat}
mutual
theorem rep_bd (h : ∀ m, n ≤ m → f.A m = none) : ∀ (d : D) (v : V), Rep k f d v → bd n d = true
  | .non, _, _ => by unfold bd; rfl
  | .bl _, _, _ => by unfold bd; rfl
  | .int _, _, _ => by unfold bd; rfl
  | .str _, _, _ => by unfold bd; rfl
  | .scr _, _, _ => by unfold bd; rfl
  | .tup ds, v, r => by
    unfold Rep at r
    obtain ⟨a, vs, _, _, r⟩ := r
    unfold bd
    exact repL_bd h ds vs r
  | .lst ds, v, r => by
    unfold Rep at r
    obtain ⟨a, vs, _, _, r⟩ := r
    unfold bd
    exact repL_bd h ds vs r
  | .dct t ks ds, v, r => by
    unfold Rep at r
    obtain ⟨a, vs, o, _, _, _, r⟩ := r
    unfold bd
    exact repL_bd h ds vs r
  | .ref m, v, r => by
    unfold Rep at r
    obtain ⟨a, e, _⟩ := r
    unfold bd
    refine decide_eq_true (Nat.lt_of_not_le fun z => ?_)
    rw [h m z] at e; cases e
theorem repL_bd (h : ∀ m, n ≤ m → f.A m = none) : ∀ (ds : List D) (vs : List V), RepL k f ds vs → bds n ds = true
  | [], _, _ => by unfold bds; rfl
  | d :: ds, vs, r => by
    unfold RepL Rep.RepL at r
    obtain ⟨v, r', _, r1, r2⟩ := r
    unfold bds
    rw [rep_bd h d v r1, repL_bd h ds r' r2]; rfl
end
def cutA (f : Fz) (n : Nat) : Fz := ⟨f.F, fun m => if m < n then f.A m else none⟩
mutual
theorem rep_cut : ∀ (d : D) (v : V), bd n d = true → Rep k f d v → Rep k (cutA f n) d v
  | .non, _, _, r => r
  | .bl _, _, _, r => r
  | .int _, _, _, r => r
  | .str _, _, _, r => r
  | .scr _, _, _, r => r
  | .tup ds, v, h, r => by
    unfold Rep at r ⊢
    obtain ⟨a, vs, e1, e2, r⟩ := r
    unfold bd at h
    exact ⟨a, vs, e1, e2, repL_cut ds vs h r⟩
  | .lst ds, v, h, r => by
    unfold Rep at r ⊢
    obtain ⟨a, vs, e1, e2, r⟩ := r
    unfold bd at h
    exact ⟨a, vs, e1, e2, repL_cut ds vs h r⟩
  | .dct t ks ds, v, h, r => by
    unfold Rep at r ⊢
    obtain ⟨a, vs, o, e1, e2, e3, r⟩ := r
    unfold bd at h
    exact ⟨a, vs, o, e1, e2, e3, repL_cut ds vs h r⟩
  | .ref m, v, h, r => by
    unfold Rep at r ⊢
    obtain ⟨a, e1, e2⟩ := r
    unfold bd at h
    exact ⟨a, by show (if m < n then f.A m else none) = some a; rw [if_pos (of_decide_eq_true h)]; exact e1, e2⟩
theorem repL_cut : ∀ (ds : List D) (vs : List V), bds n ds = true → RepL k f ds vs → RepL k (cutA f n) ds vs
  | [], _, _, r => r
  | d :: ds, vs, h, r => by
    unfold RepL Rep.RepL at r ⊢
    obtain ⟨v, r', e, r1, r2⟩ := r
    unfold bds at h
    obtain ⟨h1, h2⟩ := Bool.and_eq_true_iff.mp h
    exact ⟨v, r', e, rep_cut d v h1 r1, repL_cut ds r' h2 r2⟩
end
theorem fsOk_cut {fs : List (Str × D)} {gs : List (Str × V)} (h : bds n (fs.map (·.2)) = true) (r : FsOk k f fs gs) : FsOk k (cutA f n) fs gs := by
  induction r with
  | nil => exact .nil
  | cons h1 h2 ih =>
    rw [List.map_cons] at h
    unfold bds at h
    obtain ⟨q1, q2⟩ := Bool.and_eq_true_iff.mp h
    exact .cons ⟨h1.1, rep_cut _ _ q1 h1.2⟩ (ih q2)
theorem cell_cut {p : Addr} {O : Hp} {o : Ob} (h : bdO n o = true) (r : CellOk k f p O o) : CellOk k (cutA f n) p O o := by
  cases o with
  | gone => exact r
  | lst ds => obtain ⟨vs, h1, h2⟩ := r; exact ⟨vs, repL_cut ds vs h h1, h2⟩
  | dct t ks ds => obtain ⟨vs, o, h1, h2, h3⟩ := r; exact ⟨vs, o, h1, repL_cut ds vs h h2, h3⟩
  | ins c fs => obtain ⟨gs, dx, h1, h2, h3⟩ := r; exact ⟨gs, dx, fsOk_cut h h1, h2, h3⟩
theorem cell_bd {p : Addr} {O : Hp} {o : Ob} (h : ∀ m, n ≤ m → f.A m = none) (r : CellOk k f p O o) : bdO n o = true := by
  cases o with
  | gone => rfl
  | lst ds => obtain ⟨vs, h1, h2⟩ := r; exact repL_bd h ds vs h1
  | dct t ks ds => obtain ⟨vs, o, h1, h2, h3⟩ := r; exact repL_bd h ds vs h2
  | ins c fs =>
    obtain ⟨gs, dx, h1, h2, h3⟩ := r
    clear h2 h3
    show bds n (fs.map (·.2)) = true
    induction h1 with
    | nil => unfold bds; rfl
    | cons q1 q2 ih =>
      rw [List.map_cons]; unfold bds
      rw [rep_bd h _ _ q1.2, ih]; rfl
end
section
variable {k : Kx} {S J : Sto} {w w' : Wd} {H H' : Hp}
theorem At0.wf (a : At0 k S w H) : WfS S := fun o ho => by
  obtain ⟨i, hi, e⟩ := List.getElem_of_mem ho
  obtain ⟨p, _, h⟩ := a.ce i o (by rw [List.getElem?_eq_getElem hi, e])
  exact cell_bd (fun m hm => (a.out m hm).1) h
/-- the last cells are forgotten -/
def cutW (w : Wd) (n : Nat) : Wd := ⟨cutA w.f n, fun i => if i ≤ n then w.O i else nil⟩
theorem At0.cut (a : At0 k (S ++ J) w H) (h : WfS S) : At0 k S (cutW w S.length) H := by
  have oc : ∀ {i b o}, (if i ≤ S.length then w.O i else nil) b = some o → i ≤ S.length ∧ w.O i b = some o := fun {i b o} e => by
    by_cases z : i ≤ S.length
    · rw [if_pos z] at e; exact ⟨z, e⟩
    · rw [if_neg z] at e; cases e
  refine ⟨rfl, ⟨a.sep.fh, fun i b o e => a.sep.oh i b o (oc e).2, fun i b o e => a.sep.fo i b o (oc e).2, fun i j b o ne e => ?_⟩, ?_, fun n hn => ⟨if_neg (by omega), if_neg (by omega)⟩, fun n o e => ?_, fun i d e => by cases i <;> cases e⟩
  · show (if j ≤ S.length then w.O j else nil) b = none
    by_cases z : j ≤ S.length
    · rw [if_pos z]; exact a.sep.oo i j b o ne (oc e).2
    · rw [if_neg z]; rfl
  · show LamX.Tabs k.T (if 0 ≤ S.length then w.O 0 else nil)
    rw [if_pos (Nat.zero_le _)]; exact a.tab
  · have hn : n < S.length := (List.getElem?_eq_some_iff.mp e).1
    obtain ⟨p, h1, h2⟩ := a.ce n o (by rw [List.getElem?_append_left hn]; exact e)
    refine ⟨p, (if_pos hn).trans h1, ?_⟩
    show CellOk k _ p (if n + 1 ≤ S.length then w.O (n + 1) else nil) o
    rw [if_pos (by omega)]
    exact cell_cut (h o (List.mem_of_getElem? e)) h2
theorem Ext.cut {S0 : Sto} (a : At0 k S0 w H) (x : Ext w H w' H') (hl : S0.length ≤ S.length) : Ext w H (cutW w' S.length) H' := by
  have oc : ∀ {i b o}, (if i ≤ S.length then w'.O i else nil) b = some o → i ≤ S.length ∧ w'.O i b = some o := fun {i b o} e => by
    by_cases z : i ≤ S.length
    · rw [if_pos z] at e; exact ⟨z, e⟩
    · rw [if_neg z] at e; cases e
  refine ⟨⟨x.le.ff, fun n b e => ?_⟩, x.hh, x.nf, fun j b o e => x.no j b o (oc e).2⟩
  have hn : n < S0.length := Nat.lt_of_not_le fun z => by rw [(a.out n z).1] at e; cases e
  exact (if_pos (by omega)).trans (x.le.aa n b e)
end

/-! ### defs -/
/-- a def as it stands; kws: its keyword-only defaults -/
structure DefR (K : PySem.W.Frag) (mg : Str → Option Value) (x : Str) (st : Stmt) (kws : List (Str × V)) : Prop where
  ex : ∃ (f : Addr) (fd : FuncData), mg x = some (.ref f) ∧ FunD K x x (defArgs st) (defBody st) (defScope st) [] kws f fd
theorem def_mk {K : PySem.W.Frag} {h : Heap} {mg : Str → Option Value} {x : Str} {st : Stmt} {f : Addr} (X : K.In h) (G : h.Ns mainGlobals mg) {oc : Value} {od an : Option Addr} {osl : Array (Option Value)} {kV doc pm cdv ct : Value}
    (a : PySem.W.nsIn K mainGlobals x = some (some (.ref f))) (l : K.lookup f = some ⟨oc, od, .func (PySem.W.fnOf x x (defArgs st) (defBody st) (defScope st) .none kV doc pm an cdv ct), osl⟩) (c : PySem.W.codeIn K cdv x = true) (k : PySem.W.keepIn K (.ref f) = true) : DefR K mg x st [] :=
  ⟨⟨f, _, PySem.W.mg_of X G a, ⟨⟨oc, od, .none, kV, doc, pm, an, cdv, ct, osl, rfl, l, c, .inl ⟨rfl, rfl⟩, .inl rfl⟩, k⟩⟩⟩
theorem def_mkK {K : PySem.W.Frag} {h : Heap} {mg : Str → Option Value} {x : Str} {st : Stmt} {kws : List (Str × V)} {f : Addr} (X : K.In h) (G : h.Ns mainGlobals mg) {oc : Value} {od an : Option Addr} {osl : Array (Option Value)} {D : Addr} {doc pm cdv ct : Value}
    (a : PySem.W.nsIn K mainGlobals x = some (some (.ref f))) (l : K.lookup f = some ⟨oc, od, .func (PySem.W.fnOf x x (defArgs st) (defBody st) (defScope st) .none (.ref D) doc pm an cdv ct), osl⟩) (c : PySem.W.codeIn K cdv x = true) (k : PySem.W.keepIn K (.ref f) = true)
    (hk : ∀ q ∈ kws, ∃ u, PySem.W.nsIn K D q.1 = some (some u) ∧ RelV q.2 u) : DefR K mg x st kws :=
  ⟨⟨f, _, PySem.W.mg_of X G a, ⟨⟨oc, od, .none, .ref D, doc, pm, an, cdv, ct, osl, rfl, l, c, .inl ⟨rfl, rfl⟩, .inr ⟨D, rfl, hk⟩⟩, k⟩⟩⟩
section
variable (k : Kx) (mg : Str → Option Value) (base : Heap)
/-- how a way of calling binds -/
def BindC (fd : FuncData) (ps : List Str) (c : Cf) : Prop :=
  (c.ks = [] ∧ ∃ dvs ds, Vals dvs ds ∧ Binds k.K fd ps ds ∧ KfVs [] c.fs dvs) ∨
    (c.ks ≠ [] ∧ ∃ g gV, KBn k.K fd ps c.n c.ks g gV ∧ ∀ vs zs dz, vs.length = c.n → zs.length = c.ks.length → KfVs zs c.fs dz → gV vs zs = vs ++ dz)
/-- a def worth φ -/
structure DefAt (c : Cf) (lv : Nat) (φ : FnSem) : Prop where
  ex : ∃ (f : Addr) (fd : FuncData) (ps : List Str), mg c.x = some (.ref f) ∧ PySem.W.keepIn k.K (.ref f) = true ∧ ps.length = c.n + c.fs.length ∧ FnOk k.P k.w k.K mg base (L2.CX k.P k.w) lv f fd ps (spOf k φ (c.n + c.fs.length)) ∧ BindC k fd ps c
end
section
variable {k : Kx} {mg : Str → Option Value} {base : Heap} {c : Cf} {i j : Nat} {φ φ' : FnSem}
theorem DefAt.mono (D : DefAt k mg base c i φ) (h : i ≤ j) : DefAt k mg base c j φ := by
  obtain ⟨f, fd, ps, h1, h2, h3, h4, h5⟩ := D.ex
  exact ⟨f, fd, ps, h1, h2, h3, h4.mono h, h5⟩
def Re.st : Re D → Sto
  | .ok _ S => S
  | .ex _ S => S
def Re.more (J : Sto) : Re D → Re D
  | .ok d S => .ok d (S ++ J)
  | .ex x S => .ex x (S ++ J)
def Re.bd (n : Nat) : Re D → Bool
  | .ok d _ => Sf.bd n d
  | .ex x _ => match x.f with
    | some p => Sf.bd n p.2
    | none => true
/-- what is wanted of a def, by what it is known to be worth: cells at the end may be left over -/
def Wd2 (φ φ' : FnSem) (n : Nat) : Prop := ∀ (as : List D) (S : Sto) (r : Re D), as.length = n → WfS S → (∀ a ∈ as, bd S.length a = true) → φ as S = some r → S.length ≤ r.st.length ∧ WfS r.st ∧ r.bd r.st.length = true ∧ ∃ J, φ' as S = some (r.more J)
theorem spOf_le {n : Nat} {vs : List V} {H : Hp} {Q : VK} {E : XK} (h : Wd2 φ φ' n) (q : spOf k φ n vs H Q E) : spOf k φ' n vs H Q E := by
  obtain ⟨S, w, ds, h1, h2, h3, h4, r, h5, h6⟩ := q
  obtain ⟨q1, q2, q3, J, q4⟩ := h ds S r h3 h1.wf (fun a ha => by
    obtain ⟨i, hi, e⟩ := List.getElem_of_mem ha
    obtain ⟨v, _, rv⟩ := h2.get (i := i) (by rw [List.getElem?_eq_getElem hi, e])
    exact rep_bd (fun m hm => (h1.out m hm).1) a v rv) h5
  refine ⟨S, w, ds, h1, h2, h3, h4, _, q4, ?_⟩
  cases r with
  | ok d S' => exact fun v w' H' a' x' rv => h6 v (cutW w' S'.length) H' (At0.cut a' q2) (Ext.cut h1 x' q1) (rep_cut d v q3 rv)
  | ex x S' =>
    refine fun c d w' H' a' x' ro => h6 c d (cutW w' S'.length) H' (At0.cut a' q2) (Ext.cut h1 x' q1) ⟨ro.1, ?_⟩
    have r2 := ro.2
    replace q3 : (match x.f with
      | some p => Sf.bd S'.length p.2
      | none => true) = true := q3
    split at r2
    · exact r2
    · rename_i nm dd e
      obtain ⟨a, v, z1, z2, z3⟩ := r2
      rw [e] at q3
      exact ⟨a, v, z1, z2, rep_cut dd v q3 z3⟩
theorem DefAt.imp (D : DefAt k mg base c i φ') (h : Wd2 φ φ' (c.n + c.fs.length)) : DefAt k mg base c i φ := by
  obtain ⟨f, fd, ps, h1, h2, h3, h4, h5⟩ := D.ex
  exact ⟨f, fd, ps, h1, h2, h3, h4.imp fun vs H Q E q => spOf_le h q, h5⟩
/-- a def that leaves the store as it is -/
def pureF (φ : List D → Option D) : FnSem := fun as S => (φ as).map fun d => .ok d S
/-- .. worth a value without cells -/
theorem wd_pure {n : Nat} {p : List D → Option D} (h : ∀ as d S, as.length = n → p as = some d → plain d = true ∧ ∃ J, φ' as S = some (.ok d (S ++ J))) : Wd2 (pureF p) φ' n := fun as S r hn wf ba e => by
  obtain ⟨d, e1, rfl⟩ := Option.map_eq_some_iff.mp e
  obtain ⟨h1, J, h2⟩ := h as d S hn e1
  refine ⟨Nat.le_refl _, wf, ?_, J, h2⟩
  have pl : ∀ (d : D), plain d = true → bd S.length d = true := fun d => by
    refine D.rec (motive_1 := fun d => plain d = true → bd S.length d = true) (motive_2 := fun ds => plains ds = true → bds S.length ds = true) ?_ ?_ ?_ ?_ ?_ ?_ ?_ ?_ ?_ ?_ ?_ d
    · intro _; unfold bd; rfl
    · intro _ _; unfold bd; rfl
    · intro _ _; unfold bd; rfl
    · intro _ _; unfold bd; rfl
    · intro ds ih h; unfold bd; exact ih (by unfold plain at h; exact h)
    · intro ds ih h; unfold bd; exact ih (by unfold plain at h; exact h)
    · intro _ _; unfold bd; rfl
    · intro _ _ _ _ h; unfold plain at h; cases h
    · intro _ h; unfold plain at h; cases h
    · intro _; unfold bds; rfl
    · intro d ds h1 h2 h
      unfold plains plain.plains at h
      obtain ⟨q1, q2⟩ := Bool.and_eq_true_iff.mp h
      unfold bds
      rw [h1 q1, h2 q2]; rfl
  exact pl d h1
end
abbrev FnL := List (Cf × FnSem)
def phi (l : FnL) (j : Nat) : FnSem := match l[j]? with
  | some p => p.2
  | none => fun _ _ => none
abbrev GlL := List (Str × D)
def gam (l : GlL) (j : Nat) : Option D := (l[j]?).map (·.2)
/-- what a body is looked at with -/
def mkSC (N : List Str) (names : List (Str × NameKind)) (fns : List Cf) (glo blt : List Str) : SC := { N := N, names := names, cs := true, fns := fns, glo := glo, blt := blt }
theorem start_at {k : Kx} {S : Sto} {w : Wd} {H : Hp} {as : List D} {vs : List V} {n : Nat} {N : List Str} (a : At0 k S w H) (r : RepL k w.f as vs) (h1 : as.length = n) (hn : n ≤ N.length) : At k (L2.start N vs) (startE as N.length) S w H := by
  have h2 : vs.length = n := by rw [r.length]; exact h1
  refine ⟨?_, a.sep, a.tab, a.out, a.ce, fun i d e => ?_⟩
  · unfold L2.start startE
    simp only [List.length_append, List.length_map, List.length_replicate]
    omega
  · unfold slotAt startE at e
    rw [List.getD_eq_getElem?_getD] at e
    by_cases hi : i < n
    · rw [List.getElem?_append_left (by simp; omega), List.getElem?_map] at e
      cases q : as[i]? with
      | none => rw [q] at e; cases e
      | some d' =>
        rw [q] at e
        cases e
        obtain ⟨v, q2, rv⟩ := r.get q
        refine ⟨v, ?_, rv⟩
        unfold valAt L2.start
        rw [List.getD_eq_getElem?_getD, List.getElem?_append_left (by simp; omega), List.getElem?_map, q2]; rfl
    · rw [List.getElem?_append_right (by simp; omega), List.getElem?_replicate] at e
      split at e <;> cases e
section
variable {k : Kx} {mg : Str → Option Value} {base : Heap}
/-- THE RULE: a def whose text a term says is worth what the term reckons -/
theorem fn_worth {x : Str} {st : Stmt} {kws : List (Str × V)} {f : Addr} {fd : FuncData} (h3 : FunD k.K x x (defArgs st) (defBody st) (defScope st) [] kws f fd) {N ps : List Str} {lv : Nat} {fns : FnL} {gl : GlL} {blt : List Str} {body : List S}
    (S : FnScope N ps (defScope st)) (hc : chkSs (mkSC N (defScope st).names (fns.map (·.1)) (gl.map (·.1)) blt) body (defBody st) = true)
    (hblt : ∀ y ∈ blt, mg y = none) (hgl : ∀ p ∈ gl, ∃ u v, mg p.1 = some u ∧ RelV v u ∧ ∀ f, Rep k f p.2 v) (hf : ∀ p ∈ fns, DefAt k mg base p.1 lv p.2) :
    FnOk k.P k.w k.K mg base (L2.CX k.P k.w) (lv + 1) f fd ps (spOf k (runF (gam gl) (phi fns) N.length body) ps.length) := by
  refine h3.ok S (fun vs H Q E q => ?_) (fun cdv A outer s H vs Q E hr q => ?_)
  · obtain ⟨_, _, _, _, _, _, q4, _⟩ := q
    exact q4
  · obtain ⟨S0, w, as, q1, q2, q3, q4, r, q6, q7⟩ := q
    have gd : Good (cxOf (L2.CX k.P k.w) k.P k.w k.K mg base N x (defScope st) f cdv A outer s H E) k E (mkSC N (defScope st).names (fns.map (·.1)) (gl.map (·.1)) blt) (gam gl) (phi fns) := by
      refine ⟨rfl, rfl, rfl, S.nd, rfl, rfl, S.kind, rfl, fun _ _ => rfl, passes_of rfl, takes_of rfl rfl rfl rfl, (by have := hr.un; show (A.deeper _).units + 70 < _; omega), fun j c e1 => ?_, fun j y dd e1 e2 => ?_, hblt⟩
      · have e1 : (fns.map (·.1))[j]? = some c := e1
        rw [List.getElem?_map] at e1
        cases e : fns[j]? with
        | none => rw [e] at e1; cases e1
        | some p =>
          rw [e] at e1
          cases e1
          obtain ⟨f', fd', ps', z1, z2, z3, z4, z5⟩ := (hf p (List.mem_of_getElem? e)).ex
          have : phi fns j = p.2 := by unfold phi; rw [e]
          rw [this]
          exact ⟨⟨f', fd', lv, ps', z1, z2, hr, z4, z5⟩⟩
      · have e1 : (gl.map (·.1))[j]? = some y := e1
        unfold gam at e2
        rw [List.getElem?_map] at e1
        cases e : gl[j]? with
        | none => rw [e] at e1; cases e1
        | some p =>
          rw [e] at e1 e2
          cases e1; cases e2
          exact hgl p (List.mem_of_getElem? e)
    refine ⟨_, soundS (k := k) body _ E _ gd _ hc, ?_⟩
    have hpl : ps.length ≤ N.length := by have := congrArg List.length S.pre; rw [List.length_take] at this; omega
    have a0 := start_at (N := N) q1 q2 q3 hpl
    unfold runF at q6
    cases m : evSs (gam gl) (phi fns) body (startE as N.length) S0 with
    | none => rw [m] at q6; cases q6
    | some fl =>
      rw [m] at q6
      refine ⟨_, S0, w, a0, fl, m, ?_⟩
      cases fl with
      | nx env' S' =>
        cases q6
        exact fun σ' w' H' a' x' => q7 _ w' H' a'.at0 x' rfl
      | rt d' S' =>
        cases q6
        exact fun v σ' w' H' ⟨_, a'⟩ x' r => q7 v w' H' a'.at0 x' r
      | ex x' env' S' =>
        cases q6
        exact fun c d σ' w' H' a' x' r => q7 c d w' H' a'.at0 x' r
/-- every parameter is written by its place -/
theorem DefR.at {x : Str} {st : Stmt} (R : DefR k.K mg x st []) {N ps : List Str} {lv : Nat} {fns : FnL} {gl : GlL} {blt : List Str} {body : List S}
    (S : FnScope N ps (defScope st)) (hb : ∀ (kV doc pm : Value) (an : Option Addr) (cdv ct : Value) (us : List Value), us.length = ps.length → bindArgs (PySem.W.fnOf x x (defArgs st) (defBody st) (defScope st) .none kV doc pm an cdv ct) ⟨us, []⟩ = pure (ps.zip us))
    (hc : chkSs (mkSC N (defScope st).names (fns.map (·.1)) (gl.map (·.1)) blt) body (defBody st) = true)
    (hblt : ∀ y ∈ blt, mg y = none) (hgl : ∀ p ∈ gl, ∃ u v, mg p.1 = some u ∧ RelV v u ∧ ∀ f, Rep k f p.2 v) (hf : ∀ p ∈ fns, DefAt k mg base p.1 lv p.2) :
    DefAt k mg base ⟨x, ps.length, [], []⟩ (lv + 1) (runF (gam gl) (phi fns) N.length body) := by
  obtain ⟨f, fd, h1, h3⟩ := R.ex
  exact ⟨f, fd, ps, h1, h3.kp, rfl, fn_worth h3 S hc hblt hgl hf, .inl ⟨rfl, [], [], .nil, h3.bindsN hb, .nil⟩⟩
/-- .. with keyword-only parameters -/
theorem DefR.atK {x : Str} {st : Stmt} {kws : List (Str × V)} {c : Cf} (R : DefR k.K mg x st kws) {N ps : List Str} {lv : Nat} {fns : FnL} {gl : GlL} {blt : List Str} {body : List S}
    (S : FnScope N ps (defScope st)) (hx : c.x = x) (hl : ps.length = c.n + c.fs.length) (hb : ∀ f fd, FunD k.K x x (defArgs st) (defBody st) (defScope st) [] kws f fd → BindC k fd ps c)
    (hc : chkSs (mkSC N (defScope st).names (fns.map (·.1)) (gl.map (·.1)) blt) body (defBody st) = true)
    (hblt : ∀ y ∈ blt, mg y = none) (hgl : ∀ p ∈ gl, ∃ u v, mg p.1 = some u ∧ RelV v u ∧ ∀ f, Rep k f p.2 v) (hf : ∀ p ∈ fns, DefAt k mg base p.1 lv p.2) :
    DefAt k mg base c (lv + 1) (runF (gam gl) (phi fns) N.length body) := by
  obtain ⟨f, fd, h1, h3⟩ := R.ex
  subst hx
  exact ⟨f, fd, ps, h1, h3.kp, hl, by rw [← hl]; exact fn_worth h3 S hc hblt hgl hf, hb f fd h3⟩
/-- no keyword is written -/
theorem bindC0 {x : Str} {st : Stmt} {kws : List (Str × V)} {f : Addr} {fd : FuncData} {ps : List Str} {c : Cf} (F : FunD k.K x x (defArgs st) (defBody st) (defScope st) [] kws f fd) (h0 : c.ks = []) (hk : kws ≠ []) (hn : c.n + kws.length = ps.length)
    (h : ∀ (D : Addr) (doc pm : Value) (an : Option Addr) (cdv ct : Value) (us ks : List Value), us.length = c.n → ks.length = kws.length →
      KwChain D ((kws.map (·.1)).zip ks) (bindArgs (PySem.W.fnOf x x (defArgs st) (defBody st) (defScope st) .none (.ref D) doc pm an cdv ct) ⟨us, []⟩) (ps.zip (us ++ ks)))
    (hf : KfVs [] c.fs (kws.map (·.2))) : BindC k fd ps c := by
  obtain ⟨ds, h1, h2⟩ := F.binds0 c.n hk hn h
  exact .inl ⟨h0, _, ds, h1, h2, hf⟩
/-- some are -/
theorem bindCK {x : Str} {st : Stmt} {kws : List (Str × V)} {f : Addr} {fd : FuncData} {ps : List Str} {c : Cf} (F : FunD k.K x x (defArgs st) (defBody st) (defScope st) [] kws f fd) (h0 : c.ks ≠ []) (ms : List (Str × V)) (g : {α : Type} → List α → List α → List α → List α) (hk : kws ≠ []) (hms : ∀ q ∈ ms, q ∈ kws)
    (hrel : ∀ {vs mz zs : List V} {us mv ws : List Value}, Vals vs us → Vals mz mv → Vals zs ws → Vals (g vs mz zs) (g us mv ws))
    (h : ∀ (D : Addr) (doc pm : Value) (an : Option Addr) (cdv ct : Value) (us mv ws : List Value), us.length = c.n → mv.length = ms.length → ws.length = c.ks.length →
      KwChain D ((ms.map (·.1)).zip mv) (bindArgs (PySem.W.fnOf x x (defArgs st) (defBody st) (defScope st) .none (.ref D) doc pm an cdv ct) ⟨us, c.ks.zip ws⟩) (ps.zip (g us mv ws)))
    (hf : ∀ vs zs dz, vs.length = c.n → zs.length = c.ks.length → KfVs zs c.fs dz → g vs (ms.map (·.2)) zs = vs ++ dz) : BindC k fd ps c := by
  obtain ⟨mv, h1⟩ := F.kbinds0 c.n c.ks ms g hk hms hrel h
  exact .inr ⟨h0, _, _, h1, hf⟩
end
/-- the law's promise -/
def spLaw (K : PySem.W.Frag) : L2.Sp := fun vs H Q _ => ∃ (a : Addr) (ns : List Int), vs = [.ref a] ∧ SqL K H a (ns.map V.int) ∧ ns.length ≤ 63 ∧ ∀ H', Q (.bl true) H'
/-- a law that is worth true at each script -/
theorem spLaw_le {k : Kx} {φ : FnSem} (hT : k.T = []) (h : ∀ ns : List Int, ns.length ≤ 63 → ∃ S', φ [.scr ns] [] = some (.ok (.bl true) S')) {vs : List V} {H : Hp} {Q : VK} {E : XK} (q : spLaw k.K vs H Q E) : spOf k φ 1 vs H Q E := by
  obtain ⟨a, ns, rfl, hS, hl, hq⟩ := q
  obtain ⟨S', ho⟩ := h ns hl
  refine ⟨[], ⟨⟨H, fun _ => none⟩, fun _ => nil⟩, [.scr ns], ⟨rfl, ⟨Same.refl H, fun _ _ _ z => (by cases z), fun _ _ _ z => (by cases z), fun _ _ _ _ _ _ => rfl⟩, ?_, fun n _ => ⟨rfl, rfl⟩, fun n o e => by simp at e, fun i d e => by cases i <;> cases e⟩, ?_, rfl, rfl, _, ho, fun v w' H' a' x' r => ?_⟩
  · rw [hT]; exact fun p hp => by cases hp
  · exact RepL.cons (rep_scr.mpr ⟨a, rfl, hS⟩) RepL.nil
  · cases r; exact hq H'
end Sf

/-! Sf.Val: tools to reckon with the terms. -/
namespace Sf
open PySem L2

theorem forGo_inv {t : Tg} {body : Env → Sto → Option Fl} (I : Nat → Env → Sto → Prop) : ∀ {ds : List D} {env : Env} {S : Sto} (k : Nat), I k env S →
    (∀ i d env S, ds[i]? = some d → I (k + i) env S → ∃ env1 env2 S2, asgT t d env = some env1 ∧ body env1 S = some (.nx env2 S2) ∧ I (k + i + 1) env2 S2) →
    ∃ env' S', forGo t body ds env S = some (.nx env' S') ∧ I (k + ds.length) env' S'
  | [], env, S, k, h0, _ => ⟨env, S, rfl, h0⟩
  | d :: ds, env, S, k, h0, st => by
    obtain ⟨env1, env2, S2, e1, e2, h1⟩ := st 0 d env S rfl h0
    obtain ⟨env', S', e3, h3⟩ := forGo_inv I (ds := ds) (k + 1) h1 fun i d env S hi hI => by
      have := st (i + 1) d env S hi (by rw [show k + (i + 1) = k + 1 + i by omega]; exact hI)
      rw [show k + (i + 1) + 1 = k + 1 + i + 1 by omega] at this
      exact this
    refine ⟨env', S', ?_, by rw [List.length_cons, show k + (ds.length + 1) = k + 1 + ds.length by omega]; exact h3⟩
    rw [forGo, e1, Option.bind_some, e2]
    exact e3
/-- nothing is kept but the invariant -/
theorem forGo_all {t : Tg} {body : Env → Sto → Option Fl} (I : Env → Sto → Prop) {ds : List D} {env : Env} {S : Sto} (h0 : I env S)
    (st : ∀ d ∈ ds, ∀ env S, I env S → ∃ env1 env2 S2, asgT t d env = some env1 ∧ body env1 S = some (.nx env2 S2) ∧ I env2 S2) : ∃ env' S', forGo t body ds env S = some (.nx env' S') ∧ I env' S' :=
  forGo_inv (fun _ => I) 0 h0 fun i d env S hi hI => st d (List.mem_of_getElem? hi) env S hI
theorem lcGo_pure {t : Tg} {c elt : Env → Sto → Option (Re D)} {env0 : Env} {S : Sto} (p : D → Bool) (g : D → D) : ∀ {ds : List D},
    (∀ d ∈ ds, ∃ env1, asgT t d env0 = some env1 ∧ c env1 S = some (.ok (.bl (p d)) S) ∧ (p d = true → elt env1 S = some (.ok (g d) S))) →
    lcGo t c elt env0 ds S = some ((ds.filter p).map g, S)
  | [], _ => rfl
  | d :: ds, h => by
    obtain ⟨env1, e1, e2, e3⟩ := h d List.mem_cons_self
    have ih := lcGo_pure p g (ds := ds) fun d hd => h d (List.mem_cons_of_mem _ hd)
    rw [lcGo, e1, Option.bind_some, e2]
    cases hp : p d with
    | true =>
      dsimp only
      rw [e3 hp]
      dsimp only
      rw [ih, List.filter_cons, hp]
      rfl
    | false =>
      dsimp only
      rw [ih, List.filter_cons, hp]
      rfl
/-- every one, changing the store -/
theorem lcGo_all {t : Tg} {c elt : Env → Sto → Option (Re D)} {env0 : Env} (I : Sto → Prop) (R : D → Prop) : ∀ {ds : List D} {S : Sto}, I S →
    (∀ d ∈ ds, ∀ S, I S → ∃ env1 r S2, asgT t d env0 = some env1 ∧ c env1 S = some (.ok (.bl true) S) ∧ elt env1 S = some (.ok r S2) ∧ R r ∧ I S2) →
    ∃ rs S', lcGo t c elt env0 ds S = some (rs, S') ∧ rs.length = ds.length ∧ (∀ r ∈ rs, R r) ∧ I S'
  | [], S, h0, _ => ⟨[], S, rfl, rfl, fun r h => (by cases h), h0⟩
  | d :: ds, S, h0, st => by
    obtain ⟨env1, r, S2, e1, e2, e3, hr, h1⟩ := st d List.mem_cons_self S h0
    obtain ⟨rs, S', e4, e5, e6, e7⟩ := lcGo_all I R (ds := ds) h1 fun d hd => st d (List.mem_cons_of_mem _ hd)
    refine ⟨r :: rs, S', ?_, by simp [e5], fun x hx => ?_, e7⟩
    · rw [lcGo, e1, Option.bind_some, e2]
      dsimp only
      rw [e3]
      dsimp only
      rw [e4]; rfl
    · rcases List.mem_cons.mp hx with z | z
      · rw [z]; exact hr
      · exact e6 x z
/-! ### equalities -/
theorem shp_int (i : Int) : shp (.int i) = true := rfl
theorem shp_bl (b : Bool) : shp (.bl b) = true := rfl
theorem shp_non : shp .non = true := rfl
theorem canLay_ints : ∀ xs : List Int, PyData.canLayAll0 (toPys (xs.map .int)) = true
  | [] => by unfold toPys toPy.toPys PyData.canLayAll0; rfl
  | x :: xs => by
    show PyData.canLayAll0 (toPy (.int x) :: toPys (xs.map .int)) = true
    unfold PyData.canLayAll0
    rw [canLay_ints xs]; rfl
theorem depth_ints : ∀ xs : List Int, PyData.depthAll (toPys (xs.map .int)) = 0
  | [] => by unfold toPys toPy.toPys PyData.depthAll; rfl
  | x :: xs => by
    show PyData.depthAll (toPy (.int x) :: toPys (xs.map .int)) = 0
    unfold PyData.depthAll
    rw [depth_ints xs]; rfl
theorem plains_ints : ∀ xs : List Int, plains (xs.map .int) = true
  | [] => rfl
  | x :: xs => by
    show plain.plains (.int x :: xs.map .int) = true
    rw [plain.plains]
    show (true && plains (xs.map .int)) = true
    rw [plains_ints xs]; rfl
theorem shp_tups (xs : List Int) : shp (.tup (xs.map .int)) = true := by
  show (plains (xs.map .int) && (PyData.canLay0 (.tuple (toPys (xs.map .int))) && decide (PyData.depth (.tuple (toPys (xs.map .int))) ≤ 64))) = true
  unfold PyData.canLay0 PyData.depth
  rw [plains_ints, canLay_ints, depth_ints]; rfl
theorem shp_lsts (xs : List Int) : shp (.lst (xs.map .int)) = true := by
  show (plains (xs.map .int) && (PyData.canLay0 (.list (toPys (xs.map .int))) && decide (PyData.depth (.list (toPys (xs.map .int))) ≤ 64))) = true
  unfold PyData.canLay0 PyData.depth
  rw [plains_ints, canLay_ints, depth_ints]; rfl
theorem eqv_ints : ∀ xs ys : List Int, PyData.eqvAll (toPys (xs.map .int)) (toPys (ys.map .int)) = decide (xs = ys)
  | [], [] => by show PyData.eqvAll [] [] = _; unfold PyData.eqvAll; rfl
  | [], y :: ys => by show PyData.eqvAll [] (toPy (.int y) :: toPys (ys.map .int)) = _; unfold PyData.eqvAll; simp
  | x :: xs, [] => by show PyData.eqvAll (toPy (.int x) :: toPys (xs.map .int)) [] = _; unfold PyData.eqvAll; simp
  | x :: xs, y :: ys => by
    show PyData.eqvAll (toPy (.int x) :: toPys (xs.map .int)) (toPy (.int y) :: toPys (ys.map .int)) = _
    unfold PyData.eqvAll
    rw [eqv_ints xs ys]
    show (PyData.eqv (.int x) (.int y) && _) = _
    unfold PyData.eqv
    by_cases h1 : x = y <;> by_cases h2 : xs = ys <;> simp [h1, h2]
@[simp] theorem eq_int (i j : Int) : evCmp .eq (.int i) (.int j) = some (decide (i = j)) := by
  show (if shp (.int i) = true ∧ shp (.int j) = true then some (PyData.eqv (toPy (.int i)) (toPy (.int j))) else none) = _
  rw [if_pos ⟨shp_int i, shp_int j⟩]
  show some (PyData.eqv (.int i) (.int j)) = _
  unfold PyData.eqv
  by_cases h : i = j <;> simp [h]
@[simp] theorem ne_int (i j : Int) : evCmp .ne (.int i) (.int j) = some (!decide (i = j)) := by
  show (if shp (.int i) = true ∧ shp (.int j) = true then some (!PyData.eqv (toPy (.int i)) (toPy (.int j))) else none) = _
  rw [if_pos ⟨shp_int i, shp_int j⟩]
  show some (!PyData.eqv (.int i) (.int j)) = _
  unfold PyData.eqv
  by_cases h : i = j <;> simp [h]
theorem eq_tups (xs ys : List Int) : evCmp .eq (.tup (xs.map .int)) (.tup (ys.map .int)) = some (decide (xs = ys)) := by
  show (if shp (.tup (xs.map .int)) = true ∧ shp (.tup (ys.map .int)) = true then some (PyData.eqv (toPy (.tup (xs.map .int))) (toPy (.tup (ys.map .int)))) else none) = _
  rw [if_pos ⟨shp_tups xs, shp_tups ys⟩]
  show some (PyData.eqv (.tuple (toPys (xs.map .int))) (.tuple (toPys (ys.map .int)))) = _
  unfold PyData.eqv
  rw [eqv_ints]
theorem ne_tups (xs ys : List Int) : evCmp .ne (.tup (xs.map .int)) (.tup (ys.map .int)) = some (!decide (xs = ys)) := by
  show (if shp (.tup (xs.map .int)) = true ∧ shp (.tup (ys.map .int)) = true then some (!PyData.eqv (toPy (.tup (xs.map .int))) (toPy (.tup (ys.map .int)))) else none) = _
  rw [if_pos ⟨shp_tups xs, shp_tups ys⟩]
  show some (!PyData.eqv (.tuple (toPys (xs.map .int))) (.tuple (toPys (ys.map .int)))) = _
  unfold PyData.eqv
  rw [eqv_ints]
theorem toInts_ints (xs : List Int) : toInts (xs.map .int) = some xs := toInts_map xs
theorem flats_is (xs : List Int) : flats (xs.map .int) = some (xs.map V.int) := flats_ints xs
theorem inV_ints (x : Int) : ∀ xs : List Int, inV (V.int x) (xs.map V.int) = decide (x ∈ xs)
  | [] => by simp [inV]
  | y :: ys => by
    have ih := inV_ints x ys
    unfold inV at ih ⊢
    rw [List.map_cons, List.any_cons, ih]
    by_cases h : y = x
    · subst h; simp [eqV]
    · simp [eqV, h, Ne.symm h]
theorem isIn_ints (x : Int) (xs : List Int) : isInD (.int x) (xs.map .int) = some (decide (x ∈ xs)) := by
  unfold isInD
  show (flats (xs.map .int)).map _ = _
  rw [flats_is]
  show some (inV (V.int x) (xs.map V.int)) = _
  rw [inV_ints]
@[simp] theorem in_tups (x : Int) (xs : List Int) : evCmp .isin (.int x) (.tup (xs.map .int)) = some (decide (x ∈ xs)) := by unfold evCmp; exact isIn_ints x xs
@[simp] theorem in_lsts (x : Int) (xs : List Int) : evCmp .isin (.int x) (.lst (xs.map .int)) = some (decide (x ∈ xs)) := by unfold evCmp; exact isIn_ints x xs
@[simp] theorem nin_tups (x : Int) (xs : List Int) : evCmp .notin (.int x) (.tup (xs.map .int)) = some (!decide (x ∈ xs)) := by
  show (isInD _ _).map _ = _
  rw [isIn_ints]; rfl
@[simp] theorem nin_lsts (x : Int) (xs : List Int) : evCmp .notin (.int x) (.lst (xs.map .int)) = some (!decide (x ∈ xs)) := by
  show (isInD _ _).map _ = _
  rw [isIn_ints]; rfl
@[simp] theorem lt_int (i j : Int) : evCmp .lt (.int i) (.int j) = some (decide (i < j)) := id rfl
@[simp] theorem le_int (i j : Int) : evCmp .le (.int i) (.int j) = some (decide (i ≤ j)) := id rfl
@[simp] theorem gt_int (i j : Int) : evCmp .gt (.int i) (.int j) = some (decide (j < i)) := id rfl
@[simp] theorem ge_int (i j : Int) : evCmp .ge (.int i) (.int j) = some (decide (j ≤ i)) := id rfl
@[simp] theorem add_int (i j : Int) : evOp .add (.int i) (.int j) = some (.int (i + j)) := id rfl
@[simp] theorem sub_int (i j : Int) : evOp .sub (.int i) (.int j) = some (.int (i - j)) := id rfl
@[simp] theorem xor_int (i j : Int) : evOp .xor (.int i) (.int j) = some (.int (Builtin.bitXor i j)) := id rfl
theorem mul_int {i j : Int} (h : small i = true ∨ small j = true) : evOp .mul (.int i) (.int j) = some (.int (i * j)) := if_pos h
theorem fdiv_int {i j : Int} (h : 0 < j ∧ j < 1073741824) : evOp .fdiv (.int i) (.int j) = some (.int (i / j)) := if_pos h
theorem mod_int {i j : Int} (h : 0 < j) : evOp .mod (.int i) (.int j) = some (.int (i % j)) := if_pos h
theorem pow_int {i j : Int} (h : 0 ≤ j ∧ j ≤ 1000000 ∧ i.natAbs < 2 ^ 64) : evOp .pow (.int i) (.int j) = some (.int (i ^ j.toNat)) := if_pos h
@[simp] theorem len_tup (ds : List D) : evBi .len [.tup ds] = some (.int ds.length) := id rfl
@[simp] theorem len_lst (ds : List D) : evBi .len [.lst ds] = some (.int ds.length) := id rfl
@[simp] theorem len_scr (ns : List Int) : evBi .len [.scr ns] = some (.int ns.length) := id rfl
@[simp] theorem tuple_lst (ds : List D) : evBi .tuple [.lst ds] = some (.tup ds) := id rfl
@[simp] theorem tuple_tup (ds : List D) : evBi .tuple [.tup ds] = some (.tup ds) := id rfl
@[simp] theorem list_tup (ds : List D) : evBi .list [.tup ds] = some (.lst ds) := id rfl
@[simp] theorem int_int (i : Int) : evBi .int [.int i] = some (.int i) := id rfl
@[simp] theorem int_bl (b : Bool) : evBi .int [.bl b] = some (.int (if b then 1 else 0)) := id rfl
@[simp] theorem min_int (i j : Int) : evBi .min [.int i, .int j] = some (.int (if j < i then j else i)) := id rfl
@[simp] theorem max_int (i j : Int) : evBi .max [.int i, .int j] = some (.int (if j > i then j else i)) := id rfl
theorem all_bls (bs : List Bool) : evBi .all [.lst (bs.map .bl)] = some (.bl (bs.all id)) := by
  show (toBls _).map _ = _
  rw [toBls_map]; rfl
theorem sorted_ints {xs : List Int} (h : xs.length < 64) : evBi .sorted [.lst (xs.map .int)] = some (.lst ((sortI xs).map .int)) := by
  show (toInts _).bind _ = _
  rw [toInts_map]
  exact if_pos h
@[simp] theorem count_ints (xs : List Int) (k : Int) : evMt .count (.lst (xs.map .int)) [.int k] = some (.int (xs.count k)) := by
  show (toInts _).map _ = _
  rw [toInts_map]; rfl
theorem add_lsts {xs ys : List D} (h : xs.length + ys.length ≤ LIM) : evOp .add (.lst xs) (.lst ys) = some (.lst (xs ++ ys)) := if_pos h
theorem atI_nat {α : Type} {xs : List α} {k : Nat} {x : α} (h : xs[k]? = some x) : atI xs (k : Int) = some x := by
  have hk := (List.getElem?_eq_some_iff.mp h).1
  have e : ixN xs.length (k : Int) = some k := by
    unfold ixN
    rw [if_pos (Int.natCast_nonneg k), if_pos (by omega)]; rfl
  unfold atI
  rw [e]; exact h
theorem ix_tup {ds : List D} {k : Nat} {x : D} (h : ds[k]? = some x) : evIx (.tup ds) (.int (k : Int)) = some x := atI_nat h
theorem ix_lst {ds : List D} {k : Nat} {x : D} (h : ds[k]? = some x) : evIx (.lst ds) (.int (k : Int)) = some x := atI_nat h
theorem ix_scr {ns : List Int} {k : Nat} {x : Int} (h : ns[k]? = some x) : evIx (.scr ns) (.int (k : Int)) = some (.int x) := by
  show (atI ns _).map _ = _
  rw [atI_nat h]; rfl
@[simp] theorem ix0 (a : D) (r : List D) : evIx (.tup (a :: r)) (.int 0) = some a := ix_tup (k := 0) rfl
@[simp] theorem ix1 (a b : D) (r : List D) : evIx (.tup (a :: b :: r)) (.int 1) = some b := ix_tup (k := 1) rfl
@[simp] theorem ix2 (a b c : D) (r : List D) : evIx (.tup (a :: b :: c :: r)) (.int 2) = some c := ix_tup (k := 2) rfl
@[simp] theorem at0 (a : D) (r : List D) : atD (a :: r) 0 = some a := atI_nat (k := 0) rfl
@[simp] theorem at1 (a b : D) (r : List D) : atD (a :: b :: r) 1 = some b := atI_nat (k := 1) rfl
@[simp] theorem at2 (a b c : D) (r : List D) : atD (a :: b :: c :: r) 2 = some c := atI_nat (k := 2) rfl
@[simp] theorem at3 (a b c d : D) (r : List D) : atD (a :: b :: c :: d :: r) 3 = some d := atI_nat (k := 3) rfl
/-! ### the evaluator's equations, but for comprehensions and loops -/
section
variable {G : Nat → Option D} {Φ : Nat → FnSem} {env : Env} {S : Sto}
@[simp] theorem e_var (i : Nat) : evE G Φ (.var i) env S = (slotAt env i).map fun d => .ok d S := by rw [evE]
@[simp] theorem e_int (i : Int) : evE G Φ (.int i) env S = some (.ok (.int i) S) := by rw [evE]
@[simp] theorem e_bl (b : Bool) : evE G Φ (.bl b) env S = some (.ok (.bl b) S) := by rw [evE]
@[simp] theorem e_non : evE G Φ .non env S = some (.ok .non S) := by rw [evE]
@[simp] theorem e_str (s : Str) : evE G Φ (.str s) env S = some (.ok (.str s) S) := by rw [evE]
@[simp] theorem e_glo (g : Nat) : evE G Φ (.glo g) env S = lift (G g) S := by rw [evE]
@[simp] theorem e_op (o : Bop) (a b : E) : evE G Φ (.op o a b) env S = bnd (evE G Φ a env S) fun x S => bnd (evE G Φ b env S) fun y S => lift (evOp o (vw S x) (vw S y)) S := by rw [evE]
@[simp] theorem e_neg (a : E) : evE G Φ (.neg a) env S = bnd (evE G Φ a env S) fun x S => lift ((intOf x).map fun i => .int (-i)) S := by rw [evE]
@[simp] theorem e_cmp (o : Cop) (a b : E) : evE G Φ (.cmp o a b) env S = bnd (evE G Φ a env S) fun x S => bnd (evE G Φ b env S) fun y S => lift ((evCmp o (vw S x) (vw S y)).map .bl) S := by rw [evE]
@[simp] theorem e_cmp2 (o o' : Cop) (a b c : E) : evE G Φ (.cmp2 o o' a b c) env S = bnd (evE G Φ a env S) fun x S => bnd (evE G Φ b env S) fun y S => match evCmp o (vw S x) (vw S y) with
    | some true => bnd (evE G Φ c env S) fun z S => lift ((evCmp o' (vw S y) (vw S z)).map .bl) S
    | some false => some (.ok (.bl false) S)
    | none => none := by rw [evE] <;> rfl
@[simp] theorem e_isN (neg : Bool) (a : E) : evE G Φ (.isN neg a) env S = bnd (evE G Φ a env S) fun x S => some (.ok (.bl (xor neg (isNonD x))) S) := by rw [evE]
@[simp] theorem e_bop (and : Bool) (es : List E) : evE G Φ (.bop and es) env S = evB G Φ and es env S := by rw [evE]
@[simp] theorem e_not (a : E) : evE G Φ (.not a) env S = bnd (evE G Φ a env S) fun x S => match x with | .bl b => some (.ok (.bl (!b)) S) | _ => none := by rw [evE] <;> rfl
@[simp] theorem e_ife (c a b : E) : evE G Φ (.ife c a b) env S = bnd (evE G Φ c env S) fun x S => match x with
    | .bl true => evE G Φ a env S
    | .bl false => evE G Φ b env S
    | _ => none := by rw [evE] <;> rfl
@[simp] theorem e_tup (es : List E) : evE G Φ (.tup es) env S = bnd (evL G Φ es env S) fun ds S => if ds.length ≤ LIM then some (.ok (.tup ds) S) else none := by rw [evE]
@[simp] theorem e_lst (es : List E) : evE G Φ (.lst es) env S = bnd (evL G Φ es env S) fun ds S => if ds.length ≤ LIM then some (.ok (.lst ds) S) else none := by rw [evE]
@[simp] theorem e_ix (a b : E) : evE G Φ (.ix a b) env S = bnd (evE G Φ a env S) fun x S => bnd (evE G Φ b env S) fun y S => lift (evIx (vw S x) y) S := by rw [evE]
@[simp] theorem e_slc (bl bh : Bool) (a lo hi : E) : evE G Φ (.slc bl bh a lo hi) env S = bnd (evE G Φ a env S) fun x S => bnd (if bl then toI (evE G Φ lo env S) else some (.ok none S)) fun y S => bnd (if bh then toI (evE G Φ hi env S) else some (.ok none S)) fun z S => lift (evSl (vw S x) y z) S := by rw [evE]
@[simp] theorem e_call (f : Nat) (es ks : List E) (fs : List Kf) : evE G Φ (.call f es ks fs) env S = bnd (evL G Φ es env S) fun xs S => bnd (evL G Φ ks env S) fun zs S => (kfs zs fs).bind fun ds => Φ f (xs ++ ds) S := by rw [evE]
@[simp] theorem e_bi (b : Bi) (es : List E) : evE G Φ (.bi b es) env S = bnd (evL G Φ es env S) fun xs S => lift (evBi b (xs.map (vw S))) S := by rw [evE]
@[simp] theorem e_mt (m : Mt) (a : E) (es : List E) : evE G Φ (.mt m a es) env S = bnd (evE G Φ a env S) fun x S => if mtRecv m (vw S x) then bnd (evL G Φ es env S) fun xs S => lift (evMt m (vw S x) (xs.map (vw S))) S else none := by rw [evE]
@[simp] theorem e_isi (ks : List Ki) (one : Bool) (a : E) : evE G Φ (.isi ks one a) env S = bnd (evE G Φ a env S) fun x S => if isRefD (vw S x) then none else some (.ok (.bl (ks.any fun k => isKi k (vw S x))) S) := by rw [evE]
@[simp] theorem e_sx (a b : E) : evE G Φ (.sx a b) env S = bnd (evE G Φ a env S) fun x S => if okSx x = true then bnd (evE G Φ b env S) fun y S => lift (evSx x y) S else none := by rw [evE]
@[simp] theorem e_rng (es : List E) : evE G Φ (.rng es) env S = bnd (evL G Φ es env S) fun xs S => lift ((rngOf xs).map .lst) S := by rw [evE]
@[simp] theorem e_enm (a : E) : evE G Φ (.enm a) env S = bnd (evE G Φ a env S) fun x S => lift ((enmOf x).map .lst) S := by rw [evE]
@[simp] theorem e_seq (a : E) : evE G Φ (.seq a) env S = bnd (evE G Φ a env S) fun x S => lift ((seqOf x).map .lst) S := by rw [evE]
@[simp] theorem e_new (a : E) : evE G Φ (.new a) env S = bnd (evE G Φ a env S) fun x S => newD x S := by rw [evE]
@[simp] theorem e_dsp (t : Bool) (ks vs : List E) : evE G Φ (.dsp t ks vs) env S = bnd (evL G Φ ks env S) fun xs S => bnd (evL G Φ vs env S) fun ys S => lift ((dspD t xs ys ([], [])).map fun p => .dct t p.1 p.2) S := by rw [evE]
@[simp] theorem e_sdf (a b : E) : evE G Φ (.sdf a b) env S = bnd (evE G Φ a env S) fun x S => if isDctF (vw S x) then bnd (evE G Φ b env S) fun y S => sdfD x y S else none := by rw [evE]
@[simp] theorem e_popL (a : E) : evE G Φ (.popL a) env S = bnd (evE G Φ a env S) fun x S => popD x S := by rw [evE]
@[simp] theorem e_trg (l : Bool) (a : E) : evE G Φ (.trg l a) env S = bnd (evE G Φ a env S) fun x S => lift (rgD l (.int 0) x) S := by rw [evE]
@[simp] theorem e_trg2 (l : Bool) (a b : E) : evE G Φ (.trg2 l a b) env S = bnd (evE G Φ a env S) fun x S => bnd (evE G Φ b env S) fun y S => lift (rgD l x y) S := by rw [evE]
@[simp] theorem e_ds1 (a b : E) : evE G Φ (.ds1 a b) env S = bnd (evE G Φ a env S) fun x S => bnd (evE G Φ b env S) fun y S => (toKeyF x).bind fun k => newD (.dct false [k] [y]) S := by rw [evE]
@[simp] theorem b_one (and : Bool) (e : E) : evB G Φ and [e] env S = evE G Φ e env S := by rw [evB]
@[simp] theorem b_two (and : Bool) (e e' : E) (es : List E) : evB G Φ and (e :: e' :: es) env S = bnd (evE G Φ e env S) fun x S => match x with
    | .bl b => if b = and then evB G Φ and (e' :: es) env S else some (.ok (.bl b) S)
    | _ => none := by rw [evB] <;> rfl
@[simp] theorem l_nil : evL G Φ [] env S = some (.ok [] S) := by rw [evL]
@[simp] theorem l_cons (e : E) (es : List E) : evL G Φ (e :: es) env S = bnd (evE G Φ e env S) fun x S => bnd (evL G Φ es env S) fun xs S => some (.ok (x :: xs) S) := by rw [evL]
@[simp] theorem x_ok {α β : Type} {a : α} {g : α → Sto → Option (Re β)} : bnd (some (.ok a S)) g = g a S := id rfl
@[simp] theorem x_ex {α β : Type} {x : Ex} {g : α → Sto → Option (Re β)} : bnd (some (.ex x S) : Option (Re α)) g = some (.ex x S) := id rfl
@[simp] theorem y_ok {α : Type} {a : α} {g : α → Sto → Option Fl} : bndS (some (.ok a S)) env g = g a S := id rfl
@[simp] theorem y_ex {α : Type} {x : Ex} {g : α → Sto → Option Fl} : bndS (some (.ex x S) : Option (Re α)) env g = some (.ex x env S) := id rfl
@[simp] theorem lift_ok {α : Type} {a : α} : lift (some a) S = some (.ok a S) := id rfl
@[simp] theorem toI_ok {i : Int} : toI (some (.ok (.int i) S)) = some (.ok (some i) S) := id rfl
@[simp] theorem vw_int (i : Int) : vw S (.int i) = .int i := id rfl
@[simp] theorem vw_bl (i : Bool) : vw S (.bl i) = .bl i := id rfl
@[simp] theorem vw_str (i : Str) : vw S (.str i) = .str i := id rfl
@[simp] theorem vw_non : vw S .non = .non := id rfl
@[simp] theorem vw_tup (ds : List D) : vw S (.tup ds) = .tup ds := id rfl
@[simp] theorem vw_lsts (ds : List D) : vw S (.lst ds) = .lst ds := id rfl
@[simp] theorem vw_scr (ns : List Int) : vw S (.scr ns) = .scr ns := id rfl
@[simp] theorem vw_dct (t : Bool) (ks : List NestedKey) (ds : List D) : vw S (.dct t ks ds) = .dct t ks ds := id rfl
theorem vw_ref_lst {n : Nat} {ds : List D} (h : S[n]? = some (.lst ds)) : vw S (.ref n) = .lst ds := by unfold vw; dsimp only; rw [h]
theorem vw_ref_dct {n : Nat} {t : Bool} {ks : List NestedKey} {ds : List D} (h : S[n]? = some (.dct t ks ds)) : vw S (.ref n) = .dct t ks ds := by unfold vw; dsimp only; rw [h]
@[simp] theorem isr_int (i : Int) : isRefD (.int i) = false := id rfl
@[simp] theorem isr_bl (i : Bool) : isRefD (.bl i) = false := id rfl
@[simp] theorem isr_str (i : Str) : isRefD (.str i) = false := id rfl
@[simp] theorem isr_non : isRefD .non = false := id rfl
@[simp] theorem isr_tup (ds : List D) : isRefD (.tup ds) = false := id rfl
@[simp] theorem isr_lst (ds : List D) : isRefD (.lst ds) = false := id rfl
@[simp] theorem isr_scr (ds : List Int) : isRefD (.scr ds) = false := id rfl
@[simp] theorem seqOf_lst (ds : List D) : seqOf (.lst ds) = some ds := id rfl
@[simp] theorem seqOf_tup (ds : List D) : seqOf (.tup ds) = some ds := id rfl
@[simp] theorem seqOf_scr (ns : List Int) : seqOf (.scr ns) = some (ns.map .int) := id rfl
@[simp] theorem enmOf_lst (ds : List D) : enmOf (.lst ds) = some (enmD 0 ds) := id rfl
@[simp] theorem enmOf_tup (ds : List D) : enmOf (.tup ds) = some (enmD 0 ds) := id rfl
@[simp] theorem enmOf_str (s : Str) : enmOf (.str s) = some (enmD 0 (sgn s)) := id rfl
theorem rngOf_1 {n : Int} (h : inR n = true) : rngOf [.int n] = some (rngD 0 n.toNat) := if_pos h
theorem rngOf_2 {a b : Int} (h : inR a = true) (h2 : inR b = true) : rngOf [.int a, .int b] = some (rngD a (b - a).toNat) := if_pos (by rw [h, h2]; rfl)
theorem inR_nat {n : Nat} (h : n ≤ 1000000) : inR (n : Int) = true := decide_eq_true (by omega)
theorem inR_int {n : Int} (h : -1000000 ≤ n ∧ n ≤ 1000000) : inR n = true := decide_eq_true (by omega)
@[simp] theorem newD_lst (ds : List D) : newD (.lst ds) S = some (.ok (.ref S.length) (S ++ [.lst ds])) := id rfl
@[simp] theorem newD_dct (t : Bool) (ks : List NestedKey) (ds : List D) : newD (.dct t ks ds) S = some (.ok (.ref S.length) (S ++ [.dct t ks ds])) := id rfl
@[simp] theorem slotAt_eq (i : Nat) : slotAt env i = env.getD i none := id rfl
@[simp] theorem setV_eq (i : Nat) (d : D) : setV env i d = if i < env.length then some (env.set i (some d)) else none := id rfl
@[simp] theorem setVs_nil : setVs [] [] env = some env := id rfl
@[simp] theorem setVs_cons (i : Nat) (is : List Nat) (d : D) (ds : List D) : setVs (i :: is) (d :: ds) env = (setV env i d).bind fun env' => setVs is ds env' := id rfl
@[simp] theorem asgT_nm (i : Nat) (d : D) : asgT (.nm i) d env = setV env i d := by rw [asgT]
@[simp] theorem asgT_tup (ts : List Tg) (ds : List D) : asgT (.tup ts) (.tup ds) env = asgTs ts ds env := by rw [asgT]
@[simp] theorem asgTs_nil : asgTs [] [] env = some env := by rw [asgTs]
@[simp] theorem asgTs_cons (t : Tg) (ts : List Tg) (d : D) (ds : List D) : asgTs (t :: ts) (d :: ds) env = (asgT t d env).bind fun env' => asgTs ts ds env' := by rw [asgTs]
@[simp] theorem kfs_nil (zs : List D) : kfs zs [] = some [] := id rfl
@[simp] theorem kfs_cons (zs : List D) (x : Kf) (r : List Kf) : kfs zs (x :: r) = (kfD zs x).bind fun d => (kfs zs r).map (d :: ·) := id rfl
@[simp] theorem kfD_g (zs : List D) (j : Nat) : kfD zs (.g j) = zs[j]? := id rfl
@[simp] theorem kfD_int (zs : List D) (i : Int) : kfD zs (.int i) = some (.int i) := id rfl
@[simp] theorem kfD_non (zs : List D) : kfD zs .non = some .non := id rfl
@[simp] theorem wipeE_nil : wipeE env [] = env := id rfl
@[simp] theorem wipeE_cons (v : Nat) (vs : List Nat) : wipeE env (v :: vs) = (wipeE env vs).set v none := id rfl
@[simp] theorem startE_eq (as : List D) (n : Nat) : startE as n = as.map some ++ List.replicate (n - as.length) none := id rfl
/-- a comprehension's value -/
theorem ev_lc {vs : List Nat} {t : Tg} {src c elt : E} {ds rs : List D} {S1 S2 : Sto} (h1 : evE G Φ src env S = some (.ok (.lst ds) S1))
    (h3 : lcGo t (fun e s => evE G Φ c e s) (fun e s => evE G Φ elt e s) (wipeE env vs) ds S1 = some (rs, S2)) (h4 : rs.length ≤ LIM) : evE G Φ (.lc vs t src c elt) env S = some (.ok (.lst rs) S2) := by
  rw [evE, h1]
  show (lcGo t (fun e s => evE G Φ c e s) (fun e s => evE G Φ elt e s) (wipeE env vs) ds S1).bind _ = _
  rw [h3]
  exact if_pos h4
/-- a loop's -/
theorem ev_for {t : Tg} {src : E} {body : List Sf.S} {ds : List D} {S1 : Sto} {f : Fl} (h1 : evE G Φ src env S = some (.ok (.lst ds) S1)) (h2 : forGo t (fun e s => evSs G Φ body e s) ds env S1 = some f) : evS G Φ (.for_ t src body) env S = some f := by
  rw [evS, h1]
  exact h2
theorem s_forE (t : Tg) (src : E) (body : List Sf.S) : evS G Φ (.for_ t src body) env S = bndS (evE G Φ src env S) env fun x S => match x with
    | .lst ds => forGo t (fun e s => evSs G Φ body e s) ds env S
    | _ => none := by rw [evS] <;> rfl
theorem s_whlE (n : Nat) (c : E) (body : List Sf.S) : evS G Φ (.whl n c body) env S = whGo (fun e s => evE G Φ c e s) (fun e s => evSs G Φ body e s) n env S := by rw [evS]
@[simp] theorem s_asg (t : Tg) (e : E) : evS G Φ (.asg t e) env S = bndS (evE G Φ e env S) env fun x S => (asgT t x env).map fun env => .nx env S := by rw [evS]
@[simp] theorem s_asg1 (i : Nat) (e : E) : evS G Φ (.asg1 i e) env S = bndS (evE G Φ e env S) env fun x S => (setV env i x).map fun env => .nx env S := by rw [evS]
@[simp] theorem s_par (is : List Nat) (es : List E) : evS G Φ (.par is es) env S = bndS (evL G Φ es env S) env fun xs S => if is.Nodup then (setVs is xs env).map fun env => .nx env S else none := by rw [evS]
@[simp] theorem s_ex (e : E) : evS G Φ (.ex e) env S = bndS (evE G Φ e env S) env fun _ S => some (.nx env S) := by rw [evS]
@[simp] theorem s_ifeS (c : E) (a b : List Sf.S) : evS G Φ (.ife c a b) env S = bndS (evE G Φ c env S) env fun x S => match x with
    | .bl true => evSs G Φ a env S
    | .bl false => evSs G Φ b env S
    | _ => none := by rw [evS] <;> rfl
@[simp] theorem s_ret (e : E) : evS G Φ (.ret e) env S = bndS (evE G Φ e env S) env fun x S => some (.rt x S) := by rw [evS]
@[simp] theorem s_retN : evS G Φ .retN env S = some (.rt .non S) := by rw [evS]
@[simp] theorem s_never : evS G Φ .never env S = none := by rw [evS]
@[simp] theorem s_oset (a ix e : E) : evS G Φ (.oset a ix e) env S = bndS (evE G Φ e env S) env fun v S => bndS (evE G Φ a env S) env fun x S => bndS (evE G Φ ix env S) env fun i S => osetD x i v env S := by rw [evS]
@[simp] theorem s_app (a e : E) : evS G Φ (.app a e) env S = bndS (evE G Φ a env S) env fun x S => match vw S x with
    | .lst _ => bndS (evE G Φ e env S) env fun v S => appD x v env S
    | _ => none := by rw [evS] <;> rfl
@[simp] theorem s_ext (a e : E) : evS G Φ (.ext a e) env S = bndS (evE G Φ a env S) env fun x S => match vw S x with
    | .lst _ => bndS (evE G Φ e env S) env fun v S => extD x v env S
    | _ => none := by rw [evS] <;> rfl
@[simp] theorem s_frz (i : Nat) : evS G Φ (.frz i) env S = (slotAt env i).bind fun d => (frzD 5 d S).bind fun p => (setV env i p.1).map fun env => .nx env p.2 := by rw [evS]
@[simp] theorem ss_nilE : evSs G Φ [] env S = some (.nx env S) := by rw [evSs]
@[simp] theorem ss_consE (s : Sf.S) (ss : List Sf.S) : evSs G Φ (s :: ss) env S = match evS G Φ s env S with
    | some (.nx env' S') => evSs G Φ ss env' S'
    | r => r := by rw [evSs] <;> rfl
theorem oset_lst {n : Nat} {ds : List D} {k : Int} {j : Nat} {v : D} (h : S[n]? = some (.lst ds)) (hj : ixN ds.length k = some j) : osetD (.ref n) (.int k) v env S = some (.nx env (S.set n (.lst (ds.set j v)))) := by
  unfold osetD; dsimp only; rw [h]; dsimp only; rw [hj]; rfl
theorem app_lst {n : Nat} {ds : List D} {v : D} (h : S[n]? = some (.lst ds)) (hl : ds.length < LIM) : appD (.ref n) v env S = some (.nx env (S.set n (.lst (ds ++ [v])))) := by
  unfold appD; dsimp only; rw [h]; dsimp only; rw [if_pos hl]
end
end Sf

/-! Sf.Set: rising lists of ints as sets; parities. -/
namespace Sf
open PySem L2

def Can (xs : List Int) : Prop := xs.Pairwise (· < ·)
theorem Can.nd {xs : List Int} (h : Can xs) : xs.Nodup := List.Pairwise.imp Int.ne_of_lt h
theorem Can.le {xs : List Int} (h : Can xs) : xs.Pairwise (· ≤ ·) := List.Pairwise.imp Int.le_of_lt h
theorem Can.nil : Can [] := List.Pairwise.nil
theorem Can.one (x : Int) : Can [x] := List.pairwise_singleton _ _
theorem Can.ext {xs ys : List Int} (h1 : Can xs) (h2 : Can ys) (h : ∀ k, k ∈ xs ↔ k ∈ ys) : xs = ys := sorted_one ((List.perm_ext_iff_of_nodup h1.nd h2.nd).mpr h) h1.le h2.le
theorem can_of {xs : List Int} (h : xs.Pairwise (· ≤ ·)) (n : xs.Nodup) : Can xs := lt_of_le_nodup xs h n
theorem can_sort {xs : List Int} (n : xs.Nodup) : Can (sortI xs) := can_of (sortI_sorted _) ((sortI_perm _).nodup_iff.mpr n)
theorem mem_sort {xs : List Int} {k : Int} : k ∈ sortI xs ↔ k ∈ xs := (sortI_perm _).mem_iff
theorem can_sym {xs ys : List Int} (h1 : Can xs) (h2 : Can ys) : Can (symI xs ys) := can_of (symI_sorted _ _) (symI_nodup h1.nd h2.nd)
theorem mem_sym {xs ys : List Int} {k : Int} : k ∈ symI xs ys ↔ xor (decide (k ∈ xs)) (decide (k ∈ ys)) = true := by
  rw [symI_mem]
  by_cases h1 : k ∈ xs <;> by_cases h2 : k ∈ ys <;> simp [h1, h2]
theorem dec_sym {xs ys : List Int} {k : Int} : decide (k ∈ symI xs ys) = xor (decide (k ∈ xs)) (decide (k ∈ ys)) := by
  rw [Bool.eq_iff_iff, decide_eq_true_eq]
  exact mem_sym
theorem dec_ext {xs ys : List Int} (h1 : Can xs) (h2 : Can ys) (h : ∀ k, decide (k ∈ xs) = decide (k ∈ ys)) : xs = ys := h1.ext h2 fun k => by
  have := h k
  rw [Bool.eq_iff_iff, decide_eq_true_eq, decide_eq_true_eq] at this
  exact this
theorem sym_comm {xs ys : List Int} (h1 : Can xs) (h2 : Can ys) : symI xs ys = symI ys xs := dec_ext (can_sym h1 h2) (can_sym h2 h1) fun k => by
  rw [dec_sym, dec_sym]; exact Bool.xor_comm _ _
theorem sym_assoc {xs ys zs : List Int} (h1 : Can xs) (h2 : Can ys) (h3 : Can zs) : symI (symI xs ys) zs = symI xs (symI ys zs) := dec_ext (can_sym (can_sym h1 h2) h3) (can_sym h1 (can_sym h2 h3)) fun k => by
  simp only [dec_sym]; exact Bool.xor_assoc _ _ _
theorem sym_self {xs : List Int} (h : Can xs) : symI xs xs = [] := dec_ext (can_sym h h) Can.nil fun k => by
  rw [dec_sym]; simp
theorem sym_nil {xs : List Int} (h : Can xs) : symI xs [] = xs := dec_ext (can_sym h Can.nil) h fun k => by
  rw [dec_sym]; simp
theorem nil_sym {xs : List Int} (h : Can xs) : symI [] xs = xs := dec_ext (can_sym Can.nil h) h fun k => by
  rw [dec_sym]; simp
/-- all below n -/
def Bel (n : Int) (xs : List Int) : Prop := ∀ x ∈ xs, 0 ≤ x ∧ x < n
theorem Bel.sym {n : Int} {xs ys : List Int} (h1 : Bel n xs) (h2 : Bel n ys) : Bel n (symI xs ys) := fun k hk => by
  have := mem_sym.mp hk
  by_cases q : k ∈ xs
  · exact h1 k q
  · rw [decide_eq_false q] at this
    exact h2 k (by simpa using this)
theorem Can.len {n : Nat} {xs : List Int} (h : Can xs) (b : Bel n xs) : xs.length ≤ n := by
  have : (xs.map Int.toNat).Nodup := nodup_on (fun x hx y hy e => by have := b x hx; have := b y hy; omega) h.nd
  have := nat_nodup_len _ (List.range n) this fun k hk => by
    obtain ⟨x, hx, rfl⟩ := List.mem_map.mp hk
    have := b x hx
    exact List.mem_range.mpr (by omega)
  rwa [List.length_map, List.length_range] at this
/-- how often f, as a parity -/
def par (f : Int → Bool) : List Int → Bool
  | [] => false
  | e :: r => xor (f e) (par f r)
theorem par_perm {f : Int → Bool} {xs ys : List Int} (h : xs.Perm ys) : par f xs = par f ys := by
  induction h with
  | nil => rfl
  | cons x _ ih => rw [par, par, ih]
  | swap x y l => rw [par, par, par, par, ← Bool.xor_assoc, ← Bool.xor_assoc, Bool.xor_comm (f y)]
  | trans _ _ a b => exact a.trans b
theorem par_append {f : Int → Bool} : ∀ {xs ys : List Int}, par f (xs ++ ys) = xor (par f xs) (par f ys)
  | [], ys => by simp [par]
  | x :: xs, ys => by rw [List.cons_append, par, par, par_append, Bool.xor_assoc]
theorem par_split {f : Int → Bool} (p : Int → Bool) (xs : List Int) : par f xs = xor (par f (xs.filter p)) (par f (xs.filter fun x => !p x)) := by
  rw [← par_append]
  exact par_perm (List.filter_append_perm p xs).symm
theorem par_sym {f : Int → Bool} {xs ys : List Int} (h1 : xs.Nodup) (h2 : ys.Nodup) : par f (symI xs ys) = xor (par f xs) (par f ys) := by
  unfold symI
  rw [par_perm (sortI_perm _), par_append, par_split (fun x => ys.contains x) xs, par_split (fun x => xs.contains x) ys]
  have : (xs.filter fun x => ys.contains x).Perm (ys.filter fun x => xs.contains x) := (List.perm_ext_iff_of_nodup (h1.sublist List.filter_sublist) (h2.sublist List.filter_sublist)).mpr fun k => by
    simp only [List.mem_filter, List.contains_iff_mem]
    exact And.comm
  rw [par_perm this]
  generalize par f (ys.filter fun x => xs.contains x) = a
  generalize par f (xs.filter fun x => !ys.contains x) = b
  generalize par f (ys.filter fun x => !xs.contains x) = c
  cases a <;> cases b <;> cases c <;> rfl
end Sf

/-! Sf.Base: the boards' defs and what they are worth. -/
namespace Sf
open PySem L2
@[simp] theorem vw_ref {S : Sto} (n : Nat) : vw S (.ref n) = match S[n]? with
  | some (.lst ds) => .lst ds
  | some (.dct t ks ds) => .dct t ks ds
  | _ => .ref n := id rfl
@[simp] theorem osetD_ref {S : Sto} {env : Env} (n : Nat) (i v : D) : osetD (.ref n) i v env S = match S[n]? with
    | some (.lst ds) => (match i with
      | .int k => (ixN ds.length k).map fun j => .nx env (S.set n (.lst (ds.set j v)))
      | _ => none)
    | some (.dct t ks ds) => (toKey t i).bind fun k => if ks.length < LIM then some (.nx env (S.set n (.dct t (storeD ks ds k v).1 (storeD ks ds k v).2))) else none
    | _ => none := id rfl
@[simp] theorem appD_ref {S : Sto} {env : Env} (n : Nat) (v : D) : appD (.ref n) v env S = match S[n]? with
    | some (.lst ds) => if ds.length < LIM then some (.nx env (S.set n (.lst (ds ++ [v])))) else none
    | _ => none := id rfl
/-- what a def's body comes to -/
@[simp] theorem runF_eq (G : Nat → Option D) (Φ : Nat → FnSem) (n : Nat) (body : List Sf.S) (as : List D) (S : Sto) : runF G Φ n body as S = match evSs G Φ body (startE as n) S with
  | some (.nx _ S') => some (.ok .non S')
  | some (.rt d S') => some (.ok d S')
  | some (.ex x _ S') => some (.ex x S')
  | none => none := id rfl
@[simp] theorem ki_int (i : Int) : isKi .int (.int i) = true := id rfl
@[simp] theorem ki_int2 (i : Int) : isKi .bool (.int i) = false := id rfl
@[simp] theorem ki_int3 (i : Int) : isKi .tuple (.int i) = false := id rfl
@[simp] theorem ki_int4 (i : Int) : isKi .list (.int i) = false := id rfl
@[simp] theorem ki_int5 (i : Int) : isKi .str (.int i) = false := id rfl
@[simp] theorem ki_tup (ds : List D) : isKi .tuple (.tup ds) = true := id rfl
@[simp] theorem ki_tup2 (ds : List D) : isKi .list (.tup ds) = false := id rfl
@[simp] theorem ki_tup3 (ds : List D) : isKi .str (.tup ds) = false := id rfl
@[simp] theorem ki_tup4 (ds : List D) : isKi .int (.tup ds) = false := id rfl
@[simp] theorem ki_tup5 (ds : List D) : isKi .bool (.tup ds) = false := id rfl
@[simp] theorem ki_lst (ds : List D) : isKi .list (.lst ds) = true := id rfl
@[simp] theorem ki_lst2 (ds : List D) : isKi .tuple (.lst ds) = false := id rfl
@[simp] theorem ki_lst3 (ds : List D) : isKi .bool (.lst ds) = false := id rfl
@[simp] theorem ki_bl (b : Bool) : isKi .bool (.bl b) = true := id rfl
@[simp] theorem ki_bl2 (b : Bool) : isKi .tuple (.bl b) = false := id rfl
@[simp] theorem ki_bl3 (b : Bool) : isKi .list (.bl b) = false := id rfl
@[simp] theorem ki_str (b : Str) : isKi .str (.str b) = true := id rfl
@[simp] theorem ki_str2 (b : Str) : isKi .tuple (.str b) = false := id rfl
@[simp] theorem ki_str3 (b : Str) : isKi .list (.str b) = false := id rfl
@[simp] theorem ki_str4 (b : Str) : isKi .bool (.str b) = false := id rfl
@[simp] theorem ki_non2 : isKi .tuple .non = false := id rfl
@[simp] theorem ki_non3 : isKi .list .non = false := id rfl
@[simp] theorem ki_non4 : isKi .bool .non = false := id rfl
@[simp] theorem nonD_int (i : Int) : isNonD (.int i) = false := id rfl
@[simp] theorem nonD_tup (i : List D) : isNonD (.tup i) = false := id rfl
@[simp] theorem nonD_lst (i : List D) : isNonD (.lst i) = false := id rfl
@[simp] theorem nonD_str (i : Str) : isNonD (.str i) = false := id rfl
@[simp] theorem nonD_ref (i : Nat) : isNonD (.ref i) = false := id rfl
@[simp] theorem nonD_non : isNonD .non = true := id rfl
@[simp] theorem mtr_count (ds : List D) : mtRecv .count (.lst ds) = true := id rfl
section
variable {G : Nat → Option D} {Φ : Nat → FnSem} {env : Env} {S : Sto}
/-- a loop by an invariant -/
theorem for_inv {t : Tg} {src : E} {body : List Sf.S} {ds : List D} {S0 : Sto} (I : Nat → Env → Sto → Prop) (hs : evE G Φ src env S = some (.ok (.lst ds) S0)) (h0 : I 0 env S0)
    (st : ∀ i d env S, ds[i]? = some d → I i env S → ∃ env1 env2 S2, asgT t d env = some env1 ∧ evSs G Φ body env1 S = some (.nx env2 S2) ∧ I (i + 1) env2 S2) :
    ∃ env' S', evS G Φ (.for_ t src body) env S = some (.nx env' S') ∧ I ds.length env' S' := by
  obtain ⟨env', S', e, h⟩ := forGo_inv (t := t) (body := fun e s => evSs G Φ body e s) I 0 h0 fun i d env S hi hI => by
    rw [Nat.zero_add] at hI ⊢
    exact st i d env S hi hI
  rw [Nat.zero_add] at h
  exact ⟨env', S', ev_for hs e, h⟩
/-- a comprehension that leaves the store -/
theorem lc_val {vs : List Nat} {t : Tg} {src c elt : E} {ds : List D} (p : D → Bool) (g : D → D) (rs : List D) (hs : evE G Φ src env S = some (.ok (.lst ds) S))
    (st : ∀ d ∈ ds, ∃ env1, asgT t d (wipeE env vs) = some env1 ∧ evE G Φ c env1 S = some (.ok (.bl (p d)) S) ∧ (p d = true → evE G Φ elt env1 S = some (.ok (g d) S)))
    (hr : (ds.filter p).map g = rs) (hl : rs.length ≤ LIM) : evE G Φ (.lc vs t src c elt) env S = some (.ok (.lst rs) S) :=
  ev_lc hs (by rw [← hr]; exact lcGo_pure (env0 := wipeE env vs) (c := fun e s => evE G Φ c e s) (elt := fun e s => evE G Φ elt e s) p g st) hl
end
/-! is_number: part, low, high -/
def b_is_number : List S :=
  [.ret (.bop true [(.isi [.int] true (.var 0)), (.not (.isi [.bool] true (.var 0))), (.cmp2 .le .le (.var 1) (.var 0) (.var 2))])]
def l_is_number : FnL := []
def g_is_number : GlL := []
def f_is_number : FnSem := runF (gam g_is_number) (phi l_is_number) 3 b_is_number
/-! need_board: board, side -/
def xneed_board_1 : E := (.call 0 [(.var 1), (.glo 0), (.glo 1)] [] [])
def b_need_board : List S :=
  [.ife (.bop false [(.not (.isi [.tuple] true (.var 0))), (.cmp .ne (.bi .len [(.var 0)]) (.int 2))])
   [.never]
   [],
  .ife (.not (.bi .all [(.lc [1] (.nm 1) (.seq (.var 0)) (.bl true) xneed_board_1)]))
   [.never]
   []]
def l_need_board : FnL := [(⟨"is_number", 3, [], []⟩, f_is_number)]
@[simp] theorem ph_need_board_0 : phi l_need_board 0 = f_is_number := id rfl
def g_need_board : GlL := [("LEAST_SIDE", .int 2), ("MOST_SIDE", .int 5)]
@[simp] theorem ga_need_board_0 : gam g_need_board 0 = some (.int 2) := id rfl
@[simp] theorem ga_need_board_1 : gam g_need_board 1 = some (.int 5) := id rfl
def f_need_board : FnSem := runF (gam g_need_board) (phi l_need_board) 2 b_need_board
/-! many_sites: board -/
def b_many_sites : List S :=
  [.ret (.op .mul (.ix (.var 0) (.int 0)) (.ix (.var 0) (.int 1)))]
def l_many_sites : FnL := []
def g_many_sites : GlL := []
def f_many_sites : FnSem := runF (gam g_many_sites) (phi l_many_sites) 1 b_many_sites
/-! bad_place: some, many, place, one -/
def bbad_place_1 : List S := [.ife (.not (.call 0 [(.var 3), (.ife (.cmp .eq (.var 2) (.int 0)) (.int 0) (.op .add (.ix (.var 0) (.op .sub (.var 2) (.int 1))) (.int 1))), (.op .sub (.var 1) (.int 1))] [] []))
   [.ret (.var 2)]
   []]
def b_bad_place : List S :=
  [.ife (.not (.isi [.tuple] true (.var 0)))
   [.ret (.int 0)]
   [],
  .for_ (.tup [(.nm 2), (.nm 3)]) (.enm (.var 0)) bbad_place_1,
  .ret .non]
def l_bad_place : FnL := [(⟨"is_number", 3, [], []⟩, f_is_number)]
@[simp] theorem ph_bad_place_0 : phi l_bad_place 0 = f_is_number := id rfl
def g_bad_place : GlL := []
def f_bad_place : FnSem := runF (gam g_bad_place) (phi l_bad_place) 4 b_bad_place
/-! need_flips: board, flips, place -/
def b_need_flips : List S :=
  [.asg1 2 (.call 0 [(.var 1), (.op .mul (.int 2) (.call 1 [(.var 0)] [] []))] [] []),
  .ife (.isN true (.var 2))
   [.never]
   []]
def l_need_flips : FnL := [(⟨"bad_place", 2, [], []⟩, f_bad_place), (⟨"many_sites", 1, [], []⟩, f_many_sites)]
@[simp] theorem ph_need_flips_0 : phi l_need_flips 0 = f_bad_place := id rfl
@[simp] theorem ph_need_flips_1 : phi l_need_flips 1 = f_many_sites := id rfl
def g_need_flips : GlL := []
def f_need_flips : FnSem := runF (gam g_need_flips) (phi l_need_flips) 3 b_need_flips
/-! need_faces: board, faces, place -/
def b_need_faces : List S :=
  [.asg1 2 (.call 0 [(.var 1), (.call 1 [(.var 0)] [] [])] [] []),
  .ife (.isN true (.var 2))
   [.never]
   []]
def l_need_faces : FnL := [(⟨"bad_place", 2, [], []⟩, f_bad_place), (⟨"many_sites", 1, [], []⟩, f_many_sites)]
@[simp] theorem ph_need_faces_0 : phi l_need_faces 0 = f_bad_place := id rfl
@[simp] theorem ph_need_faces_1 : phi l_need_faces 1 = f_many_sites := id rfl
def g_need_faces : GlL := []
def f_need_faces : FnSem := runF (gam g_need_faces) (phi l_need_faces) 3 b_need_faces
/-! right_of: board, site, row, column -/
def b_right_of : List S :=
  [.par [2, 3] [(.op .fdiv (.var 1) (.ix (.var 0) (.int 1))), (.op .mod (.var 1) (.ix (.var 0) (.int 1)))],
  .ret (.op .add (.op .mul (.var 2) (.ix (.var 0) (.int 1))) (.op .mod (.op .add (.var 3) (.int 1)) (.ix (.var 0) (.int 1))))]
def l_right_of : FnL := []
def g_right_of : GlL := []
def f_right_of : FnSem := runF (gam g_right_of) (phi l_right_of) 4 b_right_of
/-! below: board, site -/
def b_below : List S :=
  [.ret (.op .mod (.op .add (.var 1) (.ix (.var 0) (.int 1))) (.call 0 [(.var 0)] [] []))]
def l_below : FnL := [(⟨"many_sites", 1, [], []⟩, f_many_sites)]
@[simp] theorem ph_below_0 : phi l_below 0 = f_many_sites := id rfl
def g_below : GlL := []
def f_below : FnSem := runF (gam g_below) (phi l_below) 2 b_below
/-! ends_of: board, edge, site -/
def b_ends_of : List S :=
  [.asg1 2 (.op .fdiv (.var 1) (.int 2)),
  .ret (.tup [(.var 2), (.ife (.cmp .eq (.op .mod (.var 1) (.int 2)) (.int 0)) (.call 0 [(.var 0), (.var 2)] [] []) (.call 1 [(.var 0), (.var 2)] [] []))])]
def l_ends_of : FnL := [(⟨"right_of", 2, [], []⟩, f_right_of), (⟨"below", 2, [], []⟩, f_below)]
@[simp] theorem ph_ends_of_0 : phi l_ends_of 0 = f_right_of := id rfl
@[simp] theorem ph_ends_of_1 : phi l_ends_of 1 = f_below := id rfl
def g_ends_of : GlL := []
def f_ends_of : FnSem := runF (gam g_ends_of) (phi l_ends_of) 3 b_ends_of
/-! seam_of: board, edge, site -/
def b_seam_of : List S :=
  [.asg1 2 (.op .fdiv (.var 1) (.int 2)),
  .ife (.cmp .eq (.op .mod (.var 1) (.int 2)) (.int 0))
   [.ret (.tup [(.bi .int [(.cmp .eq (.op .mod (.var 2) (.ix (.var 0) (.int 1))) (.op .sub (.ix (.var 0) (.int 1)) (.int 1)))]), (.int 0)])]
   [],
  .ret (.tup [(.int 0), (.bi .int [(.cmp .eq (.op .fdiv (.var 2) (.ix (.var 0) (.int 1))) (.op .sub (.ix (.var 0) (.int 0)) (.int 1)))])])]
def l_seam_of : FnL := []
def g_seam_of : GlL := []
def f_seam_of : FnSem := runF (gam g_seam_of) (phi l_seam_of) 3 b_seam_of
/-! face_edges: board, face -/
def b_face_edges : List S :=
  [.ret (.tup [(.op .mul (.int 2) (.var 1)), (.op .add (.op .mul (.int 2) (.var 1)) (.int 1)), (.op .mul (.int 2) (.call 0 [(.var 0), (.var 1)] [] [])), (.op .add (.op .mul (.int 2) (.call 1 [(.var 0), (.var 1)] [] [])) (.int 1))])]
def l_face_edges : FnL := [(⟨"below", 2, [], []⟩, f_below), (⟨"right_of", 2, [], []⟩, f_right_of)]
@[simp] theorem ph_face_edges_0 : phi l_face_edges 0 = f_below := id rfl
@[simp] theorem ph_face_edges_1 : phi l_face_edges 1 = f_right_of := id rfl
def g_face_edges : GlL := []
def f_face_edges : FnSem := runF (gam g_face_edges) (phi l_face_edges) 2 b_face_edges
/-! both: one, other -/
def b_both : List S :=
  [.ret (.bi .tuple [(.sx (.var 0) (.var 1))])]
def l_both : FnL := []
def g_both : GlL := []
def f_both : FnSem := runF (gam g_both) (phi l_both) 2 b_both
/-! crossed: one, other -/
def b_crossed : List S :=
  [.ret (.tup [(.op .xor (.ix (.var 0) (.int 0)) (.ix (.var 1) (.int 0))), (.op .xor (.ix (.var 0) (.int 1)) (.ix (.var 1) (.int 1)))])]
def l_crossed : FnL := []
def g_crossed : GlL := []
def f_crossed : FnSem := runF (gam g_crossed) (phi l_crossed) 2 b_crossed
/-! lit_by: board, flips, found, edge -/
def blit_by_1 : List S := [.asg1 2 (.call 0 [(.var 2), (.call 1 [(.var 0), (.var 3)] [] [])] [] [])]
def b_lit_by : List S :=
  [.asg1 2 (.tup []),
  .for_ (.nm 3) (.seq (.var 1)) blit_by_1,
  .ret (.var 2)]
def l_lit_by : FnL := [(⟨"both", 2, [], []⟩, f_both), (⟨"ends_of", 2, [], []⟩, f_ends_of)]
@[simp] theorem ph_lit_by_0 : phi l_lit_by 0 = f_both := id rfl
@[simp] theorem ph_lit_by_1 : phi l_lit_by 1 = f_ends_of := id rfl
def g_lit_by : GlL := []
def f_lit_by : FnSem := runF (gam g_lit_by) (phi l_lit_by) 4 b_lit_by
/-! seams_by: board, flips, found, edge -/
def bseams_by_1 : List S := [.asg1 2 (.call 0 [(.var 2), (.call 1 [(.var 0), (.var 3)] [] [])] [] [])]
def b_seams_by : List S :=
  [.asg1 2 (.tup [(.int 0), (.int 0)]),
  .for_ (.nm 3) (.seq (.var 1)) bseams_by_1,
  .ret (.var 2)]
def l_seams_by : FnL := [(⟨"crossed", 2, [], []⟩, f_crossed), (⟨"seam_of", 2, [], []⟩, f_seam_of)]
@[simp] theorem ph_seams_by_0 : phi l_seams_by 0 = f_crossed := id rfl
@[simp] theorem ph_seams_by_1 : phi l_seams_by 1 = f_seam_of := id rfl
def g_seams_by : GlL := []
def f_seams_by : FnSem := runF (gam g_seams_by) (phi l_seams_by) 4 b_seams_by
/-! checks: board, flips -/
def b_checks : List S :=
  [.ex (.call 0 [(.var 0)] [] []),
  .ex (.call 1 [(.var 0), (.var 1)] [] []),
  .ret (.call 2 [(.var 0), (.var 1)] [] [])]
def l_checks : FnL := [(⟨"need_board", 1, [], []⟩, f_need_board), (⟨"need_flips", 2, [], []⟩, f_need_flips), (⟨"lit_by", 2, [], []⟩, f_lit_by)]
@[simp] theorem ph_checks_0 : phi l_checks 0 = f_need_board := id rfl
@[simp] theorem ph_checks_1 : phi l_checks 1 = f_need_flips := id rfl
@[simp] theorem ph_checks_2 : phi l_checks 2 = f_lit_by := id rfl
def g_checks : GlL := []
def f_checks : FnSem := runF (gam g_checks) (phi l_checks) 2 b_checks
/-! seams: board, flips -/
def b_seams : List S :=
  [.ex (.call 0 [(.var 0)] [] []),
  .ex (.call 1 [(.var 0), (.var 1)] [] []),
  .ret (.call 2 [(.var 0), (.var 1)] [] [])]
def l_seams : FnL := [(⟨"need_board", 1, [], []⟩, f_need_board), (⟨"need_flips", 2, [], []⟩, f_need_flips), (⟨"seams_by", 2, [], []⟩, f_seams_by)]
@[simp] theorem ph_seams_0 : phi l_seams 0 = f_need_board := id rfl
@[simp] theorem ph_seams_1 : phi l_seams 1 = f_need_flips := id rfl
@[simp] theorem ph_seams_2 : phi l_seams 2 = f_seams_by := id rfl
def g_seams : GlL := []
def f_seams : FnSem := runF (gam g_seams) (phi l_seams) 2 b_seams
/-! after: board, one, other -/
def b_after : List S :=
  [.ex (.call 0 [(.var 0)] [] []),
  .ex (.call 1 [(.var 0), (.var 1)] [] []),
  .ex (.call 1 [(.var 0), (.var 2)] [] []),
  .ret (.call 2 [(.var 1), (.var 2)] [] [])]
def l_after : FnL := [(⟨"need_board", 1, [], []⟩, f_need_board), (⟨"need_flips", 2, [], []⟩, f_need_flips), (⟨"both", 2, [], []⟩, f_both)]
@[simp] theorem ph_after_0 : phi l_after 0 = f_need_board := id rfl
@[simp] theorem ph_after_1 : phi l_after 1 = f_need_flips := id rfl
@[simp] theorem ph_after_2 : phi l_after 2 = f_both := id rfl
def g_after : GlL := []
def f_after : FnSem := runF (gam g_after) (phi l_after) 3 b_after
/-! turned: board, flips, faces, face -/
def bturned_1 : List S := [.asg1 1 (.call 3 [(.var 1), (.call 4 [(.var 0), (.var 3)] [] [])] [] [])]
def b_turned : List S :=
  [.ex (.call 0 [(.var 0)] [] []),
  .ex (.call 1 [(.var 0), (.var 1)] [] []),
  .ex (.call 2 [(.var 0), (.var 2)] [] []),
  .for_ (.nm 3) (.seq (.var 2)) bturned_1,
  .ret (.var 1)]
def l_turned : FnL := [(⟨"need_board", 1, [], []⟩, f_need_board), (⟨"need_flips", 2, [], []⟩, f_need_flips), (⟨"need_faces", 2, [], []⟩, f_need_faces), (⟨"both", 2, [], []⟩, f_both), (⟨"face_edges", 2, [], []⟩, f_face_edges)]
@[simp] theorem ph_turned_0 : phi l_turned 0 = f_need_board := id rfl
@[simp] theorem ph_turned_1 : phi l_turned 1 = f_need_flips := id rfl
@[simp] theorem ph_turned_2 : phi l_turned 2 = f_need_faces := id rfl
@[simp] theorem ph_turned_3 : phi l_turned 3 = f_both := id rfl
@[simp] theorem ph_turned_4 : phi l_turned 4 = f_face_edges := id rfl
def g_turned : GlL := []
def f_turned : FnSem := runF (gam g_turned) (phi l_turned) 4 b_turned
abbrev pq (r c : Int) : D := .tup [.int r, .int c]
abbrev fl (xs : List Int) : D := .tup (xs.map .int)
structure Bd (r c : Int) : Prop where
  r2 : 2 ≤ r
  r5 : r ≤ 5
  c2 : 2 ≤ c
  c5 : c ≤ 5
theorem Bd.sm {r c : Int} (h : Bd r c) : small r = true ∧ small c = true ∧ small (r * c) = true := by
  obtain ⟨h1, h2, h3, h4⟩ := h
  have : r * c ≤ 5 * 5 := Int.mul_le_mul h2 h4 (by omega) (by omega)
  have : 0 ≤ r * c := Int.mul_nonneg (by omega) (by omega)
  unfold small
  refine ⟨decide_eq_true ?_, decide_eq_true ?_, decide_eq_true ?_⟩ <;> omega
theorem v_is_number {S : Sto} (i lo hi : Int) : f_is_number [(.int i), (.int lo), (.int hi)] S = some (.ok (.bl (decide (lo ≤ i) && decide (i ≤ hi))) S) := by
  unfold f_is_number b_is_number 
  by_cases h : lo ≤ i <;> simp [h]
theorem v_many_sites {S : Sto} {r c : Int} (h : small r = true) : f_many_sites [(pq r c)] S = some (.ok (.int (r * c)) S) := by
  unfold f_many_sites b_many_sites 
  simp [mul_int (.inl h)]
theorem v_need_board {S : Sto} {r c : Int} (h : Bd r c) : f_need_board [(pq r c)] S = some (.ok (.non) S) := by
  obtain ⟨h1, h2, h3, h4⟩ := h
  have a2 := all_bls [true, true]
  simp at a2
  unfold f_need_board b_need_board 
  simp [evE, lcGo, xneed_board_1, v_is_number, LIM, h1, h2, h3, h4, a2]
theorem enm_get {xs : List Int} : ∀ {i s : Nat} {d : D}, (enmD s (xs.map .int))[i]? = some d → ∃ x, xs[i]? = some x ∧ d = .tup [.int ((s + i : Nat) : Int), .int x] := by
  induction xs with
  | nil => intro i s d h; simp [enmD] at h
  | cons y ys ih =>
    intro i s d h
    cases i with
    | zero => simp [enmD] at h; subst h; exact ⟨y, rfl, rfl⟩
    | succ i =>
      rw [List.map_cons, enmD, List.getElem?_cons_succ] at h
      obtain ⟨x, h1, h2⟩ := ih h
      exact ⟨x, by simpa using h1, by rw [h2, show s + 1 + i = s + (i + 1) by omega]⟩
theorem fl_at {xs : List Int} {k : Nat} {x : Int} (h : xs[k]? = some x) : evIx (fl xs) (.int (k : Int)) = some (.int x) := ix_tup (by rw [List.getElem?_map, h]; rfl)
theorem v_bad_place {S : Sto} {xs : List Int} {m : Int} (hc : Can xs) (hb : Bel m xs) : f_bad_place [(fl xs), (.int m)] S = some (.ok (.non) S) := by
  obtain ⟨env', S', e, ⟨a, b, rfl⟩, rfl⟩ := for_inv (G := gam g_bad_place) (Φ := phi l_bad_place) (t := .tup [.nm 2, .nm 3]) (src := .enm (.var 0)) (body := bbad_place_1) (S := S) (S0 := S)
    (fun _ env S' => (∃ a b, env = [some (fl xs), some (.int m), a, b]) ∧ S' = S) (ds := enmD 0 (xs.map .int)) (env := [some (fl xs), some (.int m), none, none]) (by simp) ⟨⟨_, _, rfl⟩, rfl⟩ fun i d env S' hi ⟨⟨a, b, e⟩, e2⟩ => by
      obtain ⟨x, hx, rfl⟩ := enm_get hi
      subst e; subst e2
      refine ⟨[some (fl xs), some (.int m), some (.int ((0 + i : Nat) : Int)), some (.int x)], [some (fl xs), some (.int m), some (.int ((0 + i : Nat) : Int)), some (.int x)], S', by simp, ?_, ⟨_, _, rfl⟩, rfl⟩
      have hxb := hb x (List.mem_of_getElem? hx)
      have z2 : x ≤ m - 1 := by omega
      simp only [Nat.zero_add]
      cases i with
      | zero => simp [bbad_place_1, v_is_number, hxb, z2]
      | succ i =>
        have hi2 := (List.getElem?_eq_some_iff.mp hx).1
        have hy : xs[i]? = some xs[i] := List.getElem?_eq_getElem (by omega)
        have hlt : xs[i] < x := by
          have := List.pairwise_iff_getElem.mp hc i (i + 1) (by omega) hi2 (by omega)
          rw [List.getElem?_eq_getElem hi2] at hx
          cases hx; exact this
        have z1 : xs[i] + 1 ≤ x := by omega
        have z3 : ¬ ((i : Int) + 1 = 0) := by omega
        have fa := fl_at hy
        have e1 : (((i : Nat) : Int) + 1 - 1) = (i : Int) := by omega
        simp [bbad_place_1, v_is_number, z2, z3, fa, z1, e1]
  unfold f_bad_place b_bad_place
  simp [e]
theorem Bd.m {r c : Int} (h : Bd r c) : 4 ≤ r * c ∧ r * c ≤ 25 := by
  obtain ⟨h1, h2, h3, h4⟩ := h
  have a : r * c ≤ 5 * 5 := Int.mul_le_mul h2 h4 (by omega) (by omega)
  have b : 2 * 2 ≤ r * c := Int.mul_le_mul h1 h3 (by omega) (by omega)
  omega
/-- flips of a board -/
structure Fls (r c : Int) (xs : List Int) : Prop where
  can : Can xs
  bel : Bel (2 * (r * c)) xs
theorem v_need_flips {S : Sto} {r c : Int} {xs : List Int} (h : Bd r c) (f : Fls r c xs) : f_need_flips [(pq r c), (fl xs)] S = some (.ok (.non) S) := by
  have hs := h.sm
  have h2 : small 2 = true := by decide
  have hb := fun S => v_bad_place (S := S) f.can f.bel
  unfold f_need_flips b_need_flips 
  simp [v_many_sites hs.1, mul_int (.inl h2), hb, isNonD]
def rightI (c s : Int) : Int := s / c * c + (s % c + 1) % c
def belowI (r c s : Int) : Int := (s + c) % (r * c)
theorem v_right_of {S : Sto} {r c s : Int} (h : Bd r c) : f_right_of [(pq r c), (.int s)] S = some (.ok (.int (rightI c s)) S) := by
  have hs := h.sm
  have h0 : 0 < c := by have := h.c2; omega
  have h1 : c < 1073741824 := by have := h.c5; omega
  unfold f_right_of b_right_of rightI
  simp [fdiv_int ⟨h0, h1⟩, mod_int h0, mul_int (.inr hs.2.1)]
theorem v_below {S : Sto} {r c s : Int} (h : Bd r c) : f_below [(pq r c), (.int s)] S = some (.ok (.int (belowI r c s)) S) := by
  have hs := h.sm
  have h0 : 0 < r * c := by have := h.m; omega
  unfold f_below b_below belowI
  simp [v_many_sites hs.1, mod_int h0]
def otherI (r c e : Int) : Int := if e % 2 = 0 then rightI c (e / 2) else belowI r c (e / 2)
theorem v_ends_of {S : Sto} {r c e : Int} (h : Bd r c) : f_ends_of [(pq r c), (.int e)] S = some (.ok (fl [e / 2, otherI r c e]) S) := by
  have k1 : evOp .fdiv (.int e) (.int 2) = some (.int (e / 2)) := fdiv_int (by decide)
  have k2 : evOp .mod (.int e) (.int 2) = some (.int (e % 2)) := mod_int (by decide)
  unfold f_ends_of b_ends_of otherI
  by_cases q : e % 2 = 0 <;> simp [k1, k2, q, v_right_of h, v_below h, LIM]
def seamA (c e : Int) : Bool := decide (e % 2 = 0) && decide (e / 2 % c = c - 1)
def seamB (r c e : Int) : Bool := !decide (e % 2 = 0) && decide (e / 2 / c = r - 1)
def b2 (b : Bool) : Int := if b then 1 else 0
theorem v_seam_of {S : Sto} {r c e : Int} (h : Bd r c) : f_seam_of [(pq r c), (.int e)] S = some (.ok (pq (b2 (seamA c e)) (b2 (seamB r c e))) S) := by
  have h0 : 0 < c := by have := h.c2; omega
  have h1 : c < 1073741824 := by have := h.c5; omega
  have k1 : evOp .fdiv (.int e) (.int 2) = some (.int (e / 2)) := fdiv_int (by decide)
  have k2 : evOp .mod (.int e) (.int 2) = some (.int (e % 2)) := mod_int (by decide)
  unfold f_seam_of b_seam_of seamA seamB b2
  by_cases q : e % 2 = 0 <;> simp [k1, k2, q, fdiv_int ⟨h0, h1⟩, mod_int h0, LIM]
theorem v_both {S : Sto} {xs ys : List Int} (h1 : xs.Nodup) (h2 : ys.Nodup) (l1 : xs.length ≤ 60) (l2 : ys.length ≤ 60) (l3 : (symI xs ys).length < 64) : f_both [(fl xs), (fl ys)] S = some (.ok (fl (symI xs ys)) S) := by
  have k : evSx (fl xs) (fl ys) = some (.lst ((symI xs ys).map .int)) := by
    unfold evSx
    show (toInts (xs.map .int)).bind _ = _
    rw [toInts_map]
    show (toInts (ys.map .int)).bind _ = _
    rw [toInts_map]
    exact if_pos ⟨h1, h2, l1, l2, by omega, l3⟩
  have k2 : okSx (fl xs) = true := by
    show (match toInts (xs.map D.int) with | some xs => decide (xs.Nodup ∧ xs.length ≤ 60) | none => false) = true
    rw [toInts_map]
    exact decide_eq_true ⟨h1, l1⟩
  unfold f_both b_both
  simp [k, k2]
theorem xor_b2 (a b : Bool) : Builtin.bitXor (b2 a) (b2 b) = b2 (xor a b) := by cases a <;> cases b <;> decide
theorem v_crossed {S : Sto} (a b a' b' : Bool) : f_crossed [(pq (b2 a) (b2 b)), (pq (b2 a') (b2 b'))] S = some (.ok (pq (b2 (xor a a')) (b2 (xor b b'))) S) := by
  unfold f_crossed b_crossed 
  simp [xor_b2, LIM]
/-! what is lit, the seams -/
theorem ends_ok {r c e : Int} (h : Bd r c) (h0 : 0 ≤ e) (h1 : e < 2 * (r * c)) : Bel (r * c) [e / 2, otherI r c e] ∧ ([e / 2, otherI r c e] : List Int).Nodup := by
  have a0 : 0 ≤ e / 2 := by omega
  have a1 : e / 2 < r * c := by omega
  have hb : 0 ≤ otherI r c e ∧ otherI r c e < r * c ∧ otherI r c e ≠ e / 2 := by
    obtain ⟨q1, q2, q3, q4⟩ := h
    unfold otherI rightI belowI
    generalize e / 2 = s at a0 a1 ⊢
    have hc : c = 2 ∨ c = 3 ∨ c = 4 ∨ c = 5 := by omega
    have hr : r = 2 ∨ r = 3 ∨ r = 4 ∨ r = 5 := by omega
    rcases hc with rfl | rfl | rfl | rfl <;> rcases hr with rfl | rfl | rfl | rfl <;> (simp only [Int.reduceMul, Int.reduceSub] at a1 ⊢; split <;> (refine ⟨?_, ?_, ?_⟩ <;> omega))
  refine ⟨fun x hx => ?_, ?_⟩
  · rcases List.mem_cons.mp hx with z | z
    · subst z; exact ⟨a0, a1⟩
    · rw [List.mem_singleton.mp z]; exact ⟨hb.1, hb.2.1⟩
  · simp [Ne.symm hb.2.2]
def litI (r c : Int) (xs : List Int) : List Int := xs.foldl (fun f e => symI f [e / 2, otherI r c e]) []
theorem lit_add (r c : Int) : ∀ (xs f : List Int), f.Nodup → (∀ e ∈ xs, ([e / 2, otherI r c e] : List Int).Nodup) → (Can f ∨ xs ≠ []) →
    Can (xs.foldl (fun f e => symI f [e / 2, otherI r c e]) f) ∧ ∀ k, decide (k ∈ xs.foldl (fun f e => symI f [e / 2, otherI r c e]) f) = xor (decide (k ∈ f)) (par (fun e => decide (k ∈ ([e / 2, otherI r c e] : List Int))) xs)
  | [], f, _, _, h => ⟨h.resolve_right (fun z => z rfl), fun k => by rw [List.foldl_nil, par, Bool.xor_false]⟩
  | e :: xs, f, hf, he, _ => by
    have hn := symI_nodup hf (he e List.mem_cons_self)
    obtain ⟨h1, h2⟩ := lit_add r c xs _ hn (fun x hx => he x (List.mem_cons_of_mem _ hx)) (.inl (can_of (symI_sorted _ _) hn))
    refine ⟨h1, fun k => ?_⟩
    rw [List.foldl_cons, h2 k, dec_sym, par, Bool.xor_assoc]
theorem lit_can {r c : Int} {xs : List Int} (h : Bd r c) (f : Bel (2 * (r * c)) xs) : Can (litI r c xs) := (lit_add r c xs [] List.nodup_nil (fun e he => (ends_ok h (f e he).1 (f e he).2).2) (.inl Can.nil)).1
theorem lit_mem {r c : Int} {xs : List Int} (h : Bd r c) (f : Bel (2 * (r * c)) xs) (k : Int) : decide (k ∈ litI r c xs) = par (fun e => decide (k ∈ ([e / 2, otherI r c e] : List Int))) xs := by
  have := (lit_add r c xs [] List.nodup_nil (fun e he => (ends_ok h (f e he).1 (f e he).2).2) (.inl Can.nil)).2 k
  have e0 : decide (k ∈ ([] : List Int)) = false := decide_eq_false (by simp)
  rw [e0, Bool.false_xor] at this
  exact this
theorem Bel.cons {n x : Int} {xs : List Int} (h : Bel n (x :: xs)) : 0 ≤ x ∧ x < n := h x List.mem_cons_self
theorem foldl_take {α β : Type} {g : α → β → α} {xs : List β} {i : Nat} {x : β} {a : α} (h : xs[i]? = some x) : (xs.take (i + 1)).foldl g a = g ((xs.take i).foldl g a) x := by
  rw [List.take_succ, h, List.foldl_append]; rfl
theorem Bel.take {n : Int} {xs : List Int} (h : Bel n xs) (i : Nat) : Bel n (xs.take i) := fun x hx => h x (List.mem_of_mem_take hx)
theorem lit_bel {r c : Int} (h : Bd r c) : ∀ (xs f : List Int), Bel (r * c) f → Bel (2 * (r * c)) xs → Bel (r * c) (xs.foldl (fun f e => symI f [e / 2, otherI r c e]) f)
  | [], f, hf, _ => hf
  | e :: xs, f, hf, hx => lit_bel h xs _ (hf.sym (ends_ok h hx.cons.1 hx.cons.2).1) fun x q => hx x (List.mem_cons_of_mem _ q)
theorem Bd.n {r c : Int} (h : Bd r c) : ∃ n : Nat, r * c = n ∧ n ≤ 25 := ⟨(r * c).toNat, by have := h.m; omega, by have := h.m; omega⟩
theorem Bel.len {r c : Int} (h : Bd r c) {xs : List Int} (hc : Can xs) (hb : Bel (r * c) xs) : xs.length ≤ 25 := by
  obtain ⟨n, e, hn⟩ := h.n
  rw [e] at hb
  exact Nat.le_trans (hc.len hb) hn
theorem Fls.len {r c : Int} (h : Bd r c) {xs : List Int} (f : Fls r c xs) : xs.length ≤ 50 := by
  obtain ⟨n, e, hn⟩ := h.n
  have : Bel ((2 * n : Nat) : Int) xs := by have := f.bel; rw [e] at this; simpa using this
  have := f.can.len this
  omega
theorem map_get {xs : List Int} {i : Nat} {d : D} (h : (xs.map D.int)[i]? = some d) : ∃ x, xs[i]? = some x ∧ d = .int x := by
  rw [List.getElem?_map] at h
  obtain ⟨x, h1, h2⟩ := Option.map_eq_some_iff.mp h
  exact ⟨x, h1, h2.symm⟩
theorem v_lit_by {S : Sto} {r c : Int} {xs : List Int} (h : Bd r c) (f : Fls r c xs) : f_lit_by [(pq r c), (fl xs)] S = some (.ok (fl (litI r c xs)) S) := by
  obtain ⟨env', S', e, ⟨a, rfl⟩, rfl⟩ := for_inv (G := gam g_lit_by) (Φ := phi l_lit_by) (t := .nm 3) (src := .seq (.var 1)) (body := blit_by_1) (S := S) (S0 := S)
    (fun k env S' => (∃ a, env = [some (pq r c), some (fl xs), some (fl (litI r c (xs.take k))), a]) ∧ S' = S) (ds := xs.map .int) (env := [some (pq r c), some (fl xs), some (.tup []), none]) (by simp) ⟨⟨_, rfl⟩, rfl⟩ fun i d env S' hi ⟨⟨a, e⟩, e2⟩ => by
      obtain ⟨x, hx, rfl⟩ := map_get hi
      subst e; subst e2
      refine ⟨[some (pq r c), some (fl xs), some (fl (litI r c (xs.take i))), some (.int x)], [some (pq r c), some (fl xs), some (fl (litI r c (xs.take (i + 1)))), some (.int x)], S', by simp, ?_, ⟨_, rfl⟩, rfl⟩
      have hxb := f.bel x (List.mem_of_getElem? hx)
      obtain ⟨q1, q2⟩ := ends_ok h hxb.1 hxb.2
      have hb := lit_bel h (xs.take i) [] (fun x hx => by cases hx) (f.bel.take i)
      have hcn := lit_can h (f.bel.take i)
      have hl := hb.len h hcn
      have hcs : Can (symI (litI r c (xs.take i)) [x / 2, otherI r c x]) := can_of (symI_sorted _ _) (symI_nodup hcn.nd q2)
      have hl2 := (Bel.sym hb q1).len h hcs
      have vb := fun S => v_both (S := S) hcn.nd q2 (by omega) (by simp) (by omega)
      have et : litI r c (xs.take (i + 1)) = symI (litI r c (xs.take i)) [x / 2, otherI r c x] := foldl_take hx
      rw [et]
      simp [blit_by_1, v_ends_of h, vb]
  have el : xs.take (xs.map D.int).length = xs := by rw [List.length_map, List.take_length]
  rw [el] at e
  unfold f_lit_by b_lit_by
  simp [LIM, e]
def seamsI (r c : Int) (xs : List Int) : D := pq (b2 (par (seamA c) xs)) (b2 (par (seamB r c) xs))
theorem par_take {f : Int → Bool} {xs : List Int} {i : Nat} {x : Int} (h : xs[i]? = some x) : par f (xs.take (i + 1)) = xor (par f (xs.take i)) (f x) := by
  rw [List.take_succ, h, par_append]
  simp [par]
theorem v_seams_by {S : Sto} {r c : Int} {xs : List Int} (h : Bd r c) : f_seams_by [(pq r c), (fl xs)] S = some (.ok (seamsI r c xs) S) := by
  obtain ⟨env', S', e, ⟨a, rfl⟩, rfl⟩ := for_inv (G := gam g_seams_by) (Φ := phi l_seams_by) (t := .nm 3) (src := .seq (.var 1)) (body := bseams_by_1) (S := S) (S0 := S)
    (fun k env S' => (∃ a, env = [some (pq r c), some (fl xs), some (seamsI r c (xs.take k)), a]) ∧ S' = S) (ds := xs.map .int) (env := [some (pq r c), some (fl xs), some (pq 0 0), none]) (by simp) ⟨⟨_, rfl⟩, rfl⟩ fun i d env S' hi ⟨⟨a, e⟩, e2⟩ => by
      obtain ⟨x, hx, rfl⟩ := map_get hi
      subst e; subst e2
      refine ⟨[some (pq r c), some (fl xs), some (seamsI r c (xs.take i)), some (.int x)], [some (pq r c), some (fl xs), some (seamsI r c (xs.take (i + 1))), some (.int x)], S', by simp, ?_, ⟨_, rfl⟩, rfl⟩
      have vc := fun S => v_crossed (S := S) (par (seamA c) (xs.take i)) (par (seamB r c) (xs.take i)) (seamA c x) (seamB r c x)
      unfold seamsI
      rw [par_take hx, par_take hx]
      simp [bseams_by_1, v_seam_of h, vc]
  have el : xs.take (xs.map D.int).length = xs := by rw [List.length_map, List.take_length]
  rw [el] at e
  unfold f_seams_by b_seams_by
  simp [LIM, e]
theorem v_checks {S : Sto} {r c : Int} {xs : List Int} (h : Bd r c) (f : Fls r c xs) : f_checks [(pq r c), (fl xs)] S = some (.ok (fl (litI r c xs)) S) := by
  unfold f_checks b_checks 
  simp [v_need_board h, v_need_flips h f, v_lit_by h f]
theorem v_seams {S : Sto} {r c : Int} {xs : List Int} (h : Bd r c) (f : Fls r c xs) : f_seams [(pq r c), (fl xs)] S = some (.ok (seamsI r c xs) S) := by
  unfold f_seams b_seams 
  simp [v_need_board h, v_need_flips h f, v_seams_by h]
theorem Fls.sym {r c : Int} {xs ys : List Int} (f : Fls r c xs) (g : Fls r c ys) : Fls r c (symI xs ys) := ⟨can_sym f.can g.can, f.bel.sym g.bel⟩
theorem v_after {S : Sto} {r c : Int} {xs ys : List Int} (h : Bd r c) (f : Fls r c xs) (g : Fls r c ys) : f_after [(pq r c), (fl xs), (fl ys)] S = some (.ok (fl (symI xs ys)) S) := by
  have l1 := f.len h
  have l2 := g.len h
  have l3 := (f.sym g).len h
  have vb := fun S => v_both (S := S) f.can.nd g.can.nd (by omega) (by omega) (by omega)
  unfold f_after b_after 
  simp [v_need_board h, v_need_flips h f, v_need_flips h g, vb]


end Sf

/-! Sf.Face: faces. -/
namespace Sf
open PySem L2
structure Fcs (r c : Int) (xs : List Int) : Prop where
  can : Can xs
  bel : Bel (r * c) xs
theorem v_need_faces {S : Sto} {r c : Int} {xs : List Int} (h : Bd r c) (f : Fcs r c xs) : f_need_faces [(pq r c), (fl xs)] S = some (.ok .non S) := by
  have hs := h.sm
  have hb := fun S => v_bad_place (S := S) f.can f.bel
  unfold f_need_faces b_need_faces
  simp [v_many_sites hs.1, hb]
def faceI (r c f : Int) : List Int := [2 * f, 2 * f + 1, 2 * belowI r c f, 2 * rightI c f + 1]
theorem v_face_edges {S : Sto} {r c f : Int} (h : Bd r c) : f_face_edges [(pq r c), (.int f)] S = some (.ok (fl (faceI r c f)) S) := by
  have s2 : small 2 = true := by decide
  unfold f_face_edges b_face_edges faceI
  simp [v_below h, v_right_of h, mul_int (.inl s2), LIM]
theorem Bd.cases {r c : Int} (h : Bd r c) : (r = 2 ∨ r = 3 ∨ r = 4 ∨ r = 5) ∧ (c = 2 ∨ c = 3 ∨ c = 4 ∨ c = 5) := by
  obtain ⟨h1, h2, h3, h4⟩ := h
  constructor <;> omega
/-- right of, below: on the board, other, in any order, in the same line -/
structure Step (r c s : Int) : Prop where
  r0 : 0 ≤ rightI c s
  r1 : rightI c s < r * c
  rn : rightI c s ≠ s
  b0 : 0 ≤ belowI r c s
  b1 : belowI r c s < r * c
  bn : belowI r c s ≠ s
  rb : rightI c (belowI r c s) = belowI r c (rightI c s)
  rl : rightI c s / c = s / c
  bl : belowI r c s % c = s % c
theorem step_ok {r c s : Int} (h : Bd r c) (h0 : 0 ≤ s) (h1 : s < r * c) : Step r c s := by
  obtain ⟨hr, hc⟩ := h.cases
  rcases hr with rfl | rfl | rfl | rfl <;> rcases hc with rfl | rfl | rfl | rfl <;> (simp only [Int.reduceMul] at h1; constructor <;> (simp only [rightI, belowI, Int.reduceMul]; omega))
theorem face_ok {r c f : Int} (h : Bd r c) (h0 : 0 ≤ f) (h1 : f < r * c) : Bel (2 * (r * c)) (faceI r c f) ∧ (faceI r c f).Nodup := by
  have s := step_ok h h0 h1
  have := s.r0; have := s.r1; have := s.rn; have := s.b0; have := s.b1; have := s.bn
  generalize hrr : rightI c f = x at *
  generalize hbb : belowI r c f = y at *
  constructor
  · intro z hz
    unfold faceI at hz
    rw [hrr, hbb] at hz
    simp at hz
    rcases hz with rfl | rfl | rfl | rfl <;> omega
  · unfold faceI
    rw [hrr, hbb]
    simp
    omega
theorem dec_pair {a b k : Int} (h : a ≠ b) : decide (k ∈ ([a, b] : List Int)) = xor (decide (k = a)) (decide (k = b)) := by
  by_cases h1 : k = a
  · have h2 : ¬ k = b := fun z => h (h1.symm.trans z)
    rw [decide_eq_true h1, decide_eq_false h2, decide_eq_true (by simp [h1])]; rfl
  · by_cases h2 : k = b
    · rw [decide_eq_false h1, decide_eq_true h2, decide_eq_true (by simp [h2])]; rfl
    · rw [decide_eq_false h1, decide_eq_false h2, decide_eq_false (by simp [h1, h2])]; rfl
theorem half0 (x : Int) : (2 * x) / 2 = x := by omega
theorem half1 (x : Int) : (2 * x + 1) / 2 = x := by omega
theorem ends0 (r c x : Int) : otherI r c (2 * x) = rightI c x := by
  unfold otherI
  rw [if_pos (by omega), half0]
theorem ends1 (r c x : Int) : otherI r c (2 * x + 1) = belowI r c x := by
  unfold otherI
  rw [if_neg (by omega), half1]
/-- a face lights nothing -/
theorem face_dark {r c f : Int} (h : Bd r c) (h0 : 0 ≤ f) (h1 : f < r * c) (k : Int) : par (fun e => decide (k ∈ ([e / 2, otherI r c e] : List Int))) (faceI r c f) = false := by
  have s := step_ok h h0 h1
  have s2 := step_ok h s.r0 s.r1
  have s3 := step_ok h s.b0 s.b1
  unfold faceI
  simp only [par, half0, half1, ends0, ends1]
  rw [dec_pair (Ne.symm s.rn), dec_pair (Ne.symm s.bn), dec_pair (Ne.symm s3.rn), dec_pair (Ne.symm s2.bn), s.rb]
  generalize decide (k = f) = a
  generalize decide (k = rightI c f) = b
  generalize decide (k = belowI r c f) = d
  generalize decide (k = belowI r c (rightI c f)) = e
  cases a <;> cases b <;> cases d <;> cases e <;> rfl
theorem face_seams {r c f : Int} (h : Bd r c) (h0 : 0 ≤ f) (h1 : f < r * c) : par (seamA c) (faceI r c f) = false ∧ par (seamB r c) (faceI r c f) = false := by
  have s := step_ok h h0 h1
  have e1 : decide ((2 * f + 1) % 2 = 0) = false := decide_eq_false (by omega)
  have e0 : decide ((2 * f) % 2 = 0) = true := decide_eq_true (by omega)
  have e2 : decide ((2 * belowI r c f) % 2 = 0) = true := decide_eq_true (by omega)
  have e3 : decide ((2 * rightI c f + 1) % 2 = 0) = false := decide_eq_false (by omega)
  unfold faceI
  constructor
  · simp only [par, seamA, e0, e1, e2, e3, half0, half1, s.bl, Bool.true_and, Bool.false_and, Bool.xor_false, Bool.false_xor]
    generalize decide (f % c = c - 1) = a
    cases a <;> rfl
  · simp only [par, seamB, e0, e1, e2, e3, half0, half1, s.rl, Bool.not_true, Bool.not_false, Bool.true_and, Bool.false_and, Bool.xor_false, Bool.false_xor]
    generalize decide (f / c = r - 1) = a
    cases a <;> rfl
/-! many faces -/
def turnI (r c : Int) (xs fs : List Int) : List Int := fs.foldl (fun f e => symI f (faceI r c e)) xs
theorem turn_fls {r c : Int} (h : Bd r c) : ∀ {fs xs : List Int}, Fls r c xs → Bel (r * c) fs → Fls r c (turnI r c xs fs)
  | [], _, hx, _ => hx
  | f :: fs, xs, hx, hf => by
    obtain ⟨q1, q2⟩ := face_ok h hf.cons.1 hf.cons.2
    exact turn_fls h (xs := symI xs (faceI r c f)) ⟨can_of (symI_sorted _ _) (symI_nodup hx.can.nd q2), hx.bel.sym q1⟩ fun x z => hf x (List.mem_cons_of_mem _ z)
theorem turn_mem {r c : Int} (k : Int) : ∀ (fs xs : List Int), decide (k ∈ turnI r c xs fs) = xor (decide (k ∈ xs)) (par (fun f => decide (k ∈ faceI r c f)) fs)
  | [], xs => by
    show decide (k ∈ xs) = xor (decide (k ∈ xs)) false
    rw [Bool.xor_false]
  | f :: fs, xs => by
    have := turn_mem (r := r) (c := c) k fs (symI xs (faceI r c f))
    rw [dec_sym] at this
    unfold turnI at this ⊢
    rw [List.foldl_cons, this, par, Bool.xor_assoc]
theorem par_turn {r c : Int} (h : Bd r c) {p : Int → Bool} (hp : ∀ f, 0 ≤ f → f < r * c → par p (faceI r c f) = false) : ∀ {fs xs : List Int}, Fls r c xs → Bel (r * c) fs → par p (turnI r c xs fs) = par p xs
  | [], _, _, _ => rfl
  | f :: fs, xs, hx, hf => by
    obtain ⟨q1, q2⟩ := face_ok h hf.cons.1 hf.cons.2
    have := par_turn h hp (fs := fs) (xs := symI xs (faceI r c f)) ⟨can_of (symI_sorted _ _) (symI_nodup hx.can.nd q2), hx.bel.sym q1⟩ fun x z => hf x (List.mem_cons_of_mem _ z)
    rw [par_sym hx.can.nd q2, hp f hf.cons.1 hf.cons.2, Bool.xor_false] at this
    exact this
theorem lit_turn {r c : Int} {xs fs : List Int} (h : Bd r c) (f : Fls r c xs) (hf : Bel (r * c) fs) : litI r c (turnI r c xs fs) = litI r c xs :=
  dec_ext (lit_can h (turn_fls h f hf).bel) (lit_can h f.bel) fun k => by
    rw [lit_mem h (turn_fls h f hf).bel, lit_mem h f.bel]
    exact par_turn h (fun g h0 h1 => face_dark h h0 h1 k) f hf
theorem seams_turn {r c : Int} {xs fs : List Int} (h : Bd r c) (f : Fls r c xs) (hf : Bel (r * c) fs) : seamsI r c (turnI r c xs fs) = seamsI r c xs := by
  unfold seamsI
  rw [par_turn h (fun g h0 h1 => (face_seams h h0 h1).1) f hf, par_turn h (fun g h0 h1 => (face_seams h h0 h1).2) f hf]
theorem v_turned {S : Sto} {r c : Int} {xs fs : List Int} (h : Bd r c) (f : Fls r c xs) (g : Fcs r c fs) : f_turned [(pq r c), (fl xs), (fl fs)] S = some (.ok (fl (turnI r c xs fs)) S) := by
  obtain ⟨env', S', e, ⟨a, rfl⟩, rfl⟩ := for_inv (G := gam g_turned) (Φ := phi l_turned) (t := .nm 3) (src := .seq (.var 2)) (body := bturned_1) (S := S) (S0 := S)
    (fun k env S' => (∃ a, env = [some (pq r c), some (fl (turnI r c xs (fs.take k))), some (fl fs), a]) ∧ S' = S) (ds := fs.map .int) (env := [some (pq r c), some (fl xs), some (fl fs), none]) (by simp) ⟨⟨_, rfl⟩, rfl⟩ fun i d env S' hi ⟨⟨a, e⟩, e2⟩ => by
      obtain ⟨x, hx, rfl⟩ := map_get hi
      subst e; subst e2
      refine ⟨[some (pq r c), some (fl (turnI r c xs (fs.take i))), some (fl fs), some (.int x)], [some (pq r c), some (fl (turnI r c xs (fs.take (i + 1)))), some (fl fs), some (.int x)], S', by simp, ?_, ⟨_, rfl⟩, rfl⟩
      have hxb := g.bel x (List.mem_of_getElem? hx)
      obtain ⟨q1, q2⟩ := face_ok h hxb.1 hxb.2
      have ft := turn_fls h f (g.bel.take i)
      have l1 := ft.len h
      have ft2 : Fls r c (symI (turnI r c xs (fs.take i)) (faceI r c x)) := ⟨can_of (symI_sorted _ _) (symI_nodup ft.can.nd q2), ft.bel.sym q1⟩
      have l2 := ft2.len h
      have vb := fun S => v_both (S := S) ft.can.nd q2 (by omega) (by simp [faceI]) (by omega)
      have et : turnI r c xs (fs.take (i + 1)) = symI (turnI r c xs (fs.take i)) (faceI r c x) := foldl_take hx
      rw [et]
      simp [bturned_1, v_face_edges h, vb]
  have el : fs.take (fs.map D.int).length = fs := by rw [List.length_map, List.take_length]
  rw [el] at e
  unfold f_turned b_turned
  simp [v_need_board h, v_need_flips h f, v_need_faces h g] at e ⊢
  rw [e]
  simp
/-! all faces -/
def rngI (n : Nat) : List Int := (List.range n).map fun (i : Nat) => (i : Int)
theorem mem_rngI {n : Nat} {k : Int} : k ∈ rngI n ↔ 0 ≤ k ∧ k < n := by
  unfold rngI
  rw [List.mem_map]
  constructor
  · rintro ⟨i, hi, rfl⟩
    have := List.mem_range.mp hi
    omega
  · rintro ⟨h1, h2⟩
    exact ⟨k.toNat, List.mem_range.mpr (by omega), by omega⟩
theorem can_rngI (n : Nat) : Can (rngI n) := by
  unfold rngI Can
  rw [List.pairwise_map]
  exact List.Pairwise.imp (fun h => by omega) List.pairwise_lt_range
def allEven : Bool := [2, 3, 4, 5].all fun (r : Nat) => [2, 3, 4, 5].all fun (c : Nat) => (List.range (2 * (r * c))).all fun (k : Nat) => !(par (fun f => decide ((k : Int) ∈ faceI r c f)) (rngI (r * c)))
theorem allEven_ok : allEven = true := by decide +kernel
theorem par_false {p : Int → Bool} : ∀ {xs : List Int}, (∀ x ∈ xs, p x = false) → par p xs = false
  | [], _ => rfl
  | x :: xs, h => by rw [par, h x List.mem_cons_self, par_false fun y hy => h y (List.mem_cons_of_mem _ hy)]; rfl
theorem all_faces {r c k : Int} (h : Bd r c) : par (fun f => decide (k ∈ faceI r c f)) (rngI (r * c).toNat) = false := by
  obtain ⟨m4, m25⟩ := h.m
  by_cases hk : 0 ≤ k ∧ k < 2 * (r * c)
  · obtain ⟨h1, h2, h3, h4⟩ := h
    obtain ⟨r', rfl⟩ : ∃ n : Nat, r = n := ⟨r.toNat, by omega⟩
    obtain ⟨c', rfl⟩ : ∃ n : Nat, c = n := ⟨c.toNat, by omega⟩
    obtain ⟨k', rfl⟩ : ∃ n : Nat, k = n := ⟨k.toNat, by omega⟩
    have hr : r' ∈ [2, 3, 4, 5] := by simp; omega
    have hc : c' ∈ [2, 3, 4, 5] := by simp; omega
    have := List.all_eq_true.mp (List.all_eq_true.mp (List.all_eq_true.mp allEven_ok r' hr) c' hc) k' (List.mem_range.mpr (by
      have := hk.2
      have e : ((2 * (r' * c') : Nat) : Int) = 2 * ((r' : Int) * (c' : Int)) := by simp
      omega))
    have e : ((r' : Int) * (c' : Int)).toNat = r' * c' := by rw [← Int.natCast_mul]; exact Int.toNat_natCast _
    rw [e]
    simpa using this
  · refine par_false fun f hf => decide_eq_false fun z => ?_
    obtain ⟨f0, f1⟩ := mem_rngI.mp hf
    exact hk ((face_ok h f0 (by omega)).1 k z)
end Sf

/-! Sf.Tak: the row that draws. -/
namespace Sf
open PySem L2
/-! _law_taken: _law_row, _law_many, _law_cell, _law_found -/
def b_law_taken : List S :=
  [.ife (.cmp .gt (.ix (.var 0) (.int 3)) (.int 0))
   [.asg1 3 (.op .mod (.bi .int [(.ix (.var 0) (.int 3))]) (.var 1)),
   .oset (.var 0) (.int 3) (.op .fdiv (.ix (.var 0) (.int 3)) (.var 1)),
   .ret (.var 3)]
   [],
  .oset (.var 0) (.int 1) (.op .add (.ix (.var 0) (.int 1)) (.int 1)),
  .ife (.cmp .gt (.ix (.var 0) (.int 1)) (.bi .len [(.ix (.var 0) (.int 0))]))
   [.oset (.var 0) (.int 2) (.op .mod (.bi .int [(.op .add (.op .mul (.ix (.var 0) (.int 2)) (.int 48271)) (.int 11))]) (.int 2147483647)),
   .ret (.op .mod (.bi .int [(.op .fdiv (.ix (.var 0) (.int 2)) (.int 7))]) (.var 1))]
   [],
  .asg1 2 (.ix (.ix (.var 0) (.int 0)) (.op .sub (.ix (.var 0) (.int 1)) (.int 1))),
  .oset (.var 0) (.int 2) (.op .mod (.bi .int [(.op .add (.op .add (.op .mul (.ix (.var 0) (.int 2)) (.int 48271)) (.var 2)) (.int 11))]) (.int 2147483647)),
  .ife (.cmp .ge (.var 2) (.op .pow (.int 10) (.int 18)))
   [.oset (.var 0) (.int 3) (.op .fdiv (.var 2) (.var 1))]
   [],
  .ret (.op .mod (.bi .int [(.var 2)]) (.var 1))]
def l_law_taken : FnL := []
def g_law_taken : GlL := []
def f_law_taken : FnSem := runF (gam g_law_taken) (phi l_law_taken) 4 b_law_taken
/-- the row's cell -/
def RowAt (S : Sto) (n : Nat) : Prop := ∃ (ns : List Int) (p s c : Int), S[n]? = some (.lst [.scr ns, .int p, .int s, .int c]) ∧ 0 ≤ p ∧ 0 ≤ s ∧ s < 2147483647
/-- something was drawn -/
structure Dr (S S' : Sto) (n : Nat) : Prop where
  row : RowAt S' n
  len : S'.length = S.length
  oth : ∀ m, m ≠ n → S'[m]? = S[m]?
theorem Dr.trans {S1 S2 S3 : Sto} {n : Nat} (a : Dr S1 S2 n) (b : Dr S2 S3 n) : Dr S1 S3 n := ⟨b.row, b.len.trans a.len, fun m h => (b.oth m h).trans (a.oth m h)⟩
theorem Dr.refl {S : Sto} {n : Nat} (h : RowAt S n) : Dr S S n := ⟨h, rfl, fun _ _ => rfl⟩
theorem Dr.set {S : Sto} {n : Nat} {ob : Ob} {ns : List Int} {p s c : Int} (e : S[n]? = some ob) (h0 : 0 ≤ p) (h1 : 0 ≤ s) (h2 : s < 2147483647) : Dr S (S.set n (.lst [.scr ns, .int p, .int s, .int c])) n := by
  have hn := (List.getElem?_eq_some_iff.mp e).1
  exact ⟨⟨ns, p, s, c, by rw [List.getElem?_set, if_pos rfl, if_pos hn], h0, h1, h2⟩, List.length_set, fun m h => List.getElem?_set_ne (Ne.symm h)⟩
theorem ixN_nat {n k : Nat} (h : k < n) : ixN n (k : Int) = some k := by
  unfold ixN
  rw [if_pos (Int.natCast_nonneg k), if_pos (by omega)]; rfl
theorem n1 : ixN 4 1 = some 1 := ixN_nat (k := 1) (by decide)
theorem n2 : ixN 4 2 = some 2 := ixN_nat (k := 2) (by decide)
theorem n3 : ixN 4 3 = some 3 := ixN_nat (k := 3) (by decide)
theorem ix0l (a : D) (r : List D) : evIx (.lst (a :: r)) (.int 0) = some a := ix_lst (k := 0) rfl
theorem ix1l (a b : D) (r : List D) : evIx (.lst (a :: b :: r)) (.int 1) = some b := ix_lst (k := 1) rfl
theorem ix2l (a b c : D) (r : List D) : evIx (.lst (a :: b :: c :: r)) (.int 2) = some c := ix_lst (k := 2) rfl
theorem ix3l (a b c d : D) (r : List D) : evIx (.lst (a :: b :: c :: d :: r)) (.int 3) = some d := ix_lst (k := 3) rfl
theorem v_taken {S : Sto} {n : Nat} {m : Int} (h : RowAt S n) (h1 : 1 ≤ m) (h2 : m < 1073741824) : ∃ x S', f_law_taken [.ref n, .int m] S = some (.ok (.int x) S') ∧ Dr S S' n ∧ 0 ≤ x ∧ x < m := by
  obtain ⟨ns, p, s, c, e, hp, hs, hs2⟩ := h
  have hn := (List.getElem?_eq_some_iff.mp e).1
  have e2 : ∀ X : Ob, (S.set n X)[n]? = some X := fun X => by rw [List.getElem?_set, if_pos rfl, if_pos hn]
  have k1 : ∀ i : Int, evOp .mod (.int i) (.int m) = some (.int (i % m)) := fun i => mod_int (by omega)
  have k2 : ∀ i : Int, evOp .fdiv (.int i) (.int m) = some (.int (i / m)) := fun i => fdiv_int ⟨by omega, h2⟩
  have k3 : ∀ i : Int, evOp .mod (.int i) (.int 2147483647) = some (.int (i % 2147483647)) := fun i => mod_int (by decide)
  have k4 : ∀ i : Int, evOp .fdiv (.int i) (.int 7) = some (.int (i / 7)) := fun i => fdiv_int (by decide)
  have k5 : evOp .mul (.int s) (.int 48271) = some (.int (s * 48271)) := mul_int (.inr (by decide))
  have k6 : evOp .pow (.int 10) (.int 18) = some (.int (10 ^ 18)) := pow_int (by decide)
  have m1 : ∀ i : Int, 0 ≤ i % m ∧ i % m < m := fun i => ⟨Int.emod_nonneg _ (by omega), Int.emod_lt_of_pos _ (by omega)⟩
  have m2 : ∀ i : Int, 0 ≤ i % 2147483647 ∧ i % 2147483647 < 2147483647 := fun i => ⟨Int.emod_nonneg _ (by omega), Int.emod_lt_of_pos _ (by omega)⟩
  by_cases q1 : 0 < c
  · refine ⟨c % m, S.set n (.lst [.scr ns, .int p, .int s, .int (c / m)]), ?_, Dr.set e hp hs hs2, (m1 c).1, (m1 c).2⟩
    unfold f_law_taken b_law_taken
    simp [q1, k1, k2, n3, e, ix3l]
  · by_cases q2 : (ns.length : Int) < p + 1
    · refine ⟨(s * 48271 + 11) % 2147483647 / 7 % m, S.set n (.lst [.scr ns, .int (p + 1), .int ((s * 48271 + 11) % 2147483647), .int c]), ?_, Dr.set e (by omega) (m2 _).1 (m2 _).2, (m1 _).1, (m1 _).2⟩
      unfold f_law_taken b_law_taken
      simp [q1, q2, k1, k2, k3, k4, k5, n1, n2, n3, e, e2, ix0l, ix1l, ix2l, ix3l]
    · obtain ⟨k, rfl⟩ : ∃ k : Nat, p = k := ⟨p.toNat, by omega⟩
      have hk : k < ns.length := by omega
      have e1 : (k : Int) + 1 - 1 = (k : Int) := by omega
      have hix : evIx (.scr ns) (.int (k : Int)) = some (.int ns[k]) := ix_scr (List.getElem?_eq_getElem hk)
      by_cases q3 : (10 : Int) ^ 18 ≤ ns[k]
      · refine ⟨ns[k] % m, S.set n (.lst [.scr ns, .int ((k : Int) + 1), .int ((s * 48271 + ns[k] + 11) % 2147483647), .int (ns[k] / m)]), ?_, Dr.set e (by omega) (m2 _).1 (m2 _).2, (m1 _).1, (m1 _).2⟩
        unfold f_law_taken b_law_taken
        simp at q3
        simp [q1, q2, q3, k1, k2, k3, k4, k5, k6, n1, n2, n3, hix, e1, e, e2, ix0l, ix1l, ix2l, ix3l]
      · refine ⟨ns[k] % m, S.set n (.lst [.scr ns, .int ((k : Int) + 1), .int ((s * 48271 + ns[k] + 11) % 2147483647), .int c]), ?_, Dr.set e (by omega) (m2 _).1 (m2 _).2, (m1 _).1, (m1 _).2⟩
        unfold f_law_taken b_law_taken
        have q4 : ¬ ((1000000000000000000 : Int) ≤ ns[k]) := by
          have : (10 : Int) ^ 18 = 1000000000000000000 := by decide
          omega
        simp [q1, q2, q4, k1, k2, k3, k4, k5, k6, n1, n2, n3, hix, e1, e, e2, ix0l, ix1l, ix2l, ix3l]
end Sf

/-! Sf.Row: what laws draw. -/
namespace Sf
open PySem L2
/-! _law_board: _law_row, _law_most -/
def b_law_board : List S :=
  [.ret (.tup [(.op .add (.int 2) (.call 0 [(.var 0), (.op .sub (.var 1) (.int 1))] [] [])), (.op .add (.int 2) (.call 0 [(.var 0), (.op .sub (.var 1) (.int 1))] [] []))])]
def l_law_board : FnL := [(⟨"_law_taken", 2, [], []⟩, f_law_taken)]
@[simp] theorem ph_law_board_0 : phi l_law_board 0 = f_law_taken := id rfl
def g_law_board : GlL := []
def f_law_board : FnSem := runF (gam g_law_board) (phi l_law_board) 2 b_law_board
/-! _law_some: _law_row, _law_many, _law_most, _law_found, _law_k, _law_one -/
def blaw_some_1 : List S := [.asg1 5 (.call 0 [(.var 0), (.var 1)] [] []),
  .asg1 3 (.op .add (.var 3) (.op .mul (.lst [(.var 5)]) (.bi .int [(.cmp .notin (.var 5) (.var 3))])))]
def b_law_some : List S :=
  [.asg1 3 (.lst []),
  .for_ (.nm 4) (.rng [(.call 0 [(.var 0), (.op .add (.bi .min [(.var 1), (.var 2)]) (.int 1))] [] [])]) blaw_some_1,
  .ret (.bi .tuple [(.bi .sorted [(.var 3)])])]
def l_law_some : FnL := [(⟨"_law_taken", 2, [], []⟩, f_law_taken)]
@[simp] theorem ph_law_some_0 : phi l_law_some 0 = f_law_taken := id rfl
def g_law_some : GlL := []
def f_law_some : FnSem := runF (gam g_law_some) (phi l_law_some) 6 b_law_some
/-! _law_flips: _law_row, _law_board_here, _law_many, _law_found, _law_line, _law_edge, _law_k -/
def xlaw_flips_1 : E := (.op .mul (.int 2) (.op .add (.op .mul (.var 4) (.ix (.var 1) (.int 1))) (.var 6)))
def xlaw_flips_2 : E := (.op .add (.op .mul (.int 2) (.op .add (.op .mul (.var 6) (.ix (.var 1) (.int 1))) (.var 4))) (.int 1))
def claw_flips_3 : E := (.cmp .eq (.op .mod (.mt .count (.var 3) [(.var 5)]) (.int 2)) (.int 1))
def xlaw_flips_3 : E := (.var 5)
def b_law_flips : List S :=
  [.asg1 2 (.op .mul (.ix (.var 1) (.int 0)) (.ix (.var 1) (.int 1))),
  .asg1 3 (.bi .list [(.call 0 [(.var 0), (.op .mul (.int 2) (.var 2)), (.ix (.lst [(.int 3), (.int 6), (.op .mul (.int 2) (.var 2))]) (.call 1 [(.var 0), (.int 3)] [] []))] [] [])]),
  .ife (.cmp .eq (.call 1 [(.var 0), (.int 4)] [] []) (.int 0))
   [.asg1 4 (.call 1 [(.var 0), (.ix (.var 1) (.int 0))] [] []),
   .asg1 3 (.op .add (.var 3) (.lc [6] (.nm 6) (.rng [(.ix (.var 1) (.int 1))]) (.bl true) xlaw_flips_1))]
   [],
  .ife (.cmp .eq (.call 1 [(.var 0), (.int 4)] [] []) (.int 0))
   [.asg1 4 (.call 1 [(.var 0), (.ix (.var 1) (.int 1))] [] []),
   .asg1 3 (.op .add (.var 3) (.lc [6] (.nm 6) (.rng [(.ix (.var 1) (.int 0))]) (.bl true) xlaw_flips_2))]
   [],
  .ret (.bi .tuple [(.lc [5] (.nm 5) (.rng [(.op .mul (.int 2) (.var 2))]) claw_flips_3 xlaw_flips_3)])]
def l_law_flips : FnL := [(⟨"_law_some", 3, [], []⟩, f_law_some), (⟨"_law_taken", 2, [], []⟩, f_law_taken)]
@[simp] theorem ph_law_flips_0 : phi l_law_flips 0 = f_law_some := id rfl
@[simp] theorem ph_law_flips_1 : phi l_law_flips 1 = f_law_taken := id rfl
def g_law_flips : GlL := []
def f_law_flips : FnSem := runF (gam g_law_flips) (phi l_law_flips) 7 b_law_flips
theorem v_board {S : Sto} {n : Nat} (h : RowAt S n) : ∃ r c S', f_law_board [.ref n, .int 5] S = some (.ok (pq r c) S') ∧ Dr S S' n ∧ Bd r c := by
  obtain ⟨x, S1, e1, d1, x0, x1⟩ := v_taken h (m := 4) (by decide) (by decide)
  obtain ⟨y, S2, e2, d2, y0, y1⟩ := v_taken d1.row (m := 4) (by decide) (by decide)
  refine ⟨2 + x, 2 + y, S2, ?_, d1.trans d2, ⟨by omega, by omega, by omega, by omega⟩⟩
  unfold f_law_board b_law_board
  simp [e1, e2, LIM]
theorem rep_0 (x : D) : evOp .mul (.lst [x]) (.int 0) = some (.lst []) := by
  show (repn [x] 0).map D.lst = _
  unfold repn
  rw [if_pos (by refine ⟨by decide, ?_⟩; show 1 * 0 ≤ LIM; decide)]; rfl
theorem rep_1 (x : D) : evOp .mul (.lst [x]) (.int 1) = some (.lst [x]) := by
  show (repn [x] 1).map D.lst = _
  unfold repn
  rw [if_pos (by refine ⟨by decide, ?_⟩; show 1 * 1 ≤ LIM; decide)]; rfl
theorem v_some {S : Sto} {n0 : Nat} {many most : Int} (h : RowAt S n0) (h1 : 1 ≤ many) (h2 : many ≤ 1000) (h3 : 0 ≤ most) (h4 : most ≤ 60) :
    ∃ xs S', f_law_some [.ref n0, .int many, .int most] S = some (.ok (fl xs) S') ∧ Dr S S' n0 ∧ Can xs ∧ Bel many xs ∧ xs.length ≤ 60 := by
  obtain ⟨n, S1, e1, d1, q0, q1⟩ := v_taken h (m := (if most < many then most else many) + 1) (by split <;> omega) (by split <;> omega)
  have hn : n ≤ 60 := by
    have : (if most < many then most else many) ≤ 60 := by split <;> omega
    omega
  have hr : inR n = true := decide_eq_true (by omega)
  obtain ⟨env', S', e, xs, a, b, rfl, d3, gn, gb, gl⟩ := for_inv (G := gam g_law_some) (Φ := phi l_law_some) (t := .nm 4) (src := .rng [(.call 0 [(.var 0), (.op .add (.bi .min [(.var 1), (.var 2)]) (.int 1))] [] [])]) (body := blaw_some_1) (S := S) (S0 := S1)
    (fun k env S' => ∃ xs a b, env = [some (.ref n0), some (.int many), some (.int most), some (.lst (xs.map .int)), a, b] ∧ Dr S S' n0 ∧ xs.Nodup ∧ Bel many xs ∧ xs.length ≤ k) (ds := rngD 0 n.toNat) (env := [some (.ref n0), some (.int many), some (.int most), some (.lst []), none, none]) (by simp [e1, rngOf_1 hr])
    ⟨[], _, _, rfl, d1, List.nodup_nil, (fun x hx => (by cases hx)), Nat.le_refl _⟩ fun i d env S' hi ⟨xs, a, b, e, gr, gn, gb, gl⟩ => by
      subst e
      obtain ⟨x, S2, e2, d2, x0, x1⟩ := v_taken gr.row (m := many) h1 (by omega)
      have hil : i < n.toNat := by
        have := (List.getElem?_eq_some_iff.mp hi).1
        rwa [rngD_length] at this
      have hL : xs.length + 1 ≤ LIM := by
        have : LIM = 100000 := rfl
        omega
      have ka := add_lsts (xs := xs.map D.int) (ys := [D.int x]) (by rw [List.length_map]; exact hL)
      have kb := add_lsts (xs := xs.map D.int) (ys := []) (by rw [List.length_map]; exact Nat.le_of_succ_le hL)
      refine ⟨[some (.ref n0), some (.int many), some (.int most), some (.lst (xs.map .int)), some d, b], [some (.ref n0), some (.int many), some (.int most), some (.lst ((if x ∈ xs then xs else xs ++ [x]).map .int)), some d, some (.int x)], S2, by simp, ?_, if x ∈ xs then xs else xs ++ [x], _, _, rfl, gr.trans d2, ?_, ?_, ?_⟩
      · by_cases q : x ∈ xs
        · rw [List.append_nil] at kb
          simp [blaw_some_1, e2, LIM, q, rep_0, kb]
        · simp [blaw_some_1, e2, LIM, q, rep_1, ka]
      · by_cases q : x ∈ xs
        · rw [if_pos q]; exact gn
        · rw [if_neg q, List.nodup_append]
          exact ⟨gn, by simp, fun y hy z hz e => by rw [List.mem_singleton.mp hz] at e; exact q (e ▸ hy)⟩
      · by_cases q : x ∈ xs
        · rw [if_pos q]; exact gb
        · rw [if_neg q]
          intro y hy
          rcases List.mem_append.mp hy with z | z
          · exact gb y z
          · rw [List.mem_singleton.mp z]; exact ⟨x0, x1⟩
      · by_cases q : x ∈ xs
        · rw [if_pos q]; omega
        · rw [if_neg q, List.length_append, List.length_singleton]; omega
  have hl : xs.length ≤ 60 := by rw [rngD_length] at gl; omega
  refine ⟨sortI xs, S', ?_, d3, can_sort gn, fun x hx => gb x (mem_sort.mp hx), by rw [(sortI_perm xs).length_eq]; exact hl⟩
  have ks := sorted_ints (xs := xs) (by omega)
  unfold f_law_some b_law_some
  simp [LIM, e, ks]
theorem rng_mem {n : Nat} {d : D} (h : d ∈ rngD 0 n) : ∃ k : Nat, k < n ∧ d = .int (k : Int) := by
  unfold rngD at h
  obtain ⟨k, hk, rfl⟩ := List.mem_map.mp h
  exact ⟨k, List.mem_range.mp hk, by simp⟩
/-- what is put on to the list: a line of seams -/
theorem ints_of_rng (g : Int → Int) (n : Nat) : ∃ ys : List Int, ((rngD 0 n).filter fun _ => true).map (fun d => match d with | .int k => D.int (g k) | _ => .non) = ys.map .int ∧ ys.length = n := by
  refine ⟨(List.range n).map fun (k : Nat) => g (0 + (k : Int)), ?_, by simp⟩
  rw [List.filter_eq_self.mpr (fun _ _ => rfl)]
  unfold rngD
  rw [List.map_map, List.map_map]
  exact List.map_congr_left fun k _ => rfl
theorem v_lineA {S : Sto} {n0 : Nat} {r c m : Int} {zs : List Int} {a : Option D} (h : RowAt S n0) (hb : Bd r c) (hz : zs.length ≤ 90) :
    ∃ (zs' : List Int) (a' : Option D) (S' : Sto), evS (gam g_law_flips) (phi l_law_flips) (.ife (.cmp .eq (.call 1 [(.var 0), (.int 4)] [] []) (.int 0)) [.asg1 4 (.call 1 [(.var 0), (.ix (.var 1) (.int 0))] [] []), .asg1 3 (.op .add (.var 3) (.lc [6] (.nm 6) (.rng [(.ix (.var 1) (.int 1))]) (.bl true) xlaw_flips_1))] []) [some (.ref n0), some (pq r c), some (.int m), some (.lst (zs.map .int)), a, none, none] S =
      some (.nx [some (.ref n0), some (pq r c), some (.int m), some (.lst (zs'.map .int)), a', none, none] S') ∧ Dr S S' n0 ∧ zs'.length ≤ zs.length + 5 := by
  obtain ⟨q1, q2, q3, q4⟩ := hb
  obtain ⟨x, S1, e1, d1, _, _⟩ := v_taken h (m := 4) (by decide) (by decide)
  by_cases hx : x = 0
  · subst hx
    obtain ⟨l, S2, e2, d2, l0, l1⟩ := v_taken d1.row (m := r) (by omega) (by omega)
    obtain ⟨ys, ey, ly⟩ := ints_of_rng (fun k => 2 * (l * c + k)) c.toNat
    have hin : inR c = true := decide_eq_true (by omega)
    have sc : small c = true := decide_eq_true (by omega)
    have s2 : small 2 = true := by decide
    have hl : ys.length ≤ LIM := by have : LIM = 100000 := rfl; omega
    have lcv := lc_val (G := gam g_law_flips) (Φ := phi l_law_flips) (S := S2) (vs := [6]) (t := .nm 6) (src := .rng [(.ix (.var 1) (.int 1))]) (c := .bl true) (elt := xlaw_flips_1) (env := [some (.ref n0), some (pq r c), some (.int m), some (.lst (zs.map .int)), some (.int l), none, none]) (ds := rngD 0 c.toNat)
      (fun _ => true) (fun d => match d with | .int k => D.int (2 * (l * c + k)) | _ => .non) (ys.map .int) (by simp [rngOf_1 hin]) (fun d hd => by
        obtain ⟨k, _, rfl⟩ := rng_mem hd
        exact ⟨[some (.ref n0), some (pq r c), some (.int m), some (.lst (zs.map .int)), some (.int l), none, some (.int (k : Int))], by simp, by simp, fun _ => by simp [xlaw_flips_1, mul_int (.inr sc), mul_int (.inl s2)]⟩) ey (by rw [List.length_map]; exact hl)
    have ka := add_lsts (xs := zs.map D.int) (ys := ys.map D.int) (by rw [List.length_map, List.length_map]; have : LIM = 100000 := rfl; omega)
    refine ⟨zs ++ ys, some (.int l), S2, ?_, d1.trans d2, by rw [List.length_append]; omega⟩
    simp [e1, e2, lcv, ka]
  · refine ⟨zs, a, S1, ?_, d1, by omega⟩
    simp [e1, hx]
theorem v_lineB {S : Sto} {n0 : Nat} {r c m : Int} {zs : List Int} {a : Option D} (h : RowAt S n0) (hb : Bd r c) (hz : zs.length ≤ 90) :
    ∃ (zs' : List Int) (a' : Option D) (S' : Sto), evS (gam g_law_flips) (phi l_law_flips) (.ife (.cmp .eq (.call 1 [(.var 0), (.int 4)] [] []) (.int 0)) [.asg1 4 (.call 1 [(.var 0), (.ix (.var 1) (.int 1))] [] []), .asg1 3 (.op .add (.var 3) (.lc [6] (.nm 6) (.rng [(.ix (.var 1) (.int 0))]) (.bl true) xlaw_flips_2))] []) [some (.ref n0), some (pq r c), some (.int m), some (.lst (zs.map .int)), a, none, none] S =
      some (.nx [some (.ref n0), some (pq r c), some (.int m), some (.lst (zs'.map .int)), a', none, none] S') ∧ Dr S S' n0 ∧ zs'.length ≤ zs.length + 5 := by
  obtain ⟨q1, q2, q3, q4⟩ := hb
  obtain ⟨x, S1, e1, d1, _, _⟩ := v_taken h (m := 4) (by decide) (by decide)
  by_cases hx : x = 0
  · subst hx
    obtain ⟨l, S2, e2, d2, l0, l1⟩ := v_taken d1.row (m := c) (by omega) (by omega)
    obtain ⟨ys, ey, ly⟩ := ints_of_rng (fun k => 2 * (k * c + l) + 1) r.toNat
    have hin : inR r = true := decide_eq_true (by omega)
    have sc : small c = true := decide_eq_true (by omega)
    have s2 : small 2 = true := by decide
    have hl : ys.length ≤ LIM := by have : LIM = 100000 := rfl; omega
    have elB : ∀ k : Int, evE (gam g_law_flips) (phi l_law_flips) xlaw_flips_2 [some (.ref n0), some (pq r c), some (.int m), some (.lst (zs.map .int)), some (.int l), none, some (.int k)] S2 = some (.ok (.int (2 * (k * c + l) + 1)) S2) := fun k => by
      have f1 : evOp .mul (.int k) (.int c) = some (.int (k * c)) := mul_int (.inr sc)
      have f2 : evOp .add (.int (k * c)) (.int l) = some (.int (k * c + l)) := add_int _ _
      generalize k * c + l = z at f2
      have f3 : evOp .mul (.int 2) (.int z) = some (.int (2 * z)) := mul_int (.inl s2)
      have f4 : evOp .add (.int (2 * z)) (.int 1) = some (.int (2 * z + 1)) := add_int _ _
      generalize 2 * z + 1 = y at f4
      simp [xlaw_flips_2, f1, f2, f3, f4, -add_int]
    have lcv := lc_val (G := gam g_law_flips) (Φ := phi l_law_flips) (S := S2) (vs := [6]) (t := .nm 6) (src := .rng [(.ix (.var 1) (.int 0))]) (c := .bl true) (elt := xlaw_flips_2) (env := [some (.ref n0), some (pq r c), some (.int m), some (.lst (zs.map .int)), some (.int l), none, none]) (ds := rngD 0 r.toNat)
      (fun _ => true) (fun d => match d with | .int k => D.int (2 * (k * c + l) + 1) | _ => .non) (ys.map .int) (by simp [rngOf_1 hin]) (fun d hd => by
        obtain ⟨k, _, rfl⟩ := rng_mem hd
        exact ⟨[some (.ref n0), some (pq r c), some (.int m), some (.lst (zs.map .int)), some (.int l), none, some (.int (k : Int))], by simp, by simp, fun _ => elB (k : Int)⟩) ey (by rw [List.length_map]; exact hl)
    have ka := add_lsts (xs := zs.map D.int) (ys := ys.map D.int) (by rw [List.length_map, List.length_map]; have : LIM = 100000 := rfl; omega)
    refine ⟨zs ++ ys, some (.int l), S2, ?_, d1.trans d2, by rw [List.length_append]; omega⟩
    simp [e1, e2, lcv, ka]
  · refine ⟨zs, a, S1, ?_, d1, by omega⟩
    simp [e1, hx]
/-- numbers below n that pass a test -/
theorem filt_rng (p : Int → Bool) (n : Nat) : (((rngD 0 n).filter fun d => match d with | .int k => p k | _ => false).map id) = (((List.range n).map fun (k : Nat) => ((k : Int))).filter p).map .int := by
  rw [List.map_id]
  unfold rngD
  have e : (List.range n).map (fun (i : Nat) => D.int (0 + (i : Int))) = ((List.range n).map fun (k : Nat) => ((k : Int))).map D.int := by
    rw [List.map_map]
    exact List.map_congr_left fun k _ => by simp
  rw [e, List.filter_map]
  rfl
theorem filt_can (p : Int → Bool) (n : Nat) : Can (((List.range n).map fun (k : Nat) => ((k : Int))).filter p) := by
  refine List.Pairwise.filter _ ?_
  rw [List.pairwise_map]
  exact List.Pairwise.imp (fun h => by omega) List.pairwise_lt_range
theorem filt_mem {p : Int → Bool} {n : Nat} {k : Int} : k ∈ ((List.range n).map fun (k : Nat) => ((k : Int))).filter p ↔ (0 ≤ k ∧ k < n) ∧ p k = true := by
  rw [List.mem_filter, List.mem_map]
  constructor
  · rintro ⟨⟨i, hi, rfl⟩, h⟩
    have := List.mem_range.mp hi
    exact ⟨⟨by omega, by omega⟩, h⟩
  · rintro ⟨⟨h1, h2⟩, h⟩
    exact ⟨⟨k.toNat, List.mem_range.mpr (by omega), by omega⟩, h⟩
theorem filt_len (p : Int → Bool) (n : Nat) : (((List.range n).map fun (k : Nat) => ((k : Int))).filter p).length ≤ n := by
  refine Nat.le_trans (List.length_filter_le _ _) ?_
  simp
theorem v_flips {S : Sto} {n0 : Nat} {r c : Int} (h : RowAt S n0) (hb : Bd r c) : ∃ xs S', f_law_flips [.ref n0, pq r c] S = some (.ok (fl xs) S') ∧ Dr S S' n0 ∧ Fls r c xs := by
  obtain ⟨sr, sc, sm⟩ := hb.sm
  obtain ⟨m4, m25⟩ := hb.m
  have s2 : small 2 = true := by decide
  obtain ⟨t, S1, e1, d1, t0, t3⟩ := v_taken h (m := 3) (by decide) (by decide)
  obtain ⟨most, em, mo0, mo1⟩ : ∃ most : Int, evIx (.lst [.int 3, .int 6, .int (2 * (r * c))]) (.int t) = some (.int most) ∧ 0 ≤ most ∧ most ≤ 60 := by
    have : t = 0 ∨ t = 1 ∨ t = 2 := by omega
    rcases this with rfl | rfl | rfl
    · exact ⟨3, ix_lst (k := 0) rfl, by decide, by decide⟩
    · exact ⟨6, ix_lst (k := 1) rfl, by decide, by decide⟩
    · exact ⟨2 * (r * c), ix_lst (k := 2) rfl, by omega, by omega⟩
  obtain ⟨zs, S2, e2, d2, _, _, zl⟩ := v_some d1.row (many := 2 * (r * c)) (most := most) (by omega) (by omega) mo0 mo1
  obtain ⟨zs3, a3, S3, e3, d3, l3⟩ := v_lineA (m := r * c) (a := none) (zs := zs) d2.row hb (by omega)
  obtain ⟨zs4, a4, S4, e4, d4, l4⟩ := v_lineB (m := r * c) (a := a3) (zs := zs3) d3.row hb (by omega)
  have hin : inR (2 * (r * c)) = true := decide_eq_true (by omega)
  have lcv := lc_val (G := gam g_law_flips) (Φ := phi l_law_flips) (S := S4) (vs := [5]) (t := .nm 5) (src := .rng [(.op .mul (.int 2) (.var 2))]) (c := claw_flips_3) (elt := xlaw_flips_3) (env := [some (.ref n0), some (pq r c), some (.int (r * c)), some (.lst (zs4.map .int)), a4, none, none]) (ds := rngD 0 (2 * (r * c)).toNat)
    (fun d => match d with | .int k => decide ((zs4.count k : Int) % 2 = 1) | _ => false) id _ (by simp [rngOf_1 hin, mul_int (.inl s2)]) (fun d hd => by
      obtain ⟨k, _, rfl⟩ := rng_mem hd
      have km : evOp .mod (.int (zs4.count (k : Int) : Int)) (.int 2) = some (.int ((zs4.count (k : Int) : Int) % 2)) := mod_int (by decide)
      exact ⟨[some (.ref n0), some (pq r c), some (.int (r * c)), some (.lst (zs4.map .int)), a4, some (.int (k : Int)), none], by simp, by simp [claw_flips_3, km], fun _ => by simp [xlaw_flips_3]⟩) (filt_rng (fun k => decide ((zs4.count k : Int) % 2 = 1)) _) (by
      rw [List.length_map]
      have := filt_len (fun k => decide ((zs4.count k : Int) % 2 = 1)) (2 * (r * c)).toNat
      have : LIM = 100000 := rfl
      omega)
  have fx : Fls r c (((List.range (2 * (r * c)).toNat).map fun (k : Nat) => ((k : Int))).filter (fun k => decide ((zs4.count k : Int) % 2 = 1))) := ⟨filt_can _ _, fun x hx => by
    have := (filt_mem.mp hx).1
    omega⟩
  generalize ((List.range (2 * (r * c)).toNat).map fun (k : Nat) => ((k : Int))).filter (fun k => decide ((zs4.count k : Int) % 2 = 1)) = xs at fx lcv
  refine ⟨xs, S4, ?_, ((d1.trans d2).trans d3).trans d4, fx⟩
  have ms : evOp .mul (.int r) (.int c) = some (.int (r * c)) := mul_int (.inl sr)
  have ms2 : evOp .mul (.int 2) (.int (r * c)) = some (.int (2 * (r * c))) := mul_int (.inl s2)
  unfold f_law_flips b_law_flips
  simp [-s_ifeS, ms, ms2, LIM, e1, em, e2, e3, e4, lcv]
end Sf

/-! Sf.Alike: a value is alike itself. -/
namespace Sf
open PySem L2
theorem shp_str {s : Str} (h : PyData.strOk s = true) : shp (.str s) = true := by
  show (true && (PyData.canLay0 (.str s) && decide (PyData.depth (.str s) ≤ 64))) = true
  unfold PyData.canLay0 PyData.depth
  rw [h]; rfl
theorem eqv_refl_flat : ∀ d : D, (match d with | .non => True | .bl _ => True | .int _ => True | .str s => PyData.strOk s = true | _ => False) → evCmp .eq d d = some true
  | .non, _ => by
    show (if shp .non = true ∧ shp .non = true then some (PyData.eqv (toPy .non) (toPy .non)) else none) = _
    rw [if_pos ⟨shp_non, shp_non⟩]
    show some (PyData.eqv .none .none) = _
    unfold PyData.eqv; rfl
  | .bl b, _ => by
    show (if shp (.bl b) = true ∧ shp (.bl b) = true then some (PyData.eqv (toPy (.bl b)) (toPy (.bl b))) else none) = _
    rw [if_pos ⟨shp_bl b, shp_bl b⟩]
    show some (PyData.eqv (.bool b) (.bool b)) = _
    unfold PyData.eqv; simp
  | .int i, _ => by rw [eq_int]; simp
  | .str s, h => by
    show (if shp (.str s) = true ∧ shp (.str s) = true then some (PyData.eqv (toPy (.str s)) (toPy (.str s))) else none) = _
    rw [if_pos ⟨shp_str h, shp_str h⟩]
    show some (PyData.eqv (.str s) (.str s)) = _
    unfold PyData.eqv; simp
  | .tup _, h => h.elim
  | .lst _, h => h.elim
  | .scr _, h => h.elim
  | .dct _ _ _, h => h.elim
  | .ref _, h => h.elim
@[simp] theorem eq_bl (a b : Bool) : evCmp .eq (.bl a) (.bl b) = some (decide (a = b)) := by
  show (if shp (.bl a) = true ∧ shp (.bl b) = true then some (PyData.eqv (toPy (.bl a)) (toPy (.bl b))) else none) = _
  rw [if_pos ⟨shp_bl a, shp_bl b⟩]
  show some (PyData.eqv (.bool a) (.bool b)) = _
  unfold PyData.eqv
  cases a <;> cases b <;> rfl
@[simp] theorem ne_bl (a b : Bool) : evCmp .ne (.bl a) (.bl b) = some (xor a b) := by
  show (if shp (.bl a) = true ∧ shp (.bl b) = true then some (!PyData.eqv (toPy (.bl a)) (toPy (.bl b))) else none) = _
  rw [if_pos ⟨shp_bl a, shp_bl b⟩]
  show some (!PyData.eqv (.bool a) (.bool b)) = _
  unfold PyData.eqv
  cases a <;> cases b <;> rfl
/-! _law_alike: _law_one, _law_due, _law_k -/
def claw_alike_1 : E := (.not (.call 0 [(.ix (.var 0) (.var 2)), (.ix (.var 1) (.var 2))] [] []))
def xlaw_alike_1 : E := (.var 2)
def b_law_alike : List S :=
  [.ife (.bop true [(.isi [.tuple, .list] false (.var 0)), (.isi [.tuple, .list] false (.var 1))])
   [.ife (.bop false [(.cmp .ne (.isi [.tuple] true (.var 0)) (.isi [.tuple] true (.var 1))), (.cmp .ne (.bi .len [(.var 0)]) (.bi .len [(.var 1)]))])
    [.ret (.bl false)]
    [],
   .ret (.cmp .eq (.lc [2] (.nm 2) (.rng [(.bi .len [(.var 0)])]) claw_alike_1 xlaw_alike_1) (.lst []))]
   [],
  .ret (.bop true [(.cmp .eq (.var 0) (.var 1)), (.cmp .eq (.isi [.bool] true (.var 0)) (.isi [.bool] true (.var 1)))])]
def l_law_alike (φ : FnSem) : FnL := [(⟨"_law_alike", 2, [], []⟩, φ)]
@[simp] theorem ph_law_alike_0 (φ : FnSem) : phi (l_law_alike φ) 0 = φ := id rfl
def g_law_alike : GlL := []
def f_law_alike : Nat → FnSem
  | 0 => fun _ _ => none
  | n + 1 => runF (gam g_law_alike) (phi (l_law_alike (f_law_alike n))) 3 b_law_alike
def okA : Nat → D → Bool
  | 0, _ => false
  | n + 1, d => match d with
    | .tup ds => decide (ds.length ≤ 1000) && ds.all (okA n)
    | .lst ds => decide (ds.length ≤ 1000) && ds.all (okA n)
    | .non => true
    | .bl _ => true
    | .int _ => true
    | .str s => PyData.strOk s
    | _ => false
theorem lst_nil_eq : evCmp .eq (.lst []) (.lst []) = some true := by
  show (if shp (.lst []) = true ∧ shp (.lst []) = true then some (PyData.eqv (toPy (.lst [])) (toPy (.lst []))) else none) = _
  have h := shp_lsts []
  rw [List.map_nil] at h
  rw [if_pos ⟨h, h⟩]
  show some (PyData.eqv (.list (toPys [])) (.list (toPys []))) = _
  unfold PyData.eqv
  have := eqv_ints [] []
  rw [List.map_nil] at this
  rw [this]; rfl
theorem alike_lc (n : Nat) (S : Sto) (ih : ∀ d : D, okA n d = true → f_law_alike n [d, d] S = some (.ok (.bl true) S)) (ds : List D) (d : D) (hd : d = .tup ds ∨ d = .lst ds) (hl : ds.length ≤ 1000) (hx : ∀ x ∈ ds, okA n x = true) :
    evE (gam g_law_alike) (phi (l_law_alike (f_law_alike n))) (.lc [2] (.nm 2) (.rng [(.bi .len [(.var 0)])]) claw_alike_1 xlaw_alike_1) [some d, some d, none] S = some (.ok (.lst []) S) := by
  have hr : inR (ds.length : Int) = true := inR_nat (by omega)
  have h0 : evBi .len [d] = some (.int ds.length) := by rcases hd with rfl | rfl <;> rfl
  have h1 : vw S d = d := by rcases hd with rfl | rfl <;> rfl
  refine lc_val (p := fun _ => false) (g := id) [] (ds := rngD 0 ds.length) (by simp [h0, h1, rngOf_1 hr]) (fun e he => ?_) (by rw [List.filter_eq_nil_iff.mpr (fun _ _ => by simp)]; rfl) (Nat.zero_le _)
  obtain ⟨k, hk, rfl⟩ := rng_mem he
  have hix : evIx d (.int (k : Int)) = some ds[k] := by
    rcases hd with rfl | rfl
    · exact ix_tup (List.getElem?_eq_getElem hk)
    · exact ix_lst (List.getElem?_eq_getElem hk)
  have ih := ih ds[k] (hx _ (List.getElem_mem hk))
  exact ⟨[some d, some d, some (.int (k : Int))], by simp, by simp [claw_alike_1, h1, hix, ih], fun z => by cases z⟩
theorem v_alike (n : Nat) : ∀ (d : D) (S : Sto), okA n d = true → f_law_alike n [d, d] S = some (.ok (.bl true) S) := by
  induction n with
  | zero => intro d S h; cases h
  | succ n ih =>
    intro d S h
    have key := alike_lc n S (fun d hd => ih d S hd)
    unfold okA at h
    rw [f_law_alike]
    unfold b_law_alike
    cases d with
    | tup ds =>
      obtain ⟨q1, q2⟩ := Bool.and_eq_true_iff.mp h
      have k := key ds _ (.inl rfl) (of_decide_eq_true q1) (List.all_eq_true.mp q2)
      simp [k, LIM, lst_nil_eq]
    | lst ds =>
      obtain ⟨q1, q2⟩ := Bool.and_eq_true_iff.mp h
      have k := key ds _ (.inr rfl) (of_decide_eq_true q1) (List.all_eq_true.mp q2)
      simp [k, LIM, lst_nil_eq]
    | non => simp [eqv_refl_flat]
    | bl b => simp
    | int i => simp
    | str s => have z := eqv_refl_flat (.str s) h; simp [z]
    | _ => cases h
theorem okA_int (n : Nat) (i : Int) : okA (n + 1) (.int i) = true := rfl
theorem okA_fl {n : Nat} {xs : List Int} (h : xs.length ≤ 1000) : okA (n + 2) (fl xs) = true := by
  show (decide ((xs.map D.int).length ≤ 1000) && (xs.map D.int).all (okA (n + 1))) = true
  rw [List.length_map, decide_eq_true h, List.all_map, Bool.true_and]
  exact List.all_eq_true.mpr fun x _ => rfl
theorem okA_tup {n : Nat} {ds : List D} (h : ds.length ≤ 1000) (h2 : ∀ d ∈ ds, okA n d = true) : okA (n + 1) (.tup ds) = true := by
  show (decide (ds.length ≤ 1000) && ds.all (okA n)) = true
  rw [decide_eq_true h, List.all_eq_true.mpr h2]; rfl
theorem okA_lst {n : Nat} {ds : List D} (h : ds.length ≤ 1000) (h2 : ∀ d ∈ ds, okA n d = true) : okA (n + 1) (.lst ds) = true := by
  show (decide (ds.length ≤ 1000) && ds.all (okA n)) = true
  rw [decide_eq_true h, List.all_eq_true.mpr h2]; rfl
end Sf

/-! Sf.Own: laws' own counting of ends and seams. -/
namespace Sf
open PySem L2
/-! _law_ends: _law_board_here, _law_edge, _law_line, _law_column -/
def b_law_ends : List S :=
  [.par [2, 3] [(.op .fdiv (.op .fdiv (.var 1) (.int 2)) (.ix (.var 0) (.int 1))), (.op .mod (.op .fdiv (.var 1) (.int 2)) (.ix (.var 0) (.int 1)))],
  .ife (.cmp .eq (.op .mod (.var 1) (.int 2)) (.int 0))
   [.ret (.lst [(.op .fdiv (.var 1) (.int 2)), (.op .add (.op .mul (.var 2) (.ix (.var 0) (.int 1))) (.ix (.lst [(.op .add (.var 3) (.int 1)), (.int 0)]) (.bi .int [(.cmp .eq (.var 3) (.op .sub (.ix (.var 0) (.int 1)) (.int 1)))])))])]
   [],
  .ret (.lst [(.op .fdiv (.var 1) (.int 2)), (.op .add (.op .mul (.ix (.lst [(.op .add (.var 2) (.int 1)), (.int 0)]) (.bi .int [(.cmp .eq (.var 2) (.op .sub (.ix (.var 0) (.int 0)) (.int 1)))])) (.ix (.var 0) (.int 1))) (.var 3))])]
def l_law_ends : FnL := []
def g_law_ends : GlL := []
def f_law_ends : FnSem := runF (gam g_law_ends) (phi l_law_ends) 4 b_law_ends
/-! _law_crosses: _law_board_here, _law_edge, _law_line, _law_column -/
def b_law_crosses : List S :=
  [.par [2, 3] [(.op .fdiv (.op .fdiv (.var 1) (.int 2)) (.ix (.var 0) (.int 1))), (.op .mod (.op .fdiv (.var 1) (.int 2)) (.ix (.var 0) (.int 1)))],
  .ret (.tup [(.bi .int [(.bop true [(.cmp .eq (.op .mod (.var 1) (.int 2)) (.int 0)), (.cmp .eq (.var 3) (.op .sub (.ix (.var 0) (.int 1)) (.int 1)))])]), (.bi .int [(.bop true [(.cmp .eq (.op .mod (.var 1) (.int 2)) (.int 1)), (.cmp .eq (.var 2) (.op .sub (.ix (.var 0) (.int 0)) (.int 1)))])])])]
def l_law_crosses : FnL := []
def g_law_crosses : GlL := []
def f_law_crosses : FnSem := runF (gam g_law_crosses) (phi l_law_crosses) 4 b_law_crosses
/-! _law_lit: _law_board_here, _law_flips_here, _law_ends_here, _law_edge, _law_site -/
def blaw_lit_1 : List S := [.asg1 2 (.op .add (.var 2) (.call 0 [(.var 0), (.var 3)] [] []))]
def claw_lit_1 : E := (.cmp .eq (.op .mod (.mt .count (.var 2) [(.var 4)]) (.int 2)) (.int 1))
def xlaw_lit_1 : E := (.var 4)
def b_law_lit : List S :=
  [.asg1 2 (.lst []),
  .for_ (.nm 3) (.seq (.var 1)) blaw_lit_1,
  .ret (.bi .tuple [(.lc [4] (.nm 4) (.rng [(.op .mul (.ix (.var 0) (.int 0)) (.ix (.var 0) (.int 1)))]) claw_lit_1 xlaw_lit_1)])]
def l_law_lit : FnL := [(⟨"_law_ends", 2, [], []⟩, f_law_ends)]
@[simp] theorem ph_law_lit_0 : phi l_law_lit 0 = f_law_ends := id rfl
def g_law_lit : GlL := []
def f_law_lit : FnSem := runF (gam g_law_lit) (phi l_law_lit) 5 b_law_lit
/-! _law_seams: _law_board_here, _law_flips_here, _law_pairs, _law_edge, _law_pair -/
def xlaw_seams_1 : E := (.call 0 [(.var 0), (.var 3)] [] [])
def xlaw_seams_2 : E := (.ix (.var 4) (.int 0))
def xlaw_seams_3 : E := (.ix (.var 4) (.int 1))
def b_law_seams : List S :=
  [.asg1 2 (.lc [3] (.nm 3) (.seq (.var 1)) (.bl true) xlaw_seams_1),
  .ret (.tup [(.op .mod (.bi .sum [(.lc [4] (.nm 4) (.seq (.var 2)) (.bl true) xlaw_seams_2)]) (.int 2)), (.op .mod (.bi .sum [(.lc [4] (.nm 4) (.seq (.var 2)) (.bl true) xlaw_seams_3)]) (.int 2))])]
def l_law_seams : FnL := [(⟨"_law_crosses", 2, [], []⟩, f_law_crosses)]
@[simp] theorem ph_law_seams_0 : phi l_law_seams 0 = f_law_crosses := id rfl
def g_law_seams : GlL := []
def f_law_seams : FnSem := runF (gam g_law_seams) (phi l_law_seams) 5 b_law_seams
theorem own_right {r c s : Int} (h : Bd r c) (h0 : 0 ≤ s) (h1 : s < r * c) : rightI c s = s / c * c + (if s % c = c - 1 then 0 else s % c + 1) := by
  obtain ⟨hr, hc⟩ := h.cases
  rcases hr with rfl | rfl | rfl | rfl <;> rcases hc with rfl | rfl | rfl | rfl <;> (simp only [Int.reduceMul] at h1; simp only [rightI]; split <;> omega)
theorem own_below {r c s : Int} (h : Bd r c) (h0 : 0 ≤ s) (h1 : s < r * c) : belowI r c s = (if s / c = r - 1 then 0 else s / c + 1) * c + s % c := by
  obtain ⟨hr, hc⟩ := h.cases
  rcases hr with rfl | rfl | rfl | rfl <;> rcases hc with rfl | rfl | rfl | rfl <;> (simp only [Int.reduceMul] at h1; simp only [belowI]; split <;> omega)
theorem pick_ix {p : Prop} [Decidable p] (a b : Int) : evIx (.lst [.int a, .int b]) (.int (if p then 1 else 0)) = some (.int (if p then b else a)) := by
  by_cases h : p
  · rw [if_pos h, if_pos h]; exact ix1l _ _ _
  · rw [if_neg h, if_neg h]; exact ix0l _ _
theorem v_lends {S : Sto} {r c e : Int} (h : Bd r c) (h0 : 0 ≤ e) (h1 : e < 2 * (r * c)) : f_law_ends [pq r c, .int e] S = some (.ok (.lst ([e / 2, otherI r c e].map .int)) S) := by
  have hs := h.sm
  have c0 : 0 < c := by have := h.c2; omega
  have c1 : c < 1073741824 := by have := h.c5; omega
  have k1 : ∀ i : Int, evOp .fdiv (.int i) (.int 2) = some (.int (i / 2)) := fun i => fdiv_int (by decide)
  have k2 : ∀ i : Int, evOp .mod (.int i) (.int 2) = some (.int (i % 2)) := fun i => mod_int (by decide)
  have k3 : ∀ i : Int, evOp .fdiv (.int i) (.int c) = some (.int (i / c)) := fun i => fdiv_int ⟨c0, c1⟩
  have k4 : ∀ i : Int, evOp .mod (.int i) (.int c) = some (.int (i % c)) := fun i => mod_int c0
  have k5 : ∀ i : Int, evOp .mul (.int i) (.int c) = some (.int (i * c)) := fun i => mul_int (.inr hs.2.1)
  have e1 := own_right h (s := e / 2) (by omega) (by omega)
  have e2 := own_below h (s := e / 2) (by omega) (by omega)
  unfold f_law_ends b_law_ends otherI
  by_cases q : e % 2 = 0
  · simp [k1, k2, k3, k4, k5, q, LIM, pick_ix, e1]
  · simp [k1, k2, k3, k4, k5, q, LIM, pick_ix, e2]
theorem v_lcrosses {S : Sto} {r c e : Int} (h : Bd r c) : f_law_crosses [pq r c, .int e] S = some (.ok (pq (b2 (seamA c e)) (b2 (seamB r c e))) S) := by
  have c0 : 0 < c := by have := h.c2; omega
  have c1 : c < 1073741824 := by have := h.c5; omega
  have k1 : ∀ i : Int, evOp .fdiv (.int i) (.int 2) = some (.int (i / 2)) := fun i => fdiv_int (by decide)
  have k2 : ∀ i : Int, evOp .mod (.int i) (.int 2) = some (.int (i % 2)) := fun i => mod_int (by decide)
  have k3 : ∀ i : Int, evOp .fdiv (.int i) (.int c) = some (.int (i / c)) := fun i => fdiv_int ⟨c0, c1⟩
  have k4 : ∀ i : Int, evOp .mod (.int i) (.int c) = some (.int (i % c)) := fun i => mod_int c0
  unfold f_law_crosses b_law_crosses seamA seamB b2
  by_cases q : e % 2 = 0
  · have q1 : ¬ e % 2 = 1 := by omega
    simp [k1, k2, k3, k4, q, LIM]
  · have q1 : e % 2 = 1 := by omega
    simp [k1, k2, k3, k4, q1, LIM]
theorem count_pair {a b k : Int} (h : a ≠ b) : ([a, b] : List Int).count k = if k ∈ ([a, b] : List Int) then 1 else 0 := by
  by_cases h1 : k = a
  · have h2 : ¬ b = k := fun z => h (z.trans h1).symm
    rw [if_pos (by simp [h1])]
    simp [List.count_cons, h1, h2, Ne.symm h]
  · by_cases h2 : k = b
    · rw [if_pos (by simp [h2])]
      simp [List.count_cons, h2, h]
    · rw [if_neg (by simp [h1, h2])]
      simp [List.count_cons, Ne.symm h1, Ne.symm h2]
def endsL (r c : Int) (xs : List Int) : List Int := xs.flatMap fun e => [e / 2, otherI r c e]
theorem count_par {r c k : Int} : ∀ {xs : List Int}, (∀ e ∈ xs, ([e / 2, otherI r c e] : List Int).Nodup) → decide (((endsL r c xs).count k : Int) % 2 = 1) = par (fun e => decide (k ∈ ([e / 2, otherI r c e] : List Int))) xs
  | [], _ => rfl
  | e :: xs, h => by
    have ih := count_par (k := k) (xs := xs) fun x hx => h x (List.mem_cons_of_mem _ hx)
    have hn := h e List.mem_cons_self
    have hne : e / 2 ≠ otherI r c e := by simpa using hn
    unfold endsL at ih ⊢
    rw [List.flatMap_cons, List.count_append, count_pair hne, par, ← ih]
    by_cases q : k ∈ ([e / 2, otherI r c e] : List Int)
    · rw [if_pos q, decide_eq_true q, Bool.true_xor]
      rw [Bool.eq_iff_iff]
      simp
      omega
    · rw [if_neg q, decide_eq_false q, Bool.false_xor, Nat.zero_add]
theorem endsL_len (r c : Int) (xs : List Int) : (endsL r c xs).length = 2 * xs.length := by
  unfold endsL
  induction xs with
  | nil => rfl
  | cons x xs ih => rw [List.flatMap_cons, List.length_append, ih]; simp; omega
theorem endsL_take {r c : Int} {xs : List Int} {i : Nat} {x : Int} (h : xs[i]? = some x) : endsL r c (xs.take (i + 1)) = endsL r c (xs.take i) ++ [x / 2, otherI r c x] := by
  unfold endsL
  rw [List.take_succ, h, List.flatMap_append]; simp
theorem v_llit {S : Sto} {r c : Int} {xs : List Int} (h : Bd r c) (f : Fls r c xs) : f_law_lit [pq r c, fl xs] S = some (.ok (fl (litI r c xs)) S) := by
  have hl := f.len h
  obtain ⟨m4, m25⟩ := h.m
  obtain ⟨sr, sc, sm⟩ := h.sm
  have hL : LIM = 100000 := rfl
  obtain ⟨env', S', e, ⟨a, rfl⟩, rfl⟩ := for_inv (G := gam g_law_lit) (Φ := phi l_law_lit) (t := .nm 3) (src := .seq (.var 1)) (body := blaw_lit_1) (S := S) (S0 := S)
    (fun k env S' => (∃ a, env = [some (pq r c), some (fl xs), some (.lst ((endsL r c (xs.take k)).map .int)), a, none]) ∧ S' = S) (ds := xs.map .int) (env := [some (pq r c), some (fl xs), some (.lst []), none, none]) (by simp) ⟨⟨_, rfl⟩, rfl⟩ fun i d env S' hi ⟨⟨a, e⟩, e2⟩ => by
      obtain ⟨x, hx, rfl⟩ := map_get hi
      subst e; subst e2
      refine ⟨[some (pq r c), some (fl xs), some (.lst ((endsL r c (xs.take i)).map .int)), some (.int x), none], [some (pq r c), some (fl xs), some (.lst ((endsL r c (xs.take (i + 1))).map .int)), some (.int x), none], S', by simp, ?_, ⟨_, rfl⟩, rfl⟩
      have hxb := f.bel x (List.mem_of_getElem? hx)
      have hi2 := (List.getElem?_eq_some_iff.mp hx).1
      have ka := add_lsts (xs := (endsL r c (xs.take i)).map D.int) (ys := ([x / 2, otherI r c x].map D.int)) (by rw [List.length_map, List.length_map, endsL_len, List.length_take]; simp; omega)
      rw [← List.map_append, ← endsL_take hx] at ka
      have ve := fun S => v_lends (S := S) h hxb.1 hxb.2
      rw [blaw_lit_1]
      simp only [ss_consE, s_asg1, e_op, e_var, e_call, l_cons, l_nil, slotAt_eq, setV_eq]
      simp [ve, -List.map_cons, ka]
  have el : xs.take (xs.map D.int).length = xs := by rw [List.length_map, List.take_length]
  rw [el] at e
  have hin : inR (r * c) = true := decide_eq_true (by omega)
  have ms : evOp .mul (.int r) (.int c) = some (.int (r * c)) := mul_int (.inl sr)
  have lcv := lc_val (G := gam g_law_lit) (Φ := phi l_law_lit) (S := S') (vs := [4]) (t := .nm 4) (src := .rng [(.op .mul (.ix (.var 0) (.int 0)) (.ix (.var 0) (.int 1)))]) (c := claw_lit_1) (elt := xlaw_lit_1) (env := [some (pq r c), some (fl xs), some (.lst ((endsL r c xs).map .int)), a, none]) (ds := rngD 0 (r * c).toNat)
    (fun d => match d with | .int k => decide (((endsL r c xs).count k : Int) % 2 = 1) | _ => false) id _ (by simp [ms, rngOf_1 hin]) (fun d hd => by
      obtain ⟨k, _, rfl⟩ := rng_mem hd
      have km : evOp .mod (.int ((endsL r c xs).count (k : Int) : Int)) (.int 2) = some (.int (((endsL r c xs).count (k : Int) : Int) % 2)) := mod_int (by decide)
      exact ⟨[some (pq r c), some (fl xs), some (.lst ((endsL r c xs).map .int)), a, some (.int (k : Int))], by simp, by simp [claw_lit_1, km], fun _ => by simp [xlaw_lit_1]⟩) (filt_rng (fun k => decide (((endsL r c xs).count k : Int) % 2 = 1)) _) (by
      rw [List.length_map]
      have := filt_len (fun k => decide (((endsL r c xs).count k : Int) % 2 = 1)) (r * c).toNat
      omega)
  have eq : ((List.range (r * c).toNat).map fun (k : Nat) => ((k : Int))).filter (fun k => decide (((endsL r c xs).count k : Int) % 2 = 1)) = litI r c xs := dec_ext (filt_can _ _) (lit_can h f.bel) fun k => by
    rw [lit_mem h f.bel, ← count_par (fun e he => (ends_ok h (f.bel e he).1 (f.bel e he).2).2), Bool.eq_iff_iff, decide_eq_true_eq, filt_mem]
    refine ⟨fun z => z.2, fun z => ⟨?_, z⟩⟩
    rw [count_par (fun e he => (ends_ok h (f.bel e he).1 (f.bel e he).2).2), ← lit_mem h f.bel, decide_eq_true_eq] at z
    have := lit_bel h xs [] (fun x hx => by cases hx) f.bel k z
    omega
  rw [eq] at lcv
  unfold f_law_lit b_law_lit
  simp [LIM, e, lcv]
theorem sum_ints (xs : List Int) : evBi .sum [.lst (xs.map .int)] = some (.int xs.sum) := by
  show (toInts _).map _ = _
  rw [toInts_map]; rfl
theorem sum_par (p : Int → Bool) : ∀ xs : List Int, (xs.map fun e => b2 (p e)).sum % 2 = b2 (par p xs)
  | [] => rfl
  | x :: xs => by
    have ih := sum_par p xs
    rw [List.map_cons, List.sum_cons, par]
    cases h1 : p x <;> cases h2 : par p xs <;> rw [h2] at ih <;> simp [b2] at ih ⊢ <;> omega
theorem filter_true {α : Type} (xs : List α) : xs.filter (fun _ => true) = xs := List.filter_eq_self.mpr fun _ _ => rfl
theorem v_lseams {S : Sto} {r c : Int} {xs : List Int} (h : Bd r c) (hl : xs.length ≤ 1000) : f_law_seams [pq r c, fl xs] S = some (.ok (seamsI r c xs) S) := by
  have hL : LIM = 100000 := rfl
  have l1 := lc_val (G := gam g_law_seams) (Φ := phi l_law_seams) (S := S) (vs := [3]) (t := .nm 3) (src := .seq (.var 1)) (c := .bl true) (elt := xlaw_seams_1) (env := [some (pq r c), some (fl xs), none, none, none]) (ds := xs.map .int)
    (fun _ => true) (fun d => match d with | .int e => pq (b2 (seamA c e)) (b2 (seamB r c e)) | _ => .non) (xs.map fun e => pq (b2 (seamA c e)) (b2 (seamB r c e))) (by simp) (fun d hd => by
      obtain ⟨e, _, rfl⟩ := List.mem_map.mp hd
      exact ⟨[some (pq r c), some (fl xs), none, some (.int e), none], by simp, by simp, fun _ => by simp [xlaw_seams_1, v_lcrosses h]⟩) (by rw [filter_true, List.map_map]; rfl) (by rw [List.length_map]; omega)
  have l2 := lc_val (G := gam g_law_seams) (Φ := phi l_law_seams) (S := S) (vs := [4]) (t := .nm 4) (src := .seq (.var 2)) (c := .bl true) (elt := xlaw_seams_2) (env := [some (pq r c), some (fl xs), some (.lst (xs.map fun e => pq (b2 (seamA c e)) (b2 (seamB r c e)))), none, none]) (ds := xs.map fun e => pq (b2 (seamA c e)) (b2 (seamB r c e)))
    (fun _ => true) (fun d => match d with | .tup (x :: _) => x | _ => .non) ((xs.map fun e => b2 (seamA c e)).map .int) (by simp) (fun d hd => by
      obtain ⟨e, _, rfl⟩ := List.mem_map.mp hd
      exact ⟨[some (pq r c), some (fl xs), some (.lst (xs.map fun e => pq (b2 (seamA c e)) (b2 (seamB r c e)))), none, some (pq (b2 (seamA c e)) (b2 (seamB r c e)))], by simp, by simp, fun _ => by simp [xlaw_seams_2]⟩) (by rw [filter_true, List.map_map, List.map_map]; rfl) (by rw [List.length_map, List.length_map]; omega)
  have l3 := lc_val (G := gam g_law_seams) (Φ := phi l_law_seams) (S := S) (vs := [4]) (t := .nm 4) (src := .seq (.var 2)) (c := .bl true) (elt := xlaw_seams_3) (env := [some (pq r c), some (fl xs), some (.lst (xs.map fun e => pq (b2 (seamA c e)) (b2 (seamB r c e)))), none, none]) (ds := xs.map fun e => pq (b2 (seamA c e)) (b2 (seamB r c e)))
    (fun _ => true) (fun d => match d with | .tup [_, x] => x | _ => .non) ((xs.map fun e => b2 (seamB r c e)).map .int) (by simp) (fun d hd => by
      obtain ⟨e, _, rfl⟩ := List.mem_map.mp hd
      exact ⟨[some (pq r c), some (fl xs), some (.lst (xs.map fun e => pq (b2 (seamA c e)) (b2 (seamB r c e)))), none, some (pq (b2 (seamA c e)) (b2 (seamB r c e)))], by simp, by simp, fun _ => by simp [xlaw_seams_3]⟩) (by rw [filter_true, List.map_map, List.map_map]; rfl) (by rw [List.length_map, List.length_map]; omega)
  have k2 : ∀ i : Int, evOp .mod (.int i) (.int 2) = some (.int (i % 2)) := fun i => mod_int (by decide)
  have s1 := sum_ints (xs.map fun e => b2 (seamA c e))
  have s2 := sum_ints (xs.map fun e => b2 (seamB r c e))
  have p1 := sum_par (seamA c) xs
  have p2 := sum_par (seamB r c) xs
  generalize (xs.map fun e => b2 (seamA c e)) = ys at l2 s1 p1
  generalize (xs.map fun e => b2 (seamB r c e)) = zs at l3 s2 p2
  generalize (xs.map fun e => pq (b2 (seamA c e)) (b2 (seamB r c e))) = ps at l1 l2 l3
  unfold f_law_seams b_law_seams seamsI
  simp [LIM, l1, l2, l3, s1, s2, k2, p1, p2]
end Sf

/-! Sf.Pot: flips that light nothing and cross no seam are led to none by faces. -/
namespace Sf
open PySem L2
/-- what says for each face whether it is turned: at each edge two faces differ just if it is flipped -/
structure Pot (r c : Int) (xs : List Int) (p : Int → Bool) : Prop where
  right : ∀ s, 0 ≤ s → s < r * c → p (rightI c s) = xor (p s) (decide (2 * rightI c s + 1 ∈ xs))
  below : ∀ s, 0 ≤ s → s < r * c → p (belowI r c s) = xor (p s) (decide (2 * belowI r c s ∈ xs))
def leftI (c s : Int) : Int := s / c * c + (s % c + c - 1) % c
def aboveI (r c s : Int) : Int := (s + (r * c - c)) % (r * c)
structure Back (r c s : Int) : Prop where
  l0 : 0 ≤ leftI c s
  l1 : leftI c s < r * c
  ln : leftI c s ≠ s
  a0 : 0 ≤ aboveI r c s
  a1 : aboveI r c s < r * c
  an : aboveI r c s ≠ s
  rl : rightI c (leftI c s) = s
  lr : leftI c (rightI c s) = s
  ba : belowI r c (aboveI r c s) = s
  ab : aboveI r c (belowI r c s) = s
theorem back_ok {r c s : Int} (h : Bd r c) (h0 : 0 ≤ s) (h1 : s < r * c) : Back r c s := by
  obtain ⟨hr, hc⟩ := h.cases
  rcases hr with rfl | rfl | rfl | rfl <;> rcases hc with rfl | rfl | rfl | rfl <;> (simp only [Int.reduceMul] at h1; constructor <;> (simp only [rightI, belowI, leftI, aboveI, Int.reduceMul, Int.reduceSub]; omega))
/-- the edge at both -/
theorem Pot.edge {r c : Int} {xs : List Int} {p : Int → Bool} (h : Bd r c) (P : Pot r c xs p) {e f g : Int} (f0 : 0 ≤ f) (f1 : f < r * c) (g0 : 0 ≤ g) (g1 : g < r * c) (hf : e ∈ faceI r c f) (hg : e ∈ faceI r c g) (n : f ≠ g) : p g = xor (p f) (decide (e ∈ xs)) := by
  have bf := back_ok h f0 f1
  have bg := back_ok h g0 g1
  have rf := P.right f f0 f1; have rg := P.right g g0 g1
  have lf := P.below f f0 f1; have lg := P.below g g0 g1
  unfold faceI at hf hg
  simp only [List.mem_cons, List.not_mem_nil, or_false] at hf hg
  have inj1 : ∀ {a b : Int}, rightI c f = rightI c g → f = g := fun {a b} z => by
    have := congrArg (leftI c) z
    rw [bf.lr, bg.lr] at this; exact this
  have inj2 : ∀ {a b : Int}, belowI r c f = belowI r c g → f = g := fun {a b} z => by
    have := congrArg (aboveI r c) z
    rw [bf.ab, bg.ab] at this; exact this
  have x3 : ∀ a b d : Bool, a = xor b d → b = xor a d := fun a b d => by cases a <;> cases b <;> cases d <;> simp
  rcases hf with rfl | rfl | rfl | rfl <;> rcases hg with z | z | z | z
  · exact (n (by omega)).elim
  · omega
  · have e1 : f = belowI r c g := by omega
    rw [← e1] at lg
    exact x3 _ _ _ lg
  · omega
  · omega
  · exact (n (by omega)).elim
  · omega
  · have e1 : f = rightI c g := by omega
    rw [← e1] at rg
    exact x3 _ _ _ rg
  · have e1 : g = belowI r c f := by omega
    rw [e1]; exact lf
  · omega
  · exact (n (inj2 (a := 0) (b := 0) (by omega))).elim
  · omega
  · omega
  · have e1 : g = rightI c f := by omega
    rw [e1]; exact rf
  · omega
  · exact (n (inj1 (a := 0) (b := 0) (by omega))).elim
/-! the faces that are said lead there -/
theorem par_swap : ∀ {xs ls : List Int}, xs.Nodup → ls.Nodup → par (fun e => decide (e ∈ ls)) xs = par (fun e => decide (e ∈ xs)) ls
  | [], ls, _, _ => by
    have : ∀ l : List Int, par (fun e => decide (e ∈ ([] : List Int))) l = false := fun l => by
      induction l with
      | nil => rfl
      | cons a l ih => rw [par, ih]; rfl
    rw [this]; rfl
  | x :: xs, ls, h1, h2 => by
    rw [par, par_swap (List.nodup_cons.mp h1).2 h2]
    have hx := (List.nodup_cons.mp h1).1
    clear h1
    induction ls with
    | nil => rfl
    | cons a l ih =>
      have ih := ih (List.nodup_cons.mp h2).2
      have ha := (List.nodup_cons.mp h2).1
      rw [par, par, ← ih]
      by_cases q : x = a
      · subst q
        have e1 : decide (x ∈ x :: l) = true := decide_eq_true List.mem_cons_self
        have e2 : decide (x ∈ l) = false := decide_eq_false ha
        have e3 : decide (x ∈ xs) = false := decide_eq_false hx
        have e4 : decide (x ∈ x :: xs) = true := decide_eq_true List.mem_cons_self
        rw [e1, e2, e3, e4]
      · have e1 : decide (x ∈ a :: l) = decide (x ∈ l) := by simp [q]
        have e2 : decide (a ∈ x :: xs) = decide (a ∈ xs) := by simp [Ne.symm q]
        rw [e1, e2]
        cases decide (x ∈ l) <;> cases decide (a ∈ xs) <;> cases par (fun e => decide (e ∈ xs)) l <;> rfl
theorem mem_face {r c e f : Int} : e ∈ faceI r c f ↔ e = 2 * f ∨ e = 2 * f + 1 ∨ e = 2 * belowI r c f ∨ e = 2 * rightI c f + 1 := by
  unfold faceI; simp
theorem pot_lead {r c : Int} {xs ys : List Int} {p : Int → Bool} (h : Bd r c) (fx : Fls r c xs) (fy : Fls r c ys) (P : Pot r c (symI xs ys) p) : turnI r c xs ((rngI (r * c).toNat).filter p) = ys := by
  have hb : Bel (r * c) ((rngI (r * c).toNat).filter p) := fun k hk => by have := mem_rngI.mp (List.mem_filter.mp hk).1; omega
  have hnd : ((rngI (r * c).toNat).filter p).Nodup := (can_rngI _).nd.sublist List.filter_sublist
  have mf : ∀ f : Int, 0 ≤ f → f < r * c → decide (f ∈ (rngI (r * c).toNat).filter p) = p f := fun f f0 f1 => by
    rw [Bool.eq_iff_iff, decide_eq_true_eq, List.mem_filter, mem_rngI]
    exact ⟨fun z => z.2, fun z => ⟨⟨f0, by omega⟩, z⟩⟩
  refine dec_ext (turn_fls h fx hb).can fy.can fun k => ?_
  rw [turn_mem]
  have hs : decide (k ∈ symI xs ys) = xor (decide (k ∈ xs)) (decide (k ∈ ys)) := dec_sym
  have key : par (fun f => decide (k ∈ faceI r c f)) ((rngI (r * c).toNat).filter p) = decide (k ∈ symI xs ys) := by
    by_cases q : 0 ≤ k ∧ k < 2 * (r * c)
    · obtain ⟨k0, k1⟩ := q
      have hs0 : 0 ≤ k / 2 := by omega
      have hs1 : k / 2 < r * c := by omega
      have b := back_ok h hs0 hs1
      rcases (show k % 2 = 0 ∨ k % 2 = 1 by omega) with q2 | q2
      · have ls : ∀ f ∈ (rngI (r * c).toNat).filter p, decide (k ∈ faceI r c f) = decide (f ∈ ([k / 2, aboveI r c (k / 2)] : List Int)) := fun f hf => by
          have f0 := hb f hf
          have bf := back_ok h f0.1 f0.2
          rw [Bool.eq_iff_iff, decide_eq_true_eq, decide_eq_true_eq, mem_face]
          simp only [List.mem_cons, List.not_mem_nil, or_false]
          constructor
          · rintro (z | z | z | z)
            · left; omega
            · omega
            · right
              have : k / 2 = belowI r c f := by omega
              rw [this, bf.ab]
            · omega
          · rintro (z | z)
            · left; omega
            · right; right; left
              rw [z, b.ba]; omega
        have hn2 : ([k / 2, aboveI r c (k / 2)] : List Int).Nodup := by simp [Ne.symm b.an]
        have e1 : par (fun f => decide (k ∈ faceI r c f)) ((rngI (r * c).toNat).filter p) = par (fun f => decide (f ∈ ([k / 2, aboveI r c (k / 2)] : List Int))) ((rngI (r * c).toNat).filter p) := by
          have : ∀ l : List Int, (∀ f ∈ l, decide (k ∈ faceI r c f) = decide (f ∈ ([k / 2, aboveI r c (k / 2)] : List Int))) → par (fun f => decide (k ∈ faceI r c f)) l = par (fun f => decide (f ∈ ([k / 2, aboveI r c (k / 2)] : List Int))) l := fun l hl => by
            induction l with
            | nil => rfl
            | cons a l ih => rw [par, par, hl a List.mem_cons_self, ih fun f z => hl f (List.mem_cons_of_mem _ z)]
          exact this _ ls
        rw [e1, par_swap hnd hn2]
        simp only [par]
        rw [mf _ hs0 hs1, mf _ b.a0 b.a1]
        have := P.below (aboveI r c (k / 2)) b.a0 b.a1
        rw [b.ba, show 2 * (k / 2) = k by omega] at this
        rw [this]
        cases p (aboveI r c (k / 2)) <;> cases decide (k ∈ symI xs ys) <;> rfl
      · have ls : ∀ f ∈ (rngI (r * c).toNat).filter p, decide (k ∈ faceI r c f) = decide (f ∈ ([k / 2, leftI c (k / 2)] : List Int)) := fun f hf => by
          have f0 := hb f hf
          have bf := back_ok h f0.1 f0.2
          rw [Bool.eq_iff_iff, decide_eq_true_eq, decide_eq_true_eq, mem_face]
          simp only [List.mem_cons, List.not_mem_nil, or_false]
          constructor
          · rintro (z | z | z | z)
            · omega
            · left; omega
            · omega
            · right
              have : k / 2 = rightI c f := by omega
              rw [this, bf.lr]
          · rintro (z | z)
            · right; left; omega
            · right; right; right
              rw [z, b.rl]; omega
        have hn2 : ([k / 2, leftI c (k / 2)] : List Int).Nodup := by simp [Ne.symm b.ln]
        have e1 : par (fun f => decide (k ∈ faceI r c f)) ((rngI (r * c).toNat).filter p) = par (fun f => decide (f ∈ ([k / 2, leftI c (k / 2)] : List Int))) ((rngI (r * c).toNat).filter p) := by
          have : ∀ l : List Int, (∀ f ∈ l, decide (k ∈ faceI r c f) = decide (f ∈ ([k / 2, leftI c (k / 2)] : List Int))) → par (fun f => decide (k ∈ faceI r c f)) l = par (fun f => decide (f ∈ ([k / 2, leftI c (k / 2)] : List Int))) l := fun l hl => by
            induction l with
            | nil => rfl
            | cons a l ih => rw [par, par, hl a List.mem_cons_self, ih fun f z => hl f (List.mem_cons_of_mem _ z)]
          exact this _ ls
        rw [e1, par_swap hnd hn2]
        simp only [par]
        rw [mf _ hs0 hs1, mf _ b.l0 b.l1]
        have := P.right (leftI c (k / 2)) b.l0 b.l1
        rw [b.rl, show 2 * (k / 2) + 1 = k by omega] at this
        rw [this]
        cases p (leftI c (k / 2)) <;> cases decide (k ∈ symI xs ys) <;> rfl
    · have : par (fun f => decide (k ∈ faceI r c f)) ((rngI (r * c).toNat).filter p) = false := par_false fun f hf => decide_eq_false fun z => q ((face_ok h (hb f hf).1 (hb f hf).2).1 k z)
      rw [this, decide_eq_false fun z => q ((fx.sym fy).bel k z)]
  rw [key, hs]
  cases decide (k ∈ xs) <;> cases decide (k ∈ ys) <;> rfl
/-- faces that were turned -/
theorem pot_turn {r c : Int} {xs fs : List Int} (h : Bd r c) (fx : Fls r c xs) (g : Fcs r c fs) (q : Bool) : Pot r c (symI xs (turnI r c xs fs)) (fun f => xor (decide (f ∈ fs)) q) := by
  have tm : ∀ k, decide (k ∈ symI xs (turnI r c xs fs)) = par (fun f => decide (k ∈ faceI r c f)) fs := fun k => by
    rw [dec_sym, turn_mem]
    cases decide (k ∈ xs) <;> cases par (fun f => decide (k ∈ faceI r c f)) fs <;> rfl
  have two : ∀ (k a b : Int), a ≠ b → (∀ f ∈ fs, k ∈ faceI r c f ↔ f = a ∨ f = b) → par (fun f => decide (k ∈ faceI r c f)) fs = xor (decide (a ∈ fs)) (decide (b ∈ fs)) := fun k a b n hk => by
    have e1 : par (fun f => decide (k ∈ faceI r c f)) fs = par (fun f => decide (f ∈ ([a, b] : List Int))) fs := by
      have : ∀ l : List Int, (∀ f ∈ l, k ∈ faceI r c f ↔ f = a ∨ f = b) → par (fun f => decide (k ∈ faceI r c f)) l = par (fun f => decide (f ∈ ([a, b] : List Int))) l := fun l hl => by
        induction l with
        | nil => rfl
        | cons x l ih =>
          rw [par, par, ih fun f z => hl f (List.mem_cons_of_mem _ z)]
          congr 1
          rw [Bool.eq_iff_iff, decide_eq_true_eq, decide_eq_true_eq, hl x List.mem_cons_self]; simp
      exact this _ hk
    rw [e1, par_swap g.can.nd (by simp [n])]
    simp only [par]
    cases decide (a ∈ fs) <;> cases decide (b ∈ fs) <;> rfl
  constructor
  · intro s s0 s1
    have st := step_ok h s0 s1
    rw [tm, two (2 * rightI c s + 1) s (rightI c s) (Ne.symm st.rn) fun f hf => by
      have f0 := g.bel f hf
      have bf := back_ok h f0.1 f0.2
      have bs := back_ok h s0 s1
      rw [mem_face]
      constructor
      · rintro (z | z | z | z)
        · omega
        · right; omega
        · omega
        · left
          have : rightI c s = rightI c f := by omega
          rw [← bf.lr, ← this, bs.lr]
      · rintro (z | z)
        · right; right; right; rw [z]
        · right; left; rw [z]]
    cases decide (s ∈ fs) <;> cases decide (rightI c s ∈ fs) <;> cases q <;> rfl
  · intro s s0 s1
    have st := step_ok h s0 s1
    rw [tm, two (2 * belowI r c s) s (belowI r c s) (Ne.symm st.bn) fun f hf => by
      have f0 := g.bel f hf
      have bf := back_ok h f0.1 f0.2
      have bs := back_ok h s0 s1
      rw [mem_face]
      constructor
      · rintro (z | z | z | z)
        · right; omega
        · omega
        · left
          have : belowI r c s = belowI r c f := by omega
          rw [← bf.ab, ← this, bs.ab]
        · omega
      · rintro (z | z)
        · right; right; left; rw [z]
        · left; rw [z]]
    cases decide (s ∈ fs) <;> cases decide (belowI r c s ∈ fs) <;> cases q <;> rfl
/-! a way to say it -/
/-- xor of the first n -/
def px (F : Nat → Bool) : Nat → Bool
  | 0 => false
  | n + 1 => xor (px F n) (F n)
theorem px_xor (F G : Nat → Bool) : ∀ n, px (fun i => xor (F i) (G i)) n = xor (px F n) (px G n)
  | 0 => rfl
  | n + 1 => by
    rw [px, px_xor F G n, px, px]
    cases px F n <;> cases px G n <;> cases F n <;> cases G n <;> rfl
theorem px_congr {F G : Nat → Bool} : ∀ {n : Nat}, (∀ i, i < n → F i = G i) → px F n = px G n
  | 0, _ => rfl
  | n + 1, h => by rw [px, px, px_congr (n := n) fun i hi => h i (by omega), h n (by omega)]
theorem px_first (F : Nat → Bool) : ∀ n, px F (n + 1) = xor (F 0) (px (fun i => F (i + 1)) n)
  | 0 => by simp [px]
  | n + 1 => by
    rw [px, px_first F n, px]
    cases F 0 <;> cases px (fun i => F (i + 1)) n <;> cases F (n + 1) <;> rfl
/-- round about by one -/
theorem px_turn (F : Nat → Bool) {n : Nat} (h : 0 < n) : px (fun j => F ((j + n - 1) % n)) n = px F n := by
  obtain ⟨m, rfl⟩ : ∃ m, n = m + 1 := ⟨n - 1, by omega⟩
  rw [px_first, px]
  have e0 : (0 + (m + 1) - 1) % (m + 1) = m := by rw [show 0 + (m + 1) - 1 = m by omega]; exact Nat.mod_eq_of_lt (by omega)
  rw [e0]
  have : px (fun i => F ((i + 1 + (m + 1) - 1) % (m + 1))) m = px F m := px_congr fun i hi => by
    rw [show i + 1 + (m + 1) - 1 = i + (m + 1) by omega, Nat.add_mod_right, Nat.mod_eq_of_lt (by omega)]
  rw [this]
  cases F m <;> cases px F m <;> rfl
section
variable {R C : Nat} {H V : Nat → Nat → Bool}
/-- the faces' parities, by rows and columns -/
def potN (H V : Nat → Nat → Bool) (i j : Nat) : Bool := xor (px (fun t => H (t + 1) 0) i) (px (fun t => V i (t + 1)) j)
theorem potN_ok (hR : 0 < R) (hC : 0 < C) (site : ∀ i j, i < R → j < C → xor (xor (H i j) (H i ((j + C - 1) % C))) (xor (V i j) (V ((i + R - 1) % R) j)) = false)
    (s1 : px (fun i => H i (C - 1)) R = false) (s2 : px (fun j => V (R - 1) j) C = false) :
    (∀ i j, i < R → j < C → potN H V i ((j + 1) % C) = xor (potN H V i j) (V i ((j + 1) % C))) ∧ (∀ i j, i < R → j < C → potN H V ((i + 1) % R) j = xor (potN H V i j) (H ((i + 1) % R) j)) := by
  have x4 : ∀ a b c d : Bool, xor (xor a b) (xor c d) = false → xor a b = xor c d := fun a b c d => by cases a <;> cases b <;> cases c <;> cases d <;> simp
  -- row sums of V
  have rowV : ∀ i, i < R → px (fun j => V i j) C = px (fun j => V ((i + R - 1) % R) j) C := fun i hi => by
    have e1 : px (fun j => xor (H i j) (H i ((j + C - 1) % C))) C = px (fun j => xor (V i j) (V ((i + R - 1) % R) j)) C := px_congr fun j hj => x4 _ _ _ _ (site i j hi hj)
    rw [px_xor, px_xor, px_turn (fun j => H i j) hC] at e1
    cases a : px (fun j => H i j) C <;> cases b : px (fun j => V i j) C <;> cases d : px (fun j => V ((i + R - 1) % R) j) C <;> simp [a, b, d] at e1 ⊢
  have V0 : ∀ i, i < R → px (fun j => V i j) C = false := fun i => by
    induction i with
    | zero =>
      intro h
      rw [rowV 0 h, show (0 + R - 1) % R = R - 1 by rw [Nat.zero_add]; exact Nat.mod_eq_of_lt (by omega)]; exact s2
    | succ i ih =>
      intro h
      rw [rowV (i + 1) h, show (i + 1 + R - 1) % R = i by rw [show i + 1 + R - 1 = i + R by omega, Nat.add_mod_right]; exact Nat.mod_eq_of_lt (by omega)]
      exact ih (by omega)
  have colH : ∀ j, j < C → px (fun i => H i j) R = px (fun i => H i ((j + C - 1) % C)) R := fun j hj => by
    have e1 : px (fun i => xor (H i j) (H i ((j + C - 1) % C))) R = px (fun i => xor (V i j) (V ((i + R - 1) % R) j)) R := px_congr fun i hi => x4 _ _ _ _ (site i j hi hj)
    rw [px_xor, px_xor, px_turn (fun i => V i j) hR] at e1
    cases a : px (fun i => H i j) R <;> cases b : px (fun i => V i j) R <;> cases d : px (fun i => H i ((j + C - 1) % C)) R <;> simp [a, b, d] at e1 ⊢
  have H0 : px (fun i => H i 0) R = false := by
    rw [colH 0 hC, show (0 + C - 1) % C = C - 1 by rw [Nat.zero_add]; exact Nat.mod_eq_of_lt (by omega)]; exact s1
  have step : ∀ i i', i < R → (i' = (i + 1) % R) → ∀ j, j < C → xor (px (fun t => V i' (t + 1)) j) (px (fun t => V i (t + 1)) j) = xor (H i' 0) (H i' j) := fun i i' hi e j => by
    have hi' : i' < R := by rw [e]; exact Nat.mod_lt _ hR
    have up : (i' + R - 1) % R = i := by
      rw [e]
      by_cases q : i + 1 = R
      · rw [q, Nat.mod_self, Nat.zero_add, Nat.mod_eq_of_lt (by omega)]; omega
      · rw [Nat.mod_eq_of_lt (show i + 1 < R by omega), show i + 1 + R - 1 = i + R by omega, Nat.add_mod_right, Nat.mod_eq_of_lt hi]
    induction j with
    | zero => intro _; simp [px]
    | succ j ih =>
      intro hj
      have ih := ih (by omega)
      have st := site i' (j + 1) hi' hj
      rw [up, show (j + 1 + C - 1) % C = j by rw [show j + 1 + C - 1 = j + C by omega, Nat.add_mod_right]; exact Nat.mod_eq_of_lt (by omega)] at st
      rw [px, px]
      revert ih st
      generalize px (fun t => V i' (t + 1)) j = a
      generalize px (fun t => V i (t + 1)) j = b
      generalize H i' 0 = c
      generalize H i' j = d
      generalize H i' (j + 1) = e
      generalize V i' (j + 1) = f
      generalize V i (j + 1) = g
      cases a <;> cases b <;> cases c <;> cases d <;> cases e <;> cases f <;> cases g <;> simp
  refine ⟨fun i j hi hj => ?_, fun i j hi hj => ?_⟩
  · by_cases q : j + 1 = C
    · rw [q, Nat.mod_self]
      have v0 := V0 i hi
      rw [← q, px_first] at v0
      unfold potN
      revert v0
      generalize px (fun t => H (t + 1) 0) i = a
      generalize px (fun t => V i (t + 1)) j = b
      show _ → xor a (px _ 0) = _
      rw [px]
      generalize V i 0 = d
      cases a <;> cases b <;> cases d <;> simp
    · rw [Nat.mod_eq_of_lt (show j + 1 < C by omega)]
      unfold potN
      rw [px]
      generalize px (fun t => H (t + 1) 0) i = a
      generalize px (fun t => V i (t + 1)) j = b
      generalize V i (j + 1) = d
      cases a <;> cases b <;> cases d <;> rfl
  · have st := step i ((i + 1) % R) hi rfl j hj
    by_cases q : i + 1 = R
    · rw [q, Nat.mod_self] at st ⊢
      have h0 := H0
      rw [← q, px_first] at h0
      unfold potN
      revert st h0
      rw [px]
      generalize px (fun t => H (t + 1) 0) i = a
      generalize px (fun t => V i (t + 1)) j = b
      generalize px (fun t => V 0 (t + 1)) j = d
      generalize H 0 0 = e
      generalize H 0 j = f
      cases a <;> cases b <;> cases d <;> cases e <;> cases f <;> simp
    · rw [Nat.mod_eq_of_lt (show i + 1 < R by omega)] at st ⊢
      unfold potN
      rw [px]
      revert st
      generalize px (fun t => H (t + 1) 0) i = a
      generalize px (fun t => V i (t + 1)) j = b
      generalize px (fun t => V (i + 1) (t + 1)) j = d
      generalize H (i + 1) 0 = e
      generalize H (i + 1) j = f
      cases a <;> cases b <;> cases d <;> cases e <;> cases f <;> simp
end
/-! sites by rows and columns -/
theorem right_ij {C i j : Nat} (hj : j < C) : rightI (C : Int) ((i * C + j : Nat) : Int) = ((i * C + (j + 1) % C : Nat) : Int) := by
  unfold rightI
  have hC : 0 < C := by omega
  have e1 : (i * C + j) / C = i := by rw [Nat.mul_comm, Nat.mul_add_div hC, Nat.div_eq_of_lt hj, Nat.add_zero]
  have e2 : (i * C + j) % C = j := by rw [Nat.mul_comm, Nat.mul_add_mod, Nat.mod_eq_of_lt hj]
  rw [← Int.natCast_ediv, ← Int.natCast_emod, e1, e2]
  simp
theorem below_ij {R C i j : Nat} (hi : i < R) (hj : j < C) : belowI (R : Int) (C : Int) ((i * C + j : Nat) : Int) = (((i + 1) % R * C + j : Nat) : Int) := by
  unfold belowI
  have hC : 0 < C := by omega
  have e : ((i * C + j : Nat) : Int) + (C : Int) = (((i + 1) * C + j : Nat) : Int) := by rw [Nat.add_mul]; simp; omega
  have e2 : ((R : Int) * (C : Int)) = ((R * C : Nat) : Int) := by simp
  rw [e, e2, ← Int.natCast_emod]
  congr 1
  by_cases q : i + 1 = R
  · rw [q, Nat.mod_self, Nat.zero_mul, Nat.zero_add, Nat.add_mod_left]
    exact Nat.mod_eq_of_lt (Nat.lt_of_lt_of_le hj (Nat.le_mul_of_pos_left _ (by omega)))
  · rw [Nat.mod_eq_of_lt (show i + 1 < R by omega)]
    refine Nat.mod_eq_of_lt ?_
    have : (i + 2) * C ≤ R * C := Nat.mul_le_mul_right _ (by omega)
    rw [Nat.add_mul] at this ⊢
    omega
theorem site_ij {R C : Nat} {s : Int} (h0 : 0 ≤ s) (h1 : s < (R : Int) * (C : Int)) : ∃ i j, i < R ∧ j < C ∧ s = ((i * C + j : Nat) : Int) := by
  obtain ⟨n, rfl⟩ := Int.eq_ofNat_of_zero_le h0
  have hn : n < R * C := by
    have : ((R : Int) * (C : Int)) = ((R * C : Nat) : Int) := by simp
    omega
  have hC : 0 < C := by
    rcases Nat.eq_zero_or_pos C with z | z
    · subst z; omega
    · exact z
  refine ⟨n / C, n % C, Nat.div_lt_of_lt_mul (by rw [Nat.mul_comm]; exact hn), Nat.mod_lt _ hC, ?_⟩
  rw [Nat.mul_comm, Nat.div_add_mod]
/-- flips that light nothing and cross no seam -/
theorem pot_of {R C : Nat} {xs : List Int} (h : Bd R C) (f : Fls R C xs) (hl : litI R C xs = []) (ha : par (seamA C) xs = false) (hb : par (seamB R C) xs = false) : ∃ p : Int → Bool, Pot R C xs p ∧ p 0 = false := by
  have hR : 0 < R := by have := h.r2; omega
  have hC : 0 < C := by have := h.c2; omega
  let H : Nat → Nat → Bool := fun i j => decide (2 * ((i * C + j : Nat) : Int) ∈ xs)
  let V : Nat → Nat → Bool := fun i j => decide (2 * ((i * C + j : Nat) : Int) + 1 ∈ xs)
  have lt : ∀ i j, i < R → j < C → ((i * C + j : Nat) : Int) < (R : Int) * (C : Int) := fun i j hi hj => by
    have : (i + 1) * C ≤ R * C := Nat.mul_le_mul_right _ (by omega)
    rw [Nat.add_mul] at this
    have e2 : ((R : Int) * (C : Int)) = ((R * C : Nat) : Int) := by simp
    omega
  have site : ∀ i j, i < R → j < C → xor (xor (H i j) (H i ((j + C - 1) % C))) (xor (V i j) (V ((i + R - 1) % R) j)) = false := fun i j hi hj => by
    have h0 : (0 : Int) ≤ ((i * C + j : Nat) : Int) := by omega
    have h1 := lt i j hi hj
    have b := back_ok h h0 h1
    have em := lit_mem h f.bel ((i * C + j : Nat) : Int)
    rw [hl] at em
    have hj2 : (j + C - 1) % C < C := Nat.mod_lt _ hC
    have hi2 : (i + R - 1) % R < R := Nat.mod_lt _ hR
    have jj : ((j + C - 1) % C + 1) % C = j := by
      rw [Nat.add_mod, Nat.mod_mod, ← Nat.add_mod, show j + C - 1 + 1 = j + C by omega, Nat.add_mod_right, Nat.mod_eq_of_lt hj]
    have ii : ((i + R - 1) % R + 1) % R = i := by
      rw [Nat.add_mod, Nat.mod_mod, ← Nat.add_mod, show i + R - 1 + 1 = i + R by omega, Nat.add_mod_right, Nat.mod_eq_of_lt hi]
    have r1 := right_ij (C := C) (i := i) hj2
    rw [jj] at r1
    have b1 := below_ij (R := R) (C := C) hi2 hj
    rw [ii] at b1
    have bl := back_ok h (s := ((i * C + (j + C - 1) % C : Nat) : Int)) (by omega) (lt _ _ hi hj2)
    have ba := back_ok h (s := (((i + R - 1) % R * C + j : Nat) : Int)) (by omega) (lt _ _ hi2 hj)
    generalize hs : ((i * C + j : Nat) : Int) = s at *
    generalize hsl : ((i * C + (j + C - 1) % C : Nat) : Int) = sl at *
    generalize hsa : (((i + R - 1) % R * C + j : Nat) : Int) = sa at *
    have e1 : par (fun e => decide (s ∈ ([e / 2, otherI R C e] : List Int))) xs = par (fun e => decide (e ∈ ([2 * s, 2 * sl, 2 * s + 1, 2 * sa + 1] : List Int))) xs := by
      have : ∀ l : List Int, Bel (2 * ((R : Int) * C)) l → par (fun e => decide (s ∈ ([e / 2, otherI R C e] : List Int))) l = par (fun e => decide (e ∈ ([2 * s, 2 * sl, 2 * s + 1, 2 * sa + 1] : List Int))) l := fun l hl => by
        induction l with
        | nil => rfl
        | cons e l ih =>
          rw [par, par, ih fun x z => hl x (List.mem_cons_of_mem _ z)]
          congr 1
          have he := hl e List.mem_cons_self
          have he2 := back_ok h (s := e / 2) (by omega) (by omega)
          rw [Bool.eq_iff_iff, decide_eq_true_eq, decide_eq_true_eq]
          simp only [List.mem_cons, List.not_mem_nil, or_false]
          unfold otherI
          split
          · rename_i q
            constructor
            · rintro (z | z)
              · left; omega
              · right; left
                have : sl = e / 2 := by
                  have := congrArg (leftI C) (z.symm.trans r1.symm)
                  rw [he2.lr, bl.lr] at this; exact this.symm
                omega
            · rintro (z | z | z | z)
              · left; omega
              · right
                rw [show e / 2 = sl by omega, r1]
              · omega
              · omega
          · rename_i q
            constructor
            · rintro (z | z)
              · right; right; left; omega
              · right; right; right
                have : sa = e / 2 := by
                  have := congrArg (aboveI R C) (z.symm.trans b1.symm)
                  rw [he2.ab, ba.ab] at this; exact this.symm
                omega
            · rintro (z | z | z | z)
              · omega
              · omega
              · left; omega
              · right
                rw [show e / 2 = sa by omega, b1]
      exact this xs f.bel
    have nsl : sl ≠ s := fun z => by
      have := (step_ok h (s := sl) (by omega) (by have := lt _ _ hi hj2; omega)).rn
      rw [r1] at this; exact this z.symm
    have nsa : sa ≠ s := fun z => by
      have := (step_ok h (s := sa) (by omega) (by have := lt _ _ hi2 hj; omega)).bn
      rw [b1] at this; exact this z.symm
    rw [e1, par_swap f.can.nd (by simp; omega)] at em
    simp only [par] at em
    show xor (xor (decide (2 * ((i * C + j : Nat) : Int) ∈ xs)) (decide (2 * ((i * C + (j + C - 1) % C : Nat) : Int) ∈ xs))) (xor (decide (2 * ((i * C + j : Nat) : Int) + 1 ∈ xs)) (decide (2 * (((i + R - 1) % R * C + j : Nat) : Int) + 1 ∈ xs))) = false
    rw [hs, hsl, hsa]
    have e0 : decide (s ∈ ([] : List Int)) = false := decide_eq_false (by simp)
    rw [e0] at em
    rw [em]
    cases decide (2 * s ∈ xs) <;> cases decide (2 * sl ∈ xs) <;> cases decide (2 * s + 1 ∈ xs) <;> cases decide (2 * sa + 1 ∈ xs) <;> rfl
  have pl : ∀ (F : Nat → Int) (n : Nat), par (fun e => decide (e ∈ xs)) ((List.range n).map F) = px (fun i => decide (F i ∈ xs)) n := fun F n => by
    induction n with
    | zero => rfl
    | succ n ih => rw [List.range_succ, List.map_append, par_append, ih, px]; simp [par]
  have div_ij : ∀ i j, j < C → ((i * C + j : Nat) : Int) / (C : Int) = (i : Int) ∧ ((i * C + j : Nat) : Int) % (C : Int) = (j : Int) := fun i j hj => by
    rw [← Int.natCast_ediv, ← Int.natCast_emod]
    exact ⟨by rw [Nat.mul_comm, Nat.mul_add_div hC, Nat.div_eq_of_lt hj, Nat.add_zero], by rw [Nat.mul_comm, Nat.mul_add_mod, Nat.mod_eq_of_lt hj]⟩
  have s1 : px (fun i => H i (C - 1)) R = false := by
    have e1 : par (seamA C) xs = par (fun e => decide (e ∈ (List.range R).map fun (i : Nat) => 2 * ((i * C + (C - 1) : Nat) : Int))) xs := by
      have : ∀ l : List Int, Bel (2 * ((R : Int) * C)) l → par (seamA C) l = par (fun e => decide (e ∈ (List.range R).map fun (i : Nat) => 2 * ((i * C + (C - 1) : Nat) : Int))) l := fun l hl => by
        induction l with
        | nil => rfl
        | cons e l ih =>
          rw [par, par, ih fun x z => hl x (List.mem_cons_of_mem _ z)]
          congr 1
          have he := hl e List.mem_cons_self
          obtain ⟨i, j, hi, hj, es⟩ := site_ij (R := R) (C := C) (s := e / 2) (by omega) (by omega)
          obtain ⟨d1, d2⟩ := div_ij i j hj
          unfold seamA
          rw [es, d2, Bool.eq_iff_iff, Bool.and_eq_true, decide_eq_true_eq, decide_eq_true_eq, decide_eq_true_eq, List.mem_map]
          constructor
          · rintro ⟨z1, z2⟩
            refine ⟨i, List.mem_range.mpr hi, ?_⟩
            have : j = C - 1 := by omega
            rw [← this]; omega
          · rintro ⟨i', hi', z⟩
            have d := (div_ij i' (C - 1) (by omega)).2
            have : ((i * C + j : Nat) : Int) = ((i' * C + (C - 1) : Nat) : Int) := by omega
            rw [← this, d2] at d
            exact ⟨by omega, by omega⟩
      exact this xs f.bel
    have nd : ((List.range R).map fun (i : Nat) => 2 * ((i * C + (C - 1) : Nat) : Int)).Nodup := by
      refine List.pairwise_map.mpr (List.Pairwise.imp (fun {a b} n z => n ?_) List.nodup_range)
      have z1 := (div_ij a (C - 1) (by omega)).1
      have z2 := (div_ij b (C - 1) (by omega)).1
      have : ((a * C + (C - 1) : Nat) : Int) = ((b * C + (C - 1) : Nat) : Int) := by omega
      rw [this, z2] at z1
      omega
    rw [e1, par_swap f.can.nd nd, pl] at ha
    exact ha
  have s2 : px (fun j => V (R - 1) j) C = false := by
    have e1 : par (seamB R C) xs = par (fun e => decide (e ∈ (List.range C).map fun (j : Nat) => 2 * (((R - 1) * C + j : Nat) : Int) + 1)) xs := by
      have : ∀ l : List Int, Bel (2 * ((R : Int) * C)) l → par (seamB R C) l = par (fun e => decide (e ∈ (List.range C).map fun (j : Nat) => 2 * (((R - 1) * C + j : Nat) : Int) + 1)) l := fun l hl => by
        induction l with
        | nil => rfl
        | cons e l ih =>
          rw [par, par, ih fun x z => hl x (List.mem_cons_of_mem _ z)]
          congr 1
          have he := hl e List.mem_cons_self
          obtain ⟨i, j, hi, hj, es⟩ := site_ij (R := R) (C := C) (s := e / 2) (by omega) (by omega)
          obtain ⟨d1, d2⟩ := div_ij i j hj
          unfold seamB
          rw [es, d1, Bool.eq_iff_iff, Bool.and_eq_true, Bool.not_eq_true', decide_eq_false_iff_not, decide_eq_true_eq, decide_eq_true_eq, List.mem_map]
          constructor
          · rintro ⟨z1, z2⟩
            refine ⟨j, List.mem_range.mpr hj, ?_⟩
            have : i = R - 1 := by omega
            rw [← this]; omega
          · rintro ⟨j', hj', z⟩
            have hj' := List.mem_range.mp hj'
            have d := (div_ij (R - 1) j' hj').1
            have : ((i * C + j : Nat) : Int) = (((R - 1) * C + j' : Nat) : Int) := by omega
            rw [← this, d1] at d
            exact ⟨by omega, by omega⟩
      exact this xs f.bel
    have nd : ((List.range C).map fun (j : Nat) => 2 * (((R - 1) * C + j : Nat) : Int) + 1).Nodup := by
      refine List.pairwise_map.mpr (List.Pairwise.imp (fun {a b} n z => n ?_) List.nodup_range)
      omega
    rw [e1, par_swap f.can.nd nd, pl] at hb
    exact hb
  obtain ⟨p1, p2⟩ := potN_ok hR hC site s1 s2
  have pn : ∀ i j, j < C → potN H V ((((i * C + j : Nat) : Int)).toNat / C) ((((i * C + j : Nat) : Int)).toNat % C) = potN H V i j := fun i j hj => by
    rw [Int.toNat_natCast]
    have e1 : (i * C + j) / C = i := by rw [Nat.mul_comm, Nat.mul_add_div hC, Nat.div_eq_of_lt hj, Nat.add_zero]
    have e2 : (i * C + j) % C = j := by rw [Nat.mul_comm, Nat.mul_add_mod, Nat.mod_eq_of_lt hj]
    rw [e1, e2]
  refine ⟨fun s => potN H V (s.toNat / C) (s.toNat % C), ⟨fun s s0 s1 => ?_, fun s s0 s1 => ?_⟩, ?_⟩
  · obtain ⟨i, j, hi, hj, rfl⟩ := site_ij s0 s1
    have hj2 : (j + 1) % C < C := Nat.mod_lt _ hC
    rw [right_ij hj, pn _ _ hj2, pn _ _ hj]
    exact p1 i j hi hj
  · obtain ⟨i, j, hi, hj, rfl⟩ := site_ij s0 s1
    rw [below_ij hi hj, pn _ _ hj, pn _ _ hj]
    exact p2 i j hi hj
  · show potN H V ((0 : Int).toNat / C) ((0 : Int).toNat % C) = false
    rw [show (0 : Int).toNat = 0 by rfl, Nat.zero_div, Nat.zero_mod]
    rfl
end Sf

/-! Sf.Led: the faces that lead. -/
namespace Sf
open PySem L2
/-! are_alike: board, one, other, left -/
def b_are_alike : List S :=
  [.ex (.call 0 [(.var 0)] [] []),
  .ex (.call 1 [(.var 0), (.var 1)] [] []),
  .ex (.call 1 [(.var 0), (.var 2)] [] []),
  .asg1 3 (.call 2 [(.var 1), (.var 2)] [] []),
  .ret (.bop true [(.cmp .eq (.call 3 [(.var 0), (.var 3)] [] []) (.tup [])), (.cmp .eq (.call 4 [(.var 0), (.var 3)] [] []) (.tup [(.int 0), (.int 0)]))])]
def l_are_alike : FnL := [(⟨"need_board", 1, [], []⟩, f_need_board), (⟨"need_flips", 2, [], []⟩, f_need_flips), (⟨"both", 2, [], []⟩, f_both), (⟨"lit_by", 2, [], []⟩, f_lit_by), (⟨"seams_by", 2, [], []⟩, f_seams_by)]
@[simp] theorem ph_are_alike_0 : phi l_are_alike 0 = f_need_board := id rfl
@[simp] theorem ph_are_alike_1 : phi l_are_alike 1 = f_need_flips := id rfl
@[simp] theorem ph_are_alike_2 : phi l_are_alike 2 = f_both := id rfl
@[simp] theorem ph_are_alike_3 : phi l_are_alike 3 = f_lit_by := id rfl
@[simp] theorem ph_are_alike_4 : phi l_are_alike 4 = f_seams_by := id rfl
def g_are_alike : GlL := []
def f_are_alike : FnSem := runF (gam g_are_alike) (phi l_are_alike) 4 b_are_alike
/-! led: board, one, other, left, sides, face, known, waiting, edge, other_face -/
def bled_2 : List S := [.app (.sdf (.var 4) (.var 8)) (.var 5)]
def bled_1 : List S := [.for_ (.nm 8) (.seq (.call 3 [(.var 0), (.var 5)] [] [])) bled_2]
def bled_4 : List S := [.ife (.cmp .notin (.var 9) (.var 6))
   [.oset (.var 6) (.var 9) (.cmp .ne (.ix (.var 6) (.var 5)) (.cmp .isin (.var 8) (.var 3))),
   .app (.var 7) (.var 9)]
   []]
def bled_3 : List S := [.for_ (.nm 9) (.seq (.ix (.var 4) (.var 8))) bled_4]
def cled_1 : E := (.ix (.var 6) (.var 5))
def xled_1 : E := (.var 5)
def b_led : List S :=
  [.ife (.not (.call 0 [(.var 0), (.var 1), (.var 2)] [] []))
   [.ret .non]
   [],
  .asg1 3 (.call 1 [(.var 1), (.var 2)] [] []),
  .asg1 4 (.new (.dsp false [] [])),
  .for_ (.nm 5) (.rng [(.call 2 [(.var 0)] [] [])]) bled_1,
  .frz 4,
  .asg1 6 (.ds1 (.int 0) (.bl false)),
  .asg1 7 (.new (.lst [(.int 0)])),
  .whl 1000 (.cmp .ne (.var 7) (.lst []))
   [.asg1 5 (.popL (.var 7)),
   .for_ (.nm 8) (.seq (.call 3 [(.var 0), (.var 5)] [] [])) bled_3],
  .frz 6,
  .ret (.bi .tuple [(.lc [5] (.nm 5) (.seq (.bi .sorted [(.var 6)])) cled_1 xled_1)])]
def l_led : FnL := [(⟨"are_alike", 3, [], []⟩, f_are_alike), (⟨"both", 2, [], []⟩, f_both), (⟨"many_sites", 1, [], []⟩, f_many_sites), (⟨"face_edges", 2, [], []⟩, f_face_edges)]
@[simp] theorem ph_led_0 : phi l_led 0 = f_are_alike := id rfl
@[simp] theorem ph_led_1 : phi l_led 1 = f_both := id rfl
@[simp] theorem ph_led_2 : phi l_led 2 = f_many_sites := id rfl
@[simp] theorem ph_led_3 : phi l_led 3 = f_face_edges := id rfl
def g_led : GlL := []
def f_led : FnSem := runF (gam g_led) (phi l_led) 10 b_led

theorem eq_tnil (l : List Int) : evCmp .eq (fl l) (.tup []) = some (decide (l = [])) := eq_tups l []
theorem eq_seams (a b : Bool) : evCmp .eq (pq (b2 a) (b2 b)) (.tup [.int 0, .int 0]) = some (!a && !b) := by
  have := eq_tups [b2 a, b2 b] [0, 0]
  refine this.trans ?_
  cases a <;> cases b <;> decide
theorem ne_lsti (xs ys : List Int) : evCmp .ne (.lst (xs.map .int)) (.lst (ys.map .int)) = some (!decide (xs = ys)) := by
  show (if shp (.lst (xs.map .int)) = true ∧ shp (.lst (ys.map .int)) = true then some (!PyData.eqv (toPy (.lst (xs.map .int))) (toPy (.lst (ys.map .int)))) else none) = _
  rw [if_pos ⟨shp_lsts xs, shp_lsts ys⟩]
  show some (!PyData.eqv (.list (toPys (xs.map .int))) (.list (toPys (ys.map .int)))) = _
  unfold PyData.eqv
  rw [eqv_ints]
def alikeB (r c : Int) (xs ys : List Int) : Bool := decide (litI r c (symI xs ys) = []) && (!par (seamA c) (symI xs ys) && !par (seamB r c) (symI xs ys))
theorem v_are_alike {S : Sto} {r c : Int} {xs ys : List Int} (h : Bd r c) (f : Fls r c xs) (g : Fls r c ys) : f_are_alike [pq r c, fl xs, fl ys] S = some (.ok (.bl (alikeB r c xs ys)) S) := by
  have l1 := f.len h
  have l2 := g.len h
  have l3 := (f.sym g).len h
  have vb := fun S => v_both (S := S) f.can.nd g.can.nd (by omega) (by omega) (by omega)
  have vl := fun S => v_lit_by (S := S) h (f.sym g)
  have vs := fun S => v_seams_by (S := S) (xs := symI xs ys) h
  have e1 := eq_tnil (litI r c (symI xs ys))
  have e2 := eq_seams (par (seamA c) (symI xs ys)) (par (seamB r c) (symI xs ys))
  have e2 : evCmp .eq (seamsI r c (symI xs ys)) (.tup [.int 0, .int 0]) = _ := e2
  have vsd : ∀ S, vw S (seamsI r c (symI xs ys)) = seamsI r c (symI xs ys) := fun _ => rfl
  unfold f_are_alike b_are_alike alikeB
  generalize seamsI r c (symI xs ys) = sd at *
  generalize par (seamA c) (symI xs ys) = A at *
  generalize par (seamB r c) (symI xs ys) = B at *
  have l2L : 2 ≤ LIM := by decide
  have l0L : 0 ≤ LIM := by decide
  by_cases q : litI r c (symI xs ys) = []
  · rw [decide_eq_true q] at e1 ⊢
    simp [v_need_board h, v_need_flips h f, v_need_flips h g, vb, vl, vs, vsd, e1, e2, l2L, l0L]
  · rw [decide_eq_false q] at e1 ⊢
    simp [v_need_board h, v_need_flips h f, v_need_flips h g, vb, vl, vs, vsd, e1, e2, l2L, l0L]
/-! dicts as lists of pairs -/
theorem look_map {α : Type} (g : α → D) (e : Int) : ∀ A : List (Int × α), lookD (A.map fun p => NestedKey.num p.1) (A.map fun p => g p.2) (.num e) = (A.lookup e).map g
  | [] => rfl
  | (a, x) :: A => by
    have ih := look_map g e A
    unfold lookD at ih ⊢
    rw [List.map_cons, List.map_cons, List.zip_cons_cons, List.lookup_cons, List.lookup_cons]
    by_cases q : e = a
    · subst q; simp
    · have q1 : (NestedKey.num e == NestedKey.num a) = false := by simp [q]
      have q2 : (e == a) = false := by simp [q]
      dsimp only
      rw [q1, q2]; exact ih
theorem lookup_none_keys {α : Type} {e : Int} : ∀ {A : List (Int × α)}, A.lookup e = none → NestedKey.num e ∉ A.map fun p => NestedKey.num p.1
  | [], _ => by simp
  | (a, x) :: A, h => by
    rw [List.lookup_cons] at h
    by_cases q : e = a
    · subst q; simp at h
    · have q2 : (e == a) = false := by simp [q]
      rw [q2] at h
      simp only [List.map_cons, List.mem_cons, not_or]
      exact ⟨fun z => q (by injection z), lookup_none_keys h⟩
theorem nin_dct (g : Int) (ks : List NestedKey) (ds : List D) : evCmp .notin (.int g) (.dct false ks ds) = some (!(lookD ks ds (.num g)).isSome) := by
  unfold evCmp; rfl
theorem ix_dct (g : Int) (ks : List NestedKey) (ds : List D) : evIx (.dct false ks ds) (.int g) = lookD ks ds (.num g) := by
  unfold evIx; rfl
/-- faces by edges: one more -/
def addA : List (Int × List Int) → Int → Int → List (Int × List Int)
  | [], e, f => [(e, [f])]
  | (a, l) :: A, e, f => if a = e then (a, l ++ [f]) :: A else (a, l) :: addA A e f
theorem addA_len (A : List (Int × List Int)) (e f : Int) : (addA A e f).length ≤ A.length + 1 := by
  induction A with
  | nil => simp [addA]
  | cons p A ih => unfold addA; split <;> simp; omega
theorem addA_look (A : List (Int × List Int)) (e f x : Int) : (addA A e f).lookup x = if x = e then some (((A.lookup e).getD []) ++ [f]) else A.lookup x := by
  induction A with
  | nil =>
    by_cases q : x = e
    · simp [addA, List.lookup_cons, q]
    · have z : (x == e) = false := by simp [q]
      simp [addA, List.lookup_cons, q, z]
  | cons p A ih =>
    obtain ⟨a, l⟩ := p
    unfold addA
    by_cases q : a = e
    · subst q
      rw [if_pos rfl, List.lookup_cons, List.lookup_cons, List.lookup_cons]
      by_cases z : x = a
      · subst z; simp
      · have : (x == a) = false := by simp [z]
        rw [this, if_neg z]
    · rw [if_neg q, List.lookup_cons, List.lookup_cons, List.lookup_cons]
      have e1 : (e == a) = false := by simp [Ne.symm q]
      rw [e1]
      by_cases z : x = a
      · subst z; rw [if_neg q]; simp
      · have : (x == a) = false := by simp [z]
        rw [this, ih]
theorem addA_hit {A : List (Int × List Int)} {e f : Int} {l : List Int} (h : A.lookup e = some l) : ∃ A1 A2, A = A1 ++ (e, l) :: A2 ∧ addA A e f = A1 ++ (e, l ++ [f]) :: A2 ∧ A1.lookup e = none := by
  induction A with
  | nil => cases h
  | cons p A ih =>
    obtain ⟨a, m⟩ := p
    rw [List.lookup_cons] at h
    by_cases q : e = a
    · subst q
      simp at h; subst h
      exact ⟨[], A, rfl, by simp [addA], rfl⟩
    · have q2 : (e == a) = false := by simp [q]
      rw [q2] at h
      obtain ⟨A1, A2, e1, e2, e3⟩ := ih h
      refine ⟨(a, m) :: A1, A2, by rw [e1]; rfl, ?_, by rw [List.lookup_cons, q2]; exact e3⟩
      unfold addA
      rw [if_neg (Ne.symm q), e2]; rfl
theorem addA_miss {A : List (Int × List Int)} {e f : Int} (h : A.lookup e = none) : addA A e f = A ++ [(e, [f])] := by
  induction A with
  | nil => rfl
  | cons p A ih =>
    obtain ⟨a, m⟩ := p
    rw [List.lookup_cons] at h
    by_cases q : e = a
    · subst q; simp at h
    · have q2 : (e == a) = false := by simp [q]
      rw [q2] at h
      unfold addA
      rw [if_neg (Ne.symm q), ih h]; rfl
def refsI (n k : Nat) : List D := (List.range k).map fun i => D.ref (n + i)
def cellI (p : Int × List Int) : Ob := .lst (p.2.map .int)
/-- the store with faces by edges -/
def stoA (S : Sto) (A : List (Int × List Int)) : Sto := S ++ .dct false (A.map fun p => NestedKey.num p.1) (refsI (S.length + 1) A.length) :: A.map cellI
theorem stoA_at (S : Sto) (A : List (Int × List Int)) : (stoA S A)[S.length]? = some (.dct false (A.map fun p => NestedKey.num p.1) (refsI (S.length + 1) A.length)) := by unfold stoA; simp
theorem look_ix {ds : List D} {k : NestedKey} : ∀ {K1 K2 : List NestedKey}, k ∉ K1 → lookD (K1 ++ k :: K2) ds k = ds[K1.length]?
  | [], K2, _ => by
    unfold lookD
    cases ds with
    | nil => rfl
    | cons d ds => rw [List.nil_append, List.zip_cons_cons, List.lookup_cons, beq_self_eq_true]; rfl
  | a :: K1, K2, h => by
    cases ds with
    | nil => unfold lookD; rfl
    | cons d ds =>
      have ih := look_ix (ds := ds) (K1 := K1) (K2 := K2) (k := k) (fun z => h (List.mem_cons_of_mem _ z))
      unfold lookD at ih ⊢
      have q : (k == a) = false := by
        have : k ≠ a := fun z => h (by rw [z]; exact List.mem_cons_self)
        simpa using this
      rw [List.cons_append, List.zip_cons_cons, List.lookup_cons, q, List.length_cons, List.getElem?_cons_succ]
      exact ih
theorem look_no {ds : List D} {k : NestedKey} : ∀ {ks : List NestedKey}, k ∉ ks → lookD ks ds k = none
  | [], _ => rfl
  | a :: ks, h => by
    cases ds with
    | nil => unfold lookD; rfl
    | cons d ds =>
      have ih := look_no (ds := ds) (ks := ks) (k := k) (fun z => h (List.mem_cons_of_mem _ z))
      unfold lookD at ih ⊢
      have q : (k == a) = false := by
        have : k ≠ a := fun z => h (by rw [z]; exact List.mem_cons_self)
        simpa using this
      rw [List.zip_cons_cons, List.lookup_cons, q]
      exact ih
theorem refs_snoc (n k : Nat) : refsI n (k + 1) = refsI n k ++ [.ref (n + k)] := by unfold refsI; rw [List.range_succ, List.map_append]; rfl
theorem s_side {G : Nat → Option D} {Φ : Nat → FnSem} {env : Env} {S : Sto} {A : List (Int × List Int)} {e f : Int} (hl : A.length ≤ 1000) (hf : ∀ l, A.lookup e = some l → l.length ≤ 1000) (h4 : slotAt env 4 = some (.ref S.length)) (h8 : slotAt env 8 = some (.int e)) (h5 : slotAt env 5 = some (.int f)) :
    evS G Φ (.app (.sdf (.var 4) (.var 8)) (.var 5)) env (stoA S A) = some (.nx env (stoA S (addA A e f))) := by
  have hL : LIM = 100000 := rfl
  have vd := vw_ref_dct (stoA_at S A)
  cases m : A.lookup e with
  | none =>
    have hk := lookup_none_keys m
    have lk := look_no (ds := refsI (S.length + 1) A.length) hk
    have sd : sdfD (.ref S.length) (.int e) (stoA S A) = some (.ok (.ref (stoA S A).length) (List.set (stoA S A ++ [Ob.lst []]) S.length (.dct false ((A.map fun p => NestedKey.num p.1) ++ [.num e]) (refsI (S.length + 1) A.length ++ [.ref (stoA S A).length])))) := by
      unfold sdfD
      dsimp only
      rw [stoA_at]
      dsimp only [toKey, toKeyF, Option.bind_some]
      rw [if_pos (by rw [List.length_map]; omega), lk]
    have len : (stoA S A).length = S.length + 1 + A.length := by unfold stoA; simp; omega
    have st : List.set (stoA S A ++ [Ob.lst []]) S.length (.dct false ((A.map fun p => NestedKey.num p.1) ++ [.num e]) (refsI (S.length + 1) A.length ++ [.ref (stoA S A).length])) = S ++ .dct false ((A.map fun p => NestedKey.num p.1) ++ [.num e]) (refsI (S.length + 1) (A.length + 1)) :: (A.map cellI ++ [.lst []]) := by
      rw [len, refs_snoc]
      unfold stoA
      rw [List.append_assoc, List.set_append, if_neg (by omega), Nat.sub_self]; rfl
    rw [st] at sd
    generalize hX : S ++ Ob.dct false ((A.map fun p => NestedKey.num p.1) ++ [.num e]) (refsI (S.length + 1) (A.length + 1)) :: (A.map cellI ++ [.lst []]) = X at sd
    have gx : X[(stoA S A).length]? = some (.lst []) := by
      rw [← hX, len, List.getElem?_append_right (by omega), show S.length + 1 + A.length - S.length = A.length + 1 by omega, List.getElem?_cons_succ, List.getElem?_append_right (by simp)]
      simp
    have vx := vw_ref_lst gx
    have ap := app_lst (env := env) (v := .int f) gx (by show 0 < LIM; omega)
    have fin : X.set (stoA S A).length (.lst ([] ++ [.int f])) = stoA S (addA A e f) := by
      rw [← hX, addA_miss m, len]
      unfold stoA
      rw [List.set_append, if_neg (by omega), show S.length + 1 + A.length - S.length = A.length + 1 by omega, List.set_cons_succ, List.set_append, if_neg (by simp)]
      simp [cellI]
    rw [fin] at ap
    have h4' : env.getD 4 none = some (.ref S.length) := h4
    have h5' : env.getD 5 none = some (.int f) := h5
    have h8' : env.getD 8 none = some (.int e) := h8
    simp only [s_app, e_sdf, e_var, slotAt_eq, h4', h5', h8', Option.map_some, x_ok, vd, isDctF, if_true, sd, y_ok, vx, ap]
  | some l =>
    obtain ⟨A1, A2, hA, hA', hn⟩ := addA_hit (f := f) m
    have hk := lookup_none_keys hn
    have lk : lookD (A.map fun p => NestedKey.num p.1) (refsI (S.length + 1) A.length) (.num e) = some (.ref (S.length + 1 + A1.length)) := by
      conv => lhs; rw [hA, List.map_append, List.map_cons]
      rw [look_ix hk, List.length_map]
      unfold refsI
      have : A1.length < A.length := by rw [hA]; simp
      rw [hA] at this
      simp [this]
    have sd : sdfD (.ref S.length) (.int e) (stoA S A) = some (.ok (.ref (S.length + 1 + A1.length)) (stoA S A)) := by
      unfold sdfD
      dsimp only
      rw [stoA_at]
      dsimp only [toKey, toKeyF, Option.bind_some]
      rw [if_pos (by rw [List.length_map]; omega), lk]
    have gx : (stoA S A)[S.length + 1 + A1.length]? = some (.lst (l.map .int)) := by
      unfold stoA
      rw [List.getElem?_append_right (by omega), show S.length + 1 + A1.length - S.length = A1.length + 1 by omega, List.getElem?_cons_succ, hA]
      simp [cellI]
    have vx := vw_ref_lst gx
    have ap := app_lst (env := env) (v := .int f) gx (by rw [List.length_map]; have := hf l m; omega)
    have fin : (stoA S A).set (S.length + 1 + A1.length) (.lst (l.map .int ++ [.int f])) = stoA S (addA A e f) := by
      have em : ∀ l' : List Int, (A1 ++ (e, l') :: A2).map cellI = A1.map cellI ++ Ob.lst (l'.map .int) :: A2.map cellI := fun l' => by simp [cellI]
      rw [hA', hA]
      unfold stoA
      rw [em, em, List.set_append, if_neg (by omega), show S.length + 1 + A1.length - S.length = A1.length + 1 by omega, List.set_cons_succ, List.set_append, if_neg (by simp)]
      simp
    rw [fin] at ap
    have h4' : env.getD 4 none = some (.ref S.length) := h4
    have h5' : env.getD 5 none = some (.int f) := h5
    have h8' : env.getD 8 none = some (.int e) := h8
    simp only [s_app, e_sdf, e_var, slotAt_eq, h4', h5', h8', Option.map_some, x_ok, vd, isDctF, if_true, sd, y_ok, vx, ap]
/-- cells of lists stand still -/
theorem frz_ints (n : Nat) (l : List Int) (S : Sto) : frzL (n + 1) (l.map .int) S = some (l.map .int, S) := by
  induction l with
  | nil => unfold frzL; rfl
  | cons s ss ih =>
    rw [List.map_cons]; unfold frzL
    have : frzD (n + 1) (.int s) S = some (.int s, S) := by unfold frzD; rfl
    rw [this]
    simp [ih]
theorem frz_cells (n : Nat) : ∀ (A : List (Int × List Int)) (P : Sto), frzL (n + 2) (refsI P.length A.length) (P ++ A.map cellI) = some (A.map fun p => .lst (p.2.map .int), P ++ List.replicate A.length .gone)
  | [], P => by unfold frzL refsI; simp
  | p :: A, P => by
    have ih := frz_cells n A (P ++ [.gone])
    have e1 : refsI P.length (p :: A).length = .ref P.length :: refsI (P ++ [Ob.gone]).length A.length := by
      unfold refsI
      rw [List.length_cons, List.range_succ_eq_map, List.map_cons, List.map_map]
      congr 1
      rw [List.length_append, List.length_singleton]
      exact List.map_congr_left fun i _ => by show D.ref (P.length + (i + 1)) = D.ref (P.length + 1 + i); congr 1; omega
    rw [e1]
    unfold frzL
    have f1 : frzD (n + 2) (.ref P.length) (P ++ (p :: A).map cellI) = some (.lst (p.2.map .int), (P ++ [.gone]) ++ A.map cellI) := by
      unfold frzD
      have g : (P ++ (p :: A).map cellI)[P.length]? = some (.lst (p.2.map .int)) := by simp [cellI]
      rw [g]
      simp [frz_ints]
    rw [f1]
    simp only [Option.bind_some]
    rw [ih]
    simp [List.replicate_succ]
theorem frz_stoA (S : Sto) (A : List (Int × List Int)) : frzD 5 (.ref S.length) (stoA S A) = some (.dct false (A.map fun p => NestedKey.num p.1) (A.map fun p => .lst (p.2.map .int)), S ++ List.replicate (A.length + 1) .gone) := by
  unfold frzD
  dsimp only
  rw [stoA_at]
  dsimp only
  have e1 : (stoA S A).set S.length .gone = (S ++ [.gone]) ++ A.map cellI := by unfold stoA; simp
  have := frz_cells 2 A (S ++ [.gone])
  rw [List.length_append, List.length_singleton] at this
  rw [e1, this]
  simp [List.replicate_succ]
/-! the walk over faces -/
/-- faces by edges, told by membership -/
def Sides (A : List (Int × List Int)) (P : Int → Int → Prop) : Prop := ∀ e f, f ∈ (A.lookup e).getD [] ↔ P e f
theorem addA_sides {A : List (Int × List Int)} {P : Int → Int → Prop} (h : Sides A P) (e f : Int) : Sides (addA A e f) fun x y => P x y ∨ (x = e ∧ y = f) := fun x y => by
  rw [addA_look]
  by_cases q : x = e
  · subst q
    rw [if_pos rfl, Option.getD_some, List.mem_append, List.mem_singleton, h x y]
    simp
  · rw [if_neg q, h x y]
    simp [q]
theorem led_sides {S : Sto} {r c : Int} {x1 x2 x3 : Option D} (h : Bd r c) :
    ∃ A x5 x8, evS (gam g_led) (phi l_led) (.for_ (.nm 5) (.rng [(.call 2 [(.var 0)] [] [])]) bled_1) [some (pq r c), x1, x2, x3, some (.ref S.length), none, none, none, none, none] (stoA S []) =
      some (.nx [some (pq r c), x1, x2, x3, some (.ref S.length), x5, none, none, x8, none] (stoA S A)) ∧ A.length ≤ 100 ∧ Sides A fun e f => (0 ≤ f ∧ f < r * c) ∧ e ∈ faceI r c f := by
  obtain ⟨m4, m25⟩ := h.m
  obtain ⟨sr, sc, sm⟩ := h.sm
  have hin : inR (r * c) = true := inR_int (by omega)
  have vm := fun S => v_many_sites (S := S) (r := r) (c := c) sr
  have base : ∀ P : Int → Int → Prop, (∀ e f, ¬ P e f) → Sides [] P := fun P hP e f => by simp [hP e f]
  obtain ⟨env', S', e, ⟨a, b, rfl⟩, A, rfl, hA, _, hs⟩ := for_inv (G := gam g_led) (Φ := phi l_led) (t := .nm 5) (src := .rng [(.call 2 [(.var 0)] [] [])]) (body := bled_1) (S := stoA S []) (S0 := stoA S [])
    (fun k env S' => (∃ a b, env = [some (pq r c), x1, x2, x3, some (.ref S.length), a, none, none, b, none]) ∧ ∃ A, S' = stoA S A ∧ A.length ≤ 4 * k ∧ (∀ e l, A.lookup e = some l → l.length ≤ 4 * k) ∧ Sides A fun e f => (0 ≤ f ∧ f < k) ∧ e ∈ faceI r c f) (ds := rngD 0 (r * c).toNat) (env := [some (pq r c), x1, x2, x3, some (.ref S.length), none, none, none, none, none]) (by simp [vm, rngOf_1 hin])
    ⟨⟨_, _, rfl⟩, [], rfl, Nat.le_refl _, (fun e l z => by cases z), base _ fun e f z => by have := z.1; omega⟩ fun i d env S' hi ⟨⟨a, b, e⟩, A, e2, hA, hll, hs⟩ => by
      have hi1 : i < (r * c).toNat := by
        have := (List.getElem?_eq_some_iff.mp hi).1
        rwa [rngD_length] at this
      rw [rngD_at hi1] at hi
      have hd : d = .int (i : Int) := by simpa using hi.symm
      subst hd; subst e; subst e2
      have vf := fun S => v_face_edges (S := S) (f := (i : Int)) h
      have fk := face_ok h (f := (i : Int)) (by omega) (by omega)
      have flen : (faceI r c (i : Int)).length = 4 := rfl
      obtain ⟨env2, S2, e2, ⟨b2', rfl⟩, A2, rfl, hA2, hl2, hs2⟩ := for_inv (G := gam g_led) (Φ := phi l_led) (t := .nm 8) (src := .seq (.call 3 [(.var 0), (.var 5)] [] [])) (body := bled_2) (S := stoA S A) (S0 := stoA S A)
        (fun k env S' => (∃ b, env = [some (pq r c), x1, x2, x3, some (.ref S.length), some (.int (i : Int)), none, none, b, none]) ∧ ∃ A, S' = stoA S A ∧ A.length ≤ 4 * i + k ∧ (∀ e l, A.lookup e = some l → l.length ≤ 4 * i + k) ∧ Sides A fun e f => ((0 ≤ f ∧ f < i) ∧ e ∈ faceI r c f) ∨ (f = i ∧ e ∈ (faceI r c (i : Int)).take k)) (ds := (faceI r c (i : Int)).map .int) (env := [some (pq r c), x1, x2, x3, some (.ref S.length), some (.int (i : Int)), none, none, b, none]) (by simp [vf])
        ⟨⟨_, rfl⟩, A, rfl, by omega, (fun e l z => Nat.le_trans (hll e l z) (by omega)), fun e f => by rw [hs e f]; simp⟩ fun j d env S' hj ⟨⟨b, e⟩, B, e2, hB, hbl, hsB⟩ => by
          obtain ⟨x, hx, rfl⟩ := map_get hj
          subst e; subst e2
          have hj4 : j < 4 := by have := (List.getElem?_eq_some_iff.mp hx).1; rwa [flen] at this
          refine ⟨[some (pq r c), x1, x2, x3, some (.ref S.length), some (.int (i : Int)), none, none, some (.int x), none], [some (pq r c), x1, x2, x3, some (.ref S.length), some (.int (i : Int)), none, none, some (.int x), none], stoA S (addA B x (i : Int)), by simp, ?_, ⟨_, rfl⟩, _, rfl, Nat.le_trans (addA_len _ _ _) (by omega), fun e l z => ?_, fun e f => ?_⟩
          · have := s_side (G := gam g_led) (Φ := phi l_led) (env := [some (pq r c), x1, x2, x3, some (.ref S.length), some (.int (i : Int)), none, none, some (.int x), none]) (S := S) (A := B) (e := x) (f := (i : Int)) (by omega) (fun l z => Nat.le_trans (hbl x l z) (by omega)) rfl rfl rfl
            unfold bled_2
            rw [ss_consE, this]
            simp only [ss_nilE]
          · rw [addA_look] at z
            by_cases q : e = x
            · rw [if_pos q] at z
              cases z
              rw [List.length_append, List.length_singleton]
              cases m : B.lookup x with
              | none => simp; omega
              | some l => have := hbl x l m; simp; omega
            · rw [if_neg q] at z
              exact Nat.le_trans (hbl e l z) (by omega)
          · rw [addA_sides hsB x (i : Int) e f, List.take_succ, hx]
            simp only [Option.toList_some, List.mem_append, List.mem_singleton]
            constructor
            · rintro ((z | z) | z)
              · exact .inl z
              · exact .inr ⟨z.1, .inl z.2⟩
              · exact .inr ⟨z.2, .inr z.1⟩
            · rintro (z | ⟨z1, z2 | z2⟩)
              · exact .inl (.inl z)
              · exact .inl (.inr ⟨z1, z2⟩)
              · exact .inr ⟨z2, z1⟩
      rw [List.length_map, flen] at hA2 hl2 hs2
      refine ⟨[some (pq r c), x1, x2, x3, some (.ref S.length), some (.int (i : Int)), none, none, b, none], [some (pq r c), x1, x2, x3, some (.ref S.length), some (.int (i : Int)), none, none, b2', none], stoA S A2, by simp, ?_, ⟨_, _, rfl⟩, A2, rfl, by omega, (fun e l z => Nat.le_trans (hl2 e l z) (by omega)), fun e f => ?_⟩
      · unfold bled_1
        rw [ss_consE, e2]
        simp only [ss_nilE]
      · rw [hs2 e f, List.take_of_length_le (by rw [flen]; exact Nat.le_refl _)]
        constructor
        · rintro (⟨⟨z1, z2⟩, z3⟩ | ⟨z1, z2⟩)
          · exact ⟨⟨z1, by omega⟩, z3⟩
          · exact ⟨⟨by omega, by omega⟩, by rw [z1]; exact z2⟩
        · rintro ⟨⟨z1, z2⟩, z3⟩
          by_cases q : f = (i : Int)
          · exact .inr ⟨q, by rw [← q]; exact z3⟩
          · exact .inl ⟨⟨z1, by omega⟩, z3⟩
  rw [rngD_length] at hA hs
  refine ⟨A, a, b, e, by omega, fun e f => ?_⟩
  rw [hs e f]
  have : ((r * c).toNat : Int) = r * c := by omega
  rw [this]
/-- a while by what holds ahead of each turn, with what grows less -/
theorem whGo_inv {cnd : Env → Sto → Option (Re D)} {b : Env → Sto → Option Fl} (I : Nat → Env → Sto → Prop) (J : Env → Sto → Prop)
    (st : ∀ m env S, I m env S → (cnd env S = some (.ok (.bl false) S) ∧ J env S) ∨ (cnd env S = some (.ok (.bl true) S) ∧ ∃ m' env2 S2, b env S = some (.nx env2 S2) ∧ m' < m ∧ I m' env2 S2)) :
    ∀ (n m : Nat) (env : Env) (S : Sto), m < n → I m env S → ∃ env' S', whGo cnd b n env S = some (.nx env' S') ∧ J env' S'
  | 0, _, _, _, h, _ => absurd h (Nat.not_lt_zero _)
  | n + 1, m, env, S, h, hI => by
    rcases st m env S hI with ⟨h1, h2⟩ | ⟨h1, m', env2, S2, h2, h3, h4⟩
    · refine ⟨env, S, ?_, h2⟩
      rw [whGo, h1]; rfl
    · obtain ⟨env', S', q1, q2⟩ := whGo_inv I J st n m' env2 S2 (by omega) h4
      refine ⟨env', S', ?_, q2⟩
      rw [whGo, h1]
      show (match b env S with
        | some (.nx env2 S2) => whGo cnd b n env2 S2
        | r => r) = _
      rw [h2]; exact q1
/-- what is known, what waits -/
def kno (K : List (Int × Bool)) : Ob := .dct false (K.map fun p => NestedKey.num p.1) (K.map fun p => .bl p.2)
def stoK (S : Sto) (K : List (Int × Bool)) (W : List Int) : Sto := S ++ [kno K, .lst (W.map .int)]
theorem stoK_0 (S : Sto) (K : List (Int × Bool)) (W : List Int) : (stoK S K W)[S.length]? = some (kno K) := by simp [stoK]
theorem stoK_1 (S : Sto) (K : List (Int × Bool)) (W : List Int) : (stoK S K W)[S.length + 1]? = some (.lst (W.map .int)) := by
  unfold stoK
  rw [List.getElem?_append_right (by omega), show S.length + 1 - S.length = 1 by omega]; rfl
theorem stoK_w (S : Sto) (K : List (Int × Bool)) (W W' : List Int) : (stoK S K W).set (S.length + 1) (.lst (W'.map .int)) = stoK S K W' := by
  unfold stoK
  rw [List.set_append, if_neg (by omega), show S.length + 1 - S.length = 1 by omega]; rfl
theorem stoK_k (S : Sto) (K K' : List (Int × Bool)) (W : List Int) : (stoK S K W).set S.length (kno K') = stoK S K' W := by
  unfold stoK
  rw [List.set_append, if_neg (by omega), Nat.sub_self]; rfl
/-- the state of the walk: p says what is to be known; T: faces whose sides are still to be looked at -/
structure Walks (r c : Int) (p : Int → Bool) (K : List (Int × Bool)) (W : List Int) (T : Int → Prop) : Prop where
  nd : (K.map (·.1)).Nodup
  rng : ∀ q ∈ K, (0 ≤ q.1 ∧ q.1 < r * c) ∧ q.2 = p q.1
  zero : (0, false) ∈ K
  wk : ∀ f ∈ W, f ∈ K.map (·.1)
  done : ∀ f ∈ K.map (·.1), f ∈ W ∨ T f ∨ ∀ e g, e ∈ faceI r c f → e ∈ faceI r c g → 0 ≤ g → g < r * c → g ∈ K.map (·.1)
theorem keys_len {K : List (Int × Bool)} {n : Nat} (nd : (K.map (·.1)).Nodup) (h : ∀ q ∈ K, 0 ≤ q.1 ∧ q.1 < (n : Int)) : K.length ≤ n := by
  have c := can_sort nd
  have := c.len (n := n) (fun x hx => by
    obtain ⟨q, hq, rfl⟩ := List.mem_map.mp (mem_sort.mp hx)
    exact h q hq)
  rw [(sortI_perm _).length_eq, List.length_map] at this
  exact this
theorem look_key {K : List (Int × Bool)} {f : Int} : (K.lookup f).isSome = decide (f ∈ K.map (·.1)) := by
  induction K with
  | nil => rfl
  | cons q K ih =>
    obtain ⟨a, b⟩ := q
    rw [List.lookup_cons]
    by_cases z : f = a
    · subst z; simp
    · have : (f == a) = false := by simp [z]
      rw [this, ih]; simp [z]
theorem look_val {K : List (Int × Bool)} {p : Int → Bool} {f : Int} (h : ∀ q ∈ K, q.2 = p q.1) (hf : f ∈ K.map (·.1)) : K.lookup f = some (p f) := by
  induction K with
  | nil => cases hf
  | cons q K ih =>
    obtain ⟨a, b⟩ := q
    rw [List.lookup_cons]
    by_cases z : f = a
    · subst z
      have := h (f, b) List.mem_cons_self
      simp at this ⊢; exact this
    · have e : (f == a) = false := by simp [z]
      rw [e]
      refine ih (fun q hq => h q (List.mem_cons_of_mem _ hq)) ?_
      simpa [z] using hf
/-- one side of a face -/
theorem led_one {S : Sto} {r c : Int} {xs : List Int} {p : Int → Bool} {A : List (Int × List Int)} {x1 x2 : Option D} {f e g : Int} {K : List (Int × Bool)} {W : List Int} {T : Int → Prop} (h : Bd r c) (hp : Pot r c xs p) (w : Walks r c p K W T) (hf : f ∈ K.map (·.1)) (he : e ∈ faceI r c f) (hg : e ∈ faceI r c g) (g0 : 0 ≤ g) (g1 : g < r * c) (hW : W.length ≤ 1000) :
    ∃ K' W', evSs (gam g_led) (phi l_led) bled_4 [some (pq r c), x1, x2, some (fl xs), some (.dct false (A.map fun p => NestedKey.num p.1) (A.map fun p => .lst (p.2.map .int))), some (.int f), some (.ref S.length), some (.ref (S.length + 1)), some (.int e), some (.int g)] (stoK S K W) =
      some (.nx [some (pq r c), x1, x2, some (fl xs), some (.dct false (A.map fun p => NestedKey.num p.1) (A.map fun p => .lst (p.2.map .int))), some (.int f), some (.ref S.length), some (.ref (S.length + 1)), some (.int e), some (.int g)] (stoK S K' W')) ∧ Walks r c p K' W' T ∧ g ∈ K'.map (·.1) ∧ (∀ x ∈ K.map (·.1), x ∈ K'.map (·.1)) ∧ 2 * K.length + W'.length ≤ 2 * K'.length + W.length ∧ W'.length + K.length ≤ W.length + K'.length ∧ (W'.length ≤ W.length + 1) ∧ (K'.length = K.length ∧ W' = W ∨ K'.length = K.length + 1 ∧ W'.length = W.length + 1) := by
  have hL : LIM = 100000 := rfl
  obtain ⟨m4, m25⟩ := h.m
  have lk : ∀ x, lookD (K.map fun p => NestedKey.num p.1) (K.map fun p => .bl p.2) (.num x) = (K.lookup x).map .bl := fun x => look_map D.bl x K
  have kl : K.length ≤ 25 := Nat.le_trans (keys_len (n := (r * c).toNat) w.nd fun q hq => by have := (w.rng q hq).1; omega) (by omega)
  have v0 := vw_ref_dct (S := stoK S K W) (n := S.length) (stoK_0 S K W)
  by_cases q : g ∈ K.map (·.1)
  · have ni : evCmp .notin (.int g) (.dct false (K.map fun p => NestedKey.num p.1) (K.map fun p => .bl p.2)) = some false := by
      rw [nin_dct, lk, Option.isSome_map, look_key, decide_eq_true q]; rfl
    refine ⟨K, W, ?_, w, q, fun x hx => hx, by omega, by omega, by omega, .inl ⟨rfl, rfl⟩⟩
    unfold bled_4
    simp [-vw_ref, -osetD_ref, -appD_ref, v0, ni]
  · have ni : evCmp .notin (.int g) (.dct false (K.map fun p => NestedKey.num p.1) (K.map fun p => .bl p.2)) = some true := by
      rw [nin_dct, lk, Option.isSome_map, look_key, decide_eq_false q]; rfl
    have n : f ≠ g := fun z => q (z ▸ hf)
    obtain ⟨⟨fK, fb⟩, hfK, hfe⟩ := List.mem_map.mp hf
    have hfe : fK = f := hfe
    subst hfe
    have f01 := (w.rng _ hfK).1
    have pe := hp.edge h f01.1 f01.2 g0 g1 he hg n
    have lf := look_val (p := p) (fun q hq => (w.rng q hq).2) hf
    have ix : evIx (.dct false (K.map fun p => NestedKey.num p.1) (K.map fun p => .bl p.2)) (.int fK) = some (.bl (p fK)) := by
      rw [ix_dct, lk, lf]; rfl
    have nk : NestedKey.num g ∉ K.map fun p => NestedKey.num p.1 := fun z => by
      obtain ⟨y, hy, e⟩ := List.mem_map.mp z
      injection e with e
      exact q (e ▸ List.mem_map_of_mem hy)
    have os : ∀ env, osetD (.ref S.length) (.int g) (.bl (p g)) env (stoK S K W) = some (.nx env (stoK S (K ++ [(g, p g)]) W)) := fun env => by
      unfold osetD
      dsimp only
      rw [stoK_0]
      unfold kno
      dsimp only [toKey, toKeyF, Option.bind_some]
      rw [if_pos (by rw [List.length_map]; omega)]
      unfold storeD
      rw [if_neg nk]
      dsimp only
      have := stoK_k S K (K ++ [(g, p g)]) W
      unfold kno at this
      rw [List.map_append, List.map_append] at this
      rw [← this]; rfl
    have ap := fun env => app_lst (S := stoK S (K ++ [(g, p g)]) W) (env := env) (v := .int g) (stoK_1 S _ W) (by rw [List.length_map]; omega)
    have v1 := vw_ref_lst (stoK_1 S (K ++ [(g, p g)]) W)
    have sw : (stoK S (K ++ [(g, p g)]) W).set (S.length + 1) (.lst (W.map .int ++ [.int g])) = stoK S (K ++ [(g, p g)]) (W ++ [g]) := by
      have := stoK_w S (K ++ [(g, p g)]) W (W ++ [g])
      rw [List.map_append] at this; exact this
    rw [sw] at ap
    have nb := ne_bl (p fK) (decide (e ∈ xs))
    rw [← pe] at nb
    have ii : evCmp .isin (.int e) (fl xs) = some (decide (e ∈ xs)) := in_tups _ _
    refine ⟨K ++ [(g, p g)], W ++ [g], ?_, ?_, by simp, fun x hx => by rw [List.map_append]; exact List.mem_append_left _ hx, by simp; omega, by simp; omega, by simp, .inr ⟨by simp, by simp⟩⟩
    · unfold bled_4
      generalize decide (e ∈ xs) = B at *
      simp [-vw_ref, -osetD_ref, -appD_ref, -in_tups, -ne_bl, v0, ni, ii, ix, nb, os, v1, ap]
    · refine ⟨?_, ?_, List.mem_append_left _ w.zero, ?_, ?_⟩
      · rw [List.map_append]
        exact List.nodup_append.mpr ⟨w.nd, by simp, fun a ha b hb => fun z => q (by
          have : b = g := by simpa using hb
          rw [← this, ← z]; exact ha)⟩
      · intro x hx
        rcases List.mem_append.mp hx with z | z
        · exact w.rng x z
        · rw [List.mem_singleton.mp z]; exact ⟨⟨g0, g1⟩, rfl⟩
      · intro x hx
        rw [List.map_append]
        rcases List.mem_append.mp hx with z | z
        · exact List.mem_append_left _ (w.wk x z)
        · rw [List.mem_singleton.mp z]; simp
      · intro x hx
        rw [List.map_append] at hx ⊢
        rcases List.mem_append.mp hx with z | z
        · rcases w.done x z with z2 | z2 | z2
          · exact .inl (List.mem_append_left _ z2)
          · exact .inr (.inl z2)
          · exact .inr (.inr fun e g a b c d => List.mem_append_left _ (z2 e g a b c d))
        · have : x = g := by simpa using z
          exact .inl (by rw [this]; simp)
/-- one edge of a face -/
theorem led_edge {S : Sto} {r c : Int} {xs : List Int} {p : Int → Bool} {A : List (Int × List Int)} {x1 x2 x9 : Option D} {f e : Int} {K : List (Int × Bool)} {W : List Int} {T : Int → Prop} (h : Bd r c) (hp : Pot r c xs p) (w : Walks r c p K W T) (hf : f ∈ K.map (·.1)) (he : e ∈ faceI r c f) (f0 : 0 ≤ f) (f1 : f < r * c) (hW : W.length ≤ K.length) (hs : Sides A fun e f => (0 ≤ f ∧ f < r * c) ∧ e ∈ faceI r c f) :
    ∃ K' W' x9', evSs (gam g_led) (phi l_led) bled_3 [some (pq r c), x1, x2, some (fl xs), some (.dct false (A.map fun p => NestedKey.num p.1) (A.map fun p => .lst (p.2.map .int))), some (.int f), some (.ref S.length), some (.ref (S.length + 1)), some (.int e), x9] (stoK S K W) =
      some (.nx [some (pq r c), x1, x2, some (fl xs), some (.dct false (A.map fun p => NestedKey.num p.1) (A.map fun p => .lst (p.2.map .int))), some (.int f), some (.ref S.length), some (.ref (S.length + 1)), some (.int e), x9'] (stoK S K' W')) ∧ Walks r c p K' W' T ∧ (∀ g, e ∈ faceI r c g → 0 ≤ g → g < r * c → g ∈ K'.map (·.1)) ∧ (∀ x ∈ K.map (·.1), x ∈ K'.map (·.1)) ∧ K.length ≤ K'.length ∧ W'.length + K.length = W.length + K'.length := by
  obtain ⟨m4, m25⟩ := h.m
  have hfe := (hs e f).mpr ⟨⟨f0, f1⟩, he⟩
  obtain ⟨l, hl⟩ : ∃ l, A.lookup e = some l := by
    cases m : A.lookup e with
    | none => rw [m] at hfe; cases hfe
    | some l => exact ⟨l, rfl⟩
  have hle : ∀ g, g ∈ l ↔ (0 ≤ g ∧ g < r * c) ∧ e ∈ faceI r c g := fun g => by have := hs e g; rw [hl] at this; exact this
  have ix : evIx (.dct false (A.map fun p => NestedKey.num p.1) (A.map fun p => .lst (p.2.map .int))) (.int e) = some (.lst (l.map .int)) := by
    rw [ix_dct, look_map (fun l : List Int => D.lst (l.map .int)) e A, hl]; rfl
  have kl : ∀ {K W T}, Walks r c p K W T → K.length ≤ 25 := fun w => Nat.le_trans (keys_len (n := (r * c).toNat) w.nd fun q hq => by have := (w.rng q hq).1; omega) (by omega)
  obtain ⟨env', S', ee, K', W', ⟨a, rfl⟩, rfl, w', hk, hsub, hlen, hWl⟩ := for_inv (G := gam g_led) (Φ := phi l_led) (t := .nm 9) (src := .seq (.ix (.var 4) (.var 8))) (body := bled_4) (S := stoK S K W) (S0 := stoK S K W)
    (fun i env S' => ∃ K' W', (∃ a, env = [some (pq r c), x1, x2, some (fl xs), some (.dct false (A.map fun p => NestedKey.num p.1) (A.map fun p => .lst (p.2.map .int))), some (.int f), some (.ref S.length), some (.ref (S.length + 1)), some (.int e), a]) ∧ S' = stoK S K' W' ∧ Walks r c p K' W' T ∧ (∀ g ∈ l.take i, g ∈ K'.map (·.1)) ∧ (∀ x ∈ K.map (·.1), x ∈ K'.map (·.1)) ∧ K.length ≤ K'.length ∧ W'.length + K.length = W.length + K'.length)
    (ds := l.map .int) (env := [some (pq r c), x1, x2, some (fl xs), some (.dct false (A.map fun p => NestedKey.num p.1) (A.map fun p => .lst (p.2.map .int))), some (.int f), some (.ref S.length), some (.ref (S.length + 1)), some (.int e), x9]) (by simp [ix]) ⟨K, W, ⟨_, rfl⟩, rfl, w, (fun g hg => by simp at hg), fun x hx => hx, Nat.le_refl _, rfl⟩ fun i d env S' hi ⟨K1, W1, ⟨a, e2⟩, e3, w1, hk1, hs1, hl1, hw1⟩ => by
      obtain ⟨g, hg, rfl⟩ := map_get hi
      subst e2; subst e3
      have gl := (hle g).mp (List.mem_of_getElem? hg)
      have k25 := kl w1
      obtain ⟨K2, W2, e4, w2, hk2, hs2, _, _, _, hor⟩ := led_one (S := S) (A := A) (x1 := x1) (x2 := x2) h hp w1 (hs1 f hf) he gl.2 gl.1.1 gl.1.2 (by omega)
      have hlast : W2.length + K.length = W.length + K2.length := by
        rcases hor with ⟨z1, z2⟩ | ⟨z1, z2⟩
        · rw [z2]; omega
        · omega
      refine ⟨_, _, _, by simp, e4, K2, W2, ⟨_, rfl⟩, rfl, w2, fun y hy => ?_, fun x hx => hs2 x (hs1 x hx), by omega, hlast⟩
      rw [List.take_succ, hg] at hy
      rcases List.mem_append.mp hy with z | z
      · exact hs2 y (hk1 y z)
      · have : y = g := by simpa using z
        rw [this]; exact hk2
  rw [List.length_map, List.take_length] at hk
  refine ⟨K', W', a, ?_, w', fun g hg g0 g1 => hk g ((hle g).mpr ⟨⟨g0, g1⟩, hg⟩), hsub, hlen, hWl⟩
  unfold bled_3
  rw [ss_consE, ee]
  simp only [ss_nilE]
/-- all faces are reached -/
theorem reach {R C : Nat} (h : Bd R C) {P : Int → Prop} (h0 : P 0) (hr : ∀ s, 0 ≤ s → s < (R : Int) * C → P s → P (rightI C s)) (hb : ∀ s, 0 ≤ s → s < (R : Int) * C → P s → P (belowI R C s)) : ∀ s, 0 ≤ s → s < (R : Int) * C → P s := fun s s0 s1 => by
  have hC : 0 < C := by have := h.c2; omega
  have lt : ∀ i j, i < R → j < C → ((i * C + j : Nat) : Int) < (R : Int) * (C : Int) := fun i j hi hj => by
    have : (i + 1) * C ≤ R * C := Nat.mul_le_mul_right _ (by omega)
    rw [Nat.add_mul] at this
    have e2 : ((R : Int) * (C : Int)) = ((R * C : Nat) : Int) := by simp
    omega
  have row : ∀ i, i < R → P ((i * C : Nat) : Int) → ∀ j, j < C → P ((i * C + j : Nat) : Int) := fun i hi hP j => by
    induction j with
    | zero => intro _; exact hP
    | succ j ih =>
      intro hj
      have := hr _ (by omega) (lt i j hi (by omega)) (ih (by omega))
      rw [right_ij (by omega), Nat.mod_eq_of_lt hj] at this
      exact this
  have col : ∀ i, i < R → P ((i * C : Nat) : Int) := fun i => by
    induction i with
    | zero => intro _; simpa using h0
    | succ i ih =>
      intro hi
      have := hb _ (by omega) (by have := lt i 0 (by omega) hC; simpa using this) (ih (by omega))
      have b := below_ij (R := R) (C := C) (i := i) (j := 0) (by omega) hC
      rw [Nat.add_zero] at b
      rw [b, Nat.mod_eq_of_lt hi, Nat.add_zero] at this
      exact this
  obtain ⟨i, j, hi, hj, rfl⟩ := site_ij s0 s1
  exact row i hi (col i hi) j hj
/-- the whole walk -/
theorem led_walk {S : Sto} {R C : Nat} {xs : List Int} {p : Int → Bool} {A : List (Int × List Int)} {x1 x2 x5 x8 x9 : Option D} (h : Bd R C) (hp : Pot R C xs p) (p0 : p 0 = false) (hs : Sides A fun e f => (0 ≤ f ∧ f < (R : Int) * C) ∧ e ∈ faceI R C f) :
    ∃ K x5' x8' x9', evS (gam g_led) (phi l_led) (.whl 1000 (.cmp .ne (.var 7) (.lst [])) [.asg1 5 (.popL (.var 7)), .for_ (.nm 8) (.seq (.call 3 [(.var 0), (.var 5)] [] [])) bled_3])
      [some (pq R C), x1, x2, some (fl xs), some (.dct false (A.map fun p => NestedKey.num p.1) (A.map fun p => .lst (p.2.map .int))), x5, some (.ref S.length), some (.ref (S.length + 1)), x8, x9] (stoK S [(0, false)] [0]) =
      some (.nx [some (pq R C), x1, x2, some (fl xs), some (.dct false (A.map fun p => NestedKey.num p.1) (A.map fun p => .lst (p.2.map .int))), x5', some (.ref S.length), some (.ref (S.length + 1)), x8', x9'] (stoK S K [])) ∧ (K.map (·.1)).Nodup ∧ (∀ q ∈ K, (0 ≤ q.1 ∧ q.1 < (R : Int) * C) ∧ q.2 = p q.1) ∧ ∀ f, 0 ≤ f → f < (R : Int) * C → f ∈ K.map (·.1) := by
  obtain ⟨m4, m25⟩ := h.m
  have hL : LIM = 100000 := rfl
  have kl : ∀ {K W T}, Walks R C p K W T → K.length ≤ 25 := fun w => Nat.le_trans (keys_len (n := ((R : Int) * C).toNat) w.nd fun q hq => by have := (w.rng q hq).1; omega) (by omega)
  have w0 : Walks R C p [(0, false)] [0] (fun _ => False) := ⟨by simp, fun q hq => by rw [List.mem_singleton.mp hq]; exact ⟨⟨Int.le_refl _, by show (0 : Int) < _; omega⟩, p0.symm⟩, List.mem_singleton.mpr rfl, fun f hf => by simpa using hf, fun f hf => .inl (by simpa using hf)⟩
  rw [s_whlE]
  obtain ⟨env', S', e, K, ⟨a, b, d, rfl⟩, rfl, w⟩ := whGo_inv (cnd := fun e s => evE (gam g_led) (phi l_led) (.cmp .ne (.var 7) (.lst [])) e s) (b := fun e s => evSs (gam g_led) (phi l_led) [.asg1 5 (.popL (.var 7)), .for_ (.nm 8) (.seq (.call 3 [(.var 0), (.var 5)] [] [])) bled_3] e s)
    (fun m env S' => ∃ K W, (∃ a b d, env = [some (pq R C), x1, x2, some (fl xs), some (.dct false (A.map fun p => NestedKey.num p.1) (A.map fun p => .lst (p.2.map .int))), a, some (.ref S.length), some (.ref (S.length + 1)), b, d]) ∧ S' = stoK S K W ∧ Walks R C p K W (fun _ => False) ∧ W.length ≤ K.length ∧ m + 2 * K.length = 100 + W.length)
    (fun env S' => ∃ K, (∃ a b d, env = [some (pq R C), x1, x2, some (fl xs), some (.dct false (A.map fun p => NestedKey.num p.1) (A.map fun p => .lst (p.2.map .int))), a, some (.ref S.length), some (.ref (S.length + 1)), b, d]) ∧ S' = stoK S K [] ∧ Walks R C p K [] (fun _ => False))
    (fun m env S' ⟨K, W, ⟨a, b, d, e1⟩, e2, w, hWK, hm⟩ => by
      subst e1; subst e2
      have vw1 := vw_ref_lst (stoK_1 S K W)
      have l0 : (0 : Nat) ≤ LIM := Nat.zero_le _
      by_cases hW : W = []
      · subst hW
        left
        have nl := ne_lsti [] []
        refine ⟨?_, K, ⟨_, _, _, rfl⟩, rfl, w⟩
        have vw1 : vw (stoK S K []) (.ref (S.length + 1)) = .lst [] := vw1
        have nl : evCmp .ne (.lst []) (.lst []) = some false := nl
        simp [-vw_ref, -appD_ref, vw1, nl]
      · right
        obtain ⟨W', f, hWf⟩ : ∃ W' f, W = W' ++ [f] := ⟨W.dropLast, W.getLast hW, (List.dropLast_concat_getLast hW).symm⟩
        subst hWf
        have nl : evCmp .ne (.lst ((W' ++ [f]).map .int)) (.lst []) = some true := by
          have := ne_lsti (W' ++ [f]) []
          rw [decide_eq_false (by simp)] at this; exact this
        have pop : popD (.ref (S.length + 1)) (stoK S K (W' ++ [f])) = some (.ok (.int f) (stoK S K W')) := by
          unfold popD
          dsimp only
          rw [stoK_1]
          dsimp only
          have e1 : ((W' ++ [f]).map D.int)[((W' ++ [f]).map D.int).length - 1]? = some (.int f) := by simp
          rw [e1]
          dsimp only
          have e2 : ((W' ++ [f]).map D.int).dropLast = W'.map .int := by simp
          rw [e2, stoK_w]
        have hfK := w.wk f (by simp)
        obtain ⟨⟨fK, fb⟩, hq, hfe⟩ := List.mem_map.mp hfK
        have hfe : fK = f := hfe
        subst hfe
        have f01 := (w.rng _ hq).1
        have w1 : Walks R C p K W' (fun x => x = fK) := ⟨w.nd, w.rng, w.zero, fun x hx => w.wk x (List.mem_append_left _ hx), fun x hx => by
          rcases w.done x hx with z | z | z
          · rcases List.mem_append.mp z with z | z
            · exact .inl z
            · exact .inr (.inl (by simpa using z))
          · exact z.elim
          · exact .inr (.inr z)⟩
        have vf := fun S => v_face_edges (S := S) (f := fK) h
        have fk := face_ok h f01.1 f01.2
        obtain ⟨env2, S2, e3, K2, W2, ⟨b2', d2', rfl⟩, rfl, w2, hk2, hs2, hl2, hw2⟩ := for_inv (G := gam g_led) (Φ := phi l_led) (t := .nm 8) (src := .seq (.call 3 [(.var 0), (.var 5)] [] [])) (body := bled_3) (S := stoK S K W') (S0 := stoK S K W')
          (fun i env S' => ∃ K' W2, (∃ b d, env = [some (pq R C), x1, x2, some (fl xs), some (.dct false (A.map fun p => NestedKey.num p.1) (A.map fun p => .lst (p.2.map .int))), some (.int fK), some (.ref S.length), some (.ref (S.length + 1)), b, d]) ∧ S' = stoK S K' W2 ∧ Walks R C p K' W2 (fun x => x = fK) ∧ (∀ e g, e ∈ (faceI R C fK).take i → e ∈ faceI R C g → 0 ≤ g → g < (R : Int) * C → g ∈ K'.map (·.1)) ∧ (∀ x ∈ K.map (·.1), x ∈ K'.map (·.1)) ∧ K.length ≤ K'.length ∧ W2.length + K.length = W'.length + K'.length)
          (ds := (faceI R C fK).map .int) (env := [some (pq R C), x1, x2, some (fl xs), some (.dct false (A.map fun p => NestedKey.num p.1) (A.map fun p => .lst (p.2.map .int))), some (.int fK), some (.ref S.length), some (.ref (S.length + 1)), b, d]) (by simp [vf]) ⟨K, W', ⟨_, _, rfl⟩, rfl, w1, (fun e g he => by simp at he), fun x hx => hx, Nat.le_refl _, rfl⟩ fun i dd env S' hi ⟨K1, W1, ⟨b, d, e4⟩, e5, w1', hk1, hs1, hl1, hw1⟩ => by
            obtain ⟨x, hx, rfl⟩ := map_get hi
            subst e4; subst e5
            have hWl : (W' ++ [fK]).length = W'.length + 1 := by simp
            obtain ⟨K3, W3, x9', e6, w3, hk3, hs3, hl3, hw3⟩ := led_edge (S := S) (A := A) (x1 := x1) (x2 := x2) (x9 := d) h hp w1' (hs1 fK hfK) (List.mem_of_getElem? hx) f01.1 f01.2 (by omega) hs
            refine ⟨_, _, _, by simp, e6, K3, W3, ⟨_, _, rfl⟩, rfl, w3, fun e g he hg g0 g1 => ?_, fun x hx => hs3 x (hs1 x hx), by omega, by omega⟩
            rw [List.take_succ, hx] at he
            rcases List.mem_append.mp he with z | z
            · exact hs3 g (hk1 e g z hg g0 g1)
            · have : e = x := by simpa using z
              subst this
              exact hk3 g hg g0 g1
        have hWl : (W' ++ [fK]).length = W'.length + 1 := by simp
        have k25 := kl w2
        refine ⟨?_, 100 + W2.length - 2 * K2.length, _, stoK S K2 W2, ?_, by omega, K2, W2, ⟨some (.int fK), b2', d2', rfl⟩, rfl, ?_, by omega, by omega⟩
        · have vw1 : vw (stoK S K (W' ++ [fK])) (.ref (S.length + 1)) = .lst ((W' ++ [fK]).map .int) := vw1
          generalize (W' ++ [fK]).map D.int = T at *
          simp [-vw_ref, -appD_ref, vw1, nl]
        · simp [-vw_ref, -appD_ref, pop, e3]
        · have hk2' : ∀ e g, e ∈ faceI R C fK → e ∈ faceI R C g → 0 ≤ g → g < (R : Int) * C → g ∈ K2.map (·.1) := fun e g he hg g0 g1 => hk2 e g (by rw [List.length_map, List.take_length]; exact he) hg g0 g1
          exact ⟨w2.nd, w2.rng, w2.zero, w2.wk, fun x hx => by
            rcases w2.done x hx with z | z | z
            · exact .inl z
            · exact .inr (.inr (by rw [z]; exact hk2'))
            · exact .inr (.inr z)⟩) 1000 99 _ (stoK S [(0, false)] [0]) (by decide) ⟨[(0, false)], [0], ⟨x5, x8, x9, rfl⟩, rfl, w0, Nat.le_refl _, rfl⟩
  refine ⟨K, a, b, d, e, w.nd, w.rng, ?_⟩
  have dn : ∀ f ∈ K.map (·.1), ∀ e g, e ∈ faceI R C f → e ∈ faceI R C g → 0 ≤ g → g < (R : Int) * C → g ∈ K.map (·.1) := fun f hf => by
    rcases w.done f hf with z | z | z
    · cases z
    · exact z.elim
    · exact z
  refine reach h (P := fun f => f ∈ K.map (·.1)) (List.mem_map_of_mem w.zero) (fun s s0 s1 hP => ?_) fun s s0 s1 hP => ?_
  · have st := step_ok h s0 s1
    exact dn s hP (2 * rightI C s + 1) _ (mem_face.mpr (by simp)) (mem_face.mpr (by simp)) st.r0 st.r1
  · have st := step_ok h s0 s1
    exact dn s hP (2 * belowI R C s) _ (mem_face.mpr (by simp)) (mem_face.mpr (by simp)) st.b0 st.b1
/-- flips that aren't alike -/
theorem v_led_no {S : Sto} {r c : Int} {xs ys : List Int} (h : Bd r c) (f : Fls r c xs) (g : Fls r c ys) (hn : alikeB r c xs ys = false) : f_led [pq r c, fl xs, fl ys] S = some (.ok .non S) := by
  have va := fun S => v_are_alike (S := S) h f g
  rw [hn] at va
  unfold f_led b_led
  simp [va]
/-- flips that are -/
theorem v_led {S : Sto} {R C : Nat} {xs ys : List Int} {p : Int → Bool} (h : Bd R C) (f : Fls R C xs) (g : Fls R C ys) (hn : alikeB R C xs ys = true) (hp : Pot R C (symI xs ys) p) (p0 : p 0 = false) : ∃ J, f_led [pq R C, fl xs, fl ys] S = some (.ok (fl ((rngI ((R : Int) * C).toNat).filter p)) (S ++ J)) := by
  have hL : LIM = 100000 := rfl
  obtain ⟨m4, m25⟩ := h.m
  have va := fun S => v_are_alike (S := S) h f g
  rw [hn] at va
  have l1 := f.len h
  have l2 := g.len h
  have l3 := (f.sym g).len h
  have vb := fun S => v_both (S := S) f.can.nd g.can.nd (by omega) (by omega) (by omega)
  obtain ⟨A, x5, x8, e1, hA, hs⟩ := led_sides (S := S) (x1 := some (fl xs)) (x2 := some (fl ys)) (x3 := some (fl (symI xs ys))) h
  have fz := frz_stoA S A
  obtain ⟨K, y5, y8, y9, e2, nd, rng, all⟩ := led_walk (S := S ++ List.replicate (A.length + 1) Ob.gone) (x1 := some (fl xs)) (x2 := some (fl ys)) (x5 := x5) (x8 := x8) (x9 := none) h hp p0 hs
  generalize hS1 : S ++ List.replicate (A.length + 1) Ob.gone = S1 at *
  have kl : K.length ≤ 25 := Nat.le_trans (keys_len (n := ((R : Int) * C).toNat) nd fun q hq => by have := (rng q hq).1; omega) (by omega)
  have fk : frzD 5 (.ref S1.length) (stoK S1 K []) = some (.dct false (K.map fun p => NestedKey.num p.1) (K.map fun p => .bl p.2), S1 ++ [.gone, .lst []]) := by
    unfold frzD
    dsimp only
    rw [stoK_0]
    unfold kno
    dsimp only
    have fb : ∀ (l : List (Int × Bool)) (S : Sto), frzL 4 (l.map fun p => .bl p.2) S = some (l.map fun p => .bl p.2, S) := fun l S => by
      induction l with
      | nil => unfold frzL; rfl
      | cons s ss ih =>
        rw [List.map_cons]; unfold frzL
        have : frzD 4 (.bl s.2) S = some (.bl s.2, S) := by unfold frzD; rfl
        rw [this]
        simp [ih]
    rw [fb]
    simp [stoK]
  have srt : evBi .sorted [.dct false (K.map fun p => NestedKey.num p.1) (K.map fun p => .bl p.2)] = some (.lst ((sortI (K.map (·.1))).map .int)) := by
    have tn : ∀ l : List (Int × Bool), toNums (l.map fun p => NestedKey.num p.1) = some (l.map (·.1)) := fun l => by
      induction l with
      | nil => rfl
      | cons q l ih => rw [List.map_cons, toNums, ih]; rfl
    show (toNums _).bind _ = _
    rw [tn]
    exact if_pos (by rw [List.length_map]; omega)
  have es : sortI (K.map (·.1)) = rngI ((R : Int) * C).toNat := (can_sort nd).ext (can_rngI _) fun k => by
    rw [mem_sort, mem_rngI]
    constructor
    · intro z
      obtain ⟨q, hq, rfl⟩ := List.mem_map.mp z
      have := (rng q hq).1
      omega
    · intro z
      exact all k z.1 (by omega)
  rw [es] at srt
  have lcv := lc_val (G := gam g_led) (Φ := phi l_led) (S := S1 ++ [.gone, .lst []]) (vs := [5]) (t := .nm 5) (src := .seq (.bi .sorted [(.var 6)])) (c := cled_1) (elt := xled_1) (env := [some (pq R C), some (fl xs), some (fl ys), some (fl (symI xs ys)), some (.dct false (A.map fun p => NestedKey.num p.1) (A.map fun p => .lst (p.2.map .int))), y5, some (.dct false (K.map fun p => NestedKey.num p.1) (K.map fun p => .bl p.2)), some (.ref (S1.length + 1)), y8, y9]) (ds := (rngI ((R : Int) * C).toNat).map .int)
    (fun d => match d with | .int k => p k | _ => false) id (((rngI ((R : Int) * C).toNat).filter p).map .int) (by simp [srt]) (fun d hd => by
      obtain ⟨k, hk, rfl⟩ := List.mem_map.mp hd
      have hk := mem_rngI.mp hk
      have lk := look_map D.bl k K
      rw [look_val (p := p) (fun q hq => (rng q hq).2) (all k hk.1 (by omega))] at lk
      have ix : evIx (.dct false (K.map fun p => NestedKey.num p.1) (K.map fun p => .bl p.2)) (.int k) = some (.bl (p k)) := by
        rw [ix_dct, lk]; rfl
      exact ⟨[some (pq R C), some (fl xs), some (fl ys), some (fl (symI xs ys)), some (.dct false (A.map fun p => NestedKey.num p.1) (A.map fun p => .lst (p.2.map .int))), some (.int k), some (.dct false (K.map fun p => NestedKey.num p.1) (K.map fun p => .bl p.2)), some (.ref (S1.length + 1)), y8, y9], by simp, by simp [cled_1, ix], fun _ => by simp [xled_1]⟩) (by
      rw [List.map_id, List.filter_map]; rfl) (by
      rw [List.length_map]
      refine Nat.le_trans (List.length_filter_le _ _) ?_
      have : (rngI ((R : Int) * C).toNat).length = ((R : Int) * C).toNat := by simp [rngI]
      omega)
  have sk : S1 ++ [kno [(0, false)]] ++ [.lst [.int 0]] = stoK S1 [(0, false)] [0] := by unfold stoK; simp
  have sA : S ++ [Ob.dct false [] []] = stoA S [] := by unfold stoA refsI; simp
  refine ⟨List.replicate (A.length + 1) Ob.gone ++ [.gone, .lst []], ?_⟩
  rw [← List.append_assoc, hS1]
  have sk' : S1 ++ [Ob.dct false [.num 0] [.bl false], .lst [.int 0]] = stoK S1 [(0, false)] [0] := rfl
  have l1L : 1 ≤ LIM := by omega
  unfold f_led b_led
  generalize (A.map fun p => NestedKey.num p.1) = A1 at *
  generalize (A.map fun p => D.lst (p.2.map .int)) = A2 at *
  generalize (K.map fun p => NestedKey.num p.1) = K1 at *
  generalize (K.map fun p => D.bl p.2) = K2 at *
  simp [-vw_ref, -osetD_ref, -appD_ref, va, vb, dspD, sA, e1, fz, toKeyF, sk', l1L, e2, fk, lcv]
end Sf

/-! Sf.Leds: led, of turned flips and of others. -/
namespace Sf
open PySem L2

theorem RowAt.snoc {S J : Sto} {n : Nat} (h : RowAt S n) : RowAt (S ++ J) n := by
  obtain ⟨ns, p, s, c, e, r⟩ := h
  exact ⟨ns, p, s, c, by rw [List.getElem?_append_left (List.getElem?_eq_some_iff.mp e).1]; exact e, r⟩
theorem sym_turn_lit {r c : Int} {xs fs : List Int} (h : Bd r c) (f : Fls r c xs) (g : Fcs r c fs) : litI r c (symI xs (turnI r c xs fs)) = [] := by
  have ft := turn_fls h f g.bel
  refine dec_ext (lit_can h (f.sym ft).bel) Can.nil fun k => ?_
  rw [lit_mem h (f.sym ft).bel, par_sym f.can.nd ft.can.nd, par_turn h (fun g h0 h1 => face_dark h h0 h1 k) f g.bel, Bool.xor_self]
  exact (decide_eq_false (by simp)).symm
theorem alike_turn {r c : Int} {xs fs : List Int} (h : Bd r c) (f : Fls r c xs) (g : Fcs r c fs) : alikeB r c xs (turnI r c xs fs) = true := by
  have ft := turn_fls h f g.bel
  unfold alikeB
  rw [sym_turn_lit h f g, par_sym f.can.nd ft.can.nd, par_sym f.can.nd ft.can.nd, par_turn h (fun g h0 h1 => (face_seams h h0 h1).1) f g.bel, par_turn h (fun g h0 h1 => (face_seams h h0 h1).2) f g.bel, Bool.xor_self, Bool.xor_self]
  rfl
/-- behind flips that were turned, others -/
theorem alike_more {r c : Int} {xs fs zs : List Int} (h : Bd r c) (f : Fls r c xs) (g : Fcs r c fs) (z : Fls r c zs) : alikeB r c xs (symI (turnI r c xs fs) zs) = (decide (litI r c zs = []) && (!par (seamA c) zs && !par (seamB r c) zs)) := by
  have ft := turn_fls h f g.bel
  have fz := ft.sym z
  have key : ∀ p : Int → Bool, (∀ f, 0 ≤ f → f < r * c → par p (faceI r c f) = false) → par p (symI xs (symI (turnI r c xs fs) zs)) = par p zs := fun p hp => by
    rw [par_sym f.can.nd fz.can.nd, par_sym ft.can.nd z.can.nd, par_turn h hp f g.bel, ← Bool.xor_assoc, Bool.xor_self, Bool.false_xor]
  have el : litI r c (symI xs (symI (turnI r c xs fs) zs)) = litI r c zs := dec_ext (lit_can h (f.sym fz).bel) (lit_can h z.bel) fun k => by
    rw [lit_mem h (f.sym fz).bel, lit_mem h z.bel]
    exact key _ fun g h0 h1 => face_dark h h0 h1 k
  unfold alikeB
  rw [el, key _ fun g h0 h1 => (face_seams h h0 h1).1, key _ fun g h0 h1 => (face_seams h h0 h1).2]
/-- the faces that lead: those turned, or all others -/
def dueI (r c : Int) (fs : List Int) : List Int := if 0 ∈ fs then (rngI (r * c).toNat).filter (fun k => !decide (k ∈ fs)) else fs
theorem due_is {r c : Int} {fs : List Int} (h : Bd r c) (g : Fcs r c fs) : (rngI (r * c).toNat).filter (fun f => xor (decide (f ∈ fs)) (decide ((0 : Int) ∈ fs))) = dueI r c fs := by
  unfold dueI
  by_cases q : (0 : Int) ∈ fs
  · rw [if_pos q, decide_eq_true q]
    congr 1
    funext f
    cases decide (f ∈ fs) <;> rfl
  · rw [if_neg q, decide_eq_false q]
    refine Can.ext ((can_rngI _).filter _) g.can fun k => ?_
    rw [List.mem_filter, mem_rngI, Bool.xor_false, decide_eq_true_eq]
    exact ⟨fun z => z.2, fun z => ⟨by have := g.bel k z; omega, z⟩⟩
theorem due_fcs {r c : Int} (h : Bd r c) (p : Int → Bool) : Fcs r c ((rngI (r * c).toNat).filter p) := ⟨(can_rngI _).filter _, fun k hk => by have := mem_rngI.mp (List.mem_filter.mp hk).1; omega⟩
theorem v_led_turn {S : Sto} {R C : Nat} {xs fs : List Int} (h : Bd R C) (f : Fls R C xs) (g : Fcs R C fs) : ∃ J, f_led [pq R C, fl xs, fl (turnI R C xs fs)] S = some (.ok (fl (dueI R C fs)) (S ++ J)) := by
  have hp := pot_turn h f g (decide ((0 : Int) ∈ fs))
  obtain ⟨J, e⟩ := v_led (S := S) h f (turn_fls h f g.bel) (alike_turn h f g) hp (by simp)
  rw [due_is h g] at e
  exact ⟨J, e⟩
theorem turn_due {R C : Nat} {xs fs : List Int} (h : Bd R C) (f : Fls R C xs) (g : Fcs R C fs) : turnI R C xs (dueI R C fs) = turnI R C xs fs := by
  have hp := pot_turn h f g (decide ((0 : Int) ∈ fs))
  rw [← due_is h g]
  exact pot_lead h f (turn_fls h f g.bel) hp
/-- alike flips are led to one another -/
theorem v_led_any {S : Sto} {R C : Nat} {xs ys : List Int} (h : Bd R C) (f : Fls R C xs) (g : Fls R C ys) (ha : alikeB R C xs ys = true) : ∃ fs J, f_led [pq R C, fl xs, fl ys] S = some (.ok (fl fs) (S ++ J)) ∧ Fcs R C fs ∧ (0 : Int) ∉ fs ∧ turnI R C xs fs = ys := by
  unfold alikeB at ha
  obtain ⟨h1, h2⟩ := Bool.and_eq_true_iff.mp ha
  obtain ⟨h3, h4⟩ := Bool.and_eq_true_iff.mp h2
  obtain ⟨p, hp, p0⟩ := pot_of h (f.sym g) (of_decide_eq_true h1) (by simpa using h3) (by simpa using h4)
  obtain ⟨J, e⟩ := v_led (S := S) h f g ha hp p0
  refine ⟨_, J, e, due_fcs h p, fun z => ?_, pot_lead h f g hp⟩
  have := (List.mem_filter.mp z).2
  rw [p0] at this; cases this
end Sf

/-! k20: the law's value. -/
namespace Sf
open PySem L2
/-! _law_apart: _law_one, _law_other, _law_k -/
def claw_apart_1 : E := (.cmp .notin (.var 2) (.var 1))
def xlaw_apart_1 : E := (.var 2)
def claw_apart_2 : E := (.cmp .notin (.var 2) (.var 0))
def xlaw_apart_2 : E := (.var 2)
def b_law_apart : List S :=
  [.ret (.bi .tuple [(.bi .sorted [(.op .add (.lc [2] (.nm 2) (.seq (.var 0)) claw_apart_1 xlaw_apart_1) (.lc [2] (.nm 2) (.seq (.var 1)) claw_apart_2 xlaw_apart_2))])])]
def l_law_apart : FnL := []
def g_law_apart : GlL := []
def f_law_apart : FnSem := runF (gam g_law_apart) (phi l_law_apart) 3 b_law_apart
/-! _law_is_led: _law_row, _law_board_here, _law_one, _law_other, _law_told, _law_alike, _law_line, _law_loop, _law_k -/
def xlaw_is_led_1 : E := (.op .mul (.int 2) (.op .add (.op .mul (.var 6) (.ix (.var 1) (.int 1))) (.var 8)))
def b_law_is_led : List S :=
  [.asg1 3 (.call 0 [(.var 0), (.var 1)] [] []),
  .asg1 4 (.call 1 [(.var 1), (.var 2), (.var 3)] [] []),
  .asg1 5 (.bop true [(.cmp .eq (.call 2 [(.var 1), (.var 2)] [] []) (.call 2 [(.var 1), (.var 3)] [] [])), (.cmp .eq (.call 3 [(.var 1), (.var 2)] [] []) (.call 3 [(.var 1), (.var 3)] [] []))]),
  .ife (.bop false [(.cmp .eq (.isN false (.var 4)) (.var 5)), (.bop true [(.isN true (.var 4)), (.cmp .ne (.call 4 [(.var 1), (.var 2), (.var 4)] [] []) (.var 3))])])
   [.ret (.bl false)]
   [],
  .asg1 6 (.call 5 [(.var 0), (.ix (.var 1) (.int 0))] [] []),
  .asg1 7 (.bi .tuple [(.lc [8] (.nm 8) (.rng [(.ix (.var 1) (.int 1))]) (.bl true) xlaw_is_led_1)]),
  .ret (.bop true [(.cmp .eq (.call 2 [(.var 1), (.var 7)] [] []) (.tup [])), (.isN false (.call 1 [(.var 1), (.var 2), (.call 6 [(.var 1), (.var 2), (.var 7)] [] [])] [] []))])]
def l_law_is_led : FnL := [(⟨"_law_flips", 2, [], []⟩, f_law_flips), (⟨"led", 3, [], []⟩, f_led), (⟨"checks", 2, [], []⟩, f_checks), (⟨"seams", 2, [], []⟩, f_seams), (⟨"turned", 3, [], []⟩, f_turned), (⟨"_law_taken", 2, [], []⟩, f_law_taken), (⟨"after", 3, [], []⟩, f_after)]
@[simp] theorem ph_law_is_led_0 : phi l_law_is_led 0 = f_law_flips := id rfl
@[simp] theorem ph_law_is_led_1 : phi l_law_is_led 1 = f_led := id rfl
@[simp] theorem ph_law_is_led_2 : phi l_law_is_led 2 = f_checks := id rfl
@[simp] theorem ph_law_is_led_3 : phi l_law_is_led 3 = f_seams := id rfl
@[simp] theorem ph_law_is_led_4 : phi l_law_is_led 4 = f_turned := id rfl
@[simp] theorem ph_law_is_led_5 : phi l_law_is_led 5 = f_law_taken := id rfl
@[simp] theorem ph_law_is_led_6 : phi l_law_is_led 6 = f_after := id rfl
def g_law_is_led : GlL := []
def f_law_is_led : FnSem := runF (gam g_law_is_led) (phi l_law_is_led) 9 b_law_is_led
/-! law: _law_script, _law_row, _law_turn, _law_board_here, _law_two, _law_flips_here, _law_face, _law_due, _law_many, _law_one, _law_faces, _law_others -/
def blaw_2 : List S := [.asg1 5 (.call 3 [(.var 3), (.var 5), (.tup [(.var 6)])] [] [])]
def claw_1 : E := (.cmp .notin (.var 6) (.var 10))
def xlaw_1 : E := (.var 6)
def blaw_1 : List S := [.asg1 3 (.call 0 [(.var 1), (.int 5)] [] []),
  .par [8, 9] [(.op .mul (.ix (.var 3) (.int 0)) (.ix (.var 3) (.int 1))), (.call 1 [(.var 1), (.var 3)] [] [])],
  .asg (.tup [(.nm 10), (.nm 11)]) (.tup [(.call 2 [(.var 1), (.var 8), (.var 8)] [] []), (.call 2 [(.var 1), (.var 8), (.var 8)] [] [])]),
  .asg1 4 (.call 3 [(.var 3), (.var 9), (.var 10)] [] []),
  .ife (.bop false [(.cmp .ne (.call 4 [(.var 3), (.var 4)] [] []) (.call 4 [(.var 3), (.var 9)] [] [])), (.cmp .ne (.call 5 [(.var 3), (.var 4)] [] []) (.call 5 [(.var 3), (.var 9)] [] []))])
   [.ret (.bl false)]
   [],
  .asg1 5 (.var 9),
  .for_ (.nm 6) (.seq (.var 10)) blaw_2,
  .ife (.bop false [(.cmp .ne (.var 5) (.var 4)), (.cmp .ne (.call 3 [(.var 3), (.var 4), (.var 10)] [] []) (.var 9)), (.cmp .ne (.call 3 [(.var 3), (.var 9), (.trg false (.var 8))] [] []) (.var 9))])
   [.ret (.bl false)]
   [],
  .ife (.cmp .ne (.call 3 [(.var 3), (.var 4), (.var 11)] [] []) (.call 3 [(.var 3), (.var 9), (.call 6 [(.var 10), (.var 11)] [] [])] [] []))
   [.ret (.bl false)]
   [],
  .asg1 7 (.var 10),
  .ife (.cmp .isin (.int 0) (.var 10))
   [.asg1 7 (.bi .tuple [(.lc [6] (.nm 6) (.rng [(.var 8)]) claw_1 xlaw_1)])]
   [],
  .ife (.bop false [(.cmp .ne (.call 7 [(.var 3), (.var 9), (.var 4)] [] []) (.var 7)), (.cmp .ne (.call 7 [(.var 3), (.var 4), (.var 9)] [] []) (.var 7)), (.cmp .ne (.call 7 [(.var 3), (.var 9), (.var 9)] [] []) (.tup []))])
   [.ret (.bl false)]
   [],
  .ife (.cmp .ne (.bi .len [(.call 3 [(.var 3), (.tup []), (.tup [(.call 8 [(.var 1), (.var 8)] [] [])])] [] [])]) (.int 4))
   [.ret (.bl false)]
   [],
  .ife (.not (.call 9 [(.var 1), (.var 3), (.var 9)] [] []))
   [.ret (.bl false)]
   []]
def b_law : List S :=
  [.asg1 1 (.new (.lst [(.var 0), (.int 0), (.int 0), (.int 0)])),
  .for_ (.nm 2) (.rng [(.int 4)]) blaw_1,
  .ret (.bl true)]
def l_law : FnL := [(⟨"_law_board", 2, [], []⟩, f_law_board), (⟨"_law_flips", 2, [], []⟩, f_law_flips), (⟨"_law_some", 3, [], []⟩, f_law_some), (⟨"turned", 3, [], []⟩, f_turned), (⟨"checks", 2, [], []⟩, f_checks), (⟨"seams", 2, [], []⟩, f_seams), (⟨"_law_apart", 2, [], []⟩, f_law_apart), (⟨"led", 3, [], []⟩, f_led), (⟨"_law_taken", 2, [], []⟩, f_law_taken), (⟨"_law_is_led", 3, [], []⟩, f_law_is_led)]
@[simp] theorem ph_law_0 : phi l_law 0 = f_law_board := id rfl
@[simp] theorem ph_law_1 : phi l_law 1 = f_law_flips := id rfl
@[simp] theorem ph_law_2 : phi l_law 2 = f_law_some := id rfl
@[simp] theorem ph_law_3 : phi l_law 3 = f_turned := id rfl
@[simp] theorem ph_law_4 : phi l_law 4 = f_checks := id rfl
@[simp] theorem ph_law_5 : phi l_law 5 = f_seams := id rfl
@[simp] theorem ph_law_6 : phi l_law 6 = f_law_apart := id rfl
@[simp] theorem ph_law_7 : phi l_law 7 = f_led := id rfl
@[simp] theorem ph_law_8 : phi l_law 8 = f_law_taken := id rfl
@[simp] theorem ph_law_9 : phi l_law 9 = f_law_is_led := id rfl
def g_law : GlL := []
def f_law : FnSem := runF (gam g_law) (phi l_law) 12 b_law
theorem par_filter_sym {p : Int → Bool} {xs ys zs : List Int} (hx : Can xs) (hy : Can ys) (hz : Can zs) (h : ∀ k, decide (k ∈ zs) = xor (decide (k ∈ xs)) (decide (k ∈ ys))) : par p zs = xor (par p xs) (par p ys) := by
  have : zs = symI xs ys := dec_ext hz (can_sym hx hy) fun k => by rw [h, dec_sym]
  rw [this, par_sym hx.nd hy.nd]
theorem turn_all {r c : Int} {xs : List Int} (h : Bd r c) (f : Fls r c xs) : turnI r c xs (rngI (r * c).toNat) = xs := by
  have hb : Bel (r * c) (rngI (r * c).toNat) := fun k hk => by have := mem_rngI.mp hk; omega
  exact dec_ext (turn_fls h f hb).can f.can fun k => by
    rw [turn_mem, all_faces h, Bool.xor_false]
theorem turn_back {r c : Int} {xs fs : List Int} (h : Bd r c) (f : Fls r c xs) (g : Fcs r c fs) : turnI r c (turnI r c xs fs) fs = xs :=
  dec_ext (turn_fls h (turn_fls h f g.bel) g.bel).can f.can fun k => by
    rw [turn_mem, turn_mem, Bool.xor_assoc, Bool.xor_self, Bool.xor_false]
theorem turn_two {r c : Int} {xs fs gs hs : List Int} (h : Bd r c) (f : Fls r c xs) (g : Fcs r c fs) (g2 : Fcs r c gs) (g3 : Fcs r c hs) (e : ∀ k, decide (k ∈ hs) = xor (decide (k ∈ fs)) (decide (k ∈ gs))) : turnI r c (turnI r c xs fs) gs = turnI r c xs hs :=
  dec_ext (turn_fls h (turn_fls h f g.bel) g2.bel).can (turn_fls h f g3.bel).can fun k => by
    rw [turn_mem, turn_mem, turn_mem, par_filter_sym g.can g2.can g3.can e, Bool.xor_assoc]

theorem v_law_apart {S : Sto} {xs ys : List Int} (h1 : xs.length ≤ 60) (h2 : ys.length ≤ 60) (h3 : (symI xs ys).length < 64) : f_law_apart [fl xs, fl ys] S = some (.ok (fl (symI xs ys)) S) := by
  have hL : LIM = 100000 := rfl
  have l1 := lc_val (G := gam g_law_apart) (Φ := phi l_law_apart) (S := S) (vs := [2]) (t := .nm 2) (src := .seq (.var 0)) (c := claw_apart_1) (elt := xlaw_apart_1) (env := [some (fl xs), some (fl ys), none]) (ds := xs.map .int)
    (fun d => match d with | .int k => !decide (k ∈ ys) | _ => false) id ((xs.filter fun k => !decide (k ∈ ys)).map .int) (by simp) (fun d hd => by
      obtain ⟨k, _, rfl⟩ := List.mem_map.mp hd
      exact ⟨[some (fl xs), some (fl ys), some (.int k)], by simp, by simp [claw_apart_1], fun _ => by simp [xlaw_apart_1]⟩) (by rw [List.map_id, List.filter_map]; rfl) (by rw [List.length_map]; have := List.length_filter_le (fun k => !decide (k ∈ ys)) xs; omega)
  have l2 := lc_val (G := gam g_law_apart) (Φ := phi l_law_apart) (S := S) (vs := [2]) (t := .nm 2) (src := .seq (.var 1)) (c := claw_apart_2) (elt := xlaw_apart_2) (env := [some (fl xs), some (fl ys), none]) (ds := ys.map .int)
    (fun d => match d with | .int k => !decide (k ∈ xs) | _ => false) id ((ys.filter fun k => !decide (k ∈ xs)).map .int) (by simp) (fun d hd => by
      obtain ⟨k, _, rfl⟩ := List.mem_map.mp hd
      exact ⟨[some (fl xs), some (fl ys), some (.int k)], by simp, by simp [claw_apart_2], fun _ => by simp [xlaw_apart_2]⟩) (by rw [List.map_id, List.filter_map]; rfl) (by rw [List.length_map]; have := List.length_filter_le (fun k => !decide (k ∈ xs)) ys; omega)
  have es : symI xs ys = sortI ((xs.filter fun k => !decide (k ∈ ys)) ++ (ys.filter fun k => !decide (k ∈ xs))) := by
    unfold symI
    congr 2
    · exact List.filter_congr fun x _ => by simp
    · exact List.filter_congr fun x _ => by simp
  have hl : ((xs.filter fun k => !decide (k ∈ ys)) ++ (ys.filter fun k => !decide (k ∈ xs))).length < 64 := by
    rw [es, (sortI_perm _).length_eq] at h3; exact h3
  have ad := add_lsts (xs := (xs.filter fun k => !decide (k ∈ ys)).map D.int) (ys := (ys.filter fun k => !decide (k ∈ xs)).map D.int) (by
    rw [List.length_append] at hl
    rw [List.length_map, List.length_map]; omega)
  rw [← List.map_append] at ad
  have srt := sorted_ints hl
  rw [← es] at srt
  generalize ((xs.filter fun k => !decide (k ∈ ys)) ++ (ys.filter fun k => !decide (k ∈ xs))).map D.int = T3 at *
  generalize (xs.filter fun k => !decide (k ∈ ys)).map D.int = T1 at *
  generalize (ys.filter fun k => !decide (k ∈ xs)).map D.int = T2 at *
  unfold f_law_apart b_law_apart
  simp [l1, l2, ad, srt]
/-! what is alike -/
theorem alike_iff {r c : Int} {xs ys : List Int} (h : Bd r c) (f : Fls r c xs) (g : Fls r c ys) : alikeB r c xs ys = (decide (litI r c xs = litI r c ys) && decide ([b2 (par (seamA c) xs), b2 (par (seamB r c) xs)] = [b2 (par (seamA c) ys), b2 (par (seamB r c) ys)])) := by
  unfold alikeB
  congr 1
  · have key : litI r c (symI xs ys) = [] ↔ litI r c xs = litI r c ys := by
      constructor
      · intro z
        refine dec_ext (lit_can h f.bel) (lit_can h g.bel) fun k => ?_
        have := lit_mem h (f.sym g).bel k
        rw [z, par_sym f.can.nd g.can.nd, ← lit_mem h f.bel, ← lit_mem h g.bel] at this
        have e0 : decide (k ∈ ([] : List Int)) = false := decide_eq_false (by simp)
        rw [e0] at this
        cases a : decide (k ∈ litI r c xs) <;> cases b : decide (k ∈ litI r c ys) <;> simp [a, b] at this ⊢
      · intro z
        refine dec_ext (lit_can h (f.sym g).bel) Can.nil fun k => ?_
        rw [lit_mem h (f.sym g).bel, par_sym f.can.nd g.can.nd, ← lit_mem h f.bel, ← lit_mem h g.bel, z, Bool.xor_self]
        exact (decide_eq_false (by simp)).symm
    exact decide_eq_decide.mpr key
  · rw [par_sym f.can.nd g.can.nd, par_sym f.can.nd g.can.nd]
    cases par (seamA c) xs <;> cases par (seamA c) ys <;> cases par (seamB r c) xs <;> cases par (seamB r c) ys <;> decide
/-- round about along a row -/
def loopI (c l : Int) : List Int := (List.range c.toNat).map fun (j : Nat) => 2 * (l * c + (j : Int))
def loopsOk : Bool := [(2 : Int), 3, 4, 5].all fun r => [(2 : Int), 3, 4, 5].all fun c => (List.range r.toNat).all fun (l : Nat) =>
  decide (litI r c (loopI c l) = []) && par (seamA c) (loopI c l) && decide ((loopI c l).Pairwise (· < ·)) && (loopI c l).all fun x => decide (0 ≤ x) && decide (x < 2 * (r * c))
theorem loopsOk_ok : loopsOk = true := by decide +kernel
theorem loop_ok {r c l : Int} (h : Bd r c) (l0 : 0 ≤ l) (l1 : l < r) : Fls r c (loopI c l) ∧ litI r c (loopI c l) = [] ∧ par (seamA c) (loopI c l) = true := by
  have k := loopsOk_ok
  unfold loopsOk at k
  obtain ⟨hr, hc⟩ := h.cases
  have hr' : r ∈ [(2 : Int), 3, 4, 5] := by simpa using hr
  have hc' : c ∈ [(2 : Int), 3, 4, 5] := by simpa using hc
  have k1 := List.all_eq_true.mp k r hr'
  have k2 := List.all_eq_true.mp k1 c hc'
  have k3 := List.all_eq_true.mp k2 l.toNat (List.mem_range.mpr (by omega))
  rw [show ((l.toNat : Nat) : Int) = l by omega] at k3
  simp only [Bool.and_eq_true, decide_eq_true_eq, List.all_eq_true] at k3
  exact ⟨⟨k3.1.2, fun x hx => k3.2 x hx⟩, k3.1.1.1, k3.1.1.2⟩
theorem v_is_led {S : Sto} {R C : Nat} {one : List Int} (hrow : RowAt S 0) (hb : Bd R C) (hf : Fls R C one) : ∃ S2, f_law_is_led [.ref 0, pq R C, fl one] S = some (.ok (.bl true) S2) ∧ RowAt S2 0 := by
  obtain ⟨m4, m25⟩ := hb.m
  obtain ⟨sr, sc, sm⟩ := hb.sm
  have hL : LIM = 100000 := rfl
  have s2 : small 2 = true := by decide
  obtain ⟨oth, S1, e1, d1, hg⟩ := v_flips hrow hb
  have c1 := fun S => v_checks (S := S) hb hf
  have c2 := fun S => v_checks (S := S) hb hg
  have q1 := fun S => v_seams (S := S) hb hf
  have q2 := fun S => v_seams (S := S) hb hg
  have ai := alike_iff hb hf hg
  have k1 := eq_tups (litI R C one) (litI R C oth)
  have k2 : evCmp .eq (seamsI R C one) (seamsI R C oth) = some _ := eq_tups [b2 (par (seamA C) one), b2 (par (seamB R C) one)] [b2 (par (seamA C) oth), b2 (par (seamB R C) oth)]
  have vs1 : ∀ S, vw S (seamsI R C one) = seamsI R C one := fun _ => rfl
  have vs2 : ∀ S, vw S (seamsI R C oth) = seamsI R C oth := fun _ => rfl
  have hlike : ∀ (S : Sto) (y5 y6 y7 y8 y4 : Option D), evE (gam g_law_is_led) (phi l_law_is_led) (.bop true [(.cmp .eq (.call 2 [(.var 1), (.var 2)] [] []) (.call 2 [(.var 1), (.var 3)] [] [])), (.cmp .eq (.call 3 [(.var 1), (.var 2)] [] []) (.call 3 [(.var 1), (.var 3)] [] []))]) [some (.ref 0), some (pq R C), some (fl one), some (fl oth), y4, y5, y6, y7, y8] S = some (.ok (.bl (alikeB R C one oth)) S) := fun S y5 y6 y7 y8 y4 => by
    rw [ai]
    generalize seamsI (R : Int) C one = sa at *
    generalize seamsI (R : Int) C oth = sb at *
    generalize decide ([b2 (par (seamA C) one), b2 (par (seamB R C) one)] = [b2 (par (seamA C) oth), b2 (par (seamB R C) oth)]) = B at *
    by_cases q : litI R C one = litI R C oth
    · rw [decide_eq_true q] at k1 ⊢
      rw [← q] at k1 c2
      simp [c1, c2, k1, q1, q2, vs1, vs2, k2]
    · rw [decide_eq_false q] at k1 ⊢
      simp [c1, c2, k1, q1, q2, vs1, vs2, k2]
  -- the first test
  obtain ⟨told, J, el, ht⟩ : ∃ told J, f_led [pq R C, fl one, fl oth] S1 = some (.ok told (S1 ++ J)) ∧ (∀ S y6 y7 y8, evS (gam g_law_is_led) (phi l_law_is_led) (.ife (.bop false [(.cmp .eq (.isN false (.var 4)) (.var 5)), (.bop true [(.isN true (.var 4)), (.cmp .ne (.call 4 [(.var 1), (.var 2), (.var 4)] [] []) (.var 3))])]) [.ret (.bl false)] []) [some (.ref 0), some (pq R C), some (fl one), some (fl oth), some told, some (.bl (alikeB R C one oth)), y6, y7, y8] S =
      some (.nx [some (.ref 0), some (pq R C), some (fl one), some (fl oth), some told, some (.bl (alikeB R C one oth)), y6, y7, y8] S)) := by
    by_cases hal : alikeB R C one oth = true
    · obtain ⟨fs, J, e, g, _, tg⟩ := v_led_any (S := S1) hb hf hg hal
      refine ⟨fl fs, J, e, fun S y6 y7 y8 => ?_⟩
      have vt := fun S => v_turned (S := S) hb hf g
      rw [tg] at vt
      have nn := ne_tups oth oth
      rw [decide_eq_true rfl] at nn
      rw [hal]
      simp [vt, nn]
    · have hal : alikeB R C one oth = false := by simpa using hal
      refine ⟨.non, [], by rw [List.append_nil]; exact v_led_no hb hf hg hal, fun S y6 y7 y8 => ?_⟩
      rw [hal]
      simp
  have row1 : RowAt (S1 ++ J) 0 := d1.row.snoc
  obtain ⟨ln, S2, e2, d2, l0, l1⟩ := v_taken row1 (m := (R : Int)) (by have := hb.r2; omega) (by have := hb.r5; omega)
  obtain ⟨fo, lo, po⟩ := loop_ok hb l0 l1
  have hC : (C : Int).toNat = C := by simp
  have lcv := lc_val (G := gam g_law_is_led) (Φ := phi l_law_is_led) (S := S2) (vs := [8]) (t := .nm 8) (src := .rng [(.ix (.var 1) (.int 1))]) (c := .bl true) (elt := xlaw_is_led_1) (env := [some (.ref 0), some (pq R C), some (fl one), some (fl oth), some told, some (.bl (alikeB R C one oth)), some (.int ln), none, none]) (ds := rngD 0 C)
    (fun _ => true) (fun d => match d with | .int k => .int (2 * (ln * C + k)) | _ => .non) ((loopI C ln).map .int) (by
      have : inR (C : Int) = true := inR_nat (by have := hb.c5; omega)
      simp [rngOf_1 this]) (fun d hd => by
      obtain ⟨k, _, rfl⟩ := rng_mem hd
      have mm : evOp .mul (.int ln) (.int (C : Int)) = some (.int (ln * C)) := mul_int (.inr sc)
      have m2 : ∀ z : Int, evOp .mul (.int 2) (.int z) = some (.int (2 * z)) := fun z => mul_int (.inl s2)
      exact ⟨[some (.ref 0), some (pq R C), some (fl one), some (fl oth), some told, some (.bl (alikeB R C one oth)), some (.int ln), none, some (.int (k : Int))], by simp, by simp, fun _ => by simp [xlaw_is_led_1, mm, m2]⟩) (by
      rw [List.filter_eq_self.mpr fun _ _ => rfl]
      unfold loopI rngD
      rw [hC, List.map_map, List.map_map]
      exact List.map_congr_left fun k _ => by simp) (by
      unfold loopI
      rw [hC, List.length_map, List.length_map, List.length_range]
      have := hb.c5; omega)
  have vl := fun S => v_checks (S := S) hb fo
  rw [lo] at vl
  have va := fun S => v_after (S := S) hb hf fo
  have hno : alikeB R C one (symI one (loopI C ln)) = false := by
    have fs := hf.sym fo
    have e1 : par (seamA C) (symI one (symI one (loopI C ln))) = true := by
      rw [par_sym hf.can.nd fs.can.nd, par_sym hf.can.nd fo.can.nd, po]
      cases par (seamA (C : Int)) one <;> rfl
    unfold alikeB
    rw [e1]
    simp
  have el2 := fun S => v_led_no (S := S) hb hf (hf.sym fo) hno
  have en : evCmp .eq (.tup []) (.tup []) = some true := eq_tnil []
  refine ⟨S2, ?_, d2.row⟩
  generalize loopI (C : Int) ln = LO at *
  generalize alikeB R C one oth = AL at *
  unfold f_law_is_led b_law_is_led
  simp [-s_ifeS, -e_bop, e1, el]
  rw [hlike]
  simp only [y_ok, setV_eq]
  simp [-s_ifeS, -e_bop, ht]
  simp [e2, lcv, vl, en, va, el2]

theorem fls_none (r c : Int) : Fls r c [] := ⟨Can.nil, fun x h => (by cases h)⟩
theorem k20_turn {S : Sto} {ns : List Int} {t : D} {x3 x4 x5 x6 x7 x8 x9 x10 x11 : Option D} (hrow : RowAt S 0) : ∃ env2 S2, evSs (gam g_law) (phi l_law) blaw_1 [some (.scr ns), some (.ref 0), some t, x3, x4, x5, x6, x7, x8, x9, x10, x11] S = some (.nx env2 S2) ∧
    (∃ t x3 x4 x5 x6 x7 x8 x9 x10 x11, env2 = [some (.scr ns), some (.ref 0), t, x3, x4, x5, x6, x7, x8, x9, x10, x11]) ∧ RowAt S2 0 := by
  obtain ⟨r, c, S1, e1, d1, hb⟩ := v_board hrow
  obtain ⟨one, S2, e2, d2, hf⟩ := v_flips d1.row hb
  obtain ⟨R, rfl⟩ := Int.eq_ofNat_of_zero_le (a := r) (by have := hb.r2; omega)
  obtain ⟨C, rfl⟩ := Int.eq_ofNat_of_zero_le (a := c) (by have := hb.c2; omega)
  obtain ⟨m4, m25⟩ := hb.m
  obtain ⟨sr, sc, sm⟩ := hb.sm
  have hL : LIM = 100000 := rfl
  obtain ⟨fs, S3, e3, d3, c3, b3, l3⟩ := v_some d2.row (many := (R : Int) * C) (most := (R : Int) * C) (by omega) (by omega) (by omega) (by omega)
  obtain ⟨os, S4, e4, d4, c4, b4, l4⟩ := v_some d3.row (many := (R : Int) * C) (most := (R : Int) * C) (by omega) (by omega) (by omega) (by omega)
  have g : Fcs (R : Int) C fs := ⟨c3, b3⟩
  have go : Fcs (R : Int) C os := ⟨c4, b4⟩
  have ms : evOp .mul (.int (R : Int)) (.int (C : Int)) = some (.int ((R : Int) * C)) := mul_int (.inl sr)
  have ht := turn_fls hb hf g.bel
  have vt := fun S => v_turned (S := S) hb hf g
  have l2L : 2 ≤ LIM := by omega
  have l1L : 1 ≤ LIM := by omega
  have l0L : 0 ≤ LIM := by omega
  -- lit, seams
  have k1 := fun S => v_checks (S := S) hb ht
  rw [lit_turn hb hf g.bel] at k1
  have k2 := fun S => v_checks (S := S) hb hf
  have k3 := fun S => v_seams (S := S) hb ht
  rw [seams_turn hb hf g.bel] at k3
  have k4 := fun S => v_seams (S := S) hb hf
  have n1 := ne_tups (litI R C one) (litI R C one)
  rw [decide_eq_true rfl] at n1
  have n2 : evCmp .ne (seamsI R C one) (seamsI R C one) = some (!true) := by
    have := ne_tups [b2 (par (seamA C) one), b2 (par (seamB R C) one)] [b2 (par (seamA C) one), b2 (par (seamB R C) one)]
    rw [decide_eq_true rfl] at this; exact this
  have vsd : ∀ S, vw S (seamsI R C one) = seamsI R C one := fun _ => rfl
  -- one by one
  obtain ⟨env5, S5, e5, ⟨a6, rfl⟩, hS5⟩ := for_inv (G := gam g_law) (Φ := phi l_law) (t := .nm 6) (src := .seq (.var 10)) (body := blaw_2) (S := S4) (S0 := S4)
    (fun k env S' => (∃ a, env = [some (.scr ns), some (.ref 0), some t, some (pq R C), some (fl (turnI R C one fs)), some (fl (turnI R C one (fs.take k))), a, x7, some (.int ((R : Int) * C)), some (fl one), some (fl fs), some (fl os)]) ∧ S' = S4) (ds := fs.map .int) (env := [some (.scr ns), some (.ref 0), some t, some (pq R C), some (fl (turnI R C one fs)), some (fl one), x6, x7, some (.int ((R : Int) * C)), some (fl one), some (fl fs), some (fl os)]) (by simp) ⟨⟨_, rfl⟩, rfl⟩ fun i d env S' hi ⟨⟨a, e⟩, e2⟩ => by
      obtain ⟨x, hx, rfl⟩ := map_get hi
      subst e; subst e2
      have hxb := g.bel x (List.mem_of_getElem? hx)
      have fk := turn_fls hb hf (g.bel.take i)
      have v1 := fun S => v_turned (S := S) hb fk (fs := [x]) ⟨Can.one x, fun y hy => by rw [List.mem_singleton.mp hy]; exact hxb⟩
      have et : turnI R C (turnI R C one (fs.take i)) [x] = turnI R C one (fs.take (i + 1)) := by
        exact (foldl_take (g := fun f e => symI f (faceI R C e)) (a := one) hx).symm
      rw [et] at v1
      have v1' : ∀ S, f_turned [pq R C, fl (turnI R C one (fs.take i)), .tup [.int x]] S = some (.ok (fl (turnI R C one (fs.take (i + 1)))) S) := v1
      refine ⟨[some (.scr ns), some (.ref 0), some t, some (pq R C), some (fl (turnI R C one fs)), some (fl (turnI R C one (fs.take i))), some (.int x), x7, some (.int ((R : Int) * C)), some (fl one), some (fl fs), some (fl os)], [some (.scr ns), some (.ref 0), some t, some (pq R C), some (fl (turnI R C one fs)), some (fl (turnI R C one (fs.take (i + 1)))), some (.int x), x7, some (.int ((R : Int) * C)), some (fl one), some (fl fs), some (fl os)], S', by simp, ?_, ⟨_, rfl⟩, rfl⟩
      unfold blaw_2
      simp [v1', l1L]
  rw [hS5, List.length_map, List.take_length] at e5
  clear hS5
  -- back, all, two sets
  have t3 := fun S => v_turned (S := S) hb ht g
  rw [turn_back hb hf g] at t3
  have ga : Fcs (R : Int) C (rngI ((R : Int) * C).toNat) := ⟨can_rngI _, fun k hk => by have := mem_rngI.mp hk; omega⟩
  have t4 := fun S => v_turned (S := S) hb hf ga
  rw [turn_all hb hf] at t4
  have t5 := fun S => v_turned (S := S) hb ht go
  have hsy : Fcs (R : Int) C (symI fs os) := ⟨can_sym g.can go.can, g.bel.sym go.bel⟩
  have t6 := fun S => v_turned (S := S) hb hf hsy
  rw [← turn_two hb hf g go hsy fun k => dec_sym] at t6
  have va := fun S => v_law_apart (S := S) (xs := fs) (ys := os) (by have := Bel.len hb g.can g.bel; omega) (by have := Bel.len hb go.can go.bel; omega) (by have := Bel.len hb hsy.can hsy.bel; omega)
  have n3 := ne_tups (turnI R C one fs) (turnI R C one fs)
  rw [decide_eq_true rfl] at n3
  have n4 := ne_tups one one
  rw [decide_eq_true rfl] at n4
  have n5 := ne_tups (turnI R C (turnI R C one fs) os) (turnI R C (turnI R C one fs) os)
  rw [decide_eq_true rfl] at n5
  have rg : rgD false (.int 0) (.int ((R : Int) * C)) = some (fl (rngI ((R : Int) * C).toNat)) := by
    unfold rgD
    dsimp only
    rw [if_pos ⟨by decide, inR_int (by omega), by omega⟩, show ((R : Int) * C - 0).toNat = ((R : Int) * C).toNat by rw [Int.sub_zero]]
    show some (D.tup (rngD 0 ((R : Int) * C).toNat)) = _
    unfold rngD rngI
    show _ = some (D.tup (((List.range ((R : Int) * C).toNat).map fun (i : Nat) => (i : Int)).map D.int))
    rw [List.map_map]
    congr 2
    exact List.map_congr_left fun k _ => by simp
  -- the due
  have hin : inR ((R : Int) * C) = true := inR_int (by omega)
  have due : evSs (gam g_law) (phi l_law) [.asg1 7 (.bi .tuple [(.lc [6] (.nm 6) (.rng [(.var 8)]) claw_1 xlaw_1)])] [some (.scr ns), some (.ref 0), some t, some (pq R C), some (fl (turnI R C one fs)), some (fl (turnI R C one fs)), a6, some (fl fs), some (.int ((R : Int) * C)), some (fl one), some (fl fs), some (fl os)] S4 =
      some (.nx [some (.scr ns), some (.ref 0), some t, some (pq R C), some (fl (turnI R C one fs)), some (fl (turnI R C one fs)), a6, some (fl ((rngI ((R : Int) * C).toNat).filter (fun k => !decide (k ∈ fs)))), some (.int ((R : Int) * C)), some (fl one), some (fl fs), some (fl os)] S4) := by
    have lcv := lc_val (G := gam g_law) (Φ := phi l_law) (S := S4) (vs := [6]) (t := .nm 6) (src := .rng [(.var 8)]) (c := claw_1) (elt := xlaw_1) (env := [some (.scr ns), some (.ref 0), some t, some (pq R C), some (fl (turnI R C one fs)), some (fl (turnI R C one fs)), a6, some (fl fs), some (.int ((R : Int) * C)), some (fl one), some (fl fs), some (fl os)]) (ds := rngD 0 ((R : Int) * C).toNat)
      (fun d => match d with | .int k => !decide (k ∈ fs) | _ => false) id (((rngI ((R : Int) * C).toNat).filter (fun k => !decide (k ∈ fs))).map .int) (by simp [rngOf_1 hin]) (fun d hd => by
        obtain ⟨k, _, rfl⟩ := rng_mem hd
        exact ⟨[some (.scr ns), some (.ref 0), some t, some (pq R C), some (fl (turnI R C one fs)), some (fl (turnI R C one fs)), some (.int (k : Int)), some (fl fs), some (.int ((R : Int) * C)), some (fl one), some (fl fs), some (fl os)], by simp, by simp [claw_1], fun _ => by simp [xlaw_1]⟩) (filt_rng (fun k => !decide (k ∈ fs)) _) (by
        rw [List.length_map]
        have := filt_len (fun k => !decide (k ∈ fs)) ((R : Int) * C).toNat
        have e : (rngI ((R : Int) * C).toNat).filter (fun k => !decide (k ∈ fs)) = ((List.range ((R : Int) * C).toNat).map fun (k : Nat) => ((k : Int))).filter (fun k => !decide (k ∈ fs)) := rfl
        rw [e]
        omega)
    simp [lcv]
  have hdue : evS (gam g_law) (phi l_law) (.ife (.cmp .isin (.int 0) (.var 10)) [.asg1 7 (.bi .tuple [(.lc [6] (.nm 6) (.rng [(.var 8)]) claw_1 xlaw_1)])] []) [some (.scr ns), some (.ref 0), some t, some (pq R C), some (fl (turnI R C one fs)), some (fl (turnI R C one fs)), a6, some (fl fs), some (.int ((R : Int) * C)), some (fl one), some (fl fs), some (fl os)] S4 =
      some (.nx [some (.scr ns), some (.ref 0), some t, some (pq R C), some (fl (turnI R C one fs)), some (fl (turnI R C one fs)), a6, some (fl (dueI R C fs)), some (.int ((R : Int) * C)), some (fl one), some (fl fs), some (fl os)] S4) := by
    unfold dueI
    by_cases q : (0 : Int) ∈ fs
    · rw [if_pos q, s_ifeS]
      have ii : evCmp .isin (.int 0) (fl fs) = some true := by rw [in_tups, decide_eq_true q]
      simp only [e_cmp, e_int, e_var, slotAt_eq]
      simp [-in_tups, -ss_consE, ii, due]
    · rw [if_neg q]
      have ii : evCmp .isin (.int 0) (fl fs) = some false := by rw [in_tups, decide_eq_false q]
      simp [-in_tups, ii]
  -- led
  obtain ⟨J1, el1⟩ := v_led_turn (S := S4) hb hf g
  obtain ⟨J2, el2⟩ := v_led_turn (S := S4 ++ J1) hb ht g
  rw [turn_back hb hf g] at el2
  obtain ⟨J3, el3⟩ := v_led_turn (S := S4 ++ J1 ++ J2) hb hf (fs := []) ⟨Can.nil, fun x h => by cases h⟩
  have el3 : f_led [pq R C, fl one, fl one] (S4 ++ J1 ++ J2) = some (.ok (fl []) (S4 ++ J1 ++ J2 ++ J3)) := el3
  have n6 := ne_tups (dueI R C fs) (dueI R C fs)
  rw [decide_eq_true rfl] at n6
  have n7 : evCmp .ne (.tup []) (.tup []) = some (!true) := by
    have := ne_tups [] []
    rw [decide_eq_true rfl] at this; exact this
  have row5 : RowAt (S4 ++ J1 ++ J2 ++ J3) 0 := by simp only [List.append_assoc]; exact d4.row.snoc
  generalize hS6 : S4 ++ J1 ++ J2 ++ J3 = S6 at *
  obtain ⟨fc, S7, e7, d7, f0, f1⟩ := v_taken row5 (m := (R : Int) * C) (by omega) (by omega)
  have h0 := fls_none (R : Int) C
  have gf : Fcs (R : Int) C [fc] := ⟨Can.one fc, fun y hy => by rw [List.mem_singleton.mp hy]; exact ⟨f0, f1⟩⟩
  have t8 := fun S => v_turned (S := S) hb h0 gf
  have t8' : ∀ S, f_turned [pq R C, .tup [], .tup [.int fc]] S = some (.ok (fl (symI [] (faceI R C fc))) S) := t8
  have l4' : ((symI [] (faceI R C fc)).length : Int) = 4 := by
    have : (symI [] (faceI R C fc)).length = 4 := by
      unfold symI
      rw [(sortI_perm _).length_eq]
      rw [List.filter_eq_self.mpr (show ∀ x ∈ faceI R C fc, (!([] : List Int).contains x) = true from fun x _ => rfl)]
      rfl
    omega
  obtain ⟨S8, e8, row8⟩ := v_is_led d7.row hb hf
  generalize turnI (R : Int) C (turnI (R : Int) C one fs) os = tt at *
  generalize turnI (R : Int) C one fs = two at *
  generalize dueI (R : Int) C fs = du at *
  generalize seamsI (R : Int) C one = sd at *
  generalize litI (R : Int) C one = lt at *
  generalize symI [] (faceI (R : Int) C fc) = FF at *
  generalize symI fs os = so at *
  generalize rngI ((R : Int) * C).toNat = ra at *
  subst hS6
  refine ⟨_, S8, ?_, ⟨some t, some (pq R C), some (fl two), some (fl two), a6, some (fl du), some (.int ((R : Int) * C)), some (fl one), some (fl fs), some (fl os), rfl⟩, row8⟩
  have nd : ([8, 9] : List Nat).Nodup := by decide
  unfold blaw_1
  simp [-in_tups, -s_ifeS, e1, e2, ms, e3, e4, vt, l2L]
  have if1 : ∀ (S : Sto) (y5 y6 y7 : Option D), evS (gam g_law) (phi l_law) (.ife (.bop false [(.cmp .ne (.call 4 [(.var 3), (.var 4)] [] []) (.call 4 [(.var 3), (.var 9)] [] [])), (.cmp .ne (.call 5 [(.var 3), (.var 4)] [] []) (.call 5 [(.var 3), (.var 9)] [] []))]) [.ret (.bl false)] []) [some (.scr ns), some (.ref 0), some t, some (pq R C), some (fl two), y5, y6, y7, some (.int ((R : Int) * C)), some (fl one), some (fl fs), some (fl os)] S = some (.nx [some (.scr ns), some (.ref 0), some t, some (pq R C), some (fl two), y5, y6, y7, some (.int ((R : Int) * C)), some (fl one), some (fl fs), some (fl os)] S) := fun S y5 y6 y7 => by
    simp [k1, k2, n1, k3, k4, vsd, n2]
  have if2 : evS (gam g_law) (phi l_law) (.ife (.bop false [(.cmp .ne (.var 5) (.var 4)), (.cmp .ne (.call 3 [(.var 3), (.var 4), (.var 10)] [] []) (.var 9)), (.cmp .ne (.call 3 [(.var 3), (.var 9), (.trg false (.var 8))] [] []) (.var 9))]) [.ret (.bl false)] []) [some (.scr ns), some (.ref 0), some t, some (pq R C), some (fl two), some (fl two), a6, x7, some (.int ((R : Int) * C)), some (fl one), some (fl fs), some (fl os)] S4 = some (.nx [some (.scr ns), some (.ref 0), some t, some (pq R C), some (fl two), some (fl two), a6, x7, some (.int ((R : Int) * C)), some (fl one), some (fl fs), some (fl os)] S4) := by
    simp [n3, t3, n4, rg, t4]
  have if3 : evS (gam g_law) (phi l_law) (.ife (.cmp .ne (.call 3 [(.var 3), (.var 4), (.var 11)] [] []) (.call 3 [(.var 3), (.var 9), (.call 6 [(.var 10), (.var 11)] [] [])] [] [])) [.ret (.bl false)] []) [some (.scr ns), some (.ref 0), some t, some (pq R C), some (fl two), some (fl two), a6, x7, some (.int ((R : Int) * C)), some (fl one), some (fl fs), some (fl os)] S4 = some (.nx [some (.scr ns), some (.ref 0), some t, some (pq R C), some (fl two), some (fl two), a6, x7, some (.int ((R : Int) * C)), some (fl one), some (fl fs), some (fl os)] S4) := by
    simp [t5, va, t6, n5]
  have if4 : evS (gam g_law) (phi l_law) (.ife (.bop false [(.cmp .ne (.call 7 [(.var 3), (.var 9), (.var 4)] [] []) (.var 7)), (.cmp .ne (.call 7 [(.var 3), (.var 4), (.var 9)] [] []) (.var 7)), (.cmp .ne (.call 7 [(.var 3), (.var 9), (.var 9)] [] []) (.tup []))]) [.ret (.bl false)] []) [some (.scr ns), some (.ref 0), some t, some (pq R C), some (fl two), some (fl two), a6, some (fl du), some (.int ((R : Int) * C)), some (fl one), some (fl fs), some (fl os)] S4 = some (.nx [some (.scr ns), some (.ref 0), some t, some (pq R C), some (fl two), some (fl two), a6, some (fl du), some (.int ((R : Int) * C)), some (fl one), some (fl fs), some (fl os)] (S4 ++ J1 ++ J2 ++ J3)) := by
    simp [-List.append_assoc, el1, n6, el2, el3, n7, l0L]
  rw [if1]
  simp [-in_tups, -s_ifeS, e5, if2, if3]
  rw [hdue]
  simp only [if4]
  simp [-List.append_assoc, e7, t8', l4', e8, l0L, l1L]
theorem v_law (ns : List Int) : ∃ S', f_law [.scr ns] [] = some (.ok (.bl true) S') := by
  obtain ⟨env', S', e, ⟨t, x3, x4, x5, x6, x7, x8, x9, x10, x11, rfl⟩, hr⟩ := for_inv (G := gam g_law) (Φ := phi l_law) (t := .nm 2) (src := .rng [(.int 4)]) (body := blaw_1) (S := [.lst [.scr ns, .int 0, .int 0, .int 0]]) (S0 := [.lst [.scr ns, .int 0, .int 0, .int 0]])
    (fun k env S' => (∃ t x3 x4 x5 x6 x7 x8 x9 x10 x11, env = [some (.scr ns), some (.ref 0), t, x3, x4, x5, x6, x7, x8, x9, x10, x11]) ∧ RowAt S' 0) (ds := rngD 0 4) (env := [some (.scr ns), some (.ref 0), none, none, none, none, none, none, none, none, none, none]) (by simp [rngOf_1 (n := 4) (by decide)]) ⟨⟨_, _, _, _, _, _, _, _, _, _, rfl⟩, ⟨ns, 0, 0, 0, rfl, by decide, by decide, by decide⟩⟩ fun i d env S' hi ⟨⟨t, x3, x4, x5, x6, x7, x8, x9, x10, x11, e⟩, hr⟩ => by
      subst e
      obtain ⟨env2, S2, e2, h2, h3⟩ := k20_turn (t := d) (ns := ns) (x3 := x3) (x4 := x4) (x5 := x5) (x6 := x6) (x7 := x7) (x8 := x8) (x9 := x9) (x10 := x10) (x11 := x11) hr
      exact ⟨_, env2, S2, by simp, e2, h2, h3⟩
  refine ⟨S', ?_⟩
  unfold f_law b_law
  simp [LIM, e]
end Sf

namespace Sf
open PySem L2
def top (i : Nat) : Stmt := PySem.Challenge.pw_seamboard_k20_whole_faces_that_lead.main.body.getD i (.Pass ⟨0, 0, 0, 0⟩)
def N_law_taken : List Str := ["_law_row", "_law_many", "_law_cell", "_law_found"]
theorem c_law_taken : chkSs (mkSC N_law_taken (defScope (top 31)).names [] [] ["int", "len"]) b_law_taken (defBody (top 31)) = true := by decide +kernel
theorem s_law_taken : FnScope N_law_taken ["_law_row", "_law_many"] (defScope (top 31)) := ⟨rfl, rfl, rfl, by decide +kernel, rfl, by decide +kernel, by decide +kernel⟩
def N_law_board : List Str := ["_law_row", "_law_most"]
theorem c_law_board : chkSs (mkSC N_law_board (defScope (top 32)).names [⟨"_law_taken", 2, [], []⟩] [] []) b_law_board (defBody (top 32)) = true := by decide +kernel
theorem s_law_board : FnScope N_law_board ["_law_row", "_law_most"] (defScope (top 32)) := ⟨rfl, rfl, rfl, by decide +kernel, rfl, by decide +kernel, by decide +kernel⟩
def N_law_some : List Str := ["_law_row", "_law_many", "_law_most", "_law_found", "_law_k", "_law_one"]
theorem c_law_some : chkSs (mkSC N_law_some (defScope (top 33)).names [⟨"_law_taken", 2, [], []⟩] [] ["range", "min", "int", "tuple", "sorted"]) b_law_some (defBody (top 33)) = true := by decide +kernel
theorem s_law_some : FnScope N_law_some ["_law_row", "_law_many", "_law_most"] (defScope (top 33)) := ⟨rfl, rfl, rfl, by decide +kernel, rfl, by decide +kernel, by decide +kernel⟩
def N_law_flips : List Str := ["_law_row", "_law_board_here", "_law_many", "_law_found", "_law_line", "_law_edge", "_law_k"]
theorem c_law_flips : chkSs (mkSC N_law_flips (defScope (top 34)).names [⟨"_law_some", 3, [], []⟩, ⟨"_law_taken", 2, [], []⟩] [] ["list", "range", "tuple"]) b_law_flips (defBody (top 34)) = true := by decide +kernel
theorem s_law_flips : FnScope N_law_flips ["_law_row", "_law_board_here"] (defScope (top 34)) := ⟨rfl, rfl, rfl, by decide +kernel, rfl, by decide +kernel, by decide +kernel⟩
def N_is_number : List Str := ["part", "low", "high"]
theorem c_is_number : chkSs (mkSC N_is_number (defScope (top 8)).names [] [] ["isinstance", "int", "bool"]) b_is_number (defBody (top 8)) = true := by decide +kernel
theorem s_is_number : FnScope N_is_number ["part", "low", "high"] (defScope (top 8)) := ⟨rfl, rfl, rfl, by decide +kernel, rfl, by decide +kernel, by decide +kernel⟩
def N_need_board : List Str := ["board", "side"]
theorem c_need_board : chkSs (mkSC N_need_board (defScope (top 9)).names [⟨"is_number", 3, [], []⟩] ["LEAST_SIDE", "MOST_SIDE"] ["isinstance", "tuple", "len", "all"]) b_need_board (defBody (top 9)) = true := by decide +kernel
theorem s_need_board : FnScope N_need_board ["board"] (defScope (top 9)) := ⟨rfl, rfl, rfl, by decide +kernel, rfl, by decide +kernel, by decide +kernel⟩
def N_bad_place : List Str := ["some", "many", "place", "one"]
theorem c_bad_place : chkSs (mkSC N_bad_place (defScope (top 11)).names [⟨"is_number", 3, [], []⟩] [] ["isinstance", "tuple", "enumerate"]) b_bad_place (defBody (top 11)) = true := by decide +kernel
theorem s_bad_place : FnScope N_bad_place ["some", "many"] (defScope (top 11)) := ⟨rfl, rfl, rfl, by decide +kernel, rfl, by decide +kernel, by decide +kernel⟩
def N_many_sites : List Str := ["board"]
theorem c_many_sites : chkSs (mkSC N_many_sites (defScope (top 10)).names [] [] []) b_many_sites (defBody (top 10)) = true := by decide +kernel
theorem s_many_sites : FnScope N_many_sites ["board"] (defScope (top 10)) := ⟨rfl, rfl, rfl, by decide +kernel, rfl, by decide +kernel, by decide +kernel⟩
def N_need_flips : List Str := ["board", "flips", "place"]
theorem c_need_flips : chkSs (mkSC N_need_flips (defScope (top 12)).names [⟨"bad_place", 2, [], []⟩, ⟨"many_sites", 1, [], []⟩] [] []) b_need_flips (defBody (top 12)) = true := by decide +kernel
theorem s_need_flips : FnScope N_need_flips ["board", "flips"] (defScope (top 12)) := ⟨rfl, rfl, rfl, by decide +kernel, rfl, by decide +kernel, by decide +kernel⟩
def N_need_faces : List Str := ["board", "faces", "place"]
theorem c_need_faces : chkSs (mkSC N_need_faces (defScope (top 13)).names [⟨"bad_place", 2, [], []⟩, ⟨"many_sites", 1, [], []⟩] [] []) b_need_faces (defBody (top 13)) = true := by decide +kernel
theorem s_need_faces : FnScope N_need_faces ["board", "faces"] (defScope (top 13)) := ⟨rfl, rfl, rfl, by decide +kernel, rfl, by decide +kernel, by decide +kernel⟩
def N_both : List Str := ["one", "other"]
theorem c_both : chkSs (mkSC N_both (defScope (top 19)).names [] [] ["tuple", "sorted", "set"]) b_both (defBody (top 19)) = true := by decide +kernel
theorem s_both : FnScope N_both ["one", "other"] (defScope (top 19)) := ⟨rfl, rfl, rfl, by decide +kernel, rfl, by decide +kernel, by decide +kernel⟩
def N_below : List Str := ["board", "site"]
theorem c_below : chkSs (mkSC N_below (defScope (top 15)).names [⟨"many_sites", 1, [], []⟩] [] []) b_below (defBody (top 15)) = true := by decide +kernel
theorem s_below : FnScope N_below ["board", "site"] (defScope (top 15)) := ⟨rfl, rfl, rfl, by decide +kernel, rfl, by decide +kernel, by decide +kernel⟩
def N_right_of : List Str := ["board", "site", "row", "column"]
theorem c_right_of : chkSs (mkSC N_right_of (defScope (top 14)).names [] [] []) b_right_of (defBody (top 14)) = true := by decide +kernel
theorem s_right_of : FnScope N_right_of ["board", "site"] (defScope (top 14)) := ⟨rfl, rfl, rfl, by decide +kernel, rfl, by decide +kernel, by decide +kernel⟩
def N_face_edges : List Str := ["board", "face"]
theorem c_face_edges : chkSs (mkSC N_face_edges (defScope (top 18)).names [⟨"below", 2, [], []⟩, ⟨"right_of", 2, [], []⟩] [] []) b_face_edges (defBody (top 18)) = true := by decide +kernel
theorem s_face_edges : FnScope N_face_edges ["board", "face"] (defScope (top 18)) := ⟨rfl, rfl, rfl, by decide +kernel, rfl, by decide +kernel, by decide +kernel⟩
def N_turned : List Str := ["board", "flips", "faces", "face"]
theorem c_turned : chkSs (mkSC N_turned (defScope (top 27)).names [⟨"need_board", 1, [], []⟩, ⟨"need_flips", 2, [], []⟩, ⟨"need_faces", 2, [], []⟩, ⟨"both", 2, [], []⟩, ⟨"face_edges", 2, [], []⟩] [] []) b_turned (defBody (top 27)) = true := by decide +kernel
theorem s_turned : FnScope N_turned ["board", "flips", "faces"] (defScope (top 27)) := ⟨rfl, rfl, rfl, by decide +kernel, rfl, by decide +kernel, by decide +kernel⟩
def N_ends_of : List Str := ["board", "edge", "site"]
theorem c_ends_of : chkSs (mkSC N_ends_of (defScope (top 16)).names [⟨"right_of", 2, [], []⟩, ⟨"below", 2, [], []⟩] [] []) b_ends_of (defBody (top 16)) = true := by decide +kernel
theorem s_ends_of : FnScope N_ends_of ["board", "edge"] (defScope (top 16)) := ⟨rfl, rfl, rfl, by decide +kernel, rfl, by decide +kernel, by decide +kernel⟩
def N_lit_by : List Str := ["board", "flips", "found", "edge"]
theorem c_lit_by : chkSs (mkSC N_lit_by (defScope (top 21)).names [⟨"both", 2, [], []⟩, ⟨"ends_of", 2, [], []⟩] [] []) b_lit_by (defBody (top 21)) = true := by decide +kernel
theorem s_lit_by : FnScope N_lit_by ["board", "flips"] (defScope (top 21)) := ⟨rfl, rfl, rfl, by decide +kernel, rfl, by decide +kernel, by decide +kernel⟩
def N_checks : List Str := ["board", "flips"]
theorem c_checks : chkSs (mkSC N_checks (defScope (top 23)).names [⟨"need_board", 1, [], []⟩, ⟨"need_flips", 2, [], []⟩, ⟨"lit_by", 2, [], []⟩] [] []) b_checks (defBody (top 23)) = true := by decide +kernel
theorem s_checks : FnScope N_checks ["board", "flips"] (defScope (top 23)) := ⟨rfl, rfl, rfl, by decide +kernel, rfl, by decide +kernel, by decide +kernel⟩
def N_crossed : List Str := ["one", "other"]
theorem c_crossed : chkSs (mkSC N_crossed (defScope (top 20)).names [] [] []) b_crossed (defBody (top 20)) = true := by decide +kernel
theorem s_crossed : FnScope N_crossed ["one", "other"] (defScope (top 20)) := ⟨rfl, rfl, rfl, by decide +kernel, rfl, by decide +kernel, by decide +kernel⟩
def N_seam_of : List Str := ["board", "edge", "site"]
theorem c_seam_of : chkSs (mkSC N_seam_of (defScope (top 17)).names [] [] ["int"]) b_seam_of (defBody (top 17)) = true := by decide +kernel
theorem s_seam_of : FnScope N_seam_of ["board", "edge"] (defScope (top 17)) := ⟨rfl, rfl, rfl, by decide +kernel, rfl, by decide +kernel, by decide +kernel⟩
def N_seams_by : List Str := ["board", "flips", "found", "edge"]
theorem c_seams_by : chkSs (mkSC N_seams_by (defScope (top 22)).names [⟨"crossed", 2, [], []⟩, ⟨"seam_of", 2, [], []⟩] [] []) b_seams_by (defBody (top 22)) = true := by decide +kernel
theorem s_seams_by : FnScope N_seams_by ["board", "flips"] (defScope (top 22)) := ⟨rfl, rfl, rfl, by decide +kernel, rfl, by decide +kernel, by decide +kernel⟩
def N_seams : List Str := ["board", "flips"]
theorem c_seams : chkSs (mkSC N_seams (defScope (top 24)).names [⟨"need_board", 1, [], []⟩, ⟨"need_flips", 2, [], []⟩, ⟨"seams_by", 2, [], []⟩] [] []) b_seams (defBody (top 24)) = true := by decide +kernel
theorem s_seams : FnScope N_seams ["board", "flips"] (defScope (top 24)) := ⟨rfl, rfl, rfl, by decide +kernel, rfl, by decide +kernel, by decide +kernel⟩
def N_law_apart : List Str := ["_law_one", "_law_other", "_law_k"]
theorem c_law_apart : chkSs (mkSC N_law_apart (defScope (top 35)).names [] [] ["tuple", "sorted"]) b_law_apart (defBody (top 35)) = true := by decide +kernel
theorem s_law_apart : FnScope N_law_apart ["_law_one", "_law_other"] (defScope (top 35)) := ⟨rfl, rfl, rfl, by decide +kernel, rfl, by decide +kernel, by decide +kernel⟩
def N_are_alike : List Str := ["board", "one", "other", "left"]
theorem c_are_alike : chkSs (mkSC N_are_alike (defScope (top 28)).names [⟨"need_board", 1, [], []⟩, ⟨"need_flips", 2, [], []⟩, ⟨"both", 2, [], []⟩, ⟨"lit_by", 2, [], []⟩, ⟨"seams_by", 2, [], []⟩] [] []) b_are_alike (defBody (top 28)) = true := by decide +kernel
theorem s_are_alike : FnScope N_are_alike ["board", "one", "other"] (defScope (top 28)) := ⟨rfl, rfl, rfl, by decide +kernel, rfl, by decide +kernel, by decide +kernel⟩
def N_led : List Str := ["board", "one", "other", "left", "sides", "face", "known", "waiting", "edge", "other_face"]
theorem c_led : chkSs (mkSC N_led (defScope (top 29)).names [⟨"are_alike", 3, [], []⟩, ⟨"both", 2, [], []⟩, ⟨"many_sites", 1, [], []⟩, ⟨"face_edges", 2, [], []⟩] [] ["range", "tuple", "sorted"]) b_led (defBody (top 29)) = true := by decide +kernel
theorem s_led : FnScope N_led ["board", "one", "other"] (defScope (top 29)) := ⟨rfl, rfl, rfl, by decide +kernel, rfl, by decide +kernel, by decide +kernel⟩
def N_after : List Str := ["board", "one", "other"]
theorem c_after : chkSs (mkSC N_after (defScope (top 25)).names [⟨"need_board", 1, [], []⟩, ⟨"need_flips", 2, [], []⟩, ⟨"both", 2, [], []⟩] [] []) b_after (defBody (top 25)) = true := by decide +kernel
theorem s_after : FnScope N_after ["board", "one", "other"] (defScope (top 25)) := ⟨rfl, rfl, rfl, by decide +kernel, rfl, by decide +kernel, by decide +kernel⟩
def N_law_is_led : List Str := ["_law_row", "_law_board_here", "_law_one", "_law_other", "_law_told", "_law_alike", "_law_line", "_law_loop", "_law_k"]
theorem c_law_is_led : chkSs (mkSC N_law_is_led (defScope (top 36)).names [⟨"_law_flips", 2, [], []⟩, ⟨"led", 3, [], []⟩, ⟨"checks", 2, [], []⟩, ⟨"seams", 2, [], []⟩, ⟨"turned", 3, [], []⟩, ⟨"_law_taken", 2, [], []⟩, ⟨"after", 3, [], []⟩] [] ["tuple", "range"]) b_law_is_led (defBody (top 36)) = true := by decide +kernel
theorem s_law_is_led : FnScope N_law_is_led ["_law_row", "_law_board_here", "_law_one"] (defScope (top 36)) := ⟨rfl, rfl, rfl, by decide +kernel, rfl, by decide +kernel, by decide +kernel⟩
def N_law : List Str := ["_law_script", "_law_row", "_law_turn", "_law_board_here", "_law_two", "_law_flips_here", "_law_face", "_law_due", "_law_many", "_law_one", "_law_faces", "_law_others"]
theorem c_law : chkSs (mkSC N_law (defScope (top 37)).names [⟨"_law_board", 2, [], []⟩, ⟨"_law_flips", 2, [], []⟩, ⟨"_law_some", 3, [], []⟩, ⟨"turned", 3, [], []⟩, ⟨"checks", 2, [], []⟩, ⟨"seams", 2, [], []⟩, ⟨"_law_apart", 2, [], []⟩, ⟨"led", 3, [], []⟩, ⟨"_law_taken", 2, [], []⟩, ⟨"_law_is_led", 3, [], []⟩] [] ["range", "tuple", "len"]) b_law (defBody (top 37)) = true := by decide +kernel
theorem s_law : FnScope N_law ["_law_script"] (defScope (top 37)) := ⟨rfl, rfl, rfl, by decide +kernel, rfl, by decide +kernel, by decide +kernel⟩
end Sf

namespace Sf
open PySem PySem.Spec PyProof.Rows L2
section
variable {k : Kx} {mg : Str → Option Value} {base : Heap}
theorem fn_none {lv : Nat} {f : Addr} {fd : FuncData} {ps : List Str} : FnOk k.P k.w k.K mg base (L2.CX k.P k.w) lv f fd ps (spOf k (fun _ _ => none) ps.length) :=
  ⟨fun vs H Q E q => by obtain ⟨_, _, _, _, _, _, q4, _⟩ := q; exact q4, fun A outer s H args us vs Q E _ _ _ _ q => by obtain ⟨_, _, _, _, _, _, _, _, e, _⟩ := q; cases e⟩
end
section
variable {k : Kx} {mg : Str → Option Value} {base : Heap}
structure Txt (K : PySem.W.Frag) (mg : Str → Option Value) : Prop where
  d_law_taken : DefR K mg "_law_taken" (top 31) []
  d_law_board : DefR K mg "_law_board" (top 32) []
  d_law_some : DefR K mg "_law_some" (top 33) []
  d_law_flips : DefR K mg "_law_flips" (top 34) []
  d_is_number : DefR K mg "is_number" (top 8) []
  d_need_board : DefR K mg "need_board" (top 9) []
  d_bad_place : DefR K mg "bad_place" (top 11) []
  d_many_sites : DefR K mg "many_sites" (top 10) []
  d_need_flips : DefR K mg "need_flips" (top 12) []
  d_need_faces : DefR K mg "need_faces" (top 13) []
  d_both : DefR K mg "both" (top 19) []
  d_below : DefR K mg "below" (top 15) []
  d_right_of : DefR K mg "right_of" (top 14) []
  d_face_edges : DefR K mg "face_edges" (top 18) []
  d_turned : DefR K mg "turned" (top 27) []
  d_ends_of : DefR K mg "ends_of" (top 16) []
  d_lit_by : DefR K mg "lit_by" (top 21) []
  d_checks : DefR K mg "checks" (top 23) []
  d_crossed : DefR K mg "crossed" (top 20) []
  d_seam_of : DefR K mg "seam_of" (top 17) []
  d_seams_by : DefR K mg "seams_by" (top 22) []
  d_seams : DefR K mg "seams" (top 24) []
  d_law_apart : DefR K mg "_law_apart" (top 35) []
  d_are_alike : DefR K mg "are_alike" (top 28) []
  d_led : DefR K mg "led" (top 29) []
  d_after : DefR K mg "after" (top 25) []
  d_law_is_led : DefR K mg "_law_is_led" (top 36) []
  d_law : DefR K mg "law" (top 37) []
  b_all : mg "all" = none
  b_bool : mg "bool" = none
  b_enumerate : mg "enumerate" = none
  b_int : mg "int" = none
  b_isinstance : mg "isinstance" = none
  b_len : mg "len" = none
  b_list : mg "list" = none
  b_min : mg "min" = none
  b_range : mg "range" = none
  b_set : mg "set" = none
  b_sorted : mg "sorted" = none
  b_tuple : mg "tuple" = none
  g_LEAST_SIDE : ∃ u v, mg "LEAST_SIDE" = some u ∧ RelV v u ∧ ∀ k f, Rep k f (.int 2) v
  g_MOST_SIDE : ∃ u v, mg "MOST_SIDE" = some u ∧ RelV v u ∧ ∀ k f, Rep k f (.int 5) v
theorem at_law_taken (T : Txt k.K mg) : DefAt k mg base ⟨"_law_taken", 2, [], []⟩ 1 f_law_taken := by
  refine T.d_law_taken.at (lv := 0) (fns := l_law_taken) (gl := g_law_taken) (blt := ["int", "len"]) s_law_taken (fun _ _ _ _ _ _ us hl => match us, hl with | [_, _], _ => rfl) c_law_taken ?_ ?_ ?_
  · intro y hy
    simp only [List.mem_cons, List.not_mem_nil, or_false] at hy
    rcases hy with rfl | rfl
    · exact T.b_int
    · exact T.b_len
  · intro p hp
    cases hp
  · intro p hp
    cases hp
theorem at_law_board (T : Txt k.K mg) : DefAt k mg base ⟨"_law_board", 2, [], []⟩ 2 f_law_board := by
  refine T.d_law_board.at (lv := 1) (fns := l_law_board) (gl := g_law_board) (blt := []) s_law_board (fun _ _ _ _ _ _ us hl => match us, hl with | [_, _], _ => rfl) c_law_board ?_ ?_ ?_
  · intro y hy
    cases hy
  · intro p hp
    cases hp
  · intro p hp
    simp only [l_law_board, List.mem_cons, List.not_mem_nil, or_false] at hp
    rcases hp with rfl
    · exact (at_law_taken T).mono (by decide)
theorem at_law_some (T : Txt k.K mg) : DefAt k mg base ⟨"_law_some", 3, [], []⟩ 2 f_law_some := by
  refine T.d_law_some.at (lv := 1) (fns := l_law_some) (gl := g_law_some) (blt := ["range", "min", "int", "tuple", "sorted"]) s_law_some (fun _ _ _ _ _ _ us hl => match us, hl with | [_, _, _], _ => rfl) c_law_some ?_ ?_ ?_
  · intro y hy
    simp only [List.mem_cons, List.not_mem_nil, or_false] at hy
    rcases hy with rfl | rfl | rfl | rfl | rfl
    · exact T.b_range
    · exact T.b_min
    · exact T.b_int
    · exact T.b_tuple
    · exact T.b_sorted
  · intro p hp
    cases hp
  · intro p hp
    simp only [l_law_some, List.mem_cons, List.not_mem_nil, or_false] at hp
    rcases hp with rfl
    · exact (at_law_taken T).mono (by decide)
theorem at_law_flips (T : Txt k.K mg) : DefAt k mg base ⟨"_law_flips", 2, [], []⟩ 3 f_law_flips := by
  refine T.d_law_flips.at (lv := 2) (fns := l_law_flips) (gl := g_law_flips) (blt := ["list", "range", "tuple"]) s_law_flips (fun _ _ _ _ _ _ us hl => match us, hl with | [_, _], _ => rfl) c_law_flips ?_ ?_ ?_
  · intro y hy
    simp only [List.mem_cons, List.not_mem_nil, or_false] at hy
    rcases hy with rfl | rfl | rfl
    · exact T.b_list
    · exact T.b_range
    · exact T.b_tuple
  · intro p hp
    cases hp
  · intro p hp
    simp only [l_law_flips, List.mem_cons, List.not_mem_nil, or_false] at hp
    rcases hp with rfl | rfl
    · exact (at_law_some T).mono (by decide)
    · exact (at_law_taken T).mono (by decide)
theorem at_is_number (T : Txt k.K mg) : DefAt k mg base ⟨"is_number", 3, [], []⟩ 1 f_is_number := by
  refine T.d_is_number.at (lv := 0) (fns := l_is_number) (gl := g_is_number) (blt := ["isinstance", "int", "bool"]) s_is_number (fun _ _ _ _ _ _ us hl => match us, hl with | [_, _, _], _ => rfl) c_is_number ?_ ?_ ?_
  · intro y hy
    simp only [List.mem_cons, List.not_mem_nil, or_false] at hy
    rcases hy with rfl | rfl | rfl
    · exact T.b_isinstance
    · exact T.b_int
    · exact T.b_bool
  · intro p hp
    cases hp
  · intro p hp
    cases hp
theorem at_need_board (T : Txt k.K mg) : DefAt k mg base ⟨"need_board", 1, [], []⟩ 2 f_need_board := by
  refine T.d_need_board.at (lv := 1) (fns := l_need_board) (gl := g_need_board) (blt := ["isinstance", "tuple", "len", "all"]) s_need_board (fun _ _ _ _ _ _ us hl => match us, hl with | [_], _ => rfl) c_need_board ?_ ?_ ?_
  · intro y hy
    simp only [List.mem_cons, List.not_mem_nil, or_false] at hy
    rcases hy with rfl | rfl | rfl | rfl
    · exact T.b_isinstance
    · exact T.b_tuple
    · exact T.b_len
    · exact T.b_all
  · intro p hp
    simp only [g_need_board, List.mem_cons, List.not_mem_nil, or_false] at hp
    rcases hp with rfl | rfl
    · obtain ⟨u, v, q1, q2, q3⟩ := T.g_LEAST_SIDE; exact ⟨u, v, q1, q2, q3 k⟩
    · obtain ⟨u, v, q1, q2, q3⟩ := T.g_MOST_SIDE; exact ⟨u, v, q1, q2, q3 k⟩
  · intro p hp
    simp only [l_need_board, List.mem_cons, List.not_mem_nil, or_false] at hp
    rcases hp with rfl
    · exact (at_is_number T).mono (by decide)
theorem at_bad_place (T : Txt k.K mg) : DefAt k mg base ⟨"bad_place", 2, [], []⟩ 2 f_bad_place := by
  refine T.d_bad_place.at (lv := 1) (fns := l_bad_place) (gl := g_bad_place) (blt := ["isinstance", "tuple", "enumerate"]) s_bad_place (fun _ _ _ _ _ _ us hl => match us, hl with | [_, _], _ => rfl) c_bad_place ?_ ?_ ?_
  · intro y hy
    simp only [List.mem_cons, List.not_mem_nil, or_false] at hy
    rcases hy with rfl | rfl | rfl
    · exact T.b_isinstance
    · exact T.b_tuple
    · exact T.b_enumerate
  · intro p hp
    cases hp
  · intro p hp
    simp only [l_bad_place, List.mem_cons, List.not_mem_nil, or_false] at hp
    rcases hp with rfl
    · exact (at_is_number T).mono (by decide)
theorem at_many_sites (T : Txt k.K mg) : DefAt k mg base ⟨"many_sites", 1, [], []⟩ 1 f_many_sites := by
  refine T.d_many_sites.at (lv := 0) (fns := l_many_sites) (gl := g_many_sites) (blt := []) s_many_sites (fun _ _ _ _ _ _ us hl => match us, hl with | [_], _ => rfl) c_many_sites ?_ ?_ ?_
  · intro y hy
    cases hy
  · intro p hp
    cases hp
  · intro p hp
    cases hp
theorem at_need_flips (T : Txt k.K mg) : DefAt k mg base ⟨"need_flips", 2, [], []⟩ 3 f_need_flips := by
  refine T.d_need_flips.at (lv := 2) (fns := l_need_flips) (gl := g_need_flips) (blt := []) s_need_flips (fun _ _ _ _ _ _ us hl => match us, hl with | [_, _], _ => rfl) c_need_flips ?_ ?_ ?_
  · intro y hy
    cases hy
  · intro p hp
    cases hp
  · intro p hp
    simp only [l_need_flips, List.mem_cons, List.not_mem_nil, or_false] at hp
    rcases hp with rfl | rfl
    · exact (at_bad_place T).mono (by decide)
    · exact (at_many_sites T).mono (by decide)
theorem at_need_faces (T : Txt k.K mg) : DefAt k mg base ⟨"need_faces", 2, [], []⟩ 3 f_need_faces := by
  refine T.d_need_faces.at (lv := 2) (fns := l_need_faces) (gl := g_need_faces) (blt := []) s_need_faces (fun _ _ _ _ _ _ us hl => match us, hl with | [_, _], _ => rfl) c_need_faces ?_ ?_ ?_
  · intro y hy
    cases hy
  · intro p hp
    cases hp
  · intro p hp
    simp only [l_need_faces, List.mem_cons, List.not_mem_nil, or_false] at hp
    rcases hp with rfl | rfl
    · exact (at_bad_place T).mono (by decide)
    · exact (at_many_sites T).mono (by decide)
theorem at_both (T : Txt k.K mg) : DefAt k mg base ⟨"both", 2, [], []⟩ 1 f_both := by
  refine T.d_both.at (lv := 0) (fns := l_both) (gl := g_both) (blt := ["tuple", "sorted", "set"]) s_both (fun _ _ _ _ _ _ us hl => match us, hl with | [_, _], _ => rfl) c_both ?_ ?_ ?_
  · intro y hy
    simp only [List.mem_cons, List.not_mem_nil, or_false] at hy
    rcases hy with rfl | rfl | rfl
    · exact T.b_tuple
    · exact T.b_sorted
    · exact T.b_set
  · intro p hp
    cases hp
  · intro p hp
    cases hp
theorem at_below (T : Txt k.K mg) : DefAt k mg base ⟨"below", 2, [], []⟩ 2 f_below := by
  refine T.d_below.at (lv := 1) (fns := l_below) (gl := g_below) (blt := []) s_below (fun _ _ _ _ _ _ us hl => match us, hl with | [_, _], _ => rfl) c_below ?_ ?_ ?_
  · intro y hy
    cases hy
  · intro p hp
    cases hp
  · intro p hp
    simp only [l_below, List.mem_cons, List.not_mem_nil, or_false] at hp
    rcases hp with rfl
    · exact (at_many_sites T).mono (by decide)
theorem at_right_of (T : Txt k.K mg) : DefAt k mg base ⟨"right_of", 2, [], []⟩ 1 f_right_of := by
  refine T.d_right_of.at (lv := 0) (fns := l_right_of) (gl := g_right_of) (blt := []) s_right_of (fun _ _ _ _ _ _ us hl => match us, hl with | [_, _], _ => rfl) c_right_of ?_ ?_ ?_
  · intro y hy
    cases hy
  · intro p hp
    cases hp
  · intro p hp
    cases hp
theorem at_face_edges (T : Txt k.K mg) : DefAt k mg base ⟨"face_edges", 2, [], []⟩ 3 f_face_edges := by
  refine T.d_face_edges.at (lv := 2) (fns := l_face_edges) (gl := g_face_edges) (blt := []) s_face_edges (fun _ _ _ _ _ _ us hl => match us, hl with | [_, _], _ => rfl) c_face_edges ?_ ?_ ?_
  · intro y hy
    cases hy
  · intro p hp
    cases hp
  · intro p hp
    simp only [l_face_edges, List.mem_cons, List.not_mem_nil, or_false] at hp
    rcases hp with rfl | rfl
    · exact (at_below T).mono (by decide)
    · exact (at_right_of T).mono (by decide)
theorem at_turned (T : Txt k.K mg) : DefAt k mg base ⟨"turned", 3, [], []⟩ 4 f_turned := by
  refine T.d_turned.at (lv := 3) (fns := l_turned) (gl := g_turned) (blt := []) s_turned (fun _ _ _ _ _ _ us hl => match us, hl with | [_, _, _], _ => rfl) c_turned ?_ ?_ ?_
  · intro y hy
    cases hy
  · intro p hp
    cases hp
  · intro p hp
    simp only [l_turned, List.mem_cons, List.not_mem_nil, or_false] at hp
    rcases hp with rfl | rfl | rfl | rfl | rfl
    · exact (at_need_board T).mono (by decide)
    · exact (at_need_flips T).mono (by decide)
    · exact (at_need_faces T).mono (by decide)
    · exact (at_both T).mono (by decide)
    · exact (at_face_edges T).mono (by decide)
theorem at_ends_of (T : Txt k.K mg) : DefAt k mg base ⟨"ends_of", 2, [], []⟩ 3 f_ends_of := by
  refine T.d_ends_of.at (lv := 2) (fns := l_ends_of) (gl := g_ends_of) (blt := []) s_ends_of (fun _ _ _ _ _ _ us hl => match us, hl with | [_, _], _ => rfl) c_ends_of ?_ ?_ ?_
  · intro y hy
    cases hy
  · intro p hp
    cases hp
  · intro p hp
    simp only [l_ends_of, List.mem_cons, List.not_mem_nil, or_false] at hp
    rcases hp with rfl | rfl
    · exact (at_right_of T).mono (by decide)
    · exact (at_below T).mono (by decide)
theorem at_lit_by (T : Txt k.K mg) : DefAt k mg base ⟨"lit_by", 2, [], []⟩ 4 f_lit_by := by
  refine T.d_lit_by.at (lv := 3) (fns := l_lit_by) (gl := g_lit_by) (blt := []) s_lit_by (fun _ _ _ _ _ _ us hl => match us, hl with | [_, _], _ => rfl) c_lit_by ?_ ?_ ?_
  · intro y hy
    cases hy
  · intro p hp
    cases hp
  · intro p hp
    simp only [l_lit_by, List.mem_cons, List.not_mem_nil, or_false] at hp
    rcases hp with rfl | rfl
    · exact (at_both T).mono (by decide)
    · exact (at_ends_of T).mono (by decide)
theorem at_checks (T : Txt k.K mg) : DefAt k mg base ⟨"checks", 2, [], []⟩ 5 f_checks := by
  refine T.d_checks.at (lv := 4) (fns := l_checks) (gl := g_checks) (blt := []) s_checks (fun _ _ _ _ _ _ us hl => match us, hl with | [_, _], _ => rfl) c_checks ?_ ?_ ?_
  · intro y hy
    cases hy
  · intro p hp
    cases hp
  · intro p hp
    simp only [l_checks, List.mem_cons, List.not_mem_nil, or_false] at hp
    rcases hp with rfl | rfl | rfl
    · exact (at_need_board T).mono (by decide)
    · exact (at_need_flips T).mono (by decide)
    · exact (at_lit_by T).mono (by decide)
theorem at_crossed (T : Txt k.K mg) : DefAt k mg base ⟨"crossed", 2, [], []⟩ 1 f_crossed := by
  refine T.d_crossed.at (lv := 0) (fns := l_crossed) (gl := g_crossed) (blt := []) s_crossed (fun _ _ _ _ _ _ us hl => match us, hl with | [_, _], _ => rfl) c_crossed ?_ ?_ ?_
  · intro y hy
    cases hy
  · intro p hp
    cases hp
  · intro p hp
    cases hp
theorem at_seam_of (T : Txt k.K mg) : DefAt k mg base ⟨"seam_of", 2, [], []⟩ 1 f_seam_of := by
  refine T.d_seam_of.at (lv := 0) (fns := l_seam_of) (gl := g_seam_of) (blt := ["int"]) s_seam_of (fun _ _ _ _ _ _ us hl => match us, hl with | [_, _], _ => rfl) c_seam_of ?_ ?_ ?_
  · intro y hy
    simp only [List.mem_cons, List.not_mem_nil, or_false] at hy
    rcases hy with rfl
    · exact T.b_int
  · intro p hp
    cases hp
  · intro p hp
    cases hp
theorem at_seams_by (T : Txt k.K mg) : DefAt k mg base ⟨"seams_by", 2, [], []⟩ 2 f_seams_by := by
  refine T.d_seams_by.at (lv := 1) (fns := l_seams_by) (gl := g_seams_by) (blt := []) s_seams_by (fun _ _ _ _ _ _ us hl => match us, hl with | [_, _], _ => rfl) c_seams_by ?_ ?_ ?_
  · intro y hy
    cases hy
  · intro p hp
    cases hp
  · intro p hp
    simp only [l_seams_by, List.mem_cons, List.not_mem_nil, or_false] at hp
    rcases hp with rfl | rfl
    · exact (at_crossed T).mono (by decide)
    · exact (at_seam_of T).mono (by decide)
theorem at_seams (T : Txt k.K mg) : DefAt k mg base ⟨"seams", 2, [], []⟩ 4 f_seams := by
  refine T.d_seams.at (lv := 3) (fns := l_seams) (gl := g_seams) (blt := []) s_seams (fun _ _ _ _ _ _ us hl => match us, hl with | [_, _], _ => rfl) c_seams ?_ ?_ ?_
  · intro y hy
    cases hy
  · intro p hp
    cases hp
  · intro p hp
    simp only [l_seams, List.mem_cons, List.not_mem_nil, or_false] at hp
    rcases hp with rfl | rfl | rfl
    · exact (at_need_board T).mono (by decide)
    · exact (at_need_flips T).mono (by decide)
    · exact (at_seams_by T).mono (by decide)
theorem at_law_apart (T : Txt k.K mg) : DefAt k mg base ⟨"_law_apart", 2, [], []⟩ 1 f_law_apart := by
  refine T.d_law_apart.at (lv := 0) (fns := l_law_apart) (gl := g_law_apart) (blt := ["tuple", "sorted"]) s_law_apart (fun _ _ _ _ _ _ us hl => match us, hl with | [_, _], _ => rfl) c_law_apart ?_ ?_ ?_
  · intro y hy
    simp only [List.mem_cons, List.not_mem_nil, or_false] at hy
    rcases hy with rfl | rfl
    · exact T.b_tuple
    · exact T.b_sorted
  · intro p hp
    cases hp
  · intro p hp
    cases hp
theorem at_are_alike (T : Txt k.K mg) : DefAt k mg base ⟨"are_alike", 3, [], []⟩ 5 f_are_alike := by
  refine T.d_are_alike.at (lv := 4) (fns := l_are_alike) (gl := g_are_alike) (blt := []) s_are_alike (fun _ _ _ _ _ _ us hl => match us, hl with | [_, _, _], _ => rfl) c_are_alike ?_ ?_ ?_
  · intro y hy
    cases hy
  · intro p hp
    cases hp
  · intro p hp
    simp only [l_are_alike, List.mem_cons, List.not_mem_nil, or_false] at hp
    rcases hp with rfl | rfl | rfl | rfl | rfl
    · exact (at_need_board T).mono (by decide)
    · exact (at_need_flips T).mono (by decide)
    · exact (at_both T).mono (by decide)
    · exact (at_lit_by T).mono (by decide)
    · exact (at_seams_by T).mono (by decide)
theorem at_led (T : Txt k.K mg) : DefAt k mg base ⟨"led", 3, [], []⟩ 6 f_led := by
  refine T.d_led.at (lv := 5) (fns := l_led) (gl := g_led) (blt := ["range", "tuple", "sorted"]) s_led (fun _ _ _ _ _ _ us hl => match us, hl with | [_, _, _], _ => rfl) c_led ?_ ?_ ?_
  · intro y hy
    simp only [List.mem_cons, List.not_mem_nil, or_false] at hy
    rcases hy with rfl | rfl | rfl
    · exact T.b_range
    · exact T.b_tuple
    · exact T.b_sorted
  · intro p hp
    cases hp
  · intro p hp
    simp only [l_led, List.mem_cons, List.not_mem_nil, or_false] at hp
    rcases hp with rfl | rfl | rfl | rfl
    · exact (at_are_alike T).mono (by decide)
    · exact (at_both T).mono (by decide)
    · exact (at_many_sites T).mono (by decide)
    · exact (at_face_edges T).mono (by decide)
theorem at_after (T : Txt k.K mg) : DefAt k mg base ⟨"after", 3, [], []⟩ 4 f_after := by
  refine T.d_after.at (lv := 3) (fns := l_after) (gl := g_after) (blt := []) s_after (fun _ _ _ _ _ _ us hl => match us, hl with | [_, _, _], _ => rfl) c_after ?_ ?_ ?_
  · intro y hy
    cases hy
  · intro p hp
    cases hp
  · intro p hp
    simp only [l_after, List.mem_cons, List.not_mem_nil, or_false] at hp
    rcases hp with rfl | rfl | rfl
    · exact (at_need_board T).mono (by decide)
    · exact (at_need_flips T).mono (by decide)
    · exact (at_both T).mono (by decide)
theorem at_law_is_led (T : Txt k.K mg) : DefAt k mg base ⟨"_law_is_led", 3, [], []⟩ 7 f_law_is_led := by
  refine T.d_law_is_led.at (lv := 6) (fns := l_law_is_led) (gl := g_law_is_led) (blt := ["tuple", "range"]) s_law_is_led (fun _ _ _ _ _ _ us hl => match us, hl with | [_, _, _], _ => rfl) c_law_is_led ?_ ?_ ?_
  · intro y hy
    simp only [List.mem_cons, List.not_mem_nil, or_false] at hy
    rcases hy with rfl | rfl
    · exact T.b_tuple
    · exact T.b_range
  · intro p hp
    cases hp
  · intro p hp
    simp only [l_law_is_led, List.mem_cons, List.not_mem_nil, or_false] at hp
    rcases hp with rfl | rfl | rfl | rfl | rfl | rfl | rfl
    · exact (at_law_flips T).mono (by decide)
    · exact (at_led T).mono (by decide)
    · exact (at_checks T).mono (by decide)
    · exact (at_seams T).mono (by decide)
    · exact (at_turned T).mono (by decide)
    · exact (at_law_taken T).mono (by decide)
    · exact (at_after T).mono (by decide)
theorem fn_law (T : Txt k.K mg) {f : Addr} {fd : FuncData} (F : FunD k.K "law" "law" (defArgs (top 37)) (defBody (top 37)) (defScope (top 37)) [] [] f fd) : FnOk k.P k.w k.K mg base (L2.CX k.P k.w) 8 f fd ["_law_script"] (spOf k f_law 1) := by
  refine fn_worth F (lv := 7) (fns := l_law) (gl := g_law) (blt := ["range", "tuple", "len"]) s_law c_law ?_ ?_ ?_
  · intro y hy
    simp only [List.mem_cons, List.not_mem_nil, or_false] at hy
    rcases hy with rfl | rfl | rfl
    · exact T.b_range
    · exact T.b_tuple
    · exact T.b_len
  · intro p hp
    cases hp
  · intro p hp
    simp only [l_law, List.mem_cons, List.not_mem_nil, or_false] at hp
    rcases hp with rfl | rfl | rfl | rfl | rfl | rfl | rfl | rfl | rfl | rfl
    · exact (at_law_board T).mono (by decide)
    · exact (at_law_flips T).mono (by decide)
    · exact (at_law_some T).mono (by decide)
    · exact (at_turned T).mono (by decide)
    · exact (at_checks T).mono (by decide)
    · exact (at_seams T).mono (by decide)
    · exact (at_law_apart T).mono (by decide)
    · exact (at_led T).mono (by decide)
    · exact (at_law_taken T).mono (by decide)
    · exact (at_law_is_led T).mono (by decide)
end
/-! the top, the head -/
theorem all_mk {l : PySem.W.OpenLaw} {w : World} {K : PySem.W.Frag} {h : Heap} {mg : Str → Option Value} {fa f0 f1 f2 f3 f4 f5 f6 f7 f8 f9 f10 f11 f12 f13 f14 f15 f16 f17 f18 f19 f20 f21 f22 f23 f24 f25 f26 f27 : Addr} (X : K.In h) (G : h.Ns mainGlobals mg) (hfa : mg "law" = some (.ref fa))
    {od0 an0 od1 an1 od2 an2 od3 an3 od4 an4 od5 an5 od6 an6 od7 an7 od8 an8 od9 an9 od10 an10 od11 an11 od12 an12 od13 an13 od14 an14 od15 an15 od16 an16 od17 an17 od18 an18 od19 an19 od20 an20 od21 an21 od22 an22 od23 an23 od24 an24 od25 an25 od26 an26 od27 an27 : Option Addr} {sl0 sl1 sl2 sl3 sl4 sl5 sl6 sl7 sl8 sl9 sl10 sl11 sl12 sl13 sl14 sl15 sl16 sl17 sl18 sl19 sl20 sl21 sl22 sl23 sl24 sl25 sl26 sl27 : Array (Option Value)} {oc0 kV0 dc0 pm0 cd0 ct0 oc1 kV1 dc1 pm1 cd1 ct1 oc2 kV2 dc2 pm2 cd2 ct2 oc3 kV3 dc3 pm3 cd3 ct3 oc4 kV4 dc4 pm4 cd4 ct4 oc5 kV5 dc5 pm5 cd5 ct5 oc6 kV6 dc6 pm6 cd6 ct6 oc7 kV7 dc7 pm7 cd7 ct7 oc8 kV8 dc8 pm8 cd8 ct8 oc9 kV9 dc9 pm9 cd9 ct9 oc10 kV10 dc10 pm10 cd10 ct10 oc11 kV11 dc11 pm11 cd11 ct11 oc12 kV12 dc12 pm12 cd12 ct12 oc13 kV13 dc13 pm13 cd13 ct13 oc14 kV14 dc14 pm14 cd14 ct14 oc15 kV15 dc15 pm15 cd15 ct15 oc16 kV16 dc16 pm16 cd16 ct16 oc17 kV17 dc17 pm17 cd17 ct17 oc18 kV18 dc18 pm18 cd18 ct18 oc19 kV19 dc19 pm19 cd19 ct19 oc20 kV20 dc20 pm20 cd20 ct20 oc21 kV21 dc21 pm21 cd21 ct21 oc22 kV22 dc22 pm22 cd22 ct22 oc23 kV23 dc23 pm23 cd23 ct23 oc24 kV24 dc24 pm24 cd24 ct24 oc25 kV25 dc25 pm25 cd25 ct25 oc26 kV26 dc26 pm26 cd26 ct26 oc27 kV27 dc27 pm27 cd27 ct27 : Value} {t_LEAST_SIDE t_MOST_SIDE : Tok}
    (a0 : PySem.W.nsIn K mainGlobals "_law_taken" = some (some (.ref f0))) (l0 : K.lookup f0 = some ⟨oc0, od0, .func (PySem.W.fnOf "_law_taken" "_law_taken" (defArgs (top 31)) (defBody (top 31)) (defScope (top 31)) .none kV0 dc0 pm0 an0 cd0 ct0), sl0⟩) (c0 : PySem.W.codeIn K cd0 "_law_taken" = true) (k0 : PySem.W.keepIn K (.ref f0) = true)
    (a1 : PySem.W.nsIn K mainGlobals "_law_board" = some (some (.ref f1))) (l1 : K.lookup f1 = some ⟨oc1, od1, .func (PySem.W.fnOf "_law_board" "_law_board" (defArgs (top 32)) (defBody (top 32)) (defScope (top 32)) .none kV1 dc1 pm1 an1 cd1 ct1), sl1⟩) (c1 : PySem.W.codeIn K cd1 "_law_board" = true) (k1 : PySem.W.keepIn K (.ref f1) = true)
    (a2 : PySem.W.nsIn K mainGlobals "_law_some" = some (some (.ref f2))) (l2 : K.lookup f2 = some ⟨oc2, od2, .func (PySem.W.fnOf "_law_some" "_law_some" (defArgs (top 33)) (defBody (top 33)) (defScope (top 33)) .none kV2 dc2 pm2 an2 cd2 ct2), sl2⟩) (c2 : PySem.W.codeIn K cd2 "_law_some" = true) (k2 : PySem.W.keepIn K (.ref f2) = true)
    (a3 : PySem.W.nsIn K mainGlobals "_law_flips" = some (some (.ref f3))) (l3 : K.lookup f3 = some ⟨oc3, od3, .func (PySem.W.fnOf "_law_flips" "_law_flips" (defArgs (top 34)) (defBody (top 34)) (defScope (top 34)) .none kV3 dc3 pm3 an3 cd3 ct3), sl3⟩) (c3 : PySem.W.codeIn K cd3 "_law_flips" = true) (k3 : PySem.W.keepIn K (.ref f3) = true)
    (a4 : PySem.W.nsIn K mainGlobals "is_number" = some (some (.ref f4))) (l4 : K.lookup f4 = some ⟨oc4, od4, .func (PySem.W.fnOf "is_number" "is_number" (defArgs (top 8)) (defBody (top 8)) (defScope (top 8)) .none kV4 dc4 pm4 an4 cd4 ct4), sl4⟩) (c4 : PySem.W.codeIn K cd4 "is_number" = true) (k4 : PySem.W.keepIn K (.ref f4) = true)
    (a5 : PySem.W.nsIn K mainGlobals "need_board" = some (some (.ref f5))) (l5 : K.lookup f5 = some ⟨oc5, od5, .func (PySem.W.fnOf "need_board" "need_board" (defArgs (top 9)) (defBody (top 9)) (defScope (top 9)) .none kV5 dc5 pm5 an5 cd5 ct5), sl5⟩) (c5 : PySem.W.codeIn K cd5 "need_board" = true) (k5 : PySem.W.keepIn K (.ref f5) = true)
    (a6 : PySem.W.nsIn K mainGlobals "bad_place" = some (some (.ref f6))) (l6 : K.lookup f6 = some ⟨oc6, od6, .func (PySem.W.fnOf "bad_place" "bad_place" (defArgs (top 11)) (defBody (top 11)) (defScope (top 11)) .none kV6 dc6 pm6 an6 cd6 ct6), sl6⟩) (c6 : PySem.W.codeIn K cd6 "bad_place" = true) (k6 : PySem.W.keepIn K (.ref f6) = true)
    (a7 : PySem.W.nsIn K mainGlobals "many_sites" = some (some (.ref f7))) (l7 : K.lookup f7 = some ⟨oc7, od7, .func (PySem.W.fnOf "many_sites" "many_sites" (defArgs (top 10)) (defBody (top 10)) (defScope (top 10)) .none kV7 dc7 pm7 an7 cd7 ct7), sl7⟩) (c7 : PySem.W.codeIn K cd7 "many_sites" = true) (k7 : PySem.W.keepIn K (.ref f7) = true)
    (a8 : PySem.W.nsIn K mainGlobals "need_flips" = some (some (.ref f8))) (l8 : K.lookup f8 = some ⟨oc8, od8, .func (PySem.W.fnOf "need_flips" "need_flips" (defArgs (top 12)) (defBody (top 12)) (defScope (top 12)) .none kV8 dc8 pm8 an8 cd8 ct8), sl8⟩) (c8 : PySem.W.codeIn K cd8 "need_flips" = true) (k8 : PySem.W.keepIn K (.ref f8) = true)
    (a9 : PySem.W.nsIn K mainGlobals "need_faces" = some (some (.ref f9))) (l9 : K.lookup f9 = some ⟨oc9, od9, .func (PySem.W.fnOf "need_faces" "need_faces" (defArgs (top 13)) (defBody (top 13)) (defScope (top 13)) .none kV9 dc9 pm9 an9 cd9 ct9), sl9⟩) (c9 : PySem.W.codeIn K cd9 "need_faces" = true) (k9 : PySem.W.keepIn K (.ref f9) = true)
    (a10 : PySem.W.nsIn K mainGlobals "both" = some (some (.ref f10))) (l10 : K.lookup f10 = some ⟨oc10, od10, .func (PySem.W.fnOf "both" "both" (defArgs (top 19)) (defBody (top 19)) (defScope (top 19)) .none kV10 dc10 pm10 an10 cd10 ct10), sl10⟩) (c10 : PySem.W.codeIn K cd10 "both" = true) (k10 : PySem.W.keepIn K (.ref f10) = true)
    (a11 : PySem.W.nsIn K mainGlobals "below" = some (some (.ref f11))) (l11 : K.lookup f11 = some ⟨oc11, od11, .func (PySem.W.fnOf "below" "below" (defArgs (top 15)) (defBody (top 15)) (defScope (top 15)) .none kV11 dc11 pm11 an11 cd11 ct11), sl11⟩) (c11 : PySem.W.codeIn K cd11 "below" = true) (k11 : PySem.W.keepIn K (.ref f11) = true)
    (a12 : PySem.W.nsIn K mainGlobals "right_of" = some (some (.ref f12))) (l12 : K.lookup f12 = some ⟨oc12, od12, .func (PySem.W.fnOf "right_of" "right_of" (defArgs (top 14)) (defBody (top 14)) (defScope (top 14)) .none kV12 dc12 pm12 an12 cd12 ct12), sl12⟩) (c12 : PySem.W.codeIn K cd12 "right_of" = true) (k12 : PySem.W.keepIn K (.ref f12) = true)
    (a13 : PySem.W.nsIn K mainGlobals "face_edges" = some (some (.ref f13))) (l13 : K.lookup f13 = some ⟨oc13, od13, .func (PySem.W.fnOf "face_edges" "face_edges" (defArgs (top 18)) (defBody (top 18)) (defScope (top 18)) .none kV13 dc13 pm13 an13 cd13 ct13), sl13⟩) (c13 : PySem.W.codeIn K cd13 "face_edges" = true) (k13 : PySem.W.keepIn K (.ref f13) = true)
    (a14 : PySem.W.nsIn K mainGlobals "turned" = some (some (.ref f14))) (l14 : K.lookup f14 = some ⟨oc14, od14, .func (PySem.W.fnOf "turned" "turned" (defArgs (top 27)) (defBody (top 27)) (defScope (top 27)) .none kV14 dc14 pm14 an14 cd14 ct14), sl14⟩) (c14 : PySem.W.codeIn K cd14 "turned" = true) (k14 : PySem.W.keepIn K (.ref f14) = true)
    (a15 : PySem.W.nsIn K mainGlobals "ends_of" = some (some (.ref f15))) (l15 : K.lookup f15 = some ⟨oc15, od15, .func (PySem.W.fnOf "ends_of" "ends_of" (defArgs (top 16)) (defBody (top 16)) (defScope (top 16)) .none kV15 dc15 pm15 an15 cd15 ct15), sl15⟩) (c15 : PySem.W.codeIn K cd15 "ends_of" = true) (k15 : PySem.W.keepIn K (.ref f15) = true)
    (a16 : PySem.W.nsIn K mainGlobals "lit_by" = some (some (.ref f16))) (l16 : K.lookup f16 = some ⟨oc16, od16, .func (PySem.W.fnOf "lit_by" "lit_by" (defArgs (top 21)) (defBody (top 21)) (defScope (top 21)) .none kV16 dc16 pm16 an16 cd16 ct16), sl16⟩) (c16 : PySem.W.codeIn K cd16 "lit_by" = true) (k16 : PySem.W.keepIn K (.ref f16) = true)
    (a17 : PySem.W.nsIn K mainGlobals "checks" = some (some (.ref f17))) (l17 : K.lookup f17 = some ⟨oc17, od17, .func (PySem.W.fnOf "checks" "checks" (defArgs (top 23)) (defBody (top 23)) (defScope (top 23)) .none kV17 dc17 pm17 an17 cd17 ct17), sl17⟩) (c17 : PySem.W.codeIn K cd17 "checks" = true) (k17 : PySem.W.keepIn K (.ref f17) = true)
    (a18 : PySem.W.nsIn K mainGlobals "crossed" = some (some (.ref f18))) (l18 : K.lookup f18 = some ⟨oc18, od18, .func (PySem.W.fnOf "crossed" "crossed" (defArgs (top 20)) (defBody (top 20)) (defScope (top 20)) .none kV18 dc18 pm18 an18 cd18 ct18), sl18⟩) (c18 : PySem.W.codeIn K cd18 "crossed" = true) (k18 : PySem.W.keepIn K (.ref f18) = true)
    (a19 : PySem.W.nsIn K mainGlobals "seam_of" = some (some (.ref f19))) (l19 : K.lookup f19 = some ⟨oc19, od19, .func (PySem.W.fnOf "seam_of" "seam_of" (defArgs (top 17)) (defBody (top 17)) (defScope (top 17)) .none kV19 dc19 pm19 an19 cd19 ct19), sl19⟩) (c19 : PySem.W.codeIn K cd19 "seam_of" = true) (k19 : PySem.W.keepIn K (.ref f19) = true)
    (a20 : PySem.W.nsIn K mainGlobals "seams_by" = some (some (.ref f20))) (l20 : K.lookup f20 = some ⟨oc20, od20, .func (PySem.W.fnOf "seams_by" "seams_by" (defArgs (top 22)) (defBody (top 22)) (defScope (top 22)) .none kV20 dc20 pm20 an20 cd20 ct20), sl20⟩) (c20 : PySem.W.codeIn K cd20 "seams_by" = true) (k20 : PySem.W.keepIn K (.ref f20) = true)
    (a21 : PySem.W.nsIn K mainGlobals "seams" = some (some (.ref f21))) (l21 : K.lookup f21 = some ⟨oc21, od21, .func (PySem.W.fnOf "seams" "seams" (defArgs (top 24)) (defBody (top 24)) (defScope (top 24)) .none kV21 dc21 pm21 an21 cd21 ct21), sl21⟩) (c21 : PySem.W.codeIn K cd21 "seams" = true) (k21 : PySem.W.keepIn K (.ref f21) = true)
    (a22 : PySem.W.nsIn K mainGlobals "_law_apart" = some (some (.ref f22))) (l22 : K.lookup f22 = some ⟨oc22, od22, .func (PySem.W.fnOf "_law_apart" "_law_apart" (defArgs (top 35)) (defBody (top 35)) (defScope (top 35)) .none kV22 dc22 pm22 an22 cd22 ct22), sl22⟩) (c22 : PySem.W.codeIn K cd22 "_law_apart" = true) (k22 : PySem.W.keepIn K (.ref f22) = true)
    (a23 : PySem.W.nsIn K mainGlobals "are_alike" = some (some (.ref f23))) (l23 : K.lookup f23 = some ⟨oc23, od23, .func (PySem.W.fnOf "are_alike" "are_alike" (defArgs (top 28)) (defBody (top 28)) (defScope (top 28)) .none kV23 dc23 pm23 an23 cd23 ct23), sl23⟩) (c23 : PySem.W.codeIn K cd23 "are_alike" = true) (k23 : PySem.W.keepIn K (.ref f23) = true)
    (a24 : PySem.W.nsIn K mainGlobals "led" = some (some (.ref f24))) (l24 : K.lookup f24 = some ⟨oc24, od24, .func (PySem.W.fnOf "led" "led" (defArgs (top 29)) (defBody (top 29)) (defScope (top 29)) .none kV24 dc24 pm24 an24 cd24 ct24), sl24⟩) (c24 : PySem.W.codeIn K cd24 "led" = true) (k24 : PySem.W.keepIn K (.ref f24) = true)
    (a25 : PySem.W.nsIn K mainGlobals "after" = some (some (.ref f25))) (l25 : K.lookup f25 = some ⟨oc25, od25, .func (PySem.W.fnOf "after" "after" (defArgs (top 25)) (defBody (top 25)) (defScope (top 25)) .none kV25 dc25 pm25 an25 cd25 ct25), sl25⟩) (c25 : PySem.W.codeIn K cd25 "after" = true) (k25 : PySem.W.keepIn K (.ref f25) = true)
    (a26 : PySem.W.nsIn K mainGlobals "_law_is_led" = some (some (.ref f26))) (l26 : K.lookup f26 = some ⟨oc26, od26, .func (PySem.W.fnOf "_law_is_led" "_law_is_led" (defArgs (top 36)) (defBody (top 36)) (defScope (top 36)) .none kV26 dc26 pm26 an26 cd26 ct26), sl26⟩) (c26 : PySem.W.codeIn K cd26 "_law_is_led" = true) (k26 : PySem.W.keepIn K (.ref f26) = true)
    (a27 : PySem.W.nsIn K mainGlobals "law" = some (some (.ref f27))) (l27 : K.lookup f27 = some ⟨oc27, od27, .func (PySem.W.fnOf "law" "law" (defArgs (top 37)) (defBody (top 37)) (defScope (top 37)) .none kV27 dc27 pm27 an27 cd27 ct27), sl27⟩) (c27 : PySem.W.codeIn K cd27 "law" = true) (k27 : PySem.W.keepIn K (.ref f27) = true)
    (z_all : PySem.W.nsIn K mainGlobals "all" = some none)
    (z_bool : PySem.W.nsIn K mainGlobals "bool" = some none)
    (z_enumerate : PySem.W.nsIn K mainGlobals "enumerate" = some none)
    (z_int : PySem.W.nsIn K mainGlobals "int" = some none)
    (z_isinstance : PySem.W.nsIn K mainGlobals "isinstance" = some none)
    (z_len : PySem.W.nsIn K mainGlobals "len" = some none)
    (z_list : PySem.W.nsIn K mainGlobals "list" = some none)
    (z_min : PySem.W.nsIn K mainGlobals "min" = some none)
    (z_range : PySem.W.nsIn K mainGlobals "range" = some none)
    (z_set : PySem.W.nsIn K mainGlobals "set" = some none)
    (z_sorted : PySem.W.nsIn K mainGlobals "sorted" = some none)
    (z_tuple : PySem.W.nsIn K mainGlobals "tuple" = some none)
    (y_LEAST_SIDE : PySem.W.nsIn K mainGlobals "LEAST_SIDE" = some (some (.int 2 t_LEAST_SIDE)))
    (y_MOST_SIDE : PySem.W.nsIn K mainGlobals "MOST_SIDE" = some (some (.int 5 t_MOST_SIDE))) :
    ∃ fd : FuncData, (∀ (s : Shared) (v : Value), BindsTo s fd ⟨[v], []⟩ [("_law_script", v)]) ∧ ∀ base : Heap, K.In base → base.Ns mainGlobals mg → FnOk l.prog w K mg base (L2.CX l.prog w) 8 fa fd ["_law_script"] (spLaw K) := by
  have e := hfa.symm.trans (PySem.W.mg_of X G a27)
  cases e
  have T : Txt K mg := ⟨def_mk X G a0 l0 c0 k0, def_mk X G a1 l1 c1 k1, def_mk X G a2 l2 c2 k2, def_mk X G a3 l3 c3 k3, def_mk X G a4 l4 c4 k4, def_mk X G a5 l5 c5 k5, def_mk X G a6 l6 c6 k6, def_mk X G a7 l7 c7 k7, def_mk X G a8 l8 c8 k8, def_mk X G a9 l9 c9 k9, def_mk X G a10 l10 c10 k10, def_mk X G a11 l11 c11 k11, def_mk X G a12 l12 c12 k12, def_mk X G a13 l13 c13 k13, def_mk X G a14 l14 c14 k14, def_mk X G a15 l15 c15 k15, def_mk X G a16 l16 c16 k16, def_mk X G a17 l17 c17 k17, def_mk X G a18 l18 c18 k18, def_mk X G a19 l19 c19 k19, def_mk X G a20 l20 c20 k20, def_mk X G a21 l21 c21 k21, def_mk X G a22 l22 c22 k22, def_mk X G a23 l23 c23 k23, def_mk X G a24 l24 c24 k24, def_mk X G a25 l25 c25 k25, def_mk X G a26 l26 c26 k26, def_mk X G a27 l27 c27 k27, PySem.W.mg_none_of X G z_all, PySem.W.mg_none_of X G z_bool, PySem.W.mg_none_of X G z_enumerate, PySem.W.mg_none_of X G z_int, PySem.W.mg_none_of X G z_isinstance, PySem.W.mg_none_of X G z_len, PySem.W.mg_none_of X G z_list, PySem.W.mg_none_of X G z_min, PySem.W.mg_none_of X G z_range, PySem.W.mg_none_of X G z_set, PySem.W.mg_none_of X G z_sorted, PySem.W.mg_none_of X G z_tuple, ⟨_, .int 2, PySem.W.mg_of X G y_LEAST_SIDE, ⟨_, rfl⟩, fun k f => rfl⟩, ⟨_, .int 5, PySem.W.mg_of X G y_MOST_SIDE, ⟨_, rfl⟩, fun k f => rfl⟩⟩
  exact ⟨PySem.W.fnOf "law" "law" (defArgs (top 37)) (defBody (top 37)) (defScope (top 37)) .none kV27 dc27 pm27 an27 cd27 ct27, fun s v => .of_eq rfl, fun base _ _ =>
    (fn_law (k := ⟨K, l.prog, w, [], fun _ => 0⟩) T ⟨⟨_, _, .none, kV27, dc27, pm27, an27, cd27, ct27, _, rfl, l27, c27, .inl ⟨rfl, rfl⟩, .inl rfl⟩, k27⟩).imp fun vs H Q E q => spLaw_le rfl (fun ns _ => v_law ns) q⟩
theorem walk {l : PySem.W.OpenLaw} {q : Program} {loose : List Str} {XP : (Str → Option Value) → Heap → Prop} {YP : World → Heap → Prop} {d : DefRec} {K : Params → PySem.W.Frag} (hn : l.most = some 63) (hdf : d.params.defaults = [])
    (hY : ∀ (w : World) (h : Heap), YP w h → (K w.params).In h)
    (F : ∀ (w : World) (mg : Str → Option Value) (fa : Addr) (h : Heap), (K w.params).In h → h.Ns mainGlobals mg → mg d.name = some (.ref fa) →
      ∃ fd : FuncData, (∀ (s : Shared) (u : Value), BindsTo s fd ⟨[u], []⟩ [("_law_script", u)]) ∧ ∀ base : Heap, (K w.params).In base → base.Ns mainGlobals mg → FnOk l.prog w (K w.params) mg base (L2.CX l.prog w) 8 fa fd ["_law_script"] (spLaw (K w.params))) :
    PySem.W.WalkO q loose XP YP l.row.toRowW d [] (fun f vs => PySem.call f vs) :=
  L2.walk_of (n := 63) (k := 8) (x := "_law_script") (CX := fun w => L2.CX l.prog w) (sp := fun w => spLaw (K w.params)) hn (by decide) hdf ⟨rfl, by decide, by decide⟩ hY F (fun _ _ a ns hl _ hS => ⟨a, ns, rfl, hS, hl, fun _ => rfl⟩) fun _ _ _ _ _ h => by
    obtain ⟨_, _, _, _, _, _, _, _, _, _, _, _, z⟩ := h
    exact z
end Sf

open PySem PySem.W PyProof.Rows in
set_option maxRecDepth 100000 in
set_option maxHeartbeats 0 in
theorem PySem.Challenge.cw_seamboard_k20_whole_faces_that_lead_holds : PySem.Challenge.rw_seamboard_k20_whole_faces_that_lead.Holds := by
  w_on; o_law; k_head; (case hw => w_witness2)
  k_fill
  refine Sf.walk (l := PySem.Challenge.rw_seamboard_k20_whole_faces_that_lead) rfl rfl (fun w h Y => PySem.W.kIn_of Y) ?F
  case F =>
    intro w mg fa h KX G hmg
    refine' Sf.all_mk KX G hmg ?a0 ?l0 ?c0 ?k0 ?a1 ?l1 ?c1 ?k1 ?a2 ?l2 ?c2 ?k2 ?a3 ?l3 ?c3 ?k3 ?a4 ?l4 ?c4 ?k4 ?a5 ?l5 ?c5 ?k5 ?a6 ?l6 ?c6 ?k6 ?a7 ?l7 ?c7 ?k7 ?a8 ?l8 ?c8 ?k8 ?a9 ?l9 ?c9 ?k9 ?a10 ?l10 ?c10 ?k10 ?a11 ?l11 ?c11 ?k11 ?a12 ?l12 ?c12 ?k12 ?a13 ?l13 ?c13 ?k13 ?a14 ?l14 ?c14 ?k14 ?a15 ?l15 ?c15 ?k15 ?a16 ?l16 ?c16 ?k16 ?a17 ?l17 ?c17 ?k17 ?a18 ?l18 ?c18 ?k18 ?a19 ?l19 ?c19 ?k19 ?a20 ?l20 ?c20 ?k20 ?a21 ?l21 ?c21 ?k21 ?a22 ?l22 ?c22 ?k22 ?a23 ?l23 ?c23 ?k23 ?a24 ?l24 ?c24 ?k24 ?a25 ?l25 ?c25 ?k25 ?a26 ?l26 ?c26 ?k26 ?a27 ?l27 ?c27 ?k27 ?z_all ?z_bool ?z_enumerate ?z_int ?z_isinstance ?z_len ?z_list ?z_min ?z_range ?z_set ?z_sorted ?z_tuple ?y_LEAST_SIDE ?y_MOST_SIDE
    (case a0 => k_is)
    (case l0 => k_is)
    (case c0 => k_is)
    (case k0 => k_is)
    (case a1 => k_is)
    (case l1 => k_is)
    (case c1 => k_is)
    (case k1 => k_is)
    (case a2 => k_is)
    (case l2 => k_is)
    (case c2 => k_is)
    (case k2 => k_is)
    (case a3 => k_is)
    (case l3 => k_is)
    (case c3 => k_is)
    (case k3 => k_is)
    (case a4 => k_is)
    (case l4 => k_is)
    (case c4 => k_is)
    (case k4 => k_is)
    (case a5 => k_is)
    (case l5 => k_is)
    (case c5 => k_is)
    (case k5 => k_is)
    (case a6 => k_is)
    (case l6 => k_is)
    (case c6 => k_is)
    (case k6 => k_is)
    (case a7 => k_is)
    (case l7 => k_is)
    (case c7 => k_is)
    (case k7 => k_is)
    (case a8 => k_is)
    (case l8 => k_is)
    (case c8 => k_is)
    (case k8 => k_is)
    (case a9 => k_is)
    (case l9 => k_is)
    (case c9 => k_is)
    (case k9 => k_is)
    (case a10 => k_is)
    (case l10 => k_is)
    (case c10 => k_is)
    (case k10 => k_is)
    (case a11 => k_is)
    (case l11 => k_is)
    (case c11 => k_is)
    (case k11 => k_is)
    (case a12 => k_is)
    (case l12 => k_is)
    (case c12 => k_is)
    (case k12 => k_is)
    (case a13 => k_is)
    (case l13 => k_is)
    (case c13 => k_is)
    (case k13 => k_is)
    (case a14 => k_is)
    (case l14 => k_is)
    (case c14 => k_is)
    (case k14 => k_is)
    (case a15 => k_is)
    (case l15 => k_is)
    (case c15 => k_is)
    (case k15 => k_is)
    (case a16 => k_is)
    (case l16 => k_is)
    (case c16 => k_is)
    (case k16 => k_is)
    (case a17 => k_is)
    (case l17 => k_is)
    (case c17 => k_is)
    (case k17 => k_is)
    (case a18 => k_is)
    (case l18 => k_is)
    (case c18 => k_is)
    (case k18 => k_is)
    (case a19 => k_is)
    (case l19 => k_is)
    (case c19 => k_is)
    (case k19 => k_is)
    (case a20 => k_is)
    (case l20 => k_is)
    (case c20 => k_is)
    (case k20 => k_is)
    (case a21 => k_is)
    (case l21 => k_is)
    (case c21 => k_is)
    (case k21 => k_is)
    (case a22 => k_is)
    (case l22 => k_is)
    (case c22 => k_is)
    (case k22 => k_is)
    (case a23 => k_is)
    (case l23 => k_is)
    (case c23 => k_is)
    (case k23 => k_is)
    (case a24 => k_is)
    (case l24 => k_is)
    (case c24 => k_is)
    (case k24 => k_is)
    (case a25 => k_is)
    (case l25 => k_is)
    (case c25 => k_is)
    (case k25 => k_is)
    (case a26 => k_is)
    (case l26 => k_is)
    (case c26 => k_is)
    (case k26 => k_is)
    (case a27 => k_is)
    (case l27 => k_is)
    (case c27 => k_is)
    (case k27 => k_is)
    (case z_all => k_is)
    (case z_bool => k_is)
    (case z_enumerate => k_is)
    (case z_int => k_is)
    (case z_isinstance => k_is)
    (case z_len => k_is)
    (case z_list => k_is)
    (case z_min => k_is)
    (case z_range => k_is)
    (case z_set => k_is)
    (case z_sorted => k_is)
    (case z_tuple => k_is)
    (case y_LEAST_SIDE => k_is)
    (case y_MOST_SIDE => k_is)
#print axioms PySem.Challenge.cw_seamboard_k20_whole_faces_that_lead_holds

