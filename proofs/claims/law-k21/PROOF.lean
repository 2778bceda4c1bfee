import PyProof.Rows.All
import Wide.All
import OpenK.AllK
import Wide.FinOn
import HandS.ForMost
import HandS.TupLe
import HandS.More
import HandS.Conv
import HandS.Codes
import HandS.IsInst
import HandS.Zip
import HandS.SetKeys
import HandS.TupAny
import HandS.SortKw
import HandS.Deep
import KE.SortKeyHeap
import KE.KDictCopyH
import KE.KDictSum
import HandS.DictComp
import KE.LtSeq
import HandS.Defaults
import HandS.Head0
import HandS.Head1
import HandS.Head2
import HandS.HeadEnd
import HandS.HeadHook1
import HandS.HeadHook2
import PySem.Challenge.RW_turnshelves_k21_whole_answers
/-! ## TkOrd -/
set_option Elab.async false
set_option linter.all false
set_option maxRecDepth 100000
set_option maxHeartbeats 4000000
namespace Tk
open PySem PySem.SeqAt
open PySem.AutoSeq1 (wpAny_loadPart')
open PySem.MeetsSeq PySem.MeetsSeq2 PySem.MeetsSeq3
theorem first_lt (l b : Addr) (us ws : Array Value) (n n2 : Nat) (dd dd2 : Option Addr) (sl sl2 : Array (Option Value)) (e r : Nat → Bool) :
    Meets (Builtin.«tuple.__lt__» ⟨[.ref l, .ref b], []⟩)
      (fun A R s => s.heap.get? l = some { cls := .type "tuple", dict := dd, data := .seq us n, slots := sl } ∧ s.heap.get? b = some { cls := .type "tuple", dict := dd2, data := .seq ws n2, slots := sl2 } ∧
        (∀ j (h1 : j < us.size) (h2 : j < ws.size), (∀ i, i < j → e i = true) → EqAt A.in1 s us[j] ws[j] (e j) ∧ (e j = false → Ob.RcOp .Lt A.in1 s us[j] ws[j] (r j))) ∧
        R (.ok (.ret (.bool (Ob.lexAt e r (decide (us.size < ws.size)) 0 (min us.size ws.size))))) s) :=
  .of_wp fun prog w A R s h => by
    obtain ⟨hp, g, d, tk, os⟩ := s
    obtain ⟨hl, hb, hs, h⟩ := h
    have f2 := AutoSeq1.sub_tuple_tuple
    have hZ : (us.toList.zip ws.toList).length = min us.size ws.size := by simp
    wp_walk using wpAny_loadPart' hl, wpAny_loadPart' hb, wpAny_forIn_list _ (fun rest c s' => c.1 = none ∧ s' = ⟨hp, g, d, tk, os⟩ ∧ ∃ i, rest = (us.toList.zip ws.toList).drop i ∧ (∀ k, k < i → e k = true) ∧
      R (.ok (.ret (.bool (Ob.lexAt e r (decide (us.size < ws.size)) i (min us.size ws.size - i))))) ⟨hp, g, d, tk, os⟩) _
    case turn =>
      rintro ⟨y, x⟩ rest c s' ⟨hc, rfl, i, hz, hp', hR⟩
      have hlt : i < (us.toList.zip ws.toList).length := Nat.lt_of_not_le fun q => by
        rw [List.drop_of_length_le q] at hz
        cases hz
      have hm : i < min us.size ws.size := hZ ▸ hlt
      have h1 : i < us.size := by omega
      have h2 : i < ws.size := by omega
      rw [List.drop_eq_getElem_cons hlt] at hz
      injection hz with hyx hrest
      have hy : y = us[i] := by simpa using congrArg Prod.fst hyx
      have hx : x = ws[i] := by simpa using congrArg Prod.snd hyx
      subst hy hx
      obtain ⟨q1, q2⟩ := hs i h1 h2 hp'
      rw [show min us.size ws.size - i = (min us.size ws.size - (i + 1)) + 1 by omega, Ob.lexAt_succ] at hR
      refine wpAny_bind (q1 prog w _ _ ?_)
      cases hei : e i with
      | true =>
        rw [hei, if_pos rfl] at hR
        wp_walk
        refine ⟨rfl, rfl, i + 1, hrest, fun k hk => ?_, hR⟩
        rcases Nat.lt_or_ge k i with z | z
        · exact hp' k z
        · have : k = i := by omega
          rw [this, hei]
      | false =>
        rw [hei, if_neg Bool.false_ne_true] at hR
        have hri := q2 hei prog w
        wp_walk using hri
        exact ⟨_, rfl, by simpa using hR⟩
    case fin =>
      rintro ⟨b1, b2⟩ s' ⟨hb', rfl, i, hz, _, hR⟩
      simp only at hb'
      subst hb'
      have hge : min us.size ws.size ≤ i := Nat.le_of_not_lt fun q => by
        rw [List.drop_eq_getElem_cons (hZ ▸ q)] at hz
        cases hz
      rw [Nat.sub_eq_zero_of_le hge, Ob.lexAt_zero] at hR
      wp_walk
      exact ⟨_, rfl, by simpa [Builtin.Tuple.tupleCompareSizes] using hR⟩
    case h =>
      exact ⟨rfl, rfl, 0, rfl, fun k hk => absurd hk (Nat.not_lt_zero k), by simpa using h⟩
theorem rcFirst_lt {A : Around} {s : Shared} {l b : Addr} {us ws : Array Value} {e r : Nat → Bool} (hl : s.heap.IsTuple l us) (hb : s.heap.IsTuple b ws) (hu : A.units < cLine)
    (hs : ∀ j (h1 : j < us.size) (h2 : j < ws.size), (∀ i, i < j → e i = true) → EqAt A.in1 s us[j] ws[j] (e j) ∧ (e j = false → Ob.RcOp .Lt A.in1 s us[j] ws[j] (r j))) :
    Ob.RcOp .Lt A s (.ref l) (.ref b) (Ob.lexAt e r (decide (us.size < ws.size)) 0 (min us.size ws.size)) := fun prog w E Q h => by
  obtain ⟨⟨cls, dd, data, sl⟩, ho, hc, n, hd⟩ := id hl
  obtain ⟨⟨cls2, dd2, data2, sl2⟩, ho2, hc2, n2, hd2⟩ := id hb
  simp only at hc hd hc2 hd2
  subst hc hd hc2 hd2
  exact richCompare_meets_room (op := .Lt) ⟨_, ho, rfl⟩ ⟨_, ho2, rfl⟩ F.slot_tuple_lt F.entry_tuple_lt (F.args_tuple_lt_2 _ _) (first_lt l b us ws n n2 dd dd2 sl sl2 e r) ⟨ho, ho2, hs, ⟨(fun x => nomatch x), h⟩⟩ hu

theorem first_le (l b : Addr) (us ws : Array Value) (n n2 : Nat) (dd dd2 : Option Addr) (sl sl2 : Array (Option Value)) (e r : Nat → Bool) :
    Meets (Builtin.«tuple.__le__» ⟨[.ref l, .ref b], []⟩)
      (fun A R s => s.heap.get? l = some { cls := .type "tuple", dict := dd, data := .seq us n, slots := sl } ∧ s.heap.get? b = some { cls := .type "tuple", dict := dd2, data := .seq ws n2, slots := sl2 } ∧
        (∀ j (h1 : j < us.size) (h2 : j < ws.size), (∀ i, i < j → e i = true) → EqAt A.in1 s us[j] ws[j] (e j) ∧ (e j = false → Ob.RcOp .LtE A.in1 s us[j] ws[j] (r j))) ∧
        R (.ok (.ret (.bool (Ob.lexAt e r (decide (us.size ≤ ws.size)) 0 (min us.size ws.size))))) s) :=
  .of_wp fun prog w A R s h => by
    obtain ⟨hp, g, d, tk, os⟩ := s
    obtain ⟨hl, hb, hs, h⟩ := h
    have f2 := AutoSeq1.sub_tuple_tuple
    have hZ : (us.toList.zip ws.toList).length = min us.size ws.size := by simp
    wp_walk using wpAny_loadPart' hl, wpAny_loadPart' hb, wpAny_forIn_list _ (fun rest c s' => c.1 = none ∧ s' = ⟨hp, g, d, tk, os⟩ ∧ ∃ i, rest = (us.toList.zip ws.toList).drop i ∧ (∀ k, k < i → e k = true) ∧
      R (.ok (.ret (.bool (Ob.lexAt e r (decide (us.size ≤ ws.size)) i (min us.size ws.size - i))))) ⟨hp, g, d, tk, os⟩) _
    case turn =>
      rintro ⟨y, x⟩ rest c s' ⟨hc, rfl, i, hz, hp', hR⟩
      have hlt : i < (us.toList.zip ws.toList).length := Nat.lt_of_not_le fun q => by
        rw [List.drop_of_length_le q] at hz
        cases hz
      have hm : i < min us.size ws.size := hZ ▸ hlt
      have h1 : i < us.size := by omega
      have h2 : i < ws.size := by omega
      rw [List.drop_eq_getElem_cons hlt] at hz
      injection hz with hyx hrest
      have hy : y = us[i] := by simpa using congrArg Prod.fst hyx
      have hx : x = ws[i] := by simpa using congrArg Prod.snd hyx
      subst hy hx
      obtain ⟨q1, q2⟩ := hs i h1 h2 hp'
      rw [show min us.size ws.size - i = (min us.size ws.size - (i + 1)) + 1 by omega, Ob.lexAt_succ] at hR
      refine wpAny_bind (q1 prog w _ _ ?_)
      cases hei : e i with
      | true =>
        rw [hei, if_pos rfl] at hR
        wp_walk
        refine ⟨rfl, rfl, i + 1, hrest, fun k hk => ?_, hR⟩
        rcases Nat.lt_or_ge k i with z | z
        · exact hp' k z
        · have : k = i := by omega
          rw [this, hei]
      | false =>
        rw [hei, if_neg Bool.false_ne_true] at hR
        have hri := q2 hei prog w
        wp_walk using hri
        exact ⟨_, rfl, by simpa using hR⟩
    case fin =>
      rintro ⟨b1, b2⟩ s' ⟨hb', rfl, i, hz, _, hR⟩
      simp only at hb'
      subst hb'
      have hge : min us.size ws.size ≤ i := Nat.le_of_not_lt fun q => by
        rw [List.drop_eq_getElem_cons (hZ ▸ q)] at hz
        cases hz
      rw [Nat.sub_eq_zero_of_le hge, Ob.lexAt_zero] at hR
      wp_walk
      exact ⟨_, rfl, by simpa [Builtin.Tuple.tupleCompareSizes] using hR⟩
    case h =>
      exact ⟨rfl, rfl, 0, rfl, fun k hk => absurd hk (Nat.not_lt_zero k), by simpa using h⟩
theorem rcFirst_le {A : Around} {s : Shared} {l b : Addr} {us ws : Array Value} {e r : Nat → Bool} (hl : s.heap.IsTuple l us) (hb : s.heap.IsTuple b ws) (hu : A.units < cLine)
    (hs : ∀ j (h1 : j < us.size) (h2 : j < ws.size), (∀ i, i < j → e i = true) → EqAt A.in1 s us[j] ws[j] (e j) ∧ (e j = false → Ob.RcOp .LtE A.in1 s us[j] ws[j] (r j))) :
    Ob.RcOp .LtE A s (.ref l) (.ref b) (Ob.lexAt e r (decide (us.size ≤ ws.size)) 0 (min us.size ws.size)) := fun prog w E Q h => by
  obtain ⟨⟨cls, dd, data, sl⟩, ho, hc, n, hd⟩ := id hl
  obtain ⟨⟨cls2, dd2, data2, sl2⟩, ho2, hc2, n2, hd2⟩ := id hb
  simp only at hc hd hc2 hd2
  subst hc hd hc2 hd2
  exact richCompare_meets_room (op := .LtE) ⟨_, ho, rfl⟩ ⟨_, ho2, rfl⟩ F.slot_tuple_le F.entry_tuple_le (F.args_tuple_le_2 _ _) (first_le l b us ws n n2 dd dd2 sl sl2 e r) ⟨ho, ho2, hs, ⟨(fun x => nomatch x), h⟩⟩ hu

theorem first_gt (l b : Addr) (us ws : Array Value) (n n2 : Nat) (dd dd2 : Option Addr) (sl sl2 : Array (Option Value)) (e r : Nat → Bool) :
    Meets (Builtin.«tuple.__gt__» ⟨[.ref l, .ref b], []⟩)
      (fun A R s => s.heap.get? l = some { cls := .type "tuple", dict := dd, data := .seq us n, slots := sl } ∧ s.heap.get? b = some { cls := .type "tuple", dict := dd2, data := .seq ws n2, slots := sl2 } ∧
        (∀ j (h1 : j < us.size) (h2 : j < ws.size), (∀ i, i < j → e i = true) → EqAt A.in1 s us[j] ws[j] (e j) ∧ (e j = false → Ob.RcOp .Gt A.in1 s us[j] ws[j] (r j))) ∧
        R (.ok (.ret (.bool (Ob.lexAt e r (decide (us.size > ws.size)) 0 (min us.size ws.size))))) s) :=
  .of_wp fun prog w A R s h => by
    obtain ⟨hp, g, d, tk, os⟩ := s
    obtain ⟨hl, hb, hs, h⟩ := h
    have f2 := AutoSeq1.sub_tuple_tuple
    have hZ : (us.toList.zip ws.toList).length = min us.size ws.size := by simp
    wp_walk using wpAny_loadPart' hl, wpAny_loadPart' hb, wpAny_forIn_list _ (fun rest c s' => c.1 = none ∧ s' = ⟨hp, g, d, tk, os⟩ ∧ ∃ i, rest = (us.toList.zip ws.toList).drop i ∧ (∀ k, k < i → e k = true) ∧
      R (.ok (.ret (.bool (Ob.lexAt e r (decide (us.size > ws.size)) i (min us.size ws.size - i))))) ⟨hp, g, d, tk, os⟩) _
    case turn =>
      rintro ⟨y, x⟩ rest c s' ⟨hc, rfl, i, hz, hp', hR⟩
      have hlt : i < (us.toList.zip ws.toList).length := Nat.lt_of_not_le fun q => by
        rw [List.drop_of_length_le q] at hz
        cases hz
      have hm : i < min us.size ws.size := hZ ▸ hlt
      have h1 : i < us.size := by omega
      have h2 : i < ws.size := by omega
      rw [List.drop_eq_getElem_cons hlt] at hz
      injection hz with hyx hrest
      have hy : y = us[i] := by simpa using congrArg Prod.fst hyx
      have hx : x = ws[i] := by simpa using congrArg Prod.snd hyx
      subst hy hx
      obtain ⟨q1, q2⟩ := hs i h1 h2 hp'
      rw [show min us.size ws.size - i = (min us.size ws.size - (i + 1)) + 1 by omega, Ob.lexAt_succ] at hR
      refine wpAny_bind (q1 prog w _ _ ?_)
      cases hei : e i with
      | true =>
        rw [hei, if_pos rfl] at hR
        wp_walk
        refine ⟨rfl, rfl, i + 1, hrest, fun k hk => ?_, hR⟩
        rcases Nat.lt_or_ge k i with z | z
        · exact hp' k z
        · have : k = i := by omega
          rw [this, hei]
      | false =>
        rw [hei, if_neg Bool.false_ne_true] at hR
        have hri := q2 hei prog w
        wp_walk using hri
        exact ⟨_, rfl, by simpa using hR⟩
    case fin =>
      rintro ⟨b1, b2⟩ s' ⟨hb', rfl, i, hz, _, hR⟩
      simp only at hb'
      subst hb'
      have hge : min us.size ws.size ≤ i := Nat.le_of_not_lt fun q => by
        rw [List.drop_eq_getElem_cons (hZ ▸ q)] at hz
        cases hz
      rw [Nat.sub_eq_zero_of_le hge, Ob.lexAt_zero] at hR
      wp_walk
      exact ⟨_, rfl, by simpa [Builtin.Tuple.tupleCompareSizes] using hR⟩
    case h =>
      exact ⟨rfl, rfl, 0, rfl, fun k hk => absurd hk (Nat.not_lt_zero k), by simpa using h⟩
theorem rcFirst_gt {A : Around} {s : Shared} {l b : Addr} {us ws : Array Value} {e r : Nat → Bool} (hl : s.heap.IsTuple l us) (hb : s.heap.IsTuple b ws) (hu : A.units < cLine)
    (hs : ∀ j (h1 : j < us.size) (h2 : j < ws.size), (∀ i, i < j → e i = true) → EqAt A.in1 s us[j] ws[j] (e j) ∧ (e j = false → Ob.RcOp .Gt A.in1 s us[j] ws[j] (r j))) :
    Ob.RcOp .Gt A s (.ref l) (.ref b) (Ob.lexAt e r (decide (us.size > ws.size)) 0 (min us.size ws.size)) := fun prog w E Q h => by
  obtain ⟨⟨cls, dd, data, sl⟩, ho, hc, n, hd⟩ := id hl
  obtain ⟨⟨cls2, dd2, data2, sl2⟩, ho2, hc2, n2, hd2⟩ := id hb
  simp only at hc hd hc2 hd2
  subst hc hd hc2 hd2
  exact richCompare_meets_room (op := .Gt) ⟨_, ho, rfl⟩ ⟨_, ho2, rfl⟩ F.slot_tuple_gt F.entry_tuple_gt (F.args_tuple_gt_2 _ _) (first_gt l b us ws n n2 dd dd2 sl sl2 e r) ⟨ho, ho2, hs, ⟨(fun x => nomatch x), h⟩⟩ hu

theorem first_ge (l b : Addr) (us ws : Array Value) (n n2 : Nat) (dd dd2 : Option Addr) (sl sl2 : Array (Option Value)) (e r : Nat → Bool) :
    Meets (Builtin.«tuple.__ge__» ⟨[.ref l, .ref b], []⟩)
      (fun A R s => s.heap.get? l = some { cls := .type "tuple", dict := dd, data := .seq us n, slots := sl } ∧ s.heap.get? b = some { cls := .type "tuple", dict := dd2, data := .seq ws n2, slots := sl2 } ∧
        (∀ j (h1 : j < us.size) (h2 : j < ws.size), (∀ i, i < j → e i = true) → EqAt A.in1 s us[j] ws[j] (e j) ∧ (e j = false → Ob.RcOp .GtE A.in1 s us[j] ws[j] (r j))) ∧
        R (.ok (.ret (.bool (Ob.lexAt e r (decide (us.size ≥ ws.size)) 0 (min us.size ws.size))))) s) :=
  .of_wp fun prog w A R s h => by
    obtain ⟨hp, g, d, tk, os⟩ := s
    obtain ⟨hl, hb, hs, h⟩ := h
    have f2 := AutoSeq1.sub_tuple_tuple
    have hZ : (us.toList.zip ws.toList).length = min us.size ws.size := by simp
    wp_walk using wpAny_loadPart' hl, wpAny_loadPart' hb, wpAny_forIn_list _ (fun rest c s' => c.1 = none ∧ s' = ⟨hp, g, d, tk, os⟩ ∧ ∃ i, rest = (us.toList.zip ws.toList).drop i ∧ (∀ k, k < i → e k = true) ∧
      R (.ok (.ret (.bool (Ob.lexAt e r (decide (us.size ≥ ws.size)) i (min us.size ws.size - i))))) ⟨hp, g, d, tk, os⟩) _
    case turn =>
      rintro ⟨y, x⟩ rest c s' ⟨hc, rfl, i, hz, hp', hR⟩
      have hlt : i < (us.toList.zip ws.toList).length := Nat.lt_of_not_le fun q => by
        rw [List.drop_of_length_le q] at hz
        cases hz
      have hm : i < min us.size ws.size := hZ ▸ hlt
      have h1 : i < us.size := by omega
      have h2 : i < ws.size := by omega
      rw [List.drop_eq_getElem_cons hlt] at hz
      injection hz with hyx hrest
      have hy : y = us[i] := by simpa using congrArg Prod.fst hyx
      have hx : x = ws[i] := by simpa using congrArg Prod.snd hyx
      subst hy hx
      obtain ⟨q1, q2⟩ := hs i h1 h2 hp'
      rw [show min us.size ws.size - i = (min us.size ws.size - (i + 1)) + 1 by omega, Ob.lexAt_succ] at hR
      refine wpAny_bind (q1 prog w _ _ ?_)
      cases hei : e i with
      | true =>
        rw [hei, if_pos rfl] at hR
        wp_walk
        refine ⟨rfl, rfl, i + 1, hrest, fun k hk => ?_, hR⟩
        rcases Nat.lt_or_ge k i with z | z
        · exact hp' k z
        · have : k = i := by omega
          rw [this, hei]
      | false =>
        rw [hei, if_neg Bool.false_ne_true] at hR
        have hri := q2 hei prog w
        wp_walk using hri
        exact ⟨_, rfl, by simpa using hR⟩
    case fin =>
      rintro ⟨b1, b2⟩ s' ⟨hb', rfl, i, hz, _, hR⟩
      simp only at hb'
      subst hb'
      have hge : min us.size ws.size ≤ i := Nat.le_of_not_lt fun q => by
        rw [List.drop_eq_getElem_cons (hZ ▸ q)] at hz
        cases hz
      rw [Nat.sub_eq_zero_of_le hge, Ob.lexAt_zero] at hR
      wp_walk
      exact ⟨_, rfl, by simpa [Builtin.Tuple.tupleCompareSizes] using hR⟩
    case h =>
      exact ⟨rfl, rfl, 0, rfl, fun k hk => absurd hk (Nat.not_lt_zero k), by simpa using h⟩
theorem rcFirst_ge {A : Around} {s : Shared} {l b : Addr} {us ws : Array Value} {e r : Nat → Bool} (hl : s.heap.IsTuple l us) (hb : s.heap.IsTuple b ws) (hu : A.units < cLine)
    (hs : ∀ j (h1 : j < us.size) (h2 : j < ws.size), (∀ i, i < j → e i = true) → EqAt A.in1 s us[j] ws[j] (e j) ∧ (e j = false → Ob.RcOp .GtE A.in1 s us[j] ws[j] (r j))) :
    Ob.RcOp .GtE A s (.ref l) (.ref b) (Ob.lexAt e r (decide (us.size ≥ ws.size)) 0 (min us.size ws.size)) := fun prog w E Q h => by
  obtain ⟨⟨cls, dd, data, sl⟩, ho, hc, n, hd⟩ := id hl
  obtain ⟨⟨cls2, dd2, data2, sl2⟩, ho2, hc2, n2, hd2⟩ := id hb
  simp only at hc hd hc2 hd2
  subst hc hd hc2 hd2
  exact richCompare_meets_room (op := .GtE) ⟨_, ho, rfl⟩ ⟨_, ho2, rfl⟩ F.slot_tuple_ge F.entry_tuple_ge (F.args_tuple_ge_2 _ _) (first_ge l b us ws n n2 dd dd2 sl sl2 e r) ⟨ho, ho2, hs, ⟨(fun x => nomatch x), h⟩⟩ hu

end Tk

/-! ## TkRules -/
set_option Elab.async false
set_option linter.all false
set_option maxRecDepth 100000
set_option maxHeartbeats 4000000
/-! ### rules that the layer lacks: small ones -/
namespace Tk
open PySem PySem.Spec PyProof.Rows L2 PySem.SeqAt
open PySem.AutoSeq1 (wpAny_loadPart')

/-- l.extend(t), t a tuple of any make -/
theorem extend_tup (l : Addr) (items : Array Value) (n : Nat) (b : Addr) (dd : Option Addr) (sl : Array (Option Value)) (its2 : Array Value) (n2 : Nat) (hs0 : ¬(!items.isEmpty && Builtin.List.listTooLong (items.size + its2.size)) = true) (hs1 : items.size ≤ sizeLine) (hs2 : items.size + its2.size ≤ sizeLine + 1) :
    Meets (Builtin.«list.extend» ⟨[.ref l, .ref b], []⟩) (fun _ R s => s.heap.get? l = some { cls := .type "list", dict := none, data := .seq items n, slots := #[] } ∧
      s.heap.get? b = some { cls := .type "tuple", dict := dd, data := .seq its2 n2, slots := sl } ∧ R (.ok (.ret Value.none)) { s with heap := s.heap.update l (Obj.mapSeq fun x => x ++ its2), toks := s.toks }) :=
  .of_wp fun prog w A R s h => by
    obtain ⟨hp, g, d, tk, os⟩ := s
    obtain ⟨hl, hb, h⟩ := h
    have f1 := AutoSeq1.idx_int; have f2 := AutoSeq1.sub_tuple_tuple; have f3 := AutoSeq1.sub_list_list; have f4 := AutoSeq1.sub_tuple_list; have f5 := AutoSeq1.sub_list_tuple
    have hz' : (items ++ its2).size ≤ sizeLine + 1 := by rw [Array.size_append]; exact hs2
    wp_walk using (wpAny_updateSeq hl rfl (hz := hs1) (_hz' := hz')), wpAny_loadPart' hl, wpAny_loadPart' hb
    exact ⟨_, rfl, h⟩
def rExtT : V → List V → Hp → VK → Prop := fun x vs H Q => ∃ l b xs zs, x = .ref l ∧ vs = [.ref b] ∧ H l = some (.lst xs) ∧ H b = some (.tup zs) ∧ xs.length + zs.length ≤ sizeLine ∧ Q .non (upd H l (.lst (xs ++ zs)))
theorem mt_extendT {X : Cx} : MtR X "list.extend" rExtT := by
  intro pins s σ H x vs v us Q I rx rv h
  obtain ⟨l, b, xs, zs, rfl, rfl, hH, hB, hz, q⟩ := h
  cases rx
  obtain ⟨u, rfl, ru⟩ := rv.one
  cases ru
  obtain ⟨z, its, n, r, hl, e⟩ := I.lstM hH
  obtain ⟨z2, its2, r2, ⟨⟨cls, dd, data, sl⟩, e2, hc, n2, hd⟩⟩ := I.hok b _ hB
  simp only at hc hd
  subst hc hd
  have hl2 := r2.length
  have hsz : its.toArray.size + its2.toArray.size ≤ sizeLine := by rw [List.size_toArray, List.size_toArray]; omega
  have hlong : ¬ (!its.toArray.isEmpty && Builtin.List.listTooLong (its.toArray.size + its2.toArray.size)) = true := by
    rw [notLongL hsz, Bool.and_false]
    exact Bool.false_ne_true
  refine call_meets PySem.F.slot_list_extend ⟨_, e, rfl⟩ PySem.F.entry_list_extend (PySem.F.args_list_extend_2 _ _)
    (extend_tup l its.toArray n b dd sl its2.toArray n2 hlong (by rw [List.size_toArray]; omega) (by omega)) ⟨e, e2, ?_⟩
  refine ⟨.non, _, I.lset (its' := its ++ its2) hH e (by simp) (r.append r2) ?_, rfl, q⟩
  rw [List.length_append]
  exact hz

/-- xs[i] of a list by values, for an augmented store -/
theorem pget_list {X : Cx} : PGet X (rIxL X.K) := by
  intro pins s σ H o i ov iv Q I ro ri h
  obtain ⟨p, xs, k, v, rfl, rfl, hq, he, q⟩ := h
  cases ro
  obtain ⟨t, rfl⟩ := ri
  obtain ⟨its, r, pl, hz⟩ := I.list hq
  obtain ⟨j, h1, h2, h3, h4, h5⟩ := atI_get he
  obtain ⟨w, ew, rw'⟩ := r.get h2
  have hl := r.length
  have hn := line63
  by_cases h0 : 0 ≤ k
  · have hj : k.toNat = j := by
      rw [seqIndex_of h0 h5] at h1
      exact Option.some.inj h1
    exact wpAny_getItem_list pl.isList h0 (by omega) (x := w) (by rw [hj]; simpa using ew) ⟨v, H, I, rw', q⟩
  · have hj : (k + (its.toArray.size : Int)).toNat = j := by
      rw [seqIndex_neg (by omega) h4] at h1
      rw [List.size_toArray, ← hl]
      exact Option.some.inj h1
    exact wpAny_getItem_list_neg pl.isList (by omega) (by rw [List.size_toArray] <;> omega) (by omega) (x := w) (by rw [hj]; simpa using ew) ⟨v, H, I, rw', q⟩

/-- s * n, small ones -/
def rMulS : R2 := fun x y H Q => ∃ (z : Str) (n : Int), x = .str z ∧ y = .int n ∧ z.length ≤ 4 ∧ 0 ≤ n ∧ n ≤ 1000 ∧ Q (.str (Txt.mul z n)) H
theorem op_mulS {X : Cx} : OpR X (binaryOp .Mult) rMulS := by
  intro pins s σ H x y v u Q I rx ry h
  obtain ⟨z, n, rfl, rfl, h1, h2, h3, q⟩ := h
  obtain ⟨t, rfl⟩ := rx
  obtain ⟨t', rfl⟩ := ry
  exact SB.mul (mulOk_of 4 1000 h1 (by omega) (by omega) (by decide) (by decide)) fun t' k => ⟨.str _, H, I.tok _, ⟨_, rfl⟩, q⟩

/-- xs == [] -/
def rEqNil : R2 := fun x y H Q => ∃ (a b : Addr) (xs : List V), x = .ref a ∧ y = .ref b ∧ H a = some (.lst xs) ∧ H b = some (.lst []) ∧ Q (.bl xs.isEmpty) H
theorem op_eqNil {X : Cx} (hu : X.A.units + 64 < cLine) : OpR X (compareOp .Eq) rEqNil := by
  intro pins s σ H x y v u Q I rx ry h
  obtain ⟨a, b, xs, rfl, rfl, ha, hb, q⟩ := h
  cases rx
  cases ry
  cases xs with
  | nil =>
    exact op_eqD hu pins s σ H (.ref a) (.ref b) (.ref a) (.ref b) Q I rfl rfl ⟨.list [], .list [], .lst (.of ha) .nil, .lst (.of hb) .nil, by decide, by decide, q⟩
  | cons x0 xs =>
    obtain ⟨z1, its1, n1, r1, l1, e1⟩ := I.lstM ha
    obtain ⟨z2, its2, n2, r2, l2, e2⟩ := I.lstM hb
    have hlen : its1.length = xs.length + 1 := by rw [← l1]; rfl
    have hlen2 : its2.length = 0 := by rw [← l2]; rfl
    have hne : (its1.toArray.size != its2.toArray.size) = true := by
      rw [List.size_toArray, List.size_toArray, hlen, hlen2]
      simp
    have R : wpAny (model X.prog X.w) X.A (richCompare .Eq (.ref a) (.ref b)) (EP X pins σ Q) X.xe s :=
      richCompare_meets_room (op := .Eq) ⟨_, e1, rfl⟩ ⟨_, e2, rfl⟩ PySem.F.slot_list_eq PySem.F.entry_list_eq (PySem.F.args_list_eq_2 _ _) (AutoSeq1.list___eq___list_list_0 a its1.toArray n1 b its2.toArray n2 hne)
        ⟨e1, e2, ⟨(fun x => nomatch x), (⟨.bl false, H, I, rfl, q⟩ : EP X pins σ Q (.bool false) s)⟩⟩ (by omega)
    exact R

/-! ### the order of values -/
def IsVal : V → Prop
  | .int _ => True
  | .str x => PyData.strOk x = true
  | _ => False
def kd : V → Int
  | .int _ => 0
  | _ => 1
def ltV : V → V → Bool
  | .int i, .int j => decide (i < j)
  | .int _, .str _ => true
  | .str a, .str b => decide (a.cps.toList < b.cps.toList)
  | _, _ => false
def pairOf (v : V) : HO := .tup [.int (kd v), v]
/-- the value that stands at u -/
theorem isVal_cases {v : V} (h : IsVal v) : (∃ i, v = .int i) ∨ ∃ x, v = .str x ∧ PyData.strOk x = true := by
  cases v with
  | int i => exact .inl ⟨i, rfl⟩
  | str x => exact .inr ⟨x, rfl, h⟩
  | _ => exact h.elim
theorem eqAt_val {A : Around} {s : Shared} {v w : V} {u t : Value} (hv : IsVal v) (hw : IsVal w) (r : RelV v u) (q : RelV w t) : EqAt A s u t (decide (v = w)) := by
  rcases isVal_cases hv with ⟨i, rfl⟩ | ⟨x, rfl, _⟩ <;> rcases isVal_cases hw with ⟨j, rfl⟩ | ⟨y, rfl, _⟩ <;> obtain ⟨t1, rfl⟩ := r <;> obtain ⟨t2, rfl⟩ := q
  · have e : decide (V.int i = V.int j) = (i == j) := by
      by_cases h : i = j <;> simp [h]
    rw [e]
    exact EqAt.int_int _ _ _ _
  · rw [decide_eq_false (by intro z; cases z)]
    exact EqAt.int_str _ _ _ _
  · rw [decide_eq_false (by intro z; cases z)]
    exact EqAt.str_int _ _ _ _
  · have e : decide (V.str x = V.str y) = (x == y) := by
      by_cases h : x = y <;> simp [h]
    rw [e]
    exact EqAt.str_str _ _ _ _
/-- what an order says of two values of one kind -/
def opV (op : CmpOp) (v w : V) : Bool := match op with
  | .Lt => ltV v w
  | .LtE => !ltV w v
  | .Gt => ltV w v
  | .GtE => !ltV v w
  | _ => false
def isOrd : CmpOp → Bool
  | .Lt | .LtE | .Gt | .GtE => true
  | _ => false
theorem not_lt_int' (x y : Int) : (!decide (y < x)) = decide (x ≤ y) := by
  by_cases h : y < x
  · simp [h]
  · simp [h]; omega
theorem rcOp_val {op : CmpOp} {A : Around} {s : Shared} {v w : V} {u t : Value} (ho : isOrd op = true) (hv : IsVal v) (hw : IsVal w) (hk : kd v = kd w) (r : RelV v u) (q : RelV w t) : Ob.RcOp op A s u t (opV op v w) := by
  rcases isVal_cases hv with ⟨i, rfl⟩ | ⟨x, rfl, _⟩ <;> rcases isVal_cases hw with ⟨j, rfl⟩ | ⟨y, rfl, _⟩ <;> obtain ⟨t1, rfl⟩ := r <;> obtain ⟨t2, rfl⟩ := q
  · cases op <;> first | exact absurd ho (by decide) | skip
    · exact Ob.RcOp.lt_int _ _ _ _
    · show Ob.RcOp _ _ _ _ _ (!decide (j < i))
      rw [not_lt_int']
      exact Ob.RcOp.le_int _ _ _ _
    · exact Ob.RcOp.gt_int _ _ _ _
    · show Ob.RcOp _ _ _ _ _ (!decide (i < j))
      rw [not_lt_int']
      exact Ob.RcOp.ge_int _ _ _ _
  · exact absurd (show (0 : Int) = 1 from hk) (by decide)
  · exact absurd (show (1 : Int) = 0 from hk) (by decide)
  · cases op <;> first | exact absurd ho (by decide) | skip
    · exact fun _ _ _ _ h => lt_str h
    · exact fun _ _ _ _ h => PySem.P.le_str h
    · exact fun _ _ _ _ h => PySem.P.gt_str h
    · exact fun _ _ _ _ h => PySem.P.ge_str h
theorem kd_lt {v w : V} (hv : IsVal v) (hw : IsVal w) (h : kd v ≠ kd w) : (kd v < kd w ↔ ltV v w = true) ∧ (kd w < kd v ↔ ltV w v = true) := by
  rcases isVal_cases hv with ⟨i, rfl⟩ | ⟨x, rfl, _⟩ <;> rcases isVal_cases hw with ⟨j, rfl⟩ | ⟨y, rfl, _⟩ <;> first | exact absurd rfl h | exact ⟨⟨fun _ => rfl, fun _ => (by decide : (0 : Int) < 1)⟩, ⟨fun z => absurd (show (1 : Int) < 0 from z) (by decide), fun z => Bool.noConfusion z⟩⟩ | exact ⟨⟨fun z => absurd (show (1 : Int) < 0 from z) (by decide), fun z => Bool.noConfusion z⟩, ⟨fun _ => rfl, fun _ => (by decide : (0 : Int) < 1)⟩⟩
theorem ltV_irrefl (v : V) : ltV v v = false := by
  cases v with
  | int i => exact decide_eq_false (by omega)
  | str x => exact decide_eq_false (List.lt_irrefl _)
  | _ => rfl
/-- two pairs (kind, value) -/
theorem pair_rc {op : CmpOp} {X : Cx} {pins : List (Addr × Obj)} {σ : L2.St} {H : Hp} {s : Shared} {A : Around} {a b : Addr} {v w : V} (ho : isOrd op = true) (I : Inv X pins σ H s) (ha : H a = some (pairOf v)) (hb : H b = some (pairOf w)) (hv : IsVal v) (hw : IsVal w) (hu : A.units < cLine) :
    Ob.RcOp op A s (.ref a) (.ref b) (opV op v w) := by
  obtain ⟨z1, its1, r1, p1⟩ := (show ObjOk X.prog X.w H s.heap a (.tup [.int (kd v), v]) from I.hok a _ ha)
  obtain ⟨z2, its2, r2, p2⟩ := (show ObjOk X.prog X.w H s.heap b (.tup [.int (kd w), w]) from I.hok b _ hb)
  obtain ⟨u0, u1, rfl, e0, ru⟩ := r1.two
  obtain ⟨w0, w1, rfl, e1, rw1⟩ := r2.two
  obtain ⟨t0, rfl⟩ := e0
  obtain ⟨t1, rfl⟩ := e1
  have key : ∀ j (h1 : j < (#[Value.int (kd v) t0, u1] : Array Value).size) (h2 : j < (#[Value.int (kd w) t1, w1] : Array Value).size), (∀ i, i < j → (fun i => if i = 0 then decide (kd v = kd w) else decide (v = w)) i = true) →
      EqAt A.in1 s (#[Value.int (kd v) t0, u1])[j] (#[Value.int (kd w) t1, w1])[j] ((fun i => if i = 0 then decide (kd v = kd w) else decide (v = w)) j) ∧
      ((fun i => if i = 0 then decide (kd v = kd w) else decide (v = w)) j = false → Ob.RcOp op A.in1 s (#[Value.int (kd v) t0, u1])[j] (#[Value.int (kd w) t1, w1])[j] ((fun i => if i = 0 then opV op (.int (kd v)) (.int (kd w)) else opV op v w) j)) := by
    intro j h1 h2 hp
    match j, h1, h2, hp with
    | 0, _, _, _ =>
      refine ⟨?_, fun _ => rcOp_val ho trivial trivial rfl ⟨_, rfl⟩ ⟨_, rfl⟩⟩
      have e : decide (kd v = kd w) = (kd v == kd w) := by
        by_cases h : kd v = kd w <;> simp [h]
      show EqAt _ _ _ _ (decide (kd v = kd w))
      rw [e]
      exact EqAt.int_int _ _ _ _
    | 1, _, _, hp =>
      have hk : kd v = kd w := of_decide_eq_true (hp 0 (by decide))
      exact ⟨eqAt_val hv hw ru rw1, fun _ => rcOp_val ho hv hw hk ru rw1⟩
  have fin : ∀ z : Bool, (v = w → z = opV op v v) → Ob.lexAt (fun i => if i = 0 then decide (kd v = kd w) else decide (v = w)) (fun i => if i = 0 then opV op (.int (kd v)) (.int (kd w)) else opV op v w) z 0 2 = opV op v w := by
    intro z hz
    rw [Ob.lexAt_succ, Ob.lexAt_succ, Ob.lexAt_zero]
    by_cases hk : kd v = kd w
    · by_cases e : v = w
      · subst e
        simpa using hz rfl
      · simp [hk, e]
    · obtain ⟨q1, q2⟩ := kd_lt hv hw hk
      have h1 : ltV (.int (kd v)) (.int (kd w)) = ltV v w := by
        show decide (kd v < kd w) = _
        cases h : ltV v w with
        | true => exact decide_eq_true (q1.mpr h)
        | false => exact decide_eq_false fun q => by rw [q1.mp q] at h; cases h
      have h2 : ltV (.int (kd w)) (.int (kd v)) = ltV w v := by
        show decide (kd w < kd v) = _
        cases h : ltV w v with
        | true => exact decide_eq_true (q2.mpr h)
        | false => exact decide_eq_false fun q => by rw [q2.mp q] at h; cases h
      simp only [hk, decide_false, if_true]
      cases op <;> first | exact absurd ho (by decide) | simp [opV, h1, h2]
  have ir := ltV_irrefl v
  cases op <;> first | exact absurd ho (by decide) | skip
  · rw [← fin (decide ((#[Value.int (kd v) t0, u1] : Array Value).size < (#[Value.int (kd w) t1, w1] : Array Value).size)) fun _ => by simp [opV, ir]]
    exact rcFirst_lt p1 p2 hu key
  · rw [← fin (decide ((#[Value.int (kd v) t0, u1] : Array Value).size ≤ (#[Value.int (kd w) t1, w1] : Array Value).size)) fun _ => by simp [opV, ir]]
    exact rcFirst_le p1 p2 hu key
  · rw [← fin (decide ((#[Value.int (kd v) t0, u1] : Array Value).size > (#[Value.int (kd w) t1, w1] : Array Value).size)) fun _ => by simp [opV, ir]]
    exact rcFirst_gt p1 p2 hu key
  · rw [← fin (decide ((#[Value.int (kd v) t0, u1] : Array Value).size ≥ (#[Value.int (kd w) t1, w1] : Array Value).size)) fun _ => by simp [opV, ir]]
    exact rcFirst_ge p1 p2 hu key
def rPair (op : CmpOp) : R2 := fun x y H Q => ∃ (a b : Addr) (v w : V), x = .ref a ∧ y = .ref b ∧ H a = some (pairOf v) ∧ H b = some (pairOf w) ∧ IsVal v ∧ IsVal w ∧ Q (.bl (opV op v w)) H
theorem op_pair {X : Cx} {op : CmpOp} (ho : isOrd op = true) (hu : X.A.units + 64 < cLine) : OpR X (compareOp op) (rPair op) := by
  intro pins s σ H x y v u Q I rx ry h
  obtain ⟨a, b, v, w, rfl, rfl, ha, hb, hv, hw, q⟩ := h
  cases rx
  cases ry
  have R := pair_rc (A := X.A) ho I ha hb hv hw (by omega) X.prog X.w X.xe (EP X pins σ Q) ⟨.bl _, H, I, rfl, q⟩
  cases op <;> first | exact absurd ho (by decide) | exact R
end Tk

/-! ## TkSortA -/
set_option Elab.async false
set_option linter.all false
set_option maxRecDepth 100000
set_option maxHeartbeats 4000000
/-! ### sorting by keys of the form (kind, value, kind, value, ..) -/
namespace Tk
open PySem PySem.Spec PyProof.Rows L2 PySem.SeqAt PySem.W

def flatK (r : List V) : List V := r.flatMap fun v => [.int (kd v), v]
def tokV : V → Int ⊕ List Nat
  | .int i => .inl i
  | .str x => .inr x.cps.toList
  | _ => .inl 0
def toks (r : List V) : List (Int ⊕ List Nat) := (flatK r).map tokV
theorem flatK_cons (v : V) (r : List V) : flatK (v :: r) = .int (kd v) :: v :: flatK r := rfl
theorem toks_cons (v : V) (r : List V) : toks (v :: r) = .inl (kd v) :: tokV v :: toks r := rfl
/-- the order of rows -/
def ltRow : List V → List V → Bool
  | [], [] => false
  | [], _ :: _ => true
  | _ :: _, [] => false
  | v :: r, w :: q => if v = w then ltRow r q else ltV v w
theorem str_inj {x y : Str} (h : x.cps.toList = y.cps.toList) : x = y := by
  cases x with
  | mk a =>
    cases y with
    | mk b => exact congrArg Str.mk (Array.toList_inj.mp h)
theorem itemLt_val {v w : V} (hv : IsVal v) (hw : IsVal w) (hk : kd v = kd w) : itemLt (tokV v) (tokV w) = ltV v w := by
  rcases isVal_cases hv with ⟨i, rfl⟩ | ⟨x, rfl, _⟩ <;> rcases isVal_cases hw with ⟨j, rfl⟩ | ⟨y, rfl, _⟩
  · rfl
  · exact absurd (show (0 : Int) = 1 from hk) (by decide)
  · exact absurd (show (1 : Int) = 0 from hk) (by decide)
  · rfl
theorem ltV_tri {v w : V} (hv : IsVal v) (hw : IsVal w) (h : v ≠ w) : ltV v w = !ltV w v := by
  rcases isVal_cases hv with ⟨i, rfl⟩ | ⟨x, rfl, _⟩ <;> rcases isVal_cases hw with ⟨j, rfl⟩ | ⟨y, rfl, _⟩
  · have hn : i ≠ j := fun e => h (by rw [e])
    show decide (i < j) = !decide (j < i)
    by_cases q : i < j
    · have : ¬ j < i := by omega
      simp [q, this]
    · have : j < i := by omega
      simp [q, this]
  · rfl
  · rfl
  · have hn : x.cps.toList ≠ y.cps.toList := fun e => h (by rw [str_inj e])
    show decide (x.cps.toList < y.cps.toList) = !decide (y.cps.toList < x.cps.toList)
    by_cases q : x.cps.toList < y.cps.toList
    · have : ¬ y.cps.toList < x.cps.toList := fun z => List.lt_irrefl _ (List.lt_trans q z)
      simp [q, this]
    · have : y.cps.toList < x.cps.toList := by
        rcases Classical.em (y.cps.toList < x.cps.toList) with z | z
        · exact z
        · exact absurd (strKind.total _ _ (decide_eq_false q) (decide_eq_false z)) hn
      simp [q, this]
theorem lex_head_eq (p : Int ⊕ List Nat) (l m : List (Int ⊕ List Nat)) : PyProof.Rows.lexLt itemOrd (p :: l) (p :: m) = PyProof.Rows.lexLt itemOrd l m := by
  rw [lex_cons]
  have e : itemOrd.blt p p = false := itemOrd.irrefl p
  rw [e]
  simp
theorem toks_lt : ∀ {r q : List V}, (∀ v ∈ r, IsVal v) → (∀ v ∈ q, IsVal v) → PyProof.Rows.lexLt itemOrd (toks r) (toks q) = ltRow r q
  | [], [], _, _ => rfl
  | [], _ :: _, _, _ => rfl
  | _ :: _, [], _, _ => rfl
  | v :: r, w :: q, h1, h2 => by
    have hv := h1 v (List.mem_cons_self ..)
    have hw := h2 w (List.mem_cons_self ..)
    have ih := toks_lt (fun x hx => h1 x (List.mem_cons_of_mem _ hx)) (fun x hx => h2 x (List.mem_cons_of_mem _ hx)) (r := r) (q := q)
    rw [toks_cons, toks_cons]
    unfold ltRow
    by_cases e : v = w
    · subst e
      rw [if_pos rfl, lex_head_eq, lex_head_eq, ih]
    · rw [if_neg e]
      by_cases hk : kd v = kd w
      · rw [hk, lex_head_eq, lex_cons]
        show (itemLt (tokV v) (tokV w) || (!itemLt (tokV w) (tokV v) && _)) = _
        rw [itemLt_val hv hw hk, itemLt_val hw hv hk.symm, ltV_tri hv hw e]
        cases ltV w v <;> simp
      · obtain ⟨q1, q2⟩ := kd_lt hv hw hk
        rw [lex_cons]
        show (decide (kd v < kd w) || (!decide (kd w < kd v) && _)) = _
        have z : ltV v w = !ltV w v := ltV_tri hv hw e
        cases h : ltV v w with
        | true => simp [q1.mpr h]
        | false =>
          rw [h] at z
          have z2 : ltV w v = true := by
            cases y : ltV w v with
            | true => rfl
            | false => rw [y] at z; cases z
          have : ¬ kd v < kd w := fun y => by rw [q1.mp y] at h; cases h
          simp [this, q2.mpr z2]
theorem toks_inj : ∀ {r q : List V}, (∀ v ∈ r, IsVal v) → (∀ v ∈ q, IsVal v) → toks r = toks q → r = q
  | [], [], _, _, _ => rfl
  | [], w :: q, _, _, h => by rw [toks_cons] at h; cases h
  | v :: r, [], _, _, h => by rw [toks_cons] at h; cases h
  | v :: r, w :: q, h1, h2, h => by
    rw [toks_cons, toks_cons] at h
    injection h with a b
    injection b with b c
    have hv := h1 v (List.mem_cons_self ..)
    have hw := h2 w (List.mem_cons_self ..)
    have ih := toks_inj (fun x hx => h1 x (List.mem_cons_of_mem _ hx)) (fun x hx => h2 x (List.mem_cons_of_mem _ hx)) c
    rw [ih]
    congr 1
    rcases isVal_cases hv with ⟨i, rfl⟩ | ⟨x, rfl, _⟩ <;> rcases isVal_cases hw with ⟨j, rfl⟩ | ⟨y, rfl, _⟩
    · exact congrArg V.int (Sum.inl.inj b)
    · cases b
    · cases b
    · exact congrArg V.str (str_inj (Sum.inr.inj b))

/-- v reads as the key of the row r -/
def FlatAt (h : Heap) (v : Value) (r : List V) : Prop := (∀ x ∈ r, IsVal x) ∧ ∃ (a : Addr) (us : List Value), v = .ref a ∧ IsTup h a us.toArray ∧ Vals (flatK r) us
theorem FlatAt.uniq {h : Heap} {v : Value} {r q : List V} (a : FlatAt h v r) (b : FlatAt h v q) : toks r = toks q := by
  obtain ⟨_, a, us, rfl, ⟨o, e, _, n, d⟩, ra⟩ := a
  obtain ⟨_, a', us', e2, ⟨o', e', _, n', d'⟩, rb⟩ := b
  injection e2 with e2
  subst e2
  rw [e] at e'
  cases e'
  rw [d] at d'
  injection d' with d1 _
  have : us = us' := by simpa using congrArg Array.toList d1
  subst this
  unfold toks
  rw [ra.inj rb]
noncomputable def flatKind (h : Heap) : PyProof.Rows.KeyKind where
  toKeyOrd := listOrd itemOrd
  keyOf v := open Classical in if q : ∃ r, FlatAt h v r then some (toks q.choose) else none
  dflt := ([] : List (Int ⊕ List Nat))
theorem flat_some {h : Heap} {v : Value} {r : List V} (q : FlatAt h v r) : (flatKind h).keyOf v = some (toks r) := by
  have z : ∃ r, FlatAt h v r := ⟨r, q⟩
  show (open Classical in if q : ∃ r, FlatAt h v r then some (toks q.choose) else none) = _
  rw [dif_pos z, FlatAt.uniq z.choose_spec q]
theorem flat_inv {h : Heap} {v : Value} {k : List (Int ⊕ List Nat)} (e : (flatKind h).keyOf v = some k) : ∃ r, FlatAt h v r ∧ k = toks r := by
  by_cases q : ∃ r, FlatAt h v r
  · have e' : (flatKind h).keyOf v = some (toks q.choose) := by
      show (open Classical in if q : ∃ r, FlatAt h v r then some (toks q.choose) else none) = _
      rw [dif_pos q]
    rw [e'] at e
    exact ⟨_, q.choose_spec, (Option.some.inj e).symm⟩
  · have e' : (flatKind h).keyOf v = none := by
      show (open Classical in if q : ∃ r, FlatAt h v r then some (toks q.choose) else none) = _
      rw [dif_neg q]
      rfl
    rw [e'] at e
    exact absurd e (by simp)
section
variable {prog : Program} {w : World} {A : Around} {s : Shared}
theorem katFlat {b fin : Bool} {Q : Bool → Shared → Prop} : ∀ (r q : List V) (i : Nat) (us ws : List Value), (∀ x ∈ r, IsVal x) → (∀ x ∈ q, IsVal x) → Vals (flatK r) us → Vals (flatK q) ws → A.units < cLine →
    fin = decide (us.length < ws.length) → Q (PyProof.Rows.lexLt itemOrd (toks r) (toks q)) s → KatLex prog w A b fin Q (us.zip ws) i s
  | [], [], i, _, _, _, _, .nil, .nil, _, hf, hq => by
    subst hf
    exact kat_nil hq
  | [], y :: q, i, _, ws, _, _, .nil, rq, _, hf, hq => by
    have : 0 < ws.length := by rw [← rq.length, flatK_cons]; exact Nat.zero_lt_succ _
    subst hf
    have e : decide (([] : List Value).length < ws.length) = true := decide_eq_true this
    rw [e]
    exact kat_nil hq
  | x :: r, [], i, us, _, _, _, rr, .nil, _, hf, hq => by
    subst hf
    rw [List.zip_nil_right]
    have e : decide (us.length < ([] : List Value).length) = false := decide_eq_false (Nat.not_lt_zero _)
    rw [e]
    exact kat_nil hq
  | x :: r, y :: q, i, _, _, hr, hq', .cons ⟨t0, e0⟩ (.cons ru rr), .cons ⟨t1, e1⟩ (.cons rw' rq), hu, hf, hq => by
    subst e0 e1
    have hx := hr x (List.mem_cons_self ..)
    have hy := hq' y (List.mem_cons_self ..)
    rw [toks_lt hr hq'] at hq
    unfold ltRow at hq
    rw [List.zip_cons_cons, List.zip_cons_cons]
    refine kat_cons ?_
    refine EqAt.int_int (A := A) (s := s) _ _ _ _ prog w _ _ ?_
    by_cases hk : kd x = kd y
    · rw [beq_iff_eq.mpr hk]
      refine kat_yes (kat_cons ?_)
      refine eqAt_val hx hy ru rw' prog w _ _ ?_
      by_cases e : x = y
      · rw [decide_eq_true e]
        rw [if_pos e] at hq
        refine kat_yes (katFlat r q (i + 1 + 1) _ _ (fun z hz => hr z (List.mem_cons_of_mem _ hz)) (fun z hz => hq' z (List.mem_cons_of_mem _ hz)) rr rq hu ?_ ?_)
        · rw [hf]
          simp
        · rw [toks_lt (fun z hz => hr z (List.mem_cons_of_mem _ hz)) fun z hz => hq' z (List.mem_cons_of_mem _ hz)]
          exact hq
      · rw [decide_eq_false e]
        rw [if_neg e] at hq
        refine kat_no ?_
        have hb : (b && i + 1 == 0) = false := by simp
        rw [hb]
        rcases isVal_cases hx with ⟨n, rfl⟩ | ⟨z, rfl, _⟩ <;> rcases isVal_cases hy with ⟨m, rfl⟩ | ⟨z', rfl, _⟩ <;> obtain ⟨t1, rfl⟩ := ru <;> obtain ⟨t2, rfl⟩ := rw'
        · exact oneLt_alike (da := .int n) (db := .int m) (fun z => nomatch z) (.int _ _) (.int _ _) (by simp [alike]) (by simp) (by simpa [PyData.depth] using hu) (by rw [dataLt_int]; exact hq)
        · exact absurd (show (0 : Int) = 1 from hk) (by decide)
        · exact absurd (show (1 : Int) = 0 from hk) (by decide)
        · exact oneLt_alike (da := .str z) (db := .str z') (fun z => nomatch z) (.str _ _) (.str _ _) (by simp [alike]) (by simp) (by simpa [PyData.depth] using hu) (by rw [dataLt_str]; exact hq)
    · have e : (kd x == kd y) = false := beq_eq_false_iff_ne.mpr hk
      have hne : x ≠ y := fun z => hk (by rw [z])
      rw [e]
      rw [if_neg hne] at hq
      refine kat_no (oneLt_alike (da := .int (kd x)) (db := .int (kd y)) (fun _ _ z => nomatch z) (.int _ _) (.int _ _) (by simp [alike]) (by simp) (by simpa [PyData.depth] using hu) ?_)
      rw [dataLt_int]
      have q1 := (kd_lt hx hy hk).1
      have : decide (kd x < kd y) = ltV x y := by
        cases z : ltV x y with
        | true => exact decide_eq_true (q1.mpr z)
        | false => exact decide_eq_false fun y => by rw [q1.mp y] at z; cases z
      rw [this]
      exact hq
theorem flat_tups {h : Heap} : ∀ {vs : List Value} {rs : List (List V)}, EachIs (FlatAt h) vs rs → (∀ r ∈ rs, r ≠ []) → ∃ fs, KatTups h vs fs ∧ fs.length = vs.length ∧ ∀ f ∈ fs, ∃ k t, f = Value.int k t
  | _, _, .nil, _ => ⟨[], KatTups.nil, rfl, fun f hf => absurd hf (by simp)⟩
  | _, _, .cons (b := r) ⟨hr, a, us, e, ⟨o, ho, hc, n, hd⟩, rv⟩ t, hn => by
    subst e
    obtain ⟨fs, h1, h2, h3⟩ := flat_tups t fun q hq => hn q (List.mem_cons_of_mem _ hq)
    have h0 := hn r (List.mem_cons_self ..)
    cases r with
    | nil => exact absurd rfl h0
    | cons x r =>
      rw [flatK_cons] at rv
      cases rv with
      | cons ri rest =>
        obtain ⟨t0, rfl⟩ := ri
        refine ⟨_, KatTups.cons ho hc hd (f := .int (kd x) t0) (by simp) h1, by rw [List.length_cons, List.length_cons, h2], fun g hg => ?_⟩
        rcases List.mem_cons.mp hg with rfl | hg
        · exact ⟨_, _, rfl⟩
        · exact h3 g hg
theorem sortsFlat {vs : List Value} {rs : List (List V)} (e : EachIs (FlatAt s.heap) vs rs) (hn : 2 ≤ rs.length → ∀ r ∈ rs, r ≠ []) (hu : A.units < cLine) : SortsAt prog w A s (flatKind s.heap) vs := by
  refine ⟨fun v hv => ?_, tuples' true, ?_, fun h2 E Q hq => ?_⟩
  · obtain ⟨r, _, q⟩ := e.left v hv
    exact ⟨_, flat_some q⟩
  · intro E x y a b Q ha hb hq
    obtain ⟨r, ⟨hr, a1, us, rfl, ⟨o, ho, hc, n, hd⟩, rv⟩, rfl⟩ := flat_inv ha
    obtain ⟨q, ⟨hq', a2, ws, rfl, ⟨o2, ho2, hc2, n2, hd2⟩, rv2⟩, rfl⟩ := flat_inv hb
    have hq2 : Q (PyProof.Rows.lexLt itemOrd (toks r) (toks q)) s := hq
    exact kat_lt ho hd ho2 hd2 (by
      have z := katFlat (prog := prog) (w := w) (A := A) (s := s) (b := true) (fin := decide (us.toArray.size < ws.toArray.size)) (Q := Q) r q 0 us ws hr hq' rv rv2 hu (by simp) hq2
      exact z)
  · have hl := e.length
    obtain ⟨fs, t1, t2, t3⟩ := flat_tups e (hn (by omega))
    refine kat_kind (T := .type "int") t1 (by omega) (fun f hf => ?_) (beq_self_eq_true _) hq
    obtain ⟨k, t, rfl⟩ := t3 f hf
    exact Looks.of_pure rfl
end
end Tk

/-! ## TkSortB -/
set_option Elab.async false
set_option linter.all false
set_option maxRecDepth 100000
set_option maxHeartbeats 4000000
/-! ### sorted(xs, key=f), f a def of the text that gives such keys -/
namespace Tk
open PySem PySem.Spec PyProof.Rows L2 PySem.SeqAt PySem.W

/-- what f is asked: at x, wherever all of H stands, the key of κ x comes back and all stands -/
def KeyAsk (H : Hp) (sp : Sp) (κ : V → List V) (x : V) : Prop :=
  ∀ (H1 : Hp) (Q : VK) (E : XK), Same H H1 → (∀ p H2, Same H1 H2 → H2 p = some (.tup (flatK (κ x))) → Q (.ref p) H2) → sp [x] H1 Q E
theorem EachIs.snoc {α β : Type} {R : α → β → Prop} {a : α} {b : β} (h : R a b) : ∀ {as : List α} {bs : List β}, EachIs R as bs → EachIs R (as ++ [a]) (bs ++ [b])
  | _, _, .nil => .cons h .nil
  | _, _, .cons q t => .cons q (EachIs.snoc h t)
theorem vals_each : ∀ {xs : List V} {us : List Value}, Vals xs us → EachIs (fun v x => RelV x v) us xs
  | _, _, .nil => .nil
  | _, _, .cons r t => .cons r (vals_each t)
theorem each_vals : ∀ {xs : List V} {us : List Value}, EachIs (fun v x => RelV x v) us xs → Vals xs us
  | _, _, .nil => .nil
  | _, _, .cons r t => .cons r (each_vals t)
theorem each_map' {α β γ : Type} {R : α → γ → Prop} (g : β → γ) : ∀ {as : List α} {bs : List β}, EachIs (fun a b => R a (g b)) as bs → EachIs R as (bs.map g)
  | _, _, .nil => .nil
  | _, _, .cons q t => .cons q (each_map' g t)
/-- sorted by κ: no later one is less -/
def SortedBy (κ : V → List V) (ys : List V) : Prop := ys.Pairwise fun x y => ltRow (κ y) (κ x) = false

section
variable {X : Cx} {pins : List (Addr × Obj)} {σ : L2.St} {H : Hp} {s : Shared} {a kS : Addr} {xs : List V} {A : Around}

/-- an object of ours that stood untracked is tracked from here on -/
theorem adopt {o : HO} (I : Inv X pins σ H s) (fa : FpOk X pins H a) (ok : ObjOk X.prog X.w (upd H a o) s.heap a o) : Inv X pins σ (upd H a o) s := by
  obtain ⟨f0, f1, f2, f3, f4, f5⟩ := fa
  have nt : ∀ b u, H b = some u → b ≠ a := fun b u q z => by rw [z, f0] at q; cases q
  refine I.step (h' := s.heap) (g' := s.gens) (d' := s.drawn) (t' := s.toks) (ch := [a]) (fun b hb => ?_) (fun b o _ _ _ e _ => e) (fun b o _ _ _ e _ => ⟨o.slots, e⟩) (fun b o hc e n => ?_) (fun b o _ e => ⟨o, e⟩)
    (fun b xs e => by rw [upd_ne (nt b _ e)]; exact e) (fun b o u e => by rw [upd_ne (nt b _ e)]; exact e) (fun b ps e => ⟨#[], by rw [upd_ne (nt b _ e), e]; simp⟩) (fun m hm => hm) (fun b u e => ?_) I.bare
  · have e : b = a := by simpa using hb
    subst e
    exact ⟨f3, f1, f4, f5⟩
  · rw [upd_ne (by simpa using hc)]
    exact n
  · by_cases hb : b = a
    · subst hb
      rw [upd_same] at e
      cases e
      exact ok
    · rw [upd_ne hb] at e
      exact (I.hok b u e).stay (fun c v _ q => q) (fun c q => by rw [upd_ne (nt c _ q)]; exact q) fun c xs q => by rw [upd_ne (nt c _ q)]; exact q

theorem key_end {P : PySem.Fin → Shared → Prop} {E : Value → Shared → Prop} {κ : V → List V} {its : List Value} {kA : Array Value} {e e1 : Nat} (hA : A.units < cLine) (I : Inv X pins σ H s) (fa : FpOk X pins H a)
    (hk : FpOk X pins H kS) (hka : kS ≠ a) (ek : s.heap.get? kS = some (seqObj "list" kA e)) (ea : s.heap.get? a = some (seqObj "list" #[] e1)) (rv : Vals xs its) (hz : xs.length ≤ sizeLine)
    (hkeys : EachIs (fun v x => ∃ p, v = Value.ref p ∧ H p = some (.tup (flatK (κ x)))) kA.toList xs) (hval : ∀ x ∈ xs, ∀ v ∈ κ x, IsVal v) (hne : 2 ≤ xs.length → ∀ x ∈ xs, κ x ≠ [])
    (h : ∀ s' ys, Inv X pins σ (upd H a (.lst ys)) s' → ys.Perm xs → SortedBy κ ys → P (.done (.ret .none)) s') :
    wpAny (model X.prog X.w) A (ksk_end a false its.toArray e1 (.ref kS) kA) P E s := by
  have hl := rv.length
  have hkl : kA.toList.length = its.length := by rw [hkeys.length, hl]
  have hflat : EachIs (FlatAt s.heap) kA.toList (xs.map κ) := by
    refine each_map' κ ((each_mem hkeys).mono fun v x ⟨⟨p, e, hp⟩, hx⟩ => ?_)
    subst e
    obtain ⟨z, us, r, t⟩ := I.hok p _ hp
    exact ⟨hval x hx, p, us, rfl, t, r⟩
  have S : SortsAt X.prog X.w A s (flatKind s.heap) kA.toList := sortsFlat hflat (by
    rw [List.length_map]
    intro h2 r hr
    obtain ⟨x, hx, rfl⟩ := List.mem_map.mp hr
    exact hne h2 x hx) hA
  refine keyH_end (κ := flatKind s.heap) (h₁ := hideAll s.heap [kS]) (fun b o _ q => of_hideAll [kS] q) (hideAll_none [kS] (List.mem_cons_self ..)) ek ea hka S (by rw [← Array.length_toList]; exact hkl) (by rw [← hl]; exact hz) fun h' tk c kp hD => ?_
  -- the heap ahead of the last store at a
  have g1 : ∀ b o, b ≠ kS → s.heap.get? b = some o → (h'.update a (fun _ => seqObj "list" #[] e1)).get? b = some o := fun b o hb q => by
    by_cases hba : b = a
    · subst hba
      rw [ea] at q
      cases q
      exact Heap.get?_update_self (fun _ => seqObj "list" #[] e1) hD rfl
    · rw [Heap.get?_update_ne _ _ _ _ hba]
      exact kp b o hba (hideAll_get [kS] q (by simpa using hb))
  obtain ⟨f0, f1, f2, f3, f4, f5⟩ := hk
  have I1 : Inv X pins σ H { s with heap := h'.update a (fun _ => seqObj "list" #[] e1), toks := tk } := I.turned (it := kS) g1 f0 f1 f3 f4 f5
  obtain ⟨y0, y1, y2, y3, y4, y5⟩ := id fa
  have g2 : ∀ b u, b ≠ a → (h'.update a (fun _ => seqObj "list" #[] e1)).get? b = some u → h'.get? b = some u := fun b u hb q => by
    rw [Heap.get?_update_ne _ _ _ _ hb] at q
    exact q
  have I2 : Inv X pins σ H { s with heap := h', toks := tk } := Inv.turned (s := { s with heap := h'.update a (fun _ => seqObj "list" #[] e1), toks := tk }) (it := a) (h' := h') (t' := tk) I1 g2 y0 y1 y3 y4 y5
  have hsorted : EachIs (fun v x => RelV x v) (sortVals (flatKind s.heap) false kA.toList its) (xs.mergeSort (sortLe (flatKind s.heap).toKeyOrd false fun x => toks (κ x))) :=
    sortVals_each (κ := flatKind s.heap) (fun x => toks (κ x)) (vals_each rv) (by
      refine (each_mem hkeys).mono fun v x ⟨⟨p, e, hp⟩, hx⟩ => ?_
      subst e
      obtain ⟨z, us, r, t⟩ := I.hok p _ hp
      exact flat_some ⟨hval x hx, p, us, rfl, t, r⟩)
  have hperm := List.mergeSort_perm xs (sortLe (flatKind s.heap).toKeyOrd false fun x => toks (κ x))
  refine h _ (xs.mergeSort (sortLe (flatKind s.heap).toKeyOrd false fun x => toks (κ x))) ?_ hperm ?_
  · exact adopt I2 fa ⟨by rw [hperm.length_eq]; exact hz, _, c, each_vals hsorted, hD⟩
  · have tr : ∀ x y z : V, sortLe (flatKind s.heap).toKeyOrd false (fun x => toks (κ x)) x y = true → sortLe (flatKind s.heap).toKeyOrd false (fun x => toks (κ x)) y z = true → sortLe (flatKind s.heap).toKeyOrd false (fun x => toks (κ x)) x z = true := by
      intro x y z p q
      have p' : (!((flatKind s.heap).toKeyOrd.blt (toks (κ y)) (toks (κ x)))) = true := p
      have q' : (!((flatKind s.heap).toKeyOrd.blt (toks (κ z)) (toks (κ y)))) = true := q
      show (!((flatKind s.heap).toKeyOrd.blt (toks (κ z)) (toks (κ x)))) = true
      have := KeyOrd.kle_trans (O := (flatKind s.heap).toKeyOrd) (a := toks (κ x)) (b := toks (κ y)) (c := toks (κ z)) (by simpa [KeyOrd.kle] using p') (by simpa [KeyOrd.kle] using q')
      simpa [KeyOrd.kle] using this
    have to : ∀ x y : V, (sortLe (flatKind s.heap).toKeyOrd false (fun x => toks (κ x)) x y || sortLe (flatKind s.heap).toKeyOrd false (fun x => toks (κ x)) y x) = true := by
      intro x y
      show ((!((flatKind s.heap).toKeyOrd.blt (toks (κ y)) (toks (κ x)))) || (!((flatKind s.heap).toKeyOrd.blt (toks (κ x)) (toks (κ y))))) = true
      cases q : (flatKind s.heap).toKeyOrd.blt (toks (κ y)) (toks (κ x)) with
      | false => rfl
      | true =>
        have := KeyOrd.klt_asymm (O := (flatKind s.heap).toKeyOrd) q
        have z : (flatKind s.heap).toKeyOrd.blt (toks (κ x)) (toks (κ y)) = false := this
        rw [z]
        rfl
    have pw := List.pairwise_mergeSort tr to xs
    have mem : ∀ x, x ∈ xs.mergeSort (sortLe (flatKind s.heap).toKeyOrd false fun x => toks (κ x)) → x ∈ xs := fun x hx => hperm.mem_iff.mp hx
    unfold SortedBy
    refine List.Pairwise.imp_of_mem (fun {x y} hx hy q => ?_) pw
    have q' : (!(PyProof.Rows.lexLt itemOrd (toks (κ y)) (toks (κ x)))) = true := q
    rw [toks_lt (hval y (mem y hy)) (hval x (mem x hx))] at q'
    simpa using q'

theorem key_tree {P : PySem.Fin → Shared → Prop} {E : Value → Shared → Prop} {k : Nat} {f : Addr} {sp : Sp} {κ : V → List V} (hA : A.units < cLine) (hr : Room k A) (hfr : A.frames = X.A.frames) (F : FnR X.prog X.w X.K X.mg X.base CX0 k f sp)
    (I : Inv X pins σ H s) (fa : FpOk X pins H a) (hz : xs.length ≤ sizeLine) {its : List Value} {n : Nat} (rv : Vals xs its) (ho : s.heap.get? a = some (seqObj "list" its.toArray n)) (ask : ∀ x ∈ xs, KeyAsk H sp κ x) (hval : ∀ x ∈ xs, ∀ v ∈ κ x, IsVal v) (hne : 2 ≤ xs.length → ∀ x ∈ xs, κ x ≠ [])
    (h : ∀ s' H' ys, Same H H' → H' a = none → Inv X pins σ (upd H' a (.lst ys)) s' → ys.Perm xs → SortedBy κ ys → P (.done (.ret .none)) s') :
    wpAny (model X.prog X.w) A (ksk_tree a (.ref f) false) P E s := by
  have hl := rv.length
  have hz' : its.toArray.size ≤ sizeLine := by rw [List.size_toArray, ← hl]; exact hz
  unfold ksk_tree
  refine wpAny_bind (listItems_at ho rfl ?_)
  refine wpAny_bind (listUpdate_at ho rfl ?_ hz' (Nat.zero_le _))
  have I1 : Inv X pins σ H { s with heap := s.heap.update a (Obj.mapSeq fun _ => (#[] : Array Value)), toks := s.toks } := by
    obtain ⟨y0, y1, y2, y3, y4, y5⟩ := id fa
    exact I.turned (it := a) (fun b o hb q => by rw [Heap.get?_update_ne _ _ _ _ hb]; exact q) y0 y1 y3 y4 y5
  obtain ⟨e1, ho1⟩ : ∃ e1, (s.heap.update a (Obj.mapSeq fun _ => (#[] : Array Value))).get? a = some (seqObj "list" #[] e1) := ⟨_, get?_update_seq ho fun _ => #[]⟩
  refine wpAny_bind (seqEpoch_at ho1 rfl ?_)
  refine wpAny_bind (wpAny_newTuple ?_ (by show its.length ≤ _; omega))
  have I2 : Inv X pins σ H { s with heap := (s.heap.update a (Obj.mapSeq fun _ => (#[] : Array Value))).push { cls := .type "tuple", data := .seq its.toArray }, toks := s.toks } := I1.kept fun b o q => Heap.get?_push_of_some _ q
  refine wpAny_bind (wpAny_newList ?_ (Nat.zero_le _))
  generalize hkS : ((s.heap.update a (Obj.mapSeq fun _ => (#[] : Array Value))).push { cls := .type "tuple", data := .seq its.toArray }).objs.size = kS
  have I3 : Inv X pins σ H { s with heap := ((s.heap.update a (Obj.mapSeq fun _ => (#[] : Array Value))).push { cls := .type "tuple", data := .seq its.toArray }).push { cls := .type "list", data := .seq ([] : List Value).toArray }, toks := s.toks } :=
    I2.kept fun b o q => Heap.get?_push_of_some _ q
  have k3 : (((s.heap.update a (Obj.mapSeq fun _ => (#[] : Array Value))).push { cls := .type "tuple", data := .seq its.toArray }).push { cls := .type "list", data := .seq ([] : List Value).toArray }).get? kS = some (seqObj "list" #[] 0) := by
    rw [← hkS]
    exact Heap.get?_push_size _ rfl
  have fp3 : FpOk X pins H kS := I2.fpOk (Nat.le_of_eq hkS) (I2.hok.fresh (Nat.le_of_eq hkS))
  have a3 : (((s.heap.update a (Obj.mapSeq fun _ => (#[] : Array Value))).push { cls := .type "tuple", data := .seq its.toArray }).push { cls := .type "list", data := .seq ([] : List Value).toArray }).get? a = some (seqObj "list" #[] e1) :=
    Heap.get?_push_of_some _ (Heap.get?_push_of_some _ ho1)
  have hka : kS ≠ a := by
    have hlt : a < s.heap.objs.size := Heap.lt_size ho
    rw [← hkS, size_push', Heap.size_update]
    exact Nat.ne_of_gt (Nat.lt_succ_of_lt hlt)
  refine wpAny_holding ?_
  generalize hs3 : ({ s with heap := ((s.heap.update a (Obj.mapSeq fun _ => (#[] : Array Value))).push { cls := .type "tuple", data := .seq its.toArray }).push { cls := .type "list", data := .seq ([] : List Value).toArray }, toks := s.toks } : Shared) = s3 at I3
  have k3' : s3.heap.get? kS = some (seqObj "list" #[] 0) := by rw [← hs3]; exact k3
  have a3' : s3.heap.get? a = some (seqObj "list" #[] e1) := by rw [← hs3]; exact a3
  show wpAny (model X.prog X.w) A (ksk_rest a (.ref f) false its.toArray e1 (.ref kS)) P E s3
  unfold ksk_rest
  refine wpAny_bind (wpAny_rule ?_)
  first
    | rw [List.forIn_toArray]
    | (rw [← Array.forIn_toList]; simp only [List.toList_toArray])
    | rw [← Array.forIn_toList]
  refine wpAny_bind (ksk_fold (fun i s' => ∃ H' kA e, Inv X pins σ H' s' ∧ Same H H' ∧ FpOk X pins H' a ∧ FpOk X pins H' kS ∧ s'.heap.get? kS = some (seqObj "list" kA e) ∧ s'.heap.get? a = some (seqObj "list" #[] e1) ∧
    EachIs (fun v x => ∃ p, v = Value.ref p ∧ H' p = some (.tup (flatK (κ x)))) kA.toList (xs.take i)) its 0 s3
    ⟨H, #[], 0, I3, Same.refl H, fa, fp3, k3', a3', by rw [List.take_zero]; exact EachIs.nil⟩ ?step ?done)
  case step =>
    rintro j v s' hv ⟨H', kA, e, J, ex, fa', fp, ek, ea, hkeys⟩
    simp only [Nat.zero_add] at hkeys ⊢
    have hj : j < its.length := (List.getElem?_eq_some_iff.mp hv).1
    have hjx : j < xs.length := by omega
    obtain ⟨u, hu, ru⟩ := rv.get (List.getElem?_eq_getElem hjx)
    rw [hv] at hu
    cases hu
    have hx : xs[j] ∈ xs := List.getElem_mem hjx
    have e0 : Env0 X.prog X.w X.K X.mg X.base A X.stack s' H' := ⟨hfr.trans J.env0.frames, J.env0.mod, J.env0.bs, J.env0.bsz, J.env0.funs, J.env0.frf, J.env0.hok, J.env0.bare⟩
    have run := F A X.stack s' H' [v] [xs[j]] (fun y H2 => Same H' H2 ∧ ∃ p, y = .ref p ∧ H2 p = some (.tup (flatK (κ xs[j])))) (fun _ _ _ => False) hr e0 (.cons ru .nil)
      (ask _ hx H' _ _ ex fun p H2 sm hp => ⟨sm, p, rfl, hp⟩)
    refine wpAny_bind (wpAny_attempt (wpAny_call (codeAny_mono run fun r s'' hq => ?_)))
    cases r with
    | error e => exact False.elim hq
    | ok fl =>
      cases fl with
      | next => exact False.elim hq
      | brk => exact False.elim hq
      | cont => exact False.elim hq
      | ret u =>
        obtain ⟨y, H2, os, bare, un, hok, r, sm, p, rfl, hp⟩ := (show CE X.stack X.prog X.w H' s' (fun y H2 => Same H' H2 ∧ ∃ p, y = .ref p ∧ H2 p = some (.tup (flatK (κ xs[j])))) u s'' from hq)
        cases r
        have J2 : Inv X pins σ H2 s'' := J.call' (ch := []) os un hok bare (fun b z => absurd z (by simp))
        have nfs : ∀ {c : Addr}, FpOk X pins H' c → c ∉ frs X.stack := fun {c} fc z => by
          rcases List.mem_cons.mp (J.stkSub c z) with q | q
          · exact fc.2.1 q
          · exact fc.2.2.1 q
        have ek2 : s''.heap.get? kS = some (seqObj "list" kA e) := un.keep kS _ ek fp.1 (nfs fp) (by simp)
        have ea2 : s''.heap.get? a = some (seqObj "list" #[] e1) := un.keep a _ ea fa'.1 (nfs fa') (by simp)
        have fp2 : FpOk X pins H2 kS := ⟨un.free kS _ ek fp.1 (by simp), fp.2⟩
        have fa2 : FpOk X pins H2 a := ⟨un.free a _ ea fa'.1 (by simp), fa'.2⟩
        have hzk : kA.size ≤ its.length := by
          have h1 := hkeys.length
          rw [Array.length_toList, List.length_take] at h1
          omega
        obtain ⟨c2, hc2⟩ : ∃ c2, (s''.heap.update kS (Obj.mapSeq (·.push (Value.ref p)))).get? kS = some (seqObj "list" (kA.push (Value.ref p)) c2) := ⟨_, get?_update_seq ek2 (·.push (Value.ref p))⟩
        obtain ⟨f0, f1, f2, f3, f4, f5⟩ := id fp2
        have J3 : Inv X pins σ H2 { s'' with heap := s''.heap.update kS (Obj.mapSeq (·.push (Value.ref p))), toks := s''.toks } :=
          J2.turned (it := kS) (fun b o hb q => by rw [Heap.get?_update_ne _ _ _ _ hb]; exact q) f0 f1 f3 f4 f5
        refine wpAny_bind (listUpdate_at ek2 rfl ?_ (by omega) (by rw [Array.size_push]; omega))
        refine wpAny_pure ⟨rfl, H2, kA.push (Value.ref p), c2, J3, ex.trans sm, fa2, fp2, hc2, ?_, ?_⟩
        · show (s''.heap.update kS (Obj.mapSeq (·.push (Value.ref p)))).get? a = _
          rw [Heap.get?_update_ne _ _ _ _ hka.symm]
          exact ea2
        · have ek : xs.take (j + 1) = xs.take j ++ [xs[j]] := by rw [List.take_add_one, List.getElem?_eq_getElem hjx]; rfl
          rw [ek, Array.toList_push]
          exact EachIs.snoc ⟨p, rfl, hp⟩ (hkeys.mono fun v x ⟨q, e1, e2⟩ => ⟨q, e1, sm _ _ e2⟩)
  case done =>
    rintro s' ⟨H', kA, e, J, ex, fa', fp, ek, ea, hkeys⟩
    rw [List.take_of_length_le (by omega)] at hkeys
    refine wpAny_bind (listItems_at ek rfl ?_)
    exact key_end hA J fa' fp hka ek ea rv hz hkeys hval hne fun s'' ys I' hp hs => h s'' H' ys ex fa'.1 I' hp hs
end
end Tk

/-! ## TkSortC -/
set_option Elab.async false
set_option linter.all false
set_option maxRecDepth 100000
set_option maxHeartbeats 4000000
namespace Tk
open PySem PySem.Spec PyProof.Rows L2 PySem.SeqAt PySem.W

/-- the row that an item is sorted by: a value by itself, a tuple by its items -/
def kapH (H : Hp) (x : V) : List V := match x with
  | .ref b => match H b with
    | some (.tup r) => r
    | _ => []
  | v => [v]
def rSortK (K : PySem.W.Frag) (f : Addr) (sp : Sp) : List V → List V → Hp → VK → Prop := fun vs zs H Q => ∃ (l : Addr) (xs : List V), vs = [.ref l] ∧ zs = [.ref f] ∧ SqL K H l xs ∧
  (∀ x ∈ xs, KeyAsk H sp (kapH H) x) ∧ (∀ x ∈ xs, ∀ v ∈ kapH H x, IsVal v) ∧ (2 ≤ xs.length → ∀ x ∈ xs, kapH H x ≠ []) ∧
  ∀ (ys : List V) (p : Addr) (H' : Hp), Same H H' → H' p = none → ys.Perm xs → SortedBy (kapH H) ys → Q (.ref p) (upd H' p (.lst ys))
def rSortKD (f : Addr) (sp : Sp) : List V → List V → Hp → VK → Prop := fun vs zs H Q => ∃ (d : Addr) (kvs : List (List Key × V)), vs = [.ref d] ∧ zs = [.ref f] ∧ H d = some (.dT kvs) ∧
  ∀ bs : List Addr, IsKeys H kvs bs → (∀ b ∈ bs, KeyAsk H sp (kapH H) (.ref b)) ∧ (∀ b ∈ bs, ∀ v ∈ kapH H (.ref b), IsVal v) ∧ (2 ≤ bs.length → ∀ b ∈ bs, kapH H (.ref b) ≠ []) ∧
  ∀ (ys : List V) (p : Addr) (H' : Hp), Same H H' → H' p = none → ys.Perm (bs.map V.ref) → SortedBy (kapH H) ys → Q (.ref p) (upd H' p (.lst ys))
section
variable {X : Cx} {k j : Nat} {f : Addr} {sp : Sp}
theorem kw_key {ws : List Value} {zs : List V} (r : Vals zs ws) (e : zs = [.ref f]) : [Str.ofString "key"].zip ws = [(Str.ofString "key", Value.ref f)] := by
  subst e
  obtain ⟨u, rfl, ru⟩ := r.one
  cases ru
  rfl
theorem cr_sortK (F : FnR X.prog X.w X.K X.mg X.base CX0 k f sp) (hr : Room j X.A) (hk : k + 2 ≤ j) : CallRK X (.builtin "sorted") [Str.ofString "key"] (rSortK X.K f sp) := by
  intro pins s σ H vs zs us ws Q I r rz h
  obtain ⟨l, xs, rfl, ez, hs, ask, hval, hne, q⟩ := h
  obtain ⟨u, rfl, ru⟩ := r.one
  cases ru
  rw [kw_key rz ez]
  obtain ⟨its, rv, pl, hz⟩ := I.list hs
  have hl := rv.length
  have hr2 : Room k X.A.in1.in1 := (Room.in1 (Room.in1 (hr.mono hk)))
  have hA : X.A.in1.in1.units < cLine := by have := hr2.un; omega
  refine sorted_of_sort pl.isList (by omega) (ksk_s1 _ _) (fun _ => ksk_l1 _ _) fun E' => ?_
  rw [ksk_t1]
  have I1 : Inv X pins σ H { s with heap := copyHeap s.heap its, toks := s.toks } := I.kept fun b o e => copyHeap_old e
  refine key_tree hA hr2 rfl F I1 (I.fpOk (Nat.le_succ _) (I.hok.fresh (Nat.le_succ _))) hz rv (copyHeap_at s.heap its) ask hval hne fun s' H' ys sm hn J hp hso => ⟨rfl, ?_⟩
  exact ⟨.ref _, _, J, rfl, q ys _ H' sm hn hp hso⟩
theorem cr_sortKD (hc : X.calm = true) (F : FnR X.prog X.w X.K X.mg X.base CX0 k f sp) (hr : Room j X.A) (hk : k + 2 ≤ j) : CallRK X (.builtin "sorted") [Str.ofString "key"] (rSortKD f sp) := by
  intro pins s σ H vs zs us ws Q I r rz h
  obtain ⟨d, kvs, rfl, ez, hd, h⟩ := h
  obtain ⟨u, rfl, ru⟩ := r.one
  cases ru
  rw [kw_key rz ez]
  obtain ⟨z, hs, ks, pr, o, es, ep, ho, hx, hdt, he, hn⟩ := (show ObjOk X.prog X.w H s.heap d (.dT kvs) from I.hok d _ hd)
  have l1 : es.size = ks.length := by
    have := congrArg List.length he
    rw [Array.length_toList, List.length_map] at this
    exact this
  have l2 : kvs.length = ks.length := Paired.length pr
  have hr2 : Room k X.A.in1.in1 := (Room.in1 (Room.in1 (hr.mono hk)))
  have hA : X.A.in1.in1.units < cLine := by have := hr2.un; omega
  obtain ⟨ask, hval, hne, q⟩ := h (ks.map fun x => x.2.1) (isKeys_of pr)
  refine call_function_entry_kw kind_sorted plain_sorted entry_sorted (ksk_s1 _ _) ?_
  unfold Builtin.«sorted»
  refine wpAny_bind (m := checkCount "sorted" 1 1 _) (wpAny_pure ?_)
  refine wpAny_bind (kdu_collect (A := X.A.in1) (KdlSrc.rawDict hs) (I.ok.hd hc) (⟨o, ho, hx, hdt⟩ : s.heap.DictRaw d es ep) (by omega) fun h' tk acc hkeep hacc => ?_)
  have ea : acc.toList = (ks.map fun x => x.2.1).map Value.ref := by
    apply List.ext_getElem?
    intro i
    rw [List.map_map, List.getElem?_map]
    have hal : acc.toList.length = ks.length := by rw [Array.length_toList, hacc.1]; exact l1
    cases hj : acc.toList[i]? with
    | none =>
      have h1 := List.getElem?_eq_none_iff.mp hj
      rw [List.getElem?_eq_none (by omega)]
      rfl
    | some v =>
      obtain ⟨hi, hv⟩ := hacc.2 i v (by rw [← Array.getElem?_toList]; exact hj)
      have hik : i < ks.length := by omega
      have e1 : es.toList[i]? = (ks.map (entryOfKey (tupleKind (mixKind X.prog X.w))))[i]? := by rw [he]
      rw [List.getElem?_map, List.getElem?_eq_getElem hik, Array.getElem?_toList, Array.getElem?_eq_getElem hi] at e1
      have e2 : es[i] = entryOfKey (tupleKind (mixKind X.prog X.w)) ks[i] := Option.some.inj e1
      rw [List.getElem?_eq_getElem hik, hv, e2]
      rfl
  have I1 : Inv X pins σ H { s with heap := h', toks := tk } := I.kept hkeep
  have hlen : acc.toList.length ≤ sizeLine := by rw [ea, List.length_map, List.length_map]; omega
  have rv : Vals ((ks.map fun x => x.2.1).map V.ref) acc.toList := by rw [ea]; exact vals_refs _
  refine wpAny_bind (wpAny_newList ?_ hlen)
  have hoL : (h'.push (seqObj "list" acc.toList.toArray 0)).get? h'.objs.size = some (seqObj "list" acc.toList.toArray 0) := Heap.get?_push_size _ rfl
  show wpAny _ _ _ _ _ { s with heap := h'.push (seqObj "list" acc.toList.toArray 0), toks := tk }
  have I2 : Inv X pins σ H { s with heap := h'.push (seqObj "list" acc.toList.toArray 0), toks := tk } := I1.kept (t' := tk) fun b o e => Heap.get?_push_of_some _ e
  refine wpAny_bind (wpAny_holding (wpAny_call_entry_kw slot_list_sort ⟨_, hoL, rfl⟩ entry_list_sort ?_ (ksk_l1 _ _)))
  show wpAny (model X.prog X.w) X.A.in1.in1 (Builtin.«list.sort» ⟨[.ref h'.objs.size], [(Str.ofString "key", Value.ref f)]⟩) _ _ _
  rw [ksk_t1]
  refine key_tree (xs := (ks.map fun x => x.2.1).map V.ref) hA hr2 rfl F I2 (I1.fpOk (Nat.le_refl _) (I1.hok.fresh (Nat.le_refl _))) (by rw [List.length_map, List.length_map]; omega) rv hoL ?_ ?_ ?_ fun s' H' ys sm hn' J hp hso => ⟨_, rfl, wpAny_pure ⟨_, rfl, .ref _, _, J, rfl, q ys _ H' sm hn' hp hso⟩⟩
  · intro x hx
    obtain ⟨b, hb, rfl⟩ := List.mem_map.mp hx
    exact ask b hb
  · intro x hx
    obtain ⟨b, hb, rfl⟩ := List.mem_map.mp hx
    exact hval b hb
  · intro h2 x hx
    obtain ⟨b, hb, rfl⟩ := List.mem_map.mp hx
    exact hne (by rw [List.length_map] at h2; exact h2) b hb
end
end Tk

/-! ## TkDict -/
set_option Elab.async false
set_option linter.all false
set_option maxRecDepth 100000
set_option maxHeartbeats 1000000
namespace Tk
open PySem PySem.Spec PyProof.Rows L2

section
variable {prog : Program} {w : World} {K : Type} [DecidableEq K] {knd : KeyKind prog w K} {A : Around} {E : Value → Shared → Prop} {s : Shared}

theorem wp_dictPut {d : Addr} {kvs : List (K × Value)} {k : K} {key v : Value} {Q : Unit → Shared → Prop} (hkey : knd.is k key = true) (hm : s.heap.DictOf knd d kvs)
    (hQ : ∀ h', h'.DictOf knd d (stored kvs k v) → Heap.SameBut d s.heap h' → Q () { s with heap := h' })
    (hsz : kvs.length ≤ sizeLine) :
    wpAny (model prog w) A (dictPut d (knd.hash k) key v) Q E s := by
  obtain ⟨o, es, ep, ho, hc, hd, hk, hp, hn⟩ := hm
  have hes : es.size ≤ sizeLine := by
    have e1 := hp.length
    have e2 : es.toList.length = es.size := by simp
    omega
  unfold dictPut
  refine wpAny_bind (wpAny_dictFind_of hkey ho hd hk ?_)
  have hidx : (es.findIdx? fun e => knd.is k e.key) = kvs.findIdx? fun kv => decide (kv.1 = k) := by
    rw [← hp.findIdx k]; obtain ⟨l⟩ := es; simp
  cases hi : es.findIdx? fun e => knd.is k e.key with
  | some i =>
    refine wpAny_updateDict ho hd (hQ _ ⟨_, _, ep, Heap.get?_update_self _ ho (Obj.isFreed_of_dict (Obj.data_mapDict hd _)),
      hc.mapDict _, Obj.data_mapDict hd _, hk.modify _ _, ?_, ?_⟩ (Heap.SameBut.update ..))
    · have hl : (es.toList.findIdx? fun e => knd.is k e.key) = some i := by rw [← hi]; obtain ⟨l⟩ := es; simp
      have z := hp.modify hn hl v
      rw [stored, if_pos (any_of_findIdx_some (hidx ▸ hi))]
      obtain ⟨l⟩ := es
      simpa using z
    · rw [stored, if_pos (any_of_findIdx_some (hidx ▸ hi)), keys_map_store]; exact hn
  | none =>
    have hnot : k ∉ kvs.map (·.1) := not_mem_of_findIdx_none (hidx ▸ hi)
    have hany : ¬ (kvs.any fun kv => decide (kv.1 = k)) = true := by
      rw [List.any_eq_true]
      rintro ⟨kv, hkv, he⟩
      exact hnot (List.mem_map.mpr ⟨kv, hkv, of_decide_eq_true he⟩)
    refine wpAny_updateDictKeys (hz := hes) ho hd (hQ _ ⟨_, _, ep + 1, Heap.get?_update_self _ ho (Obj.isFreed_of_dict (Obj.data_mapDictKeys hd _)),
      hc.mapDictKeys _, Obj.data_mapDictKeys hd _, hk.push hkey _, ?_, ?_⟩ (Heap.SameBut.update ..))
    · rw [stored, if_neg hany]
      have z := hp.append hkey (knd.hash k) v
      obtain ⟨l⟩ := es
      simpa using z
    · rw [stored, if_neg hany, List.map_append, List.nodup_append]
      refine ⟨hn, by simp, ?_⟩
      intro a ha b hb
      simp only [List.map_cons, List.map_nil, List.mem_singleton] at hb
      subst hb
      exact fun e => hnot (e ▸ ha)

theorem wp_mergeMap {d o : Addr} {kvs more : List (K × Value)} {Q : Unit → Shared → Prop} (hdo : d ≠ o) (hoS : (o == sysModules) = false)
    (hval : ∀ k v, knd.is k v = true → ∀ a, v ≠ .ref a)
    (hd : s.heap.DictOf knd d kvs) (ho : s.heap.DictOf knd o more)
    (hQ : ∀ h', h'.DictOf knd d (merged kvs more) → Heap.SameBut d s.heap h' → Q () { s with heap := h' })
    (hsz : kvs.length + more.length ≤ sizeLine) :
    wpAny (model prog w) A (mergeMapping d (.ref o) false) Q E s := by
  obtain ⟨od, esd, epd, hod, hcd, hdd, hkd, hpd, hnd⟩ := id hd
  obtain ⟨oo, eso, epo, hoo, hco, hdo', hko, hpo, hno⟩ := id ho
  have hlen : more.length = eso.size := by rw [← hpo.length]; simp
  unfold mergeMapping
  refine wpAny_bind (wpAny_isInstance ho.typeIs isSubtype_dict_dict ?_)
  simp only [if_true]
  refine wpAny_bind (wpAny_specialOf ho.typeIs PySem.F.slot_dict_iter.lookup (wpAny_bind (wpAny_pure ?_)))
  simp only [beq_self_eq_true]
  have loop : wpAny (model prog w) A (do
      let size := (← dictEntries o).size
      let epoch ← dictEpoch o
      forIn (List.range size) PUnit.unit fun i (_ : PUnit) => (do
          let l' ← dictEntries o
          match l'[i]? with
            | some e => do
              holding [e.key, e.val] (dictPut d e.hash e.key e.val)
              let ep' ← dictEpoch o
              if (ep' != epoch) = true then do
                  (unsupported "dict.changed-during-merge" : Sem PUnit)
                  pure (ForInStep.yield PUnit.unit)
                else pure (ForInStep.yield PUnit.unit)
            | _ => do
              (unsupported "dict.changed-during-merge" : Sem PUnit)
              pure (ForInStep.yield PUnit.unit) : Sem (ForInStep PUnit))
      pure ()) Q E s := by
    refine wpAny_bind (wpAny_dictEntries hoo hdo' ?_)
    refine wpAny_bind (wpAny_dictEpoch hoo hdo' ?_)
    refine wpAny_bind ?_
    rw [List.range_eq_range']
    refine wpAny_forIn_list _
      (fun rest _ s' => ∃ h' i, s' = { s with heap := h' } ∧ rest = List.range' i (eso.size - i) ∧ i ≤ eso.size ∧ h'.DictOf knd d (merged kvs (more.take i)) ∧ h'.get? o = some oo ∧ Heap.SameBut d s.heap h')
      _ ?_ ?_ _ _ ⟨s.heap, 0, rfl, by simp, Nat.zero_le _, by simpa [merged] using hd, hoo, Heap.SameBut.refl _ _⟩
    · rintro x rest b s' ⟨h', i, rfl, hr, hi, hd', hoo', hs'⟩
      have hlt : i < eso.size := by
        rcases Nat.lt_or_ge i eso.size with h | h
        · exact h
        · rw [Nat.sub_eq_zero_of_le h] at hr; simp at hr
      obtain ⟨rfl, hrest⟩ : x = i ∧ rest = List.range' (i + 1) (eso.size - (i + 1)) := by
        have e : eso.size - i = (eso.size - (i + 1)) + 1 := by omega
        rw [e, List.range'_succ] at hr
        injection hr with h1 h2
        exact ⟨h1, h2⟩
      refine wpAny_bind (wpAny_dictEntries hoo' hdo' ?_)
      rw [Array.getElem?_eq_getElem hlt]
      obtain ⟨kv, hkv⟩ : ∃ kv, more[x]? = some kv := ⟨more[x]'(by rw [hlen]; exact hlt), List.getElem?_eq_getElem _⟩
      obtain ⟨k, v⟩ := kv
      obtain ⟨hkey, hval⟩ := hpo.get? (e := eso[x]) (by simp [hlt]) hkv
      obtain ⟨k', hkey', hhash⟩ := hko eso[x] (Array.getElem_mem hlt)
      obtain rfl : k' = k := knd.inj _ _ _ hkey' hkey
      show wpAny _ _ (holding [eso[x].key, eso[x].val] (dictPut d eso[x].hash eso[x].key eso[x].val) >>= _) _ _ _
      rw [hhash, hval]
      have hmx : (merged kvs (more.take x)).length ≤ sizeLine := by
        have e1 := merged_length_le kvs (more.take x)
        have e2 : (more.take x).length ≤ more.length := by rw [List.length_take]; omega
        omega
      refine wpAny_bind (wpAny_holding (wp_dictPut (hsz := hmx) hkey hd' fun h'' hd'' hs'' => ?_))
      have hoo'' : h''.get? o = some oo := (hs''.2 o (Ne.symm hdo)).trans hoo'
      refine wpAny_bind (wpAny_dictEpoch hoo'' hdo' ?_)
      rw [if_neg (by simp)]
      exact wpAny_pure ⟨h'', x + 1, rfl, hrest, hlt, by rw [merged_take_succ kvs more x (k', v) hkv]; exact hd'', hoo'', hs'.trans hs''⟩
    · rintro b s' ⟨h', i, rfl, hr, hi, hd', hoo', hs'⟩
      have hin : i = eso.size := by
        rcases Nat.lt_or_ge i eso.size with h | h
        · have e : eso.size - i = (eso.size - (i + 1)) + 1 := by omega
          rw [e, List.range'_succ] at hr; exact nomatch hr
        · exact Nat.le_antisymm hi h
      refine wpAny_pure (hQ h' ?_ hs')
      rw [hin, ← hlen, List.take_length] at hd'; exact hd'
  rw [if_neg (by rw [hoS]; exact Bool.false_ne_true)]
  refine wpAny_bind (wpAny_dictEntries hod hdd ?_)
  refine wpAny_ite ?_
  split
  · refine wpAny_bind (wpAny_dictEntries hoo hdo' ?_)
    refine wpAny_bind ?_
    obtain ⟨eso⟩ := eso
    refine (congrArg (fun m => wpAny (model prog w) A m _ E s) (Array.forIn_toList (xs := ⟨eso⟩))).mp ?_
    refine wpAny_forIn_list _ (fun rest _ s' => s = s' ∧ ∀ e ∈ rest, ∀ a, e.key ≠ .ref a) _ ?_ ?_ _ _ ⟨rfl, fun e he a q => ?_⟩
    · rintro e rest b s' ⟨rfl, hr⟩
      have nk := hr e List.mem_cons_self
      have hr' : ∀ x ∈ rest, ∀ a, x.key ≠ .ref a := fun x hx => hr x (List.mem_cons_of_mem _ hx)
      obtain ⟨hh, kk, vv⟩ := e
      cases kk with
      | ref a => exact absurd rfl (nk a)
      | _ => exact wpAny_pure ⟨rfl, hr'⟩
    · rintro b s' ⟨rfl, _⟩
      exact loop
    · obtain ⟨k, hk, _⟩ := hko e (by simpa using he)
      exact hval k _ hk a q
  · exact loop
end
end Tk

/-! ## TkStar -/
set_option Elab.async false
set_option linter.all false
set_option maxRecDepth 100000
set_option maxHeartbeats 1000000
namespace Tk
open PySem PySem.Spec PyProof.Rows L2

def tStar (tw tk tv : TE) : TE := fun σ H Q => ∀ p, H p = none → tw σ (upd H p (.dK [])) fun x H1 => ∃ a w, x = .ref a ∧ H1 a = some (.dK w) ∧ H1 p = some (.dK []) ∧ a ≠ p ∧
  ∀ q, (upd H1 p (.dK w)) q = none → tk σ (upd (upd H1 p (.dK w)) q (.dK [])) fun y H2 => tv σ H2 fun z H3 => ∃ k, y = kV k ∧ H3 q = some (.dK []) ∧ H3 p = some (.dK w) ∧ w.length < sizeLine ∧
    Q (.ref p) (upd (upd H3 q (.dK [(k, z)])) p (.dK (putK w k z)))
theorem mix_noref {P : Program} {w : World} : ∀ (k : Key) (v : Value), (mixKind P w).is k v = true → ∀ a, v ≠ .ref a := fun k v h a e => by
  rcases keyIs_shape h with ⟨i, t, _, q⟩ | ⟨x, t, _, q⟩ <;> rw [e] at q <;> exact nomatch q

section
variable {X : Cx} {pins : List (Addr × Obj)} {σ : L2.St} {H : Hp} {s : Shared} {A : Around} {E : Value → Shared → Prop}
theorem star_merge {p a : Addr} {u w : List (Key × V)} {Q : Unit → Shared → Prop} (I : Inv X pins σ H s) (hp : H p = some (.dK u)) (ha : H a = some (.dK w)) (hne : p ≠ a) (hz : u.length + w.length ≤ sizeLine)
    (h : ∀ s' vs rs, s.heap.DictOf (mixKind X.prog X.w) p vs → s.heap.DictOf (mixKind X.prog X.w) a rs → KV u vs → KV w rs →
      (∀ z : List (Key × V), KV z (merged vs rs) → z.length ≤ sizeLine → Inv X pins σ (upd H p (.dK z)) s') → Q () s') : wpAny (model X.prog X.w) A (mergeMapping p (.ref a) false) Q E s := by
  obtain ⟨z1, hd1, vs, rel1, dd1⟩ := dk_of I.hok hp
  obtain ⟨z2, hd2, rs, rel2, dd2⟩ := dk_of I.hok ha
  refine wp_mergeMap hne hd2 mix_noref dd1 dd2 (fun h' dd' hs => h _ vs rs dd1 dd2 rel1 rel2 fun z rz hz' => ?_) (by rw [← rel1.length, ← rel2.length]; exact hz)
  have he : ∃ q, h'.get? p = some q := let ⟨q, _, _, hq, _⟩ := dd'; ⟨q, hq⟩
  exact d_write (t' := s.toks) I (by rw [hp]; exact True.intro) hs he (dk_new hz' hd1 rz dd')
end
section
variable {X : Cx}
theorem pe_dstar {way k v : Expr} {pos : Pos} {tw tk tv : TE} (hw : PE X way tw) (hk : PE X k tk) (hv : PE X v tv) : PE X (.Dict [none, some k] [way, v] pos) (tStar tw tk tv) := by
  refine ⟨fun pins s σ H Q I h => ?_⟩
  rw [arm_eval_Dict]
  refine wpAny_bind (wpAny_standAt ?_)
  show wpAny _ _ (dictDisplay [(none, do let x ← eval way X.env; standAt pos; pure x), (some (eval k X.env), do let x ← eval v X.env; standAt pos; pure x)]) _ _ s
  unfold dictDisplay
  dsimp only
  refine wpAny_bind ?_
  rw [List.forIn_cons]
  refine wpAny_bind ?_
  dsimp only
  refine wpAny_bind (wpAny_ite ?_)
  rw [if_pos (by rfl)]
  refine wpAny_pure ?_
  dsimp only
  refine wpAny_bind (wpAny_alloc ?_)
  have hpn := I.hok.fresh (Nat.le_refl s.heap.objs.size)
  have I1 := I.laid (a := s.heap.objs.size) (o := .dK []) (t' := s.toks) (fun _ _ q => Heap.get?_push_of_some _ q) (Nat.le_refl _) (dk_empty s.heap I.big)
  have h1 := h _ hpn
  generalize s.heap.objs.size = p at hpn I1 h1 ⊢
  refine wpAny_bind (wpAny_holding ?_)
  refine wpAny_bind (thn (hw.run pins _ σ _ _ I1 h1) fun u s2 ⟨x, H1, I2, rx, a, w, ex, ha, hp, hap, q1⟩ => ?_)
  subst ex
  obtain rfl : u = Value.ref a := rx
  refine wpAny_bind (wpAny_standAt (wpAny_pure ?_))
  refine wpAny_bind (wpAny_onRaise (wpAny_tryCatch (wpAny_onRaise (wpAny_holding ?_))))
  have zw : w.length ≤ sizeLine := (dk_of I2.hok ha).1
  refine star_merge I2 hp ha (Ne.symm hap) (by simpa using zw) fun s3 vs rs dv dr rv rr put => ?_
  have ev : vs = [] := by cases rv; rfl
  subst ev
  have I3 := put w (by rw [merged_nil_of_nodup rs (by obtain ⟨_, _, _, _, _, _, _, _, n⟩ := dr; exact n)]; exact rr) zw
  refine wpAny_pure ?_
  dsimp only
  rw [List.forIn_cons]
  refine wpAny_bind ?_
  dsimp only
  refine wpAny_ite ?_
  rw [if_neg (by simp)]
  refine wpAny_pure ?_
  dsimp only
  rw [List.forIn_nil]
  refine wpAny_pure ?_
  dsimp only
  refine wpAny_bind (wpAny_ite ?_)
  rw [if_neg (by simp)]
  refine wpAny_bind (wpAny_holding ?_)
  refine wpAny_subDict (knd := mixKind X.prog X.w) (by simp) ?_
  have hqn := I3.hok.fresh (Nat.le_refl s3.heap.objs.size)
  have I4 := I3.laid (a := s3.heap.objs.size) (o := .dK []) (t' := s3.toks) (fun _ _ q => Heap.get?_push_of_some _ q) (Nat.le_refl _) (dk_empty s3.heap I3.big)
  have h4 := q1 _ hqn
  generalize s3.heap.objs.size = q at hqn I4 h4 ⊢
  have hpq : p ≠ q := fun e => by rw [← e, upd_same] at hqn; cases hqn
  refine evalPairs_cons ?_
  refine thn (hk.run pins _ σ _ _ I4 h4) fun uk s5 ⟨y, H2, I5, ry, q5⟩ => ?_
  refine wpAny_bind (thn (hv.run pins _ σ _ _ I5 q5) fun uv s6 ⟨z, H3, I6, rz, k, ey, hq6, hp6, zl, q6⟩ => ?_)
  subst ey
  refine wpAny_bind (wpAny_standAt (wpAny_pure (evalPairs_nil ?_)))
  obtain ⟨zq, hdq, vq, relq, ddq⟩ := dk_of I6.hok hq6
  have evq : vq = [] := by cases relq; rfl
  subst evq
  refine ⟨[(k, uv)], ⟨kV_is ry, rfl, True.intro⟩, ddq, fun h' dd' hs => ?_⟩
  have he : ∃ o, h'.get? q = some o := let ⟨o, _, _, ho, _⟩ := dd'; ⟨o, ho⟩
  have kv1 : KV [(k, z)] [(k, uv)] := .cons ⟨rfl, rz⟩ .nil
  have I7 := d_write (t' := s6.toks + [(uk, uv)].length) I6 (by rw [hq6]; exact True.intro) hs he (dk_new (Nat.le_of_lt (by rw [sizeLine_eq]; simp)) hdq kv1 dd')
  refine wpAny_bind (wpAny_onRaise (wpAny_holding ?_))
  refine star_merge I7 (p := p) (a := q) (u := w) (w := [(k, z)]) (by rw [upd_ne hpq]; exact hp6) upd_same hpq (by simp; omega) fun s8 vs rs dv dr rv rr put => ?_
  refine wpAny_pure (wpAny_pure ?_)
  refine ⟨.ref p, _, put (putK w k z) ?_ ?_, rfl, q6⟩
  · cases rr with
    | cons r0 r1 =>
      cases r1
      rename_i q0
      obtain ⟨k0, v0⟩ := q0
      obtain ⟨e0, e1⟩ := r0
      have e0' : k = k0 := e0
      subst e0'
      exact rv.put _ e1
  · have e := length_putK w k z
    omega
end
end Tk

/-! ## TkDcT -/
set_option Elab.async false
set_option linter.all false
set_option maxRecDepth 100000
set_option maxHeartbeats 4000000
namespace Tk
open PySem PySem.Spec PyProof.Rows L2

/-- a key that is a tuple, put by a comprehension -/
theorem dT_dictSet {X : Cx} {pins : List (Addr × Obj)} {σ : L2.St} {H : Hp} {s : Shared} {E : Value → Shared → Prop} {D b : Addr} {kvs : List (List Key × V)} {k : List Key} {v : V} {r : Value} {Q : Unit → Shared → Prop}
    (hu : X.A.units + 1 < cLine) (I : Inv X pins σ H s) (e : H D = some (.dT kvs)) (eb : H b = some (.tup (k.map kV))) (hz : kvs.length < sizeLine) (rv : RelV v r)
    (h : ∀ s', Inv X pins σ (upd H D (.dT (putK kvs k v))) s' → Q () s') : wpAny (model X.prog X.w) X.A (dictSet D (.ref b) r) Q E s := by
  obtain ⟨z, hd, xs, rel, dd⟩ := dt_of I.hok e
  have l1 : xs.length ≤ sizeLine := by rw [← Paired.length rel]; exact z
  have l2 : (putK kvs k v).length ≤ sizeLine := by have := length_putK kvs k v; omega
  refine wpAny_dictSet_heap (hsz := l1) (knd := tupleKind (mixKind X.prog X.w)) (show (tupleKind (mixKind X.prog X.w)).room X.A from by have h0 := hu; show X.A.units < cLine; omega) (key_of I.hok eb) dd fun h' dd' hs => h _ ?_
  obtain ⟨q, es, ep, hq, h2, h3, h4, _, h5⟩ := dd'
  refine d_write I (by rw [e]; exact True.intro) hs ⟨q, hq⟩ ⟨l2, hd, _, (rel.put k eb rv).keeps fun c ys ec => ?_, q, es, ep, hq, h2, h3, h4, h5⟩
  rw [upd_ne (ne_of ec e (fun z => nomatch z))]
  exact ec
section
variable {X : Cx}
/-- {k: v for target in iter if ..}, keys tuples: D the new dict -/
def tDcT (wi : TI) (g : TG) (tt : TT) (tk tv : TE) (vs : List Nat) : TE := fun σ H Q => wi σ H fun J H1 => ∀ D, H1 D = none → ∃ W : Nat → Nat → Hp → Prop, (∃ m, W 0 m (upd H1 D (.dT []))) ∧ ∀ i m H, W i m H →
  (J.stop i H ∧ Q (.ref D) H) ∨ (J.go i H ∧ ∃ Nx : Hp → Prop, (∀ H', Nx H' → ∃ m', m' < m ∧ W (i + 1) m' H') ∧ ∀ x H', J.yld i H x H' → g x (wipe σ vs) H' fun σ2 H2 => wipe σ2 vs = wipe σ vs ∧ tt σ2 H2 fun b H3 =>
    if b = true then tk σ2 H3 fun y H4 => tv σ2 H4 fun z H5 => ∃ kvs k b, y = .ref b ∧ H5 b = some (.tup (k.map kV)) ∧ H5 D = some (.dT kvs) ∧ kvs.length < sizeLine ∧ Nx (upd H5 D (.dT (putK kvs k z))) else Nx H3)
theorem dcT_core {pins : List (Addr × Obj)} {s : Shared} {σ : L2.St} {H : Hp} {Q : VK} {kx vx tg iter : Expr} {ifs : List Expr} {scope : Scope} {own : List (Str × Nat)} {pos pos' : Pos} {wi : TI} {g : TG} {tt : TT} {tk tv : TE} {use : Option (Value → Sem Unit)} {Qf : Value → Shared → Prop}
    (hu : X.A.units + 1 < cLine) (hc : X.calm = true) (hN : X.N.Nodup) (I : Inv X pins σ H s) (hi : PI X tg iter wi) (ok : BlkOk X.N X.env.scope scope own)
    (hg : ∀ (s : Shared) (H : Hp) (C : Addr) (cl : List (Str × Addr)) (fp : List Addr), PG (X.blk s H scope (compEnvC scope cl C X.env) fp) tg g) (ht : ∀ (s : Shared) (H : Hp) (C : Addr) (cl : List (Str × Addr)) (fp : List Addr), PTs (X.blk s H scope (compEnvC scope cl C X.env) fp) ifs tt)
    (hk : ∀ (s : Shared) (H : Hp) (C : Addr) (cl : List (Str × Addr)) (fp : List Addr), PE (X.blk s H scope (compEnvC scope cl C X.env) fp) kx tk)
    (he : ∀ (s : Shared) (H : Hp) (C : Addr) (cl : List (Str × Addr)) (fp : List Addr), PE (X.blk s H scope (compEnvC scope cl C X.env) fp) vx tv) (hs : ∀ x, foldedSetIterable iter X.env x = pure x)
    (h : tDcT wi g tt tk tv (own.map (·.2)) σ H Q)
    (hRR : ∀ D C s' m H', Inv X pins σ H' s' → Q (.ref D) H' → s'.heap.Ns C m → FpOk X pins H' C → compPost (model X.prog X.w) X.A X.xe use Qf (.ref D) C (.ok .next) s') :
    wpAny (model X.prog X.w) X.A (comprehension (.DictComp kx vx [⟨tg, iter, ifs, 0⟩] scope pos) scope X.env pos' newDict false (eval iter X.env) use) Qf X.xe s := by
  have hfree : ∀ y ∈ scope.names, y.2 = .free → ∃ c, X.env.cells.lookup y.1 = some c := fun y hy e => by
    rcases ok.free y hy e with k | k
    · exact I.ok.has _ (.inl k)
    · exact I.ok.has _ (.inr k)
  refine wpAny_comprehension_free (use := use) rfl hs (closure_ok hfree) ok.kind (fun y hy e => by rw [ok.uniq y hy, e])
    (thn (hi.run pins s σ H _ I h) fun xv s1 hx => thn hx fun itv s2 h2 => ?_)
  obtain ⟨it, fp, tn, J, H2, e, I2, T, st2, f2, q⟩ := h2
  subst e
  refine wpAny_newObj_type (newEnv_comp ?_)
  generalize hD : s2.heap.objs.size = D
  have hDn : H2 D = none := I2.hok.fresh (Nat.le_of_eq hD)
  obtain ⟨W, ⟨m0, w0⟩, turn⟩ := q D hDn
  -- the new list
  generalize hs3 : ({ s2 with heap := s2.heap.push { cls := .type "dict", data := .dict #[] } } : Shared) = s3
  have I3 : Inv X pins σ (upd H2 D (.dT [])) s3 := by
    rw [← hs3]
    refine I2.laid (t' := s2.toks) (fun b o e => Heap.get?_push_of_some _ e) (Nat.le_of_eq hD) ?_
    rw [← hD]
    exact dt_empty s2.heap I2.big
  have h3 : s3.heap = s2.heap.push { cls := .type "dict", data := .dict #[] } := by rw [← hs3]
  have sz : ∀ b ∈ fp, b < s2.heap.objs.size := fun b hb => by
    obtain ⟨o, e, _⟩ := T.obj _ _ st2 b hb
    exact Heap.lt_size e
  have f3 : ∀ b ∈ fp, FpOk X pins (upd H2 D (.dT [])) b ∧ b < s3.heap.objs.size := fun b hb => by
    have hlt := sz b hb
    refine ⟨⟨?_, (f2 b hb).2⟩, by rw [h3, Heap.size_push]; exact Nat.lt_succ_of_lt hlt⟩
    rw [upd_ne (by rw [← hD]; exact Nat.ne_of_lt hlt)]
    exact (f2 b hb).1
  have st3 : tn 0 s3.heap := T.keep _ _ _ st2 fun b _ o e => by rw [h3]; exact Heap.get?_push_of_some _ e
  have I4 := block_start I3 ok hN f3
  have pg := hg s3 (upd H2 D (.dT [])) s3.heap.objs.size (cellsFrom (s3.heap.objs.size + 1) scope.names (cloFrom X.env.cells scope.names [])) fp
  have pt := ht s3 (upd H2 D (.dT [])) s3.heap.objs.size (cellsFrom (s3.heap.objs.size + 1) scope.names (cloFrom X.env.cells scope.names [])) fp
  have pk := hk s3 (upd H2 D (.dT [])) s3.heap.objs.size (cellsFrom (s3.heap.objs.size + 1) scope.names (cloFrom X.env.cells scope.names [])) fp
  have pe := he s3 (upd H2 D (.dT [])) s3.heap.objs.size (cellsFrom (s3.heap.objs.size + 1) scope.names (cloFrom X.env.cells scope.names [])) fp
  show codeAny _ _ (.compStart (.DictComp kx vx [⟨tg, iter, ifs, 0⟩] scope pos) 0 (.ref it) (.ref D) (compEnvC scope (cellsFrom (s3.heap.objs.size + 1) scope.names (cloFrom X.env.cells scope.names [])) s3.heap.objs.size X.env)) (compPost (model X.prog X.w) X.A X.xe use Qf (.ref D) s3.heap.objs.size) { s3 with heap := pushCells (s3.heap.push { cls := .type "dict", data := .dict #[] }) scope.names }
  have nfp : ∀ b ∈ fp, (upd H2 D (.dT [])) b = none := fun b hb => (f3 b hb).1.1
  generalize hce : compEnvC scope (cellsFrom (s3.heap.objs.size + 1) scope.names (cloFrom X.env.cells scope.names [])) s3.heap.objs.size X.env = ce at I4 pg pt pk pe ⊢
  have cL : ce.locals = s3.heap.objs.size := by subst hce; rfl
  generalize hH3 : upd H2 D (.dT []) = H3 at I3 I4 pg pt pk pe w0 nfp f3
  generalize hs4 : ({ s3 with heap := pushCells (s3.heap.push { cls := .type "dict", data := .dict #[] }) scope.names } : Shared) = s4 at I4 ⊢
  have st4 : tn 0 s4.heap := T.keep _ _ _ st3 fun b _ o e => by rw [← hs4]; exact pushCells_keeps _ _ _ _ (Heap.get?_push_of_some _ e)
  have stat : ∀ {σ' : L2.St} {H' : Hp} {s' : Shared}, Inv (X.blk s3 H3 scope ce fp) [] σ' H' s' → (∀ b ∈ fp, H' b = none) → ∀ b ∈ fp, FpOk (X.blk s3 H3 scope ce fp) [] H' b := fun {σ' H' s'} I' hn b hb =>
    ⟨hn b hb, (I'.ok.exf b hb).1, I'.ok.exfs b hb, .inl hb, fun x c e => (I'.ok.exf b hb).2 x c e, fun p hp => absurd (show p ∈ ([] : List (Addr × Obj)) ++ [] from hp) (by simp)⟩
  have loop : codeAny (model X.prog X.w) X.A (.compLoop (.DictComp kx vx [⟨tg, iter, ifs, 0⟩] scope pos) 0 (.ref it) (.ref D) ce) (compPost (model X.prog X.w) X.A X.xe use Qf (.ref D) s3.heap.objs.size) s4 := by
    refine compLoop_anyD (fun n s' => ∃ i H', Inv (X.blk s3 H3 scope ce fp) [] (wipe σ (own.map (·.2))) H' s' ∧ tn i s'.heap ∧ (∀ b ∈ fp, H' b = none) ∧ W i n H') ?_ m0 ⟨0, H3, I4, st4, nfp, w0⟩
    rintro n s5 ⟨i, H5, I5, st5, n5, w5⟩
    rcases turn i n H5 w5 with ⟨stop, qq⟩ | ⟨go, Nx, hNx, step⟩
    · have td := T.done (X.blk s3 H3 scope ce fp) rfl rfl rfl hc i [] s5 _ H5 (fun _ _ => False) I5 (stat I5 n5) st5 stop
      refine thnF td fun r s6 ⟨hr, I6⟩ => ?_
      subst hr
      -- back in the def's context
      have I7 : Inv X pins σ H5 s6 := I3.call' (ch := fp) I6.os I6.base I6.hok I6.bare fun b hb => ⟨(f3 b hb).1.2.2.2.1, (f3 b hb).1.2.1, (f3 b hb).1.2.2.2.2.1, (f3 b hb).1.2.2.2.2.2⟩
      have nC : H5 s3.heap.objs.size = none := by
        have z : H5 ce.locals = none := I6.free
        rw [cL] at z
        exact z
      obtain ⟨m, hn, _⟩ := I6.loc
      have hn : s6.heap.Ns ce.locals m := hn
      rw [cL] at hn
      exact hRR D s3.heap.objs.size s6 m H5 I7 qq hn (I3.fpOk (Nat.le_refl _) nC)
    · have ti := T.item (X.blk s3 H3 scope ce fp) rfl rfl rfl hc i [] s5 _ H5 (fun _ _ => False) I5 (stat I5 n5) st5 go
      refine thnF ti fun r s6 ⟨u, hr, h6⟩ => ?_
      subst hr
      refine thnF h6 fun _ s7 ⟨x, H7, I7, r7, y7, st7, n7⟩ => ?_
      have I7' := I7.pinned (stat I7 n7) (T.obj _ _ st7)
      refine thnF (pg.run _ s7 _ H7 x u _ I7' r7 (step x H7 y7)) fun _ s8 ⟨σ8, H8, I8, hw8, q8⟩ => ?_
      refine thnF (pt.run _ s8 σ8 H8 _ I8 q8) fun b s9 ⟨H9, I9, q9⟩ => ?_
      -- the turn's end
      have fin : ∀ {s' : Shared} {H' : Hp}, Inv (X.blk s3 H3 scope ce fp) ([] ++ pinsAt fp s7.heap) σ8 H' s' → Nx H' → ∃ m, m < n ∧ ∃ i H', Inv (X.blk s3 H3 scope ce fp) [] (wipe σ (own.map (·.2))) H' s' ∧ tn i s'.heap ∧ (∀ b ∈ fp, H' b = none) ∧ W i m H' := fun {s' H'} I' nx => by
        obtain ⟨m', hm, w'⟩ := hNx H' nx
        have pin' : ∀ b ∈ fp, ∀ o, s7.heap.get? b = some o → s'.heap.get? b = some o ∧ H' b = none := fun b hb o e =>
          let z := I'.pin (b, o) (List.mem_append_right _ (List.mem_append_right _ (mem_pinsAt hb e)))
          ⟨z.1, z.2.1⟩
        have hl : (wipe σ (own.map (·.2))).length = σ8.length := by rw [← hw8, wipe_length]
        refine ⟨m', hm, i + 1, H', (I'.unpinned (pins := [])).weak hl (fun j v e => ?_), T.keep _ _ _ st7 fun b hb o e => (pin' b hb o e).1, fun b hb => ?_, w'⟩
        · rw [← hw8] at e
          exact (wipe_some e).1
        · obtain ⟨o, e, _⟩ := T.obj _ _ st7 b hb
          exact (pin' b hb o e).2
      cases b with
      | false =>
        simp only [Bool.false_eq_true, if_false] at q9 ⊢
        exact fin I9 q9
      | true =>
        simp only [if_true] at q9 ⊢
        refine thnF (pk.run _ s9 σ8 H9 _ I9 q9) fun z s10 ⟨yk, H10, I10, r10, q10⟩ => ?_
        refine thnF (pe.run _ s10 σ8 H10 _ I10 q10) fun z2 s11 ⟨yv, H11, I11, r11, kvs, k, b, ek, hb11, hD11, hz11, nx⟩ => ?_
        subst ek
        obtain rfl : z = Value.ref b := r10
        exact dT_dictSet (X := X.blk s3 H3 scope ce fp) hu I11 hD11 hb11 hz11 r11 fun s12 I12 => fin I12 nx
  exact codeAny_compStart_dict loop (T.self X.A 0 _ _ _ st4 loop)
/-- as a value -/
theorem pe_dcT {kx vx tg iter : Expr} {ifs : List Expr} {scope : Scope} {own : List (Str × Nat)} {pos : Pos} {wi : TI} {g : TG} {tt : TT} {tk tv : TE} (hu : X.A.units + 1 < cLine) (hc : X.calm = true) (hN : X.N.Nodup) (hi : PI X tg iter wi) (ok : BlkOk X.N X.env.scope scope own)
    (hg : ∀ (s : Shared) (H : Hp) (C : Addr) (cl : List (Str × Addr)) (fp : List Addr), PG (X.blk s H scope (compEnvC scope cl C X.env) fp) tg g) (ht : ∀ (s : Shared) (H : Hp) (C : Addr) (cl : List (Str × Addr)) (fp : List Addr), PTs (X.blk s H scope (compEnvC scope cl C X.env) fp) ifs tt)
    (hk : ∀ (s : Shared) (H : Hp) (C : Addr) (cl : List (Str × Addr)) (fp : List Addr), PE (X.blk s H scope (compEnvC scope cl C X.env) fp) kx tk)
    (he : ∀ (s : Shared) (H : Hp) (C : Addr) (cl : List (Str × Addr)) (fp : List Addr), PE (X.blk s H scope (compEnvC scope cl C X.env) fp) vx tv) (hs : ∀ x, foldedSetIterable iter X.env x = pure x := by intro _; rfl) :
    PE X (.DictComp kx vx [⟨tg, iter, ifs, 0⟩] scope pos) (tDcT wi g tt tk tv (own.map (·.2))) := by
  refine ⟨fun pins s σ H Q I h => ?_⟩
  rw [arm_eval_DictComp]
  refine dcT_core hu hc hN I hi ok hg ht hk he hs h fun D C s' m H' I' q hn f => ⟨m, hn, fun h'' sb => ?_⟩
  obtain ⟨f0, f1, f2, f3, f4, f5⟩ := f
  exact ⟨.ref D, H', I'.turned (t' := s'.toks) (fun b o hb e => (sb.2 b hb).trans e) f0 f1 f3 f4 f5, rfl, q⟩
/-- name = {..} on one line, the name a local -/
theorem ps_setDcT {i : Nat} {y : Str} {py : Pos} {kx vx tg iter : Expr} {ifs : List Expr} {scope : Scope} {own : List (Str × Nat)} {pos spos : Pos} {wi : TI} {g : TG} {tt : TT} {tk tv : TE} (hu : X.A.units + 1 < cLine) (hc : X.calm = true) (hN : X.N.Nodup) (hy : X.N[i]? = some y)
    (hyl : X.env.scope.names.lookup y = some .local) (hsw : swapsWith (.DictComp kx vx [⟨tg, iter, ifs, 0⟩] scope pos) (some (.Name y py)) spos.line X.env = pure true) (hi : PI X tg iter wi) (ok : BlkOk X.N X.env.scope scope own)
    (hg : ∀ (s : Shared) (H : Hp) (C : Addr) (cl : List (Str × Addr)) (fp : List Addr), PG (X.blk s H scope (compEnvC scope cl C X.env) fp) tg g) (ht : ∀ (s : Shared) (H : Hp) (C : Addr) (cl : List (Str × Addr)) (fp : List Addr), PTs (X.blk s H scope (compEnvC scope cl C X.env) fp) ifs tt)
    (hk : ∀ (s : Shared) (H : Hp) (C : Addr) (cl : List (Str × Addr)) (fp : List Addr), PE (X.blk s H scope (compEnvC scope cl C X.env) fp) kx tk)
    (he : ∀ (s : Shared) (H : Hp) (C : Addr) (cl : List (Str × Addr)) (fp : List Addr), PE (X.blk s H scope (compEnvC scope cl C X.env) fp) vx tv) (hs : ∀ x, foldedSetIterable iter X.env x = pure x := by intro _; rfl) :
    PS X (.Assign [.Name y py] (.DictComp kx vx [⟨tg, iter, ifs, 0⟩] scope pos) spos) (tAsg (tDcT wi g tt tk tv (own.map (·.2))) (gName i)) := by
  refine ⟨fun pins s σ H D I h => ?_⟩
  rw [exec_Assign_Name_used _ _ _ _ hsw]
  refine wpAny_bind (wpAny_standAt (wpAny_bind ?_))
  show wpAny _ X.A (do let _ ← comprehension (.DictComp kx vx [⟨tg, iter, ifs, 0⟩] scope pos) scope X.env (firstIterPos [⟨tg, iter, ifs, 0⟩] pos) newDict false (eval iter X.env) (some (assign (.Name y py) X.env))) _ _ s
  have h : tDcT wi g tt tk tv (own.map (·.2)) σ H (fun x H1 => gName i x σ H1 D.nx) := h
  refine wpAny_bind (thn (dcT_core (Qf := fun _ s' => SP X pins D .next s') hu hc hN I hi ok hg ht hk he hs h fun L C s' m H' I' q hn f => ?_) fun _ s' hq => wpAny_pure (wpAny_pure hq))
  show wpAny _ _ (assign (.Name y py) X.env (.ref L)) _ _ _
  refine wpAny_assign_Name (store_ok2 (v := V.ref L) I' hN hy (.inl hyl) rfl (fun s2 I2 ⟨a, sb, ha⟩ => ?_) (.inr hyl))
  obtain ⟨f0, f1, f2, f3, f4, f5⟩ := f
  have haC : C ≠ a := by
    rcases ha with z | z
    · rw [z]
      exact f1
    · exact fun e => f4 y a z e.symm
  refine ⟨m, hn.sameBut sb haC, fun h3 sb3 => ?_⟩
  exact ⟨_, H', I2.turned (t' := s2.toks) (fun b o hb e => (sb3.2 b hb).trans e) f0 f1 f3 f4 f5, q⟩
theorem swD_true {kx vx : Expr} {gs : List Comprehension} {scope : Scope} {pos py : Pos} {y : Str} {l : Nat} {env : Env} (hk : env.scope.kind = .function) (hy : env.scope.names.lookup y = some .local) (hl : (py.line == pos.line) = true)
    (ha : (scope.names.any fun (n, k) => n == y && (k == .local || k == .cell)) = false) : swapsWith (.DictComp kx vx gs scope pos) (some (.Name y py)) l env = pure true := by
  have ky : env.kindOf y = some .local := hy
  have hb : env.blockKind = .function := by unfold Env.blockKind; rw [hk]; rfl
  unfold swapsWith
  simp only [hb, ky, ha, Expr.pos, hl]
  rfl
end
end Tk

/-! ## TkData -/
set_option Elab.async false
set_option linter.all false
set_option maxRecDepth 100000
set_option maxHeartbeats 1000000
namespace Tk
open PySem PySem.Spec PyProof.Rows L2 PySem.SeqAt

/-- data of a kind: told apart by ==, of depth at most n -/
structure DKind (α : Type) [DecidableEq α] (f : α → PyData) (P : α → Prop) (n : Nat) : Prop where
  eq : ∀ x y, P x → P y → PyData.eqv (f x) (f y) = decide (x = y)
  lay : ∀ x, P x → (f x).canLay0 = true
  dep : ∀ x, P x → (f x).depth ≤ n
section
variable {α : Type} [DecidableEq α] {f : α → PyData} {P : α → Prop} {n : Nat}
theorem DKind.all_eq (k : DKind α f P n) : ∀ (r q : List α), (∀ x ∈ r, P x) → (∀ x ∈ q, P x) → PyData.eqvAll (r.map f) (q.map f) = decide (r = q)
  | [], [], _, _ => by simp [PyData.eqvAll]
  | [], _ :: _, _, _ => by simp [PyData.eqvAll]
  | _ :: _, [], _, _ => by simp [PyData.eqvAll]
  | x :: r, y :: q, h1, h2 => by
    rw [List.map_cons, List.map_cons, PyData.eqvAll, k.eq x y (h1 x (by simp)) (h2 y (by simp)), k.all_eq r q (fun z hz => h1 z (by simp [hz])) (fun z hz => h2 z (by simp [hz]))]
    by_cases e : x = y <;> by_cases e' : r = q <;> simp [e, e']
theorem DKind.all_lay (k : DKind α f P n) : ∀ r : List α, (∀ x ∈ r, P x) → PyData.canLayAll0 (r.map f) = true
  | [], _ => by simp [PyData.canLayAll0]
  | x :: r, h => by
    rw [List.map_cons, PyData.canLayAll0, k.lay x (h x (by simp)), k.all_lay r fun z hz => h z (by simp [hz])]
    rfl
theorem DKind.all_dep (k : DKind α f P n) : ∀ r : List α, (∀ x ∈ r, P x) → PyData.depthAll (r.map f) ≤ n
  | [], _ => by simp [PyData.depthAll]
  | x :: r, h => by
    rw [List.map_cons, PyData.depthAll]
    exact Nat.max_le.mpr ⟨k.dep x (h x (by simp)), k.all_dep r fun z hz => h z (by simp [hz])⟩
theorem DKind.tups (k : DKind α f P n) : DKind (List α) (fun r => .tuple (r.map f)) (fun r => ∀ x ∈ r, P x) (n + 1) where
  eq := fun r q h1 h2 => by
    show PyData.eqv (.tuple (r.map f)) (.tuple (q.map f)) = _
    rw [PyData.eqv, k.all_eq r q h1 h2]
  lay := fun r h => by
    show PyData.canLay0 (.tuple (r.map f)) = true
    rw [PyData.canLay0, k.all_lay r h]
  dep := fun r h => by
    have e := k.all_dep r h
    show PyData.depth (.tuple (r.map f)) ≤ n + 1
    simp only [PyData.depth]
    omega
theorem DKind.lsts (k : DKind α f P n) : DKind (List α) (fun r => .list (r.map f)) (fun r => ∀ x ∈ r, P x) (n + 1) where
  eq := fun r q h1 h2 => by
    show PyData.eqv (.list (r.map f)) (.list (q.map f)) = _
    rw [PyData.eqv, k.all_eq r q h1 h2]
  lay := fun r h => by
    show PyData.canLay0 (.list (r.map f)) = true
    rw [PyData.canLay0, k.all_lay r h]
  dep := fun r h => by
    have e := k.all_dep r h
    show PyData.depth (.list (r.map f)) ≤ n + 1
    simp only [PyData.depth]
    omega
theorem DKind.shaped (k : DKind α f P n) (hn : n ≤ 64) {x : α} (h : P x) : SeqAt.shaped (f x) = true := by
  show ((f x).canLay0 && decide ((f x).depth ≤ 64)) = true
  rw [Bool.and_eq_true]
  exact ⟨k.lay x h, decide_eq_true (Nat.le_trans (k.dep x h) hn)⟩
theorem DKind.any (k : DKind α f P n) {x : α} (hx : P x) : ∀ {r : List α}, (∀ y ∈ r, P y) → ((r.map f).any fun z => PyData.eqv z (f x)) = decide (x ∈ r)
  | [], _ => by simp
  | y :: r, h => by
    rw [List.map_cons, List.any_cons, k.eq y x (h y (by simp)) hx, k.any hx fun z hz => h z (by simp [hz])]
    by_cases e : y = x
    · simp [e]
    · have e' : ¬ x = y := fun q => e q.symm
      by_cases e2 : x ∈ r <;> simp [e, e', e2]
end
/-- a value as data -/
def vD : V → PyData
  | .int i => .int i
  | .str x => .str x
  | _ => .none
theorem vD_kind : DKind V vD IsVal 0 where
  eq := fun x y hx hy => by
    rcases isVal_cases hx with ⟨i, rfl⟩ | ⟨a, rfl, _⟩ <;> rcases isVal_cases hy with ⟨j, rfl⟩ | ⟨b, rfl, _⟩ <;> simp only [vD, PyData.eqv]
    · by_cases e : i = j <;> simp [e]
    · simp
    · simp
    · by_cases e : a = b <;> simp [e]
  lay := fun x hx => by
    rcases isVal_cases hx with ⟨i, rfl⟩ | ⟨a, rfl, ha⟩
    · rfl
    · exact ha
  dep := fun x hx => by
    rcases isVal_cases hx with ⟨i, rfl⟩ | ⟨a, rfl, ha⟩ <;> simp [vD, PyData.depth]
theorem vD_dp {K : PySem.W.Frag} {H : Hp} {v : V} (h : IsVal v) : Dp K H v (vD v) := by
  rcases isVal_cases h with ⟨i, rfl⟩ | ⟨a, rfl, ha⟩
  · exact .int i
  · exact .str a
theorem vD_all {K : PySem.W.Frag} {H : Hp} : ∀ {r : List V}, (∀ v ∈ r, IsVal v) → DpAll K H r (r.map vD)
  | [], _ => .nil
  | v :: r, h => .cons (vD_dp (h v (by simp))) (vD_all fun x hx => h x (by simp [hx]))
/-- rows as data -/
def rowD (r : List V) : PyData := .tuple (r.map vD)
theorem rowD_kind : DKind (List V) rowD (fun r => ∀ v ∈ r, IsVal v) 1 := vD_kind.tups
/-- (kind, value) as data -/
def pairD (v : V) : PyData := .tuple [.int (kd v), vD v]
theorem pairD_kind : DKind V pairD IsVal 1 where
  eq := fun x y hx hy => by
    show PyData.eqv (.tuple [.int (kd x), vD x]) (.tuple [.int (kd y), vD y]) = _
    rw [PyData.eqv, PyData.eqvAll, PyData.eqvAll, PyData.eqvAll, vD_kind.eq x y hx hy, PyData.eqv]
    by_cases e : x = y
    · simp [e]
    · simp [e]
  lay := fun x hx => by
    show PyData.canLay0 (.tuple [.int (kd x), vD x]) = true
    rw [PyData.canLay0, PyData.canLayAll0, PyData.canLayAll0, PyData.canLayAll0, vD_kind.lay x hx]
    rfl
  dep := fun x hx => by
    have e := vD_kind.dep x hx
    show PyData.depth (.tuple [.int (kd x), vD x]) ≤ 1
    simp only [PyData.depth, PyData.depthAll]
    omega
def rowLD (r : List V) : PyData := .list (r.map pairD)
theorem rowLD_kind : DKind (List V) rowLD (fun r => ∀ v ∈ r, IsVal v) 2 := pairD_kind.lsts

/-- x is a pair (kind, value) -/
def IsPair (H : Hp) (x v : V) : Prop := ∃ c, x = .ref c ∧ H c = some (pairOf v)
theorem pair_dp {K : PySem.W.Frag} {H : Hp} {x v : V} (h : IsPair H x v) (hv : IsVal v) : Dp K H x (pairD v) := by
  obtain ⟨c, rfl, e⟩ := h
  exact .tup (.inl (.inl e)) (.cons (.int _) (.cons (vD_dp hv) .nil))
theorem pairs_dp {K : PySem.W.Frag} {H : Hp} : ∀ {xs r : List V}, Paired (IsPair H) xs r → (∀ v ∈ r, IsVal v) → DpAll K H xs (r.map pairD)
  | _, _, .nil, _ => .nil
  | _, _, .cons p q, h => .cons (pair_dp p (h _ (by simp))) (pairs_dp q fun x hx => h x (by simp [hx]))
/-- x is a list of pairs -/
def IsRowL (H : Hp) (x : V) (r : List V) : Prop := ∃ a xs, x = .ref a ∧ H a = some (.lst xs) ∧ Paired (IsPair H) xs r
theorem rowL_dp {K : PySem.W.Frag} {H : Hp} {x : V} {r : List V} (h : IsRowL H x r) (hv : ∀ v ∈ r, IsVal v) : Dp K H x (rowLD r) := by
  obtain ⟨a, xs, rfl, e, p⟩ := h
  exact .lst (.inl (.inl e)) (pairs_dp p hv)

/-- readings told by the values -/
def rEqRowL : R2 := fun x y H Q => ∃ r q, IsRowL H x r ∧ IsRowL H y q ∧ (∀ v ∈ r, IsVal v) ∧ (∀ v ∈ q, IsVal v) ∧ Q (.bl (decide (r = q))) H
def rNeRowL : R2 := fun x y H Q => ∃ r q, IsRowL H x r ∧ IsRowL H y q ∧ (∀ v ∈ r, IsVal v) ∧ (∀ v ∈ q, IsVal v) ∧ Q (.bl (!decide (r = q))) H
def rEqPair : R2 := fun x y H Q => ∃ v w, IsPair H x v ∧ IsPair H y w ∧ IsVal v ∧ IsVal w ∧ Q (.bl (decide (v = w))) H
def rNePair : R2 := fun x y H Q => ∃ v w, IsPair H x v ∧ IsPair H y w ∧ IsVal v ∧ IsVal w ∧ Q (.bl (!decide (v = w))) H
section
variable {X : Cx}
theorem op_neRowL (hu : X.A.units + 64 < cLine) : OpR X (compareOp .NotEq) rNeRowL := by
  intro pins s σ H x y v u Q I rx ry h
  obtain ⟨r, q, h1, h2, v1, v2, z⟩ := h
  refine op_neD hu pins s σ H x y v u Q I rx ry ⟨rowLD r, rowLD q, rowL_dp h1 v1, rowL_dp h2 v2, rowLD_kind.shaped (by decide) v1, rowLD_kind.shaped (by decide) v2, ?_⟩
  rw [rowLD_kind.eq r q v1 v2]
  exact z
theorem op_eqPair (hu : X.A.units + 64 < cLine) : OpR X (compareOp .Eq) rEqPair := by
  intro pins s σ H x y v u Q I rx ry h
  obtain ⟨r, q, h1, h2, v1, v2, z⟩ := h
  refine op_eqD hu pins s σ H x y v u Q I rx ry ⟨pairD r, pairD q, pair_dp h1 v1, pair_dp h2 v2, pairD_kind.shaped (by decide) v1, pairD_kind.shaped (by decide) v2, ?_⟩
  rw [pairD_kind.eq r q v1 v2]
  exact z
theorem op_nePair (hu : X.A.units + 64 < cLine) : OpR X (compareOp .NotEq) rNePair := by
  intro pins s σ H x y v u Q I rx ry h
  obtain ⟨r, q, h1, h2, v1, v2, z⟩ := h
  refine op_neD hu pins s σ H x y v u Q I rx ry ⟨pairD r, pairD q, pair_dp h1 v1, pair_dp h2 v2, pairD_kind.shaped (by decide) v1, pairD_kind.shaped (by decide) v2, ?_⟩
  rw [pairD_kind.eq r q v1 v2]
  exact z

/-! ### lists of pairs in order -/
theorem first_row : ∀ (r q : List V) (i n : Nat), n = i + min r.length q.length → ∀ (e l : Nat → Bool) (fin : Bool), (∀ j, i ≤ j → ∀ x y, r[j - i]? = some x → q[j - i]? = some y → e j = decide (x = y) ∧ l j = ltV x y) → fin = decide (r.length < q.length) →
    SeqAt.firstLt e l fin (List.range' i (n - i)) = ltRow r q
  | [], [], i, n, hn, e, l, fin, h, hf => by
    have z : n - i = 0 := by simp at hn; omega
    rw [z]
    simpa [SeqAt.firstLt, ltRow] using hf
  | [], _ :: _, i, n, hn, e, l, fin, h, hf => by
    have z : n - i = 0 := by simp at hn; omega
    rw [z]
    simpa [SeqAt.firstLt, ltRow] using hf
  | _ :: _, [], i, n, hn, e, l, fin, h, hf => by
    have z : n - i = 0 := by simp at hn; omega
    rw [z]
    simpa [SeqAt.firstLt, ltRow] using hf
  | x :: r, y :: q, i, n, hn, e, l, fin, h, hf => by
    have z : n - i = (n - (i + 1)) + 1 := by
      simp only [List.length_cons] at hn
      omega
    obtain ⟨h1, h2⟩ := h i (Nat.le_refl i) x y (by simp) (by simp)
    rw [z, List.range'_succ, ltRow]
    by_cases exy : x = y
    · rw [if_pos exy, SeqAt.firstLt_yes (by rw [h1]; exact decide_eq_true exy)]
      refine first_row r q (i + 1) n (by simp only [List.length_cons] at hn; omega) e l fin (fun j hj a b ha hb => h j (by omega) a b ?_ ?_) (by rw [hf]; simp)
      · rw [show j - i = (j - (i + 1)) + 1 by omega]; exact ha
      · rw [show j - i = (j - (i + 1)) + 1 by omega]; exact hb
    · rw [if_neg exy, SeqAt.firstLt_no (by rw [h1]; exact decide_eq_false exy), h2]
theorem Paired.at {α β : Type} {F : α → β → Prop} {l₁ : List α} {l₂ : List β} (h : Paired F l₁ l₂) : ∀ {j : Nat} {x : α}, l₁[j]? = some x → ∃ y, l₂[j]? = some y ∧ F x y := by
  induction h with
  | nil => intro j x e; simp at e
  | cons p q ih =>
    intro j x e
    cases j with
    | zero => exact ⟨_, rfl, by simpa using (by simpa using e : _ = x) ▸ p⟩
    | succ j => exact ih (by simpa using e)
def rLtRowL : R2 := fun x y H Q => ∃ r q, IsRowL H x r ∧ IsRowL H y q ∧ (∀ v ∈ r, IsVal v) ∧ (∀ v ∈ q, IsVal v) ∧ Q (.bl (ltRow r q)) H
theorem op_ltRowL (hu : X.A.units + 64 < cLine) : OpR X (compareOp .Lt) rLtRowL := by
  intro pins s σ H x y v u Q I rx ry h
  obtain ⟨r, q, ⟨a, xs, rfl, ha, pa⟩, ⟨b, ys, rfl, hb, pb⟩, v1, v2, z⟩ := h
  cases rx
  cases ry
  obtain ⟨us, r1, p1, _⟩ := I.list (.inl (.inl ha))
  obtain ⟨ws, r2, p2, _⟩ := I.list (.inl (.inl hb))
  have l1 : us.length = r.length := by rw [← r1.length]; exact Paired.length pa
  have l2 : ws.length = q.length := by rw [← r2.length]; exact Paired.length pb
  have key : ∀ j (h1 : j < us.toArray.size) (h2 : j < ws.toArray.size), ∃ c d v w, us.toArray[j] = .ref c ∧ ws.toArray[j] = .ref d ∧ H c = some (pairOf v) ∧ H d = some (pairOf w) ∧ r[j]? = some v ∧ q[j]? = some w ∧ IsVal v ∧ IsVal w := by
    intro j h1 h2
    have h1' : j < us.length := by simpa using h1
    have h2' : j < ws.length := by simpa using h2
    have e1 : xs[j]? = some (xs[j]'(by rw [r1.length]; exact h1')) := List.getElem?_eq_getElem _
    have e2 : ys[j]? = some (ys[j]'(by rw [r2.length]; exact h2')) := List.getElem?_eq_getElem _
    obtain ⟨v, hv, c, ec, hc⟩ := Paired.at pa e1
    obtain ⟨w, hw, d, ed, hd⟩ := Paired.at pb e2
    obtain ⟨u1, f1, g1⟩ := r1.get e1
    obtain ⟨u2, f2, g2⟩ := r2.get e2
    rw [ec] at g1
    rw [ed] at g2
    refine ⟨c, d, v, w, ?_, ?_, hc, hd, hv, hw, v1 v (List.mem_of_getElem? hv), v2 w (List.mem_of_getElem? hw)⟩
    · rw [List.getElem?_eq_getElem h1'] at f1
      have e := Option.some.inj f1
      have g : u1 = Value.ref c := g1
      simpa [e] using g
    · rw [List.getElem?_eq_getElem h2'] at f2
      have e := Option.some.inj f2
      have g : u2 = Value.ref d := g2
      simpa [e] using g
  have R := RcLt.lists (A := X.A) (s := s) (e := fun j => decide (r[j]? = q[j]?)) (r := fun j => ltV (r[j]?.getD .non) (q[j]?.getD .non)) p1.isList p2.isList (by omega) (fun j h1 h2 => ?_) (fun j h1 h2 _ => ?_)
  · refine R X.prog X.w X.xe _ ?_
    have e := first_row r q 0 (min us.toArray.size ws.toArray.size) (by simp [l1, l2]) (fun j => decide (r[j]? = q[j]?)) (fun j => ltV (r[j]?.getD .non) (q[j]?.getD .non)) (decide (us.toArray.size < ws.toArray.size)) (fun j _ x y h1 h2 => ?_) (by simp [l1, l2])
    · rw [List.range_eq_range']
      rw [Nat.sub_zero] at e
      rw [e]
      exact ⟨.bl _, H, I, rfl, z⟩
    · rw [Nat.sub_zero] at h1 h2
      simp [h1, h2]
  · obtain ⟨c, d, v, w, e1, e2, hc, hd, f1, f2, i1, i2⟩ := key j h1 h2
    rw [e1, e2]
    have hR1 := pair_dp (K := X.K) ⟨c, rfl, hc⟩ i1
    have hR2 := pair_dp (K := X.K) ⟨d, rfl, hd⟩ i2
    obtain ⟨as, g1⟩ := Dp.reads I _ _ (.ref c) hR1 rfl
    obtain ⟨bs, g2⟩ := Dp.reads I _ _ (.ref d) hR2 rfl
    have q1 := pairD_kind.dep v i1
    have Z := eqAt_reads (pairD v) (pairD w) X.A.in1 s _ _ _ _ g1 g2 (pairD_kind.lay v i1) (pairD_kind.lay w i2) (by show X.A.units + 1 + min (pairD v).depth (pairD w).depth < cLine; omega)
    rw [pairD_kind.eq v w i1 i2] at Z
    have ee : decide (r[j]? = q[j]?) = decide (v = w) := by rw [f1, f2]; by_cases e : v = w <;> simp [e]
    show EqAt _ _ _ _ (decide (r[j]? = q[j]?))
    rw [ee]
    exact Z
  · obtain ⟨c, d, v, w, e1, e2, hc, hd, f1, f2, i1, i2⟩ := key j h1 h2
    rw [e1, e2]
    show RcLt _ _ _ _ (ltV (r[j]?.getD .non) (q[j]?.getD .non))
    rw [f1, f2]
    exact pair_rc (op := .Lt) rfl I hc hd i1 i2 (by show X.A.units + 1 < cLine; omega)
end
end Tk

/-! ## TkMath -/
set_option Elab.async false
set_option linter.all false
set_option maxRecDepth 100000
set_option maxHeartbeats 1000000
/-! What the program and the law compute, over plain data; how the data stand in the heap. -/
namespace Tk
open PySem PySem.Spec PyProof.Rows L2

inductive Tm where
  | val (v : V) | var (x : Str) | any
  deriving DecidableEq
inductive Lit where
  | fact (r : Str) (ts : List Tm)
  | neg (r : Str) (ts : List Tm)
  | cmp (op : Str) (t u : Tm)
  | cnt (v r : Str) (ts : List Tm)
  | tot (f v : Str) (t : Tm) (r : Str) (ts : List Tm)
abbrev Way := List (Key × V)
abbrev Row := List V
abbrev Facts := List (Str × List Row)
abbrev Rels := List (Str × List V)

/-! ### the mirror -/
def namesM : List Tm → List Str
  | [] => []
  | .var x :: ts => x :: namesM ts
  | _ :: ts => namesM ts
def metM : List Tm → Row → Way → Option Way
  | .val u :: ts, v :: r, w => if u = v then metM ts r w else none
  | .var x :: ts, v :: r, w => match valV w (.inr x) with
    | some u => if u = v then metM ts r w else none
    | none => metM ts r (putK w (.inr x) v)
  | .any :: ts, _ :: r, w => metM ts r w
  | _, _, w => some w
def meetM (rows : List Row) (ts : List Tm) (w : Way) : List Way := rows.filterMap fun r => metM ts r w
def worth (t : Tm) (w : Way) : V := match t with
  | .val v => v
  | .var x => (valV w (.inr x)).getD .non
  | .any => .non
def cmpM (op : Str) (a b : V) : Bool :=
  if op = "=" then decide (a = b) else if op = "<>" then !decide (a = b) else if op = "<" then ltV a b else if op = "<=" then !ltV b a else if op = ">" then ltV b a else !ltV a b
def isStr : V → Bool
  | .str _ => true
  | _ => false
def intOf : V → Int
  | .int i => i
  | _ => 0
/-- the best of values, by a strict order -/
def bestM (b : V → V → Bool) : List V → List V
  | [] => []
  | v :: vs => [vs.foldl (fun acc x => if b x acc then x else acc) v]
def totM (f : Str) (vs : List V) : List V :=
  if f = "sum" then (if vs.any isStr then [] else [.int (vs.map intOf).sum])
  else if f = "least" then bestM ltV vs else bestM (fun a b => ltV b a) vs
def putM (v : Str) (w : Way) (t : V) : List Way := match valV w (.inr v) with
  | none => [putK w (.inr v) t]
  | some u => if u = t then [w] else []
def rowsOf (F : Facts) (r : Str) : List Row := match F.find? fun p => decide (p.1 = r) with
  | some p => p.2
  | none => []
def behindM (F : Facts) (l : Lit) (w : Way) : List Way := match l with
  | .fact r ts => meetM (rowsOf F r) ts w
  | .neg r ts => if (meetM (rowsOf F r) ts w).isEmpty then [w] else []
  | .cmp op t u => if cmpM op (worth t w) (worth u w) then [w] else []
  | .cnt v r ts => [V.int (meetM (rowsOf F r) ts w).length].flatMap (putM v w)
  | .tot f v t r ts => (totM f ((meetM (rowsOf F r) ts w).map (worth t))).flatMap (putM v w)
def waysM (F : Facts) : List Lit → List Way → List Way
  | [], ws => ws
  | l :: ls, ws => waysM F ls (ws.flatMap (behindM F l))
def newM : Lit → List Str
  | .fact _ ts => namesM ts
  | .cnt v _ _ => [v]
  | .tot _ v _ _ _ => [v]
  | _ => []
def addN (bs : List Str) (n : Str) : List Str := if n ∈ bs then bs else bs ++ [n]
def colsM (b : List Lit) (bs : List Str) : List Str := b.foldl (fun bs l => (newM l).foldl addN bs) bs
def rowM (cs : List Str) (w : Way) : Row := cs.map fun c => (valV w (.inr c)).getD .non
/-- insertion, each once -/
def insM (x : Row) : List Row → List Row
  | [] => [x]
  | y :: ys => if ltRow y x then y :: insM x ys else if y = x then y :: ys else x :: y :: ys
def sortM (rs : List Row) : List Row := rs.foldl (fun acc x => insM x acc) []
def ansM (F : Facts) (b : List Lit) : List Row := sortM ((waysM F b [[]]).map (rowM (colsM b [])))

/-! ### what is not refused -/
def OkTm (ks : List Str) : Tm → Prop
  | .val v => IsVal v
  | .var x => x ∈ ks
  | .any => False
def OkT : Tm → Prop
  | .val v => IsVal v
  | _ => True
def isTotF (f : Str) : Prop := f = "sum" ∨ f = "least" ∨ f = "greatest"
def isCmpF (f : Str) : Prop := f = "=" ∨ f = "<>" ∨ f = "<" ∨ f = "<=" ∨ f = ">" ∨ f = ">="
def widthOf (R : Rels) (r : Str) : Option Nat := (R.find? fun p => decide (p.1 = r)).map fun p => p.2.length
def OkRel (R : Rels) (r : Str) (ts : List Tm) : Prop := widthOf R r = some ts.length ∧ ts.length ≤ 10 ∧ ∀ t ∈ ts, OkT t
def OkLit (R : Rels) (ks : List Str) : Lit → Prop
  | .fact r ts => OkRel R r ts
  | .neg r ts => OkRel R r ts ∧ ∀ n ∈ namesM ts, n ∈ ks
  | .cmp op t u => isCmpF op ∧ OkTm ks t ∧ OkTm ks u
  | .cnt v r ts => OkRel R r ts ∧ v ∉ namesM ts
  | .tot f v t r ts => isTotF f ∧ OkRel R r ts ∧ v ∉ namesM ts ∧ OkTm (ks ++ namesM ts) t
def OkBody (R : Rels) : List Lit → List Str → Prop
  | [], _ => True
  | l :: ls, ks => OkLit R ks l ∧ OkBody R ls ((newM l).foldl addN ks)
/-- the facts stand in order, each once, as wide as their relation, and every relation has its rows -/
structure OkFacts (R : Rels) (F : Facts) : Prop where
  names : F.map (·.1) = R.map (·.1)
  nd : (F.map (·.1)).Nodup
  vals : ∀ p ∈ F, ∀ r ∈ p.2, ∀ v ∈ r, IsVal v
  width : ∀ p ∈ F, ∀ r ∈ p.2, widthOf R p.1 = some r.length
  sorted : ∀ p ∈ F, p.2.Pairwise fun x y => ltRow x y = true
  few : ∀ p ∈ F, p.2.length ≤ 1000
  short : ∀ p ∈ R, p.2.length ≤ 10 ∧ 0 < p.2.length
  less : R.length ≤ 10

/-! ### in the heap -/
def tmHO : Tm → HO
  | .val v => .tup [.str "value", v]
  | .var x => .tup [.str "variable", .str x]
  | .any => .tup [.str "any"]
def IsTm (H : Hp) (x : V) (t : Tm) : Prop := ∃ a, x = .ref a ∧ H a = some (tmHO t)
def IsTms (H : Hp) (x : V) (ts : List Tm) : Prop := ∃ a xs, x = .ref a ∧ H a = some (.tup xs) ∧ Paired (IsTm H) xs ts
def LitXs (H : Hp) : Lit → List V → Prop
  | .fact r ts, xs => ∃ z, xs = [.str "fact", .str r, z] ∧ IsTms H z ts
  | .neg r ts, xs => ∃ z, xs = [.str "not", .str r, z] ∧ IsTms H z ts
  | .cmp op t u, xs => ∃ y z, xs = [.str "compare", .str op, y, z] ∧ IsTm H y t ∧ IsTm H z u
  | .cnt v r ts, xs => ∃ z, xs = [.str "count", .str v, .str r, z] ∧ IsTms H z ts
  | .tot f v t r ts, xs => ∃ y z, xs = [.str f, .str v, y, .str r, z] ∧ IsTm H y t ∧ IsTms H z ts
def IsLit (H : Hp) (x : V) (l : Lit) : Prop := ∃ a xs, x = .ref a ∧ H a = some (.tup xs) ∧ LitXs H l xs
def IsBody (H : Hp) (x : V) (b : List Lit) : Prop := ∃ a xs, x = .ref a ∧ H a = some (.tup xs) ∧ Paired (IsLit H) xs b
def IsRow (H : Hp) (x : V) (r : Row) : Prop := ∃ a, x = .ref a ∧ H a = some (.tup r)
def IsWay (H : Hp) (x : V) (w : Way) : Prop := ∃ a, x = .ref a ∧ H a = some (.dK w)
def IsRows (H : Hp) (x : V) (rs : List Row) : Prop := ∃ a xs, x = .ref a ∧ H a = some (.lst xs) ∧ Paired (IsRow H) xs rs
def IsWays (H : Hp) (x : V) (ws : List Way) : Prop := ∃ a xs, x = .ref a ∧ H a = some (.lst xs) ∧ Paired (IsWay H) xs ws
def IsFact (H : Hp) (p : Key × V) (q : Str × List Row) : Prop := p.1 = .inr q.1 ∧ IsRows H p.2 q.2
def IsRel (H : Hp) (p : Key × V) (q : Str × List V) : Prop := p.1 = .inr q.1 ∧ ∃ a c, p.2 = .ref a ∧ H a = some (.tup [.ref c, .int 40]) ∧ H c = some (.tup q.2)
def IsFacts (H : Hp) (x : V) (F : Facts) : Prop := ∃ a kvs, x = .ref a ∧ H a = some (.dK kvs) ∧ Paired (IsFact H) kvs F
def IsRels (H : Hp) (x : V) (R : Rels) : Prop := ∃ a kvs, x = .ref a ∧ H a = some (.dK kvs) ∧ Paired (IsRel H) kvs R

section
variable {H H' : Hp} {x : V}
/-- the tuples stand -/
def TupS (H H' : Hp) : Prop := ∀ b xs, H b = some (.tup xs) → H' b = some (.tup xs)
theorem _root_.L2.Same.tup (s : Same H H') : TupS H H' := fun b _ e => s b _ e
theorem TupS.refl (H : Hp) : TupS H H := fun _ _ e => e
theorem TupS.trans {H1 H2 H3 : Hp} (a : TupS H1 H2) (b : TupS H2 H3) : TupS H1 H3 := fun c xs e => b c xs (a c xs e)
theorem IsTm.mono (s : TupS H H') {t : Tm} (h : IsTm H x t) : IsTm H' x t := by
  obtain ⟨a, e, h⟩ := h
  cases t <;> exact ⟨a, e, s a _ h⟩
theorem IsTms.mono (s : TupS H H') {ts : List Tm} (h : IsTms H x ts) : IsTms H' x ts := by
  obtain ⟨a, xs, e, h, p⟩ := h
  exact ⟨a, xs, e, s a _ h, Paired.mapP p fun _ _ z => z.mono s⟩
theorem LitXs.mono (s : TupS H H') {l : Lit} {xs : List V} (h : LitXs H l xs) : LitXs H' l xs := by
  cases l with
  | fact r ts =>
    obtain ⟨z, e, h⟩ := h
    exact ⟨z, e, h.mono s⟩
  | neg r ts =>
    obtain ⟨z, e, h⟩ := h
    exact ⟨z, e, h.mono s⟩
  | cmp op t u =>
    obtain ⟨y, z, e, h, g⟩ := h
    exact ⟨y, z, e, h.mono s, g.mono s⟩
  | cnt v r ts =>
    obtain ⟨z, e, h⟩ := h
    exact ⟨z, e, h.mono s⟩
  | tot f v t r ts =>
    obtain ⟨y, z, e, h, g⟩ := h
    exact ⟨y, z, e, h.mono s, g.mono s⟩
theorem IsLit.mono (s : TupS H H') {l : Lit} (h : IsLit H x l) : IsLit H' x l := by
  obtain ⟨a, xs, e, h, p⟩ := h
  exact ⟨a, xs, e, s a _ h, p.mono s⟩
theorem IsBody.mono (s : TupS H H') {b : List Lit} (h : IsBody H x b) : IsBody H' x b := by
  obtain ⟨a, xs, e, h, p⟩ := h
  exact ⟨a, xs, e, s a _ h, Paired.mapP p fun _ _ z => z.mono s⟩
theorem IsRow.mono (s : TupS H H') {r : Row} (h : IsRow H x r) : IsRow H' x r := by
  obtain ⟨a, e, h⟩ := h
  exact ⟨a, e, s a _ h⟩
/-- the dicts stand -/
def WayS (H H' : Hp) : Prop := ∀ b w, H b = some (.dK w) → H' b = some (.dK w)
theorem _root_.L2.Same.way (s : Same H H') : WayS H H' := fun b _ e => s b _ e
theorem WayS.trans' {H1 H2 H3 : Hp} (a : WayS H1 H2) (b : WayS H2 H3) : WayS H1 H3 := fun c xs e => b c xs (a c xs e)
theorem IsWay.mono (s : WayS H H') {w : Way} (h : IsWay H x w) : IsWay H' x w := by
  obtain ⟨a, e, h⟩ := h
  exact ⟨a, e, s a _ h⟩
theorem IsRows.mono (s : Same H H') {r : List Row} (h : IsRows H x r) : IsRows H' x r := by
  obtain ⟨a, xs, e, h, p⟩ := h
  exact ⟨a, xs, e, s a _ h, Paired.mapP p fun _ _ z => z.mono (Same.tup s)⟩
theorem IsWays.mono (s : Same H H') {r : List Way} (h : IsWays H x r) : IsWays H' x r := by
  obtain ⟨a, xs, e, h, p⟩ := h
  exact ⟨a, xs, e, s a _ h, Paired.mapP p fun _ _ z => z.mono (Same.way s)⟩
theorem IsFacts.mono (s : Same H H') {F : Facts} (h : IsFacts H x F) : IsFacts H' x F := by
  obtain ⟨a, xs, e, h, p⟩ := h
  exact ⟨a, xs, e, s a _ h, Paired.mapP p fun _ _ z => ⟨z.1, z.2.mono s⟩⟩
theorem IsRels.mono (s : Same H H') {R : Rels} (h : IsRels H x R) : IsRels H' x R := by
  obtain ⟨a, xs, e, h, p⟩ := h
  refine ⟨a, xs, e, s a _ h, Paired.mapP p fun _ _ z => ?_⟩
  obtain ⟨z, a, c, e1, e2, e3⟩ := z
  exact ⟨z, a, c, e1, s _ _ e2, s _ _ e3⟩
/-- a list may change: tuples and dicts stand -/
theorem tupS_lst {H : Hp} {D : Addr} {xs ys : List V} (h : H D = some (.lst xs)) : TupS H (upd H D (.lst ys)) := fun b zs e => by
  rw [upd_ne (ne_of e h fun z => nomatch z)]
  exact e
theorem wayS_lst {H : Hp} {D : Addr} {xs ys : List V} (h : H D = some (.lst xs)) : WayS H (upd H D (.lst ys)) := fun b zs e => by
  rw [upd_ne (ne_of e h fun z => nomatch z)]
  exact e
theorem tupS_dK {H : Hp} {D : Addr} {xs ys : Way} (h : H D = some (.dK xs)) : TupS H (upd H D (.dK ys)) := fun b zs e => by
  rw [upd_ne (ne_of e h fun z => nomatch z)]
  exact e
theorem _root_.L2.Same.new {H : Hp} {p : Addr} {o : HO} (h : H p = none) : Same H (upd H p o) := fun a u e => by
  rw [upd_ne (ne_of_none e h)]
  exact e
/-- what H did not know may change -/
theorem _root_.L2.Same.mut {H H' : Hp} {p : Addr} {o : HO} (e : Same H H') (h : H p = none) : Same H (upd H' p o) := fun a u ha => by
  rw [upd_ne (ne_of_none ha h)]
  exact e a u ha
end
section
variable {α β : Type} {F : α → β → Prop}
theorem Paired.atR {l₁ : List α} {l₂ : List β} (h : Paired F l₁ l₂) : ∀ {j : Nat} {y : β}, l₂[j]? = some y → ∃ x, l₁[j]? = some x ∧ F x y := by
  induction h with
  | nil => intro j x e; simp at e
  | cons p q ih =>
    intro j x e
    cases j with
    | zero => exact ⟨_, rfl, by simpa using (by simpa using e : _ = x) ▸ p⟩
    | succ j => exact ih (by simpa using e)
theorem Paired.app {a a' : List α} {b b' : List β} (h : Paired F a b) (h' : Paired F a' b') : Paired F (a ++ a') (b ++ b') := by
  induction h with
  | nil => exact h'
  | cons p q ih => exact .cons p ih
end
/-! ### names looked up -/
theorem fact_get {H : Hp} {kvs : List (Key × V)} {F : Facts} (h : Paired (IsFact H) kvs F) {r : Str} (hr : r ∈ F.map (·.1)) : ∃ x, valV kvs (.inr r) = some x ∧ IsRows H x (rowsOf F r) := by
  induction h with
  | nil => simp at hr
  | @cons p q ps qs h t ih =>
    obtain ⟨e, h⟩ := h
    unfold rowsOf
    by_cases g : q.1 = r
    · refine ⟨p.2, valV_pos (by rw [e, g]), ?_⟩
      rw [List.find?_cons, decide_eq_true g]
      exact h
    · obtain ⟨x, e1, e2⟩ := ih (by
        rcases List.mem_cons.mp hr with z | z
        · exact absurd z.symm g
        · exact z)
      refine ⟨x, ?_, ?_⟩
      · rw [valV_neg (fun z => g (by rw [e] at z; exact Sum.inr.inj z))]
        exact e1
      · rw [List.find?_cons, decide_eq_false g]
        exact e2
theorem rel_get {H : Hp} {kvs : List (Key × V)} {R : Rels} (h : Paired (IsRel H) kvs R) {r : Str} {n : Nat} (hr : widthOf R r = some n) : ∃ a c cs, valV kvs (.inr r) = some (.ref a) ∧ H a = some (.tup [.ref c, .int 40]) ∧ H c = some (.tup cs) ∧ cs.length = n := by
  induction h with
  | nil => simp [widthOf] at hr
  | @cons p q ps qs h t ih =>
    obtain ⟨e, a, c, e1, e2, e3⟩ := h
    unfold widthOf at hr
    by_cases g : q.1 = r
    · rw [List.find?_cons, decide_eq_true g] at hr
      refine ⟨a, c, q.2, ?_, e2, e3, by simpa using hr⟩
      rw [valV_pos (by rw [e, g]), e1]
    · rw [List.find?_cons, decide_eq_false g] at hr
      obtain ⟨a, c, cs, e1, e2⟩ := ih hr
      refine ⟨a, c, cs, ?_, e2⟩
      rw [valV_neg (fun z => g (by rw [e] at z; exact Sum.inr.inj z))]
      exact e1
end Tk

/-! ## TkOrdM -/
set_option Elab.async false
set_option linter.all false
set_option maxRecDepth 100000
set_option maxHeartbeats 1000000
/-! Orders: of values, of rows; least and greatest; rows put in order, each once. -/
namespace Tk
open PySem PySem.Spec PyProof.Rows L2

theorem DKind.any_iff {α : Type} [DecidableEq α] {f : α → PyData} {P : α → Prop} {n : Nat} (k : DKind α f P n) {x : α} (hx : P x) {r : List α} (h : ∀ y ∈ r, P y) : ((r.map f).any fun z => PyData.eqv z (f x)) = true ↔ x ∈ r := by
  rw [k.any hx h]
  exact decide_eq_true_iff
theorem ltV_trans {a b c : V} (ha : IsVal a) (hb : IsVal b) (hc : IsVal c) (h1 : ltV a b = true) (h2 : ltV b c = true) : ltV a c = true := by
  rcases isVal_cases ha with ⟨i, rfl⟩ | ⟨x, rfl, _⟩ <;> rcases isVal_cases hb with ⟨j, rfl⟩ | ⟨y, rfl, _⟩ <;> rcases isVal_cases hc with ⟨k, rfl⟩ | ⟨z, rfl, _⟩
  · have e1 := of_decide_eq_true (show decide (i < j) = true from h1)
    have e2 := of_decide_eq_true (show decide (j < k) = true from h2)
    exact decide_eq_true (by omega)
  · rfl
  · exact Bool.noConfusion (show false = true from h2)
  · rfl
  · exact Bool.noConfusion (show false = true from h1)
  · exact Bool.noConfusion (show false = true from h1)
  · exact Bool.noConfusion (show false = true from h2)
  · have e1 := of_decide_eq_true (show decide (x.cps.toList < y.cps.toList) = true from h1)
    have e2 := of_decide_eq_true (show decide (y.cps.toList < z.cps.toList) = true from h2)
    exact decide_eq_true (List.lt_trans e1 e2)
theorem ltV_ne {a b : V} (h : ltV a b = true) : a ≠ b := fun e => by
  subst e
  rw [ltV_irrefl] at h
  cases h
theorem ltV_asymm {a b : V} (ha : IsVal a) (hb : IsVal b) (h : ltV a b = true) : ltV b a = false := by
  have e := ltV_tri hb ha (fun z => ltV_ne h z.symm)
  rw [e, h]
  rfl

/-! ### rows -/
theorem ltRow_irrefl : ∀ r : Row, ltRow r r = false
  | [] => rfl
  | v :: r => by
    show (if v = v then ltRow r r else ltV v v) = false
    rw [if_pos rfl]
    exact ltRow_irrefl r
theorem ltRow_tri : ∀ {r q : Row}, (∀ v ∈ r, IsVal v) → (∀ v ∈ q, IsVal v) → r ≠ q → ltRow r q = !ltRow q r
  | [], [], _, _, h => absurd rfl h
  | [], _ :: _, _, _, _ => rfl
  | _ :: _, [], _, _, _ => rfl
  | v :: r, w :: q, h1, h2, h => by
    show (if v = w then ltRow r q else ltV v w) = !(if w = v then ltRow q r else ltV w v)
    by_cases e : v = w
    · rw [if_pos e, if_pos e.symm]
      exact ltRow_tri (fun x hx => h1 x (by simp [hx])) (fun x hx => h2 x (by simp [hx])) fun z => h (by rw [e, z])
    · rw [if_neg e, if_neg (fun z => e z.symm)]
      exact ltV_tri (h1 v (by simp)) (h2 w (by simp)) e
theorem ltRow_trans : ∀ {a b c : Row}, (∀ v ∈ a, IsVal v) → (∀ v ∈ b, IsVal v) → (∀ v ∈ c, IsVal v) → ltRow a b = true → ltRow b c = true → ltRow a c = true
  | [], [], c, _, _, _, _, h => h
  | [], _ :: _, [], _, _, _, _, h => Bool.noConfusion (show false = true from h)
  | [], _ :: _, _ :: _, _, _, _, _, _ => rfl
  | _ :: _, [], _, _, _, _, h, _ => Bool.noConfusion (show false = true from h)
  | _ :: _, _ :: _, [], _, _, _, _, h => Bool.noConfusion (show false = true from h)
  | u :: a, v :: b, w :: c, h1, h2, h3, h, g => by
    have h' : (if u = v then ltRow a b else ltV u v) = true := h
    have g' : (if v = w then ltRow b c else ltV v w) = true := g
    show (if u = w then ltRow a c else ltV u w) = true
    have iu := h1 u (by simp)
    have iv := h2 v (by simp)
    have iw := h3 w (by simp)
    by_cases e1 : u = v
    · rw [if_pos e1] at h'
      by_cases e2 : v = w
      · rw [if_pos e2] at g'
        rw [if_pos (e1.trans e2)]
        exact ltRow_trans (fun x hx => h1 x (by simp [hx])) (fun x hx => h2 x (by simp [hx])) (fun x hx => h3 x (by simp [hx])) h' g'
      · rw [if_neg e2] at g'
        rw [if_neg (fun z => e2 (e1.symm.trans z)), e1]
        exact g'
    · rw [if_neg e1] at h'
      by_cases e2 : v = w
      · rw [if_neg (fun z => e1 (z.trans e2.symm)), ← e2]
        exact h'
      · rw [if_neg e2] at g'
        have t := ltV_trans iu iv iw h' g'
        rw [if_neg (ltV_ne t)]
        exact t
theorem ltRow_ne {a b : Row} (h : ltRow a b = true) : a ≠ b := fun e => by
  subst e
  rw [ltRow_irrefl] at h
  cases h
def RVal (r : Row) : Prop := ∀ v ∈ r, IsVal v
theorem ltRow_asymm {a b : Row} (ha : RVal a) (hb : RVal b) (h : ltRow a b = true) : ltRow b a = false := by
  rw [ltRow_tri hb ha (fun z => ltRow_ne h z.symm), h]
  rfl
/-- two lists in strict order of the same members are one -/
theorem strict_uniq : ∀ {xs ys : List Row}, (∀ r ∈ xs, RVal r) → (∀ r ∈ ys, RVal r) → xs.Pairwise (fun x y => ltRow x y = true) → ys.Pairwise (fun x y => ltRow x y = true) → (∀ r, r ∈ xs ↔ r ∈ ys) → xs = ys
  | [], [], _, _, _, _, _ => rfl
  | [], y :: ys, _, _, _, _, h => by simpa using (h y).mpr (by simp)
  | x :: xs, [], _, _, _, _, h => by simpa using (h x).mp (by simp)
  | x :: xs, y :: ys, h1, h2, p1, p2, h => by
    rw [List.pairwise_cons] at p1 p2
    have e : x = y := by
      rcases List.mem_cons.mp ((h x).mp (by simp)) with e | e
      · exact e
      · rcases List.mem_cons.mp ((h y).mpr (by simp)) with e' | e'
        · exact e'.symm
        · have a1 := p2.1 x e
          have a2 := p1.1 y e'
          rw [ltRow_asymm (h2 y (by simp)) (h1 x (by simp)) a1] at a2
          cases a2
    subst e
    have nx : x ∉ xs := fun m => ltRow_ne (p1.1 x m) rfl
    have ny : x ∉ ys := fun m => ltRow_ne (p2.1 x m) rfl
    rw [strict_uniq (fun r hr => h1 r (by simp [hr])) (fun r hr => h2 r (by simp [hr])) p1.2 p2.2 fun r => ?_]
    constructor
    · intro m
      rcases List.mem_cons.mp ((h r).mp (by simp [m])) with e | e
      · subst e
        exact absurd m nx
      · exact e
    · intro m
      rcases List.mem_cons.mp ((h r).mpr (by simp [m])) with e | e
      · subst e
        exact absurd m ny
      · exact e
theorem mem_insM {x r : Row} : ∀ {ys : List Row}, r ∈ insM x ys ↔ r = x ∨ r ∈ ys
  | [] => by simp [insM]
  | y :: ys => by
    unfold insM
    by_cases h : ltRow y x = true
    · rw [if_pos h, List.mem_cons, mem_insM (ys := ys), List.mem_cons]
      constructor
      · rintro (e | e | e)
        · exact .inr (.inl e)
        · exact .inl e
        · exact .inr (.inr e)
      · rintro (e | e | e)
        · exact .inr (.inl e)
        · exact .inl e
        · exact .inr (.inr e)
    · rw [if_neg h]
      by_cases e : y = x
      · rw [if_pos e, e]
        simp
      · rw [if_neg e]
        simp
theorem insM_val {x : Row} {ys : List Row} (hx : RVal x) (hy : ∀ r ∈ ys, RVal r) : ∀ r ∈ insM x ys, RVal r := fun r hr => by
  rcases mem_insM.mp hr with e | e
  · rw [e]
    exact hx
  · exact hy r e
theorem insM_sorted {x : Row} : ∀ {ys : List Row}, RVal x → (∀ r ∈ ys, RVal r) → ys.Pairwise (fun x y => ltRow x y = true) → (insM x ys).Pairwise fun x y => ltRow x y = true
  | [], _, _, _ => by simp [insM]
  | y :: ys, hx, hy, p => by
    unfold insM
    have p' := List.pairwise_cons.mp p
    by_cases h : ltRow y x = true
    · rw [if_pos h, List.pairwise_cons]
      refine ⟨fun r hr => ?_, insM_sorted hx (fun r hr => hy r (by simp [hr])) p'.2⟩
      rcases mem_insM.mp hr with e | e
      · rw [e]
        exact h
      · exact p'.1 r e
    · rw [if_neg h]
      by_cases e : y = x
      · rw [if_pos e]
        exact p
      · rw [if_neg e, List.pairwise_cons]
        have lt : ltRow x y = true := by
          rw [ltRow_tri hx (hy y (by simp)) (fun z => e z.symm)]
          simpa using h
        refine ⟨fun r hr => ?_, p⟩
        rcases List.mem_cons.mp hr with e2 | e2
        · rw [e2]
          exact lt
        · exact ltRow_trans hx (hy y (by simp)) (hy r (by simp [e2])) lt (p'.1 r e2)
theorem sortM_inv : ∀ (rs acc : List Row), (∀ r ∈ rs, RVal r) → (∀ r ∈ acc, RVal r) → acc.Pairwise (fun x y => ltRow x y = true) →
    (rs.foldl (fun acc x => insM x acc) acc).Pairwise (fun x y => ltRow x y = true) ∧ (∀ r, r ∈ rs.foldl (fun acc x => insM x acc) acc ↔ r ∈ rs ∨ r ∈ acc)
  | [], acc, _, _, p => ⟨p, by simp⟩
  | x :: rs, acc, h1, h2, p => by
    have hx := h1 x (by simp)
    obtain ⟨q1, q2⟩ := sortM_inv rs (insM x acc) (fun r hr => h1 r (by simp [hr])) (insM_val hx h2) (insM_sorted hx h2 p)
    refine ⟨q1, fun r => ?_⟩
    rw [List.foldl_cons, q2 r, mem_insM, List.mem_cons]
    constructor
    · rintro (e | e | e)
      · exact .inl (.inr e)
      · exact .inl (.inl e)
      · exact .inr e
    · rintro ((e | e) | e)
      · exact .inr (.inl e)
      · exact .inl e
      · exact .inr (.inr e)
theorem sortM_sorted {rs : List Row} (h : ∀ r ∈ rs, RVal r) : (sortM rs).Pairwise (fun x y => ltRow x y = true) := (sortM_inv rs [] h (by simp) .nil).1
theorem mem_sortM {rs : List Row} (h : ∀ r ∈ rs, RVal r) (r : Row) : r ∈ sortM rs ↔ r ∈ rs := by
  have e := (sortM_inv rs [] h (by simp) .nil).2 r
  unfold sortM
  simpa using e
theorem insM_len (x : Row) : ∀ ys : List Row, (insM x ys).length ≤ ys.length + 1
  | [] => Nat.le_refl _
  | y :: ys => by
    have h := insM_len x ys
    unfold insM
    split
    · rw [List.length_cons, List.length_cons]
      omega
    · split
      · rw [List.length_cons]
        omega
      · exact Nat.le_refl _
theorem sortM_len (rs : List Row) : (sortM rs).length ≤ rs.length := by
  have h : ∀ (rs acc : List Row), (rs.foldl (fun acc x => insM x acc) acc).length ≤ rs.length + acc.length := by
    intro rs
    induction rs with
    | nil => intro acc; simp
    | cons x rs ih =>
      intro acc
      have h1 := ih (insM x acc)
      have h2 := insM_len x acc
      rw [List.foldl_cons, List.length_cons]
      omega
  have e := h rs []
  unfold sortM
  simpa using e

/-! ### the best of values -/
theorem best_inv {b : V → V → Bool} (tr : ∀ x y z, IsVal x → IsVal y → IsVal z → b x y = true → b y z = true → b x z = true) (ir : ∀ x, b x x = false) : ∀ (vs seen : List V) (a : V), (∀ v ∈ vs, IsVal v) → (∀ v ∈ seen, IsVal v) → a ∈ seen → (∀ x ∈ seen, b x a = false) →
    ∃ m, vs.foldl (fun acc x => if b x acc then x else acc) a = m ∧ m ∈ seen ++ vs ∧ ∀ x ∈ seen ++ vs, b x m = false
  | [], seen, a, _, _, h3, h4 => ⟨a, rfl, by simpa using h3, by simpa using h4⟩
  | v :: vs, seen, a, h1, h2, h3, h4 => by
    have iv := h1 v (by simp)
    have key : ∃ a', (if b v a then v else a) = a' ∧ a' ∈ seen ++ [v] ∧ ∀ x ∈ seen ++ [v], b x a' = false := by
      cases hb : b v a with
      | true =>
        refine ⟨v, rfl, by simp, fun x hx => ?_⟩
        rcases List.mem_append.mp hx with m | m
        · cases hxv : b x v with
          | false => rfl
          | true =>
            have := tr x v a (h2 x m) iv (h2 a h3) hxv hb
            rw [h4 x m] at this
            cases this
        · rw [List.mem_singleton.mp m]
          exact ir v
      | false =>
        refine ⟨a, rfl, by simp [h3], fun x hx => ?_⟩
        rcases List.mem_append.mp hx with m | m
        · exact h4 x m
        · rw [List.mem_singleton.mp m]
          exact hb
    obtain ⟨a', e, m1, m2⟩ := key
    obtain ⟨m, q1, q2, q3⟩ := best_inv tr ir vs (seen ++ [v]) a' (fun x hx => h1 x (by simp [hx])) (fun x hx => by
      rcases List.mem_append.mp hx with z | z
      · exact h2 x z
      · rw [List.mem_singleton.mp z]
        exact iv) m1 m2
    refine ⟨m, by rw [List.foldl_cons, e, q1], by simpa using q2, by simpa using q3⟩
theorem best_one {b : V → V → Bool} (tr : ∀ x y z, IsVal x → IsVal y → IsVal z → b x y = true → b y z = true → b x z = true) (ir : ∀ x, b x x = false) {v : V} {vs : List V} (h : ∀ x ∈ v :: vs, IsVal x) :
    ∃ m, bestM b (v :: vs) = [m] ∧ m ∈ v :: vs ∧ ∀ x ∈ v :: vs, b x m = false := by
  obtain ⟨m, q1, q2, q3⟩ := best_inv tr ir vs [v] v (fun x hx => h x (by simp [hx])) (fun x hx => h x (by simp at hx; simp [hx])) (by simp) (fun x hx => by
    rw [List.mem_singleton.mp hx]
    exact ir v)
  exact ⟨m, by show [_] = _; rw [q1], by simpa using q2, by simpa using q3⟩
theorem gt_trans (x y z : V) (hx : IsVal x) (hy : IsVal y) (hz : IsVal z) (h1 : ltV y x = true) (h2 : ltV z y = true) : ltV z x = true := ltV_trans hz hy hx h2 h1
/-- the first of the sorted is the least -/
theorem least_ok {vs ys : List V} (h : ∀ v ∈ vs, IsVal v) (p : ys.Perm vs) (s : ys.Pairwise fun x y => ltRow [y] [x] = false) : ys.take 1 = bestM ltV vs := by
  cases vs with
  | nil =>
    rw [List.Perm.eq_nil p]
    rfl
  | cons v vs =>
    obtain ⟨m, e, hm, hb⟩ := best_one (b := ltV) (fun x y z a b c => ltV_trans a b c) ltV_irrefl h
    rw [e]
    cases ys with
    | nil => exact absurd p.symm.eq_nil (List.cons_ne_nil _ _)
    | cons y ys =>
      have my := p.mem_iff.mpr hm
      have ym := p.mem_iff.mp (List.mem_cons_self (a := y) (l := ys))
      show [y] = [m]
      rcases List.mem_cons.mp my with q | q
      · rw [q]
      · have s1 := (List.pairwise_cons.mp s).1 m q
        have s2 := hb y ym
        by_cases e2 : m = y
        · rw [e2]
        · have s1' : (if m = y then ltRow [] [] else ltV m y) = false := s1
          rw [if_neg e2, ltV_tri (h m hm) (h y ym) e2, s2] at s1'
          cases s1'
/-- the last of the sorted is the greatest -/
theorem greatest_ok {vs ys : List V} (h : ∀ v ∈ vs, IsVal v) (p : ys.Perm vs) (s : ys.Pairwise fun x y => ltRow [y] [x] = false) : ys.drop (ys.length - 1) = bestM (fun a b => ltV b a) vs := by
  cases vs with
  | nil =>
    rw [List.Perm.eq_nil p]
    rfl
  | cons v vs =>
    obtain ⟨m, e, hm, hb⟩ := best_one (b := fun a b => ltV b a) (fun x y z a b c => gt_trans x y z a b c) ltV_irrefl h
    rw [e]
    have ne : ys ≠ [] := fun z => by
      rw [z] at p
      exact absurd p.symm.eq_nil (List.cons_ne_nil _ _)
    have el := List.dropLast_concat_getLast ne
    generalize ys.getLast ne = z at el
    have e3 : ys.drop (ys.length - 1) = [z] := by
      rw [← el, List.length_append]
      simp
    rw [e3]
    have my := p.mem_iff.mpr hm
    have ym := p.mem_iff.mp (show z ∈ ys by rw [← el]; simp)
    rw [← el] at my s
    rcases List.mem_append.mp my with q | q
    · have s1 := (List.pairwise_append.mp s).2.2 m q z (by simp)
      have s2 : ltV m z = false := hb z ym
      by_cases e2 : z = m
      · rw [e2]
      · have s1' : (if z = m then ltRow [] [] else ltV z m) = false := s1
        rw [if_neg e2, ltV_tri (h z ym) (h m hm) e2, s2] at s1'
        cases s1'
    · rw [List.mem_singleton.mp q]
end Tk
namespace Tk
theorem insM_here {x : Row} : ∀ {ys : List Row} {j : Nat} {y : Row}, (∀ y ∈ ys.take j, ltRow y x = true) → ys[j]? = some y → ltRow y x = false → insM x ys = if y = x then ys else ys.take j ++ [x] ++ ys.drop j
  | [], j, y, _, h, _ => by simp at h
  | z :: ys, 0, y, _, h, n => by
    have e : z = y := by simpa using h
    subst e
    show (if ltRow z x = true then z :: insM x ys else if z = x then z :: ys else x :: z :: ys) = _
    rw [if_neg (by rw [n]; decide)]
    simp
  | z :: ys, j + 1, y, h1, h, n => by
    have hz := h1 z (by simp)
    show (if ltRow z x = true then z :: insM x ys else if z = x then z :: ys else x :: z :: ys) = _
    rw [if_pos hz, insM_here (ys := ys) (j := j) (fun w hw => h1 w (by simp [hw])) (by simpa using h) n]
    split <;> simp
theorem insM_end {x : Row} : ∀ {ys : List Row}, (∀ y ∈ ys, ltRow y x = true) → insM x ys = ys ++ [x]
  | [], _ => rfl
  | z :: ys, h => by
    have hz := h z (by simp)
    show (if ltRow z x = true then z :: insM x ys else if z = x then z :: ys else x :: z :: ys) = _
    rw [if_pos hz, insM_end fun w hw => h w (by simp [hw])]
    rfl
theorem sortM_snoc (rs : List Row) (x : Row) : sortM (rs ++ [x]) = insM x (sortM rs) := by
  unfold sortM
  rw [List.foldl_append]
  rfl
end Tk

/-! ## TkTop -/
set_option Elab.async false
set_option linter.all false
set_option maxRecDepth 100000
set_option maxHeartbeats 1000000
/-! The text by places; what its top has written. -/
namespace Tk
open PySem PySem.Spec PyProof.Rows L2

def topS (i : Nat) : Stmt := PySem.Challenge.pw_turnshelves_k21_whole_answers.main.body.getD i (.Pass ⟨0, 0, 0, 0⟩)
/-- a def of the module, under its name, its arguments given by place -/
def Dn (K : PySem.W.Frag) (mg : Str → Option Value) (x : Str) (st : Stmt) (ps : List Str) : Prop := ∃ f fd, C8.Def K mg x st f fd ∧ Binds K fd ps []
/-- a method of the class -/
def Dm (K : PySem.W.Frag) (C : Addr) (x qual : Str) (st : Stmt) (ps : List Str) : Prop := ∃ f fd, Meth K C x f ∧ C8.Fun K x qual st f fd ∧ Binds K fd ps []
abbrev s_value_key : Stmt := topS 5
abbrev s_row_key : Stmt := topS 6
abbrev s_has_relation : Stmt := topS 8
abbrev s_names_in : Stmt := topS 9
abbrev s_check_relation : Stmt := topS 10
abbrev s_check_term : Stmt := topS 11
abbrev s_newly_bound : Stmt := topS 12
abbrev s_check : Stmt := topS 13
abbrev s_value_of : Stmt := topS 14
abbrev s_met : Stmt := topS 15
abbrev s_meetings : Stmt := topS 16
abbrev s_compared : Stmt := topS 17
abbrev s_total_of : Stmt := topS 18
abbrev s_ways_behind : Stmt := topS 19
abbrev s_answer : Stmt := topS 20
abbrev s_law_next : Stmt := topS 24
abbrev s_law_same : Stmt := topS 25
abbrev s_law_value : Stmt := topS 26
abbrev s_law_order : Stmt := topS 27
abbrev s_law_row_order : Stmt := topS 28
abbrev s_law_sorted : Stmt := topS 29
abbrev s_law_relations : Stmt := topS 30
abbrev s_law_state : Stmt := topS 31
abbrev s_law_term : Stmt := topS 32
abbrev s_law_literal : Stmt := topS 33
abbrev s_law_known : Stmt := topS 34
abbrev s_law_settled : Stmt := topS 35
abbrev s_law_body : Stmt := topS 36
abbrev s_law_meeting : Stmt := topS 37
abbrev s_law_worth : Stmt := topS 38
abbrev s_law_compared : Stmt := topS 39
abbrev s_law_totals : Stmt := topS 40
abbrev s_law_behind : Stmt := topS 41
abbrev s_law_columns : Stmt := topS 42
abbrev s_law_answer : Stmt := topS 43
abbrev s_law_many : Stmt := topS 45
abbrev s_law : Stmt := topS 46
abbrev s_minit : Stmt := inClass (topS 22) 0
abbrev s_mput : Stmt := inClass (topS 22) 1
abbrev s_morder_facts : Stmt := inClass (topS 22) 3
abbrev s_mhas : Stmt := inClass (topS 22) 5
/-- the scopes of the two comprehensions that hold another one -/
abbrev scC_answer : Scope := ⟨.function, [(".0", .local), ("way", .cell), ("tuple", .globalImplicit), ("columns", .cell)], false, false, []⟩
abbrev scC_law_answer : Scope := ⟨.function, [(".0", .local), ("_law_way", .cell), ("tuple", .globalImplicit), ("_law_columns_here", .cell)], false, false, []⟩
structure Tx (K : PySem.W.Frag) (mg : Str → Option Value) (C : Addr) : Prop where
  n_isinstance : mg "isinstance" = none
  n_int : mg "int" = none
  n_str : mg "str" = none
  n_bool : mg "bool" = none
  n_tuple : mg "tuple" = none
  n_list : mg "list" = none
  n_dict : mg "dict" = none
  n_len : mg "len" = none
  n_range : mg "range" = none
  n_zip : mg "zip" = none
  n_sorted : mg "sorted" = none
  n_sum : mg "sum" = none
  n_any : mg "any" = none
  d_value_key : Dn K mg "value_key" s_value_key ["value"]
  d_row_key : Dn K mg "row_key" s_row_key ["row"]
  d_has_relation : Dn K mg "has_relation" s_has_relation ["literal"]
  d_names_in : Dn K mg "names_in" s_names_in ["terms"]
  d_check_relation : Dn K mg "check_relation" s_check_relation ["state", "literal"]
  d_check_term : Dn K mg "check_term" s_check_term ["term", "known"]
  d_newly_bound : Dn K mg "newly_bound" s_newly_bound ["literal", "bound"]
  d_check : Dn K mg "check" s_check ["state", "body"]
  d_value_of : Dn K mg "value_of" s_value_of ["term", "way"]
  d_met : Dn K mg "met" s_met ["terms", "row", "way"]
  d_meetings : Dn K mg "meetings" s_meetings ["state", "literal", "way"]
  d_compared : Dn K mg "compared" s_compared ["operator", "first", "second"]
  d_total_of : Dn K mg "total_of" s_total_of ["literal", "found"]
  d_ways_behind : Dn K mg "ways_behind" s_ways_behind ["state", "literal", "way"]
  d_answer : Dn K mg "answer" s_answer ["state", "body"]
  d_law_next : Dn K mg "_law_next" s_law_next ["_law_state_here", "_law_limit"]
  d_law_same : Dn K mg "_law_same" s_law_same ["_law_actual", "_law_expected"]
  d_law_value : Dn K mg "_law_value" s_law_value ["_law_state_here"]
  d_law_order : Dn K mg "_law_order" s_law_order ["_law_value_here"]
  d_law_row_order : Dn K mg "_law_row_order" s_law_row_order ["_law_row"]
  d_law_sorted : Dn K mg "_law_sorted" s_law_sorted ["_law_rows"]
  d_law_relations : Dn K mg "_law_relations" s_law_relations ["_law_state_here", "_law_most"]
  d_law_state : Dn K mg "_law_state" s_law_state ["_law_relations_here", "_law_facts"]
  d_law_term : Dn K mg "_law_term" s_law_term ["_law_state_here", "_law_bound"]
  d_law_literal : Dn K mg "_law_literal" s_law_literal ["_law_state_here", "_law_relations_here", "_law_bound", "_law_faults"]
  d_law_known : Dn K mg "_law_known" s_law_known ["_law_term_here", "_law_bound"]
  d_law_settled : Dn K mg "_law_settled" s_law_settled ["_law_term_here", "_law_bound"]
  d_law_body : Dn K mg "_law_body" s_law_body ["_law_state_here", "_law_relations_here", "_law_faults"]
  d_law_meeting : Dn K mg "_law_meeting" s_law_meeting ["_law_terms", "_law_row", "_law_way"]
  d_law_worth : Dn K mg "_law_worth" s_law_worth ["_law_term_here", "_law_way"]
  d_law_compared : Dn K mg "_law_compared" s_law_compared ["_law_operator", "_law_first", "_law_second"]
  d_law_totals : Dn K mg "_law_totals" s_law_totals ["_law_literal_here", "_law_ways"]
  d_law_behind : Dn K mg "_law_behind" s_law_behind ["_law_facts", "_law_literal_here", "_law_way"]
  d_law_columns : Dn K mg "_law_columns" s_law_columns ["_law_body_here"]
  d_law_answer : Dn K mg "_law_answer" s_law_answer ["_law_facts", "_law_body_here"]
  d_law_many : Dn K mg "_law_many" s_law_many ["_law_state_here"]
  d_law : Dn K mg "law" s_law ["_law_script"]
  cl : Cls K C
  no_relations : NoAttr K C "relations"
  no_facts : NoAttr K C "facts"
  no_structures : NoAttr K C "structures"
  no_layouts : NoAttr K C "layouts"
  m_put : Dm K C "_put" "State._put" s_mput ["self", "item"]
  m_order_facts : Dm K C "_order_facts" "State._order_facts" s_morder_facts ["self"]
  m_has : Dm K C "has" "State.has" s_mhas ["self", "relation", "row"]
  init : ∃ f fd, Mk K C f ∧ C8.Fun K "__init__" "State.__init__" s_minit f fd ∧ Binds K fd ["self", "items"] []
  gC : mg "State" = some (.ref C)
/-- the promise of a def, by its body -/
theorem cal {P : Program} {w : World} {K : PySem.W.Frag} {mg : Str → Option Value} {base : Heap} {x : Str} {st : Stmt} {N ps : List Str} {k : Nat} {sp : Sp} (D : Dn K mg x st ps) (S : C8.scC N ps (C8.fnScope st) = true) (len : ∀ vs H Q E, sp vs H Q E → vs.length = ps.length)
    (hbody : ∀ (f : Addr) (cdv : Value) (A : Around) (outer : List Env) (s : Shared) (H : Hp) (vs : List V) (Q : VK) (E : XK), N.Nodup → Room k (A.deeper (envOfC x (C8.fnScope st) s.heap.objs.size f cdv)) → sp vs H Q E →
      ∃ t, PSs (cxOf C8.CX0 P w K mg base N x (C8.fnScope st) f cdv A outer s H E).nox (C8.fnBody st) t ∧ t { nx := fun _ H' => Q .non H', rt := Q } (start N vs) H) : C8.Cal P w K mg base (k + 1) x sp [] := by
  obtain ⟨f, fd, D, b⟩ := D
  exact C8.cal0 D b .nil (C8.fnScope_by S) len fun cdv A outer s H vs Q E hr h => hbody f cdv A outer s H vs Q E (C8.fnScope_by S).nd hr h
theorem met {P : Program} {w : World} {K : PySem.W.Frag} {mg : Str → Option Value} {base : Heap} {C : Addr} {x q : Str} {st : Stmt} {N ps : List Str} {k : Nat} {sp : Sp} (c : Cls K C) (D : Dm K C x q st ps) (S : C8.scC N ps (C8.fnScope st) = true) (len : ∀ vs H Q E, sp vs H Q E → vs.length = ps.length)
    (hbody : ∀ (f : Addr) (cdv : Value) (A : Around) (outer : List Env) (s : Shared) (H : Hp) (vs : List V) (Q : VK) (E : XK), N.Nodup → Room k (A.deeper (envOfC q (C8.fnScope st) s.heap.objs.size f cdv)) → sp vs H Q E →
      ∃ t, PSs (cxOf C8.CX0 P w K mg base N q (C8.fnScope st) f cdv A outer s H E).nox (C8.fnBody st) t ∧ t { nx := fun _ H' => Q .non H', rt := Q } (start N vs) H) : C8.Met P w K mg base (k + 1) C x sp [] := by
  obtain ⟨f, fd, M, F, b⟩ := D
  exact C8.met0 c M F b (C8.fnScope_by S) len fun cdv A outer s H vs Q E hr h => hbody f cdv A outer s H vs Q E (C8.fnScope_by S).nd hr h
end Tk

/-! ## TkHelp -/
set_option Elab.async false
set_option linter.all false
set_option maxRecDepth 100000
set_option maxHeartbeats 1000000
/-! Small answers. -/
namespace Tk
open PySem PySem.Spec PyProof.Rows L2

theorem r_isi {K : PySem.W.Frag} {H : Hp} {x : V} {n m : String} {b : Bool} {Q : VK} (t : TyX K H x (.type m)) (e : kitB m n = some b) (q : Q (.bl b) H) : rIsi K [x, .ty n] H Q := ⟨x, .ty n, .type m, .type n, b, rfl, .ty n, t, kit_ty e, q⟩
theorem k_ii : kitB "int" "int" = some true := by decide +kernel
theorem k_si : kitB "str" "int" = some false := by decide +kernel
theorem k_is' : kitB "int" "str" = some false := by decide +kernel
theorem k_ss : kitB "str" "str" = some true := by decide +kernel
theorem k_ib : kitB "int" "bool" = some false := by decide +kernel
theorem k_sb : kitB "str" "bool" = some false := by decide +kernel
theorem k_tb : kitB "tuple" "bool" = some false := by decide +kernel
theorem k_lb : kitB "list" "bool" = some false := by decide +kernel
theorem k_ti : kitB "tuple" "int" = some false := by decide +kernel
theorem k_li : kitB "list" "int" = some false := by decide +kernel
theorem k_ts : kitB "tuple" "str" = some false := by decide +kernel
theorem k_ls : kitB "list" "str" = some false := by decide +kernel
theorem k_tt : kitB "tuple" "tuple" = some true := by decide +kernel
theorem k_lt : kitB "list" "tuple" = some false := by decide +kernel
theorem k_tl : kitB "tuple" "list" = some false := by decide +kernel
theorem k_ll : kitB "list" "list" = some true := by decide +kernel
theorem sz_ok {n : Nat} (h : n ≤ 100000) : n ≤ sizeLine := Nat.le_trans h (by decide)
theorem sz_ok' {n : Nat} (h : n < 100000) : n < sizeLine := Nat.lt_of_lt_of_le h (by decide)
section
variable {a b c d e : V}
theorem z0 : ([] : List V).length ≤ sizeLine := Nat.zero_le _
theorem z1 : [a].length ≤ sizeLine := sz_ok (by show 1 ≤ 100000; decide)
theorem z2 : [a, b].length ≤ sizeLine := sz_ok (by show 2 ≤ 100000; decide)
theorem z3 : [a, b, c].length ≤ sizeLine := sz_ok (by show 3 ≤ 100000; decide)
theorem z4 : [a, b, c, d].length ≤ sizeLine := sz_ok (by show 4 ≤ 100000; decide)
theorem z5 : [a, b, c, d, e].length ≤ sizeLine := sz_ok (by show 5 ≤ 100000; decide)
end
/-! the kit's rules, K named -/
section
variable (K : PySem.W.Frag) {X : Cx}
theorem ixT (h : X.K = K := by rfl) : IxR X (rIxT K) := by
  subst h
  exact ix_tup
theorem ixL (h : X.K = K := by rfl) : IxR X (rIxL K) := by
  subst h
  exact ix_list
theorem ixS (h : X.K = K := by rfl) : IxR X (rIx K) := by
  subst h
  exact ix_seq
theorem inS (h : X.K = K := by rfl) : OpR X (compareOp .In) (rIn K false) := by
  subst h
  exact op_in_seq
theorem ninS (h : X.K = K := by rfl) : OpR X (compareOp .NotIn) (rIn K true) := by
  subst h
  exact op_notIn_seq
theorem inD (hu : X.A.units + 65 < cLine) (h : X.K = K := by rfl) : OpR X (compareOp .In) (rInD K) := by
  subst h
  exact op_inD hu
theorem eqD (hu : X.A.units + 64 < cLine) (h : X.K = K := by rfl) : OpR X (compareOp .Eq) (rEqD K) := by
  subst h
  exact op_eqD hu
theorem isiK (h : X.K = K := by rfl) : CallR X (.builtin "isinstance") (rIsi K) := by
  subst h
  exact call_isi
def rLenK : List V → Hp → VK → Prop := fun xs H Q => ∃ p ys, xs = [.ref p] ∧ (SqL K H p ys ∨ SqT K H p ys) ∧ Q (.int ys.length) H
theorem lenK (h : X.K = K := by rfl) : CallR X (.builtin "len") (rLenK K) := by
  subst h
  exact call_len_seq
def rTupK : List V → Hp → VK → Prop := fun xs H Q => ∃ p ys, xs = [.ref p] ∧ SqL K H p ys ∧ ∀ l, H l = none → Q (.ref l) (upd H l (.tup ys))
theorem tupK (h : X.K = K := by rfl) : CallR X (.type "tuple") (rTupK K) := by
  subst h
  intro pins s σ H xs us Q I r q
  obtain ⟨p, ys, e, q1, q2⟩ := q
  exact call_tuple_of pins s σ H xs us Q I r ⟨p, ys, e, .inl ⟨q1, q2⟩⟩
def rLstK : List V → Hp → VK → Prop := fun xs H Q => ∃ p ys, xs = [.ref p] ∧ SqL K H p ys ∧ ∀ l, H l = none → Q (.ref l) (upd H l (.lst ys))
theorem lstK (h : X.K = K := by rfl) : CallR X (.type "list") (rLstK K) := by
  subst h
  intro pins s σ H xs us Q I r q
  obtain ⟨p, ys, e, q1, q2⟩ := q
  exact call_list_of pins s σ H xs us Q I r ⟨p, ys, e, .inl q1, q2⟩
theorem slT (h : X.K = K := by rfl) : SlR X (rSlA K) := by
  subst h
  exact sl_tupA
theorem slL (h : X.K = K := by rfl) : SlR X (rSlL K) := by
  subst h
  exact sl_list
theorem catT (h : X.K = K := by rfl) : OpR X (binaryOp .Add) (rCatA K) := by
  subst h
  exact op_catA
theorem anyK (hc : X.calm = true) (h : X.K = K := by rfl) : CallR X (.builtin "any") (rAny K) := by
  subst h
  exact cr_any hc
theorem sumK (hc : X.calm = true) (h : X.K = K := by rfl) : CallR X (.builtin "sum") (rSum K) := by
  subst h
  exact cr_sum hc
theorem getL (h : X.K = K := by rfl) : PGet X (rIxL K) := by
  subst h
  exact pget_list
variable {l e tg : Expr} {tl ta : TE} {f : Str} {pos : Pos}
theorem fldK (he : PE X e ta) (hb : attributeBase e f X.env (eval e X.env) = eval e X.env) (h : X.K = K := by rfl) : PE X (.Attribute e f pos) (tFld K ta f) := by
  subst h
  exact pe_fld he hb
theorem piL (hl : PE X l tl) (h : X.K = K := by rfl) : PI X tg l (iList K tl) := by
  subst h
  exact pi_list hl
theorem piT (hl : PE X l tl) (h : X.K = K := by rfl) : PI X tg l (iTup K tl) := by
  subst h
  exact pi_tup hl
theorem pgT {es : List Expr} {k : Nat} {t : TGs} {n : Nat} (hc : X.calm = true) (h : PGs X es t) (hn : (assignEach es X.env).length = n := by rfl) (hst : (assignEach es X.env).findIdx? (·.1) = none := by rfl) (hK : X.K = K := by rfl) : PG X (.Tuple es k pos) (gTup K n t) := by
  subst hK
  exact pg_tup hc h hn hst
theorem zipK {e2 : Expr} {ta : TA} {p pos tpos : Pos} {elts : List Expr} {kk : Nat} (hg : Gl X "zip") (hm : X.mg "zip" = none) (ha : PA X [e, e2] ta)
    (hs : starEach [e, e2] X.env = (false, eval e X.env) :: starEach [e2] X.env := by rfl) (hpl : (backTo pos (starEach [e2] X.env)).any (·.1) = false := by rfl) (hK : X.K = K := by rfl) :
    PI X (.Tuple elts kk tpos) (.Call (.Name "zip" p) [e, e2] [] pos) (RZ.iZipA K ta) := by
  subst hK
  exact RZ.pi_zipA hg hm ha hs hpl
end
theorem sqT {K : PySem.W.Frag} {H : Hp} {a : Addr} {xs : List V} (h : H a = some (.tup xs)) : SqT K H a xs := Or.inl (Or.inl h)
theorem sqL {K : PySem.W.Frag} {H : Hp} {a : Addr} {xs : List V} (h : H a = some (.lst xs)) : SqL K H a xs := Or.inl (Or.inl h)
theorem scal_val {v u : V} (hv : IsVal v) (hu : IsVal u) : scal v u = true := by
  rcases isVal_cases hv with ⟨i, rfl⟩ | ⟨x, rfl, _⟩ <;> rcases isVal_cases hu with ⟨j, rfl⟩ | ⟨y, rfl, _⟩ <;> rfl
theorem flat_val {v : V} (hv : IsVal v) : flatV v = true := by
  rcases isVal_cases hv with ⟨i, rfl⟩ | ⟨x, rfl, _⟩ <;> rfl
theorem inV_str (x : Str) (xs : List Str) : inV (.str x) (xs.map V.str) = decide (x ∈ xs) := by
  unfold inV
  induction xs with
  | nil => rfl
  | cons y ys ih =>
    rw [List.map_cons, List.any_cons, ih]
    show (y == x || _) = _
    by_cases e : y = x
    · simp [e]
    · have e' : ¬ x = y := fun q => e q.symm
      simp [e, e']
theorem flat_strs (xs : List Str) : (xs.map V.str).all flatV = true := by
  rw [List.all_eq_true]
  intro y hy
  obtain ⟨z, _, rfl⟩ := List.mem_map.mp hy
  rfl
theorem same_len {α β : Type} {F : α → β → Prop} {a : List α} {b : List β} (h : Paired F a b) : a.length = b.length := Paired.length h
theorem getElem?_range {α : Type} {xs : List α} {i : Nat} {x : α} (h : xs[i]? = some x) : i < xs.length := (List.getElem?_eq_some_iff.mp h).1
theorem take_snoc {α : Type} {xs : List α} {i : Nat} {x : α} (h : xs[i]? = some x) : xs.take (i + 1) = xs.take i ++ [x] := by
  rw [List.take_add_one, h]
  rfl
end Tk
namespace Tk
open PySem PySem.Spec PyProof.Rows L2
section
variable {α : Type} [DecidableEq α] {a b : α} {A B : Prop}
theorem ifEq (h : a = b) (hA : A) : if decide (a = b) = true then A else B := by
  rw [decide_eq_true h]
  exact iteT hA
theorem ifNe (h : a ≠ b) (hB : B) : if decide (a = b) = true then A else B := by
  rw [decide_eq_false h]
  exact iteF hB
theorem ifNEq (h : a = b) (hB : B) : if (!decide (a = b)) = true then A else B := by
  rw [decide_eq_true h]
  exact iteF hB
theorem ifNNe (h : a ≠ b) (hA : A) : if (!decide (a = b)) = true then A else B := by
  rw [decide_eq_false h]
  exact iteT hA
theorem ifIs {c : Bool} (h : c = true) (hA : A) : if c = true then A else B := by
  rw [h]
  exact iteT hA
theorem ifNot {c : Bool} (h : c = false) (hB : B) : if c = true then A else B := by
  rw [h]
  exact iteF hB
end
/-- a State at x: what it knows of relations and facts -/
def IsState (C : Addr) (H : Hp) (x : V) (R : Rels) (F : Facts) : Prop := ∃ sa dx fs y1 y2, x = .ref sa ∧ H sa = some (.ins C dx fs) ∧ fs.lookup ("relations" : Str) = some y1 ∧ IsRels H y1 R ∧ fs.lookup ("facts" : Str) = some y2 ∧ IsFacts H y2 F
theorem IsState.mono {C : Addr} {H H' : Hp} {x : V} {R : Rels} {F : Facts} (s : Same H H') (h : IsState C H x R F) : IsState C H' x R F := by
  obtain ⟨sa, dx, fs, y1, y2, e, h1, h2, h3, h4, h5⟩ := h
  exact ⟨sa, dx, fs, y1, y2, e, s _ _ h1, h2, h3.mono s, h4, h5.mono s⟩
/-- the first word, the last two things of a literal that asks a relation -/
def relOf : Lit → Option (Str × List Tm)
  | .fact r ts => some (r, ts)
  | .neg r ts => some (r, ts)
  | .cnt _ r ts => some (r, ts)
  | .tot _ _ _ r ts => some (r, ts)
  | .cmp _ _ _ => none
def wordOf : Lit → Str
  | .fact _ _ => "fact"
  | .neg _ _ => "not"
  | .cmp _ _ _ => "compare"
  | .cnt _ _ _ => "count"
  | .tot f _ _ _ _ => f
theorem lit_word {H : Hp} {l : Lit} {xs : List V} (h : LitXs H l xs) : atI xs 0 = some (.str (wordOf l)) := by
  cases l with
  | fact r ts =>
    obtain ⟨z, rfl, _⟩ := h
    rfl
  | neg r ts =>
    obtain ⟨z, rfl, _⟩ := h
    rfl
  | cmp op t u =>
    obtain ⟨y, z, rfl, _⟩ := h
    rfl
  | cnt v r ts =>
    obtain ⟨z, rfl, _⟩ := h
    rfl
  | tot f v t r ts =>
    obtain ⟨y, z, rfl, _⟩ := h
    rfl
theorem tot_words {f : Str} (h : isTotF f) : f ≠ "compare" ∧ f ≠ "fact" ∧ f ≠ "not" ∧ f ≠ "count" := by
  rcases h with rfl | rfl | rfl <;> decide +kernel
theorem cmp_word {l : Lit} (h : ∀ f v t r ts, l = .tot f v t r ts → isTotF f) : decide (V.str (wordOf l) = V.str "compare") = (relOf l).isNone := by
  cases l with
  | tot f v t r ts =>
    have e := (tot_words (h _ _ _ _ _ rfl)).1
    have e' : V.str f ≠ V.str "compare" := fun z => e (by injection z)
    exact decide_eq_false e'
  | fact r ts =>
    show decide (V.str "fact" = V.str "compare") = false
    decide +kernel
  | neg r ts =>
    show decide (V.str "not" = V.str "compare") = false
    decide +kernel
  | cmp op t u =>
    show decide (V.str "compare" = V.str "compare") = true
    decide +kernel
  | cnt v r ts =>
    show decide (V.str "count" = V.str "compare") = false
    decide +kernel
/-- the last two of a literal that asks a relation -/
theorem lit_rel {H : Hp} {l : Lit} {xs : List V} {r : Str} {ts : List Tm} (h : LitXs H l xs) (e : relOf l = some (r, ts)) : ∃ zs z, xs = zs ++ [.str r, z] ∧ zs ≠ [] ∧ zs.length ≤ 3 ∧ IsTms H z ts := by
  cases l with
  | fact r ts =>
    obtain ⟨z, rfl, h⟩ := h
    cases e
    exact ⟨[_], z, rfl, List.cons_ne_nil _ _, by simp, h⟩
  | neg r ts =>
    obtain ⟨z, rfl, h⟩ := h
    cases e
    exact ⟨[_], z, rfl, List.cons_ne_nil _ _, by simp, h⟩
  | cmp op t u => cases e
  | cnt v r ts =>
    obtain ⟨z, rfl, h⟩ := h
    cases e
    exact ⟨[_, _], z, rfl, List.cons_ne_nil _ _, by simp, h⟩
  | tot f v t r ts =>
    obtain ⟨y, z, rfl, _, h⟩ := h
    cases e
    exact ⟨[_, _, _], z, rfl, List.cons_ne_nil _ _, by simp, h⟩
theorem sIx_m2 {zs : List V} {y z : V} : HT.sIx (zs ++ [y, z]).length 0 (some (-2)) = zs.length := by
  unfold HT.sIx
  simp
  try omega
theorem cut_m2 {zs : List V} {y z : V} : cutV (zs ++ [y, z]) (some (-2)) none = [y, z] := by
  unfold cutV
  rw [sIx_m2]
  have e : HT.sIx (zs ++ [y, z]).length (zs ++ [y, z]).length none = zs.length + 2 := by simp [HT.sIx]
  rw [e]
  simp
theorem at_m1 {zs : List V} {y z : V} : atI (zs ++ [y, z]) (-1) = some z := by
  unfold atI ixN
  rw [if_neg (by decide), if_pos (by simp; omega)]
  have e : (-1 + ((zs ++ [y, z]).length : Int)).toNat = zs.length + 1 := by simp; omega
  rw [e]
  show (zs ++ [y, z])[zs.length + 1]? = some z
  rw [List.getElem?_append_right (by omega)]
  simp
theorem at_m2 {zs : List V} {y z : V} : atI (zs ++ [y, z]) (-2) = some y := by
  unfold atI ixN
  rw [if_neg (by decide), if_pos (by simp; omega)]
  have e : (-2 + ((zs ++ [y, z]).length : Int)).toNat = zs.length := by simp; omega
  rw [e]
  show (zs ++ [y, z])[zs.length]? = some y
  rw [List.getElem?_append_right (by omega)]
  simp
end Tk
namespace Tk
open PySem PySem.Spec PyProof.Rows L2
def tmXs : Tm → List V
  | .val v => [.str "value", v]
  | .var x => [.str "variable", .str x]
  | .any => [.str "any"]
def tw : Tm → Str
  | .val _ => "value"
  | .var _ => "variable"
  | .any => "any"
theorem tmHO_xs (t : Tm) : tmHO t = .tup (tmXs t) := by cases t <;> rfl
theorem tmXs0 (t : Tm) : atI (tmXs t) 0 = some (.str (tw t)) := by cases t <;> rfl
theorem tw_val {t : Tm} (h : tw t = "value") : ∃ v, t = .val v := by
  cases t with
  | val v => exact ⟨v, rfl⟩
  | var x => exact absurd h (by show ¬ ("variable" : Str) = "value"; decide +kernel)
  | any => exact absurd h (by show ¬ ("any" : Str) = "value"; decide +kernel)
theorem tw_var {t : Tm} (h : tw t = "variable") : ∃ v, t = .var v := by
  cases t with
  | var v => exact ⟨v, rfl⟩
  | val x => exact absurd h (by show ¬ ("value" : Str) = "variable"; decide +kernel)
  | any => exact absurd h (by show ¬ ("any" : Str) = "variable"; decide +kernel)
theorem tw_any {t : Tm} (h : tw t = "any") : t = .any := by
  cases t with
  | any => rfl
  | val x => exact absurd h (by show ¬ ("value" : Str) = "any"; decide +kernel)
  | var x => exact absurd h (by show ¬ ("variable" : Str) = "any"; decide +kernel)
theorem tw_nval {t : Tm} (h : tw t ≠ "value") (v : V) : t ≠ .val v := fun e => h (by rw [e]; rfl)
theorem tw_nvar {t : Tm} (h : tw t ≠ "variable") (v : Str) : t ≠ .var v := fun e => h (by rw [e]; rfl)
theorem dec_strV {a b : Str} : decide (V.str a = V.str b) = decide (a = b) := by
  by_cases e : a = b
  · simp [e]
  · have e' : V.str a ≠ V.str b := fun z => e (by injection z)
    simp [e, e']
theorem sq {t u : TS} {D : Ends} {σ : L2.St} {H : Hp} (h : t { D with nx := u D } σ H) : tSeq t u D σ H := h
section
variable {K : PySem.W.Frag} {i : Nat} {σ : L2.St} {H : Hp} {x : V} {t : Tm} {l : Lit} {z : Str} {tu tv : TS} {D : Ends}
/-- if t[0] == word, t a term -/
theorem s_tm (e : σ[i]? = some (some x)) (h : IsTm H x t) (h1 : tw t = z → tu D σ H) (h2 : tw t ≠ z → tv D σ H) : tIfS (tTest (tOp rEq (tOp (rIxT K) (tVar i) (tC (.int 0))) (tC (.str z)))) tu tv D σ H := by
  obtain ⟨a, rfl, ha⟩ := h
  rw [tmHO_xs] at ha
  refine ⟨_, e, _, _, _, _, rfl, rfl, sqT ha, tmXs0 t, rfl, _, rfl, ?_⟩
  show if decide (V.str (tw t) = V.str z) = true then tu D σ H else tv D σ H
  rw [dec_strV]
  by_cases q : tw t = z
  · exact ifEq q (h1 q)
  · exact ifNe q (h2 q)
/-- .., a literal -/
theorem s_lit (e : σ[i]? = some (some x)) (h : IsLit H x l) (h1 : wordOf l = z → tu D σ H) (h2 : wordOf l ≠ z → tv D σ H) : tIfS (tTest (tOp rEq (tOp (rIxT K) (tVar i) (tC (.int 0))) (tC (.str z)))) tu tv D σ H := by
  obtain ⟨a, xs, rfl, ha, hl⟩ := h
  refine ⟨_, e, _, _, _, _, rfl, rfl, sqT ha, lit_word hl, rfl, _, rfl, ?_⟩
  show if decide (V.str (wordOf l) = V.str z) = true then tu D σ H else tv D σ H
  rw [dec_strV]
  by_cases q : wordOf l = z
  · exact ifEq q (h1 q)
  · exact ifNe q (h2 q)
theorem s_litN (e : σ[i]? = some (some x)) (h : IsLit H x l) (h1 : wordOf l ≠ z → tu D σ H) (h2 : wordOf l = z → tv D σ H) : tIfS (tTest (tOp rNe (tOp (rIxT K) (tVar i) (tC (.int 0))) (tC (.str z)))) tu tv D σ H := by
  obtain ⟨a, xs, rfl, ha, hl⟩ := h
  refine ⟨_, e, _, _, _, _, rfl, rfl, sqT ha, lit_word hl, rfl, _, rfl, ?_⟩
  show if (!decide (V.str (wordOf l) = V.str z)) = true then tu D σ H else tv D σ H
  rw [dec_strV]
  by_cases q : wordOf l = z
  · exact ifNEq q (h2 q)
  · exact ifNNe q (h1 q)
end
/-- a list that a comprehension fills, all else standing -/
theorem lc_step {H H4 : Hp} {D : Addr} {acc : List V} {y : V} (s : Same H H4) (hD : H D = none) : Same H (upd H4 D (.lst (acc ++ [y]))) ∧ upd H4 D (.lst (acc ++ [y])) D = some (.lst (acc ++ [y])) := ⟨Same.mut s hD, upd_same⟩
theorem namesM_app (a b : List Tm) : namesM (a ++ b) = namesM a ++ namesM b := by
  induction a with
  | nil => rfl
  | cons t ts ih =>
    cases t with
    | var x =>
      show x :: namesM (ts ++ b) = x :: namesM ts ++ namesM b
      rw [ih]
      rfl
    | val v => exact ih
    | any => exact ih
theorem namesM_len (a : List Tm) : (namesM a).length ≤ a.length := by
  induction a with
  | nil => exact Nat.le_refl _
  | cons t ts ih =>
    cases t with
    | var x =>
      show (x :: namesM ts).length ≤ (Tm.var x :: ts).length
      rw [List.length_cons, List.length_cons]
      omega
    | val v =>
      show (namesM ts).length ≤ (Tm.val v :: ts).length
      rw [List.length_cons]
      omega
    | any =>
      show (namesM ts).length ≤ (Tm.any :: ts).length
      rw [List.length_cons]
      omega
theorem mem_names {x : Str} {ts : List Tm} : x ∈ namesM ts ↔ Tm.var x ∈ ts := by
  induction ts with
  | nil => simp [namesM]
  | cons t ts ih => cases t <;> simp [namesM, ih]
end Tk
namespace Tk
open PySem PySem.Spec PyProof.Rows L2
theorem dget1 {H : Hp} {a : Addr} {kvs : List (Key × V)} {k : Key} {v : V} (e : H a = some (.dK kvs)) (l : valV kvs k = some v) : DGet H a (kV k) (some v) := .inl ⟨kvs, k, .inl e, rfl, l.symm⟩
theorem dgetS {H : Hp} {a : Addr} {kvs : List (Key × V)} {k : Str} {v : V} (e : H a = some (.dK kvs)) (l : valV kvs (.inr k) = some v) : DGet H a (.str k) (some v) := .inl ⟨kvs, .inr k, .inl e, rfl, l.symm⟩
theorem dgetO {H : Hp} {a : Addr} {kvs : List (Key × V)} {k : Str} (e : H a = some (.dK kvs)) : DGet H a (.str k) (valV kvs (.inr k)) := .inl ⟨kvs, .inr k, .inl e, rfl, rfl⟩
theorem dgetZ {H : Hp} {a : Addr} {o : Obj} {kvs : List (Key × V)} {k : Str} {v : V} (e : H a = some (.frz o (.dK kvs))) (l : valV kvs (.inr k) = some v) : DGet H a (.str k) (some v) := .inl ⟨kvs, .inr k, .inr ⟨o, e⟩, rfl, l.symm⟩
end Tk
namespace Tk
open PySem PySem.Spec PyProof.Rows L2
def OkWord (l : Lit) : Prop := ∀ f v t r ts, l = .tot f v t r ts → isTotF f
theorem okLit_word {R : Rels} {ks : List Str} {l : Lit} (h : OkLit R ks l) : OkWord l := fun f v t r ts e => by
  subst e
  exact h.1
section
variable {l : Lit} (ok : OkWord l)
include ok
theorem word_cmp (h : wordOf l = "compare") : ∃ op t u, l = .cmp op t u := by
  cases l with
  | cmp op t u => exact ⟨op, t, u, rfl⟩
  | fact r ts => exact absurd h (by show ¬ ("fact" : Str) = "compare"; decide +kernel)
  | neg r ts => exact absurd h (by show ¬ ("not" : Str) = "compare"; decide +kernel)
  | cnt v r ts => exact absurd h (by show ¬ ("count" : Str) = "compare"; decide +kernel)
  | tot f v t r ts => exact absurd h (tot_words (ok _ _ _ _ _ rfl)).1
theorem word_fact (h : wordOf l = "fact") : ∃ r ts, l = .fact r ts := by
  cases l with
  | fact r ts => exact ⟨r, ts, rfl⟩
  | cmp op t u => exact absurd h (by show ¬ ("compare" : Str) = "fact"; decide +kernel)
  | neg r ts => exact absurd h (by show ¬ ("not" : Str) = "fact"; decide +kernel)
  | cnt v r ts => exact absurd h (by show ¬ ("count" : Str) = "fact"; decide +kernel)
  | tot f v t r ts => exact absurd h (tot_words (ok _ _ _ _ _ rfl)).2.1
theorem word_neg (h : wordOf l = "not") : ∃ r ts, l = .neg r ts := by
  cases l with
  | neg r ts => exact ⟨r, ts, rfl⟩
  | cmp op t u => exact absurd h (by show ¬ ("compare" : Str) = "not"; decide +kernel)
  | fact r ts => exact absurd h (by show ¬ ("fact" : Str) = "not"; decide +kernel)
  | cnt v r ts => exact absurd h (by show ¬ ("count" : Str) = "not"; decide +kernel)
  | tot f v t r ts => exact absurd h (tot_words (ok _ _ _ _ _ rfl)).2.2.1
theorem word_cnt (h : wordOf l = "count") : ∃ v r ts, l = .cnt v r ts := by
  cases l with
  | cnt v r ts => exact ⟨v, r, ts, rfl⟩
  | cmp op t u => exact absurd h (by show ¬ ("compare" : Str) = "count"; decide +kernel)
  | neg r ts => exact absurd h (by show ¬ ("not" : Str) = "count"; decide +kernel)
  | fact r ts => exact absurd h (by show ¬ ("fact" : Str) = "count"; decide +kernel)
  | tot f v t r ts => exact absurd h (tot_words (ok _ _ _ _ _ rfl)).2.2.2
end
theorem word_tot {l : Lit} (h1 : wordOf l ≠ "compare") (h2 : wordOf l ≠ "fact") (h3 : wordOf l ≠ "not") : (∃ v r ts, l = .cnt v r ts) ∨ ∃ f v t r ts, l = .tot f v t r ts := by
  cases l with
  | fact r ts => exact absurd rfl h2
  | neg r ts => exact absurd rfl h3
  | cmp op t u => exact absurd rfl h1
  | cnt v r ts => exact .inl ⟨v, r, ts, rfl⟩
  | tot f v t r ts => exact .inr ⟨f, v, t, r, ts, rfl⟩
theorem word_rel {l : Lit} (h1 : wordOf l ≠ "compare") : ∃ r ts, relOf l = some (r, ts) := by
  cases l with
  | cmp op t u => exact absurd rfl h1
  | _ => exact ⟨_, _, rfl⟩
theorem okLit_rel {R : Rels} {ks : List Str} {l : Lit} {r : Str} {ts : List Tm} (h : OkLit R ks l) (e : relOf l = some (r, ts)) : OkRel R r ts := by
  cases l with
  | cmp op t u => cases e
  | fact r ts =>
    cases e
    exact h
  | neg r ts =>
    cases e
    exact h.1
  | cnt v r ts =>
    cases e
    exact h.1
  | tot f v t r ts =>
    cases e
    exact h.2.1
end Tk
namespace Tk
open PySem PySem.Spec PyProof.Rows L2
theorem colsM_app (a b : List Lit) (ks : List Str) : colsM (a ++ b) ks = colsM b (colsM a ks) := by
  unfold colsM
  rw [List.foldl_append]
theorem okBody_at {R : Rels} : ∀ {b : List Lit} {ks : List Str} {i : Nat} {l : Lit}, OkBody R b ks → b[i]? = some l → OkLit R (colsM (b.take i) ks) l
  | l :: ls, ks, 0, m, h, e => by
    have e' : l = m := Option.some.inj e
    subst e'
    exact h.1
  | l :: ls, ks, i + 1, m, h, e => okBody_at (b := ls) (i := i) h.2 (by simpa using e)
theorem addN_len (ns : List Str) : ∀ ks : List Str, (ns.foldl addN ks).length ≤ ks.length + ns.length := by
  induction ns with
  | nil => exact fun ks => Nat.le_refl _
  | cons n ns ih =>
    intro ks
    have h := ih (addN ks n)
    have h2 : (addN ks n).length ≤ ks.length + 1 := by
      unfold addN
      split
      · omega
      · rw [List.length_append]
        exact Nat.le_refl _
    rw [List.foldl_cons, List.length_cons]
    omega
theorem newM_len {R : Rels} {ks : List Str} {l : Lit} (h : OkLit R ks l) : (newM l).length ≤ 10 := by
  cases l with
  | fact r ts => exact Nat.le_trans (namesM_len ts) h.2.1
  | neg r ts => exact Nat.zero_le _
  | cmp op t u => exact Nat.zero_le _
  | cnt v r ts => exact (by decide : 1 ≤ 10)
  | tot f v t r ts => exact (by decide : 1 ≤ 10)
theorem colsM_len {R : Rels} : ∀ {b : List Lit} {ks : List Str}, OkBody R b ks → (colsM b ks).length ≤ ks.length + 10 * b.length
  | [], ks, _ => Nat.le_add_right _ _
  | l :: ls, ks, h => by
    have h1 := colsM_len h.2
    have h2 := addN_len (newM l) ks
    have h3 := newM_len h.1
    show (colsM ls ((newM l).foldl addN ks)).length ≤ _
    rw [List.length_cons]
    omega
theorem okBody_take {R : Rels} : ∀ {b : List Lit} {ks : List Str} (i : Nat), OkBody R b ks → OkBody R (b.take i) ks
  | _, _, 0, _ => trivial
  | [], _, _ + 1, _ => trivial
  | _ :: _, _, i + 1, h => ⟨h.1, okBody_take i h.2⟩
theorem addN_take {ns : List Str} {ks : List Str} {i : Nat} {n : Str} (h : ns[i]? = some n) : (ns.take (i + 1)).foldl addN ks = addN ((ns.take i).foldl addN ks) n := by
  rw [take_snoc h, List.foldl_append]
  rfl
end Tk
namespace Tk
theorem addN_in {bs : List PySem.Str} {n : PySem.Str} (h : n ∈ bs) : addN bs n = bs := if_pos h
theorem addN_out {bs : List PySem.Str} {n : PySem.Str} (h : n ∉ bs) : addN bs n = bs ++ [n] := if_neg h
end Tk
namespace Tk
open PySem L2
theorem hu64 {A : Around} {k : Nat} (hr : Room k A) : A.units + 64 < cLine := hr.units
end Tk
namespace Tk
open PySem PySem.Spec PyProof.Rows L2
theorem putK_vals {P : V → Prop} {w : Way} {k : Key} {v : V} (h : ∀ p ∈ w, P p.2) (hv : P v) : ∀ p ∈ putK w k v, P p.2 := by
  intro p hp
  unfold putK at hp
  split at hp
  · obtain ⟨q, hq, e⟩ := List.mem_map.mp hp
    split at e
    · rw [← e]
      exact hv
    · rw [← e]
      exact h q hq
  · rcases List.mem_append.mp hp with hp | hp
    · exact h p hp
    · rw [List.mem_singleton.mp hp]
      exact hv
theorem drop_at {α : Type} {xs : List α} {i : Nat} {x : α} (h : xs[i]? = some x) : xs.drop i = x :: xs.drop (i + 1) := by
  obtain ⟨hi, e⟩ := List.getElem?_eq_some_iff.mp h
  rw [List.drop_eq_getElem_cons hi, e]
theorem valV_mem {w : Way} {k : Key} {u : V} (h : valV w k = some u) : ∃ p ∈ w, p.2 = u := by
  unfold valV at h
  obtain ⟨p, hp, e⟩ := Option.map_eq_some_iff.mp h
  exact ⟨p, List.mem_of_find?_eq_some hp, e⟩
end Tk
namespace Tk
open PySem PySem.Spec PyProof.Rows L2
theorem width_mem {R : Rels} {r : Str} {n : Nat} (h : widthOf R r = some n) : ∃ p ∈ R, p.1 = r ∧ p.2.length = n := by
  unfold widthOf at h
  obtain ⟨p, hp, e⟩ := Option.map_eq_some_iff.mp h
  exact ⟨p, List.mem_of_find?_eq_some hp, of_decide_eq_true (List.find?_some (p := fun q : Str × List V => decide (q.1 = r)) hp), e⟩
theorem rowsOf_mem {F : Facts} {r : Str} (h : r ∈ F.map (·.1)) : ∃ p ∈ F, p.1 = r ∧ p.2 = rowsOf F r := by
  unfold rowsOf
  cases e : F.find? fun p => decide (p.1 = r) with
  | none =>
    obtain ⟨p, hp, e2⟩ := List.mem_map.mp h
    have := List.find?_eq_none.mp e p hp
    exact absurd (decide_eq_true e2) this
  | some p => exact ⟨p, List.mem_of_find?_eq_some e, of_decide_eq_true (List.find?_some (p := fun q : Str × List Row => decide (q.1 = r)) e), rfl⟩
theorem facts_rel {R : Rels} {F : Facts} (of : OkFacts R F) {r : Str} {n : Nat} (h : widthOf R r = some n) : r ∈ F.map (·.1) := by
  obtain ⟨p, hp, e, _⟩ := width_mem h
  rw [of.names]
  exact List.mem_map.mpr ⟨p, hp, e⟩
theorem rows_ok {R : Rels} {F : Facts} (of : OkFacts R F) {r : Str} {n : Nat} (h : widthOf R r = some n) :
    (rowsOf F r).length ≤ 1000 ∧ ∀ x ∈ rowsOf F r, x.length = n ∧ ∀ v ∈ x, IsVal v := by
  obtain ⟨p, hp, e, e2⟩ := rowsOf_mem (facts_rel of h)
  rw [← e2]
  refine ⟨of.few p hp, fun x hx => ⟨?_, of.vals p hp x hx⟩⟩
  have q := of.width p hp x hx
  rw [e, h] at q
  exact (Option.some.inj q).symm
/-- Ways that may be none -/
def OWays (H : Hp) : List V → List (Option Way) → Prop := Paired fun x o => match o with
  | none => x = .non
  | some w => IsWay H x w
theorem OWays.mono {H H' : Hp} {xs : List V} {os : List (Option Way)} (s : WayS H H') (h : OWays H xs os) : OWays H' xs os := Paired.mapP h fun x o z => by
  cases o with
  | none => exact z
  | some w => exact IsWay.mono s z
end Tk
namespace Tk
open PySem L2
theorem tyes {σ : L2.St} {H : Hp} {Q : Bool → Hp → Prop} (h : Q true H) : tYes σ H Q := h
end Tk
namespace Tk
open PySem PySem.Spec PyProof.Rows L2
/-! a statement, then the rest: what follows stands for itself -/
section
variable {K : PySem.W.Frag} {i : Nat} {σ : L2.St} {H : Hp} {D : Ends} {u : TS} {te : TE} {g : TG} {c : TT} {tu : TS} {wi : TI} {tb : TS} {x : V} {t : Tm} {l : Lit} {z : Str}
theorem sqS (h : te σ H fun x H1 => u D (σ.set i (some x)) H1) : tSeq (tAsg te (gName i)) u D σ H := h
theorem sqG (h : te σ H fun x H1 => g x σ H1 (u D)) : tSeq (tAsg te g) u D σ H := h
theorem sqE (h : te σ H fun _ H1 => u D σ H1) : tSeq (tDrop te) u D σ H := h
theorem sqI (h : c σ H fun b H1 => if b = true then tu { D with nx := u D } σ H1 else u D σ H1) : tSeq (tIfS c tu tNext) u D σ H := h
theorem sqF (h : tFor wi g tb { D with nx := u D } σ H) : tSeq (tFor wi g tb) u D σ H := h
theorem s_tmS (e : σ[i]? = some (some x)) (h : IsTm H x t) (h1 : tw t = z → tu { D with nx := u D } σ H) (h2 : tw t ≠ z → u D σ H) : tSeq (tIfS (tTest (tOp rEq (tOp (rIxT K) (tVar i) (tC (.int 0))) (tC (.str z)))) tu tNext) u D σ H :=
  s_tm (tv := tNext) (D := { D with nx := u D }) e h h1 h2
theorem s_litS (e : σ[i]? = some (some x)) (h : IsLit H x l) (h1 : wordOf l = z → tu { D with nx := u D } σ H) (h2 : wordOf l ≠ z → u D σ H) : tSeq (tIfS (tTest (tOp rEq (tOp (rIxT K) (tVar i) (tC (.int 0))) (tC (.str z)))) tu tNext) u D σ H :=
  s_lit (tv := tNext) (D := { D with nx := u D }) e h h1 h2
end
end Tk
namespace Tk
open PySem PySem.Spec PyProof.Rows L2
/-- a def as the key of sorted -/
theorem keyF {P : Program} {w : World} {K : PySem.W.Frag} {mg : Str → Option Value} {base : Heap} {k : Nat} {x : Str} {sp : Sp} (c : C8.Cal P w K mg base k x sp []) : ∃ f, mg x = some (.ref f) ∧ FnR P w K mg base CX0 k f sp := by
  obtain ⟨f, fd, ps, ds, F, hm, kp, b, d⟩ := c.ex
  refine ⟨f, hm, ?_⟩
  have h := FnOk.raw F b d
  exact FnR.imp h fun vs H Q E q => by rw [List.append_nil]; exact q
theorem kapH_val {H : Hp} {v : V} (h : IsVal v) : kapH H v = [v] := by
  rcases isVal_cases h with ⟨i, rfl⟩ | ⟨x, rfl, _⟩ <;> rfl
theorem kapH_row {H : Hp} {a : Addr} {r : Row} (h : H a = some (.tup r)) : kapH H (.ref a) = r := by
  show (match H a with | some (.tup r) => r | _ => []) = r
  rw [h]
def noStr (vs : List V) : Prop := vs.any isStr = false
theorem ints_of {vs : List V} (h : ∀ v ∈ vs, IsVal v) (n : vs.any isStr = false) : vs = (vs.map intOf).map V.int := by
  induction vs with
  | nil => rfl
  | cons v vs ih =>
    rw [List.any_cons, Bool.or_eq_false_iff] at n
    rw [List.map_cons, List.map_cons, ← ih (fun x hx => h x (by simp [hx])) n.2]
    rcases isVal_cases (h v (by simp)) with ⟨i, rfl⟩ | ⟨x, rfl, _⟩
    · rfl
    · exact absurd n.1 (by show ¬ true = false; decide)
/-- lists of values, cut -/
theorem cut_first (ys : List V) : cutV ys none (some 1) = ys.take 1 := by
  unfold cutV
  have e1 : HT.sIx ys.length 0 none = 0 := rfl
  have e2 : HT.sIx ys.length ys.length (some 1) = min 1 ys.length := HT.sIx_nat _ _ 1
  rw [e1, e2, List.drop_zero, Nat.sub_zero]
  cases ys with
  | nil => rfl
  | cons y ys => simp
theorem cut_last (ys : List V) : cutV ys (some (-1)) none = ys.drop (ys.length - 1) := by
  unfold cutV
  have e1 : HT.sIx ys.length 0 (some (-1)) = ys.length - 1 := by
    show (if (-1 : Int) < 0 then ((-1 : Int) + (ys.length : Int)).toNat else min (-1 : Int).toNat ys.length) = ys.length - 1
    rw [if_pos (by decide)]
    omega
  have e2 : HT.sIx ys.length ys.length none = ys.length := rfl
  rw [e1, e2, List.take_of_length_le]
  simp
end Tk
namespace Tk
open PySem PySem.Spec PyProof.Rows L2
theorem sortK (K : PySem.W.Frag) {X : Cx} {k j : Nat} {f : Addr} {sp : Sp} (F : FnR X.prog X.w K X.mg X.base CX0 k f sp) (hr : Room j X.A) (hk : k + 2 ≤ j) (h : X.K = K := by rfl) : CallRK X (.builtin "sorted") [Str.ofString "key"] (rSortK K f sp) := by
  subst h
  exact cr_sortK F hr hk
end Tk
namespace Tk
open PySem L2
theorem hu65 {A : Around} {k : Nat} (hr : Room k A) : A.units + 65 < cLine := by
  have h := hr.un
  omega
end Tk
namespace Tk
open PySem L2
theorem nVV : V.str "value" ≠ V.str "variable" := by decide +kernel
theorem nVW : V.str "variable" ≠ V.str "value" := by decide +kernel
theorem nAV : V.str "any" ≠ V.str "value" := by decide +kernel
theorem nAW : V.str "any" ≠ V.str "variable" := by decide +kernel
theorem nVA : V.str "value" ≠ V.str "any" := by decide +kernel
theorem nWA : V.str "variable" ≠ V.str "any" := by decide +kernel
end Tk
namespace Tk
open PySem PySem.Spec PyProof.Rows L2
theorem at_l1 {zs : List V} {y z : V} : atI (zs ++ [y, z]) (((zs ++ [y, z]).length : Int) - 1) = some z := by
  have e : (((zs ++ [y, z]).length : Int) - 1) = ((zs.length + 1 : Nat) : Int) := by simp; omega
  rw [e]
  refine atI_nat ?_
  rw [List.getElem?_append_right (by omega)]
  simp
theorem at_l2 {zs : List V} {y z : V} : atI (zs ++ [y, z]) (((zs ++ [y, z]).length : Int) - 2) = some y := by
  have e : (((zs ++ [y, z]).length : Int) - 2) = ((zs.length : Nat) : Int) := by simp
  rw [e]
  refine atI_nat ?_
  rw [List.getElem?_append_right (by omega)]
  simp
end Tk

/-! ## TkWay -/
set_option Elab.async false
set_option linter.all false
set_option maxRecDepth 100000
set_option maxHeartbeats 1000000
/-! What stays true of ways. -/
namespace Tk
open PySem PySem.Spec PyProof.Rows L2
/-- a term has a worth in a way -/
def HasW (t : Tm) (wy : Way) : Prop := match t with
  | .val _ => True
  | .var x => (valV wy (.inr x)).isSome = true
  | .any => False
structure WayOk (ks : List Str) (b : Nat) (w : Way) : Prop where
  has : ∀ n ∈ ks, (valV w (.inr n)).isSome = true
  vals : ∀ p ∈ w, IsVal p.2
  len : w.length ≤ b
  nd : (w.map (·.1)).Nodup
theorem putK_nd {κ : Type} [DecidableEq κ] {w : List (κ × V)} {k : κ} {v : V} (h : (w.map (·.1)).Nodup) : ((putK w k v).map (·.1)).Nodup := by
  unfold putK
  split
  · have e : (w.map fun kv => if kv.1 = k then (kv.1, v) else kv).map (·.1) = w.map (·.1) := by
      rw [List.map_map]
      refine List.map_congr_left fun q _ => ?_
      show (if q.1 = k then (q.1, v) else q).1 = q.1
      split <;> rfl
    rw [e]
    exact h
  · rename_i hn
    rw [List.map_append, List.nodup_append]
    refine ⟨h, by simp, fun a ha b hb => ?_⟩
    have eb : b = k := by simpa using hb
    intro e
    refine hn (List.any_eq_true.mpr ?_)
    obtain ⟨q, hq, e2⟩ := List.mem_map.mp ha
    exact ⟨q, hq, decide_eq_true (by rw [e2, e, eb])⟩
theorem mem_putK {κ : Type} [DecidableEq κ] {w : List (κ × V)} {k j : κ} {v : V} : j ∈ (putK w k v).map (·.1) ↔ j ∈ w.map (·.1) ∨ j = k := by
  unfold putK
  split
  · rename_i hn
    have e : (w.map fun kv => if kv.1 = k then (kv.1, v) else kv).map (·.1) = w.map (·.1) := by
      rw [List.map_map]
      refine List.map_congr_left fun q _ => ?_
      show (if q.1 = k then (q.1, v) else q).1 = q.1
      split <;> rfl
    rw [e]
    constructor
    · exact .inl
    · rintro (h | h)
      · exact h
      · obtain ⟨q, hq, e2⟩ := List.any_eq_true.mp hn
        exact List.mem_map.mpr ⟨q, hq, by rw [of_decide_eq_true e2, h]⟩
  · rw [List.map_append, List.mem_append]
    simp
theorem putK_same {w : Way} {k : Key} {v : V} (h : (w.map (·.1)).Nodup) (e : valV w k = some v) : putK w k v = w := by
  unfold putK
  have ha : (w.any fun kv => decide (kv.1 = k)) = true := by
    rw [valV_any, e]
    rfl
  rw [if_pos ha]
  clear ha
  induction w with
  | nil => rfl
  | cons q w ih =>
    rw [List.map_cons, List.nodup_cons] at h
    rw [List.map_cons]
    by_cases c : q.1 = k
    · rw [valV_pos c] at e
      rw [if_pos c]
      have e1 : (q.1, v) = q := by
        rw [← Option.some.inj e]
      rw [e1]
      congr 1
      refine (List.map_congr_left fun x hx => ?_).trans (List.map_id w)
      show (if x.1 = k then (x.1, v) else x) = x
      rw [if_neg (fun z => h.1 (List.mem_map.mpr ⟨x, hx, by rw [z, c]⟩))]
    · rw [valV_neg c] at e
      rw [if_neg c, ih h.2 e]
theorem put_has {w : Way} {k j : Key} {v : V} (h : (valV w j).isSome = true) : (valV (putK w k v) j).isSome = true := by
  rw [valV_put]
  split
  · rfl
  · exact h
theorem put_self {w : Way} {k : Key} {v : V} : valV (putK w k v) k = some v := by
  rw [valV_put, if_pos rfl]
theorem WayOk.put {ks : List Str} {b : Nat} {w : Way} {n : Str} {v : V} (h : WayOk ks b w) (hv : IsVal v) : WayOk (addN ks n) (b + 1) (putK w (.inr n) v) := by
  refine ⟨fun m hm => ?_, putK_vals h.vals hv, ?_, putK_nd h.nd⟩
  · by_cases e : m = n
    · subst e
      rw [put_self]
      rfl
    · refine put_has (h.has m ?_)
      unfold addN at hm
      split at hm
      · exact hm
      · rcases List.mem_append.mp hm with z | z
        · exact z
        · exact absurd (List.mem_singleton.mp z) e
  · have := length_putK w (.inr n) v
    have := h.len
    omega
theorem WayOk.there {ks : List Str} {b : Nat} {w : Way} {n : Str} {u : V} (h : WayOk ks b w) (hn : valV w (.inr n) = some u) : WayOk (addN ks n) b w := by
  refine ⟨fun m hm => ?_, h.vals, h.len, h.nd⟩
  by_cases e : m = n
  · rw [e, hn]
    rfl
  · refine h.has m ?_
    unfold addN at hm
    split at hm
    · exact hm
    · rcases List.mem_append.mp hm with z | z
      · exact z
      · exact absurd (List.mem_singleton.mp z) e
theorem WayOk.more {ks : List Str} {b c : Nat} {w : Way} (h : WayOk ks b w) (hc : b ≤ c) : WayOk ks c w := ⟨h.has, h.vals, Nat.le_trans h.len hc, h.nd⟩
theorem metM_ok : ∀ {ts : List Tm} {r : Row} {w w' : Way} {ks : List Str} {b : Nat}, ts.length = r.length → (∀ v ∈ r, IsVal v) → WayOk ks b w → metM ts r w = some w' → WayOk ((namesM ts).foldl addN ks) (b + ts.length) w'
  | [], r, w, w', ks, b, _, _, h, e => by
    have e' : some w = some w' := by
      cases r <;> exact e
    cases e'
    exact h
  | t :: ts, [], w, w', ks, b, hl, _, _, _ => by simp at hl
  | .val u :: ts, v :: r, w, w', ks, b, hl, hr, h, e => by
    have e' : (if u = v then metM ts r w else none) = some w' := e
    split at e'
    · have q := metM_ok (by simpa using hl) (fun x hx => hr x (by simp [hx])) h e'
      exact q.more (by rw [List.length_cons]; omega)
    · cases e'
  | .any :: ts, v :: r, w, w', ks, b, hl, hr, h, e => by
    have q := metM_ok (ts := ts) (r := r) (by simpa using hl) (fun x hx => hr x (by simp [hx])) h e
    exact q.more (by rw [List.length_cons]; omega)
  | .var n :: ts, v :: r, w, w', ks, b, hl, hr, h, e => by
    have e' : (match valV w (.inr n) with
      | some u => if u = v then metM ts r w else none
      | none => metM ts r (putK w (.inr n) v)) = some w' := e
    show WayOk ((namesM ts).foldl addN (addN ks n)) (b + (ts.length + 1)) w'
    cases hw : valV w (.inr n) with
    | some u =>
      rw [hw] at e'
      have e2 : (if u = v then metM ts r w else none) = some w' := e'
      split at e2
      · have q := metM_ok (by simpa using hl) (fun x hx => hr x (by simp [hx])) (h.there hw) e2
        exact q.more (by omega)
      · cases e2
    | none =>
      rw [hw] at e'
      have q := metM_ok (by simpa using hl) (fun x hx => hr x (by simp [hx])) (h.put (n := n) (hr v (by simp))) e'
      exact q.more (by omega)
theorem meetM_ok {R : Rels} {F : Facts} {r : Str} {ts : List Tm} {w : Way} {ks : List Str} {b : Nat} (of : OkFacts R F) (orl : OkRel R r ts) (h : WayOk ks b w) : ∀ w' ∈ meetM (rowsOf F r) ts w, WayOk ((namesM ts).foldl addN ks) (b + 10) w' := fun w' hw => by
  obtain ⟨x, hx, e⟩ := List.mem_filterMap.mp hw
  obtain ⟨_, ok⟩ := rows_ok of orl.1
  obtain ⟨e1, e2⟩ := ok x hx
  exact (metM_ok e1.symm e2 h e).more (by have := orl.2.1; omega)
theorem meetM_len {R : Rels} {F : Facts} {r : Str} {ts : List Tm} {w : Way} (of : OkFacts R F) (orl : OkRel R r ts) : (meetM (rowsOf F r) ts w).length ≤ 1000 :=
  Nat.le_trans (List.length_filterMap_le _ _) (rows_ok of orl.1).1
theorem mem_addN {ks ns : List Str} {n : Str} : n ∈ ns.foldl addN ks ↔ n ∈ ks ∨ n ∈ ns := by
  induction ns generalizing ks with
  | nil => simp
  | cons m ns ih =>
    rw [List.foldl_cons, ih, List.mem_cons]
    unfold addN
    split
    · rename_i h
      constructor
      · rintro (e | e)
        · exact .inl e
        · exact .inr (.inr e)
      · rintro (e | e | e)
        · exact .inl e
        · exact .inl (e ▸ h)
        · exact .inr e
    · rw [List.mem_append, List.mem_singleton]
      constructor
      · rintro ((e | e) | e)
        · exact .inl e
        · exact .inr (.inl e)
        · exact .inr (.inr e)
      · rintro (e | e | e)
        · exact .inl (.inl e)
        · exact .inl (.inr e)
        · exact .inr e
theorem worth_ok {ks : List Str} {b : Nat} {w : Way} {t : Tm} (h : WayOk ks b w) (ok : OkTm ks t) : HasW t w ∧ IsVal (worth t w) := by
  cases t with
  | val v => exact ⟨trivial, ok⟩
  | any => exact ok.elim
  | var n =>
    have e := h.has n ok
    refine ⟨e, ?_⟩
    obtain ⟨u, hu⟩ := Option.isSome_iff_exists.mp e
    obtain ⟨p, hp, e2⟩ := valV_mem hu
    show IsVal ((valV w (.inr n)).getD .non)
    rw [hu]
    show IsVal u
    rw [← e2]
    exact h.vals p hp
theorem putM_ok {ks : List Str} {b : Nat} {w : Way} {n : Str} {v : V} (h : WayOk ks b w) (hv : IsVal v) : ∀ w' ∈ putM n w v, WayOk (addN ks n) (b + 1) w' := fun w' hw => by
  unfold putM at hw
  cases e : valV w (.inr n) with
  | none =>
    rw [e] at hw
    rw [List.mem_singleton.mp hw]
    exact h.put hv
  | some u =>
    rw [e] at hw
    have hw' : w' ∈ (if u = v then [w] else []) := hw
    split at hw'
    · rw [List.mem_singleton.mp hw']
      exact (h.there e).more (Nat.le_succ _)
    · cases hw'
theorem bestM_mem {b : V → V → Bool} {vs : List V} : ∀ v ∈ bestM b vs, v ∈ vs := by
  cases vs with
  | nil => intro v hv; cases hv
  | cons x vs =>
    intro v hv
    have hv' : v = vs.foldl (fun acc x => if b x acc then x else acc) x := List.mem_singleton.mp hv
    rw [hv']
    have h : ∀ (vs : List V) (a : V), vs.foldl (fun acc x => if b x acc then x else acc) a = a ∨ vs.foldl (fun acc x => if b x acc then x else acc) a ∈ vs := by
      intro vs
      induction vs with
      | nil => intro a; exact .inl rfl
      | cons y ys ih =>
        intro a
        rw [List.foldl_cons]
        rcases ih (if b y a then y else a) with e | e
        · rw [e]
          by_cases c : b y a = true
          · rw [if_pos c]
            exact .inr (by simp)
          · rw [if_neg c]
            exact .inl rfl
        · exact .inr (by simp [e])
    rcases h vs x with e | e
    · rw [e]
      simp
    · simp [e]
theorem bestM_len {b : V → V → Bool} {vs : List V} : (bestM b vs).length ≤ 1 := by
  cases vs with
  | nil => exact Nat.zero_le _
  | cons x vs => exact Nat.le_refl _
theorem totM_ok {f : Str} {vs : List V} (h : ∀ v ∈ vs, IsVal v) : (∀ v ∈ totM f vs, IsVal v) ∧ (totM f vs).length ≤ 1 := by
  unfold totM
  split
  · split
    · exact ⟨fun v hv => by (cases hv), Nat.zero_le _⟩
    · refine ⟨fun v hv => ?_, Nat.le_refl _⟩
      rw [List.mem_singleton.mp hv]
      trivial
  · split
    · exact ⟨fun v hv => h v (bestM_mem v hv), bestM_len⟩
    · exact ⟨fun v hv => h v (bestM_mem v hv), bestM_len⟩
theorem putM_len {n : Str} {w : Way} {v : V} : (putM n w v).length ≤ 1 := by
  unfold putM
  split
  · exact Nat.le_refl _
  · split
    · exact Nat.le_refl _
    · exact Nat.zero_le _
/-- what a literal leaves of a good way is good -/
theorem behindM_ok {R : Rels} {F : Facts} {l : Lit} {w : Way} {ks : List Str} {b : Nat} (of : OkFacts R F) (okl : OkLit R ks l) (h : WayOk ks b w) : ∀ w' ∈ behindM F l w, WayOk ((newM l).foldl addN ks) (b + 10) w' := by
  intro w' hw
  cases l with
  | fact r ts => exact meetM_ok of okl h w' hw
  | neg r ts =>
    have hw' : w' ∈ (if (meetM (rowsOf F r) ts w).isEmpty then [w] else []) := hw
    split at hw'
    · rw [List.mem_singleton.mp hw']
      exact h.more (by omega)
    · cases hw'
  | cmp op t u =>
    have hw' : w' ∈ (if cmpM op (worth t w) (worth u w) then [w] else []) := hw
    split at hw'
    · rw [List.mem_singleton.mp hw']
      exact h.more (by omega)
    · cases hw'
  | cnt v r ts =>
    obtain ⟨x, hx, hw'⟩ := List.mem_flatMap.mp hw
    rw [List.mem_singleton.mp hx] at hw'
    exact (putM_ok h (show IsVal (V.int _) from trivial) w' hw').more (by omega)
  | tot f v t r ts =>
    obtain ⟨x, hx, hw'⟩ := List.mem_flatMap.mp hw
    have hv : ∀ v ∈ (meetM (rowsOf F r) ts w).map (worth t), IsVal v := fun v hv => by
      obtain ⟨w2, h2, e⟩ := List.mem_map.mp hv
      rw [← e]
      have q := meetM_ok of okl.2.1 h w2 h2
      refine (worth_ok (ks := (namesM ts).foldl addN ks) q ?_).2
      have o := okl.2.2.2
      cases t with
      | val v => exact o
      | any => exact o
      | var n => exact mem_addN.mpr (List.mem_append.mp o)
    exact (putM_ok h ((totM_ok hv).1 x hx) w' hw').more (by omega)
theorem tot_has {R : Rels} {F : Facts} {f v r : Str} {t : Tm} {ts : List Tm} {w : Way} {ks : List Str} {b : Nat} (of : OkFacts R F) (okl : OkLit R ks (.tot f v t r ts)) (h : WayOk ks b w) : ∀ w' ∈ meetM (rowsOf F r) ts w, HasW t w' ∧ IsVal (worth t w') := fun w' hw => by
  refine worth_ok (ks := (namesM ts).foldl addN ks) (meetM_ok of okl.2.1 h w' hw) ?_
  have o := okl.2.2.2
  cases t with
  | val v => exact o
  | any => exact o
  | var n => exact mem_addN.mpr (List.mem_append.mp o)
theorem waysM_ok {R : Rels} {F : Facts} (of : OkFacts R F) : ∀ {ls : List Lit} {ws : List Way} {ks : List Str} {b : Nat}, OkBody R ls ks → (∀ w ∈ ws, WayOk ks b w) → ∀ w ∈ waysM F ls ws, WayOk (colsM ls ks) (b + 10 * ls.length) w
  | [], ws, ks, b, _, h, w, hw => h w hw
  | l :: ls, ws, ks, b, ok, h, w, hw => by
    have q := waysM_ok of (ls := ls) (ws := ws.flatMap (behindM F l)) (b := b + 10) ok.2 (fun w2 h2 => by
      obtain ⟨w3, h3, h4⟩ := List.mem_flatMap.mp h2
      exact behindM_ok of ok.1 (h w3 h3) w2 h4) w hw
    exact q.more (by rw [List.length_cons]; omega)
theorem waysM_app (F : Facts) : ∀ (a b : List Lit) (ws : List Way), waysM F (a ++ b) ws = waysM F b (waysM F a ws)
  | [], _, _ => rfl
  | l :: a, b, ws => waysM_app F a b (ws.flatMap (behindM F l))
theorem waysM_snoc {F : Facts} {b : List Lit} {i : Nat} {l : Lit} {ws : List Way} (h : b[i]? = some l) : waysM F (b.take (i + 1)) ws = (waysM F (b.take i) ws).flatMap (behindM F l) := by
  rw [take_snoc h, waysM_app]
  rfl
theorem flat_part {α β : Type} (f : α → List β) {xs : List α} {i : Nat} {x : α} (h : xs[i]? = some x) (j : Nat) : ((xs.take i).flatMap f ++ (f x).take j).length ≤ (xs.flatMap f).length := by
  have e : xs = xs.take i ++ (x :: xs.drop (i + 1)) := by
    rw [← drop_at h, List.take_append_drop]
  have e2 : xs.flatMap f = (xs.take i).flatMap f ++ (f x ++ (xs.drop (i + 1)).flatMap f) := by
    conv => lhs; rw [e]
    rw [List.flatMap_append, List.flatMap_cons]
  rw [e2, List.length_append, List.length_append, List.length_append, List.length_take]
  omega
theorem flat_snoc {α β : Type} (f : α → List β) {xs : List α} {i : Nat} {x : α} (h : xs[i]? = some x) : (xs.take (i + 1)).flatMap f = (xs.take i).flatMap f ++ f x := by
  rw [take_snoc h, List.flatMap_append]
  simp
/-! values as keys -/
def toK : V → Key
  | .int i => .inl i
  | .str x => .inr x
  | _ => .inl 0
theorem kV_toK {v : V} (h : IsVal v) : kV (toK v) = v := by
  rcases isVal_cases h with ⟨i, rfl⟩ | ⟨x, rfl, _⟩ <;> rfl
theorem row_key {r : Row} (h : RVal r) : (r.map toK).map kV = r := by
  rw [List.map_map]
  exact (List.map_congr_left fun v hv => kV_toK (h v hv)).trans (List.map_id r)
theorem rowM_val {cs : List Str} {b : Nat} {w : Way} (h : WayOk cs b w) : RVal (rowM cs w) := fun v hv => by
  obtain ⟨c, hc, e⟩ := List.mem_map.mp hv
  obtain ⟨u, hu⟩ := Option.isSome_iff_exists.mp (h.has c hc)
  rw [← e, hu]
  obtain ⟨p, hp, e2⟩ := valV_mem hu
  show IsVal u
  rw [← e2]
  exact h.vals p hp
theorem wayOk_nil : WayOk [] 0 [] := ⟨by simp, by simp, Nat.le_refl _, .nil⟩
end Tk
namespace Tk
open PySem PySem.Spec PyProof.Rows L2
theorem Paired.tk {α β : Type} {F : α → β → Prop} {a : List α} {b : List β} (h : Paired F a b) : ∀ j, Paired F (a.take j) (b.take j) := by
  induction h with
  | nil => intro j; rw [List.take_nil, List.take_nil]; exact .nil
  | cons p q ih =>
    intro j
    cases j with
    | zero => exact .nil
    | succ j => exact .cons p (ih j)
theorem Paired.dp {α β : Type} {F : α → β → Prop} {a : List α} {b : List β} (h : Paired F a b) : ∀ j, Paired F (a.drop j) (b.drop j) := by
  induction h with
  | nil => intro j; rw [List.drop_nil, List.drop_nil]; exact .nil
  | cons p q ih =>
    intro j
    cases j with
    | zero => exact .cons p q
    | succ j => exact ih j
end Tk

/-! ## TkComp -/
set_option Elab.async false
set_option linter.all false
set_option maxRecDepth 100000
set_option maxHeartbeats 1000000
/-! Comprehensions: a clause in a clause, tuple keys. -/
namespace Tk
open PySem PySem.Spec PyProof.Rows L2
/-- the inner clause over a list that stays -/
theorem in_list {K : PySem.W.Frag} {b : Addr} {ys : List V} {g1 : TG} {tt1 : TT} {te : TE} {vs1 : List Nat} {σ2 : L2.St} {H4 : Hp} {D : Addr} {Nx : Hp → Prop} (Pw : Nat → Hp → Prop) (h0 : Pw 0 H4) (hl : ∀ j H, j ≤ ys.length → Pw j H → SqL K H b ys)
    (hs : ∀ j y H, ys[j]? = some y → Pw j H → g1 y (wipe σ2 vs1) H fun σ3 H5 => wipe σ3 vs1 = wipe σ2 vs1 ∧ tt1 σ3 H5 fun b H6 =>
      if b = true then te σ3 H6 fun z H7 => ∃ acc, H7 D = some (.lst acc) ∧ acc.length < sizeLine ∧ Pw (j + 1) (upd H7 D (.lst (acc ++ [z]))) else Pw (j + 1) H6) (hd : ∀ H, Pw ys.length H → Nx H) :
    ∃ W1 : Nat → Nat → Hp → Prop, (∃ m, W1 0 m H4) ∧ ∀ j k H, W1 j k H →
      ((Itl K b).stop j H ∧ Nx H) ∨ ((Itl K b).go j H ∧ ∃ Nx1 : Hp → Prop, (∀ H', Nx1 H' → ∃ k', k' < k ∧ W1 (j + 1) k' H') ∧ ∀ x H', (Itl K b).yld j H x H' → g1 x (wipe σ2 vs1) H' fun σ3 H5 => wipe σ3 vs1 = wipe σ2 vs1 ∧ tt1 σ3 H5 fun b H6 =>
        if b = true then te σ3 H6 fun y H7 => ∃ acc, H7 D = some (.lst acc) ∧ acc.length < sizeLine ∧ Nx1 (upd H7 D (.lst (acc ++ [y]))) else Nx1 H6) := by
  refine ⟨fun j m H => m = ys.length - j ∧ j ≤ ys.length ∧ Pw j H, ⟨ys.length, by simp, Nat.zero_le _, h0⟩, ?_⟩
  rintro j m H ⟨rfl, hj, p⟩
  have q := hl j H hj p
  by_cases hlt : j < ys.length
  · refine .inr ⟨⟨ys, ys[j], q, by simp [hlt]⟩, Pw (j + 1), fun H' p' => ⟨ys.length - (j + 1), by omega, rfl, hlt, p'⟩, fun x H' y => ?_⟩
    obtain ⟨e, y⟩ := y
    subst e
    exact hs j x _ (y ys q) p
  · have e : j = ys.length := by omega
    subst e
    exact .inl ⟨⟨ys, q, Nat.le_refl _⟩, hd H p⟩
/-- the outer clause over a list that stays -/
theorem out_list {K : PySem.W.Frag} {a : Addr} {xs : List V} {g : TG} {tt : TT} {vs : List Nat} {σ : L2.St} {H1 : Hp} {D : Addr} {Qd : Hp → Prop} {inner : L2.St → Hp → (Hp → Prop) → Prop} (Pv : Nat → Hp → Prop) (h0 : Pv 0 (upd H1 D (.lst []))) (hl : ∀ i H, i ≤ xs.length → Pv i H → SqL K H a xs)
    (hs : ∀ i x H, xs[i]? = some x → Pv i H → g x (wipe σ vs) H fun σ2 H2 => wipe σ2 vs = wipe σ vs ∧ tt σ2 H2 fun b H3 => if b = true then inner σ2 H3 (Pv (i + 1)) else Pv (i + 1) H3) (hd : ∀ H, Pv xs.length H → Qd H) :
    ∃ W : Nat → Nat → Hp → Prop, (∃ m, W 0 m (upd H1 D (.lst []))) ∧ ∀ i m H, W i m H →
      ((Itl K a).stop i H ∧ Qd H) ∨ ((Itl K a).go i H ∧ ∃ Nx : Hp → Prop, (∀ H', Nx H' → ∃ m', m' < m ∧ W (i + 1) m' H') ∧ ∀ x H', (Itl K a).yld i H x H' → g x (wipe σ vs) H' fun σ2 H2 => wipe σ2 vs = wipe σ vs ∧ tt σ2 H2 fun b H3 =>
        if b = true then inner σ2 H3 Nx else Nx H3) := by
  refine ⟨fun i m H => m = xs.length - i ∧ i ≤ xs.length ∧ Pv i H, ⟨xs.length, by simp, Nat.zero_le _, h0⟩, ?_⟩
  rintro i m H ⟨rfl, hi, p⟩
  have q := hl i H hi p
  by_cases hlt : i < xs.length
  · refine .inr ⟨⟨xs, xs[i], q, by simp [hlt]⟩, Pv (i + 1), fun H' p' => ⟨xs.length - (i + 1), by omega, rfl, hlt, p'⟩, fun x H' y => ?_⟩
    obtain ⟨e, y⟩ := y
    subst e
    exact hs i x _ (y xs q) p
  · have e : i = xs.length := by omega
    subst e
    exact .inl ⟨⟨xs, q, Nat.le_refl _⟩, hd H p⟩
/-- tuple keys, over a list that stays -/
theorem dcT_list {K : PySem.W.Frag} {a : Addr} {xs : List V} {g : TG} {tt : TT} {tk tv : TE} {vs : List Nat} {σ : L2.St} {H1 : Hp} {D : Addr} {Qd : Hp → Prop} (Pv : Nat → Hp → Prop) (h0 : Pv 0 (upd H1 D (.dT []))) (hl : ∀ i H, i ≤ xs.length → Pv i H → SqL K H a xs)
    (hs : ∀ i x H, xs[i]? = some x → Pv i H → g x (wipe σ vs) H fun σ2 H2 => wipe σ2 vs = wipe σ vs ∧ tt σ2 H2 fun b H3 =>
      if b = true then tk σ2 H3 fun y H4 => tv σ2 H4 fun z H5 => ∃ kvs k b, y = .ref b ∧ H5 b = some (.tup (k.map kV)) ∧ H5 D = some (.dT kvs) ∧ kvs.length < sizeLine ∧ Pv (i + 1) (upd H5 D (.dT (putK kvs k z))) else Pv (i + 1) H3) (hd : ∀ H, Pv xs.length H → Qd H) :
    ∃ W : Nat → Nat → Hp → Prop, (∃ m, W 0 m (upd H1 D (.dT []))) ∧ ∀ i m H, W i m H →
      ((Itl K a).stop i H ∧ Qd H) ∨ ((Itl K a).go i H ∧ ∃ Nx : Hp → Prop, (∀ H', Nx H' → ∃ m', m' < m ∧ W (i + 1) m' H') ∧ ∀ x H', (Itl K a).yld i H x H' → g x (wipe σ vs) H' fun σ2 H2 => wipe σ2 vs = wipe σ vs ∧ tt σ2 H2 fun b H3 =>
        if b = true then tk σ2 H3 fun y H4 => tv σ2 H4 fun z H5 => ∃ kvs k b, y = .ref b ∧ H5 b = some (.tup (k.map kV)) ∧ H5 D = some (.dT kvs) ∧ kvs.length < sizeLine ∧ Nx (upd H5 D (.dT (putK kvs k z))) else Nx H3) := by
  refine ⟨fun i m H => m = xs.length - i ∧ i ≤ xs.length ∧ Pv i H, ⟨xs.length, by simp, Nat.zero_le _, h0⟩, ?_⟩
  rintro i m H ⟨rfl, hi, p⟩
  have q := hl i H hi p
  by_cases hlt : i < xs.length
  · refine .inr ⟨⟨xs, xs[i], q, by simp [hlt]⟩, Pv (i + 1), fun H' p' => ⟨xs.length - (i + 1), by omega, rfl, hlt, p'⟩, fun x H' y => ?_⟩
    obtain ⟨e, y⟩ := y
    subst e
    exact hs i x _ (y xs q) p
  · have e : i = xs.length := by omega
    subst e
    exact .inl ⟨⟨xs, q, Nat.le_refl _⟩, hd H p⟩
end Tk

/-! ## TkState -/
set_option Elab.async false
set_option linter.all false
set_option maxRecDepth 100000
set_option maxHeartbeats 1000000
/-! A State while it is built: its items one after another. -/
namespace Tk
open PySem PySem.Spec PyProof.Rows L2
inductive Item where
  | rel (n : Str) (cs : List V)
  | fact (n : Str) (r : Row)
def IsItem (H : Hp) (x : V) : Item → Prop
  | .rel n cs => ∃ a c, x = .ref a ∧ H a = some (.tup [.str "relation", .str n, .ref c, .int 40]) ∧ H c = some (.tup cs)
  | .fact n r => ∃ a c, x = .ref a ∧ H a = some (.tup [.str "fact", .str n, .ref c]) ∧ H c = some (.tup r)
theorem IsItem.mono {H H' : Hp} {x : V} {it : Item} (s : TupS H H') (h : IsItem H x it) : IsItem H' x it := by
  cases it with
  | rel n cs =>
    obtain ⟨a, c, e, h1, h2⟩ := h
    exact ⟨a, c, e, s _ _ h1, s _ _ h2⟩
  | fact n r =>
    obtain ⟨a, c, e, h1, h2⟩ := h
    exact ⟨a, c, e, s _ _ h1, s _ _ h2⟩
def addRow (F : Facts) (n : Str) (r : Row) : Facts := F.map fun p => if p.1 = n then (p.1, p.2 ++ [r]) else p
def stepI (R : Rels) (F : Facts) : Item → Rels × Facts
  | .rel n cs => (R ++ [(n, cs)], F ++ [(n, [])])
  | .fact n r => (R, addRow F n r)
def okI (R : Rels) (F : Facts) : Item → Prop
  | .rel n cs => n ∉ R.map (·.1) ∧ n ∉ F.map (·.1) ∧ R.length ≤ 100 ∧ F.length ≤ 100
  | .fact n r => n ∈ F.map (·.1) ∧ r ∉ rowsOf F n ∧ RVal r ∧ (∀ x ∈ rowsOf F n, RVal x) ∧ (rowsOf F n).length ≤ 1000 ∧ (F.map (·.1)).Nodup ∧ F.length ≤ 100
inductive Runs : Rels → Facts → List Item → Rels → Facts → Prop
  | nil {R : Rels} {F : Facts} : Runs R F [] R F
  | cons {R R' : Rels} {F F' : Facts} {it : Item} {its : List Item} : okI R F it → Runs (stepI R F it).1 (stepI R F it).2 its R' F' → Runs R F (it :: its) R' F'
theorem Runs.app {R R1 R2 : Rels} {F F1 F2 : Facts} {a b : List Item} (h : Runs R F a R1 F1) (g : Runs R1 F1 b R2 F2) : Runs R F (a ++ b) R2 F2 := by
  induction h with
  | nil => exact g
  | cons o r ih => exact .cons o (ih g)
def zF (R : Rels) : Facts := R.map fun p => (p.1, [])
theorem runs_rels : ∀ (B A : Rels), ((A ++ B).map (·.1)).Nodup → (A ++ B).length ≤ 100 → Runs A (zF A) (B.map fun p => .rel p.1 p.2) (A ++ B) (zF (A ++ B))
  | [], A, _, _ => by
    rw [List.append_nil]
    exact .nil
  | (n, cs) :: B, A, nd, hl => by
    have e : A ++ (n, cs) :: B = (A ++ [(n, cs)]) ++ B := by simp
    have nn : n ∉ A.map (·.1) := fun h => by
      rw [List.map_append, List.nodup_append] at nd
      exact nd.2.2 n h n (by simp) rfl
    have nz : n ∉ (zF A).map (·.1) := fun h => nn (by
      have ez : (zF A).map (·.1) = A.map (·.1) := by
        unfold zF
        rw [List.map_map]
        rfl
      rw [ez] at h
      exact h)
    have la : A.length ≤ 100 := by
      rw [List.length_append] at hl
      omega
    rw [List.map_cons]
    refine .cons ⟨nn, nz, la, by unfold zF; rw [List.length_map]; exact la⟩ ?_
    rw [e]
    have ih := runs_rels B (A ++ [(n, cs)]) (by rw [← e]; exact nd) (by rw [← e]; exact hl)
    have ez : zF (A ++ [(n, cs)]) = zF A ++ [(n, [])] := by
      unfold zF
      rw [List.map_append]
      rfl
    rw [ez] at ih
    exact ih
theorem rowsOf_mid {F1 F3 : Facts} {n : Str} {rs : List Row} (h : n ∉ F1.map (·.1)) : rowsOf (F1 ++ (n, rs) :: F3) n = rs := by
  unfold rowsOf
  rw [List.find?_append]
  have e : (F1.find? fun p => decide (p.1 = n)) = none := by
    rw [List.find?_eq_none]
    intro p hp hd
    exact h (List.mem_map.mpr ⟨p, hp, of_decide_eq_true hd⟩)
  rw [e]
  show (match List.find? (fun p : Str × List Row => decide (p.1 = n)) ((n, rs) :: F3) with | some p => p.2 | none => []) = rs
  rw [List.find?_cons]
  simp
theorem addRow_out {F : Facts} {n : Str} {r : Row} (h : n ∉ F.map (·.1)) : addRow F n r = F := by
  unfold addRow
  refine (List.map_congr_left fun p hp => ?_).trans (List.map_id F)
  show (if p.1 = n then (p.1, p.2 ++ [r]) else p) = p
  rw [if_neg fun e => h (List.mem_map.mpr ⟨p, hp, e⟩)]
theorem addRow_mid {F1 F3 : Facts} {n : Str} {rs : List Row} {r : Row} (h1 : n ∉ F1.map (·.1)) (h3 : n ∉ F3.map (·.1)) : addRow (F1 ++ (n, rs) :: F3) n r = F1 ++ (n, rs ++ [r]) :: F3 := by
  have e1 := addRow_out (r := r) h1
  have e3 := addRow_out (r := r) h3
  unfold addRow at e1 e3 ⊢
  rw [List.map_append, List.map_cons, e1, e3]
  show F1 ++ (if n = n then (n, rs ++ [r]) else (n, rs)) :: F3 = _
  rw [if_pos rfl]
theorem runs_rows {R : Rels} {F1 F3 : Facts} {n : Str} (nd : ((F1 ++ (n, []) :: F3).map (·.1)).Nodup) (hF : F1.length + F3.length < 100) : ∀ (rs2 rs1 : List Row), (∀ r ∈ rs1 ++ rs2, RVal r) → (rs1 ++ rs2).Nodup → (rs1 ++ rs2).length ≤ 1000 →
    Runs R (F1 ++ (n, rs1) :: F3) (rs2.map (.fact n)) R (F1 ++ (n, rs1 ++ rs2) :: F3)
  | [], rs1, _, _, _ => by
    rw [List.append_nil]
    exact .nil
  | r :: rs2, rs1, hv, hn, hl => by
    have nd' := nd
    rw [List.map_append, List.nodup_append] at nd'
    have h1 : n ∉ F1.map (·.1) := fun h => nd'.2.2 n h n (by simp) rfl
    have h3 : n ∉ F3.map (·.1) := (List.nodup_cons.mp nd'.2.1).1
    have er := rowsOf_mid (F1 := F1) (F3 := F3) (n := n) (rs := rs1) h1
    have l1 : rs1.length ≤ 1000 := by
      rw [List.length_append] at hl
      omega
    rw [List.map_cons]
    refine .cons ⟨by simp, ?_, hv r (by simp), ?_, by rw [er]; exact l1, ?_, by rw [List.length_append, List.length_cons]; omega⟩ ?_
    · rw [er]
      intro h
      rw [List.nodup_append] at hn
      exact hn.2.2 r h r (by simp) rfl
    · rw [er]
      exact fun x hx => hv x (by simp [hx])
    · have ee : ((F1 ++ (n, rs1) :: F3).map (·.1)) = ((F1 ++ (n, []) :: F3).map (·.1)) := by simp
      rw [ee]
      exact nd
    · show Runs R (addRow (F1 ++ (n, rs1) :: F3) n r) (rs2.map (.fact n)) R (F1 ++ (n, rs1 ++ r :: rs2) :: F3)
      rw [addRow_mid h1 h3]
      have e : rs1 ++ r :: rs2 = (rs1 ++ [r]) ++ rs2 := by simp
      rw [e] at hv hn hl ⊢
      exact runs_rows nd hF rs2 (rs1 ++ [r]) hv hn hl
def zZ (F : Facts) : Facts := F.map fun p => (p.1, [])
theorem runs_facts {R : Rels} : ∀ (F2 F1 : Facts), ((F1 ++ F2).map (·.1)).Nodup → (∀ p ∈ F2, (∀ r ∈ p.2, RVal r) ∧ p.2.Nodup ∧ p.2.length ≤ 1000) → (F1 ++ F2).length ≤ 100 →
    Runs R (F1 ++ zZ F2) (F2.flatMap fun p => p.2.map (.fact p.1)) R (F1 ++ F2)
  | [], F1, _, _, _ => .nil
  | (n, rs) :: F2, F1, nd, h, hl => by
    obtain ⟨h1, h2, h3⟩ := h (n, rs) (by simp)
    have en : ((F1 ++ (n, []) :: zZ F2).map (·.1)) = ((F1 ++ (n, rs) :: F2).map (·.1)) := by
      unfold zZ
      simp
    rw [List.flatMap_cons]
    have q1 := runs_rows (R := R) (F1 := F1) (F3 := zZ F2) (n := n) (by rw [en]; exact nd) (by rw [List.length_append, List.length_cons] at hl; unfold zZ; rw [List.length_map]; omega) rs [] (by simpa using h1) (by simpa using h2) (by simpa using h3)
    rw [List.nil_append] at q1
    refine Runs.app q1 ?_
    have e : F1 ++ (n, rs) :: F2 = (F1 ++ [(n, rs)]) ++ F2 := by simp
    have e2 : F1 ++ (n, rs) :: zZ F2 = (F1 ++ [(n, rs)]) ++ zZ F2 := by simp
    rw [e, e2]
    exact runs_facts F2 (F1 ++ [(n, rs)]) (by rw [← e]; exact nd) (fun p hp => h p (by simp [hp])) (by rw [← e]; exact hl)
def itemsOf (R : Rels) (F : Facts) : List Item := (R.map fun p => .rel p.1 p.2) ++ F.flatMap fun p => p.2.map (.fact p.1)
theorem strict_nodup {rs : List Row} (h : rs.Pairwise fun x y => ltRow x y = true) : rs.Nodup := List.Pairwise.imp (fun {a b} q => ltRow_ne q) h
theorem runs_all {R : Rels} {F : Facts} (of : OkFacts R F) : Runs [] [] (itemsOf R F) R F := by
  have nr : (R.map (·.1)).Nodup := by
    rw [← of.names]
    exact of.nd
  have q1 := runs_rels R [] nr (Nat.le_trans of.less (by decide))
  have lF : F.length ≤ 100 := by
    have e1 := congrArg List.length of.names
    rw [List.length_map, List.length_map] at e1
    have := of.less
    omega
  have q2 := runs_facts (R := R) F [] of.nd (fun p hp => ⟨of.vals p hp, strict_nodup (of.sorted p hp), of.few p hp⟩) lF
  have e : zF R = zZ F := by
    unfold zF zZ
    have e1 : (R.map fun p => ((p.1, []) : Str × List Row)) = (R.map (·.1)).map fun n => (n, []) := by
      rw [List.map_map]
      rfl
    have e2 : (F.map fun p => ((p.1, []) : Str × List Row)) = (F.map (·.1)).map fun n => (n, []) := by
      rw [List.map_map]
      rfl
    rw [e1, e2, of.names]
  rw [List.nil_append] at q1 q2
  refine Runs.app q1 ?_
  rw [e]
  exact q2

/-! ### in the heap -/
def NoM (fs : List (Str × V)) : Prop := fs.lookup ("has" : Str) = none ∧ fs.lookup ("_put" : Str) = none ∧ fs.lookup ("_order_facts" : Str) = none ∧ fs.length ≤ 10
/-- a State while it is built, behind the heap H0 -/
def SB (C : Addr) (H0 H : Hp) (sa : Addr) (R : Rels) (F : Facts) : Prop := ∃ dx d1 d2 fs kr kf, H sa = some (.ins C dx fs) ∧ fs.lookup ("relations" : Str) = some (.ref d1) ∧ fs.lookup ("facts" : Str) = some (.ref d2) ∧ NoM fs ∧
  H d1 = some (.dK kr) ∧ H d2 = some (.dK kf) ∧ Paired (IsRel H) kr R ∧ Paired (IsFact H) kf F ∧ (kf.map (·.2)).Nodup ∧ d1 ≠ d2 ∧ Same H0 H ∧ H0 sa = none ∧ H0 d1 = none ∧ H0 d2 = none ∧ ∀ p ∈ kf, ∀ l, p.2 = .ref l → H0 l = none
theorem IsRel.mono {H H' : Hp} {p : Key × V} {q : Str × List V} (s : TupS H H') (h : IsRel H p q) : IsRel H' p q := by
  obtain ⟨e, a, c, e1, h1, h2⟩ := h
  exact ⟨e, a, c, e1, s _ _ h1, s _ _ h2⟩
/-- another list is changed -/
theorem IsFact.keep {H : Hp} {p : Key × V} {q : Str × List Row} {l : Addr} {xs ys : List V} (hl : H l = some (.lst xs)) (h : IsFact H p q) (n : p.2 ≠ .ref l) : IsFact (upd H l (.lst ys)) p q := by
  obtain ⟨e, a, zs, e1, h1, pr⟩ := h
  have na : a ≠ l := fun z => n (by rw [e1, z])
  exact ⟨e, a, zs, e1, by rw [upd_ne na]; exact h1, Paired.mapP pr fun _ _ z => IsRow.mono (tupS_lst hl) z⟩
theorem IsFact.mono {H H' : Hp} {p : Key × V} {q : Str × List Row} (s : Same H H') (h : IsFact H p q) : IsFact H' p q := ⟨h.1, h.2.mono s⟩
/-- a dict is changed -/
theorem IsFact.dict {H : Hp} {p : Key × V} {q : Str × List Row} {d : Addr} {w w' : Way} (hd : H d = some (.dK w)) (h : IsFact H p q) : IsFact (upd H d (.dK w')) p q := by
  obtain ⟨e, a, zs, e1, h1, pr⟩ := h
  have na : a ≠ d := ne_of h1 hd fun z => nomatch z
  exact ⟨e, a, zs, e1, by rw [upd_ne na]; exact h1, Paired.mapP pr fun _ _ z => IsRow.mono (tupS_dK hd) z⟩
theorem valV_key_none {H : Hp} {kf : Way} {F : Facts} (h : Paired (IsFact H) kf F) {n : Str} (hn : n ∉ F.map (·.1)) : valV kf (.inr n) = none := by
  induction h with
  | nil => rfl
  | @cons p q ps qs h t ih =>
    rw [List.map_cons, List.mem_cons, not_or] at hn
    rw [valV_neg (fun z => hn.1 (by rw [h.1] at z; exact (Sum.inr.inj z).symm))]
    exact ih hn.2
theorem valV_rel_none {H : Hp} {kr : Way} {R : Rels} (h : Paired (IsRel H) kr R) {n : Str} (hn : n ∉ R.map (·.1)) : valV kr (.inr n) = none := by
  induction h with
  | nil => rfl
  | @cons p q ps qs h t ih =>
    rw [List.map_cons, List.mem_cons, not_or] at hn
    rw [valV_neg (fun z => hn.1 (by rw [h.1] at z; exact (Sum.inr.inj z).symm))]
    exact ih hn.2
theorem facts_add {H : Hp} {l c : Addr} {xs : List V} {n : Str} {r : Row} (hl : H l = some (.lst xs)) (hc : H c = some (.tup r)) : ∀ {kf : Way} {F : Facts}, Paired (IsFact H) kf F → (kf.map (·.2)).Nodup → (F.map (·.1)).Nodup → valV kf (.inr n) = some (.ref l) →
    Paired (IsFact (upd H l (.lst (xs ++ [.ref c])))) kf (addRow F n r) := by
  intro kf F h
  induction h with
  | nil => intro _ _ e; cases e
  | @cons p q ps qs h t ih =>
    intro nd nn hv
    rw [List.map_cons, List.nodup_cons] at nd nn
    unfold addRow
    rw [List.map_cons]
    by_cases e : q.1 = n
    · rw [if_pos e]
      rw [valV_pos (by rw [h.1, e])] at hv
      have hp2 : p.2 = .ref l := Option.some.inj hv
      refine .cons ⟨h.1, ?_⟩ ?_
      · obtain ⟨_, a, zs, e1, h1, pr⟩ := h
        rw [hp2] at e1
        cases e1
        rw [hl] at h1
        cases h1
        refine ⟨l, xs ++ [.ref c], hp2, upd_same, Paired.app (Paired.mapP pr fun _ _ z => IsRow.mono (tupS_lst hl) z) (.cons ⟨c, rfl, tupS_lst hl _ _ hc⟩ .nil)⟩
      · have eo := addRow_out (F := qs) (n := n) (r := r) (by rw [← e]; exact nn.1)
        unfold addRow at eo
        rw [eo]
        have nl : ∀ x ∈ ps, x.2 ≠ .ref l := fun x hx z => nd.1 (by rw [hp2, ← z]; exact List.mem_map.mpr ⟨x, hx, rfl⟩)
        clear ih nd nn hv eo
        induction t with
        | nil => exact .nil
        | cons h2 t2 ih2 => exact .cons (IsFact.keep hl h2 (nl _ (by simp))) (ih2 fun x hx => nl x (by simp [hx]))
    · rw [if_neg e]
      rw [valV_neg (fun z => e (by rw [h.1] at z; exact Sum.inr.inj z))] at hv
      have np : p.2 ≠ .ref l := fun z => by
        obtain ⟨x, hx, ex⟩ := valV_mem hv
        exact nd.1 (by rw [z, ← ex]; exact List.mem_map.mpr ⟨x, hx, rfl⟩)
      exact .cons (IsFact.keep hl h np) (ih nd.2 nn.2 hv)
end Tk
namespace Tk
open PySem PySem.Spec PyProof.Rows L2
/-- neither a list nor a tuple is changed -/
theorem IsRow.other {H : Hp} {x : V} {r : Row} {d : Addr} {u u' : HO} (hd : H d = some u) (n2 : ∀ xs, u ≠ .tup xs) (h : IsRow H x r) : IsRow (upd H d u') x r := by
  obtain ⟨a, e, h⟩ := h
  exact ⟨a, e, by rw [upd_ne (ne_of h hd fun z => n2 _ z.symm)]; exact h⟩
theorem IsRows.other {H : Hp} {x : V} {r : List Row} {d : Addr} {u u' : HO} (hd : H d = some u) (n1 : ∀ xs, u ≠ .lst xs) (n2 : ∀ xs, u ≠ .tup xs) (h : IsRows H x r) : IsRows (upd H d u') x r := by
  obtain ⟨a, zs, e1, h1, pr⟩ := h
  exact ⟨a, zs, e1, by rw [upd_ne (ne_of h1 hd fun z => n1 _ z.symm)]; exact h1, Paired.mapP pr fun _ _ z => z.other hd n2⟩
theorem IsFact.other {H : Hp} {p : Key × V} {q : Str × List Row} {d : Addr} {u u' : HO} (hd : H d = some u) (n1 : ∀ xs, u ≠ .lst xs) (n2 : ∀ xs, u ≠ .tup xs) (h : IsFact H p q) : IsFact (upd H d u') p q := ⟨h.1, h.2.other hd n1 n2⟩
theorem IsRel.other {H : Hp} {p : Key × V} {q : Str × List V} {d : Addr} {u u' : HO} (hd : H d = some u) (n2 : ∀ xs, u ≠ .tup xs) (h : IsRel H p q) : IsRel (upd H d u') p q := by
  obtain ⟨e, a, c, e1, h1, h2⟩ := h
  exact ⟨e, a, c, e1, by rw [upd_ne (ne_of h1 hd fun z => n2 _ z.symm)]; exact h1, by rw [upd_ne (ne_of h2 hd fun z => n2 _ z.symm)]; exact h2⟩
theorem SB.mono {C : Addr} {H0 H H' : Hp} {sa : Addr} {R : Rels} {F : Facts} (s : Same H H') (h : SB C H0 H sa R F) : SB C H0 H' sa R F := by
  obtain ⟨dx, d1, d2, fs, kr, kf, h1, h2, h3, h4, h5, h6, h7, h8, h9, h10, h11, h12⟩ := h
  exact ⟨dx, d1, d2, fs, kr, kf, s _ _ h1, h2, h3, h4, s _ _ h5, s _ _ h6, Paired.mapP h7 fun _ _ z => z.mono s.tup, Paired.mapP h8 fun _ _ z => z.mono s, h9, h10, h11.trans s, h12⟩
theorem rows_dp {K : PySem.W.Frag} {H : Hp} : ∀ {xs : List V} {rs : List Row}, Paired (IsRow H) xs rs → (∀ r ∈ rs, RVal r) → DpAll K H xs (rs.map rowD)
  | _, _, .nil, _ => .nil
  | _, _, .cons p q, h => by
    obtain ⟨a, rfl, ha⟩ := p
    exact .cons (.tup (.inl (.inl ha)) (vD_all (h _ (by simp)))) (rows_dp q fun r hr => h r (by simp [hr]))
def rowsD (rs : List Row) : PyData := .list (rs.map rowD)
theorem rowsD_kind : DKind (List Row) rowsD (fun rs => ∀ r ∈ rs, RVal r) 2 := rowD_kind.lsts
/-- rows that stand in order stay as they are when they are sorted -/
theorem sort_rows {H : Hp} {xs ys : List V} {rs : List Row} (pr : Paired (IsRow H) xs rs) (st : rs.Pairwise fun x y => ltRow x y = true) (hv : ∀ r ∈ rs, RVal r) (perm : ys.Perm xs) (so : ys.Pairwise fun x y => ltRow (kapH H y) (kapH H x) = false) : Paired (IsRow H) ys rs := by
  have ex : ∀ {xs : List V} {rs : List Row}, Paired (IsRow H) xs rs → xs.map (kapH H) = rs := by
    intro xs rs h
    induction h with
    | nil => rfl
    | cons p q ih =>
      obtain ⟨a, rfl, ha⟩ := p
      rw [List.map_cons, ih, kapH_row ha]
  have ei := ex pr
  have pm : (ys.map (kapH H)).Perm rs := by
    rw [← ei]
    exact perm.map _
  have each : ∀ y ∈ ys, IsRow H y (kapH H y) := fun y hy => by
    obtain ⟨j, hj, e⟩ := List.getElem_of_mem (perm.mem_iff.mp hy)
    obtain ⟨r, _, a, ea, ha⟩ := Paired.at pr (j := j) (x := y) (by rw [← e]; exact List.getElem?_eq_getElem hj)
    rw [ea, kapH_row ha]
    exact ⟨a, rfl, ha⟩
  have vals : ∀ r ∈ ys.map (kapH H), RVal r := fun r hr => hv r (pm.mem_iff.mp hr)
  have nd : (ys.map (kapH H)).Nodup := pm.symm.nodup_iff.mp (strict_nodup st)
  have st2 : (ys.map (kapH H)).Pairwise fun x y => ltRow x y = true := by
    have so' : (ys.map (kapH H)).Pairwise fun x y => ltRow y x = false := by
      rw [List.pairwise_map]
      exact so
    refine List.Pairwise.imp_of_mem (fun {x y} hx hy h => ?_) (List.Pairwise.and so' nd)
    rw [ltRow_tri (vals x hx) (vals y hy) h.2, h.1]
    rfl
  have e := strict_uniq vals hv st2 st fun r => pm.mem_iff
  rw [← e]
  have pr2 : ∀ ys : List V, (∀ y ∈ ys, IsRow H y (kapH H y)) → Paired (IsRow H) ys (ys.map (kapH H)) := by
    intro ys
    induction ys with
    | nil => intro _; exact .nil
    | cons y ys ih => intro h; exact .cons (h y (by simp)) (ih fun z hz => h z (by simp [hz]))
  exact pr2 ys each
/-- a walk over a dict that is known -/
theorem for_keysK {d : Addr} {o : Obj} {kvs : List (Key × V)} {g : TG} {tb : TS} {D : Ends} {σ : L2.St} {H : Hp} (Pv : Nat → L2.St → Hp → Prop) (h0 : Pv 0 σ H) (hl : ∀ i σ H, i ≤ kvs.length → Pv i σ H → H d = some (.frz o (.dK kvs)))
    (hs : ∀ i k v σ H, kvs[i]? = some (k, v) → Pv i σ H → g (kV k) σ H fun σ2 H2 => tb { D with nx := Pv (i + 1), ct := Pv (i + 1), bk := D.nx } σ2 H2) (hd : ∀ σ H, Pv kvs.length σ H → D.nx σ H) :
    ∃ W : Nat → Nat → L2.St → Hp → Prop, (∃ m, W 0 m σ H) ∧ ∀ i m σ H, W i m σ H →
      ((Itk d o kvs).stop i H ∧ D.nx σ H) ∨ ((Itk d o kvs).go i H ∧ ∃ N : L2.St → Hp → Prop, (∀ σ' H', N σ' H' → ∃ m', m' < m ∧ W (i + 1) m' σ' H') ∧ ∀ v H', (Itk d o kvs).yld i H v H' → g v σ H' fun σ2 H2 => tb { D with nx := N, ct := N, bk := D.nx } σ2 H2) := by
  refine ⟨fun i m σ H => m = kvs.length - i ∧ i ≤ kvs.length ∧ Pv i σ H, ⟨kvs.length, by simp, Nat.zero_le _, h0⟩, ?_⟩
  rintro i m σ H ⟨rfl, hi, p⟩
  have q := hl i σ H hi p
  by_cases hlt : i < kvs.length
  · refine .inr ⟨⟨q, hlt⟩, Pv (i + 1), fun σ' H' p' => ⟨kvs.length - (i + 1), by omega, rfl, hlt, p'⟩, fun x H' y => ?_⟩
    obtain ⟨e, k, v, ek, ex⟩ := y
    subst e ex
    exact hs i k v σ _ ek p
  · have e : i = kvs.length := by omega
    subst e
    exact .inl ⟨⟨q, Nat.le_refl _⟩, hd σ H p⟩
/-- a comprehension over a dict that is known -/
theorem lc_keysK {d : Addr} {o : Obj} {kvs : List (Key × V)} {g : TG} {tt : TT} {te : TE} {vs : List Nat} {σ : L2.St} {H1 : Hp} {D : Addr} {Qd : Hp → Prop} (Pv : Nat → Hp → Prop) (h0 : Pv 0 (upd H1 D (.lst []))) (hl : ∀ i H, i ≤ kvs.length → Pv i H → H d = some (.frz o (.dK kvs)))
    (hs : ∀ i k v H, kvs[i]? = some (k, v) → Pv i H → g (kV k) (wipe σ vs) H fun σ2 H2 => wipe σ2 vs = wipe σ vs ∧ tt σ2 H2 fun b H3 =>
      if b = true then te σ2 H3 fun y H4 => ∃ acc, H4 D = some (.lst acc) ∧ acc.length < sizeLine ∧ Pv (i + 1) (upd H4 D (.lst (acc ++ [y]))) else Pv (i + 1) H3) (hd : ∀ H, Pv kvs.length H → Qd H) :
    ∃ W : Nat → Nat → Hp → Prop, (∃ m, W 0 m (upd H1 D (.lst []))) ∧ ∀ i m H, W i m H →
      ((Itk d o kvs).stop i H ∧ Qd H) ∨ ((Itk d o kvs).go i H ∧ ∃ Nx : Hp → Prop, (∀ H', Nx H' → ∃ m', m' < m ∧ W (i + 1) m' H') ∧ ∀ x H', (Itk d o kvs).yld i H x H' → g x (wipe σ vs) H' fun σ2 H2 => wipe σ2 vs = wipe σ vs ∧ tt σ2 H2 fun b H3 =>
        if b = true then te σ2 H3 fun y H4 => ∃ acc, H4 D = some (.lst acc) ∧ acc.length < sizeLine ∧ Nx (upd H4 D (.lst (acc ++ [y]))) else Nx H3) := by
  refine ⟨fun i m H => m = kvs.length - i ∧ i ≤ kvs.length ∧ Pv i H, ⟨kvs.length, by simp, Nat.zero_le _, h0⟩, ?_⟩
  rintro i m H ⟨rfl, hi, p⟩
  have q := hl i H hi p
  by_cases hlt : i < kvs.length
  · refine .inr ⟨⟨q, hlt⟩, Pv (i + 1), fun H' p' => ⟨kvs.length - (i + 1), by omega, rfl, hlt, p'⟩, fun x H' y => ?_⟩
    obtain ⟨e, k, v, ek, ex⟩ := y
    subst e ex
    exact hs i k v _ ek p
  · have e : i = kvs.length := by omega
    subst e
    exact .inl ⟨⟨q, Nat.le_refl _⟩, hd H p⟩
/-- the heap without one address -/
def wo (H : Hp) (a : Addr) : Hp := fun b => if b = a then none else H b
theorem wo_ne {H : Hp} {a b : Addr} (h : b ≠ a) : wo H a b = H b := if_neg h
theorem wo_of {H : Hp} {a b : Addr} {o : HO} (h : wo H a b = some o) : b ≠ a ∧ H b = some o := by
  unfold wo at h
  split at h
  · cases h
  · exact ⟨by assumption, h⟩
theorem wo_same {H : Hp} {a : Addr} : Same (wo H a) H := fun b o h => (wo_of h).2
theorem wo_self {H : Hp} {a : Addr} : wo H a a = none := if_pos rfl
theorem wo_upd {H : Hp} {a : Addr} {o : HO} : Same (wo H a) (upd H a o) := fun b u h => by
  obtain ⟨n, e⟩ := wo_of h
  rw [upd_ne n]
  exact e
theorem names_at {H : Hp} {kf : Way} {F : Facts} (h : Paired (IsFact H) kf F) (nd : (F.map (·.1)).Nodup) : ∀ {i : Nat} {k : Key} {v : V}, kf[i]? = some (k, v) → ∃ n rs, F[i]? = some (n, rs) ∧ k = .inr n ∧ IsRows H v rs ∧ valV kf (.inr n) = some v ∧ n ∉ (F.take i).map (·.1) := by
  intro i k v e
  obtain ⟨⟨n, rs⟩, eF, h1⟩ := Paired.at h e
  have h1' : k = .inr n := h1.1
  have nn : n ∉ (F.take i).map (·.1) := by
    intro hm
    have e2 : F = F.take i ++ (n, rs) :: F.drop (i + 1) := by rw [← drop_at eF, List.take_append_drop]
    rw [e2, List.map_append, List.nodup_append] at nd
    exact nd.2.2 n hm n (by simp) rfl
  refine ⟨n, rs, eF, h1', h1.2, ?_, nn⟩
  have e2 : kf = kf.take i ++ (k, v) :: kf.drop (i + 1) := by rw [← drop_at e, List.take_append_drop]
  have ht : Paired (IsFact H) (kf.take i) (F.take i) := by
    clear e eF h1 h1' nn e2 nd
    induction h generalizing i with
    | nil => rw [List.take_nil, List.take_nil]; exact .nil
    | cons p q ih =>
      cases i with
      | zero => exact .nil
      | succ i => exact .cons p ih
  have vn := valV_key_none ht nn
  have gen : ∀ (A B : Way), valV A (.inr n) = none → valV (A ++ (k, v) :: B) (.inr n) = some v := by
    intro A B hA
    induction A with
    | nil => exact valV_pos (p := (k, v)) h1'
    | cons p A ih =>
      by_cases c : p.1 = .inr n
      · rw [valV_pos c] at hA
        cases hA
      · rw [valV_neg c] at hA
        rw [List.cons_append, valV_neg c]
        exact ih hA
  rw [e2]
  exact gen _ _ vn
end Tk
namespace Tk
open PySem PySem.Spec PyProof.Rows L2
/-- self.f = {} -/
theorem s_fldD {K : PySem.W.Frag} {σ : L2.St} {H : Hp} {D : Ends} {u : TS} {f : Str} {C dx sa : Addr} {fs : List (Str × V)} (es : σ[0]? = some (some (.ref sa))) (h : H sa = some (.ins C dx fs)) (cl : Cls K C) (na : NoAttr K C f) (hl : fs.length < 1000)
    (k : ∀ d H', H d = none → d ≠ sa → H' sa = some (.ins C dx (putF f (.ref d) fs)) → H' d = some (.dK []) → Same (wo H sa) H' → u D σ H') : tSeq (sFld K (tVar 0) tDNewK f) u D σ H := by
  refine fun d hd => ⟨_, es, sa, C, dx, fs, rfl, ?_, cl, na, hl, ?_⟩
  · rw [upd_ne (ne_of_none h hd)]
    exact h
  · have n : d ≠ sa := (ne_of_none h hd).symm
    refine k d _ hd n upd_same (by rw [upd_ne n]; exact upd_same) fun b o hb => ?_
    obtain ⟨nb, e⟩ := wo_of hb
    rw [upd_ne nb, upd_ne (ne_of_none e hd)]
    exact e
theorem putF_len (f : Str) (v : V) : ∀ fs : List (Str × V), (putF f v fs).length ≤ fs.length + 1
  | [] => Nat.le_refl _
  | (g, x) :: r => by
    have h := putF_len f v r
    show (if g = f then (g, v) :: r else (g, x) :: putF f v r).length ≤ _
    split
    · rw [List.length_cons, List.length_cons]
      omega
    · rw [List.length_cons, List.length_cons]
      omega
end Tk

/-! ## TkF1 -/
set_option Elab.async false
set_option linter.all false
set_option maxRecDepth 100000
set_option maxHeartbeats 4000000
namespace Tk
open PySem PySem.Spec PyProof.Rows L2
section
variable {P : Program} {w : World} {K : PySem.W.Frag} {mg : Str → Option Value} {base : Heap} {C : Addr}

/-! ### value_key, row_key -/
def spVK : Sp := fun vs H Q _ => ∃ v, vs = [v] ∧ IsVal v ∧ ∀ p H', Same H H' → H p = none → H' p = some (pairOf v) → Q (.ref p) H'
theorem c_value_key (T : Tx K mg C) : C8.Cal P w K mg base 1 "value_key" spVK [] := by
  refine cal T.d_value_key (N := ["value"]) (by decide +kernel) (fun vs H Q E h => ?_) (fun f cdv A outer s H vs Q E nd hr h => ?_)
  · obtain ⟨v, rfl, _⟩ := h
    rfl
  obtain ⟨v, rfl, hv, q⟩ := h
  refine ⟨_, (pss_cons (ps_if (pt_val (pe_callB (isiK K) (by rfl) T.n_isinstance (by decide +kernel) (pa_cons (pv 0) (pa_cons (pe_bltn (v := .ty "int") (by rfl) T.n_int (by decide +kernel) rfl) pa_nil))))
      (pss_one (ps_ret (pe_tup (pa_cons pe_int (pa_cons (pv 0) pa_nil)))))
      pss_nil)
    (pss_one (ps_ret (pe_tup (pa_cons pe_int (pa_cons (pv 0) pa_nil)))))), ?_⟩
  rcases isVal_cases hv with ⟨i, rfl⟩ | ⟨z, rfl, _⟩
  · exact ⟨_, rfl, _, _, _, _, _, rfl, .ty _, .base (.int i), kit_ty k_ii, _, rfl, iteT ⟨_, rfl, z2, fun p hp => q p _ (Same.new hp) hp upd_same⟩⟩
  · exact ⟨_, rfl, _, _, _, _, _, rfl, .ty _, .base (.str z), kit_ty k_si, _, rfl, iteF ⟨_, rfl, z2, fun p hp => q p _ (Same.new hp) hp upd_same⟩⟩
def spRK : Sp := fun vs H Q _ => ∃ b r, vs = [.ref b] ∧ H b = some (.tup r) ∧ (∀ v ∈ r, IsVal v) ∧ r.length ≤ 1000 ∧ ∀ p H', Same H H' → H' p = some (.tup (flatK r)) → Q (.ref p) H'
theorem flatK_len (r : List V) : (flatK r).length = 2 * r.length := by
  induction r with
  | nil => rfl
  | cons v r ih =>
    rw [flatK_cons, List.length_cons, List.length_cons, List.length_cons, ih]
    omega
theorem flatK_snoc (r : List V) (v : V) : flatK (r ++ [v]) = flatK r ++ [.int (kd v), v] := by
  unfold flatK
  rw [List.flatMap_append]
  rfl
theorem c_row_key (T : Tx K mg C) (C_value_key : C8.Cal P w K mg base 1 "value_key" spVK []) : C8.Cal P w K mg base 2 "row_key" spRK [] := by
  refine cal T.d_row_key (N := ["row", "parts", "value"]) (by decide +kernel) (fun vs H Q E h => ?_) (fun f cdv A outer s H vs Q E nd hr h => ?_)
  · obtain ⟨b, r, rfl, _⟩ := h
    rfl
  obtain ⟨b, r, rfl, hb, hv, hl, q⟩ := h
  refine ⟨_, (pss_cons (ps_set (i := 1) nd rfl (Or.inl rfl) (pe_lst pa_nil))
    (pss_cons (ps_for PassesOwn.never rfl (piT K (pv 0)) (pg_name (i := 2) nd rfl (Or.inl rfl))
      (pss_one (ps_expr (pe_bm PySem.F.plainAttrs_list PySem.F.slot_list_extend PySem.F.type_list_extend mt_extendT (pv 1) (pa_cons (C8.pe_c C_value_key hr (by decide) rfl (pa_cons (pv 2) pa_nil)) pa_nil)))))
    (pss_one (ps_ret (pe_callTy (tupK K) (by rfl) T.n_tuple (by decide +kernel) (pa_cons (pv 1) pa_nil)))))), ?_⟩
  refine ⟨z0, fun l hlN => ⟨_, rfl, _, rfl, ⟨r, sqT (Same.new hlN _ _ hb)⟩, ?_⟩⟩
  refine for_tup (xs := r) (fun i σ H' => ∃ x, σ = [some (.ref b), some (.ref l), x] ∧ Same H H' ∧ H' l = some (.lst (flatK (r.take i)))) ⟨none, rfl, Same.new hlN, upd_same⟩ (fun i σ H' _ h => ?_) (fun i x σ H' hx h => ?_) fun σ H' h => ?_
  · obtain ⟨_, _, s1, _⟩ := h
    exact sqT (s1 _ _ hb)
  · obtain ⟨y, rfl, s1, hL⟩ := h
    refine ⟨_, rfl, .inl ⟨rfl, _, sqL hL⟩, _, rfl, x, rfl, hv x (List.mem_of_getElem? hx), fun p H2 s2 hp h2 => ?_⟩
    have hL2 := s2 _ _ hL
    refine ⟨l, p, flatK (r.take i), [.int (kd x), x], rfl, rfl, hL2, h2, ?_, ?_⟩
    · have h1 := flatK_len (r.take i)
      have h2 : (r.take i).length ≤ r.length := List.length_take_le' _ _
      exact sz_ok (by show _ + 2 ≤ _; omega)
    · refine ⟨_, rfl, Same.mut (s1.trans s2) hlN, ?_⟩
      rw [take_snoc hx, flatK_snoc]
      exact upd_same
  · obtain ⟨y, rfl, s1, hL⟩ := h
    rw [List.take_length] at hL
    refine ⟨_, rfl, _, _, rfl, sqL hL, fun p hp => q p _ (s1.trans (Same.new hp)) upd_same⟩
end
end Tk

/-! ## TkF2 -/
set_option Elab.async false
set_option linter.all false
set_option maxRecDepth 100000
set_option maxHeartbeats 4000000
namespace Tk
open PySem PySem.Spec PyProof.Rows L2
section
variable {P : Program} {w : World} {K : PySem.W.Frag} {mg : Str → Option Value} {base : Heap} {C : Addr}
/-! ### has_relation, names_in, check_relation, check_term -/
def spHR : Sp := fun vs H Q _ => ∃ x l, vs = [x] ∧ IsLit H x l ∧ OkWord l ∧ Q (.bl (!(relOf l).isNone)) H
theorem c_has_relation (T : Tx K mg C) : C8.Cal P w K mg base 1 "has_relation" spHR [] := by
  refine cal T.d_has_relation (N := ["literal"]) (by decide +kernel) (fun vs H Q E h => ?_) (fun f cdv A outer s H vs Q E nd hr h => ?_)
  · obtain ⟨b, r, rfl, _⟩ := h
    rfl
  obtain ⟨x, l, rfl, ⟨a, xs, rfl, ha, hl⟩, hw, q⟩ := h
  refine ⟨_, (pss_one (ps_ret (pe_cmpR op_ne (pe_ix (ixT K) (pv 0) pe_int (fun _ _ => rfl)) pe_str (nomark _)))), ?_⟩
  refine ⟨_, rfl, _, _, _, _, rfl, rfl, sqT ha, lit_word hl, rfl, ?_⟩
  rw [cmp_word hw]
  exact q
def spNI : Sp := fun vs H Q _ => ∃ x ts, vs = [x] ∧ IsTms H x ts ∧ ts.length ≤ 1000 ∧ ∀ p H', Same H H' → H p = none → H' p = some (.lst ((namesM ts).map V.str)) → Q (.ref p) H'
theorem c_names_in (T : Tx K mg C) : C8.Cal P w K mg base 1 "names_in" spNI [] := by
  refine cal T.d_names_in (N := ["terms", "term"]) (by decide +kernel) (fun vs H Q E h => ?_) (fun f cdv A outer s H vs Q E nd hr h => ?_)
  · obtain ⟨b, r, rfl, _⟩ := h
    rfl
  obtain ⟨x, ts, rfl, ⟨a, xs, rfl, ha, ht⟩, hl, q⟩ := h
  refine ⟨_, (pss_one (ps_ret (pe_lc (own := [("term", 1)]) rfl nd (piT K (pv 0)) (blkOk_by (own := [("term", 1)]) (N := ["terms", "term"]) (sc := (C8.fnScope s_names_in)) (by decide +kernel)) (fun _ _ _ _ _ => (pg_name (i := 1) nd rfl (Or.inl rfl))) (fun _ _ _ _ _ => pts_one (pt_cmpR op_eq (pe_ix (ixT K) (pv 1) pe_int (fun _ _ => rfl)) pe_str (nomark _))) (fun _ _ _ _ _ => (pe_ix (ixT K) (pv 1) pe_int (fun _ _ => rfl)))))), ?_⟩
  refine ⟨_, rfl, _, rfl, ⟨xs, sqT ha⟩, fun D hD => ?_⟩
  refine lc_tup (xs := xs) (fun i H1 => Same H H1 ∧ H1 D = some (.lst ((namesM (ts.take i)).map V.str))) ⟨Same.new hD, upd_same⟩ (fun i H1 _ h => sqT (h.1 _ _ ha)) (fun i x H1 hx h => ?_) fun H1 h => ?_
  · obtain ⟨s1, h1⟩ := h
    obtain ⟨t, et, c, rfl, hc⟩ := Paired.at ht hx
    have hc1 := s1 _ _ hc
    refine ⟨rfl, ?_⟩
    have es : namesM (ts.take (i + 1)) = namesM (ts.take i) ++ namesM [t] := by rw [take_snoc et, namesM_app]
    have zl : ((namesM (ts.take i)).map V.str).length < sizeLine := by
      have e1 := namesM_len (ts.take i)
      have e2 : (ts.take i).length ≤ ts.length := List.length_take_le' _ _
      rw [List.length_map]
      exact sz_ok' (by omega)
    cases t with
    | var n =>
      refine ⟨_, rfl, _, _, _, _, rfl, rfl, sqT hc1, rfl, rfl, _, rfl, ?_⟩
      refine ifEq rfl ⟨_, rfl, _, _, _, _, rfl, rfl, sqT hc1, rfl, _, h1, zl, ?_⟩
      rw [es, List.map_append]
      exact lc_step s1 hD
    | val v =>
      refine ⟨_, rfl, _, _, _, _, rfl, rfl, sqT hc1, rfl, rfl, _, rfl, ?_⟩
      refine ifNe (by decide +kernel) ?_
      rw [es, show namesM [Tm.val v] = [] from rfl, List.append_nil]
      exact ⟨s1, h1⟩
    | any =>
      refine ⟨_, rfl, _, _, _, _, rfl, rfl, sqT hc1, rfl, rfl, _, rfl, ?_⟩
      refine ifNe (by decide +kernel) ?_
      rw [es, show namesM [Tm.any] = [] from rfl, List.append_nil]
      exact ⟨s1, h1⟩
  · obtain ⟨s1, h1⟩ := h
    rw [same_len ht, List.take_length] at h1
    exact q D H1 s1 hD h1
def spCR (C : Addr) : Sp := fun vs H Q _ => ∃ x y R F l r ts, vs = [x, y] ∧ IsState C H x R F ∧ IsLit H y l ∧ relOf l = some (r, ts) ∧ widthOf R r = some ts.length ∧ ∀ H', Same H H' → Q .non H'
theorem c_check_relation (T : Tx K mg C) : C8.Cal P w K mg base 1 "check_relation" (spCR C) [] := by
  refine cal T.d_check_relation (N := ["state", "literal", "relation", "terms"]) (by decide +kernel) (fun vs H Q E h => ?_) (fun f cdv A outer s H vs Q E nd hr h => ?_)
  · obtain ⟨x, y, R, F, l, r, ts, rfl, _⟩ := h
    rfl
  obtain ⟨x, y, R, F, l, r, ts, rfl, hs, hl, er, hwd, q⟩ := h
  refine ⟨_, (pss_cons (ps_asg (pe_slice (slT K) (pv 1) (po_some (pe_un un_neg pe_int)) po_none) (pgT K rfl (pgs_cons (pg_name (i := 2) nd rfl (Or.inl rfl)) (pgs_cons (pg_name (i := 3) nd rfl (Or.inl rfl)) pgs_nil))))
    (pss_cons (ps_if (pt_cmp (pc_dnotin (hu_of hr) (pv 2) (fldK K (pv 0) rfl)))
      (pss_one ps_never)
      pss_nil)
    (pss_one (ps_if (pt_cmpR op_ne (pe_callB (lenK K) (by rfl) T.n_len (by decide +kernel) (pa_cons (pv 3) pa_nil)) (pe_callB (lenK K) (by rfl) T.n_len (by decide +kernel) (pa_cons (pe_ix (ixT K) (pe_dget (hu_of hr) (fldK K (pv 0) rfl) (pv 2) (fun _ _ => rfl)) pe_int (fun _ _ => rfl)) pa_nil)) (nomark _))
      (pss_one ps_never)
      pss_nil)))), ?_⟩
  obtain ⟨sa, dx, fs, y1, y2, rfl, hsa, f1, ⟨d1, kr, rfl, hd1, pr⟩, f2, _⟩ := hs
  obtain ⟨a, xs, rfl, ha, hl⟩ := hl
  obtain ⟨zs, z, rfl, hz0, hz3, c, us, rfl, hc, ht⟩ := lit_rel hl er
  obtain ⟨ra, rc, cs, v1, hra, hrc, ecs⟩ := rel_get pr hwd
  refine sq ⟨_, rfl, _, rfl, _, rfl, _, _, rfl, sqT ha, ?_⟩
  have hlen : 0 < zs.length := List.length_pos_iff.mpr hz0
  refine ⟨fun z => absurd z.1 (by rw [show (-2 : Int) = -2 from rfl, sIx_m2]; omega), fun _ p hp => ?_⟩
  rw [cut_m2]
  have s1 : Same H (upd H p (.tup [.str r, .ref c])) := Same.new hp
  refine ⟨p, _, rfl, sqT upd_same, rfl, _, _, rfl, _, _, rfl, rfl, ?_⟩
  refine sq ⟨_, rfl, _, rfl, sa, C, dx, fs, _, rfl, s1 _ _ hsa, T.cl, T.no_relations, f1, _, _, rfl, DGet.k (k := .inr r) (s1 _ _ hd1), _, rfl, ?_⟩
  rw [v1]
  refine iteF ?_
  refine ⟨_, rfl, _, _, rfl, .inr (sqT (s1 _ _ hc)), _, rfl, sa, C, dx, fs, _, rfl, s1 _ _ hsa, T.cl, T.no_relations, f1, _, rfl, d1, .ref ra, rfl, dgetS (s1 _ _ hd1) v1, _, _, _, _, rfl, rfl, sqT (s1 _ _ hra), rfl, _, _, rfl, .inr (sqT (s1 _ _ hrc)), rfl, _, rfl, ?_⟩
  refine ifNEq (by rw [same_len ht, ecs]) (q _ s1)
def spCT : Sp := fun vs H Q _ => ∃ x t a ks, vs = [x, .ref a] ∧ IsTm H x t ∧ H a = some (.lst (ks.map V.str)) ∧ OkTm ks t ∧ Q .non H
theorem c_check_term (T : Tx K mg C) : C8.Cal P w K mg base 1 "check_term" spCT [] := by
  refine cal T.d_check_term (N := ["term", "known"]) (by decide +kernel) (fun vs H Q E h => ?_) (fun f cdv A outer s H vs Q E nd hr h => ?_)
  · obtain ⟨x, t, a, ks, rfl, _⟩ := h
    rfl
  obtain ⟨x, t, a, ks, rfl, ht, ha, ok, q⟩ := h
  refine ⟨_, (pss_cons (ps_if (pt_cmpR op_eq (pe_ix (ixT K) (pv 0) pe_int (fun _ _ => rfl)) pe_str (nomark _))
      (pss_one ps_never)
      pss_nil)
    (pss_one (ps_if (PW.pt (pw_and (pt_cmpR op_eq (pe_ix (ixT K) (pv 0) pe_int (fun _ _ => rfl)) pe_str (nomark _)) (pw_and1 (pt_cmpR (ninS K) (pe_ix (ixT K) (pv 0) pe_int (fun _ _ => rfl)) (pv 1) (by rfl)))))
      (pss_one ps_never)
      pss_nil))), ?_⟩
  refine sq (s_tm rfl ht (fun e => ?_) fun e => ?_)
  · rw [tw_any e] at ok
    exact ok.elim
  obtain ⟨c, rfl, hc⟩ := ht
  cases t with
  | any => exact ok.elim
  | val v =>
    refine ⟨_, rfl, _, _, _, _, rfl, rfl, sqT hc, rfl, rfl, _, rfl, ?_⟩
    refine ifNe (by decide +kernel) ?_
    exact iteF q
  | var n =>
    refine ⟨_, rfl, _, _, _, _, rfl, rfl, sqT hc, rfl, rfl, _, rfl, ?_⟩
    refine ifEq rfl ?_
    refine ⟨_, rfl, _, _, _, _, rfl, rfl, sqT hc, rfl, _, rfl, _, _, rfl, .inl (sqL ha), rfl, flat_strs ks, _, rfl, ?_⟩
    rw [if_pos rfl, inV_str, decide_eq_true (show n ∈ ks from ok)]
    exact iteF q
end
end Tk

/-! ## TkF3 -/
set_option Elab.async false
set_option linter.all false
set_option maxRecDepth 100000
set_option maxHeartbeats 4000000
namespace Tk
open PySem PySem.Spec PyProof.Rows L2
section
variable {P : Program} {w : World} {K : PySem.W.Frag} {mg : Str → Option Value} {base : Heap} {C : Addr}
/-! ### newly_bound, check -/
def spNB (R : Rels) : Sp := fun vs H Q _ => ∃ x l a ks, vs = [x, .ref a] ∧ IsLit H x l ∧ H a = some (.lst (ks.map V.str)) ∧ OkLit R ks l ∧ ks.length ≤ 1000 ∧ ∀ p H', Same H H' → H p = none → H' p = some (.lst ((newM l).map V.str)) → Q (.ref p) H'
theorem c_newly_bound {R : Rels} (T : Tx K mg C) (C_names_in : C8.Cal P w K mg base 1 "names_in" spNI []) (C_check_term : C8.Cal P w K mg base 1 "check_term" spCT []) : C8.Cal P w K mg base 2 "newly_bound" (spNB R) [] := by
  refine cal T.d_newly_bound (N := ["literal", "bound", "term", "names", "name"]) (by decide +kernel) (fun vs H Q E h => ?_) (fun f cdv A outer s H vs Q E nd hr h => ?_)
  · obtain ⟨x, l, a, ks, rfl, _⟩ := h
    rfl
  obtain ⟨x, l, a, ks, rfl, hl, ha, ok, hk, q⟩ := h
  refine ⟨_, (pss_cons (ps_if (pt_cmpR op_eq (pe_ix (ixT K) (pv 0) pe_int (fun _ _ => rfl)) pe_str (nomark _))
      (pss_cons (ps_for PassesOwn.never rfl (piT K (pe_slice (slT K) (pv 0) (po_some pe_int) po_none)) (pg_name (i := 2) nd rfl (Or.inl rfl))
        (pss_one (ps_expr (C8.pe_c C_check_term hr (by decide) rfl (pa_cons (pv 2) (pa_cons (pv 1) pa_nil))))))
      (pss_one (ps_ret (pe_lst pa_nil))))
      pss_nil)
    (pss_cons (ps_set (i := 3) nd rfl (Or.inl rfl) (C8.pe_c C_names_in hr (by decide) rfl (pa_cons (pe_ix (ixT K) (pv 0) (pe_un un_neg pe_int) (fun _ _ => rfl)) pa_nil)))
    (pss_cons (ps_if (pt_cmpR op_eq (pe_ix (ixT K) (pv 0) pe_int (fun _ _ => rfl)) pe_str (nomark _))
      (pss_one (ps_ret (pv 3)))
      pss_nil)
    (pss_cons (ps_if (pt_cmpR op_eq (pe_ix (ixT K) (pv 0) pe_int (fun _ _ => rfl)) pe_str (nomark _))
      (pss_cons (ps_for PassesOwn.never rfl (piL K (pv 3)) (pg_name (i := 4) nd rfl (Or.inl rfl))
        (pss_one (ps_if (pt_cmpR (ninS K) (pv 4) (pv 1) (by rfl))
          (pss_one ps_never)
          pss_nil)))
      (pss_one (ps_ret (pe_lst pa_nil))))
      pss_nil)
    (pss_cons (ps_if (pt_cmpR (inS K) (pe_ix (ixT K) (pv 0) pe_int (fun _ _ => rfl)) (pv 3) (by rfl))
      (pss_one ps_never)
      pss_nil)
    (pss_cons (ps_if (pt_cmpR op_ne (pe_ix (ixT K) (pv 0) pe_int (fun _ _ => rfl)) pe_str (nomark _))
      (pss_one (ps_expr (C8.pe_c C_check_term hr (by decide) rfl (pa_cons (pe_ix (ixT K) (pv 0) pe_int (fun _ _ => rfl)) (pa_cons (pe_op op_cat (pv 1) (pv 3)) pa_nil)))))
      pss_nil)
    (pss_one (ps_ret (pe_lst (pa_cons (pe_ix (ixT K) (pv 0) pe_int (fun _ _ => rfl)) pa_nil)))))))))), ?_⟩
  have ow := okLit_word ok
  refine sq (s_lit rfl hl (fun e => ?_) fun e1 => ?_)
  · obtain ⟨op, t, u, rfl⟩ := word_cmp ow e
    obtain ⟨b, xs, rfl, hb, y, z, rfl, ht, hu⟩ := hl
    obtain ⟨_, o1, o2⟩ := ok
    refine ⟨_, rfl, _, rfl, _, _, rfl, sqT hb, fun z => absurd z.1 (by show ¬ (2 : Nat) = 0; decide), fun _ p hp => ?_⟩
    have s1 : Same H (upd H p (.tup [y, z])) := Same.new hp
    refine ⟨p, rfl, ⟨[y, z], sqT upd_same⟩, ?_⟩
    refine for_tup (xs := [y, z]) (fun i σ H1 => ∃ o, σ = [some (.ref b), some (.ref a), o, none, none] ∧ H1 = upd H p (.tup [y, z])) ⟨none, rfl, rfl⟩ (fun i σ H1 _ h => ?_) (fun i x σ H1 hx h => ?_) fun σ H1 h => ?_
    · obtain ⟨_, _, rfl⟩ := h
      exact sqT upd_same
    · obtain ⟨o, rfl, rfl⟩ := h
      match i, hx with
      | 0, hx =>
        have e : y = x := Option.some.inj hx
        subst e
        exact ⟨_, rfl, _, rfl, _, t, a, ks, rfl, ht.mono s1.tup, s1 _ _ ha, o1, _, rfl, rfl⟩
      | 1, hx =>
        have e : z = x := Option.some.inj hx
        subst e
        exact ⟨_, rfl, _, rfl, _, u, a, ks, rfl, hu.mono s1.tup, s1 _ _ ha, o2, _, rfl, rfl⟩
    · obtain ⟨o, rfl, rfl⟩ := h
      exact ⟨z0, fun r hr => q r _ (s1.trans (Same.new hr)) (s1.free hr) upd_same⟩
  obtain ⟨r, ts, er⟩ := word_rel e1
  obtain ⟨okw, okl, okt⟩ := okLit_rel ok er
  obtain ⟨b, xs, rfl, hb, hx⟩ := id hl
  obtain ⟨zs, z, rfl, hz0, hz3, ht⟩ := lit_rel hx er
  refine sq ⟨_, rfl, _, rfl, _, _, _, _, rfl, rfl, sqT hb, at_m1, z, ts, rfl, ht, Nat.le_trans okl (by decide), fun p H1 s1 hp h1 => ?_⟩
  have hl1 := hl.mono s1.tup
  refine sq (s_lit rfl hl1 (fun e => ?_) fun e2 => ?_)
  · obtain ⟨r, ts, rfl⟩ := word_fact ow e
    cases er
    exact ⟨_, rfl, q p H1 s1 hp h1⟩
  refine sq (s_lit rfl hl1 (fun e => ?_) fun e3 => ?_)
  · obtain ⟨r, ts, rfl⟩ := word_neg ow e
    cases er
    refine ⟨_, rfl, _, rfl, ⟨_, sqL h1⟩, ?_⟩
    refine for_list (xs := (namesM ts).map V.str) (fun i σ H2 => ∃ o, σ = [some (.ref b), some (.ref a), none, some (.ref p), o] ∧ H2 = H1) ⟨none, rfl, rfl⟩ (fun i σ H2 _ h => ?_) (fun i x σ H2 hx h => ?_) fun σ H2 h => ?_
    · obtain ⟨_, _, rfl⟩ := h
      exact sqL h1
    · obtain ⟨o, rfl, rfl⟩ := h
      obtain ⟨n, hn, rfl⟩ := List.mem_map.mp (List.mem_of_getElem? hx)
      refine ⟨_, rfl, _, rfl, _, _, rfl, .inl (sqL (s1 _ _ ha)), rfl, flat_strs ks, _, rfl, ?_⟩
      rw [if_pos rfl, inV_str, decide_eq_true (ok.2 n hn)]
      exact iteF ⟨_, rfl, rfl⟩
    · obtain ⟨o, rfl, rfl⟩ := h
      exact ⟨z0, fun r hr => q r _ (s1.trans (Same.new hr)) (s1.free hr) upd_same⟩
  rcases word_tot e1 e2 e3 with ⟨v, r, ts, rfl⟩ | ⟨g, v, t, r, ts, rfl⟩
  · cases er
    obtain ⟨y, exs, hty⟩ := hx
    rw [exs] at hb
    have hb1 := s1 _ _ hb
    refine sq ⟨_, rfl, _, _, _, _, rfl, rfl, sqT hb1, rfl, _, rfl, _, _, rfl, .inl (sqL h1), rfl, flat_strs _, _, rfl, ?_⟩
    rw [if_neg (by decide), inV_str, decide_eq_false ok.2]
    refine iteF ?_
    refine sq (s_litN rfl hl1 (fun e => absurd rfl e) fun _ => ?_)
    exact ⟨_, rfl, _, _, _, _, rfl, rfl, sqT hb1, rfl, z1, fun r hr => q r _ (s1.trans (Same.new hr)) (s1.free hr) upd_same⟩
  · cases er
    obtain ⟨y, y2, exs, hty, _⟩ := hx
    rw [exs] at hb
    have hb1 := s1 _ _ hb
    obtain ⟨o1, o2, o3, o4⟩ := ok
    refine sq ⟨_, rfl, _, _, _, _, rfl, rfl, sqT hb1, rfl, _, rfl, _, _, rfl, .inl (sqL h1), rfl, flat_strs _, _, rfl, ?_⟩
    rw [if_neg (by decide), inV_str, decide_eq_false o3]
    refine iteF ?_
    refine sq (s_litN rfl hl1 (fun _ => ?_) fun e => absurd e (tot_words o1).2.2.2)
    have nl := namesM_len ts
    refine ⟨_, rfl, _, _, _, _, rfl, rfl, sqT hb1, rfl, _, rfl, _, rfl, _, _, _, _, rfl, rfl, s1 _ _ ha, h1, ?_, fun m hm => ?_⟩
    · rw [List.length_map, List.length_map]
      exact sz_ok (by omega)
    have s2 := s1.trans (Same.new (o := .lst (ks.map V.str ++ (namesM ts).map V.str)) hm)
    refine ⟨_, t, m, ks ++ namesM ts, rfl, hty.mono s2.tup, ?_, o4, ?_⟩
    · rw [List.map_append]
      exact upd_same
    exact ⟨_, rfl, _, _, _, _, rfl, rfl, sqT (s2 _ _ hb), rfl, z1, fun r hr => q r _ (s2.trans (Same.new hr)) (s2.free hr) upd_same⟩
def spCk (C : Addr) : Sp := fun vs H Q _ => ∃ x y R F b, vs = [x, y] ∧ IsState C H x R F ∧ IsBody H y b ∧ OkBody R b [] ∧ b.length ≤ 10 ∧ ∀ p H', Same H H' → H' p = some (.tup ((colsM b []).map V.str)) → Q (.ref p) H'
theorem c_check (T : Tx K mg C) (C_has_relation : C8.Cal P w K mg base 1 "has_relation" spHR []) (C_check_relation : C8.Cal P w K mg base 1 "check_relation" (spCR C) []) (C_newly_bound : ∀ R, C8.Cal P w K mg base 2 "newly_bound" (spNB R) []) : C8.Cal P w K mg base 3 "check" (spCk C) [] := by
  refine cal T.d_check (N := ["state", "body", "bound", "literal", "name"]) (by decide +kernel) (fun vs H Q E h => ?_) (fun f cdv A outer s H vs Q E nd hr h => ?_)
  · obtain ⟨x, y, R, F, b, rfl, _⟩ := h
    rfl
  obtain ⟨x, y, R, F, b, rfl, hs, hb, ok, hl, q⟩ := h
  have C_newly_bound := C_newly_bound R
  refine ⟨_, (pss_cons (ps_set (i := 2) nd rfl (Or.inl rfl) (pe_lst pa_nil))
    (pss_cons (ps_for PassesOwn.never rfl (piT K (pv 1)) (pg_name (i := 3) nd rfl (Or.inl rfl))
      (C8.pss_cut (ps_if (pt_val (C8.pe_c C_has_relation hr (by decide) rfl (pa_cons (pv 3) pa_nil)))
        (pss_one (ps_expr (C8.pe_c C_check_relation hr (by decide) rfl (pa_cons (pv 0) (pa_cons (pv 3) pa_nil)))))
        pss_nil)
      (pss_one (ps_for PassesOwn.never rfl (piL K (C8.pe_c C_newly_bound hr (by decide) rfl (pa_cons (pv 3) (pa_cons (pv 2) pa_nil)))) (pg_name (i := 4) nd rfl (Or.inl rfl))
        (pss_one (ps_if (pt_cmpR (ninS K) (pv 4) (pv 2) (by rfl))
          (pss_one (ps_expr (pe_bm PySem.F.plainAttrs_list PySem.F.slot_list_append PySem.F.type_list_append mt_append (pv 2) (pa_cons (pv 4) pa_nil))))
          pss_nil))))))
    (pss_one (ps_ret (pe_callTy (tupK K) (by rfl) T.n_tuple (by decide +kernel) (pa_cons (pv 2) pa_nil)))))), ?_⟩
  obtain ⟨a, xs, rfl, ha, pl⟩ := hb
  refine sq ⟨z0, fun p hp => ?_⟩
  have s0 : Same H (upd H p (.lst [])) := Same.new hp
  refine sq ⟨_, rfl, _, rfl, ⟨xs, sqT (s0 _ _ ha)⟩, ?_⟩
  refine for_tup (xs := xs) (fun i σ H1 => ∃ o o', σ = [some x, some (.ref a), some (.ref p), o, o'] ∧ Same H H1 ∧ H1 p = some (.lst ((colsM (b.take i) []).map V.str))) ⟨none, none, rfl, s0, upd_same⟩ (fun i σ H1 _ h => ?_) (fun i y σ H1 hy h => ?_) fun σ H1 h => ?_
  · obtain ⟨_, _, _, s1, _⟩ := h
    exact sqT (s1 _ _ ha)
  · obtain ⟨o, o', rfl, s1, h1⟩ := h
    obtain ⟨l, el, hl⟩ := Paired.at pl hy
    have okl := okBody_at ok el
    have len : (colsM (b.take i) []).length ≤ 100 := by
      have e1 := colsM_len (okBody_take i ok)
      have e2 : (b.take i).length ≤ b.length := List.length_take_le' _ _
      rw [List.length_nil] at e1
      omega
    have ecol : colsM (b.take (i + 1)) [] = (newM l).foldl addN (colsM (b.take i) []) := by
      rw [take_snoc el, colsM_app]
      rfl
    refine ⟨fun σ2 H2 => σ2 = [some x, some (.ref a), some (.ref p), some y, o'] ∧ Same H1 H2, ?_, fun σ2 H2 h => ?_⟩
    · refine ⟨_, rfl, y, l, rfl, hl.mono s1.tup, okLit_word okl, _, rfl, ?_⟩
      cases er : relOf l with
      | none => exact iteF ⟨rfl, Same.refl _⟩
      | some rt =>
        obtain ⟨r, ts⟩ := rt
        exact iteT ⟨_, rfl, _, rfl, x, y, R, F, l, r, ts, rfl, hs.mono s1, hl.mono s1.tup, er, (okLit_rel okl er).1, fun H2 s2 => ⟨rfl, s2⟩⟩
    obtain ⟨rfl, s2⟩ := h
    have h2 := s2 _ _ h1
    have s2' := s1.trans s2
    refine ⟨_, rfl, _, rfl, y, l, p, _, rfl, hl.mono s2'.tup, h2, okl, Nat.le_trans len (by decide), fun r H3 s3 hr h3 => ?_⟩
    have nrp : r ≠ p := fun e => by rw [e, h2] at hr; cases hr
    have hr0 : H r = none := s2'.free hr
    refine ⟨_, rfl, ⟨_, sqL h3⟩, ?_⟩
    refine for_list (xs := (newM l).map V.str) (fun j σ H4 => ∃ o, σ = [some x, some (.ref a), some (.ref p), some y, o] ∧ Same H H4 ∧ H4 r = some (.lst ((newM l).map V.str)) ∧ H4 p = some (.lst ((((newM l).take j).foldl addN (colsM (b.take i) [])).map V.str))) ⟨_, rfl, s2'.trans s3, h3, s3 _ _ h2⟩ (fun j σ H4 _ h => ?_) (fun j z σ H4 hz h => ?_) fun σ H4 h => ?_
    · obtain ⟨_, _, _, h4, _⟩ := h
      exact sqL h4
    · obtain ⟨o, rfl, s4, h4, h5⟩ := h
      rw [List.getElem?_map] at hz
      obtain ⟨n, hn, rfl⟩ := Option.map_eq_some_iff.mp hz
      have e2 := addN_take (ks := colsM (b.take i) []) hn
      have len2 := addN_len ((newM l).take j) (colsM (b.take i) [])
      have len3 : ((newM l).take j).length ≤ (newM l).length := List.length_take_le' _ _
      have len4 := newM_len okl
      refine ⟨_, rfl, _, rfl, _, _, rfl, .inl (sqL h5), rfl, flat_strs _, _, rfl, ?_⟩
      rw [if_pos rfl, inV_str]
      by_cases m : n ∈ ((newM l).take j).foldl addN (colsM (b.take i) [])
      · rw [addN_in m] at e2
        rw [decide_eq_true m]
        exact iteF ⟨_, rfl, s4, h4, by rw [e2]; exact h5⟩
      · rw [addN_out m] at e2
        rw [decide_eq_false m]
        refine iteT ⟨_, rfl, .inl ⟨rfl, _, sqL h5⟩, _, rfl, p, _, _, rfl, rfl, h5, ?_, ?_⟩
        · rw [List.length_map]
          exact sz_ok' (by omega)
        · refine ⟨_, rfl, Same.mut s4 hp, ?_, ?_⟩
          · rw [upd_ne nrp]
            exact h4
          · rw [e2, List.map_append]
            exact upd_same
    · obtain ⟨o, rfl, s4, h4, h5⟩ := h
      rw [List.length_map, List.take_length] at h5
      exact ⟨_, _, rfl, s4, by rw [ecol]; exact h5⟩
  · obtain ⟨o, o', rfl, s1, h1⟩ := h
    rw [same_len pl, List.take_length] at h1
    exact ⟨_, rfl, _, _, rfl, sqL h1, fun r hr => q r _ (s1.trans (Same.new hr)) upd_same⟩
end
end Tk

/-! ## TkF4 -/
set_option Elab.async false
set_option linter.all false
set_option maxRecDepth 100000
set_option maxHeartbeats 4000000
namespace Tk
open PySem PySem.Spec PyProof.Rows L2
section
variable {P : Program} {w : World} {K : PySem.W.Frag} {mg : Str → Option Value} {base : Heap} {C : Addr}
/-! ### value_of, met, meetings, compared -/
def spVO : Sp := fun vs H Q _ => ∃ x y t wy, vs = [x, y] ∧ IsTm H x t ∧ IsWay H y wy ∧ HasW t wy ∧ Q (worth t wy) H
theorem c_value_of (T : Tx K mg C) : C8.Cal P w K mg base 1 "value_of" spVO [] := by
  refine cal T.d_value_of (N := ["term", "way"]) (by decide +kernel) (fun vs H Q E h => ?_) (fun f cdv A outer s H vs Q E nd hr h => ?_)
  · obtain ⟨x, y, t, wy, rfl, _⟩ := h
    rfl
  obtain ⟨x, y, t, wy, rfl, ht, hw, ok, q⟩ := h
  refine ⟨_, (pss_cons (ps_if (pt_cmpR op_eq (pe_ix (ixT K) (pv 0) pe_int (fun _ _ => rfl)) pe_str (nomark _))
      (pss_one (ps_ret (pe_ix (ixT K) (pv 0) pe_int (fun _ _ => rfl))))
      pss_nil)
    (pss_one (ps_ret (pe_dget (hu_of hr) (pv 1) (pe_ix (ixT K) (pv 0) pe_int (fun _ _ => rfl)) (fun _ _ => rfl))))), ?_⟩
  refine sq (s_tm rfl ht (fun e => ?_) fun e => ?_)
  · obtain ⟨v, rfl⟩ := tw_val e
    obtain ⟨a, rfl, ha⟩ := ht
    exact ⟨_, rfl, _, _, _, _, rfl, rfl, sqT ha, rfl, q⟩
  · obtain ⟨a, rfl, ha⟩ := ht
    obtain ⟨d, rfl, hd⟩ := hw
    cases t with
    | val v => exact absurd rfl e
    | any => exact ok.elim
    | var n =>
      obtain ⟨u, hu⟩ := Option.isSome_iff_exists.mp ok
      refine ⟨_, rfl, _, rfl, _, _, _, _, rfl, rfl, sqT ha, rfl, d, u, rfl, dgetS hd hu, ?_⟩
      have e : worth (.var n) wy = u := by
        show (valV wy (.inr n)).getD .non = u
        rw [hu]
        rfl
      rw [← e]
      exact q
def MetR (H H' : Hp) (v : V) : Option Way → Prop
  | none => v = .non
  | some w => ∃ p, v = .ref p ∧ H p = none ∧ H' p = some (.dK w)
def spMet : Sp := fun vs H Q _ => ∃ x a r y ts wy, vs = [x, .ref a, y] ∧ IsTms H x ts ∧ H a = some (.tup r) ∧ IsWay H y wy ∧ ts.length = r.length ∧ (∀ t ∈ ts, OkT t) ∧ (∀ v ∈ r, IsVal v) ∧ (∀ p ∈ wy, IsVal p.2) ∧ wy.length + ts.length ≤ 1000 ∧
  ∀ v H', Same H H' → MetR H H' v (metM ts r wy) → Q v H'
theorem c_met (T : Tx K mg C) : C8.Cal P w K mg base 1 "met" spMet [] := by
  refine cal T.d_met (N := ["terms", "row", "way", "found", "term", "value"]) (by decide +kernel) (fun vs H Q E h => ?_) (fun f cdv A outer s H vs Q E nd hr h => ?_)
  · obtain ⟨x, a, r, y, ts, wy, rfl, _⟩ := h
    rfl
  obtain ⟨x, a, r, y, ts, wy, rfl, ht, hr', hw, hlen, okt, okr, okw, hz, q⟩ := h
  refine ⟨_, (pss_cons (ps_set (i := 3) nd rfl (Or.inl rfl) (pe_callTy call_dictD (by rfl) T.n_dict (by decide +kernel) (pa_cons (pv 2) pa_nil)))
    (pss_cons (ps_for PassesOwn.never rfl (zipK K (by rfl) T.n_zip (pa_cons (pv 0) (pa_cons (pv 1) pa_nil))) (pgT K rfl (pgs_cons (pg_name (i := 4) nd rfl (Or.inl rfl)) (pgs_cons (pg_name (i := 5) nd rfl (Or.inl rfl)) pgs_nil)))
      (pss_cons (ps_if (PW.pt (pw_and (pt_cmpR op_eq (pe_ix (ixT K) (pv 4) pe_int (fun _ _ => rfl)) pe_str (nomark _)) (pw_and1 (pt_cmpR op_ne (pe_ix (ixT K) (pv 4) pe_int (fun _ _ => rfl)) (pv 5) (nomark _)))))
        (pss_one (ps_ret pe_non))
        pss_nil)
      (pss_one (ps_if (PW.pt (pw_and (pt_cmpR op_eq (pe_ix (ixT K) (pv 4) pe_int (fun _ _ => rfl)) pe_str (nomark _)) (pw_and1 (pt_cmpR op_ne (pe_dsetd (pv 3) (pe_ix (ixT K) (pv 4) pe_int (fun _ _ => rfl)) (pv 5) ⟨rfl, rfl, rfl, rfl⟩) (pv 5) (nomark _)))))
        (pss_one (ps_ret pe_non))
        pss_nil))))
    (pss_one (ps_ret (pv 3))))), ?_⟩
  obtain ⟨b, xs, rfl, hb, pt⟩ := ht
  obtain ⟨d, rfl, hd⟩ := hw
  refine sq ⟨_, rfl, d, wy, rfl, .inl hd, fun p hp => ?_⟩
  have s0 : Same H (upd H p (.dK wy)) := Same.new hp
  refine sq ⟨_, rfl, _, rfl, b, a, xs, r, rfl, .inr ⟨sqT (s0 _ _ hb), sqT (s0 _ _ hr'), ?_⟩⟩
  refine RZ.for_zipT (xs := xs) (ys := r) (by rw [same_len pt, hlen]) (fun i σ H1 => ∃ wi o o', σ = [some (.ref b), some (.ref a), some (.ref d), some (.ref p), o, o'] ∧ Same H H1 ∧ H1 p = some (.dK wi) ∧ metM ts r wy = metM (ts.drop i) (r.drop i) wi ∧ wi.length + (ts.length - i) ≤ 1000 ∧ ∀ q ∈ wi, IsVal q.2)
    ⟨wy, none, none, rfl, s0, upd_same, rfl, hz, okw⟩ (fun i σ H1 h => ?_) (fun i x v Z σ H1 hx hv h hZ => ?_) fun σ H1 h => ?_
  · obtain ⟨wi, _, _, _, s1, _⟩ := h
    exact ⟨sqT (s1 _ _ hb), sqT (s1 _ _ hr')⟩
  · obtain ⟨wi, o, o', rfl, s1, h1, em, hlw, hvw⟩ := h
    obtain ⟨t, et, c, rfl, hc⟩ := Paired.at pt hx
    have s2 : Same H1 (upd H1 Z (.tup [.ref c, v])) := Same.new hZ
    have s3 := s1.trans s2
    have hc3 := s3 _ _ hc
    have h3 := s2 _ _ h1
    have okv := okr v (List.mem_of_getElem? hv)
    have okti := okt t (List.mem_of_getElem? et)
    have hil := getElem?_range et
    rw [drop_at et, drop_at hv] at em
    refine ⟨Z, _, rfl, sqT upd_same, rfl, _, _, rfl, _, _, rfl, rfl, ?_⟩
    cases t with
    | val u =>
      refine sq ⟨_, rfl, _, _, _, _, rfl, rfl, sqT hc3, rfl, rfl, _, rfl, ifEq rfl ?_⟩
      refine ⟨_, rfl, _, _, _, _, rfl, rfl, sqT hc3, rfl, _, rfl, scal_val okti okv, _, rfl, ?_⟩
      by_cases e : u = v
      · refine ifNEq e ?_
        refine ⟨_, rfl, _, _, _, _, rfl, rfl, sqT hc3, rfl, rfl, _, rfl, ifNe (by decide +kernel) (iteF ?_)⟩
        refine ⟨wi, _, _, rfl, s3, h3, ?_, by omega, hvw⟩
        rw [em]
        show (if u = v then _ else _) = _
        rw [if_pos e]
      · refine ifNNe e (q _ _ s3 ?_)
        rw [em]
        show MetR _ _ _ (if u = v then _ else _)
        rw [if_neg e]
        rfl
    | any =>
      refine sq ⟨_, rfl, _, _, _, _, rfl, rfl, sqT hc3, rfl, rfl, _, rfl, ifNe (by decide +kernel) (iteF ?_)⟩
      refine ⟨_, rfl, _, _, _, _, rfl, rfl, sqT hc3, rfl, rfl, _, rfl, ifNe (by decide +kernel) (iteF ?_)⟩
      exact ⟨wi, _, _, rfl, s3, h3, em, by omega, hvw⟩
    | var n =>
      refine sq ⟨_, rfl, _, _, _, _, rfl, rfl, sqT hc3, rfl, rfl, _, rfl, ifNe (by decide +kernel) (iteF ?_)⟩
      refine ⟨_, rfl, _, _, _, _, rfl, rfl, sqT hc3, rfl, rfl, _, rfl, ifEq rfl ?_⟩
      refine ⟨_, rfl, p, rfl, .inl ⟨wi, .inl h3⟩, _, rfl, _, _, _, _, rfl, rfl, sqT hc3, rfl, _, rfl, wi, .inr n, h3, rfl, sz_ok' (by omega), fun u hu => ?_, fun hu => ?_⟩
      · have em' : metM ts r wy = if u = v then metM (ts.drop (i + 1)) (r.drop (i + 1)) wi else none := by
          rw [em]
          show (match valV wi (.inr n) with | some u => if u = v then _ else none | none => _) = _
          rw [hu]
        obtain ⟨q1, hq1, e1⟩ := valV_mem hu
        have oku : IsVal u := by rw [← e1]; exact hvw q1 hq1
        refine ⟨_, rfl, scal_val oku okv, _, rfl, ?_⟩
        by_cases e : u = v
        · refine ifNEq e ?_
          refine ⟨wi, _, _, rfl, s3, h3, ?_, by omega, hvw⟩
          rw [em', if_pos e]
        · refine ifNNe e (q _ _ s3 ?_)
          rw [em', if_neg e]
          rfl
      · have em' : metM ts r wy = metM (ts.drop (i + 1)) (r.drop (i + 1)) (putK wi (.inr n) v) := by
          rw [em]
          show (match valV wi (.inr n) with | some u => if u = v then _ else none | none => _) = _
          rw [hu]
        refine ⟨_, rfl, scal_val okv okv, _, rfl, ?_⟩
        refine ifNEq rfl ?_
        refine ⟨_, _, _, rfl, Same.mut s3 hp, upd_same, em', ?_, putK_vals hvw okv⟩
        have e2 := length_putK wi (.inr n) v
        omega
  · obtain ⟨wi, o, o', rfl, s1, h1, em, _⟩ := h
    refine ⟨_, rfl, q _ _ s1 ?_⟩
    rw [em, same_len pt, List.drop_length]
    exact ⟨p, rfl, hp, h1⟩
def spMs (C : Addr) : Sp := fun vs H Q _ => ∃ x y z R F l wy r ts, vs = [x, y, z] ∧ IsState C H x R F ∧ IsLit H y l ∧ IsWay H z wy ∧ relOf l = some (r, ts) ∧ OkFacts R F ∧ OkRel R r ts ∧ (∀ p ∈ wy, IsVal p.2) ∧ wy.length + ts.length ≤ 1000 ∧
  ∀ p H', Same H H' → H p = none → IsWays H' (.ref p) (meetM (rowsOf F r) ts wy) → Q (.ref p) H'
theorem c_meetings (T : Tx K mg C) (C_met : C8.Cal P w K mg base 1 "met" spMet []) : C8.Cal P w K mg base 2 "meetings" (spMs C) [] := by
  refine cal T.d_meetings (N := ["state", "literal", "way", "found", "row", "each"]) (by decide +kernel) (fun vs H Q E h => ?_) (fun f cdv A outer s H vs Q E nd hr h => ?_)
  · obtain ⟨x, y, z, R, F, l, wy, r, ts, rfl, _⟩ := h
    rfl
  obtain ⟨x, y, z, R, F, l, wy, r, ts, rfl, hs, hl, hw, er, of, orl, okw, hz, q⟩ := h
  refine ⟨_, (pss_cons (ps_setLc (i := 3) (own := [("row", 4)]) rfl nd rfl rfl (sw_true rfl rfl rfl (by decide +kernel)) (piL K (pe_dget (hu_of hr) (fldK K (pv 0) rfl) (pe_ix (ixT K) (pv 1) (pe_un un_neg pe_int) (fun _ _ => rfl)) (fun _ _ => rfl))) (blkOk_by (own := [("row", 4)]) (N := ["state", "literal", "way", "found", "row", "each"]) (sc := (C8.fnScope s_meetings)) (by decide +kernel)) (fun _ _ _ _ _ => (pg_name (i := 4) nd rfl (Or.inl rfl))) (fun _ _ _ _ _ => pts_nil) (fun _ _ _ _ _ => (C8.pe_c C_met hr (by decide) rfl (pa_cons (pe_ix (ixT K) (pv 1) (pe_un un_neg pe_int) (fun _ _ => rfl)) (pa_cons (pv 4) (pa_cons (pv 2) pa_nil))))))
    (pss_one (ps_ret (pe_lc (own := [("each", 5)]) rfl nd (piL K (pv 3)) (blkOk_by (own := [("each", 5)]) (N := ["state", "literal", "way", "found", "row", "each"]) (sc := (C8.fnScope s_meetings)) (by decide +kernel)) (fun _ _ _ _ _ => (pg_name (i := 5) nd rfl (Or.inl rfl))) (fun _ _ _ _ _ => pts_one (pt_cmpR op_notN (pv 5) pe_non (nomark _))) (fun _ _ _ _ _ => (pv 5)))))), ?_⟩
  obtain ⟨sa, dx, fs, y1, y2, rfl, hsa, f1, _, f2, ⟨d2, kf, rfl, hd2, pf⟩⟩ := hs
  obtain ⟨a, xs, rfl, ha, hl⟩ := hl
  obtain ⟨zs, q', rfl, hz0, hz3, htm⟩ := lit_rel hl er
  obtain ⟨vf, ef, l2, rs, rfl, hl2, prs⟩ := fact_get pf (facts_rel of orl.1)
  obtain ⟨rl, rok⟩ := rows_ok of orl.1
  have lrs := same_len prs
  refine sq ⟨_, rfl, sa, C, dx, fs, _, rfl, hsa, T.cl, T.no_facts, f2, _, rfl, _, rfl, _, _, _, _, rfl, rfl, sqT ha, at_m2, d2, _, rfl, dgetS hd2 ef, l2, rfl, ⟨rs, sqL hl2⟩, fun D hD => ?_⟩
  refine lc_list (xs := rs) (fun i H1 => Same H H1 ∧ ∃ acc, H1 D = some (.lst acc) ∧ OWays H1 acc (((rowsOf F r).take i).map fun x => metM ts x wy)) ⟨Same.new hD, [], upd_same, .nil⟩ (fun i H1 _ h => sqL (h.1 _ _ hl2)) (fun i v H1 hv h => ?_) fun H1 h => ?_
  · obtain ⟨s1, acc, h1, pa⟩ := h
    obtain ⟨rw', er', c, rfl, hc⟩ := Paired.at prs hv
    obtain ⟨wl, vals⟩ := rok rw' (List.mem_of_getElem? er')
    obtain ⟨dd, ez, hdd⟩ := hw
    subst ez
    refine ⟨rfl, ?_⟩
    refine tyes (iteT ⟨_, rfl, _, rfl, _, _, _, _, rfl, rfl, sqT (s1 _ _ ha), at_m1, _, rfl, _, rfl, q', c, rw', .ref dd, ts, wy, rfl, htm.mono s1.tup, s1 _ _ hc, ⟨dd, rfl, s1 _ _ hdd⟩, by rw [wl], orl.2.2, vals, okw, hz, fun v H2 s2 hm => ?_⟩)
    refine ⟨acc, s2 _ _ h1, ?_, Same.mut (s1.trans s2) hD, _, upd_same, ?_⟩
    · have e1 := same_len pa
      have e2 : ((rowsOf F r).take i).length ≤ (rowsOf F r).length := List.length_take_le' _ _
      rw [List.length_map] at e1
      exact sz_ok' (by omega)
    · rw [take_snoc er', List.map_append]
      refine Paired.app (pa.mono (s2.way.trans' (wayS_lst (s2 _ _ h1)))) (.cons ?_ .nil)
      show match metM ts rw' wy with
        | none => v = .non
        | some w => IsWay _ v w
      cases em : metM ts rw' wy with
      | none =>
        rw [em] at hm
        exact hm
      | some w =>
        rw [em] at hm
        obtain ⟨p2, rfl, _, hp2⟩ := hm
        exact ⟨p2, rfl, wayS_lst (s2 _ _ h1) _ _ hp2⟩
  · obtain ⟨s1, acc, h1, pa⟩ := h
    rw [lrs, List.take_length] at pa
    refine ⟨_, rfl, D, rfl, ⟨acc, sqL h1⟩, fun D2 hD2 => ?_⟩
    have hDH : H D = none := hD
    have la : acc.length = (rowsOf F r).length := by rw [same_len pa, List.length_map]
    refine lc_list (xs := acc) (fun i H2 => Same H1 H2 ∧ ∃ out, H2 D2 = some (.lst out) ∧ Paired (IsWay H2) out ((((rowsOf F r).map fun x => metM ts x wy).take i).filterMap id)) ⟨Same.new hD2, [], upd_same, .nil⟩ (fun i H2 _ h => sqL (h.1 _ _ h1)) (fun i v H2 hv h => ?_) fun H2 h => ?_
    · obtain ⟨s2, out, h2, po⟩ := h
      obtain ⟨o, eo, hvo⟩ := Paired.at pa hv
      refine ⟨rfl, ?_⟩
      have lo : out.length < sizeLine := by
        have e1 := same_len po
        have e2 := List.length_filterMap_le id (((rowsOf F r).map fun x => metM ts x wy).take i)
        have e3 : (((rowsOf F r).map fun x => metM ts x wy).take i).length ≤ ((rowsOf F r).map fun x => metM ts x wy).length := List.length_take_le' _ _
        rw [List.length_map] at e3
        exact sz_ok' (by omega)
      cases o with
      | none =>
        have e : v = .non := hvo
        subst e
        refine ⟨_, rfl, rfl, _, rfl, ?_⟩
        refine ifNEq rfl ⟨s2, out, h2, ?_⟩
        rw [take_snoc eo, List.filterMap_append]
        rw [show ([none] : List (Option Way)).filterMap id = [] from rfl, List.append_nil]
        exact po
      | some w =>
        obtain ⟨p2, rfl, hp2⟩ := hvo
        refine ⟨_, rfl, rfl, _, rfl, ?_⟩
        refine ifNNe (fun z => nomatch z) ⟨_, rfl, out, h2, lo, Same.mut s2 hD2, _, upd_same, ?_⟩
        rw [take_snoc eo, List.filterMap_append]
        refine Paired.app (Paired.mapP po fun _ _ z => IsWay.mono (wayS_lst h2) z) (.cons ?_ .nil)
        exact ⟨p2, rfl, wayS_lst h2 _ _ (s2 _ _ hp2)⟩
    · obtain ⟨s2, out, h2, po⟩ := h
      refine q D2 H2 (s1.trans s2) (s1.free hD2) ⟨D2, out, rfl, h2, ?_⟩
      rw [la, ← List.length_map (f := fun x => metM ts x wy), List.take_length, List.filterMap_map] at po
      exact po
def spCmp : Sp := fun vs H Q _ => ∃ op v u, vs = [.str op, v, u] ∧ isCmpF op ∧ IsVal v ∧ IsVal u ∧ ∀ H', Same H H' → Q (.bl (cmpM op v u)) H'
theorem c_compared (T : Tx K mg C) (C_value_key : C8.Cal P w K mg base 1 "value_key" spVK []) : C8.Cal P w K mg base 2 "compared" spCmp [] := by
  refine cal T.d_compared (N := ["operator", "first", "second", "left", "right"]) (by decide +kernel) (fun vs H Q E h => ?_) (fun f cdv A outer s H vs Q E nd hr h => ?_)
  · obtain ⟨op, v, u, rfl, _⟩ := h
    rfl
  obtain ⟨op, v, u, rfl, ho, hv, hu, q⟩ := h
  refine ⟨_, (pss_cons (ps_set (i := 3) nd rfl (Or.inl rfl) (C8.pe_c C_value_key hr (by decide) rfl (pa_cons (pv 1) pa_nil)))
    (pss_cons (ps_set (i := 4) nd rfl (Or.inl rfl) (C8.pe_c C_value_key hr (by decide) rfl (pa_cons (pv 2) pa_nil)))
    (pss_cons (ps_if (pt_cmpR op_eq (pv 0) pe_str (nomark _))
      (pss_one (ps_ret (pe_cmpR (op_eqPair (hu64 hr)) (pv 3) (pv 4) (nomark _))))
      pss_nil)
    (pss_cons (ps_if (pt_cmpR op_eq (pv 0) pe_str (nomark _))
      (pss_one (ps_ret (pe_cmpR (op_nePair (hu64 hr)) (pv 3) (pv 4) (nomark _))))
      pss_nil)
    (pss_cons (ps_if (pt_cmpR op_eq (pv 0) pe_str (nomark _))
      (pss_one (ps_ret (pe_cmpR (op_pair (op := .Lt) rfl (hu64 hr)) (pv 3) (pv 4) (nomark _))))
      pss_nil)
    (pss_cons (ps_if (pt_cmpR op_eq (pv 0) pe_str (nomark _))
      (pss_one (ps_ret (pe_cmpR (op_pair (op := .LtE) rfl (hu64 hr)) (pv 3) (pv 4) (nomark _))))
      pss_nil)
    (pss_cons (ps_if (pt_cmpR op_eq (pv 0) pe_str (nomark _))
      (pss_one (ps_ret (pe_cmpR (op_pair (op := .Gt) rfl (hu64 hr)) (pv 3) (pv 4) (nomark _))))
      pss_nil)
    (pss_one (ps_ret (pe_cmpR (op_pair (op := .GtE) rfl (hu64 hr)) (pv 3) (pv 4) (nomark _))))))))))), ?_⟩
  refine sqS ⟨_, rfl, v, rfl, hv, fun p H1 s1 hp h1 => ?_⟩
  refine sqS ⟨_, rfl, u, rfl, hu, fun p2 H2 s2 hp2 h2 => ?_⟩
  have h1 := s2 _ _ h1
  have q := q _ (s1.trans s2)
  unfold cmpM at q
  have dne : ∀ {a b : Str}, a ≠ b → V.str a ≠ V.str b := fun h z => h (by injection z)
  refine sqI ⟨_, rfl, rfl, _, rfl, ?_⟩
  by_cases e1 : op = "="
  · refine ifEq (by rw [e1]) ⟨_, rfl, _, rfl, v, u, ⟨p, rfl, h1⟩, ⟨p2, rfl, h2⟩, hv, hu, ?_⟩
    rw [if_pos e1] at q
    exact q
  rw [if_neg e1] at q
  refine ifNe (dne e1) (sqI ⟨_, rfl, rfl, _, rfl, ?_⟩)
  by_cases e2 : op = "<>"
  · refine ifEq (by rw [e2]) ⟨_, rfl, _, rfl, v, u, ⟨p, rfl, h1⟩, ⟨p2, rfl, h2⟩, hv, hu, ?_⟩
    rw [if_pos e2] at q
    exact q
  rw [if_neg e2] at q
  refine ifNe (dne e2) (sqI ⟨_, rfl, rfl, _, rfl, ?_⟩)
  by_cases e3 : op = "<"
  · refine ifEq (by rw [e3]) ⟨_, rfl, _, rfl, p, p2, v, u, rfl, rfl, h1, h2, hv, hu, ?_⟩
    rw [if_pos e3] at q
    exact q
  rw [if_neg e3] at q
  refine ifNe (dne e3) (sqI ⟨_, rfl, rfl, _, rfl, ?_⟩)
  by_cases e4 : op = "<="
  · refine ifEq (by rw [e4]) ⟨_, rfl, _, rfl, p, p2, v, u, rfl, rfl, h1, h2, hv, hu, ?_⟩
    rw [if_pos e4] at q
    exact q
  rw [if_neg e4] at q
  refine ifNe (dne e4) (sqI ⟨_, rfl, rfl, _, rfl, ?_⟩)
  by_cases e5 : op = ">"
  · refine ifEq (by rw [e5]) ⟨_, rfl, _, rfl, p, p2, v, u, rfl, rfl, h1, h2, hv, hu, ?_⟩
    rw [if_pos e5] at q
    exact q
  rw [if_neg e5] at q
  refine ifNe (dne e5) ⟨_, rfl, _, rfl, p, p2, v, u, rfl, rfl, h1, h2, hv, hu, q⟩
end
end Tk

/-! ## TkF5 -/
set_option Elab.async false
set_option linter.all false
set_option maxRecDepth 100000
set_option maxHeartbeats 4000000
namespace Tk
open PySem PySem.Spec PyProof.Rows L2
section
variable {P : Program} {w : World} {K : PySem.W.Frag} {mg : Str → Option Value} {base : Heap} {C : Addr}
/-! ### total_of, ways_behind -/
def totL : Lit → List Way → List V
  | .cnt _ _ _, ws => [.int ws.length]
  | .tot f _ t _ _, ws => totM f (ws.map (worth t))
  | _, _ => []
def OkTot : Lit → List Way → Prop
  | .cnt _ _ _, _ => True
  | .tot f _ t _ _, ws => isTotF f ∧ ∀ w ∈ ws, HasW t w ∧ IsVal (worth t w)
  | _, _ => False
def spTO : Sp := fun vs H Q _ => ∃ x y l ws, vs = [x, y] ∧ IsLit H x l ∧ IsWays H y ws ∧ OkTot l ws ∧ ws.length ≤ 1000 ∧ ∀ p H', Same H H' → H p = none → H' p = some (.lst (totL l ws)) → Q (.ref p) H'
theorem c_total_of (T : Tx K mg C) (C_value_of : C8.Cal P w K mg base 1 "value_of" spVO []) (C_value_key : C8.Cal P w K mg base 1 "value_key" spVK []) : C8.Cal P w K mg base 4 "total_of" spTO [] := by
  obtain ⟨fk, g_value_key, F_value_key⟩ := keyF C_value_key
  refine cal T.d_total_of (N := ["literal", "found", "values", "each", "value"]) (by decide +kernel) (fun vs H Q E h => ?_) (fun f cdv A outer s H vs Q E nd hr h => ?_)
  · obtain ⟨x, y, l, ws, rfl, _⟩ := h
    rfl
  obtain ⟨x, y, l, ws, rfl, hl, hw, ok, hz, q⟩ := h
  refine ⟨_, (pss_cons (ps_if (pt_cmpR op_eq (pe_ix (ixT K) (pv 0) pe_int (fun _ _ => rfl)) pe_str (nomark _))
      (pss_one (ps_ret (pe_lst (pa_cons (pe_callB (lenK K) (by rfl) T.n_len (by decide +kernel) (pa_cons (pv 1) pa_nil)) pa_nil))))
      pss_nil)
    (pss_cons (ps_setLc (i := 2) (own := [("each", 3)]) rfl nd rfl rfl (sw_true rfl rfl rfl (by decide +kernel)) (piL K (pv 1)) (blkOk_by (own := [("each", 3)]) (N := ["literal", "found", "values", "each", "value"]) (sc := (C8.fnScope s_total_of)) (by decide +kernel)) (fun _ _ _ _ _ => (pg_name (i := 3) nd rfl (Or.inl rfl))) (fun _ _ _ _ _ => pts_nil) (fun _ _ _ _ _ => (C8.pe_c C_value_of hr (by decide) rfl (pa_cons (pe_ix (ixT K) (pv 0) pe_int (fun _ _ => rfl)) (pa_cons (pv 3) pa_nil)))))
    (pss_cons (ps_if (pt_cmpR op_eq (pe_ix (ixT K) (pv 0) pe_int (fun _ _ => rfl)) pe_str (nomark _))
      (pss_cons (ps_if (pt_val (pe_callB (anyK K rfl) (by rfl) T.n_any (by decide +kernel) (pa_cons (pe_lc (own := [("value", 4)]) rfl nd (piL K (pv 2)) (blkOk_by (own := [("value", 4)]) (N := ["literal", "found", "values", "each", "value"]) (sc := (C8.fnScope s_total_of)) (by decide +kernel)) (fun _ _ _ _ _ => (pg_name (i := 4) nd rfl (Or.inl rfl))) (fun _ _ _ _ _ => pts_nil) (fun _ _ _ _ _ => (pe_callB (isiK K) (by rfl) T.n_isinstance (by decide +kernel) (pa_cons (pv 4) (pa_cons (pe_bltn (v := .ty "str") (by rfl) T.n_str (by decide +kernel) rfl) pa_nil))))) pa_nil)))
        (pss_one (ps_ret (pe_lst pa_nil)))
        pss_nil)
      (pss_one (ps_ret (pe_lst (pa_cons (pe_callB (sumK K rfl) (by rfl) T.n_sum (by decide +kernel) (pa_cons (pv 2) pa_nil)) pa_nil)))))
      pss_nil)
    (pss_cons (ps_set (i := 2) nd rfl (Or.inl rfl) (pe_callBK (sortK K F_value_key hr (by decide)) (by rfl) T.n_sorted (by decide +kernel) (pa_cons (pv 2) pa_nil) (pk_cons (pe_glob (v := .ref _) rfl g_value_key rfl) pk_nil)))
    (pss_cons (ps_if (pt_cmpR op_eq (pe_ix (ixT K) (pv 0) pe_int (fun _ _ => rfl)) pe_str (nomark _))
      (pss_one (ps_ret (pe_slice (slL K) (pv 2) po_none (po_some pe_int))))
      pss_nil)
    (pss_one (ps_ret (pe_slice (slL K) (pv 2) (po_some (pe_un un_neg pe_int)) po_none)))))))), ?_⟩
  obtain ⟨b, ys, rfl, hb, pw⟩ := hw
  refine s_litS rfl hl (fun e => ?_) fun e1 => ?_
  · have e2 : ∃ v r ts, l = .cnt v r ts := by
      cases l with
      | cnt v r ts => exact ⟨v, r, ts, rfl⟩
      | tot g v t r ts => exact absurd e (tot_words ok.1).2.2.2
      | fact r ts => exact ok.elim
      | neg r ts => exact ok.elim
      | cmp op t u => exact ok.elim
    obtain ⟨v, r, ts, rfl⟩ := e2
    refine ⟨_, rfl, b, ys, rfl, .inl (sqL hb), z1, fun p hp => q p _ (Same.new hp) hp ?_⟩
    rw [same_len pw]
    exact upd_same
  have e2 : ∃ g v t r ts, l = .tot g v t r ts := by
    cases l with
    | cnt v r ts => exact absurd rfl e1
    | tot g v t r ts => exact ⟨g, v, t, r, ts, rfl⟩
    | fact r ts => exact ok.elim
    | neg r ts => exact ok.elim
    | cmp op t u => exact ok.elim
  obtain ⟨g, v, t, r, ts, rfl⟩ := e2
  obtain ⟨og, ow⟩ := ok
  obtain ⟨a, xs, rfl, ha, yt, zt, rfl, ht, _⟩ := id hl
  have lys := same_len pw
  refine sqS ⟨_, rfl, b, rfl, ⟨ys, sqL hb⟩, fun D hD => ?_⟩
  refine lc_list (xs := ys) (fun i H1 => Same H H1 ∧ H1 D = some (.lst ((ws.take i).map (worth t)))) ⟨Same.new hD, upd_same⟩ (fun i H1 _ h => sqL (h.1 _ _ hb)) (fun i x H1 hx h => ?_) fun H1 h => ?_
  · obtain ⟨s1, h1⟩ := h
    obtain ⟨wy, ew, hwy⟩ := Paired.at pw hx
    refine ⟨rfl, tyes (iteT ⟨_, rfl, _, _, _, _, rfl, rfl, sqT (s1 _ _ ha), rfl, _, rfl, _, x, t, wy, rfl, ht.mono s1.tup, hwy.mono s1.way, (ow wy (List.mem_of_getElem? ew)).1, _, h1, ?_, ?_⟩)⟩
    · rw [List.length_map]
      have : (ws.take i).length ≤ ws.length := List.length_take_le' _ _
      exact sz_ok' (by omega)
    · rw [take_snoc ew, List.map_append]
      exact lc_step s1 hD
  obtain ⟨s1, h1⟩ := h
  rw [lys, List.take_length] at h1
  have hvals : ∀ x ∈ ws.map (worth t), IsVal x := fun x hx => by
    obtain ⟨w2, hw2, e⟩ := List.mem_map.mp hx
    rw [← e]
    exact (ow w2 hw2).2
  have lv : (ws.map (worth t)).length ≤ 1000 := by rw [List.length_map]; exact hz
  have q : ∀ p H', Same H H' → H p = none → H' p = some (.lst (totM g (ws.map (worth t)))) → Q (.ref p) H' := q
  generalize ws.map (worth t) = vals at h1 hvals lv q
  have hl1 := hl.mono s1.tup
  refine s_litS rfl hl1 (fun e => ?_) fun e2 => ?_
  · have e : g = "sum" := e
    subst e
    have q : ∀ p H', Same H H' → H p = none → H' p = some (.lst (if vals.any isStr then [] else [.int (vals.map intOf).sum])) → Q (.ref p) H' := q
    refine sqI ⟨_, rfl, D, rfl, ⟨vals, sqL h1⟩, fun D2 hD2 => ?_⟩
    refine lc_list (xs := vals) (fun i H2 => Same H1 H2 ∧ H2 D2 = some (.lst (((vals.take i).map isStr).map V.bl))) ⟨Same.new hD2, upd_same⟩ (fun i H2 _ h => sqL (h.1 _ _ h1)) (fun i x H2 hx h => ?_) fun H2 h => ?_
    · obtain ⟨s2, h2⟩ := h
      have hx2 : ∀ z : V, isStr x = (match z with | .bl b => b | _ => false) → z = .bl (isStr x) → (((vals.take i).map isStr).map V.bl) ++ [z] = ((vals.take (i + 1)).map isStr).map V.bl := fun z _ e => by
        rw [take_snoc hx, List.map_append, List.map_append, e]
        rfl
      have lz : (((vals.take i).map isStr).map V.bl).length < sizeLine := by
        rw [List.length_map, List.length_map]
        have : (vals.take i).length ≤ vals.length := List.length_take_le' _ _
        exact sz_ok' (by omega)
      refine ⟨rfl, tyes (iteT ⟨_, rfl, ?_⟩)⟩
      rcases isVal_cases (hvals x (List.mem_of_getElem? hx)) with ⟨i', rfl⟩ | ⟨z, rfl, _⟩
      · refine ⟨_, _, _, _, _, rfl, .ty _, .base (.int i'), kit_ty k_is', _, h2, lz, ?_⟩
        rw [hx2 (.bl false) rfl rfl]
        exact ⟨s2.mut hD2, upd_same⟩
      · refine ⟨_, _, _, _, _, rfl, .ty _, .base (.str z), kit_ty k_ss, _, h2, lz, ?_⟩
        rw [hx2 (.bl true) rfl rfl]
        exact ⟨s2.mut hD2, upd_same⟩
    · obtain ⟨s2, h2⟩ := h
      rw [List.take_length] at h2
      refine ⟨D2, vals.map isStr, rfl, sqL h2, _, rfl, ?_⟩
      have e : (vals.map isStr).any id = vals.any isStr := by rw [List.any_map]; rfl
      rw [e]
      cases hany : vals.any isStr with
      | true =>
        refine iteT ⟨z0, fun p hp => q p _ ((s1.trans s2).trans (Same.new hp)) ((s1.trans s2).free hp) ?_⟩
        rw [hany]
        exact upd_same
      | false =>
        refine iteF ?_
        have hv := ints_of hvals hany
        have h3 := s2 _ _ h1
        rw [hv] at h3
        refine ⟨_, rfl, D, vals.map intOf, rfl, sqL h3, z1, fun p hp => q p _ ((s1.trans s2).trans (Same.new hp)) ((s1.trans s2).free hp) ?_⟩
        rw [hany]
        exact upd_same
  have ng : g ≠ "sum" := e2
  have q : ∀ p H', Same H H' → H p = none → H' p = some (.lst (if g = "least" then bestM ltV vals else bestM (fun a b => ltV b a) vals)) → Q (.ref p) H' := fun p H' s hp h => q p H' s hp (by
    unfold totM
    rw [if_neg ng]
    exact h)
  refine sqS ⟨_, rfl, D, vals, rfl, rfl, sqL h1, fun x hx H2 Q2 E2 s2 k => ?_, fun x hx v hv => ?_, fun _ x hx => ?_, fun ys p H2 s2 hp perm so => ?_⟩
  · rw [kapH_val (hvals x hx)] at k
    exact ⟨x, rfl, hvals x hx, fun p H3 s3 _ h3 => k p H3 s3 h3⟩
  · rw [kapH_val (hvals x hx)] at hv
    rw [List.mem_singleton.mp hv]
    exact hvals x hx
  · rw [kapH_val (hvals x hx)]
    exact List.cons_ne_nil _ _
  have so2 : ys.Pairwise fun x y => ltRow [y] [x] = false := by
    refine List.Pairwise.imp_of_mem (fun {x y} hx hy h => ?_) so
    rw [kapH_val (hvals x (perm.mem_iff.mp hx)), kapH_val (hvals y (perm.mem_iff.mp hy))] at h
    exact h
  have s3 := (s1.trans s2).trans (Same.new (o := .lst ys) hp)
  have h3 : upd H2 p (.lst ys) p = some (.lst ys) := upd_same
  refine s_litS rfl (hl.mono s3.tup) (fun e => ?_) fun e3 => ?_
  · have e : g = "least" := e
    refine ⟨_, rfl, _, rfl, p, ys, rfl, sqL h3, fun p2 hp2 => q p2 _ (s3.trans (Same.new hp2)) (s3.free hp2) ?_⟩
    rw [if_pos e, cut_first, least_ok hvals perm so2]
    exact upd_same
  · have e : g ≠ "least" := e3
    refine ⟨_, rfl, _, rfl, _, rfl, p, ys, rfl, sqL h3, fun p2 hp2 => q p2 _ (s3.trans (Same.new hp2)) (s3.free hp2) ?_⟩
    rw [if_neg e, cut_last, greatest_ok hvals perm so2]
    exact upd_same
def spWB (C : Addr) : Sp := fun vs H Q _ => ∃ x y z R F l wy ks, vs = [x, y, z] ∧ IsState C H x R F ∧ IsLit H y l ∧ IsWay H z wy ∧ OkFacts R F ∧ OkLit R ks l ∧ WayOk ks 800 wy ∧
  ∀ p H', Same H H' → H p = none → IsWays H' (.ref p) (behindM F l wy) → Q (.ref p) H'
theorem c_ways_behind (T : Tx K mg C) (C_value_of : C8.Cal P w K mg base 1 "value_of" spVO []) (C_compared : C8.Cal P w K mg base 2 "compared" spCmp []) (C_meetings : C8.Cal P w K mg base 2 "meetings" (spMs C) []) (C_total_of : C8.Cal P w K mg base 4 "total_of" spTO []) :
    C8.Cal P w K mg base 5 "ways_behind" (spWB C) [] := by
  refine cal T.d_ways_behind (N := ["state", "literal", "way", "holds", "found", "behind", "total"]) (by decide +kernel) (fun vs H Q E h => ?_) (fun f cdv A outer s H vs Q E nd hr h => ?_)
  · obtain ⟨x, y, z, R, F, l, wy, ks, rfl, _⟩ := h
    rfl
  obtain ⟨x, y, z, R, F, l, wy, ks, rfl, hs, hl, hw, of, okl, ow, q⟩ := h
  refine ⟨_, (pss_cons (ps_if (pt_cmpR op_eq (pe_ix (ixT K) (pv 1) pe_int (fun _ _ => rfl)) pe_str (nomark _))
      (pss_cons (ps_set (i := 3) nd rfl (Or.inl rfl) (C8.pe_c C_compared hr (by decide) rfl (pa_cons (pe_ix (ixT K) (pv 1) pe_int (fun _ _ => rfl)) (pa_cons (C8.pe_c C_value_of hr (by decide) rfl (pa_cons (pe_ix (ixT K) (pv 1) pe_int (fun _ _ => rfl)) (pa_cons (pv 2) pa_nil))) (pa_cons (C8.pe_c C_value_of hr (by decide) rfl (pa_cons (pe_ix (ixT K) (pv 1) pe_int (fun _ _ => rfl)) (pa_cons (pv 2) pa_nil))) pa_nil)))))
      (pss_one (ps_ret (pe_ifExp (pt_val (pv 3)) (pe_lst (pa_cons (pv 2) pa_nil)) (pe_lst pa_nil)))))
      pss_nil)
    (pss_cons (ps_set (i := 4) nd rfl (Or.inl rfl) (C8.pe_c C_meetings hr (by decide) rfl (pa_cons (pv 0) (pa_cons (pv 1) (pa_cons (pv 2) pa_nil)))))
    (pss_cons (ps_if (pt_cmpR op_eq (pe_ix (ixT K) (pv 1) pe_int (fun _ _ => rfl)) pe_str (nomark _))
      (pss_one (ps_ret (pv 4)))
      pss_nil)
    (pss_cons (ps_if (pt_cmpR op_eq (pe_ix (ixT K) (pv 1) pe_int (fun _ _ => rfl)) pe_str (nomark _))
      (pss_one (ps_ret (pe_ifExp (pt_truth (pv 4) (by intro _; rfl)) (pe_lst pa_nil) (pe_lst (pa_cons (pv 2) pa_nil)))))
      pss_nil)
    (pss_cons (ps_set (i := 5) nd rfl (Or.inl rfl) (pe_lst pa_nil))
    (pss_cons (ps_for PassesOwn.never rfl (piL K (C8.pe_c C_total_of hr (by decide) rfl (pa_cons (pv 1) (pa_cons (pv 4) pa_nil)))) (pg_name (i := 6) nd rfl (Or.inl rfl))
      (pss_one (ps_if (pt_cmpR op_eq (pe_dget2 (hu_of hr) (pv 2) (pe_ix (ixT K) (pv 1) pe_int (fun _ _ => rfl)) (pv 6) ⟨rfl, rfl, rfl, rfl⟩) (pv 6) (nomark _))
        (pss_one (ps_expr (pe_bm PySem.F.plainAttrs_list PySem.F.slot_list_append PySem.F.type_list_append mt_append (pv 5) (pa_cons (pe_dstar (pv 2) (pe_ix (ixT K) (pv 1) pe_int (fun _ _ => rfl)) (pv 6)) pa_nil))))
        pss_nil)))
    (pss_one (ps_ret (pv 5))))))))), ?_⟩
  have okw := okLit_word okl
  obtain ⟨d, rfl, hd⟩ := id hw
  obtain ⟨a, xs, rfl, ha, hx⟩ := id hl
  have one : ∀ (H1 : Hp) (p : Addr), Same H H1 → H1 p = none → IsWays (upd H1 p (.lst [.ref d])) (.ref p) [wy] := fun H1 p s1 hp =>
    ⟨p, _, rfl, upd_same, .cons ⟨d, rfl, Same.new hp _ _ (s1 _ _ hd)⟩ .nil⟩
  have non : ∀ (H1 : Hp) (p : Addr), IsWays (upd H1 p (.lst [])) (.ref p) [] := fun H1 p => ⟨p, _, rfl, upd_same, .nil⟩
  refine s_litS rfl hl (fun e => ?_) fun e1 => ?_
  · obtain ⟨op, t, u, rfl⟩ := word_cmp okw e
    obtain ⟨y', z', rfl, ht, hu⟩ := hx
    obtain ⟨o1, o2, o3⟩ := okl
    obtain ⟨t1, t2⟩ := worth_ok ow o2
    obtain ⟨u1, u2⟩ := worth_ok ow o3
    refine sqS ⟨_, rfl, _, _, _, _, rfl, rfl, sqT ha, rfl, _, rfl, _, _, _, _, rfl, rfl, sqT ha, rfl, _, rfl, y', .ref d, t, wy, rfl, ht, hw, t1, _, rfl, _, _, _, _, rfl, rfl, sqT ha, rfl, _, rfl, z', .ref d, u, wy, rfl, hu, hw, u1, op, _, _, rfl, o1, t2, u2, fun H1 s1 => ?_⟩
    refine ⟨_, rfl, _, rfl, ?_⟩
    cases hc : cmpM op (worth t wy) (worth u wy) with
    | true =>
      refine iteT ⟨_, rfl, z1, fun p hp => q p _ (s1.trans (Same.new hp)) (s1.free hp) ?_⟩
      show IsWays _ _ (if cmpM op (worth t wy) (worth u wy) then [wy] else [])
      rw [hc]
      exact one H1 p s1 hp
    | false =>
      refine iteF ⟨z0, fun p hp => q p _ (s1.trans (Same.new hp)) (s1.free hp) ?_⟩
      show IsWays _ _ (if cmpM op (worth t wy) (worth u wy) then [wy] else [])
      rw [hc]
      exact non H1 p
  obtain ⟨r, ts, er⟩ := word_rel e1
  have orl := okLit_rel okl er
  refine sqS ⟨_, rfl, _, rfl, _, rfl, x, .ref a, .ref d, R, F, l, wy, r, ts, rfl, hs, hl, hw, er, of, orl, ow.vals, by have := ow.len; have := orl.2.1; omega, fun p H1 s1 hp h1 => ?_⟩
  have hl1 := hl.mono s1.tup
  refine s_litS rfl hl1 (fun e => ?_) fun e2 => ?_
  · obtain ⟨r, ts, rfl⟩ := word_fact okw e
    cases er
    exact ⟨_, rfl, q p H1 s1 hp h1⟩
  obtain ⟨p', mx, ep, hp1, pm⟩ := id h1
  cases ep
  have lm := same_len pm
  refine s_litS rfl hl1 (fun e => ?_) fun e3 => ?_
  · obtain ⟨r, ts, rfl⟩ := word_neg okw e
    cases er
    refine ⟨_, rfl, _, .inl ⟨mx, sqL hp1, rfl⟩, ?_⟩
    cases mx with
    | nil =>
      refine iteF ⟨_, rfl, z1, fun p2 hp2 => q p2 _ (s1.trans (Same.new hp2)) (s1.free hp2) ?_⟩
      show IsWays _ _ (if (meetM (rowsOf F r) ts wy).isEmpty then [wy] else [])
      rw [List.length_nil] at lm
      rw [List.length_eq_zero_iff.mp lm.symm]
      exact one H1 p2 s1 hp2
    | cons m mx =>
      refine iteT ⟨z0, fun p2 hp2 => q p2 _ (s1.trans (Same.new hp2)) (s1.free hp2) ?_⟩
      show IsWays _ _ (if (meetM (rowsOf F r) ts wy).isEmpty then [wy] else [])
      cases hm : meetM (rowsOf F r) ts wy with
      | nil =>
        rw [hm] at lm
        cases lm
      | cons _ _ => exact non H1 p2
  have key : ∃ v, atI xs 1 = some (.str v) ∧ OkTot l (meetM (rowsOf F r) ts wy) ∧ behindM F l wy = (totL l (meetM (rowsOf F r) ts wy)).flatMap (putM v wy) ∧ (totL l (meetM (rowsOf F r) ts wy)).length ≤ 1 ∧ ∀ x ∈ totL l (meetM (rowsOf F r) ts wy), IsVal x := by
    rcases word_tot e1 e2 e3 with ⟨v, r, ts, rfl⟩ | ⟨g, v, t, r, ts, rfl⟩
    · cases er
      obtain ⟨z', rfl, _⟩ := hx
      exact ⟨v, rfl, trivial, rfl, Nat.le_refl _, fun x hx => by rw [List.mem_singleton.mp hx]; trivial⟩
    · cases er
      obtain ⟨y', z', rfl, _⟩ := hx
      have th := tot_has of okl ow
      have tm := totM_ok (f := g) (vs := (meetM (rowsOf F r) ts wy).map (worth t)) fun x hx => by
        obtain ⟨w2, hw2, e⟩ := List.mem_map.mp hx
        rw [← e]
        exact (th w2 hw2).2
      exact ⟨v, rfl, ⟨okl.1, th⟩, rfl, tm.2, tm.1⟩
  obtain ⟨v, at1, okt, eb, ltot, vtot⟩ := key
  rw [eb] at q
  refine sqS ⟨z0, fun pb hpb => ?_⟩
  have s2 := s1.trans (Same.new (o := .lst []) hpb)
  have hpb0 : H pb = none := s1.free hpb
  refine sqF ⟨_, rfl, _, rfl, .ref a, .ref p, l, _, rfl, hl.mono s2.tup, h1.mono (Same.new hpb), okt, meetM_len of orl, fun pt H2 s3 hpt h2 => ?_⟩
  have npt : pt ≠ pb := fun e => by rw [e, upd_same] at hpt; cases hpt
  have hpt0 : H pt = none := s2.free hpt
  refine ⟨pt, rfl, ⟨_, sqL h2⟩, ?_⟩
  refine for_list (xs := totL l (meetM (rowsOf F r) ts wy)) (fun i σ H3 => ∃ o, σ = [some x, some (.ref a), some (.ref d), none, some (.ref p), some (.ref pb), o] ∧ Same H H3 ∧ H3 pt = some (.lst (totL l (meetM (rowsOf F r) ts wy))) ∧ ∃ acc, H3 pb = some (.lst acc) ∧ Paired (IsWay H3) acc (((totL l (meetM (rowsOf F r) ts wy)).take i).flatMap (putM v wy)))
    ⟨none, rfl, s2.trans s3, h2, [], s3 _ _ upd_same, .nil⟩ (fun i σ H3 _ h => ?_) (fun i z σ H3 hz h => ?_) fun σ H3 h => ?_
  · obtain ⟨_, _, _, h3, _⟩ := h
    exact sqL h3
  · obtain ⟨o, rfl, s4, h3, acc, h4, pa⟩ := h
    have iz := vtot z (List.mem_of_getElem? hz)
    have ei := getElem?_range hz
    have i0 : i = 0 := by omega
    have la : acc = [] := by
      have := same_len pa
      rw [i0, List.take_zero] at this
      exact List.length_eq_zero_iff.mp this
    subst la
    have ha4 := s4 _ _ ha
    have hd4 := s4 _ _ hd
    have et : ((totL l (meetM (rowsOf F r) ts wy)).take (i + 1)).flatMap (putM v wy) = putM v wy z := by
      rw [take_snoc hz, List.flatMap_append, i0]
      simp
    rw [et]
    refine ⟨_, rfl, d, rfl, .inl ⟨wy, .inl hd4⟩, _, rfl, _, _, _, _, rfl, rfl, sqT ha4, at1, _, rfl, _, dgetO hd4, _, rfl, ?_⟩
    have cont : valV wy (.inr v) = none ∨ valV wy (.inr v) = some z → putM v wy z = [putK wy (.inr v) z] := by
      intro h
      unfold putM
      rcases h with h | h
      · rw [h]
      · rw [h]
        show (if z = z then [wy] else []) = _
        rw [if_pos rfl, putK_same ow.nd h]
    have add : putM v wy z = [putK wy (.inr v) z] → ∀ D : Ends, (∀ H3, Same H H3 → H3 pt = some (.lst (totL l (meetM (rowsOf F r) ts wy))) → (∃ acc, H3 pb = some (.lst acc) ∧ Paired (IsWay H3) acc (putM v wy z)) → D.nx [some x, some (.ref a), some (.ref d), none, some (.ref p), some (.ref pb), some z] H3) →
        (tDrop (tBM K "list" rAppend (tVar 5) (tCons (tStar (tVar 2) (tOp (rIxT K) (tVar 1) (tC (V.int 1))) (tVar 6)) tNil))) D [some x, some (.ref a), some (.ref d), none, some (.ref p), some (.ref pb), some z] H3 := fun ep D hD => by
      refine ⟨_, rfl, .inl ⟨rfl, _, sqL h4⟩, fun p1 hp1 => ?_⟩
      have n1 : d ≠ p1 := ne_of_none hd4 hp1
      refine ⟨_, rfl, d, wy, rfl, by rw [upd_ne n1]; exact hd4, upd_same, n1, fun p2 hp2 => ?_⟩
      have n12 : p1 ≠ p2 := fun e => by rw [e, upd_same] at hp2; cases hp2
      rw [upd_upd] at hp2 ⊢
      have hp2' : H3 p2 = none := by rw [upd_ne n12.symm] at hp2; exact hp2
      have s5 : Same H3 (upd (upd H3 p1 (.dK wy)) p2 (.dK [])) := (Same.new hp1).trans (Same.new hp2)
      refine ⟨_, rfl, _, _, _, _, rfl, rfl, sqT (s5 _ _ ha4), at1, _, rfl, .inr v, rfl, upd_same, by rw [upd_ne n12]; exact upd_same, sz_ok' (by have := ow.len; omega), ?_⟩
      rw [upd_upd]
      have s6 : Same H3 (upd (upd (upd H3 p1 (.dK wy)) p2 (.dK [(.inr v, z)])) p1 (.dK (putK wy (.inr v) z))) := Same.mut ((Same.new hp1).trans (Same.new (by rw [upd_ne n12.symm]; exact hp2'))) hp1
      refine ⟨pb, [], .ref p1, rfl, rfl, s6 _ _ h4, sz_ok' (by show 0 < _; decide), ?_⟩
      refine hD _ (Same.mut (s4.trans s6) hpb0) ?_ ⟨_, upd_same, ?_⟩
      · rw [upd_ne npt]
        exact s6 _ _ h3
      · rw [ep]
        exact .cons ⟨p1, rfl, wayS_lst (s6 _ _ h4) _ _ upd_same⟩ .nil
    cases hv : valV wy (.inr v) with
    | none => exact ⟨scal_val iz iz, _, rfl, ifEq rfl (add (cont (.inl hv)) _ fun H3 a b c => ⟨_, rfl, a, b, c⟩)⟩
    | some u =>
      obtain ⟨pu, hpu, eu⟩ := valV_mem hv
      have iu : IsVal u := by rw [← eu]; exact ow.vals pu hpu
      refine ⟨scal_val iu iz, _, rfl, ?_⟩
      by_cases e : u = z
      · subst e
        exact ifEq rfl (add (cont (.inr hv)) _ fun H3 a b c => ⟨_, rfl, a, b, c⟩)
      · refine ifNe e ⟨_, rfl, s4, h3, [], h4, ?_⟩
        have ep : putM v wy z = [] := by
          unfold putM
          rw [hv]
          show (if u = z then [wy] else []) = []
          rw [if_neg e]
        rw [ep]
        exact .nil
  · obtain ⟨o, rfl, s4, h3, acc, h4, pa⟩ := h
    rw [List.take_length] at pa
    exact ⟨_, rfl, q pb H3 s4 hpb0 ⟨pb, acc, rfl, h4, pa⟩⟩
end
end Tk

/-! ## TkF6 -/
set_option Elab.async false
set_option linter.all false
set_option maxRecDepth 100000
set_option maxHeartbeats 4000000
namespace Tk
open PySem PySem.Spec PyProof.Rows L2
/-- the answer at v: a pair of the columns and the list of rows -/
def IsAns (H : Hp) (v : V) (cs : List Str) (rs : List Row) : Prop := ∃ a c l xs, v = .ref a ∧ H a = some (.tup [.ref c, .ref l]) ∧ H c = some (.tup (cs.map V.str)) ∧ H l = some (.lst xs) ∧ Paired (IsRow H) xs rs
/-- keys that stand for rows, put in order, are the rows in order, each once -/
theorem keys_sorted {H : Hp} {kvs : List (List Key × V)} {bs : List Addr} {ys : List V} {rows : List Row} (hb : IsKeys H kvs bs) (hn : (kvs.map (·.1)).Nodup) (hr : ∀ r ∈ rows, RVal r) (hm : ∀ k, k ∈ kvs.map (·.1) ↔ k ∈ rows.map (·.map toK)) (p : ys.Perm (bs.map V.ref)) (so : SortedBy (kapH H) ys) :
    Paired (IsRow H) ys (sortM rows) := by
  have back : ∀ b ∈ bs, ∃ r ∈ rows, H b = some (.tup r) ∧ kapH H (.ref b) = r ∧ r.map toK ∈ kvs.map (·.1) := by
    intro b hb'
    obtain ⟨j, hj, e⟩ := List.getElem_of_mem hb'
    obtain ⟨q, hq, ht⟩ := Paired.atR hb (j := j) (y := b) (by rw [← e]; exact List.getElem?_eq_getElem hj)
    have mq : q.1 ∈ kvs.map (·.1) := List.mem_map.mpr ⟨q, List.mem_of_getElem? hq, rfl⟩
    obtain ⟨r, hr', e2⟩ := List.mem_map.mp ((hm q.1).mp mq)
    have e3 : q.1.map kV = r := by rw [← e2]; exact Tk.row_key (hr r hr')
    rw [e3] at ht
    exact ⟨r, hr', ht, kapH_row ht, by rw [e2]; exact mq⟩
  have isref : ∀ y ∈ ys, ∃ b ∈ bs, y = .ref b := fun y hy => by
    obtain ⟨b, hb', e⟩ := List.mem_map.mp (p.mem_iff.mp hy)
    exact ⟨b, hb', e.symm⟩
  have rk : ∀ y ∈ ys, kapH H y ∈ rows ∧ IsRow H y (kapH H y) := fun y hy => by
    obtain ⟨b, hb', e⟩ := isref y hy
    obtain ⟨r, hr', ht, ek, _⟩ := back b hb'
    rw [e, ek]
    exact ⟨hr', b, rfl, ht⟩
  have pr : ∀ ys : List V, (∀ y ∈ ys, IsRow H y (kapH H y)) → Paired (IsRow H) ys (ys.map (kapH H)) := by
    intro ys
    induction ys with
    | nil => intro _; exact .nil
    | cons y ys ih => intro h; exact .cons (h y (by simp)) (ih fun z hz => h z (by simp [hz]))
  have nd : (bs.map V.ref).Pairwise fun x y => kapH H x ≠ kapH H y := by
    have h : ∀ {kvs : List (List Key × V)} {bs : List Addr}, Paired (fun (p : List Key × V) b => H b = some (.tup (p.1.map kV))) kvs bs → (kvs.map (·.1)).Nodup → (bs.map V.ref).Pairwise fun x y => kapH H x ≠ kapH H y := by
      intro kvs bs h
      induction h with
      | nil => intro _; exact .nil
      | @cons q b qs bs h1 h2 ih =>
        intro n
        rw [List.map_cons, List.nodup_cons] at n
        rw [List.map_cons, List.pairwise_cons]
        refine ⟨fun y hy => ?_, ih n.2⟩
        obtain ⟨b2, hb2, e⟩ := List.mem_map.mp hy
        obtain ⟨j, hj, e2⟩ := List.getElem_of_mem hb2
        obtain ⟨q2, hq2, ht2⟩ := Paired.atR h2 (j := j) (y := b2) (by rw [← e2]; exact List.getElem?_eq_getElem hj)
        rw [← e, kapH_row h1, kapH_row ht2]
        intro z
        exact n.1 (by rw [kVs_inj z]; exact List.mem_map.mpr ⟨q2, List.mem_of_getElem? hq2, rfl⟩)
    exact h hb hn
  have ndy : ys.Pairwise fun x y => kapH H x ≠ kapH H y := (p.symm.pairwise_iff (fun {x y} h z => h z.symm)).mp nd
  have st : (ys.map (kapH H)).Pairwise fun x y => ltRow x y = true := by
    rw [List.pairwise_map]
    refine List.Pairwise.imp_of_mem (fun {x y} hx hy h => ?_) (List.Pairwise.and so ndy)
    obtain ⟨h1, h2⟩ := h
    rw [ltRow_tri (hr _ (rk x hx).1) (hr _ (rk y hy).1) h2, h1]
    rfl
  have e : ys.map (kapH H) = sortM rows := by
    refine strict_uniq (fun r h => ?_) (fun r h => hr r ((mem_sortM hr r).mp h)) st (sortM_sorted hr) fun r => ?_
    · obtain ⟨y, hy, e⟩ := List.mem_map.mp h
      rw [← e]
      exact hr _ (rk y hy).1
    · rw [mem_sortM hr]
      constructor
      · intro h
        obtain ⟨y, hy, e⟩ := List.mem_map.mp h
        rw [← e]
        exact (rk y hy).1
      · intro h
        have hk := (hm (r.map toK)).mpr (List.mem_map.mpr ⟨r, h, rfl⟩)
        obtain ⟨q, hq, eq⟩ := List.mem_map.mp hk
        obtain ⟨j, hj, e2⟩ := List.getElem_of_mem hq
        obtain ⟨b, hb2, ht⟩ := Paired.at hb (j := j) (x := q) (by rw [← e2]; exact List.getElem?_eq_getElem hj)
        have ht' : H b = some (.tup (q.1.map kV)) := ht
        rw [eq, Tk.row_key (hr r h)] at ht'
        exact List.mem_map.mpr ⟨.ref b, p.mem_iff.mpr (List.mem_map.mpr ⟨b, List.mem_of_getElem? hb2, rfl⟩), kapH_row ht'⟩
  rw [← e]
  exact pr ys fun y hy => (rk y hy).2
section
variable {P : Program} {w : World} {K : PySem.W.Frag} {mg : Str → Option Value} {base : Heap} {C : Addr}
/-! ### answer -/
structure OkAsk (R : Rels) (F : Facts) (b : List Lit) : Prop where
  of : OkFacts R F
  ok : OkBody R b []
  len : b.length ≤ 10
  few : ∀ i, (waysM F (b.take i) [[]]).length ≤ 1000
def spAns (C : Addr) : Sp := fun vs H Q _ => ∃ x y R F b, vs = [x, y] ∧ IsState C H x R F ∧ IsBody H y b ∧ OkAsk R F b ∧
  ∀ v H', Same H H' → IsAns H' v (colsM b []) (ansM F b) → (∀ a c l, v = .ref a → H' a = some (.tup [.ref c, .ref l]) → H l = none) → Q v H'
theorem c_answer (T : Tx K mg C) (C_check : C8.Cal P w K mg base 3 "check" (spCk C) []) (C_ways_behind : C8.Cal P w K mg base 5 "ways_behind" (spWB C) []) (C_row_key : C8.Cal P w K mg base 2 "row_key" spRK []) : C8.Cal P w K mg base 6 "answer" (spAns C) [] := by
  obtain ⟨fk, g_row_key, F_row_key⟩ := keyF C_row_key
  refine cal T.d_answer (N := ["state", "body", "columns", "ways", "literal", "way", "behind", "rows", "name"]) (by decide +kernel) (fun vs H Q E h => ?_) (fun f cdv A outer s H vs Q E nd hr h => ?_)
  · obtain ⟨x, y, R, F, b, rfl, _⟩ := h
    rfl
  obtain ⟨x, y, R, F, b, rfl, hs, hb, oa, q⟩ := h
  refine ⟨_, (pss_cons (ps_set (i := 2) nd rfl (Or.inr rfl) (C8.pe_c C_check hr (by decide) rfl (pa_cons (pv 0) (pa_cons (pv 1) pa_nil))))
    (pss_cons (ps_set (i := 3) nd rfl (Or.inl rfl) (pe_lst (pa_cons pe_dnewK pa_nil)))
    (pss_cons (ps_for PassesOwn.never rfl (piT K (pv 1)) (pg_name (i := 4) nd rfl (Or.inr rfl))
      (pss_one (ps_setLc2 (i := 3) (own := [("way", 5), ("behind", 6)]) (vs1 := [6]) rfl nd rfl rfl (sw_true rfl rfl rfl (by decide +kernel)) (piL K (pv 3)) (blkOk_by (own := [("way", 5), ("behind", 6)]) (N := ["state", "body", "columns", "ways", "literal", "way", "behind", "rows", "name"]) (sc := (C8.fnScope s_answer)) (by decide +kernel)) (by decide) (fun _ _ _ _ _ => (pg_name (i := 5) nd rfl (Or.inl rfl))) (fun _ _ _ _ _ => pts_nil) (fun _ _ _ _ _ => (piL K (C8.pe_c C_ways_behind hr (by decide) rfl (pa_cons (pv 0) (pa_cons (pv 4) (pa_cons (pv 5) pa_nil)))))) (fun _ _ _ _ _ => (pg_name (i := 6) nd rfl (Or.inl rfl))) (fun _ _ _ _ _ => pts_nil) (fun _ _ _ _ _ => (pv 6)))))
    (pss_cons (ps_setDcT (i := 7) (hu_of hr) (own := [("way", 5)]) rfl nd rfl rfl (swD_true rfl rfl rfl (by decide +kernel)) (piL K (pv 3)) (blkOk_by (own := [("way", 5)]) (N := ["state", "body", "columns", "ways", "literal", "way", "behind", "rows", "name"]) (sc := (C8.fnScope s_answer)) (by decide +kernel)) (fun _ _ _ _ _ => (pg_name (i := 5) nd rfl (Or.inr rfl))) (fun _ _ _ _ _ => pts_nil) (fun _ _ _ _ _ => (pe_callTy (tupK K) (by rfl) T.n_tuple (by decide +kernel) (pa_cons (pe_lc (own := [("name", 8)]) rfl nd (piT K (pv 2)) (blkOk_by (own := [("name", 8)]) (N := ["state", "body", "columns", "ways", "literal", "way", "behind", "rows", "name"]) (sc := scC_answer) (by decide +kernel)) (fun _ _ _ _ _ => (pg_name (i := 8) nd rfl (Or.inl rfl))) (fun _ _ _ _ _ => pts_nil) (fun _ _ _ _ _ => (pe_dget (hu_of hr) (pv 5) (pv 8) (fun _ _ => rfl)))) pa_nil))) (fun _ _ _ _ _ => pe_bl))
    (pss_one (ps_ret (pe_tup (pa_cons (pv 2) (pa_cons (pe_callBK (cr_sortKD rfl F_row_key hr (by decide)) (by rfl) T.n_sorted (by decide +kernel) (pa_cons (pv 7) pa_nil) (pk_cons (pe_glob (v := .ref _) rfl g_row_key rfl) pk_nil)) pa_nil))))))))), ?_⟩
  obtain ⟨ba, lx, rfl, hba, pl⟩ := id hb
  have of := oa.of
  have lpl := same_len pl
  refine sqS ⟨_, rfl, _, rfl, x, .ref ba, R, F, b, rfl, hs, hb, oa.ok, oa.len, fun pc H1 s1 h1 => ?_⟩
  refine sqS fun p0 hp0 => ⟨z1, fun p1 hp1 => ?_⟩
  have s2 : Same H1 (upd (upd H1 p0 (.dK [])) p1 (.lst [.ref p0])) := (Same.new hp0).trans (Same.new hp1)
  have s3 := s1.trans s2
  have w0 : IsWays (upd (upd H1 p0 (.dK [])) p1 (.lst [.ref p0])) (.ref p1) (waysM F (b.take 0) [[]]) := ⟨p1, _, rfl, upd_same, .cons ⟨p0, rfl, Same.new hp1 _ _ upd_same⟩ .nil⟩
  have hc2 := s2 _ _ h1
  generalize upd (upd H1 p0 (.dK [])) p1 (.lst [.ref p0]) = H2 at s2 s3 w0 hc2 ⊢
  refine sqF ⟨_, rfl, ba, rfl, ⟨lx, sqT (s3 _ _ hba)⟩, ?_⟩
  refine for_tup (xs := lx) (fun i σ H3 => ∃ lw o, σ = [some x, some (.ref ba), some (.ref pc), some lw, o, none, none, none, none] ∧ Same H H3 ∧ H3 pc = some (.tup ((colsM b []).map V.str)) ∧ IsWays H3 lw (waysM F (b.take i) [[]])) ⟨_, none, rfl, s3, hc2, w0⟩ (fun i σ H3 _ h => ?_) (fun i y σ H3 hy h => ?_) fun σ H3 h => ?_
  · obtain ⟨_, _, _, s4, _⟩ := h
    exact sqT (s4 _ _ hba)
  · obtain ⟨lw, o, rfl, s4, hc4, a, xs, rfl, ha, pw⟩ := h
    obtain ⟨l, el, hl⟩ := Paired.at pl hy
    have okl := okBody_at oa.ok el
    have wok : ∀ w ∈ waysM F (b.take i) [[]], WayOk (colsM (b.take i) []) 800 w := fun w hw => by
      have e := waysM_ok of (okBody_take i oa.ok) (ws := [[]]) (b := 0) (fun w hw => by rw [List.mem_singleton.mp hw]; exact wayOk_nil) w hw
      refine e.more ?_
      have e2 : (b.take i).length ≤ b.length := List.length_take_le' _ _
      have e3 := oa.len
      omega
    have ewy := waysM_snoc (F := F) (ws := [[]]) el
    have few := oa.few (i + 1)
    rw [ewy] at few
    refine ⟨_, rfl, a, rfl, ⟨xs, sqL ha⟩, fun D hD => ?_⟩
    have lxs := same_len pw
    refine out_list (xs := xs) (fun j H5 => Same H3 H5 ∧ ∃ acc, H5 D = some (.lst acc) ∧ Paired (IsWay H5) acc (((waysM F (b.take i) [[]]).take j).flatMap (behindM F l))) ⟨Same.new hD, [], upd_same, .nil⟩ (fun j H5 _ h => sqL (h.1 _ _ ha)) (fun j v H5 hv h => ?_) fun H5 h => ?_
    · obtain ⟨s5, acc, h5, pa⟩ := h
      obtain ⟨wy, ew, hw⟩ := Paired.at pw hv
      have s45 := s4.trans s5
      refine ⟨rfl, tyes (iteT ⟨_, rfl, _, rfl, _, rfl, x, y, v, R, F, l, wy, _, rfl, hs.mono s45, hl.mono s45.tup, hw.mono s5.way, of, okl, wok wy (List.mem_of_getElem? ew), fun pb H6 s6 hpb h6 => ?_⟩)⟩
      obtain ⟨pb', zs, epb, hzs, pz⟩ := h6
      cases epb
      have npb : pb ≠ D := fun e => by rw [e, h5] at hpb; cases hpb
      have lzs := same_len pz
      have hpb3 : H3 pb = none := s5.free hpb
      refine ⟨pb, rfl, ⟨zs, sqL hzs⟩, ?_⟩
      refine in_list (ys := zs) (fun k H7 => Same H3 H7 ∧ H7 pb = some (.lst zs) ∧ Paired (IsWay H7) zs (behindM F l wy) ∧ ∃ acc, H7 D = some (.lst acc) ∧ Paired (IsWay H7) acc (((waysM F (b.take i) [[]]).take j).flatMap (behindM F l) ++ (behindM F l wy).take k)) ⟨s5.trans s6, hzs, pz, acc, s6 _ _ h5, ?_⟩ (fun k H7 _ h => sqL h.2.1) (fun k z H7 hz h => ?_) fun H7 h => ?_
      · rw [List.take_zero, List.append_nil]
        exact Paired.mapP pa fun _ _ q => IsWay.mono s6.way q
      · obtain ⟨s7, h7, pz7, acc7, hD7, pa7⟩ := h
        obtain ⟨wz, ez, hwz⟩ := Paired.at pz7 hz
        have wS := wayS_lst (ys := acc7 ++ [z]) hD7
        refine ⟨rfl, tyes (iteT ⟨_, rfl, acc7, hD7, ?_, s7.mut hD, by rw [upd_ne npb]; exact h7, Paired.mapP pz7 fun _ _ q => IsWay.mono wS q, _, upd_same, ?_⟩)⟩
        · have e1 := same_len pa7
          have e2 := flat_part (behindM F l) ew k
          exact sz_ok' (by omega)
        · rw [take_snoc ez, ← List.append_assoc]
          exact Paired.app (Paired.mapP pa7 fun _ _ q => IsWay.mono wS q) (.cons (hwz.mono wS) .nil)
      · obtain ⟨s7, h7, pz7, acc7, hD7, pa7⟩ := h
        rw [lzs, List.take_length] at pa7
        refine ⟨s7, acc7, hD7, ?_⟩
        rw [flat_snoc _ ew]
        exact pa7
    · obtain ⟨s5, acc, h5, pa⟩ := h
      rw [lxs, List.take_length] at pa
      refine ⟨.ref D, _, rfl, s4.trans s5, s5 _ _ hc4, D, acc, rfl, h5, ?_⟩
      rw [ewy]
      exact pa
  obtain ⟨lw, o, rfl, s4, hc4, a, xs, rfl, ha, pw⟩ := h
  rw [lpl, List.take_length] at pw
  have wok : ∀ w ∈ waysM F b [[]], WayOk (colsM b []) 800 w := fun w hw => by
    have e := waysM_ok of oa.ok (ws := [[]]) (b := 0) (fun w hw => by rw [List.mem_singleton.mp hw]; exact wayOk_nil) w hw
    exact e.more (by have := oa.len; omega)
  have few := oa.few b.length
  rw [List.take_length] at few
  have lxs := same_len pw
  have lcs : (colsM b []).length ≤ 100 := by
    have e1 := colsM_len oa.ok
    rw [List.length_nil] at e1
    have := oa.len
    omega
  have q : ∀ v H', Same H H' → IsAns H' v (colsM b []) (sortM ((waysM F b [[]]).map (rowM (colsM b [])))) → (∀ a c l, v = .ref a → H' a = some (.tup [.ref c, .ref l]) → H l = none) → Q v H' := q
  generalize waysM F b [[]] = ways at pw wok few q lxs
  generalize hcs : colsM b [] = cs at wok lcs q hc4
  dsimp only
  refine sqS ?_
  refine ⟨_, rfl, a, rfl, ⟨xs, sqL ha⟩, fun D hD => ?_⟩
  refine dcT_list (xs := xs) (fun i H5 => Same H3 H5 ∧ ∃ kvs, H5 D = some (.dT kvs) ∧ (kvs.map (·.1)).Nodup ∧ kvs.length ≤ i ∧ ∀ k, k ∈ kvs.map (·.1) ↔ k ∈ ((ways.take i).map (rowM cs)).map (·.map toK)) ⟨Same.new hD, [], upd_same, .nil, Nat.le_refl _, fun k => by simp⟩ (fun i H5 _ h => sqL (h.1 _ _ ha)) (fun i v H5 hv h => ?_) fun H5 h => ?_
  · obtain ⟨s5, kvs, h5, nk, lk, mk⟩ := h
    obtain ⟨wy, ew, dw, rfl, hdw⟩ := Paired.at pw hv
    have ok := wok wy (List.mem_of_getElem? ew)
    have hil := getElem?_range ew
    refine ⟨rfl, tyes (iteT ⟨_, rfl, pc, rfl, ⟨_, sqT (s5 _ _ hc4)⟩, fun D2 hD2 => ?_⟩)⟩
    refine lc_tup (xs := cs.map V.str) (fun j H6 => Same H5 H6 ∧ H6 D2 = some (.lst (rowM (cs.take j) wy))) ⟨Same.new hD2, upd_same⟩ (fun j H6 _ h => sqT (h.1 _ _ (s5 _ _ hc4))) (fun j z H6 hz h => ?_) fun H6 h => ?_
    · obtain ⟨s6, h6⟩ := h
      rw [List.getElem?_map] at hz
      obtain ⟨n, hn, rfl⟩ := Option.map_eq_some_iff.mp hz
      obtain ⟨u, hu⟩ := Option.isSome_iff_exists.mp (ok.has n (List.mem_of_getElem? hn))
      have e : rowM (cs.take (j + 1)) wy = rowM (cs.take j) wy ++ [u] := by
        rw [take_snoc hn]
        unfold rowM
        rw [List.map_append]
        show _ ++ [(valV wy (.inr n)).getD .non] = _
        rw [hu]
        rfl
      refine ⟨rfl, tyes (iteT ⟨_, rfl, _, rfl, dw, u, rfl, dgetS ((s5.trans s6) _ _ hdw) hu, _, h6, ?_, ?_⟩)⟩
      · unfold rowM
        rw [List.length_map]
        have : (cs.take j).length ≤ cs.length := List.length_take_le' _ _
        exact sz_ok' (by omega)
      · rw [e]
        exact lc_step s6 hD2
    · obtain ⟨s6, h6⟩ := h
      rw [List.length_map, List.take_length] at h6
      refine ⟨D2, _, rfl, sqL h6, fun pt hpt => ?_⟩
      have s7 := s6.trans (Same.new (o := .tup (rowM cs wy)) hpt)
      have rv := rowM_val ok
      refine ⟨kvs, (rowM cs wy).map toK, pt, rfl, by rw [Tk.row_key rv]; exact upd_same, s7 _ _ h5, sz_ok' (by omega), Same.mut (s5.trans s7) hD, _, upd_same, putK_nd nk, ?_, fun k => ?_⟩
      · have := length_putK kvs ((rowM cs wy).map toK) (V.bl true)
        omega
      · rw [mem_putK, mk k, take_snoc ew, List.map_append, List.map_append, List.mem_append]
        show _ ↔ _ ∨ k ∈ [(rowM cs wy).map toK]
        rw [List.mem_singleton]
  obtain ⟨s5, kvs, h5, nk, lk, mk⟩ := h
  rw [lxs, List.take_length] at mk
  have hrv : ∀ r ∈ ways.map (rowM cs), RVal r := fun r hr => by
    obtain ⟨w, hw, e⟩ := List.mem_map.mp hr
    rw [← e]
    exact rowM_val (wok w hw)
  have hrl : ∀ r ∈ ways.map (rowM cs), r.length = cs.length := fun r hr => by
    obtain ⟨w, hw, e⟩ := List.mem_map.mp hr
    rw [← e]
    unfold rowM
    rw [List.length_map]
  refine ⟨_, rfl, _, rfl, D, kvs, rfl, rfl, h5, fun bs hbs => ?_⟩
  have rowAt : ∀ b ∈ bs, ∃ r ∈ ways.map (rowM cs), H5 b = some (.tup r) ∧ kapH H5 (.ref b) = r ∧ r.map toK ∈ kvs.map (·.1) := fun b2 hb2 => by
    obtain ⟨j, hj, e⟩ := List.getElem_of_mem hb2
    obtain ⟨q2, hq2, ht⟩ := Paired.atR hbs (j := j) (y := b2) (by rw [← e]; exact List.getElem?_eq_getElem hj)
    have mq : q2.1 ∈ kvs.map (·.1) := List.mem_map.mpr ⟨q2, List.mem_of_getElem? hq2, rfl⟩
    obtain ⟨r, hr', e2⟩ := List.mem_map.mp ((mk q2.1).mp mq)
    have e3 : q2.1.map kV = r := by rw [← e2]; exact Tk.row_key (hrv r hr')
    have ht' : H5 b2 = some (.tup (q2.1.map kV)) := ht
    rw [e3] at ht'
    exact ⟨r, hr', ht', kapH_row ht', by rw [e2]; exact mq⟩
  refine ⟨fun b2 hb2 H6 Q2 E2 s6 k => ?_, fun b2 hb2 v hv => ?_, fun h2 b2 hb2 => ?_, fun ys p H6 s6 hp perm so => ⟨z2, fun pr hpr => ?_⟩⟩
  · obtain ⟨r, hr', ht, ek, _⟩ := rowAt b2 hb2
    rw [ek] at k
    exact ⟨b2, r, rfl, s6 _ _ ht, hrv r hr', by have := hrl r hr'; omega, k⟩
  · obtain ⟨r, hr', ht, ek, _⟩ := rowAt b2 hb2
    rw [ek] at hv
    exact hrv r hr' v hv
  · obtain ⟨r, hr', ht, ek, mr⟩ := rowAt b2 hb2
    rw [ek]
    intro er
    have c0 : cs.length = 0 := by
      have := hrl r hr'
      rw [er] at this
      exact this.symm
    have all : ∀ k ∈ kvs.map (·.1), k = [] := fun k hk => by
      obtain ⟨r2, hr2, e2⟩ := List.mem_map.mp ((mk k).mp hk)
      have l2 := hrl r2 hr2
      rw [c0] at l2
      rw [← e2, List.length_eq_zero_iff.mp l2]
      rfl
    have l2 : 2 ≤ kvs.length := by rw [same_len hbs]; exact h2
    match kvs, l2, nk, all with
    | k1 :: k2 :: _, _, nk, all =>
      have e1 := all k1.1 (by simp)
      have e2 := all k2.1 (by simp)
      rw [List.map_cons, List.map_cons, e1, e2] at nk
      exact (List.nodup_cons.mp nk).1 (by simp)
  · have s7 : Same H5 (upd H6 p (.lst ys)) := s6.trans (Same.new hp)
    have s8 := s7.trans (Same.new (o := .tup [.ref pc, .ref p]) hpr)
    have npr : p ≠ pr := fun e => by rw [e, upd_same] at hpr; cases hpr
    have s9 := (s4.trans s5).trans s8
    have hc9 := (s5.trans s8) _ _ hc4
    have hpl : upd (upd H6 p (.lst ys)) pr (.tup [.ref pc, .ref p]) p = some (.lst ys) := by rw [upd_ne npr]; exact upd_same
    refine q _ _ s9 ⟨pr, pc, p, ys, rfl, upd_same, hc9, hpl, Paired.mapP (keys_sorted hbs nk hrv mk perm so) fun _ _ z => IsRow.mono s8.tup z⟩ fun a2 c2 l2 ea ha2 => ?_
    cases ea
    rw [upd_same] at ha2
    cases ha2
    exact ((s4.trans s5).trans s6).free hp
end
end Tk

/-! ## TkF7 -/
set_option Elab.async false
set_option linter.all false
set_option maxRecDepth 100000
set_option maxHeartbeats 4000000
namespace Tk
open PySem PySem.Spec PyProof.Rows L2
section
variable {P : Program} {w : World} {K : PySem.W.Frag} {mg : Str → Option Value} {base : Heap} {C : Addr}
def spHas (C : Addr) : Sp := fun vs H Q _ => ∃ H0 sa n c R F r, vs = [.ref sa, .str n, .ref c] ∧ SB C H0 H sa R F ∧ H c = some (.tup r) ∧ n ∈ F.map (·.1) ∧ RVal r ∧ (∀ x ∈ rowsOf F n, RVal x) ∧ ∀ b H', (b = true ↔ r ∈ rowsOf F n) → Same H H' → Q (.bl b) H'
theorem m_has (T : Tx K mg C) : C8.Met P w K mg base 1 C "has" (spHas C) [] := by
  refine met T.cl T.m_has (N := ["self", "relation", "row"]) (by decide +kernel) (fun vs H Q E h => ?_) (fun f cdv A outer s H vs Q E nd hr h => ?_)
  · obtain ⟨H0, sa, n, c, R, F, r, rfl, _⟩ := h
    rfl
  obtain ⟨H0, sa, n, c, R, F, r, rfl, ⟨dx, d1, d2, fs, kr, kf, hsa, l1, l2, nm, h1, h2, pr, pf, _⟩, hc, hn, rv, rvs, q⟩ := h
  refine ⟨_, (pss_one (ps_ret (pe_cmpR (inD K (hu65 hr)) (pv 2) (pe_dget2 (hu_of hr) (fldK K (pv 0) rfl) (pv 1) (pe_lst pa_nil) ⟨rfl, rfl, rfl, rfl⟩) (by rfl)))), ?_⟩
  obtain ⟨v, ev, l, xs, rfl, hl, px⟩ := fact_get pf hn
  refine ⟨_, rfl, _, rfl, sa, C, dx, fs, _, rfl, hsa, T.cl, T.no_facts, l2, d2, rfl, .inl ⟨kf, .inl h2⟩, _, rfl, z0, fun p hp => ?_⟩
  have s1 : Same H (upd H p (.lst [])) := Same.new hp
  refine ⟨_, dgetO (s1 _ _ h2), ?_⟩
  rw [ev]
  refine ⟨rowD r, (rowsOf F n).map rowD, .tup (.inl (.inl (s1 _ _ hc))) (vD_all rv), .lst (.inl (.inl (s1 _ _ hl))) (rows_dp (Paired.mapP px fun _ _ z => IsRow.mono s1.tup z) rvs), rowD_kind.shaped (by decide) rv, rowsD_kind.shaped (by decide) rvs, ?_⟩
  exact q _ _ (rowD_kind.any_iff rv rvs) s1
def spPut (C : Addr) : Sp := fun vs H Q _ => ∃ H0 sa x R F it, vs = [.ref sa, x] ∧ SB C H0 H sa R F ∧ IsItem H0 x it ∧ okI R F it ∧ ∀ H', SB C H0 H' sa (stepI R F it).1 (stepI R F it).2 → Q .non H'
theorem m_put (T : Tx K mg C) (M_has : C8.Met P w K mg base 1 C "has" (spHas C) []) : C8.Met P w K mg base 2 C "_put" (spPut C) [] := by
  refine met T.cl T.m_put (N := ["self", "item", "sort", "name"]) (by decide +kernel) (fun vs H Q E h => ?_) (fun f cdv A outer s H vs Q E nd hr h => ?_)
  · obtain ⟨H0, sa, x, R, F, it, rfl, _⟩ := h
    rfl
  obtain ⟨H0, sa, x, R, F, it, rfl, sb, hi, ok, q⟩ := h
  refine ⟨_, (pss_cons (ps_set (i := 2) nd rfl (Or.inl rfl) (pe_ix (ixT K) (pv 1) pe_int (fun _ _ => rfl)))
    (pss_cons (ps_set (i := 3) nd rfl (Or.inl rfl) (pe_ix (ixT K) (pv 1) pe_int (fun _ _ => rfl)))
    (pss_one (ps_if (pt_cmpR op_eq (pv 2) pe_str (nomark _))
      (pss_cons (ps_dput (hu_of hr) (fldK K (pv 0) rfl) (pv 3) (pe_tup (pa_cons (pe_ix (ixT K) (pv 1) pe_int (fun _ _ => rfl)) (pa_cons (pe_ix (ixT K) (pv 1) pe_int (fun _ _ => rfl)) pa_nil))) rfl)
      (pss_one (ps_expr (pe_dsetd (fldK K (pv 0) rfl) (pv 3) (pe_lst pa_nil) ⟨rfl, rfl, rfl, rfl⟩))))
      (pss_one (ps_if (pt_cmpR op_eq (pv 2) pe_str (nomark _))
        (pss_one (ps_if (pt_not (pt_val (C8.pe_mt M_has hr (by decide) (pv 0) (pa_cons (pv 3) (pa_cons (pe_ix (ixT K) (pv 1) pe_int (fun _ _ => rfl)) pa_nil)))))
          (pss_one (ps_expr (pe_bm PySem.F.plainAttrs_list PySem.F.slot_list_append PySem.F.type_list_append mt_append (pe_dsetd (fldK K (pv 0) rfl) (pv 3) (pe_lst pa_nil) ⟨rfl, rfl, rfl, rfl⟩) (pa_cons (pe_ix (ixT K) (pv 1) pe_int (fun _ _ => rfl)) pa_nil))))
          pss_nil))
        (pss_one (ps_if (pt_cmpR op_eq (pv 2) pe_str (nomark _))
          (pss_one (ps_dput (hu_of hr) (fldK K (pv 0) rfl) (pv 3) (pe_tup (pa_cons (pe_ix (ixT K) (pv 1) pe_int (fun _ _ => rfl)) (pa_cons (pe_ix (ixT K) (pv 1) pe_int (fun _ _ => rfl)) (pa_cons (pe_ix (ixT K) (pv 1) pe_int (fun _ _ => rfl)) (pa_cons (pe_ix (ixT K) (pv 1) pe_int (fun _ _ => rfl)) pa_nil))))) rfl))
          (pss_one (ps_dput (hu_of hr) (fldK K (pv 0) rfl) (pv 3) (pe_ix (ixT K) (pv 1) pe_int (fun _ _ => rfl)) rfl)))))))))), ?_⟩
  obtain ⟨dx, d1, d2, fs, kr, kf, hsa, l1, l2, nm, h1, h2, pr, pf, ndv, n12, s0, hs0, h10, h20, hl0⟩ := id sb
  have ns1 : sa ≠ d1 := ne_of hsa h1 fun z => nomatch z
  have ns2 : sa ≠ d2 := ne_of hsa h2 fun z => nomatch z
  cases it with
  | rel n cs =>
    obtain ⟨a, c, rfl, ha0, hc0⟩ := hi
    have ha := s0 _ _ ha0
    have hc := s0 _ _ hc0
    obtain ⟨nr, nf, lr, lf⟩ := ok
    refine sqS ⟨_, rfl, _, _, _, _, rfl, rfl, sqT ha, rfl, ?_⟩
    refine sqS ⟨_, rfl, _, _, _, _, rfl, rfl, sqT ha, rfl, ?_⟩
    refine ⟨_, rfl, rfl, _, rfl, ifEq rfl ?_⟩
    refine ⟨_, rfl, _, _, _, _, rfl, rfl, sqT ha, rfl, _, rfl, _, _, _, _, rfl, rfl, sqT ha, rfl, z2, fun p hp => ?_⟩
    have s1 : Same H (upd H p (.tup [.ref c, .int 40])) := Same.new hp
    have vn := valV_rel_none pr nr
    have lkr := same_len pr
    refine ⟨_, rfl, sa, C, dx, fs, _, rfl, s1 _ _ hsa, T.cl, T.no_relations, l1, _, rfl, d1, _, rfl, DPut.k (k := .inr n) (s1 _ _ h1) (sz_ok' (by omega)), ?_⟩
    have h1' := s1 _ _ h1
    have np1 : p ≠ d1 := fun e => by rw [e, h1] at hp; cases hp
    rw [putK_new _ vn]
    -- the heap behind the store
    have hsa2 : upd (upd H p (.tup [.ref c, .int 40])) d1 (.dK (kr ++ [(.inr n, .ref p)])) sa = some (.ins C dx fs) := by rw [upd_ne ns1]; exact s1 _ _ hsa
    have h22 : upd (upd H p (.tup [.ref c, .int 40])) d1 (.dK (kr ++ [(.inr n, .ref p)])) d2 = some (.dK kf) := by rw [upd_ne n12.symm]; exact s1 _ _ h2
    have vf := valV_key_none pf nf
    have lkf := same_len pf
    refine ⟨_, rfl, sa, C, dx, fs, _, rfl, hsa2, T.cl, T.no_facts, l2, d2, rfl, .inl ⟨kf, .inl h22⟩, _, rfl, z0, fun l hl => ?_⟩
    have s3 : Same _ (upd (upd (upd H p (.tup [.ref c, .int 40])) d1 (.dK (kr ++ [(.inr n, .ref p)]))) l (.lst [])) := Same.new hl
    refine ⟨kf, .inr n, s3 _ _ h22, rfl, sz_ok' (by omega), (fun v hv => by rw [vf] at hv; cases hv), fun _ => ?_⟩
    rw [putK_new _ vf]
    refine q _ ?_
    have n2l : d2 ≠ l := ne_of_none h22 hl
    have pr2 : Paired (IsRel (upd (upd H p (.tup [.ref c, .int 40])) d1 (.dK (kr ++ [(.inr n, .ref p)])))) (kr ++ [(.inr n, .ref p)]) (R ++ [(n, cs)]) := by
      refine Paired.app (Paired.mapP pr fun _ _ z => (z.mono s1.tup).other h1' (fun xs z => nomatch z)) (.cons ⟨rfl, p, c, rfl, ?_, ?_⟩ .nil)
      · rw [upd_ne np1]
        exact upd_same
      · rw [upd_ne (ne_of (s1 _ _ hc) h1' fun z => nomatch z)]
        exact s1 _ _ hc
    have pf2 : Paired (IsFact (upd (upd H p (.tup [.ref c, .int 40])) d1 (.dK (kr ++ [(.inr n, .ref p)])))) kf F := Paired.mapP pf fun _ _ z => (z.mono s1).other h1' (fun xs z => nomatch z) (fun xs z => nomatch z)
    have hlH : H l = none := by
      cases e : H l with
      | none => rfl
      | some o =>
        have n1 : l ≠ d1 := fun z => by rw [z, upd_same] at hl; cases hl
        rw [upd_ne n1, s1 _ _ e] at hl
        cases hl
    have hl00 : H0 l = none := s0.free hlH
    refine ⟨dx, d1, d2, fs, kr ++ [(.inr n, .ref p)], kf ++ [(.inr n, .ref l)], ?_, l1, l2, nm, ?_, upd_same, Paired.mapP pr2 fun _ _ z => (z.mono s3.tup).other (s3 _ _ h22) (fun xs z => nomatch z),
      Paired.app (Paired.mapP pf2 fun _ _ z => (z.mono s3).other (s3 _ _ h22) (fun xs z => nomatch z) (fun xs z => nomatch z)) (.cons ⟨rfl, l, [], rfl, by rw [upd_ne n2l.symm]; exact upd_same, .nil⟩ .nil), ?_, n12, ?_, hs0, h10, h20, ?_⟩
    · rw [upd_ne ns2]
      exact s3 _ _ hsa2
    · rw [upd_ne n12]
      exact s3 _ _ upd_same
    · rw [List.map_append, List.nodup_append]
      refine ⟨ndv, by simp, fun v hv v2 hv2 => ?_⟩
      have e2 : v2 = .ref l := by simpa using hv2
      intro e
      obtain ⟨pp, hpp, e3⟩ := List.mem_map.mp hv
      obtain ⟨j, hj, e4⟩ := List.getElem_of_mem hpp
      obtain ⟨qq, _, _, la, xs, ela, hla, _⟩ := Paired.at pf (j := j) (x := pp) (by rw [← e4]; exact List.getElem?_eq_getElem hj)
      rw [e3, e, e2] at ela
      cases ela
      rw [hlH] at hla
      cases hla
    · intro b o hb
      rw [upd_ne (ne_of_none hb h20)]
      refine s3 _ _ ?_
      rw [upd_ne (ne_of_none hb h10)]
      exact s1 _ _ (s0 _ _ hb)
    · intro pp hpp la ela
      rcases List.mem_append.mp hpp with z | z
      · exact hl0 pp z la ela
      · rw [List.mem_singleton.mp z] at ela
        cases ela
        exact hl00
  | fact n r =>
    obtain ⟨a, c, rfl, ha0, hc0⟩ := hi
    have ha := s0 _ _ ha0
    have hc := s0 _ _ hc0
    obtain ⟨nf, nr, rv, rvs, lrs, ndF, lF⟩ := ok
    refine sqS ⟨_, rfl, _, _, _, _, rfl, rfl, sqT ha, rfl, ?_⟩
    refine sqS ⟨_, rfl, _, _, _, _, rfl, rfl, sqT ha, rfl, ?_⟩
    refine ⟨_, rfl, rfl, _, rfl, ifNe (by decide +kernel) ?_⟩
    refine ⟨_, rfl, rfl, _, rfl, ifEq rfl ?_⟩
    refine ⟨_, rfl, sa, dx, fs, rfl, hsa, nm.1, _, rfl, _, rfl, _, _, _, _, rfl, rfl, sqT ha, rfl, H0, sa, n, c, R, F, r, rfl, sb, hc, nf, rv, rvs, fun b H2 hb s2 => ?_⟩
    have hbf : b = false := by
      cases b with
      | false => rfl
      | true => exact absurd (hb.mp rfl) nr
    subst hbf
    refine ⟨_, rfl, iteT ?_⟩
    obtain ⟨v, ev, l, xs, rfl, hl, px⟩ := fact_get pf nf
    refine ⟨_, rfl, sa, C, dx, fs, _, rfl, s2 _ _ hsa, T.cl, T.no_facts, l2, d2, rfl, .inl ⟨kf, .inl (s2 _ _ h2)⟩, _, rfl, z0, fun p hp => ?_⟩
    have s3 := s2.trans (Same.new (o := .lst []) hp)
    have lkf := same_len pf
    have lx := same_len px
    refine ⟨kf, .inr n, s3 _ _ h2, rfl, ?_, (fun u hu => ?_), (fun hu => by rw [ev] at hu; cases hu)⟩
    · exact sz_ok' (by omega)
    rw [ev] at hu
    cases hu
    refine ⟨.inl ⟨rfl, _, sqL (s3 _ _ hl)⟩, _, rfl, _, _, _, _, rfl, rfl, sqT (s3 _ _ ha), rfl, l, xs, .ref c, rfl, rfl, s3 _ _ hl, sz_ok' (by omega), ?_⟩
    refine q _ ?_
    have hl3 := s3 _ _ hl
    have nsl : sa ≠ l := ne_of hsa hl fun z => nomatch z
    have n1l : d1 ≠ l := ne_of h1 hl fun z => nomatch z
    have n2l : d2 ≠ l := ne_of h2 hl fun z => nomatch z
    have hl00 : H0 l = none := by
      obtain ⟨pp, hpp, e⟩ := valV_mem ev
      exact hl0 pp hpp l e
    refine ⟨dx, d1, d2, fs, kr, kf, by rw [upd_ne nsl]; exact s3 _ _ hsa, l1, l2, nm, by rw [upd_ne n1l]; exact s3 _ _ h1, by rw [upd_ne n2l]; exact s3 _ _ h2, Paired.mapP pr fun _ _ z => (z.mono s3.tup).mono (tupS_lst hl3),
      facts_add hl3 (s3 _ _ hc) (Paired.mapP pf fun _ _ z => z.mono s3) ndv ndF ev, ndv, n12, Same.mut (s0.trans s3) hl00, hs0, h10, h20, hl0⟩
end
end Tk

/-! ## TkF8 -/
set_option Elab.async false
set_option linter.all false
set_option maxRecDepth 100000
set_option maxHeartbeats 4000000
namespace Tk
open PySem PySem.Spec PyProof.Rows L2
section
variable {P : Program} {w : World} {K : PySem.W.Frag} {mg : Str → Option Value} {base : Heap} {C : Addr}
def spOrd (C : Addr) : Sp := fun vs H Q _ => ∃ H0 sa R F, vs = [.ref sa] ∧ SB C H0 H sa R F ∧ OkFacts R F ∧ ∀ H', IsState C H' (.ref sa) R F → Same H0 H' → Q .non H'
theorem m_order_facts (T : Tx K mg C) (C_row_key : C8.Cal P w K mg base 2 "row_key" spRK []) : C8.Met P w K mg base 5 C "_order_facts" (spOrd C) [] := by
  obtain ⟨fk, g_row_key, F_row_key⟩ := keyF C_row_key
  refine met T.cl T.m_order_facts (N := ["self", "kept", "name"]) (by decide +kernel) (fun vs H Q E h => ?_) (fun f cdv A outer s H vs Q E nd hr h => ?_)
  · obtain ⟨H0, sa, R, F, rfl, _⟩ := h
    rfl
  obtain ⟨H0, sa, R, F, rfl, sb, of, q⟩ := h
  refine ⟨_, (pss_cons (ps_set (i := 1) nd rfl (Or.inl rfl) pe_dnewK)
    (pss_cons (ps_lock (ps_for PassesOwn.never rfl (pi_keys (fldK K (pv 0) rfl)) (pg_name (i := 2) nd rfl (Or.inl rfl))
      (pss_one (ps_if (PW.pt (pw_or (pt_cmp (pc_din (hu_of hr) (pv 2) (fldK K (pv 0) rfl))) (pw_or1 (pt_cmpR op_gt (pe_callB (lenK K) (by rfl) T.n_len (by decide +kernel) (pa_cons (pe_dget (hu_of hr) (fldK K (pv 0) rfl) (pv 2) (fun _ _ => rfl)) pa_nil)) pe_int (nomark _)))))
        (pss_one (ps_dput (hu_of hr) (pv 1) (pv 2) (pe_callBK (sortK K F_row_key hr (by decide)) (by rfl) T.n_sorted (by decide +kernel) (pa_cons (pe_dget (hu_of hr) (fldK K (pv 0) rfl) (pv 2) (fun _ _ => rfl)) pa_nil) (pk_cons (pe_glob (v := .ref _) rfl g_row_key rfl) pk_nil)) rfl))
        pss_nil))))
    (pss_one (ps_fld (pv 0) (pv 1) rfl)))), ?_⟩
  obtain ⟨dx, d1, d2, fs, kr, kf, hsa, l1, l2, nm, h1, h2, pr, pf, ndv, n12, s0, hs0, h10, h20, hl0⟩ := id sb
  have ns1 : sa ≠ d1 := ne_of hsa h1 fun z => nomatch z
  have ns2 : sa ≠ d2 := ne_of hsa h2 fun z => nomatch z
  refine sqS fun pk hpk => ?_
  have n2k : d2 ≠ pk := ne_of_none h2 hpk
  have s1 : Same H (upd H pk (.dK [])) := Same.new hpk
  refine ⟨d2, .dK kf, s1 _ _ h2, trivial, fun od => ?_⟩
  -- all of H but d2 stands
  have w1 : Same (wo H d2) (upd (upd H pk (.dK [])) d2 (.frz od (.dK kf))) := fun b o hb => by
    obtain ⟨nb, e⟩ := wo_of hb
    rw [upd_ne nb]
    exact s1 _ _ e
  have hsaw : wo H d2 sa = some (.ins C dx fs) := by rw [wo_ne ns2]; exact hsa
  have h1w : wo H d2 d1 = some (.dK kr) := by rw [wo_ne n12]; exact h1
  have hpkw : wo H d2 pk = none := by rw [wo_ne n2k.symm]; exact hpk
  have prw : Paired (IsRel (wo H d2)) kr R := by
    refine Paired.mapP pr fun p q z => ?_
    obtain ⟨e, a, c, e1, e2, e3⟩ := z
    exact ⟨e, a, c, e1, by rw [wo_ne (ne_of e2 h2 fun z => nomatch z)]; exact e2, by rw [wo_ne (ne_of e3 h2 fun z => nomatch z)]; exact e3⟩
  have pfw : Paired (IsFact (wo H d2)) kf F := by
    refine Paired.mapP pf fun p q z => ?_
    obtain ⟨e, a, xs, e1, e2, e3⟩ := z
    refine ⟨e, a, xs, e1, by rw [wo_ne (ne_of e2 h2 fun z => nomatch z)]; exact e2, Paired.mapP e3 fun x r z => ?_⟩
    obtain ⟨c, ec, hc⟩ := z
    exact ⟨c, ec, by rw [wo_ne (ne_of hc h2 fun z => nomatch z)]; exact hc⟩
  have hf1 : upd (upd H pk (.dK [])) d2 (.frz od (.dK kf)) d2 = some (.frz od (.dK kf)) := upd_same
  have hk1 : upd (upd H pk (.dK [])) d2 (.frz od (.dK kf)) pk = some (.dK []) := by rw [upd_ne n2k.symm]; exact upd_same
  generalize upd (upd H pk (.dK [])) d2 (.frz od (.dK kf)) = H1 at w1 hf1 hk1 ⊢
  have lkf := same_len pf
  have lF : F.length ≤ 10 := by
    have e1 := congrArg List.length of.names
    rw [List.length_map, List.length_map] at e1
    have := of.less
    omega
  refine ⟨_, rfl, sa, C, dx, fs, _, rfl, w1 _ _ hsaw, T.cl, T.no_facts, l2, d2, od, rfl, .inl ⟨kf, hf1, ?_⟩⟩
  refine for_keysK (fun i σ H2 => ∃ o, σ = [some (.ref sa), some (.ref pk), o] ∧ Same (wo H d2) H2 ∧ H2 d2 = some (.frz od (.dK kf)) ∧ ∃ kk, H2 pk = some (.dK kk) ∧ Paired (IsFact H2) kk (F.take i)) ⟨none, rfl, w1, hf1, [], hk1, .nil⟩ (fun i σ H2 _ h => ?_) (fun i k v σ H2 hk h => ?_) fun σ H2 h => ?_
  · obtain ⟨_, _, _, h, _⟩ := h
    exact h
  · obtain ⟨o, rfl, w2, hf2, kk, hk2, pk2⟩ := h
    obtain ⟨n, rs, eF, rfl, hrs, hv, nn⟩ := names_at pfw of.nd hk
    have memF : (n, rs) ∈ F := List.mem_of_getElem? eF
    have hrel : n ∈ R.map (·.1) := by
      rw [← of.names]
      exact List.mem_map.mpr ⟨_, memF, rfl⟩
    have hso : (valV kr (.inr n)).isSome = true := by
      cases e : valV kr (.inr n) with
      | some u => rfl
      | none =>
        have key : ∀ {kr : Way} {R : Rels}, Paired (IsRel (wo H d2)) kr R → valV kr (.inr n) = none → n ∉ R.map (·.1) := by
          intro kr R h
          induction h with
          | nil => intro _; simp
          | @cons p q ps qs h t ih =>
            intro e
            rw [List.map_cons, List.mem_cons, not_or]
            by_cases c : p.1 = .inr n
            · rw [valV_pos c] at e
              cases e
            · rw [valV_neg c] at e
              exact ⟨fun z => c (by rw [h.1, z]), ih e⟩
        exact absurd hrel (key prw e)
    obtain ⟨l, xs, ev, hl, px⟩ := hrs
    subst ev
    have hl2 := w2 _ _ hl
    have px2 : Paired (IsRow H2) xs rs := Paired.mapP px fun _ _ z => IsRow.mono w2.tup z
    have rv := of.vals _ memF
    have rw' := of.width _ memF
    refine ⟨_, rfl, _, rfl, sa, C, dx, fs, _, rfl, w2 _ _ hsaw, T.cl, T.no_relations, l1, d1, _, rfl, dgetO (w2 _ _ h1w), _, rfl, ?_⟩
    rw [hso]
    refine iteT (iteT ?_)
    have κx : ∀ x ∈ xs, ∃ c r, x = .ref c ∧ H2 c = some (.tup r) ∧ kapH H2 x = r ∧ r ∈ rs := fun x hx => by
      obtain ⟨j, hj, e⟩ := List.getElem_of_mem hx
      obtain ⟨r, hr', c, ec, hc⟩ := Paired.at px2 (j := j) (x := x) (by rw [← e]; exact List.getElem?_eq_getElem hj)
      exact ⟨c, r, ec, hc, by rw [ec]; exact kapH_row hc, List.mem_of_getElem? hr'⟩
    have rlen : ∀ r ∈ rs, r.length ≤ 10 ∧ 0 < r.length := fun r hr' => by
      obtain ⟨p, hp, _, e⟩ := width_mem (rw' r hr')
      rw [← e]
      exact of.short p hp
    refine ⟨_, rfl, sa, C, dx, fs, _, rfl, w2 _ _ hsaw, T.cl, T.no_facts, l2, _, rfl, d2, .ref l, rfl, dgetZ hf2 hv, l, xs, rfl, rfl, sqL hl2, fun x hx H3 Q3 E3 s3 k => ?_, fun x hx v' hv' => ?_, fun _ x hx => ?_, fun ys p H3 s3 hp perm so => ?_⟩
    · obtain ⟨c, r, rfl, hc, ek, hr'⟩ := κx x hx
      rw [ek] at k
      exact ⟨c, r, rfl, s3 _ _ hc, rv r hr', by have := (rlen r hr').1; omega, k⟩
    · obtain ⟨c, r, rfl, hc, ek, hr'⟩ := κx x hx
      rw [ek] at hv'
      exact rv r hr' v' hv'
    · obtain ⟨c, r, rfl, hc, ek, hr'⟩ := κx x hx
      rw [ek]
      intro e
      have := (rlen r hr').2
      rw [e] at this
      exact absurd this (by decide)
    have s4 : Same H2 (upd H3 p (.lst ys)) := s3.trans (Same.new hp)
    have hpl : upd H3 p (.lst ys) p = some (.lst ys) := upd_same
    have pys := sort_rows px2 (of.sorted _ memF) rv perm so
    generalize upd H3 p (.lst ys) = H4 at s4 hpl
    have lkk := same_len pk2
    have lt : (F.take i).length ≤ F.length := List.length_take_le' _ _
    refine ⟨_, rfl, _, rfl, pk, _, rfl, DPut.k (k := .inr n) (s4 _ _ hk2) (sz_ok' (by omega)), ?_⟩
    have vk := valV_key_none pk2 nn
    rw [putK_new _ vk]
    have hk4 := s4 _ _ hk2
    refine ⟨_, rfl, Same.mut (w2.trans s4) hpkw, ?_, _, upd_same, ?_⟩
    · rw [upd_ne n2k]
      exact s4 _ _ hf2
    · rw [take_snoc eF]
      refine Paired.app (Paired.mapP pk2 fun _ _ z => (z.mono s4).other hk4 (fun _ z => nomatch z) (fun _ z => nomatch z)) (.cons ?_ .nil)
      refine IsFact.other hk4 (fun _ z => nomatch z) (fun _ z => nomatch z) ⟨rfl, p, ys, rfl, hpl, Paired.mapP pys fun _ _ z => IsRow.mono s4.tup z⟩
  · obtain ⟨o, rfl, w2, hf2, kk, hk2, pk2⟩ := h
    rw [lkf, List.take_length] at pk2
    refine ⟨hf2, ?_⟩
    have w3 : Same (wo H d2) (upd H2 d2 (.dK kf)) := Same.mut w2 wo_self
    have hsa3 := w3 _ _ hsaw
    refine ⟨_, rfl, _, rfl, sa, C, dx, fs, rfl, hsa3, T.cl, T.no_facts, by have := nm.2.2.2; omega, ?_⟩
    have hk3 : upd H2 d2 (.dK kf) pk = some (.dK kk) := by rw [upd_ne n2k.symm]; exact hk2
    have pk3 : Paired (IsFact (upd H2 d2 (.dK kf))) kk F := Paired.mapP pk2 fun _ _ z => z.other hf2 (fun _ z => nomatch z) (fun _ z => nomatch z)
    generalize upd H2 d2 (.dK kf) = H5 at w3 hsa3 hk3 pk3
    have nsk : pk ≠ sa := ne_of hk3 hsa3 fun z => nomatch z
    refine q _ ⟨sa, dx, _, _, _, rfl, upd_same, ?_, ⟨d1, kr, rfl, ?_, ?_⟩, ?_, ⟨pk, kk, rfl, ?_, ?_⟩⟩ fun b o hb => ?_
    · rw [lookup_putF, if_neg (by decide +kernel)]
      exact l1
    · rw [upd_ne ns1.symm]
      exact w3 _ _ h1w
    · exact Paired.mapP prw fun _ _ z => (z.mono w3.tup).other hsa3 (fun _ z => nomatch z)
    · rw [lookup_putF, if_pos rfl]
    · rw [upd_ne nsk]
      exact hk3
    · exact Paired.mapP pk3 fun _ _ z => z.other hsa3 (fun _ z => nomatch z) (fun _ z => nomatch z)
    · rw [upd_ne (ne_of_none hb hs0)]
      refine w3 _ _ ?_
      rw [wo_ne (ne_of_none hb h20)]
      exact s0 _ _ hb
def spInit (C : Addr) : Sp := fun vs H Q _ => ∃ H0 sa dx li xs R F, vs = [.ref sa, .ref li] ∧ Same H0 H ∧ H0 sa = none ∧ H sa = some (.ins C dx []) ∧ H0 li = some (.lst xs) ∧ Paired (IsItem H0) xs (itemsOf R F) ∧ OkFacts R F ∧ ∀ H', IsState C H' (.ref sa) R F → Same H0 H' → Q .non H'
theorem m_init (T : Tx K mg C) (M__put : C8.Met P w K mg base 2 C "_put" (spPut C) []) (M__order_facts : C8.Met P w K mg base 5 C "_order_facts" (spOrd C) []) : C8.Mak P w K mg base 6 "State" C (spInit C) [] := by
  obtain ⟨fi, fdi, M, F, b⟩ := T.init
  refine C8.mak0 (N := ["self", "items", "item"]) M T.gC F b .nil (C8.fnScope_by (by decide +kernel)) (fun vs H Q E h => ?_) (fun cdv A outer s H vs Q E hr h => ?_)
  · obtain ⟨H0, sa, dx, li, xs, R, F, rfl, _⟩ := h
    rfl
  have nd : (["self", "items", "item"] : List Str).Nodup := by decide +kernel
  obtain ⟨H0, sa, dx, li, xs, R, F, rfl, s0, hs0, hsa, hli, pi, of, q⟩ := h
  refine ⟨_, (pss_cons (ps_fld (pv 0) pe_dnewK rfl)
    (pss_cons (ps_fld (pv 0) pe_dnewK rfl)
    (pss_cons (ps_fld (pv 0) pe_dnewK rfl)
    (pss_cons (ps_fld (pv 0) pe_dnewK rfl)
    (pss_cons (ps_for PassesOwn.never rfl (piL K (pv 1)) (pg_name (i := 2) nd rfl (Or.inl rfl))
      (pss_one (ps_expr (C8.pe_mt M__put hr (by decide) (pv 0) (pa_cons (pv 2) pa_nil)))))
    (pss_one (ps_expr (C8.pe_mt0 M__order_facts hr (by decide) (pv 0))))))))), ?_⟩
  refine s_fldD rfl hsa T.cl T.no_relations (by decide) fun d1 H1 hd1 n1 hs1 h1 w1 => ?_
  refine s_fldD rfl hs1 T.cl T.no_facts (by have a1 := putF_len "relations" (V.ref d1) []; rw [List.length_nil] at a1; omega) fun d2 H2 hd2 n2 hs2 h2 w2 => ?_
  refine s_fldD rfl hs2 T.cl T.no_structures (by have a1 := putF_len "relations" (V.ref d1) []; rw [List.length_nil] at a1; have a2 := putF_len "facts" (V.ref d2) (putF "relations" (V.ref d1) []); omega) fun d3 H3 hd3 n3 hs3 h3 w3 => ?_
  refine s_fldD rfl hs3 T.cl T.no_layouts (by have a1 := putF_len "relations" (V.ref d1) []; rw [List.length_nil] at a1; have a2 := putF_len "facts" (V.ref d2) (putF "relations" (V.ref d1) []); have a3 := putF_len "structures" (V.ref d3) (putF "facts" (V.ref d2) (putF "relations" (V.ref d1) [])); omega) fun d4 H4 hd4 n4 hs4 h4 w4 => ?_
  have n12 : d1 ≠ d2 := ne_of_none h1 hd2
  have w24 : Same (wo H2 sa) H4 := fun b o hb => by
    obtain ⟨nb, e⟩ := wo_of hb
    refine w4 _ _ ?_
    rw [wo_ne nb]
    exact w3 _ _ hb
  have w14 : Same (wo H1 sa) H4 := fun b o hb => by
    obtain ⟨nb, e⟩ := wo_of hb
    refine w24 _ _ ?_
    rw [wo_ne nb]
    exact w2 _ _ hb
  have s4 : Same H0 H4 := fun b o hb => by
    have nb : b ≠ sa := ne_of_none hb hs0
    refine w14 _ _ ?_
    rw [wo_ne nb]
    refine w1 _ _ ?_
    rw [wo_ne nb]
    exact s0 _ _ hb
  have h10 : H0 d1 = none := s0.free hd1
  have h20 : H0 d2 = none := by
    cases e : H0 d2 with
    | none => rfl
    | some o =>
      have := w1 d2 o (by rw [wo_ne n2]; exact s0 _ _ e)
      rw [hd2] at this
      cases this
  generalize hfs : putF "layouts" (V.ref d4) (putF "structures" (V.ref d3) (putF "facts" (V.ref d2) (putF "relations" (V.ref d1) []))) = fs at hs4
  have look : ∀ m : Str, fs.lookup m = if m = "layouts" then some (.ref d4) else if m = "structures" then some (.ref d3) else if m = "facts" then some (.ref d2) else if m = "relations" then some (.ref d1) else none := fun m => by
    rw [← hfs, lookup_putF, lookup_putF, lookup_putF, lookup_putF]
    rfl
  have lfs : fs.length ≤ 10 := by
    rw [← hfs]
    have a1 := putF_len "layouts" (V.ref d4) (putF "structures" (V.ref d3) (putF "facts" (V.ref d2) (putF "relations" (V.ref d1) [])))
    have a2 := putF_len "structures" (V.ref d3) (putF "facts" (V.ref d2) (putF "relations" (V.ref d1) []))
    have a3 := putF_len "facts" (V.ref d2) (putF "relations" (V.ref d1) [])
    have a4 := putF_len "relations" (V.ref d1) []
    rw [List.length_nil] at a4
    omega
  have l1 : fs.lookup ("relations" : Str) = some (.ref d1) := by
    rw [look, if_neg (by decide +kernel), if_neg (by decide +kernel), if_neg (by decide +kernel), if_pos rfl]
  have l2 : fs.lookup ("facts" : Str) = some (.ref d2) := by
    rw [look, if_neg (by decide +kernel), if_neg (by decide +kernel), if_pos rfl]
  have nm : NoM fs := by
    refine ⟨?_, ?_, ?_, lfs⟩ <;> rw [look, if_neg (by decide +kernel), if_neg (by decide +kernel), if_neg (by decide +kernel), if_neg (by decide +kernel)]
  have sb0 : SB C H0 H4 sa [] [] := ⟨dx, d1, d2, fs, [], [], hs4, l1, l2, nm, w14 _ _ (by rw [wo_ne n1]; exact h1), w24 _ _ (by rw [wo_ne n2]; exact h2), .nil, .nil, .nil, n12, s4, hs0, h10, h20, fun p hp => by cases hp⟩
  clear look l1 l2 nm hfs hs4 h4 w4 h3 w3 hs3 h2 w2 hs2 h1 w1 hs1 w24 w14
  have runs := runs_all of
  refine sqF ⟨_, rfl, li, rfl, ⟨xs, sqL (s4 _ _ hli)⟩, ?_⟩
  refine for_list (xs := xs) (fun i σ H5 => ∃ o R' F', σ = [some (.ref sa), some (.ref li), o] ∧ SB C H0 H5 sa R' F' ∧ Runs R' F' ((itemsOf R F).drop i) R F) ⟨none, [], [], rfl, sb0, runs⟩ (fun i σ H5 _ h => ?_) (fun i y σ H5 hy h => ?_) fun σ H5 h => ?_
  · obtain ⟨_, R', F', _, sb, _⟩ := h
    obtain ⟨_, _, _, _, _, _, _, _, _, _, _, _, _, _, _, _, s5, _⟩ := sb
    exact sqL (s5 _ _ hli)
  · obtain ⟨o, R', F', rfl, sb, rn⟩ := h
    obtain ⟨it, ei, hi⟩ := Paired.at pi hy
    rw [drop_at ei] at rn
    cases rn with
    | cons okit rest =>
      obtain ⟨dx', d1', d2', fs', kr, kf, hsa', _, _, nm', _⟩ := id sb
      exact ⟨_, rfl, sa, dx', fs', rfl, hsa', nm'.2.1, _, rfl, H0, sa, y, R', F', it, rfl, sb, hi, okit, fun H6 sb6 => ⟨_, _, _, rfl, sb6, rest⟩⟩
  · obtain ⟨o, R', F', rfl, sb, rn⟩ := h
    rw [same_len pi, List.drop_length] at rn
    cases rn
    obtain ⟨dx', d1', d2', fs', kr, kf, hsa', _, _, nm', _⟩ := id sb
    exact ⟨_, rfl, sa, dx', fs', rfl, hsa', nm'.2.2.1, H0, sa, R, F, rfl, sb, of, fun H6 is6 s6 => q H6 is6 s6⟩
end
end Tk

/-! ## TkL1 -/
set_option Elab.async false
set_option linter.all false
set_option maxRecDepth 100000
set_option maxHeartbeats 4000000
namespace Tk
open PySem PySem.Spec PyProof.Rows L2
/-- two things of one shape and the same values, one step down -/
def TreeS (Sub : Hp → V → V → Prop) (H : Hp) (x y : V) : Prop := (x = y ∧ IsVal x) ∨ ∃ a b xs ys, x = .ref a ∧ y = .ref b ∧ ((H a = some (.tup xs) ∧ H b = some (.tup ys)) ∨ (H a = some (.lst xs) ∧ H b = some (.lst ys))) ∧ xs.length ≤ 1000 ∧ Paired (Sub H) xs ys
def spSame (Sub : Hp → V → V → Prop) : Sp := fun vs H Q _ => (∃ v u, vs = [v, u] ∧ IsVal v ∧ IsVal u ∧ Q (.bl (decide (v = u))) H) ∨ ∃ x y, vs = [x, y] ∧ TreeS Sub H x y ∧ Q (.bl true) H
section
variable {P : Program} {w : World} {K : PySem.W.Frag} {mg : Str → Option Value} {base : Heap} {C : Addr}
theorem same_step {k : Nat} {sp : Sp} {Sub : Hp → V → V → Prop} (T : Tx K mg C) (C__law_same : C8.Cal P w K mg base (k + 1) "_law_same" sp []) (sub : ∀ x y H Q E, Sub H x y → Q (.bl true) H → sp [x, y] H Q E) : C8.Cal P w K mg base (k + 2) "_law_same" (spSame Sub) [] := by
  refine cal T.d_law_same (N := ["_law_actual", "_law_expected", "_law_k"]) (by decide +kernel) (fun vs H Q E h => ?_) (fun f cdv A outer s H vs Q E nd hr h => ?_)
  · rcases h with ⟨v, u, rfl, _⟩ | ⟨x, y, rfl, _⟩ <;> rfl
  have h' : (∃ v u, vs = [v, u] ∧ IsVal v ∧ IsVal u ∧ Q (.bl (decide (v = u))) H) ∨ ∃ a b xs ys, vs = [.ref a, .ref b] ∧ ((H a = some (.tup xs) ∧ H b = some (.tup ys)) ∨ (H a = some (.lst xs) ∧ H b = some (.lst ys))) ∧ xs.length ≤ 1000 ∧ Paired (Sub H) xs ys ∧ Q (.bl true) H := by
    rcases h with h | ⟨x, y, e, ⟨rfl, hx⟩ | ⟨a, b, xs, ys, rfl, rfl, hab, hl, pr⟩, q⟩
    · exact .inl h
    · exact .inl ⟨x, x, e, hx, hx, by rw [decide_eq_true rfl]; exact q⟩
    · exact .inr ⟨a, b, xs, ys, e, hab, hl, pr, q⟩
  clear h
  refine ⟨_, (pss_cons (ps_if (pt_cmpR op_isN (pv 1) pe_non (nomark _))
      (pss_one (ps_ret (pe_cmpR op_isN (pv 0) pe_non (nomark _))))
      pss_nil)
    (pss_cons (ps_if (pt_val (pe_callB (isiK K) (by rfl) T.n_isinstance (by decide +kernel) (pa_cons (pv 1) (pa_cons (pe_bltn (v := .ty "bool") (by rfl) T.n_bool (by decide +kernel) rfl) pa_nil))))
      (pss_one (ps_ret (pe_and (pe_callB (isiK K) (by rfl) T.n_isinstance (by decide +kernel) (pa_cons (pv 0) (pa_cons (pe_bltn (v := .ty "bool") (by rfl) T.n_bool (by decide +kernel) rfl) pa_nil))) (pe_one (pe_cmpR op_eq (pv 0) (pv 1) (nomark _))))))
      pss_nil)
    (pss_cons (ps_if (pt_val (pe_callB (isiK K) (by rfl) T.n_isinstance (by decide +kernel) (pa_cons (pv 1) (pa_cons (pe_bltn (v := .ty "int") (by rfl) T.n_int (by decide +kernel) rfl) pa_nil))))
      (pss_one (ps_ret (pe_and (pe_callB (isiK K) (by rfl) T.n_isinstance (by decide +kernel) (pa_cons (pv 0) (pa_cons (pe_bltn (v := .ty "int") (by rfl) T.n_int (by decide +kernel) rfl) pa_nil))) (pe_and (pe_not (pe_callB (isiK K) (by rfl) T.n_isinstance (by decide +kernel) (pa_cons (pv 0) (pa_cons (pe_bltn (v := .ty "bool") (by rfl) T.n_bool (by decide +kernel) rfl) pa_nil)))) (pe_one (pe_cmpR op_eq (pv 0) (pv 1) (nomark _)))))))
      pss_nil)
    (pss_cons (ps_if (pt_val (pe_callB (isiK K) (by rfl) T.n_isinstance (by decide +kernel) (pa_cons (pv 1) (pa_cons (pe_bltn (v := .ty "str") (by rfl) T.n_str (by decide +kernel) rfl) pa_nil))))
      (pss_one (ps_ret (pe_and (pe_callB (isiK K) (by rfl) T.n_isinstance (by decide +kernel) (pa_cons (pv 0) (pa_cons (pe_bltn (v := .ty "str") (by rfl) T.n_str (by decide +kernel) rfl) pa_nil))) (pe_one (pe_cmpR op_eq (pv 0) (pv 1) (nomark _))))))
      pss_nil)
    (pss_cons (ps_if (PW.pt (pw_and (pt_val (pe_callB (isiK K) (by rfl) T.n_isinstance (by decide +kernel) (pa_cons (pv 1) (pa_cons (pe_bltn (v := .ty "tuple") (by rfl) T.n_tuple (by decide +kernel) rfl) pa_nil)))) (pw_and1 (pt_not (pt_val (pe_callB (isiK K) (by rfl) T.n_isinstance (by decide +kernel) (pa_cons (pv 0) (pa_cons (pe_bltn (v := .ty "tuple") (by rfl) T.n_tuple (by decide +kernel) rfl) pa_nil))))))))
      (pss_one (ps_ret pe_bl))
      pss_nil)
    (pss_cons (ps_if (PW.pt (pw_and (pt_val (pe_callB (isiK K) (by rfl) T.n_isinstance (by decide +kernel) (pa_cons (pv 1) (pa_cons (pe_bltn (v := .ty "list") (by rfl) T.n_list (by decide +kernel) rfl) pa_nil)))) (pw_and1 (pt_not (pt_val (pe_callB (isiK K) (by rfl) T.n_isinstance (by decide +kernel) (pa_cons (pv 0) (pa_cons (pe_bltn (v := .ty "list") (by rfl) T.n_list (by decide +kernel) rfl) pa_nil))))))))
      (pss_one (ps_ret pe_bl))
      pss_nil)
    (pss_cons (ps_if (pt_cmpR op_ne (pe_callB (lenK K) (by rfl) T.n_len (by decide +kernel) (pa_cons (pv 0) pa_nil)) (pe_callB (lenK K) (by rfl) T.n_len (by decide +kernel) (pa_cons (pv 1) pa_nil)) (nomark _))
      (pss_one (ps_ret pe_bl))
      pss_nil)
    (pss_cons (ps_for PassesOwn.never rfl (pi_range1 rfl T.n_range (pa_cons (pe_callB (lenK K) (by rfl) T.n_len (by decide +kernel) (pa_cons (pv 1) pa_nil)) pa_nil)) (pg_name (i := 2) nd rfl (Or.inl rfl))
      (pss_one (ps_if (pt_not (pt_val (C8.pe_c C__law_same hr (by omega) rfl (pa_cons (pe_ix (ixS K) (pv 0) (pv 2) (fun _ _ => rfl)) (pa_cons (pe_ix (ixS K) (pv 1) (pv 2) (fun _ _ => rfl)) pa_nil)))))
        (pss_one (ps_ret pe_bl))
        pss_nil)))
    (pss_one (ps_ret pe_bl)))))))))), ?_⟩
  rcases h' with ⟨v, u, rfl, hv, hu, q⟩ | ⟨a, b, xs, ys, rfl, hab, hl, pr, q⟩
  · skip
    refine sqI ⟨_, rfl, rfl, _, rfl, ifNe (by rintro rfl; exact hu.elim) ?_⟩
    rcases isVal_cases hu with ⟨j, rfl⟩ | ⟨z, rfl, _⟩
    · refine sqI ⟨_, rfl, _, _, _, _, _, rfl, .ty _, .base (.int j), kit_ty k_ib, _, rfl, iteF ?_⟩
      refine sqI ⟨_, rfl, _, _, _, _, _, rfl, .ty _, .base (.int j), kit_ty k_ii, _, rfl, iteT ?_⟩
      rcases isVal_cases hv with ⟨i, rfl⟩ | ⟨z, rfl, _⟩
      · exact ⟨_, rfl, _, _, _, _, _, rfl, .ty _, .base (.int i), kit_ty k_ii, _, rfl, iteT ⟨_, rfl, _, _, _, _, _, rfl, .ty _, .base (.int i), kit_ty k_ib, _, rfl, _, rfl, iteT ⟨_, rfl, _, rfl, rfl, q⟩⟩⟩
      · refine ⟨_, rfl, _, _, _, _, _, rfl, .ty _, .base (.str z), kit_ty k_si, _, rfl, iteF ?_⟩
        rw [decide_eq_false (fun e => nomatch e)] at q
        exact q
    · refine sqI ⟨_, rfl, _, _, _, _, _, rfl, .ty _, .base (.str z), kit_ty k_sb, _, rfl, iteF ?_⟩
      refine sqI ⟨_, rfl, _, _, _, _, _, rfl, .ty _, .base (.str z), kit_ty k_si, _, rfl, iteF ?_⟩
      refine sqI ⟨_, rfl, _, _, _, _, _, rfl, .ty _, .base (.str z), kit_ty k_ss, _, rfl, iteT ?_⟩
      rcases isVal_cases hv with ⟨i, rfl⟩ | ⟨z', rfl, _⟩
      · refine ⟨_, rfl, _, _, _, _, _, rfl, .ty _, .base (.int i), kit_ty k_is', _, rfl, iteF ?_⟩
        rw [decide_eq_false (fun e => nomatch e)] at q
        exact q
      · exact ⟨_, rfl, _, _, _, _, _, rfl, .ty _, .base (.str z'), kit_ty k_ss, _, rfl, iteT ⟨_, rfl, _, rfl, rfl, q⟩⟩
  have ll := same_len pr
  refine sqI ⟨_, rfl, rfl, _, rfl, ifNe (fun z => nomatch z) ?_⟩
  rcases hab with ⟨ha, hb⟩ | ⟨ha, hb⟩
  · refine sqI ⟨_, rfl, _, _, _, _, _, rfl, .ty _, .base (.tup hb), kit_ty k_tb, _, rfl, iteF ?_⟩
    refine sqI ⟨_, rfl, _, _, _, _, _, rfl, .ty _, .base (.tup hb), kit_ty k_ti, _, rfl, iteF ?_⟩
    refine sqI ⟨_, rfl, _, _, _, _, _, rfl, .ty _, .base (.tup hb), kit_ty k_ts, _, rfl, iteF ?_⟩
    refine sqI ⟨_, rfl, _, _, _, _, _, rfl, .ty _, .base (.tup hb), kit_ty k_tt, _, rfl, iteT ⟨_, rfl, _, _, _, _, _, rfl, .ty _, .base (.tup ha), kit_ty k_tt, _, rfl, iteF ?_⟩⟩
    refine sqI ⟨_, rfl, _, _, _, _, _, rfl, .ty _, .base (.tup hb), kit_ty k_tl, _, rfl, iteF (iteF ?_)⟩
    refine sqI ⟨_, rfl, _, _, rfl, .inr (sqT ha), _, rfl, _, _, rfl, .inr (sqT hb), rfl, _, rfl, ifNEq (by rw [ll]) ?_⟩
    refine sqF ⟨_, rfl, _, _, rfl, .inr (sqT hb), (ys.length : Int), rfl, by omega, by omega, ?_⟩
    refine for_range (fun i σ H1 => ∃ o, σ = [some (.ref a), some (.ref b), o] ∧ H1 = H) ⟨none, rfl, rfl⟩ (fun i σ H1 hi h => ?_) fun σ H1 h => ?_
    · obtain ⟨o, rfl, rfl⟩ := h
      have hi' : i < ys.length := by omega
      have hi2 : i < xs.length := by omega
      have ey : ys[i]? = some ys[i] := List.getElem?_eq_getElem hi'
      obtain ⟨x, ex, hs⟩ := Paired.atR pr ey
      have e0 : (0 : Int) + (i : Int) = (i : Int) := Int.zero_add _
      refine ⟨_, rfl, _, rfl, .inr (.inl ⟨a, xs, _, x, rfl, rfl, sqT ha, by rw [e0]; exact atI_nat ex, _, rfl, _, rfl, .inr (.inl ⟨b, ys, _, ys[i], rfl, rfl, sqT hb, by rw [e0]; exact atI_nat ey, ?_⟩)⟩)⟩
      exact sub _ _ _ _ _ hs ⟨_, rfl, iteF ⟨_, rfl, rfl⟩⟩
    · obtain ⟨o, rfl, rfl⟩ := h
      exact q
  · refine sqI ⟨_, rfl, _, _, _, _, _, rfl, .ty _, .base (.lst hb), kit_ty k_lb, _, rfl, iteF ?_⟩
    refine sqI ⟨_, rfl, _, _, _, _, _, rfl, .ty _, .base (.lst hb), kit_ty k_li, _, rfl, iteF ?_⟩
    refine sqI ⟨_, rfl, _, _, _, _, _, rfl, .ty _, .base (.lst hb), kit_ty k_ls, _, rfl, iteF ?_⟩
    refine sqI ⟨_, rfl, _, _, _, _, _, rfl, .ty _, .base (.lst hb), kit_ty k_lt, _, rfl, iteF (iteF ?_)⟩
    refine sqI ⟨_, rfl, _, _, _, _, _, rfl, .ty _, .base (.lst hb), kit_ty k_ll, _, rfl, iteT ⟨_, rfl, _, _, _, _, _, rfl, .ty _, .base (.lst ha), kit_ty k_ll, _, rfl, iteF ?_⟩⟩
    refine sqI ⟨_, rfl, _, _, rfl, .inl (sqL ha), _, rfl, _, _, rfl, .inl (sqL hb), rfl, _, rfl, ifNEq (by rw [ll]) ?_⟩
    refine sqF ⟨_, rfl, _, _, rfl, .inl (sqL hb), (ys.length : Int), rfl, by omega, by omega, ?_⟩
    refine for_range (fun i σ H1 => ∃ o, σ = [some (.ref a), some (.ref b), o] ∧ H1 = H) ⟨none, rfl, rfl⟩ (fun i σ H1 hi h => ?_) fun σ H1 h => ?_
    · obtain ⟨o, rfl, rfl⟩ := h
      have hi' : i < ys.length := by omega
      have ey : ys[i]? = some ys[i] := List.getElem?_eq_getElem hi'
      obtain ⟨x, ex, hs⟩ := Paired.atR pr ey
      have e0 : (0 : Int) + (i : Int) = (i : Int) := Int.zero_add _
      refine ⟨_, rfl, _, rfl, .inl ⟨a, xs, _, x, rfl, rfl, sqL ha, by rw [e0]; exact atI_nat ex, _, rfl, _, rfl, .inl ⟨b, ys, _, ys[i], rfl, rfl, sqL hb, by rw [e0]; exact atI_nat ey, ?_⟩⟩⟩
      exact sub _ _ _ _ _ hs ⟨_, rfl, iteF ⟨_, rfl, rfl⟩⟩
    · obtain ⟨o, rfl, rfl⟩ := h
      exact q
end
end Tk

/-! ## TkL2 -/
set_option Elab.async false
set_option linter.all false
set_option maxRecDepth 100000
set_option maxHeartbeats 4000000
namespace Tk
open PySem PySem.Spec PyProof.Rows L2
section
variable {P : Program} {w : World} {K : PySem.W.Frag} {mg : Str → Option Value} {base : Heap} {C : Addr}
theorem c_law_order (T : Tx K mg C) : C8.Cal P w K mg base 1 "_law_order" spVK [] := by
  refine cal T.d_law_order (N := ["_law_value_here"]) (by decide +kernel) (fun vs H Q E h => ?_) (fun f cdv A outer s H vs Q E nd hr h => ?_)
  · obtain ⟨v, rfl, _⟩ := h
    rfl
  obtain ⟨v, rfl, hv, q⟩ := h
  refine ⟨_, (pss_cons (ps_if (pt_val (pe_callB (isiK K) (by rfl) T.n_isinstance (by decide +kernel) (pa_cons (pv 0) (pa_cons (pe_bltn (v := .ty "int") (by rfl) T.n_int (by decide +kernel) rfl) pa_nil))))
      (pss_one (ps_ret (pe_tup (pa_cons pe_int (pa_cons (pv 0) pa_nil)))))
      pss_nil)
    (pss_one (ps_ret (pe_tup (pa_cons pe_int (pa_cons (pv 0) pa_nil)))))), ?_⟩
  rcases isVal_cases hv with ⟨i, rfl⟩ | ⟨z, rfl, _⟩
  · exact ⟨_, rfl, _, _, _, _, _, rfl, .ty _, .base (.int i), kit_ty k_ii, _, rfl, iteT ⟨_, rfl, z2, fun p hp => q p _ (Same.new hp) hp upd_same⟩⟩
  · exact ⟨_, rfl, _, _, _, _, _, rfl, .ty _, .base (.str z), kit_ty k_si, _, rfl, iteF ⟨_, rfl, z2, fun p hp => q p _ (Same.new hp) hp upd_same⟩⟩
def spRO : Sp := fun vs H Q _ => ∃ x r, vs = [x] ∧ IsRow H x r ∧ RVal r ∧ r.length ≤ 1000 ∧ ∀ v H', Same H H' → IsRowL H' v r → Q v H'
theorem c_law_row_order (T : Tx K mg C) (C__law_order : C8.Cal P w K mg base 1 "_law_order" spVK []) : C8.Cal P w K mg base 2 "_law_row_order" spRO [] := by
  refine cal T.d_law_row_order (N := ["_law_row", "_law_value_here"]) (by decide +kernel) (fun vs H Q E h => ?_) (fun f cdv A outer s H vs Q E nd hr h => ?_)
  · obtain ⟨x, r, rfl, _⟩ := h
    rfl
  obtain ⟨x, r, rfl, ⟨a, rfl, ha⟩, hv, hl, q⟩ := h
  refine ⟨_, (pss_one (ps_ret (pe_lc (own := [("_law_value_here", 1)]) rfl nd (piT K (pv 0)) (blkOk_by (own := [("_law_value_here", 1)]) (N := ["_law_row", "_law_value_here"]) (sc := (C8.fnScope s_law_row_order)) (by decide +kernel)) (fun _ _ _ _ _ => (pg_name (i := 1) nd rfl (Or.inl rfl))) (fun _ _ _ _ _ => pts_nil) (fun _ _ _ _ _ => (C8.pe_c C__law_order hr (by decide) rfl (pa_cons (pv 1) pa_nil)))))), ?_⟩
  refine ⟨_, rfl, _, rfl, ⟨r, sqT ha⟩, fun D hD => ?_⟩
  refine lc_tup (xs := r) (fun i H1 => Same H H1 ∧ ∃ acc, H1 D = some (.lst acc) ∧ Paired (IsPair H1) acc (r.take i)) ⟨Same.new hD, [], upd_same, .nil⟩ (fun i H1 _ h => sqT (h.1 _ _ ha)) (fun i v H1 hx h => ?_) fun H1 h => ?_
  · obtain ⟨s1, acc, h1, pa⟩ := h
    refine ⟨rfl, tyes (iteT ⟨_, rfl, v, rfl, hv v (List.mem_of_getElem? hx), fun p H2 s2 hp h2 => ?_⟩)⟩
    have lacc := same_len pa
    have lt : (r.take i).length ≤ r.length := List.length_take_le' _ _
    have hD2 := s2 _ _ h1
    have tS := tupS_lst (ys := acc ++ [.ref p]) hD2
    refine ⟨acc, hD2, sz_ok' (by omega), (s1.trans s2).mut hD, _, upd_same, ?_⟩
    rw [take_snoc hx]
    refine Paired.app (Paired.mapP pa fun _ _ z => ?_) (.cons ⟨p, rfl, tS _ _ h2⟩ .nil)
    obtain ⟨c, ec, hc⟩ := z
    exact ⟨c, ec, tS _ _ (s2 _ _ hc)⟩
  · obtain ⟨s1, acc, h1, pa⟩ := h
    rw [List.take_length] at pa
    exact q _ _ s1 ⟨D, acc, rfl, h1, pa⟩
def spSorted : Sp := fun vs H Q _ => ∃ l xs rows, vs = [.ref l] ∧ H l = some (.lst xs) ∧ Paired (IsRow H) xs rows ∧ (∀ r ∈ rows, RVal r ∧ r.length ≤ 1000) ∧ rows.length ≤ 2000 ∧ ∀ p H', Same H H' → H p = none → IsRows H' (.ref p) (sortM rows) → Q (.ref p) H'
theorem c_law_sorted (T : Tx K mg C) (C__law_row_order : C8.Cal P w K mg base 2 "_law_row_order" spRO []) : C8.Cal P w K mg base 3 "_law_sorted" spSorted [] := by
  refine cal T.d_law_sorted (N := ["_law_rows", "_law_found", "_law_row", "_law_at"]) (by decide +kernel) (fun vs H Q E h => ?_) (fun f cdv A outer s H vs Q E nd hr h => ?_)
  · obtain ⟨l, xs, rows, rfl, _⟩ := h
    rfl
  obtain ⟨l, xs, rows, rfl, hl, px, hv, hlen, q⟩ := h
  refine ⟨_, (pss_cons (ps_set (i := 1) nd rfl (Or.inl rfl) (pe_lst pa_nil))
    (pss_cons (ps_for PassesOwn.never rfl (piL K (pv 0)) (pg_name (i := 2) nd rfl (Or.inl rfl))
      (pss_cons (ps_set (i := 3) nd rfl (Or.inl rfl) pe_int)
      (C8.pss_cut (ps_while PassesOwn.never (PW.pt (pw_and (pt_cmpR op_lt (pv 3) (pe_callB (lenK K) (by rfl) T.n_len (by decide +kernel) (pa_cons (pv 1) pa_nil)) (nomark _)) (pw_and1 (pt_cmpR (op_ltRowL (hu64 hr)) (C8.pe_c C__law_row_order hr (by decide) rfl (pa_cons (pe_ix (ixL K) (pv 1) (pv 3) (fun _ _ => rfl)) pa_nil)) (C8.pe_c C__law_row_order hr (by decide) rfl (pa_cons (pv 2) pa_nil)) (nomark _)))))
        (pss_one (ps_aug (i := 3) nd rfl (.inl rfl) pe_int ip_add)))
      (pss_one (ps_if (PW.pt (pw_or (pt_cmpR op_eq (pv 3) (pe_callB (lenK K) (by rfl) T.n_len (by decide +kernel) (pa_cons (pv 1) pa_nil)) (nomark _)) (pw_or1 (pt_cmpR (op_neRowL (hu64 hr)) (C8.pe_c C__law_row_order hr (by decide) rfl (pa_cons (pe_ix (ixL K) (pv 1) (pv 3) (fun _ _ => rfl)) pa_nil)) (C8.pe_c C__law_row_order hr (by decide) rfl (pa_cons (pv 2) pa_nil)) (nomark _)))))
        (pss_one (ps_expr (pe_bm PySem.F.plainAttrs_list PySem.F.slot_list_insert PySem.F.type_list_insert mt_insert (pv 1) (pa_cons (pv 3) (pa_cons (pv 2) pa_nil)))))
        pss_nil)))))
    (pss_one (ps_ret (pv 1))))), ?_⟩
  have lx := same_len px
  refine sqS ⟨z0, fun p hp => ?_⟩
  have s0 : Same H (upd H p (.lst [])) := Same.new hp
  have nlp : l ≠ p := ne_of_none hl hp
  refine sqF ⟨_, rfl, l, rfl, ⟨xs, sqL (s0 _ _ hl)⟩, ?_⟩
  refine for_list (xs := xs) (fun i σ H1 => ∃ o o', σ = [some (.ref l), some (.ref p), o, o'] ∧ Same H H1 ∧ ∃ acc, H1 p = some (.lst acc) ∧ Paired (IsRow H1) acc (sortM (rows.take i))) ⟨none, none, rfl, s0, [], upd_same, .nil⟩ (fun i σ H1 _ h => ?_) (fun i y σ H1 hy h => ?_) fun σ H1 h => ?_
  · obtain ⟨_, _, _, s1, _⟩ := h
    exact sqL (s1 _ _ hl)
  · obtain ⟨o, o', rfl, s1, acc, h1, pa⟩ := h
    obtain ⟨r, er, hr0⟩ := Paired.at px hy
    have hrr := hr0.mono s1.tup
    obtain ⟨rv, rl⟩ := hv r (List.mem_of_getElem? er)
    have tl : (rows.take i).length ≤ rows.length := List.length_take_le' _ _
    have hvt : ∀ r ∈ rows.take i, RVal r := fun r hr => (hv r (List.mem_of_mem_take hr)).1
    have sv : ∀ r ∈ sortM (rows.take i), RVal r ∧ r.length ≤ 1000 := fun r hr => hv r (List.mem_of_mem_take ((mem_sortM hvt r).mp hr))
    have sl := sortM_len (rows.take i)
    have es : sortM (rows.take (i + 1)) = insM r (sortM (rows.take i)) := by rw [take_snoc er, sortM_snoc]
    rw [es]
    generalize sortM (rows.take i) = ys at pa sv sl
    have la := same_len pa
    refine sqS ?_
    -- the place
    refine ⟨fun σ2 H2 => ∃ j : Nat, σ2 = [some (.ref l), some (.ref p), some y, some (.int (j : Int))] ∧ Same H1 H2 ∧ j ≤ ys.length ∧ (∀ z ∈ ys.take j, ltRow z r = true) ∧ ∀ z, ys[j]? = some z → ltRow z r = false, ?_, fun σ2 H2 h => ?_⟩
    · refine ⟨fun m σ2 H2 => ∃ j : Nat, m = ys.length - j ∧ σ2 = [some (.ref l), some (.ref p), some y, some (.int (j : Int))] ∧ Same H1 H2 ∧ j ≤ ys.length ∧ ∀ z ∈ ys.take j, ltRow z r = true, ⟨_, 0, rfl, rfl, Same.refl _, Nat.zero_le _, by simp⟩, ?_⟩
      rintro m σ2 H2 ⟨j, rfl, rfl, s2, hj, hlt⟩
      have h2 := s2 _ _ h1
      refine ⟨_, rfl, _, rfl, _, _, rfl, .inl (sqL h2), _, _, rfl, rfl, _, rfl, ?_⟩
      by_cases c : j < ys.length
      · rw [decide_eq_true (show ((j : Nat) : Int) < ((acc.length : Nat) : Int) by omega)]
        refine iteT ?_
        have ey : ys[j]? = some ys[j] := List.getElem?_eq_getElem c
        obtain ⟨x1, ex1, hx1⟩ := Paired.atR pa ey
        obtain ⟨v1, l1⟩ := sv _ (List.mem_of_getElem? ey)
        refine ⟨_, rfl, _, rfl, p, acc, _, x1, rfl, rfl, sqL h2, atI_nat ex1, x1, ys[j], rfl, hx1.mono s2.tup, v1, l1, fun u1 H3 s3 i1 => ?_⟩
        refine ⟨_, rfl, y, r, rfl, hrr.mono (s2.trans s3).tup, rv, rl, fun u2 H4 s4 i2 => ?_⟩
        have i1' : IsRowL H4 u1 ys[j] := by
          obtain ⟨a1, z1, e1, e2, e3⟩ := i1
          refine ⟨a1, z1, e1, s4 _ _ e2, Paired.mapP e3 fun _ _ z => ?_⟩
          obtain ⟨c, ec, hc⟩ := z
          exact ⟨c, ec, s4 _ _ hc⟩
        refine ⟨_, _, i1', i2, v1, rv, _, rfl, ?_⟩
        have s24 := (s2.trans s3).trans s4
        cases b : ltRow ys[j] r with
        | true =>
          refine iteT ⟨fun σ5 H5 => ∃ j' : Nat, j' = j + 1 ∧ σ5 = [some (.ref l), some (.ref p), some y, some (.int (j' : Int))] ∧ Same H1 H5 ∧ j' ≤ ys.length ∧ ∀ z ∈ ys.take j', ltRow z r = true, fun σ5 H5 h5 => ?_, ?_⟩
          · obtain ⟨j', rfl, e5, s5, h5, h6⟩ := h5
            exact ⟨ys.length - (j + 1), by omega, j + 1, rfl, e5, s5, h5, h6⟩
          · refine ⟨_, rfl, _, _, rfl, rfl, j + 1, rfl, rfl, s24, c, fun z hz => ?_⟩
            rw [take_snoc ey] at hz
            rcases List.mem_append.mp hz with hz | hz
            · exact hlt z hz
            · rw [List.mem_singleton.mp hz]
              exact b
        | false =>
          refine iteF ⟨j, rfl, s24, hj, hlt, fun z hz => ?_⟩
          rw [ey] at hz
          rw [← Option.some.inj hz]
          exact b
      · rw [decide_eq_false (show ¬ ((j : Nat) : Int) < ((acc.length : Nat) : Int) by omega)]
        refine iteF (iteF ⟨j, rfl, s2, hj, hlt, fun z hz => ?_⟩)
        have := getElem?_range hz
        omega
    obtain ⟨j, rfl, s2, hj, hlt, hge⟩ := h
    have h2 := s2 _ _ h1
    have ins : ∀ H3, Same H1 H3 → insM r ys = ys.take j ++ [r] ++ ys.drop j → Paired (IsRow (upd H3 p (.lst (acc.take j ++ [y] ++ acc.drop j)))) (acc.take j ++ [y] ++ acc.drop j) (insM r ys) := fun H3 s3 ei => by
      have h3 := s3 _ _ h1
      have tS := s3.tup.trans (tupS_lst (ys := acc.take j ++ [y] ++ acc.drop j) h3)
      rw [ei]
      have pa' := Paired.mapP pa fun _ _ z => IsRow.mono tS z
      exact Paired.app (Paired.app (Paired.tk pa' j) (.cons (hrr.mono tS) .nil)) (Paired.dp pa' j)
    have e63 : ((j : Nat) : Int) < 2 ^ 63 := by omega
    refine ⟨_, rfl, _, rfl, _, _, rfl, .inl (sqL h2), rfl, _, rfl, ?_⟩
    by_cases c : j < ys.length
    · rw [decide_eq_false (fun z => by injection z with z; omega)]
      refine iteF ?_
      have ey : ys[j]? = some ys[j] := List.getElem?_eq_getElem c
      obtain ⟨x1, ex1, hx1⟩ := Paired.atR pa ey
      obtain ⟨v1, l1⟩ := sv _ (List.mem_of_getElem? ey)
      refine ⟨_, rfl, _, rfl, p, acc, _, x1, rfl, rfl, sqL h2, atI_nat ex1, x1, ys[j], rfl, hx1.mono s2.tup, v1, l1, fun u1 H3 s3 i1 => ?_⟩
      refine ⟨_, rfl, y, r, rfl, hrr.mono (s2.trans s3).tup, rv, rl, fun u2 H4 s4 i2 => ?_⟩
      have i1' : IsRowL H4 u1 ys[j] := by
        obtain ⟨a1, z1, e1, e2, e3⟩ := i1
        refine ⟨a1, z1, e1, s4 _ _ e2, Paired.mapP e3 fun _ _ z => ?_⟩
        obtain ⟨c, ec, hc⟩ := z
        exact ⟨c, ec, s4 _ _ hc⟩
      refine ⟨_, _, i1', i2, v1, rv, _, rfl, ?_⟩
      have s24 := (s2.trans s3).trans s4
      have h4 := s24 _ _ h1
      have ih := insM_here hlt ey (hge _ ey)
      by_cases e : ys[j] = r
      · rw [if_pos e] at ih
        refine ifNEq e ⟨_, _, rfl, s1.trans s24, acc, h4, ?_⟩
        rw [ih]
        exact Paired.mapP pa fun _ _ z => IsRow.mono s24.tup z
      · rw [if_neg e] at ih
        refine ifNNe e ⟨_, rfl, .inl ⟨rfl, _, sqL h4⟩, _, rfl, _, rfl, p, acc, (j : Int), y, rfl, rfl, h4, sz_ok' (by omega), by omega, e63, ?_⟩
        exact ⟨_, _, rfl, (s1.trans s24).mut hp, _, upd_same, ins H4 s24 ih⟩
    · have ej : j = ys.length := by omega
      rw [decide_eq_true (show V.int (j : Int) = V.int (acc.length : Int) by rw [la, ej])]
      refine iteT ⟨_, rfl, .inl ⟨rfl, _, sqL h2⟩, _, rfl, _, rfl, p, acc, (j : Int), y, rfl, rfl, h2, sz_ok' (by omega), by omega, e63, ?_⟩
      have ih : insM r ys = ys.take j ++ [r] ++ ys.drop j := by
        rw [ej, List.take_length, List.drop_length, List.append_nil]
        refine insM_end fun z hz => hlt z ?_
        rw [ej, List.take_length]
        exact hz
      exact ⟨_, _, rfl, (s1.trans s2).mut hp, _, upd_same, ins H2 s2 ih⟩
  · obtain ⟨o, o', rfl, s1, acc, h1, pa⟩ := h
    rw [lx, List.take_length] at pa
    exact ⟨_, rfl, q p H1 s1 hp ⟨p, acc, rfl, h1, pa⟩⟩
end
end Tk

/-! ## TkL3 -/
set_option Elab.async false
set_option linter.all false
set_option maxRecDepth 100000
set_option maxHeartbeats 4000000
namespace Tk
open PySem PySem.Spec PyProof.Rows L2
def bestAt (bt : V → V → Bool) (vals : List V) (i : Nat) : List V := match vals with
  | [] => []
  | v0 :: rest => [((v0 :: rest).take i).foldl (fun acc x => if bt x acc then x else acc) v0]
section
variable {P : Program} {w : World} {K : PySem.W.Frag} {mg : Str → Option Value} {base : Heap} {C : Addr}
theorem c_law_worth (T : Tx K mg C) : C8.Cal P w K mg base 1 "_law_worth" spVO [] := by
  refine cal T.d_law_worth (N := ["_law_term_here", "_law_way"]) (by decide +kernel) (fun vs H Q E h => ?_) (fun f cdv A outer s H vs Q E nd hr h => ?_)
  · obtain ⟨x, y, t, wy, rfl, _⟩ := h
    rfl
  obtain ⟨x, y, t, wy, rfl, ht, hw, ok, q⟩ := h
  refine ⟨_, (pss_cons (ps_if (pt_cmpR op_eq (pe_ix (ixT K) (pv 0) pe_int (fun _ _ => rfl)) pe_str (nomark _))
      (pss_one (ps_ret (pe_ix (ixT K) (pv 0) pe_int (fun _ _ => rfl))))
      pss_nil)
    (pss_one (ps_ret (pe_dget (hu_of hr) (pv 1) (pe_ix (ixT K) (pv 0) pe_int (fun _ _ => rfl)) (fun _ _ => rfl))))), ?_⟩
  refine s_tmS rfl ht (fun e => ?_) fun e => ?_
  · obtain ⟨v, rfl⟩ := tw_val e
    obtain ⟨a, rfl, ha⟩ := ht
    exact ⟨_, rfl, _, _, _, _, rfl, rfl, sqT ha, rfl, q⟩
  · obtain ⟨a, rfl, ha⟩ := ht
    obtain ⟨d, rfl, hd⟩ := hw
    cases t with
    | val v => exact absurd rfl e
    | any => exact ok.elim
    | var n =>
      obtain ⟨u, hu⟩ := Option.isSome_iff_exists.mp ok
      refine ⟨_, rfl, _, rfl, _, _, _, _, rfl, rfl, sqT ha, rfl, d, u, rfl, dgetS hd hu, ?_⟩
      have e : worth (.var n) wy = u := by
        show (valV wy (.inr n)).getD .non = u
        rw [hu]
        rfl
      rw [← e]
      exact q
theorem c_law_compared (T : Tx K mg C) (C__law_order : C8.Cal P w K mg base 1 "_law_order" spVK []) : C8.Cal P w K mg base 2 "_law_compared" spCmp [] := by
  refine cal T.d_law_compared (N := ["_law_operator", "_law_first", "_law_second", "_law_left", "_law_right", "_law_tests"]) (by decide +kernel) (fun vs H Q E h => ?_) (fun f cdv A outer s H vs Q E nd hr h => ?_)
  · obtain ⟨op, v, u, rfl, _⟩ := h
    rfl
  obtain ⟨op, v, u, rfl, ho, hv, hu, q⟩ := h
  refine ⟨_, (pss_cons (ps_par (i := 3) (j := 4) rfl nd rfl rfl (by decide) rfl rfl (pa_cons (C8.pe_c C__law_order hr (by decide) rfl (pa_cons (pv 1) pa_nil)) (pa_cons (C8.pe_c C__law_order hr (by decide) rfl (pa_cons (pv 2) pa_nil)) pa_nil)) (by rfl))
    (pss_cons (ps_set (i := 5) nd rfl (Or.inl rfl) (pe_disp (pps_cons pe_str (pe_cmpR (op_eqPair (hu64 hr)) (pv 3) (pv 4) (nomark _)) (pps_cons pe_str (pe_cmpR (op_nePair (hu64 hr)) (pv 3) (pv 4) (nomark _)) (pps_cons pe_str (pe_cmpR (op_pair (op := .Lt) rfl (hu64 hr)) (pv 3) (pv 4) (nomark _)) (pps_cons pe_str (pe_cmpR (op_pair (op := .LtE) rfl (hu64 hr)) (pv 3) (pv 4) (nomark _)) pps_nil)))) (by rfl) (by rfl) (fun z => by cases z) (by decide)))
    (pss_cons (ps_dput (hu_of hr) (pv 5) pe_str (pe_cmpR (op_pair (op := .Lt) rfl (hu64 hr)) (pv 4) (pv 3) (nomark _)) rfl)
    (pss_cons (ps_dput (hu_of hr) (pv 5) pe_str (pe_cmpR (op_pair (op := .LtE) rfl (hu64 hr)) (pv 4) (pv 3) (nomark _)) rfl)
    (pss_one (ps_ret (pe_dget (hu_of hr) (pv 5) (pv 0) (fun _ _ => rfl)))))))), ?_⟩
  refine sq ⟨_, rfl, v, rfl, hv, fun p1 H1 s1 hp1 h1 => ⟨_, rfl, u, rfl, hu, fun p2 H2 s2 hp2 h2 => ⟨_, _, rfl, ?_⟩⟩⟩
  have s12 := s1.trans s2
  have h1 := s2 _ _ h1
  dsimp only
  refine sqS ?_
  refine fun p hp => ?_
  have s3 : Same H2 (upd H2 p (.dK [])) := Same.new hp
  have g1 := s3 _ _ h1
  have g2 := s3 _ _ h2
  refine ⟨_, rfl, _, rfl, v, u, ⟨p1, rfl, g1⟩, ⟨p2, rfl, g2⟩, hv, hu, ?_⟩
  refine ⟨_, rfl, _, rfl, v, u, ⟨p1, rfl, g1⟩, ⟨p2, rfl, g2⟩, hv, hu, ?_⟩
  refine ⟨_, rfl, _, rfl, p1, p2, v, u, rfl, rfl, g1, g2, hv, hu, ?_⟩
  refine ⟨_, rfl, _, rfl, p1, p2, v, u, rfl, rfl, g1, g2, hv, hu, ?_⟩
  refine ⟨upd_same, [(.inr "=", .bl (decide (v = u))), (.inr "<>", .bl (!decide (v = u))), (.inr "<", .bl (ltV v u)), (.inr "<=", .bl (!ltV u v))], rfl, (by show 4 ≤ 15; decide), ?_⟩
  rw [upd_upd]
  have s4 : ∀ k, Same H2 (upd H2 p (.dK k)) := fun k => Same.new hp
  refine sq ⟨_, rfl, _, rfl, p2, p1, u, v, rfl, rfl, s4 _ _ _ h2, s4 _ _ _ h1, hu, hv, _, rfl, p, _, rfl, DPut.k (k := .inr ">") upd_same (sz_ok' ?_), ?_⟩
  · exact (by decide : 4 < 100000)
  rw [upd_upd]
  dsimp only
  refine sq ⟨_, rfl, _, rfl, p2, p1, u, v, rfl, rfl, s4 _ _ _ h2, s4 _ _ _ h1, hu, hv, _, rfl, p, _, rfl, DPut.k (k := .inr ">=") upd_same (sz_ok' ?_), ?_⟩
  · have a := length_putK (mergeK [] [((.inr "=" : Key), V.bl (decide (v = u))), (.inr "<>", .bl (!decide (v = u))), (.inr "<", .bl (ltV v u)), (.inr "<=", .bl (!ltV u v))]) (.inr ">") (V.bl (ltV u v))
    have b : (mergeK [] [((.inr "=" : Key), V.bl (decide (v = u))), (.inr "<>", .bl (!decide (v = u))), (.inr "<", .bl (ltV v u)), (.inr "<=", .bl (!ltV u v))]).length = 4 := rfl
    exact Nat.lt_of_le_of_lt a (by rw [b]; decide)
  rw [upd_upd]
  dsimp only
  refine ⟨_, rfl, _, rfl, p, .bl (cmpM op v u), rfl, dgetS upd_same ?_, q _ (s12.trans (s4 _))⟩
  have m : mergeK [] [((.inr "=" : Key), V.bl (decide (v = u))), (.inr "<>", .bl (!decide (v = u))), (.inr "<", .bl (ltV v u)), (.inr "<=", .bl (!ltV u v))] = putK (putK (putK (putK [] (.inr "=") (.bl (decide (v = u)))) (.inr "<>") (.bl (!decide (v = u)))) (.inr "<") (.bl (ltV v u))) (.inr "<=") (.bl (!ltV u v)) := rfl
  rw [m, valV_put, valV_put, valV_put, valV_put, valV_put, valV_put]
  rcases ho with rfl | rfl | rfl | rfl | rfl | rfl
  · rw [if_neg (by decide +kernel), if_neg (by decide +kernel), if_neg (by decide +kernel), if_neg (by decide +kernel), if_neg (by decide +kernel), if_pos rfl]
    rfl
  · rw [if_neg (by decide +kernel), if_neg (by decide +kernel), if_neg (by decide +kernel), if_neg (by decide +kernel), if_pos rfl]
    unfold cmpM
    rw [if_neg (by decide +kernel), if_pos rfl]
  · rw [if_neg (by decide +kernel), if_neg (by decide +kernel), if_neg (by decide +kernel), if_pos rfl]
    unfold cmpM
    rw [if_neg (by decide +kernel), if_neg (by decide +kernel), if_pos rfl]
  · rw [if_neg (by decide +kernel), if_neg (by decide +kernel), if_pos rfl]
    unfold cmpM
    rw [if_neg (by decide +kernel), if_neg (by decide +kernel), if_neg (by decide +kernel), if_pos rfl]
  · rw [if_neg (by decide +kernel), if_pos rfl]
    unfold cmpM
    rw [if_neg (by decide +kernel), if_neg (by decide +kernel), if_neg (by decide +kernel), if_neg (by decide +kernel), if_pos rfl]
    rfl
  · rw [if_pos rfl]
    unfold cmpM
    rw [if_neg (by decide +kernel), if_neg (by decide +kernel), if_neg (by decide +kernel), if_neg (by decide +kernel), if_neg (by decide +kernel)]
    rfl
theorem c_law_meeting (T : Tx K mg C) (C__law_same : C8.Cal P w K mg base 2 "_law_same" (spSame fun _ _ _ => False) []) : C8.Cal P w K mg base 3 "_law_meeting" spMet [] := by
  refine cal T.d_law_meeting (N := ["_law_terms", "_law_row", "_law_way", "_law_found", "_law_k"]) (by decide +kernel) (fun vs H Q E h => ?_) (fun f cdv A outer s H vs Q E nd hr h => ?_)
  · obtain ⟨x, a, r, y, ts, wy, rfl, _⟩ := h
    rfl
  obtain ⟨x, a, r, y, ts, wy, rfl, ht, hr', hw, hlen, okt, okr, okw, hz, q⟩ := h
  refine ⟨_, (pss_cons (ps_set (i := 3) nd rfl (Or.inl rfl) (pe_callTy call_dictD (by rfl) T.n_dict (by decide +kernel) (pa_cons (pv 2) pa_nil)))
    (pss_cons (ps_for PassesOwn.never rfl (pi_range1 rfl T.n_range (pa_cons (pe_callB (lenK K) (by rfl) T.n_len (by decide +kernel) (pa_cons (pv 0) pa_nil)) pa_nil)) (pg_name (i := 4) nd rfl (Or.inl rfl))
      (pss_cons (ps_if (PW.pt (pw_and (pt_cmpR op_eq (pe_ix (ixT K) (pe_ix (ixT K) (pv 0) (pv 4) (fun _ _ => rfl)) pe_int (fun _ _ => rfl)) pe_str (nomark _)) (pw_and1 (pt_not (pt_val (C8.pe_c C__law_same hr (by decide) rfl (pa_cons (pe_ix (ixT K) (pe_ix (ixT K) (pv 0) (pv 4) (fun _ _ => rfl)) pe_int (fun _ _ => rfl)) (pa_cons (pe_ix (ixT K) (pv 1) (pv 4) (fun _ _ => rfl)) pa_nil))))))))
        (pss_one (ps_ret pe_non))
        pss_nil)
      (pss_one (ps_if (PW.pt (pw_and (pt_cmpR op_eq (pe_ix (ixT K) (pe_ix (ixT K) (pv 0) (pv 4) (fun _ _ => rfl)) pe_int (fun _ _ => rfl)) pe_str (nomark _)) (pw_and1 (pt_cmp (pc_din (hu_of hr) (pe_ix (ixT K) (pe_ix (ixT K) (pv 0) (pv 4) (fun _ _ => rfl)) pe_int (fun _ _ => rfl)) (pv 3))))))
        (pss_one (ps_if (pt_not (pt_val (C8.pe_c C__law_same hr (by decide) rfl (pa_cons (pe_dget (hu_of hr) (pv 3) (pe_ix (ixT K) (pe_ix (ixT K) (pv 0) (pv 4) (fun _ _ => rfl)) pe_int (fun _ _ => rfl)) (fun _ _ => rfl)) (pa_cons (pe_ix (ixT K) (pv 1) (pv 4) (fun _ _ => rfl)) pa_nil)))))
          (pss_one (ps_ret pe_non))
          pss_nil))
        (pss_one (ps_if (pt_cmpR op_eq (pe_ix (ixT K) (pe_ix (ixT K) (pv 0) (pv 4) (fun _ _ => rfl)) pe_int (fun _ _ => rfl)) pe_str (nomark _))
          (pss_one (ps_dput (hu_of hr) (pv 3) (pe_ix (ixT K) (pe_ix (ixT K) (pv 0) (pv 4) (fun _ _ => rfl)) pe_int (fun _ _ => rfl)) (pe_ix (ixT K) (pv 1) (pv 4) (fun _ _ => rfl)) rfl))
          pss_nil))))))
    (pss_one (ps_ret (pv 3))))), ?_⟩
  obtain ⟨b, xs, rfl, hb, pt⟩ := ht
  obtain ⟨d, rfl, hd⟩ := hw
  refine sqS ⟨_, rfl, d, wy, rfl, .inl hd, fun p hp => ?_⟩
  have s0 : Same H (upd H p (.dK wy)) := Same.new hp
  have lx := same_len pt
  have nvar : ∀ {t : Tm}, tw t ≠ "variable" → V.str (tw t) ≠ V.str "variable" := fun h z => h (by injection z)
  refine sqF ⟨_, rfl, _, _, rfl, .inr (sqT (s0 _ _ hb)), (xs.length : Int), rfl, by omega, by omega, ?_⟩
  refine for_range (fun i σ H1 => ∃ wi o, σ = [some (.ref b), some (.ref a), some (.ref d), some (.ref p), o] ∧ Same H H1 ∧ H1 p = some (.dK wi) ∧ metM ts r wy = metM (ts.drop i) (r.drop i) wi ∧ wi.length + (ts.length - i) ≤ 1000 ∧ ∀ q ∈ wi, IsVal q.2)
    ⟨wy, none, rfl, s0, upd_same, rfl, hz, okw⟩ (fun i σ H1 hi h => ?_) fun σ H1 h => ?_
  · obtain ⟨wi, o, rfl, s1, h1, em, hlw, hvw⟩ := h
    have hi1 : i < xs.length := by omega
    have ex : xs[i]? = some xs[i] := List.getElem?_eq_getElem hi1
    obtain ⟨t, et, c, ec, hc⟩ := Paired.at pt ex
    have hi2 : i < r.length := by omega
    have ev : r[i]? = some r[i] := List.getElem?_eq_getElem hi2
    generalize hvv : r[i] = v at ev
    have e0 : (0 : Int) + (i : Int) = (i : Int) := Int.zero_add _
    have okv := okr v (List.mem_of_getElem? ev)
    have okti := okt t (List.mem_of_getElem? et)
    have hc1 := s1 _ _ hc
    have hb1 := s1 _ _ hb
    have ha1 := s1 _ _ hr'
    have a1 : atI xs (0 + (i : Int)) = some (.ref c) := by rw [e0, atI_nat ex, ec]
    have a2 : atI r (0 + (i : Int)) = some v := by rw [e0]; exact atI_nat ev
    rw [drop_at et, drop_at ev] at em
    rw [tmHO_xs] at hc1
    -- the term's first word
    have wd : ∀ (z : Str) (Q' : Bool → Hp → Prop), Q' (decide (V.str (tw t) = V.str z)) H1 → tTest (tOp rEq (tOp (rIxT K) (tOp (rIxT K) (tVar 0) (tVar 4)) (tC (.int 0))) (tC (.str z))) [some (.ref b), some (.ref a), some (.ref d), some (.ref p), some (.int (0 + (i : Int)))] H1 Q' := fun z Q' q' =>
      ⟨_, rfl, _, rfl, _, _, _, _, rfl, rfl, sqT hb1, a1, _, _, _, _, rfl, rfl, sqT hc1, tmXs0 t, rfl, _, rfl, q'⟩
    cases t with
    | val u =>
      refine sqI (wd "value" _ (ifEq rfl ?_))
      refine ⟨_, rfl, _, rfl, _, _, _, _, rfl, rfl, sqT hb1, a1, _, _, _, _, rfl, rfl, sqT hc1, rfl, _, rfl, _, rfl, _, _, _, _, rfl, rfl, sqT ha1, a2, .inl ⟨u, v, rfl, okti, okv, ?_⟩⟩
      refine ⟨_, rfl, ?_⟩
      by_cases e : u = v
      · refine ifNEq e ?_
        refine wd "variable" _ (ifNe nVV (iteF ?_))
        refine wd "variable" _ (ifNe nVV ?_)
        refine ⟨wi, _, rfl, s1, h1, ?_, by omega, hvw⟩
        rw [em]
        show (if u = v then _ else _) = _
        rw [if_pos e]
      · refine ifNNe e (q _ _ s1 ?_)
        rw [em]
        show MetR _ _ _ (if u = v then _ else _)
        rw [if_neg e]
        rfl
    | any =>
      refine sqI (wd "value" _ (ifNe nAV (iteF ?_)))
      refine wd "variable" _ (ifNe nAW (iteF ?_))
      refine wd "variable" _ (ifNe nAW ?_)
      exact ⟨wi, _, rfl, s1, h1, em, by omega, hvw⟩
    | var n =>
      refine sqI (wd "value" _ (ifNe nVW (iteF ?_)))
      refine wd "variable" _ (ifEq rfl ?_)
      refine ⟨_, rfl, _, rfl, _, _, _, _, rfl, rfl, sqT hb1, a1, _, _, _, _, rfl, rfl, sqT hc1, rfl, _, rfl, p, _, rfl, dgetO h1, _, rfl, ?_⟩
      cases hu : valV wi (.inr n) with
      | some u =>
        have em' : metM ts r wy = if u = v then metM (ts.drop (i + 1)) (r.drop (i + 1)) wi else none := by
          rw [em]
          show (match valV wi (.inr n) with | some u => if u = v then _ else none | none => _) = _
          rw [hu]
        obtain ⟨q1, hq1, e1⟩ := valV_mem hu
        have oku : IsVal u := by rw [← e1]; exact hvw q1 hq1
        refine iteT ⟨_, rfl, _, rfl, _, rfl, _, _, _, _, rfl, rfl, sqT hb1, a1, _, _, _, _, rfl, rfl, sqT hc1, rfl, p, u, rfl, dgetS h1 hu, _, rfl, _, rfl, _, _, _, _, rfl, rfl, sqT ha1, a2, .inl ⟨u, v, rfl, oku, okv, ?_⟩⟩
        refine ⟨_, rfl, ?_⟩
        by_cases e : u = v
        · refine ifNEq e ?_
          refine ⟨wi, _, rfl, s1, h1, ?_, by omega, hvw⟩
          rw [em', if_pos e]
        · refine ifNNe e (q _ _ s1 ?_)
          rw [em', if_neg e]
          rfl
      | none =>
        have em' : metM ts r wy = metM (ts.drop (i + 1)) (r.drop (i + 1)) (putK wi (.inr n) v) := by
          rw [em]
          show (match valV wi (.inr n) with | some u => if u = v then _ else none | none => _) = _
          rw [hu]
        refine iteF (wd "variable" _ (ifEq rfl ?_))
        refine ⟨_, rfl, _, rfl, _, _, _, _, rfl, rfl, sqT ha1, a2, _, rfl, _, rfl, _, rfl, _, _, _, _, rfl, rfl, sqT hb1, a1, _, _, _, _, rfl, rfl, sqT hc1, rfl, p, _, rfl, DPut.k (k := .inr n) h1 (sz_ok' (by omega)), ?_⟩
        refine ⟨_, _, rfl, Same.mut s1 hp, upd_same, em', ?_, putK_vals hvw okv⟩
        have e2 := length_putK wi (.inr n) v
        omega
  · obtain ⟨wi, o, rfl, s1, h1, em, _⟩ := h
    refine ⟨_, rfl, q _ _ s1 ?_⟩
    rw [em]
    have e : ((xs.length : Int)).toNat = ts.length := by omega
    rw [e, List.drop_length]
    exact ⟨p, rfl, hp, h1⟩
theorem c_law_totals (T : Tx K mg C) (C__law_order : C8.Cal P w K mg base 1 "_law_order" spVK []) (C__law_worth : C8.Cal P w K mg base 1 "_law_worth" spVO []) : C8.Cal P w K mg base 2 "_law_totals" spTO [] := by
  refine cal T.d_law_totals (N := ["_law_literal_here", "_law_ways", "_law_values", "_law_way", "_law_value_here", "_law_found", "_law_first", "_law_last"]) (by decide +kernel) (fun vs H Q E h => ?_) (fun f cdv A outer s H vs Q E nd hr h => ?_)
  · obtain ⟨x, y, l, ws, rfl, _⟩ := h
    rfl
  obtain ⟨x, y, l, ws, rfl, hl, hw, ok, hz, q⟩ := h
  refine ⟨_, (pss_cons (ps_if (pt_cmpR op_eq (pe_ix (ixT K) (pv 0) pe_int (fun _ _ => rfl)) pe_str (nomark _))
      (pss_one (ps_ret (pe_lst (pa_cons (pe_callB (lenK K) (by rfl) T.n_len (by decide +kernel) (pa_cons (pv 1) pa_nil)) pa_nil))))
      pss_nil)
    (pss_cons (ps_setLc (i := 2) (own := [("_law_way", 3)]) rfl nd rfl rfl (sw_true rfl rfl rfl (by decide +kernel)) (piL K (pv 1)) (blkOk_by (own := [("_law_way", 3)]) (N := ["_law_literal_here", "_law_ways", "_law_values", "_law_way", "_law_value_here", "_law_found", "_law_first", "_law_last"]) (sc := (C8.fnScope s_law_totals)) (by decide +kernel)) (fun _ _ _ _ _ => (pg_name (i := 3) nd rfl (Or.inl rfl))) (fun _ _ _ _ _ => pts_nil) (fun _ _ _ _ _ => (C8.pe_c C__law_worth hr (by decide) rfl (pa_cons (pe_ix (ixT K) (pv 0) pe_int (fun _ _ => rfl)) (pa_cons (pv 3) pa_nil)))))
    (pss_cons (ps_if (pt_cmpR op_eq (pe_ix (ixT K) (pv 0) pe_int (fun _ _ => rfl)) pe_str (nomark _))
      (pss_cons (ps_if (pt_cmpR (inS K) pe_bl (pe_lc (own := [("_law_value_here", 4)]) rfl nd (piL K (pv 2)) (blkOk_by (own := [("_law_value_here", 4)]) (N := ["_law_literal_here", "_law_ways", "_law_values", "_law_way", "_law_value_here", "_law_found", "_law_first", "_law_last"]) (sc := (C8.fnScope s_law_totals)) (by decide +kernel)) (fun _ _ _ _ _ => (pg_name (i := 4) nd rfl (Or.inl rfl))) (fun _ _ _ _ _ => pts_nil) (fun _ _ _ _ _ => (pe_callB (isiK K) (by rfl) T.n_isinstance (by decide +kernel) (pa_cons (pv 4) (pa_cons (pe_bltn (v := .ty "int") (by rfl) T.n_int (by decide +kernel) rfl) pa_nil))))) (by rfl))
        (pss_one (ps_ret (pe_lst pa_nil)))
        pss_nil)
      (pss_one (ps_ret (pe_lst (pa_cons (pe_callB (sumK K rfl) (by rfl) T.n_sum (by decide +kernel) (pa_cons (pv 2) pa_nil)) pa_nil)))))
      pss_nil)
    (pss_cons (ps_set (i := 5) nd rfl (Or.inl rfl) (pe_slice (slL K) (pv 2) po_none (po_some pe_int)))
    (pss_cons (ps_for PassesOwn.never rfl (piL K (pv 2)) (pg_name (i := 4) nd rfl (Or.inl rfl))
      (pss_cons (ps_set (i := 6) nd rfl (Or.inl rfl) (pe_cmpR (op_pair (op := .Lt) rfl (hu64 hr)) (C8.pe_c C__law_order hr (by decide) rfl (pa_cons (pv 4) pa_nil)) (C8.pe_c C__law_order hr (by decide) rfl (pa_cons (pe_ix (ixL K) (pv 5) pe_int (fun _ _ => rfl)) pa_nil)) (nomark _)))
      (pss_cons (ps_set (i := 7) nd rfl (Or.inl rfl) (pe_cmpR (op_pair (op := .Lt) rfl (hu64 hr)) (C8.pe_c C__law_order hr (by decide) rfl (pa_cons (pe_ix (ixL K) (pv 5) pe_int (fun _ _ => rfl)) pa_nil)) (C8.pe_c C__law_order hr (by decide) rfl (pa_cons (pv 4) pa_nil)) (nomark _)))
      (pss_one (ps_if (PW.pt (pw_or (PW.pt (pw_and (pt_val (pv 6)) (pw_and1 (pt_cmpR op_eq (pe_ix (ixT K) (pv 0) pe_int (fun _ _ => rfl)) pe_str (nomark _))))) (pw_or1 (PW.pt (pw_and (pt_val (pv 7)) (pw_and1 (pt_cmpR op_eq (pe_ix (ixT K) (pv 0) pe_int (fun _ _ => rfl)) pe_str (nomark _))))))))
        (pss_one (ps_set (i := 5) nd rfl (Or.inl rfl) (pe_lst (pa_cons (pv 4) pa_nil))))
        pss_nil)))))
    (pss_one (ps_ret (pv 5)))))))), ?_⟩
  obtain ⟨b, ys, rfl, hb, pw⟩ := hw
  refine s_litS rfl hl (fun e => ?_) fun e1 => ?_
  · have e2 : ∃ v r ts, l = .cnt v r ts := by
      cases l with
      | cnt v r ts => exact ⟨v, r, ts, rfl⟩
      | tot g v t r ts => exact absurd e (tot_words ok.1).2.2.2
      | fact r ts => exact ok.elim
      | neg r ts => exact ok.elim
      | cmp op t u => exact ok.elim
    obtain ⟨v, r, ts, rfl⟩ := e2
    refine ⟨_, rfl, b, ys, rfl, .inl (sqL hb), z1, fun p hp => q p _ (Same.new hp) hp ?_⟩
    rw [same_len pw]
    exact upd_same
  have e2 : ∃ g v t r ts, l = .tot g v t r ts := by
    cases l with
    | cnt v r ts => exact absurd rfl e1
    | tot g v t r ts => exact ⟨g, v, t, r, ts, rfl⟩
    | fact r ts => exact ok.elim
    | neg r ts => exact ok.elim
    | cmp op t u => exact ok.elim
  obtain ⟨g, v, t, r, ts, rfl⟩ := e2
  obtain ⟨og, ow⟩ := ok
  obtain ⟨a, xs, rfl, ha, yt, zt, rfl, ht, _⟩ := id hl
  have lys := same_len pw
  refine sqS ⟨_, rfl, b, rfl, ⟨ys, sqL hb⟩, fun D hD => ?_⟩
  refine lc_list (xs := ys) (fun i H1 => Same H H1 ∧ H1 D = some (.lst ((ws.take i).map (worth t)))) ⟨Same.new hD, upd_same⟩ (fun i H1 _ h => sqL (h.1 _ _ hb)) (fun i x H1 hx h => ?_) fun H1 h => ?_
  · obtain ⟨s1, h1⟩ := h
    obtain ⟨wy, ew, hwy⟩ := Paired.at pw hx
    refine ⟨rfl, tyes (iteT ⟨_, rfl, _, _, _, _, rfl, rfl, sqT (s1 _ _ ha), rfl, _, rfl, _, x, t, wy, rfl, ht.mono s1.tup, hwy.mono s1.way, (ow wy (List.mem_of_getElem? ew)).1, _, h1, ?_, ?_⟩)⟩
    · rw [List.length_map]
      have : (ws.take i).length ≤ ws.length := List.length_take_le' _ _
      exact sz_ok' (by omega)
    · rw [take_snoc ew, List.map_append]
      exact lc_step s1 hD
  obtain ⟨s1, h1⟩ := h
  rw [lys, List.take_length] at h1
  have hvals : ∀ x ∈ ws.map (worth t), IsVal x := fun x hx => by
    obtain ⟨w2, hw2, e⟩ := List.mem_map.mp hx
    rw [← e]
    exact (ow w2 hw2).2
  have lv : (ws.map (worth t)).length ≤ 1000 := by rw [List.length_map]; exact hz
  have q : ∀ p H', Same H H' → H p = none → H' p = some (.lst (totM g (ws.map (worth t)))) → Q (.ref p) H' := q
  generalize ws.map (worth t) = vals at h1 hvals lv q
  have hl1 := hl.mono s1.tup
  refine s_litS rfl hl1 (fun e => ?_) fun e2 => ?_
  · have e : g = "sum" := e
    subst e
    have q : ∀ p H', Same H H' → H p = none → H' p = some (.lst (if vals.any isStr then [] else [.int (vals.map intOf).sum])) → Q (.ref p) H' := q
    refine sqI ⟨_, rfl, D, rfl, ⟨vals, sqL h1⟩, fun D2 hD2 => ?_⟩
    refine lc_list (xs := vals) (fun i H2 => Same H1 H2 ∧ H2 D2 = some (.lst (((vals.take i).map fun v => !isStr v).map V.bl))) ⟨Same.new hD2, upd_same⟩ (fun i H2 _ h => sqL (h.1 _ _ h1)) (fun i x H2 hx h => ?_) fun H2 h => ?_
    · obtain ⟨s2, h2⟩ := h
      have hx2 : ∀ z : V, z = .bl (!isStr x) → (((vals.take i).map fun v => !isStr v).map V.bl) ++ [z] = ((vals.take (i + 1)).map fun v => !isStr v).map V.bl := fun z e => by
        rw [take_snoc hx, List.map_append, List.map_append, e]
        rfl
      have lz : (((vals.take i).map fun v => !isStr v).map V.bl).length < sizeLine := by
        rw [List.length_map, List.length_map]
        have : (vals.take i).length ≤ vals.length := List.length_take_le' _ _
        exact sz_ok' (by omega)
      refine ⟨rfl, tyes (iteT ⟨_, rfl, ?_⟩)⟩
      rcases isVal_cases (hvals x (List.mem_of_getElem? hx)) with ⟨i', rfl⟩ | ⟨z, rfl, _⟩
      · refine ⟨_, _, _, _, _, rfl, .ty _, .base (.int i'), kit_ty k_ii, _, h2, lz, ?_⟩
        rw [hx2 (.bl true) rfl]
        exact ⟨s2.mut hD2, upd_same⟩
      · refine ⟨_, _, _, _, _, rfl, .ty _, .base (.str z), kit_ty k_si, _, h2, lz, ?_⟩
        rw [hx2 (.bl false) rfl]
        exact ⟨s2.mut hD2, upd_same⟩
    · obtain ⟨s2, h2⟩ := h
      rw [List.take_length] at h2
      have fl : ((vals.map fun v => !isStr v).map V.bl).all flatV = true := by
        rw [List.all_eq_true]
        intro y hy
        obtain ⟨z, _, rfl⟩ := List.mem_map.mp hy
        rfl
      have iv : inV (.bl false) ((vals.map fun v => !isStr v).map V.bl) = vals.any isStr := by
        unfold inV
        rw [List.map_map, List.any_map]
        congr 1
        funext v
        show ((!isStr v) == false) = isStr v
        cases isStr v <;> rfl
      refine ⟨D2, _, rfl, .inl (sqL h2), rfl, fl, _, rfl, ?_⟩
      rw [if_neg (by decide), iv]
      cases hany : vals.any isStr with
      | true =>
        refine iteT ⟨z0, fun p hp => q p _ ((s1.trans s2).trans (Same.new hp)) ((s1.trans s2).free hp) ?_⟩
        rw [hany]
        exact upd_same
      | false =>
        refine iteF ?_
        have hv := ints_of hvals hany
        have h3 := s2 _ _ h1
        rw [hv] at h3
        refine ⟨_, rfl, D, vals.map intOf, rfl, sqL h3, z1, fun p hp => q p _ ((s1.trans s2).trans (Same.new hp)) ((s1.trans s2).free hp) ?_⟩
        rw [hany]
        exact upd_same
  have ng : g ≠ "sum" := e2
  -- the order that is asked
  have ⟨bt, hbt, hq⟩ : ∃ bt : V → V → Bool, (∀ x z, bt x z = ((ltV x z && decide (g = "least")) || (ltV z x && decide (g = "greatest")))) ∧ ∀ p H', Same H H' → H p = none → H' p = some (.lst (bestM bt vals)) → Q (.ref p) H' := by
    by_cases gl : g = "least"
    · refine ⟨ltV, fun x z => ?_, fun p H' s hp h => q p H' s hp ?_⟩
      · rw [decide_eq_true gl, decide_eq_false (by rw [gl]; decide +kernel)]
        simp
      · unfold totM
        rw [if_neg ng, if_pos gl]
        exact h
    · refine ⟨fun a b => ltV b a, fun x z => ?_, fun p H' s hp h => q p H' s hp ?_⟩
      · rw [decide_eq_false gl, decide_eq_true (by exact (og.resolve_left ng).resolve_left gl)]
        simp
      · unfold totM
        rw [if_neg ng, if_neg gl]
        exact h
  clear q
  refine sqS ⟨_, rfl, _, rfl, D, vals, rfl, sqL h1, fun pf hpf => ?_⟩
  have s2 := s1.trans (Same.new (o := .lst (cutV vals none (some 1))) hpf)
  have npD : pf ≠ D := fun e => by rw [e, h1] at hpf; cases hpf
  have hpf0 : H pf = none := s1.free hpf
  have hD2 : upd H1 pf (.lst (cutV vals none (some 1))) D = some (.lst vals) := Same.new hpf _ _ h1
  have hpf2 : upd H1 pf (.lst (cutV vals none (some 1))) pf = some (.lst (vals.take 1)) := by rw [cut_first]; exact upd_same
  generalize upd H1 pf (.lst (cutV vals none (some 1))) = H2 at s2 hD2 hpf2 ⊢
  have D0 : H D = none := hD
  refine sqF ⟨_, rfl, D, rfl, ⟨vals, sqL hD2⟩, ?_⟩
  -- the best of the first i
  refine for_list (xs := vals) (fun i σ H3 => ∃ o o' o'' pg, σ = [some (.ref a), some (.ref b), some (.ref D), none, o, some (.ref pg), o', o''] ∧ Same H H3 ∧ H3 D = some (.lst vals) ∧ H pg = none ∧ pg ≠ D ∧ H3 pg = some (.lst (bestAt bt vals i)) ∧
    ∀ v0 rest, vals = v0 :: rest → IsVal ((vals.take i).foldl (fun acc x => if bt x acc then x else acc) v0)) ⟨none, none, none, pf, rfl, s2, hD2, hpf0, npD, ?_, ?_⟩ (fun i σ H3 _ h => ?_) (fun i z σ H3 hz h => ?_) fun σ H3 h => ?_
  · rw [hpf2]
    cases vals with
    | nil => rfl
    | cons v0 rest => rfl
  · intro v0 rest e
    rw [List.take_zero]
    exact hvals v0 (by rw [e]; simp)
  · obtain ⟨_, _, _, _, _, _, h, _⟩ := h
    exact sqL h
  · obtain ⟨o, o', o'', pg, rfl, s3, hD3, hpg0, npg, hpg, hbest⟩ := h
    cases vals with
    | nil => simp at hz
    | cons v0 rest =>
      have iz := hvals z (List.mem_of_getElem? hz)
      have hb := hbest v0 rest rfl
      have hpg' : H3 pg = some (.lst [((v0 :: rest).take i).foldl (fun acc x => if bt x acc then x else acc) v0]) := hpg
      have es : ((v0 :: rest).take (i + 1)).foldl (fun acc x => if bt x acc then x else acc) v0 = if bt z (((v0 :: rest).take i).foldl (fun acc x => if bt x acc then x else acc) v0) then z else ((v0 :: rest).take i).foldl (fun acc x => if bt x acc then x else acc) v0 := by
        rw [take_snoc hz, List.foldl_append]
        rfl
      generalize ((v0 :: rest).take i).foldl (fun acc x => if bt x acc then x else acc) v0 = bst at hb hpg' es
      refine sqS ⟨_, rfl, z, rfl, iz, fun q1 H4 s4 _ k1 => ⟨_, rfl, _, _, _, _, rfl, rfl, sqL (s4 _ _ hpg'), rfl, bst, rfl, hb, fun q2 H5 s5 _ k2 => ⟨q1, q2, z, bst, rfl, rfl, s5 _ _ k1, k2, iz, hb, ?_⟩⟩⟩
      have s45 := s4.trans s5
      refine sqS ⟨_, rfl, _, _, _, _, rfl, rfl, sqL (s45 _ _ hpg'), rfl, bst, rfl, hb, fun q3 H6 s6 _ k3 => ⟨_, rfl, z, rfl, iz, fun q4 H7 s7 _ k4 => ⟨q3, q4, bst, z, rfl, rfl, s7 _ _ k3, k4, hb, iz, ?_⟩⟩⟩
      have s47 := (s45.trans s6).trans s7
      have ha7 := (s3.trans s47) _ _ ha
      generalize hf1 : opV .Lt z bst = f1
      generalize hf2 : opV .Lt bst z = f2
      have hf1 : ltV z bst = f1 := hf1
      have hf2 : ltV bst z = f2 := hf2
      have tgo : ∀ (H8 : Hp) (pg2 : Addr) (b1 : V), Same H3 H8 → H pg2 = none → pg2 ≠ D → H8 pg2 = some (.lst [b1]) → (if bt z bst then z else bst) = b1 → ∃ o o' o'' pg, [some (.ref a), some (.ref b), some (.ref D), none, some z, some (.ref pg2), some (.bl f1), some (.bl f2)] = [some (.ref a), some (.ref b), some (.ref D), none, o, some (.ref pg), o', o''] ∧ Same H H8 ∧ H8 D = some (.lst (v0 :: rest)) ∧ H pg = none ∧ pg ≠ D ∧
          H8 pg = some (.lst [((v0 :: rest).take (i + 1)).foldl (fun acc x => if bt x acc then x else acc) v0]) ∧ ∀ v1 rest1, v0 :: rest = v1 :: rest1 → IsVal (((v0 :: rest).take (i + 1)).foldl (fun acc x => if bt x acc then x else acc) v1) := fun H8 pg2 b1 s8 n1 n2 hh e => by
        refine ⟨_, _, _, pg2, rfl, s3.trans s8, s8 _ _ hD3, n1, n2, ?_, fun v1 rest1 e1 => ?_⟩
        · rw [es, e]
          exact hh
        · injection e1 with e2 e3
          subst e2
          rw [es]
          split
          · exact iz
          · exact hb
      have hbz := hbt z bst
      have w1 : ∀ (Q' : Bool → Hp → Prop) (zz : Str), Q' (decide (g = zz)) H7 → tTest (tOp rEq (tOp (rIxT K) (tVar 0) (tC (.int 0))) (tC (.str zz))) [some (.ref a), some (.ref b), some (.ref D), none, some z, some (.ref pg), some (.bl f1), some (.bl f2)] H7 Q' := fun Q' zz q' => by
        refine ⟨_, rfl, _, _, _, _, rfl, rfl, sqT ha7, rfl, rfl, _, rfl, ?_⟩
        rw [dec_strV]
        exact q'
      have yes : ltV z bst = true ∧ g = "least" ∨ ltV bst z = true ∧ g = "greatest" → bt z bst = true := fun h => by
        rw [hbz]
        rcases h with ⟨h1, h2⟩ | ⟨h1, h2⟩
        · rw [h1, decide_eq_true h2]
          rfl
        · rw [h1, decide_eq_true h2]
          simp
      have put : ∀ (D' : Ends), (∀ H8 pg2, Same H3 H8 → H pg2 = none → pg2 ≠ D → H8 pg2 = some (.lst [z]) → D'.nx [some (.ref a), some (.ref b), some (.ref D), none, some z, some (.ref pg2), some (.bl f1), some (.bl f2)] H8) →
          tAsg (tLst (tCons (tVar 4) tNil)) (gName 5) D' [some (.ref a), some (.ref b), some (.ref D), none, some z, some (.ref pg), some (.bl f1), some (.bl f2)] H7 := fun D' k => by
        refine ⟨_, rfl, z1, fun p2 hp2 => k _ p2 (s47.trans (Same.new hp2)) ((s3.trans s47).free hp2) (fun e => ?_) upd_same⟩
        rw [e, s47 _ _ hD3] at hp2
        cases hp2
      refine ⟨_, rfl, _, rfl, ?_⟩
      cases f1 with
      | true =>
        refine iteT (w1 _ "least" ?_)
        by_cases gl : g = "least"
        · rw [decide_eq_true gl]
          have y := yes (.inl ⟨hf1, gl⟩)
          exact iteT (iteT (put _ fun H8 pg2 s8 n1 n2 hh => tgo H8 pg2 z s8 n1 n2 hh (by rw [y]; rfl)))
        · rw [decide_eq_false gl]
          have f2f : ltV bst z = false := ltV_asymm iz hb hf1
          have n : bt z bst = false := by rw [hbz, hf1, f2f, decide_eq_false gl]; rfl
          have e2 : f2 = false := by rw [← hf2, f2f]
          subst e2
          exact iteF ⟨_, rfl, _, rfl, iteF (iteF (tgo H7 pg bst s47 hpg0 npg (s47 _ _ hpg') (by rw [n]; rfl)))⟩
      | false =>
        refine iteF ⟨_, rfl, _, rfl, ?_⟩
        cases f2 with
        | true =>
          refine iteT (w1 _ "greatest" ?_)
          by_cases gg : g = "greatest"
          · rw [decide_eq_true gg]
            have y := yes (.inr ⟨hf2, gg⟩)
            exact iteT (put _ fun H8 pg2 s8 n1 n2 hh => tgo H8 pg2 z s8 n1 n2 hh (by rw [y]; rfl))
          · rw [decide_eq_false gg]
            have n : bt z bst = false := by rw [hbz, hf1, hf2, decide_eq_false gg]; rfl
            exact iteF (tgo H7 pg bst s47 hpg0 npg (s47 _ _ hpg') (by rw [n]; rfl))
        | false =>
          have n : bt z bst = false := by rw [hbz, hf1, hf2]; rfl
          exact iteF (iteF (tgo H7 pg bst s47 hpg0 npg (s47 _ _ hpg') (by rw [n]; rfl)))
  · obtain ⟨o, o', o'', pg, rfl, s3, hD3, hpg0, npg, hpg, hbest⟩ := h
    refine ⟨_, rfl, hq pg H3 s3 hpg0 ?_⟩
    rw [hpg]
    cases vals with
    | nil => rfl
    | cons v0 rest =>
      have ir : bt v0 v0 = false := by rw [hbt, ltV_irrefl]; rfl
      show some (HO.lst [((v0 :: rest).take (v0 :: rest).length).foldl (fun acc x => if bt x acc then x else acc) v0]) = some (HO.lst (bestM bt (v0 :: rest)))
      rw [List.take_length]
      show some (HO.lst [rest.foldl (fun acc x => if bt x acc then x else acc) (if bt v0 v0 then v0 else v0)]) = some (HO.lst [rest.foldl (fun acc x => if bt x acc then x else acc) v0])
      rw [ir]
      rfl
end
end Tk

/-! ## TkL4 -/
set_option Elab.async false
set_option linter.all false
set_option maxRecDepth 100000
set_option maxHeartbeats 4000000
namespace Tk
open PySem PySem.Spec PyProof.Rows L2
section
variable {P : Program} {w : World} {K : PySem.W.Frag} {mg : Str → Option Value} {base : Heap} {C : Addr}
theorem c_same_no (T : Tx K mg C) : C8.Cal P w K mg base 1 "_law_same" (fun _ _ _ _ => False) [] :=
  cal T.d_law_same (N := ["_law_actual", "_law_expected", "_law_k"]) (by decide +kernel) (fun vs H Q E h => h.elim) (fun f cdv A outer s H vs Q E nd hr h => h.elim)
/-- what is compared, by its depth -/
def Tree : Nat → Hp → V → V → Prop
  | 0 => fun _ _ _ => False
  | n + 1 => TreeS (Tree n)
theorem c_same (T : Tx K mg C) : ∀ n : Nat, C8.Cal P w K mg base (n + 2) "_law_same" (spSame (Tree n)) []
  | 0 => same_step (k := 0) T (c_same_no T) fun x y H Q E h _ => h.elim
  | n + 1 => same_step (k := n + 1) T (c_same T n) fun x y H Q E h q => .inr ⟨x, y, rfl, h, q⟩
def spBeh : Sp := fun vs H Q _ => ∃ x y z R F l wy ks, vs = [x, y, z] ∧ IsFacts H x F ∧ IsLit H y l ∧ IsWay H z wy ∧ OkFacts R F ∧ OkLit R ks l ∧ WayOk ks 800 wy ∧ ∀ p H', Same H H' → H p = none → IsWays H' (.ref p) (behindM F l wy) → Q (.ref p) H'
theorem c_law_behind (T : Tx K mg C) (C__law_same : C8.Cal P w K mg base 2 "_law_same" (spSame (Tree 0)) []) (C__law_compared : C8.Cal P w K mg base 2 "_law_compared" spCmp []) (C__law_worth : C8.Cal P w K mg base 1 "_law_worth" spVO [])
    (C__law_meeting : C8.Cal P w K mg base 3 "_law_meeting" spMet []) (C__law_totals : C8.Cal P w K mg base 2 "_law_totals" spTO []) : C8.Cal P w K mg base 4 "_law_behind" spBeh [] := by
  refine cal T.d_law_behind (N := ["_law_facts", "_law_literal_here", "_law_way", "_law_met", "_law_row", "_law_found", "_law_behind_here", "_law_total", "_law_more"]) (by decide +kernel) (fun vs H Q E h => ?_) (fun f cdv A outer s H vs Q E nd hr h => ?_)
  · obtain ⟨x, y, z, R, F, l, wy, ks, rfl, _⟩ := h
    rfl
  obtain ⟨x, y, z, R, F, l, wy, ks, rfl, hf, hl, hw, of, okl, ow, q⟩ := h
  refine ⟨_, (pss_cons (ps_if (pt_cmpR op_eq (pe_ix (ixT K) (pv 1) pe_int (fun _ _ => rfl)) pe_str (nomark _))
      (pss_one (ps_ret (pe_op op_rep (pe_lst (pa_cons (pv 2) pa_nil)) (pe_callTy call_int1 (by rfl) T.n_int (by decide +kernel) (pa_cons (C8.pe_c C__law_compared hr (by decide) rfl (pa_cons (pe_ix (ixT K) (pv 1) pe_int (fun _ _ => rfl)) (pa_cons (C8.pe_c C__law_worth hr (by decide) rfl (pa_cons (pe_ix (ixT K) (pv 1) pe_int (fun _ _ => rfl)) (pa_cons (pv 2) pa_nil))) (pa_cons (C8.pe_c C__law_worth hr (by decide) rfl (pa_cons (pe_ix (ixT K) (pv 1) pe_int (fun _ _ => rfl)) (pa_cons (pv 2) pa_nil))) pa_nil)))) pa_nil)))))
      pss_nil)
    (pss_cons (ps_set (i := 3) nd rfl (Or.inl rfl) (pe_lst pa_nil))
    (pss_cons (ps_for PassesOwn.never rfl (piL K (pe_dget (hu_of hr) (pv 0) (pe_ix (ixT K) (pv 1) (pe_op op_sub (pe_callB (lenK K) (by rfl) T.n_len (by decide +kernel) (pa_cons (pv 1) pa_nil)) pe_int) (fun _ _ => rfl)) (fun _ _ => rfl))) (pg_name (i := 4) nd rfl (Or.inl rfl))
      (pss_cons (ps_set (i := 5) nd rfl (Or.inl rfl) (C8.pe_c C__law_meeting hr (by decide) rfl (pa_cons (pe_ix (ixT K) (pv 1) (pe_op op_sub (pe_callB (lenK K) (by rfl) T.n_len (by decide +kernel) (pa_cons (pv 1) pa_nil)) pe_int) (fun _ _ => rfl)) (pa_cons (pv 4) (pa_cons (pv 2) pa_nil)))))
      (pss_one (ps_if (pt_cmpR op_notN (pv 5) pe_non (nomark _))
        (pss_one (ps_expr (pe_bm PySem.F.plainAttrs_list PySem.F.slot_list_append PySem.F.type_list_append mt_append (pv 3) (pa_cons (pv 5) pa_nil))))
        pss_nil))))
    (pss_cons (ps_if (pt_cmpR op_eq (pe_ix (ixT K) (pv 1) pe_int (fun _ _ => rfl)) pe_str (nomark _))
      (pss_one (ps_ret (pv 3)))
      pss_nil)
    (pss_cons (ps_if (pt_cmpR op_eq (pe_ix (ixT K) (pv 1) pe_int (fun _ _ => rfl)) pe_str (nomark _))
      (pss_one (ps_ret (pe_op op_rep (pe_lst (pa_cons (pv 2) pa_nil)) (pe_callTy call_int1 (by rfl) T.n_int (by decide +kernel) (pa_cons (pe_cmpR (op_eqNil (hu64 hr)) (pv 3) (pe_lst pa_nil) (nomark _)) pa_nil)))))
      pss_nil)
    (pss_cons (ps_set (i := 6) nd rfl (Or.inl rfl) (pe_lst pa_nil))
    (pss_cons (ps_for PassesOwn.never rfl (piL K (C8.pe_c C__law_totals hr (by decide) rfl (pa_cons (pv 1) (pa_cons (pv 3) pa_nil)))) (pg_name (i := 7) nd rfl (Or.inl rfl))
      (pss_one (ps_if (pt_cmp (pc_dnotin (hu_of hr) (pe_ix (ixT K) (pv 1) pe_int (fun _ _ => rfl)) (pv 2)))
        (pss_cons (ps_set (i := 8) nd rfl (Or.inl rfl) (pe_callTy call_dictD (by rfl) T.n_dict (by decide +kernel) (pa_cons (pv 2) pa_nil)))
        (pss_cons (ps_dput (hu_of hr) (pv 8) (pe_ix (ixT K) (pv 1) pe_int (fun _ _ => rfl)) (pv 7) rfl)
        (pss_one (ps_expr (pe_bm PySem.F.plainAttrs_list PySem.F.slot_list_append PySem.F.type_list_append mt_append (pv 6) (pa_cons (pv 8) pa_nil))))))
        (pss_one (ps_if (pt_val (C8.pe_c C__law_same hr (by decide) rfl (pa_cons (pe_dget (hu_of hr) (pv 2) (pe_ix (ixT K) (pv 1) pe_int (fun _ _ => rfl)) (fun _ _ => rfl)) (pa_cons (pv 7) pa_nil))))
          (pss_one (ps_expr (pe_bm PySem.F.plainAttrs_list PySem.F.slot_list_append PySem.F.type_list_append mt_append (pv 6) (pa_cons (pv 2) pa_nil))))
          pss_nil)))))
    (pss_one (ps_ret (pv 6)))))))))), ?_⟩
  have okw := okLit_word okl
  obtain ⟨d, rfl, hd⟩ := id hw
  obtain ⟨a, xs, rfl, ha, hx⟩ := id hl
  obtain ⟨df, kf, rfl, hdf, pf⟩ := id hf
  have one : ∀ (H1 : Hp) (p : Addr), Same H H1 → H1 p = none → IsWays (upd H1 p (.lst [.ref d])) (.ref p) [wy] := fun H1 p s1 hp =>
    ⟨p, _, rfl, upd_same, .cons ⟨d, rfl, Same.new hp _ _ (s1 _ _ hd)⟩ .nil⟩
  have non : ∀ (H1 : Hp) (p : Addr), IsWays (upd H1 p (.lst [])) (.ref p) [] := fun H1 p => ⟨p, _, rfl, upd_same, .nil⟩
  refine s_litS rfl hl (fun e => ?_) fun e1 => ?_
  · obtain ⟨op, t, u, rfl⟩ := word_cmp okw e
    obtain ⟨y', z', rfl, ht, hu⟩ := hx
    obtain ⟨o1, o2, o3⟩ := okl
    obtain ⟨t1, t2⟩ := worth_ok ow o2
    obtain ⟨u1, u2⟩ := worth_ok ow o3
    refine ⟨_, rfl, z1, fun pl hpl => ?_⟩
    have s0 : Same H (upd H pl (.lst [.ref d])) := Same.new hpl
    have hpl1 : upd H pl (.lst [.ref d]) pl = some (.lst [.ref d]) := upd_same
    generalize upd H pl (.lst [.ref d]) = H0 at s0 hpl1 ⊢
    have ha0 := s0 _ _ ha
    have hw0 := hw.mono s0.way
    refine ⟨_, rfl, _, _, _, _, rfl, rfl, sqT ha0, rfl, _, rfl, _, _, _, _, rfl, rfl, sqT ha0, rfl, _, rfl, y', .ref d, t, wy, rfl, ht.mono s0.tup, hw0, t1, _, rfl, _, _, _, _, rfl, rfl, sqT ha0, rfl, _, rfl, z', .ref d, u, wy, rfl, hu.mono s0.tup, hw0, u1, op, _, _, rfl, o1, t2, u2, fun H1 s1 => ?_⟩
    have s01 := s0.trans s1
    refine .inr ⟨_, rfl, pl, _, _, rfl, rfl, s1 _ _ hpl1, ?_, ?_, ?_, fun p hp => ?_⟩
    · split <;> decide
    · split <;> decide
    · exact sz_ok (by show 1 * _ ≤ _; split <;> decide)
    · refine q p _ (s01.trans (Same.new hp)) (s01.free hp) ?_
      show IsWays _ _ (if cmpM op (worth t wy) (worth u wy) then [wy] else [])
      cases cmpM op (worth t wy) (worth u wy) with
      | true => exact one H1 p s01 hp
      | false => exact non H1 p
  obtain ⟨r, ts, er⟩ := word_rel e1
  have orl := okLit_rel okl er
  obtain ⟨zs, zt, exs, hz0, hz3, htm⟩ := lit_rel hx er
  obtain ⟨vf, ef, l2, rs, rfl, hl2, prs⟩ := fact_get pf (facts_rel of orl.1)
  obtain ⟨rl, rok⟩ := rows_ok of orl.1
  have lrs := same_len prs
  refine sqS ⟨z0, fun pm hpm => ?_⟩
  have s0 : Same H (upd H pm (.lst [])) := Same.new hpm
  have haE := ha
  rw [exs] at haE
  refine sqF ⟨_, rfl, _, rfl, _, rfl, _, _, rfl, .inr (sqT (s0 _ _ haE)), _, _, rfl, rfl, _, _, _, _, rfl, rfl, sqT (s0 _ _ haE), at_l2, df, _, rfl, dgetS (s0 _ _ hdf) ef, l2, rfl, ⟨rs, sqL (s0 _ _ hl2)⟩, ?_⟩
  refine for_list (xs := rs) (fun i σ H1 => ∃ o o', σ = [some (.ref df), some (.ref a), some (.ref d), some (.ref pm), o, o', none, none, none] ∧ Same H H1 ∧ ∃ acc, H1 pm = some (.lst acc) ∧ Paired (IsWay H1) acc (meetM ((rowsOf F r).take i) ts wy)) ⟨none, none, rfl, s0, [], upd_same, .nil⟩ (fun i σ H1 _ h => ?_) (fun i v σ H1 hv h => ?_) fun σ H1 h => ?_
  · obtain ⟨_, _, _, s1, _⟩ := h
    exact sqL (s1 _ _ hl2)
  · obtain ⟨o, o', rfl, s1, acc, h1, pa⟩ := h
    obtain ⟨rw', er', c, rfl, hc⟩ := Paired.at prs hv
    obtain ⟨wl, vals⟩ := rok rw' (List.mem_of_getElem? er')
    refine sqS ⟨_, rfl, _, rfl, _, _, rfl, .inr (sqT (s1 _ _ haE)), _, _, rfl, rfl, _, _, _, _, rfl, rfl, sqT (s1 _ _ haE), at_l1, _, rfl, _, rfl, zt, c, rw', .ref d, ts, wy, rfl, htm.mono s1.tup, s1 _ _ hc, ⟨d, rfl, s1 _ _ hd⟩, by rw [wl], orl.2.2, vals, ow.vals, by have := ow.len; have := orl.2.1; omega, fun v2 H2 s2 hm => ?_⟩
    have es : meetM ((rowsOf F r).take (i + 1)) ts wy = meetM ((rowsOf F r).take i) ts wy ++ meetM [rw'] ts wy := by
      unfold meetM
      rw [take_snoc er', List.filterMap_append]
    have pa2 := Paired.mapP pa fun _ _ z => IsWay.mono s2.way z
    have h2 := s2 _ _ h1
    have la := same_len pa
    have lm : (meetM ((rowsOf F r).take i) ts wy).length ≤ 1000 := by
      have e1 := List.length_filterMap_le (fun x => metM ts x wy) ((rowsOf F r).take i)
      have e2 : ((rowsOf F r).take i).length ≤ (rowsOf F r).length := List.length_take_le' _ _
      unfold meetM
      omega
    cases em : metM ts rw' wy with
    | none =>
      rw [em] at hm
      have ev : v2 = .non := hm
      subst ev
      refine ⟨_, rfl, rfl, _, rfl, ifNEq rfl ⟨_, _, rfl, s1.trans s2, acc, h2, ?_⟩⟩
      have e0 : meetM [rw'] ts wy = [] := by
        unfold meetM
        rw [List.filterMap_cons, em]
        rfl
      rw [es, e0, List.append_nil]
      exact pa2
    | some w2 =>
      rw [em] at hm
      obtain ⟨p2, rfl, _, hp2⟩ := hm
      have wS := wayS_lst (ys := acc ++ [.ref p2]) h2
      refine ⟨_, rfl, rfl, _, rfl, ifNNe (fun z => nomatch z) ⟨_, rfl, .inl ⟨rfl, _, sqL h2⟩, _, rfl, pm, acc, .ref p2, rfl, rfl, h2, sz_ok' (by omega), ?_⟩⟩
      refine ⟨_, _, rfl, (s1.trans s2).mut hpm, _, upd_same, ?_⟩
      have e0 : meetM [rw'] ts wy = [w2] := by
        unfold meetM
        rw [List.filterMap_cons, em]
        rfl
      rw [es, e0]
      exact Paired.app (Paired.mapP pa2 fun _ _ z => IsWay.mono wS z) (.cons ⟨p2, rfl, wS _ _ hp2⟩ .nil)
  obtain ⟨o, o', rfl, s1, acc, h1, pa⟩ := h
  rw [lrs, List.take_length] at pa
  have hm1 : IsWays H1 (.ref pm) (meetM (rowsOf F r) ts wy) := ⟨pm, acc, rfl, h1, pa⟩
  have hl1 := hl.mono s1.tup
  have lm := same_len pa
  dsimp only
  refine s_litS rfl hl1 (fun e => ?_) fun e2 => ?_
  · obtain ⟨r, ts, rfl⟩ := word_fact okw e
    cases er
    exact ⟨_, rfl, q pm H1 s1 hpm hm1⟩
  refine s_litS rfl hl1 (fun e => ?_) fun e3 => ?_
  · obtain ⟨r, ts, rfl⟩ := word_neg okw e
    cases er
    refine ⟨_, rfl, z1, fun pl hpl => ?_⟩
    have s2 : Same H1 (upd H1 pl (.lst [.ref d])) := Same.new hpl
    have hpl1 : upd H1 pl (.lst [.ref d]) pl = some (.lst [.ref d]) := upd_same
    generalize upd H1 pl (.lst [.ref d]) = H2 at s2 hpl1 ⊢
    refine ⟨_, rfl, z0, fun pe hpe => ?_⟩
    have s3 : Same H2 (upd H2 pe (.lst [])) := Same.new hpe
    refine ⟨pm, pe, acc, rfl, rfl, s3 _ _ (s2 _ _ h1), upd_same, ?_⟩
    have s13 := (s1.trans s2).trans s3
    refine .inr ⟨_, rfl, pl, _, _, rfl, rfl, s3 _ _ hpl1, ?_, ?_, ?_, fun p hp => ?_⟩
    · split <;> decide
    · split <;> decide
    · exact sz_ok (by show 1 * _ ≤ _; split <;> decide)
    · refine q p _ (s13.trans (Same.new hp)) (s13.free hp) ?_
      show IsWays _ _ (if (meetM (rowsOf F r) ts wy).isEmpty then [wy] else [])
      have ee : (meetM (rowsOf F r) ts wy).isEmpty = acc.isEmpty := by
        cases acc <;> cases hm : meetM (rowsOf F r) ts wy <;> rw [hm] at lm <;> simp_all
      rw [ee]
      cases acc.isEmpty with
      | true => exact one _ p s13 hp
      | false => exact non _ p
  have key : ∃ v, atI xs 1 = some (.str v) ∧ OkTot l (meetM (rowsOf F r) ts wy) ∧ behindM F l wy = (totL l (meetM (rowsOf F r) ts wy)).flatMap (putM v wy) ∧ (totL l (meetM (rowsOf F r) ts wy)).length ≤ 1 ∧ ∀ x ∈ totL l (meetM (rowsOf F r) ts wy), IsVal x := by
    rcases word_tot e1 e2 e3 with ⟨v, r, ts, rfl⟩ | ⟨g, v, t, r, ts, rfl⟩
    · cases er
      obtain ⟨z', e, _⟩ := hx
      exact ⟨v, by rw [e]; rfl, trivial, rfl, Nat.le_refl _, fun x hx => by rw [List.mem_singleton.mp hx]; trivial⟩
    · cases er
      obtain ⟨y', z', e, _⟩ := hx
      have th := tot_has of okl ow
      have tm := totM_ok (f := g) (vs := (meetM (rowsOf F r) ts wy).map (worth t)) fun x hx => by
        obtain ⟨w2, hw2, e⟩ := List.mem_map.mp hx
        rw [← e]
        exact (th w2 hw2).2
      exact ⟨v, by rw [e]; rfl, ⟨okl.1, th⟩, rfl, tm.2, tm.1⟩
  obtain ⟨v, at1, okt, eb, ltot, vtot⟩ := key
  rw [eb] at q
  refine sqS ⟨z0, fun pb hpb => ?_⟩
  have s2 := s1.trans (Same.new (o := .lst []) hpb)
  have hpb0 : H pb = none := s1.free hpb
  refine sqF ⟨_, rfl, _, rfl, .ref a, .ref pm, l, _, rfl, hl.mono s2.tup, hm1.mono (Same.new hpb), okt, meetM_len of orl, fun pt H2 s3 hpt h2 => ?_⟩
  have npt : pt ≠ pb := fun e => by rw [e, upd_same] at hpt; cases hpt
  have hpt0 : H pt = none := s2.free hpt
  refine ⟨pt, rfl, ⟨_, sqL h2⟩, ?_⟩
  refine for_list (xs := totL l (meetM (rowsOf F r) ts wy)) (fun i σ H3 => ∃ o o1 o2 o3, σ = [some (.ref df), some (.ref a), some (.ref d), some (.ref pm), o, o1, some (.ref pb), o2, o3] ∧ Same H H3 ∧ H3 pt = some (.lst (totL l (meetM (rowsOf F r) ts wy))) ∧ ∃ acc, H3 pb = some (.lst acc) ∧ Paired (IsWay H3) acc (((totL l (meetM (rowsOf F r) ts wy)).take i).flatMap (putM v wy)))
    ⟨_, _, none, none, rfl, s2.trans s3, h2, [], s3 _ _ upd_same, .nil⟩ (fun i σ H3 _ h => ?_) (fun i z σ H3 hz h => ?_) fun σ H3 h => ?_
  · obtain ⟨_, _, _, _, _, _, h3, _⟩ := h
    exact sqL h3
  · obtain ⟨o, o1, o2, o3, rfl, s4, h3, acc, h4, pa⟩ := h
    have iz := vtot z (List.mem_of_getElem? hz)
    have ei := getElem?_range hz
    have i0 : i = 0 := by omega
    have la : acc = [] := by
      have := same_len pa
      rw [i0, List.take_zero] at this
      exact List.length_eq_zero_iff.mp this
    subst la
    have ha4 := s4 _ _ ha
    have hd4 := s4 _ _ hd
    have et : ((totL l (meetM (rowsOf F r) ts wy)).take (i + 1)).flatMap (putM v wy) = putM v wy z := by
      rw [take_snoc hz, List.flatMap_append, i0]
      simp
    rw [et]
    refine ⟨_, rfl, _, _, _, _, rfl, rfl, sqT ha4, at1, _, rfl, d, _, rfl, dgetO hd4, _, rfl, ?_⟩
    cases hv : valV wy (.inr v) with
    | none =>
      have ep : putM v wy z = [putK wy (.inr v) z] := by
        unfold putM
        rw [hv]
      refine iteT ?_
      refine sqS ⟨_, rfl, d, wy, rfl, .inl hd4, fun p1 hp1 => ?_⟩
      have s5 : Same H3 (upd H3 p1 (.dK wy)) := Same.new hp1
      refine sq ⟨_, rfl, _, rfl, _, rfl, _, _, _, _, rfl, rfl, sqT (s5 _ _ ha4), at1, p1, _, rfl, DPut.k (k := .inr v) upd_same (sz_ok' (by have := ow.len; omega)), ?_⟩
      rw [upd_upd]
      have s6 : Same H3 (upd H3 p1 (.dK (putK wy (.inr v) z))) := Same.new hp1
      refine ⟨_, rfl, .inl ⟨rfl, _, sqL (s6 _ _ h4)⟩, _, rfl, pb, [], .ref p1, rfl, rfl, s6 _ _ h4, sz_ok' (by show 0 < _; decide), ?_⟩
      refine ⟨_, _, _, _, rfl, (s4.trans s6).mut hpb0, ?_, _, upd_same, ?_⟩
      · rw [upd_ne npt]
        exact s6 _ _ h3
      · rw [ep]
        exact .cons ⟨p1, rfl, wayS_lst (s6 _ _ h4) _ _ upd_same⟩ .nil
    | some u =>
      obtain ⟨pu, hpu, eu⟩ := valV_mem hv
      have iu : IsVal u := by rw [← eu]; exact ow.vals pu hpu
      refine iteF ⟨_, rfl, _, rfl, _, _, _, _, rfl, rfl, sqT ha4, at1, d, u, rfl, dgetS hd4 hv, _, rfl, .inl ⟨u, z, rfl, iu, iz, _, rfl, ?_⟩⟩
      by_cases e : u = z
      · have ep : putM v wy z = [wy] := by
          unfold putM
          rw [hv]
          show (if u = z then [wy] else []) = [wy]
          rw [if_pos e]
        refine ifEq e ⟨_, rfl, .inl ⟨rfl, _, sqL h4⟩, _, rfl, pb, [], .ref d, rfl, rfl, h4, sz_ok' (by show 0 < _; decide), ?_⟩
        refine ⟨_, _, _, _, rfl, s4.mut hpb0, ?_, _, upd_same, ?_⟩
        · rw [upd_ne npt]
          exact h3
        · rw [ep]
          exact .cons ⟨d, rfl, wayS_lst h4 _ _ hd4⟩ .nil
      · have ep : putM v wy z = [] := by
          unfold putM
          rw [hv]
          show (if u = z then [wy] else []) = []
          rw [if_neg e]
        refine ifNe e ⟨_, _, _, _, rfl, s4, h3, [], h4, ?_⟩
        rw [ep]
        exact .nil
  · obtain ⟨o, o1, o2, o3, rfl, s4, h3, acc, h4, pa⟩ := h
    rw [List.take_length] at pa
    exact ⟨_, rfl, q pb H3 s4 hpb0 ⟨pb, acc, rfl, h4, pa⟩⟩
def spCol : Sp := fun vs H Q _ => ∃ y R b, vs = [y] ∧ IsBody H y b ∧ OkBody R b [] ∧ b.length ≤ 10 ∧ ∀ p H', Same H H' → H' p = some (.tup ((colsM b []).map V.str)) → Q (.ref p) H'
theorem c_law_columns (T : Tx K mg C) : C8.Cal P w K mg base 1 "_law_columns" spCol [] := by
  refine cal T.d_law_columns (N := ["_law_body_here", "_law_columns_here", "_law_literal_here", "_law_names", "_law_term_here", "_law_name"]) (by decide +kernel) (fun vs H Q E h => ?_) (fun f cdv A outer s H vs Q E nd hr h => ?_)
  · obtain ⟨y, R, b, rfl, _⟩ := h
    rfl
  obtain ⟨y, R, b, rfl, hb, ok, hl, q⟩ := h
  refine ⟨_, (pss_cons (ps_set (i := 1) nd rfl (Or.inl rfl) (pe_lst pa_nil))
    (pss_cons (ps_for PassesOwn.never rfl (piT K (pv 0)) (pg_name (i := 2) nd rfl (Or.inl rfl))
      (pss_cons (ps_set (i := 3) nd rfl (Or.inl rfl) (pe_lst pa_nil))
      (C8.pss_cut (ps_if (pt_cmpR op_eq (pe_ix (ixT K) (pv 2) pe_int (fun _ _ => rfl)) pe_str (nomark _))
        (pss_one (ps_setLc (i := 3) (own := [("_law_term_here", 4)]) rfl nd rfl rfl (sw_true rfl rfl rfl (by decide +kernel)) (piT K (pe_ix (ixT K) (pv 2) pe_int (fun _ _ => rfl))) (blkOk_by (own := [("_law_term_here", 4)]) (N := ["_law_body_here", "_law_columns_here", "_law_literal_here", "_law_names", "_law_term_here", "_law_name"]) (sc := (C8.fnScope s_law_columns)) (by decide +kernel)) (fun _ _ _ _ _ => (pg_name (i := 4) nd rfl (Or.inl rfl))) (fun _ _ _ _ _ => pts_one (pt_cmpR op_eq (pe_ix (ixT K) (pv 4) pe_int (fun _ _ => rfl)) pe_str (nomark _))) (fun _ _ _ _ _ => (pe_ix (ixT K) (pv 4) pe_int (fun _ _ => rfl)))))
        (pss_one (ps_if (pt_cmpR (ninS K) (pe_ix (ixT K) (pv 2) pe_int (fun _ _ => rfl)) (pe_lst (pa_cons pe_str (pa_cons pe_str pa_nil))) (by rfl))
          (pss_one (ps_set (i := 3) nd rfl (Or.inl rfl) (pe_lst (pa_cons (pe_ix (ixT K) (pv 2) pe_int (fun _ _ => rfl)) pa_nil))))
          pss_nil)))
      (pss_one (ps_for PassesOwn.never rfl (piL K (pv 3)) (pg_name (i := 5) nd rfl (Or.inl rfl))
        (pss_one (ps_if (pt_cmpR (ninS K) (pv 5) (pv 1) (by rfl))
          (pss_one (ps_expr (pe_bm PySem.F.plainAttrs_list PySem.F.slot_list_append PySem.F.type_list_append mt_append (pv 1) (pa_cons (pv 5) pa_nil))))
          pss_nil)))))))
    (pss_one (ps_ret (pe_callTy (tupK K) (by rfl) T.n_tuple (by decide +kernel) (pa_cons (pv 1) pa_nil)))))), ?_⟩
  obtain ⟨a, xs, rfl, ha, pl⟩ := hb
  refine sqS ⟨z0, fun p hp => ?_⟩
  have s0 : Same H (upd H p (.lst [])) := Same.new hp
  refine sqF ⟨_, rfl, _, rfl, ⟨xs, sqT (s0 _ _ ha)⟩, ?_⟩
  refine for_tup (xs := xs) (fun i σ H1 => ∃ o o' o'', σ = [some (.ref a), some (.ref p), o, o', none, o''] ∧ Same H H1 ∧ H1 p = some (.lst ((colsM (b.take i) []).map V.str))) ⟨none, none, none, rfl, s0, upd_same⟩ (fun i σ H1 _ h => ?_) (fun i y σ H1 hy h => ?_) fun σ H1 h => ?_
  · obtain ⟨_, _, _, _, s1, _⟩ := h
    exact sqT (s1 _ _ ha)
  · obtain ⟨o, o', o'', rfl, s1, h1⟩ := h
    obtain ⟨l, el, hl⟩ := Paired.at pl hy
    have okl := okBody_at ok el
    have okw := okLit_word okl
    have len : (colsM (b.take i) []).length ≤ 100 := by
      have e1 := colsM_len (okBody_take i ok)
      have e2 : (b.take i).length ≤ b.length := List.length_take_le' _ _
      rw [List.length_nil] at e1
      omega
    have ecol : colsM (b.take (i + 1)) [] = (newM l).foldl addN (colsM (b.take i) []) := by
      rw [take_snoc el, colsM_app]
      rfl
    have hl1 := hl.mono s1.tup
    refine sqS ⟨z0, fun pn hpn => ?_⟩
    have s2 : Same H1 (upd H1 pn (.lst [])) := Same.new hpn
    have hl2 := hl1.mono s2.tup
    refine ⟨fun σ2 H2 => ∃ pn, σ2 = [some (.ref a), some (.ref p), some y, some (.ref pn), none, o''] ∧ Same H1 H2 ∧ H1 pn = none ∧ H2 pn = some (.lst ((newM l).map V.str)), ?_, fun σ2 H2 h => ?_⟩
    · refine s_lit rfl hl2 (fun e => ?_) fun e1 => ?_
      · obtain ⟨r, ts, rfl⟩ := word_fact okw e
        obtain ⟨c, zs, rfl, hc, zt, rfl, d, us, rfl, hd, pt⟩ := hl2
        refine ⟨_, rfl, _, _, _, _, rfl, rfl, sqT hc, rfl, d, rfl, ⟨us, sqT hd⟩, fun D hD => ?_⟩
        have tl : ts.length ≤ 10 := okl.2.1
        refine lc_tup (xs := us) (fun k H3 => Same (upd H1 pn (.lst [])) H3 ∧ H3 D = some (.lst ((namesM (ts.take k)).map V.str))) ⟨Same.new hD, upd_same⟩ (fun k H3 _ h => sqT (h.1 _ _ hd)) (fun k x H3 hx h => ?_) fun H3 h => ?_
        · obtain ⟨s3, h3⟩ := h
          obtain ⟨t, et, c2, rfl, hc2⟩ := Paired.at pt hx
          have hc3 := s3 _ _ hc2
          refine ⟨rfl, ?_⟩
          have es : namesM (ts.take (k + 1)) = namesM (ts.take k) ++ namesM [t] := by rw [take_snoc et, namesM_app]
          have zl : ((namesM (ts.take k)).map V.str).length < sizeLine := by
            have e1 := namesM_len (ts.take k)
            have e2 : (ts.take k).length ≤ ts.length := List.length_take_le' _ _
            rw [List.length_map]
            exact sz_ok' (by omega)
          cases t with
          | var n =>
            refine ⟨_, rfl, _, _, _, _, rfl, rfl, sqT hc3, rfl, rfl, _, rfl, ?_⟩
            refine ifEq rfl ⟨_, rfl, _, _, _, _, rfl, rfl, sqT hc3, rfl, _, h3, zl, ?_⟩
            rw [es, List.map_append]
            exact lc_step s3 hD
          | val v =>
            refine ⟨_, rfl, _, _, _, _, rfl, rfl, sqT hc3, rfl, rfl, _, rfl, ?_⟩
            refine ifNe nVV ?_
            rw [es, show namesM [Tm.val v] = [] from rfl, List.append_nil]
            exact ⟨s3, h3⟩
          | any =>
            refine ⟨_, rfl, _, _, _, _, rfl, rfl, sqT hc3, rfl, rfl, _, rfl, ?_⟩
            refine ifNe nAW ?_
            rw [es, show namesM [Tm.any] = [] from rfl, List.append_nil]
            exact ⟨s3, h3⟩
        · obtain ⟨s3, h3⟩ := h
          rw [same_len pt, List.take_length] at h3
          exact ⟨D, rfl, s2.trans s3, s2.free hD, h3⟩
      · obtain ⟨c, zs, rfl, hc, hx⟩ := id hl2
        refine ⟨_, rfl, _, _, _, _, rfl, rfl, sqT hc, lit_word hx, z2, fun pt hpt => ?_⟩
        have s3 : Same (upd H1 pn (.lst [])) (upd (upd H1 pn (.lst [])) pt (.lst [.str "not", .str "compare"])) := Same.new hpt
        refine ⟨pt, [.str "not", .str "compare"], rfl, .inl (sqL upd_same), rfl, rfl, _, rfl, ?_⟩
        rw [if_pos rfl, show [V.str "not", V.str "compare"] = (["not", "compare"] : List Str).map V.str from rfl, inV_str]
        by_cases hm : wordOf l ∈ (["not", "compare"] : List Str)
        · rw [decide_eq_true hm]
          refine iteF ⟨pn, rfl, s2.trans s3, hpn, ?_⟩
          have en : newM l = [] := by
            rcases List.mem_cons.mp hm with e | e
            · obtain ⟨r, ts, rfl⟩ := word_neg okw e
              rfl
            · obtain ⟨op, t, u, rfl⟩ := word_cmp okw (List.mem_singleton.mp e)
              rfl
          rw [en]
          exact s3 _ _ upd_same
        · rw [decide_eq_false hm]
          refine iteT ?_
          have key : ∃ v, atI zs 1 = some (.str v) ∧ newM l = [v] := by
            rcases word_tot (fun e => hm (by rw [e]; simp)) e1 (fun e => hm (by rw [e]; simp)) with ⟨v, r, ts, rfl⟩ | ⟨g, v, t, r, ts, rfl⟩
            · obtain ⟨z', e, _⟩ := hx
              exact ⟨v, by rw [e]; rfl, rfl⟩
            · obtain ⟨y', z', e, _⟩ := hx
              exact ⟨v, by rw [e]; rfl, rfl⟩
          obtain ⟨v, at1, en⟩ := key
          refine ⟨_, rfl, _, _, _, _, rfl, rfl, sqT (s3 _ _ hc), at1, z1, fun pv hpv => ⟨pv, rfl, (s2.trans s3).trans (Same.new hpv), (s2.trans s3).free hpv, ?_⟩⟩
          rw [en]
          exact upd_same
    obtain ⟨pn, rfl, s3, hpn, h3⟩ := h
    have h2 := s3 _ _ h1
    have nrp : pn ≠ p := fun e => by rw [e, h1] at hpn; cases hpn
    have s13 := s1.trans s3
    refine ⟨_, rfl, pn, rfl, ⟨_, sqL h3⟩, ?_⟩
    refine for_list (xs := (newM l).map V.str) (fun j σ H4 => ∃ o, σ = [some (.ref a), some (.ref p), some y, some (.ref pn), none, o] ∧ Same H H4 ∧ H4 pn = some (.lst ((newM l).map V.str)) ∧ H4 p = some (.lst ((((newM l).take j).foldl addN (colsM (b.take i) [])).map V.str))) ⟨_, rfl, s13, h3, h2⟩ (fun j σ H4 _ h => ?_) (fun j z σ H4 hz h => ?_) fun σ H4 h => ?_
    · obtain ⟨_, _, _, h4, _⟩ := h
      exact sqL h4
    · obtain ⟨o, rfl, s4, h4, h5⟩ := h
      rw [List.getElem?_map] at hz
      obtain ⟨n, hn, rfl⟩ := Option.map_eq_some_iff.mp hz
      have e2 := addN_take (ks := colsM (b.take i) []) hn
      have len2 := addN_len ((newM l).take j) (colsM (b.take i) [])
      have len3 : ((newM l).take j).length ≤ (newM l).length := List.length_take_le' _ _
      have len4 := newM_len okl
      refine ⟨_, rfl, _, rfl, _, _, rfl, .inl (sqL h5), rfl, flat_strs _, _, rfl, ?_⟩
      rw [if_pos rfl, inV_str]
      by_cases m : n ∈ ((newM l).take j).foldl addN (colsM (b.take i) [])
      · rw [addN_in m] at e2
        rw [decide_eq_true m]
        exact iteF ⟨_, rfl, s4, h4, by rw [e2]; exact h5⟩
      · rw [addN_out m] at e2
        rw [decide_eq_false m]
        refine iteT ⟨_, rfl, .inl ⟨rfl, _, sqL h5⟩, _, rfl, p, _, _, rfl, rfl, h5, ?_, ?_⟩
        · rw [List.length_map]
          exact sz_ok' (by omega)
        · refine ⟨_, rfl, Same.mut s4 hp, ?_, ?_⟩
          · rw [upd_ne nrp]
            exact h4
          · rw [e2, List.map_append]
            exact upd_same
    · obtain ⟨o, rfl, s4, h4, h5⟩ := h
      rw [List.length_map, List.take_length] at h5
      exact ⟨_, _, _, rfl, s4, by rw [ecol]; exact h5⟩
  · obtain ⟨o, o', o'', rfl, s1, h1⟩ := h
    rw [same_len pl, List.take_length] at h1
    exact ⟨_, rfl, _, _, rfl, sqL h1, fun r hr => q r _ (s1.trans (Same.new hr)) upd_same⟩
def spLA : Sp := fun vs H Q _ => ∃ x y R F b, vs = [x, y] ∧ IsFacts H x F ∧ IsBody H y b ∧ OkAsk R F b ∧ ∀ v H', Same H H' → IsAns H' v (colsM b []) (ansM F b) → Q v H'
theorem c_law_answer (T : Tx K mg C) (C__law_columns : C8.Cal P w K mg base 1 "_law_columns" spCol []) (C__law_behind : C8.Cal P w K mg base 4 "_law_behind" spBeh []) (C__law_sorted : C8.Cal P w K mg base 3 "_law_sorted" spSorted []) : C8.Cal P w K mg base 5 "_law_answer" spLA [] := by
  refine cal T.d_law_answer (N := ["_law_facts", "_law_body_here", "_law_columns_here", "_law_ways", "_law_literal_here", "_law_more", "_law_way", "_law_name"]) (by decide +kernel) (fun vs H Q E h => ?_) (fun f cdv A outer s H vs Q E nd hr h => ?_)
  · obtain ⟨x, y, R, F, b, rfl, _⟩ := h
    rfl
  obtain ⟨x, y, R, F, b, rfl, hf, hb, oa, q⟩ := h
  refine ⟨_, (pss_cons (ps_set (i := 2) nd rfl (Or.inr rfl) (C8.pe_c C__law_columns hr (by decide) rfl (pa_cons (pv 1) pa_nil)))
    (pss_cons (ps_set (i := 3) nd rfl (Or.inl rfl) (pe_lst (pa_cons pe_dnewK pa_nil)))
    (pss_cons (ps_for PassesOwn.never rfl (piT K (pv 1)) (pg_name (i := 4) nd rfl (Or.inl rfl))
      (pss_cons (ps_set (i := 5) nd rfl (Or.inl rfl) (pe_lst pa_nil))
      (pss_cons (ps_for PassesOwn.never rfl (piL K (pv 3)) (pg_name (i := 6) nd rfl (Or.inl rfl))
        (pss_one (ps_set (i := 5) nd rfl (Or.inl rfl) (pe_op op_cat (pv 5) (C8.pe_c C__law_behind hr (by decide) rfl (pa_cons (pv 0) (pa_cons (pv 4) (pa_cons (pv 6) pa_nil))))))))
      (pss_one (ps_set (i := 3) nd rfl (Or.inl rfl) (pv 5))))))
    (pss_one (ps_ret (pe_tup (pa_cons (pv 2) (pa_cons (C8.pe_c C__law_sorted hr (by decide) rfl (pa_cons (pe_lc (own := [("_law_way", 6)]) rfl nd (piL K (pv 3)) (blkOk_by (own := [("_law_way", 6)]) (N := ["_law_facts", "_law_body_here", "_law_columns_here", "_law_ways", "_law_literal_here", "_law_more", "_law_way", "_law_name"]) (sc := (C8.fnScope s_law_answer)) (by decide +kernel)) (fun _ _ _ _ _ => (pg_name (i := 6) nd rfl (Or.inr rfl))) (fun _ _ _ _ _ => pts_nil) (fun _ _ _ _ _ => (pe_callTy (tupK K) (by rfl) T.n_tuple (by decide +kernel) (pa_cons (pe_lc (own := [("_law_name", 7)]) rfl nd (piT K (pv 2)) (blkOk_by (own := [("_law_name", 7)]) (N := ["_law_facts", "_law_body_here", "_law_columns_here", "_law_ways", "_law_literal_here", "_law_more", "_law_way", "_law_name"]) (sc := scC_law_answer) (by decide +kernel)) (fun _ _ _ _ _ => (pg_name (i := 7) nd rfl (Or.inl rfl))) (fun _ _ _ _ _ => pts_nil) (fun _ _ _ _ _ => (pe_dget (hu_of hr) (pv 6) (pv 7) (fun _ _ => rfl)))) pa_nil)))) pa_nil)) pa_nil)))))))), ?_⟩
  obtain ⟨ba, lx, rfl, hba, pl⟩ := id hb
  have of := oa.of
  have lpl := same_len pl
  refine sqS ⟨_, rfl, .ref ba, R, b, rfl, hb, oa.ok, oa.len, fun pc H1 s1 h1 => ?_⟩
  refine sqS fun p0 hp0 => ⟨z1, fun p1 hp1 => ?_⟩
  have s2 : Same H1 (upd (upd H1 p0 (.dK [])) p1 (.lst [.ref p0])) := (Same.new hp0).trans (Same.new hp1)
  have s3 := s1.trans s2
  have w0 : IsWays (upd (upd H1 p0 (.dK [])) p1 (.lst [.ref p0])) (.ref p1) (waysM F (b.take 0) [[]]) := ⟨p1, _, rfl, upd_same, .cons ⟨p0, rfl, Same.new hp1 _ _ upd_same⟩ .nil⟩
  have hc2 := s2 _ _ h1
  generalize upd (upd H1 p0 (.dK [])) p1 (.lst [.ref p0]) = H2 at s2 s3 w0 hc2 ⊢
  refine sqF ⟨_, rfl, ba, rfl, ⟨lx, sqT (s3 _ _ hba)⟩, ?_⟩
  refine for_tup (xs := lx) (fun i σ H3 => ∃ lw o o' o'', σ = [some x, some (.ref ba), some (.ref pc), some lw, o, o', o'', none] ∧ Same H H3 ∧ H3 pc = some (.tup ((colsM b []).map V.str)) ∧ IsWays H3 lw (waysM F (b.take i) [[]])) ⟨_, none, none, none, rfl, s3, hc2, w0⟩ (fun i σ H3 _ h => ?_) (fun i y σ H3 hy h => ?_) fun σ H3 h => ?_
  · obtain ⟨_, _, _, _, _, s4, _⟩ := h
    exact sqT (s4 _ _ hba)
  · obtain ⟨lw, o, o', o'', rfl, s4, hc4, a, xs, rfl, ha, pw⟩ := h
    obtain ⟨l, el, hl⟩ := Paired.at pl hy
    have okl := okBody_at oa.ok el
    have wok : ∀ w ∈ waysM F (b.take i) [[]], WayOk (colsM (b.take i) []) 800 w := fun w hw => by
      have e := waysM_ok of (okBody_take i oa.ok) (ws := [[]]) (b := 0) (fun w hw => by rw [List.mem_singleton.mp hw]; exact wayOk_nil) w hw
      refine e.more ?_
      have e2 : (b.take i).length ≤ b.length := List.length_take_le' _ _
      have e3 := oa.len
      omega
    have ewy := waysM_snoc (F := F) (ws := [[]]) el
    have few := oa.few (i + 1)
    rw [ewy] at few
    have lxs := same_len pw
    refine sqS ⟨z0, fun pm hpm => ?_⟩
    have s5 : Same H3 (upd H3 pm (.lst [])) := Same.new hpm
    refine sqF ⟨_, rfl, a, rfl, ⟨xs, sqL (s5 _ _ ha)⟩, ?_⟩
    refine for_list (xs := xs) (fun j σ H5 => ∃ pm o'', σ = [some x, some (.ref ba), some (.ref pc), some (.ref a), some y, some (.ref pm), o'', none] ∧ Same H3 H5 ∧ IsWays H5 (.ref pm) (((waysM F (b.take i) [[]]).take j).flatMap (behindM F l))) ⟨pm, _, rfl, s5, pm, [], rfl, upd_same, .nil⟩ (fun j σ H5 _ h => ?_) (fun j v σ H5 hv h => ?_) fun σ H5 h => ?_
    · obtain ⟨_, _, _, s6, _⟩ := h
      exact sqL (s6 _ _ ha)
    · obtain ⟨pm, o'', rfl, s6, pm', acc, epm, hpm', pa⟩ := h
      cases epm
      obtain ⟨wy, ew, hw⟩ := Paired.at pw hv
      have s46 := s4.trans s6
      refine ⟨_, rfl, _, rfl, _, rfl, _, rfl, x, y, v, R, F, l, wy, _, rfl, hf.mono s46, hl.mono s46.tup, hw.mono s6.way, of, okl, wok wy (List.mem_of_getElem? ew), fun pb H6 s7 hpb h7 => ?_⟩
      obtain ⟨pb', zs, epb, hzs, pz⟩ := h7
      cases epb
      have e1 := same_len pa
      have e2 := same_len pz
      have e3 := flat_part (behindM F l) ew (behindM F l wy).length
      rw [List.take_length, List.length_append] at e3
      refine ⟨pm, pb, acc, zs, rfl, rfl, s7 _ _ hpm', hzs, sz_ok (by omega), fun pn hpn => ?_⟩
      have s8 : Same H6 (upd H6 pn (.lst (acc ++ zs))) := Same.new hpn
      refine ⟨pn, _, rfl, (s6.trans s7).trans s8, pn, acc ++ zs, rfl, upd_same, ?_⟩
      rw [flat_snoc _ ew]
      exact Paired.app (Paired.mapP pa fun _ _ z => IsWay.mono (s7.trans s8).way z) (Paired.mapP pz fun _ _ z => IsWay.mono s8.way z)
    · obtain ⟨pm, o'', rfl, s6, hw6⟩ := h
      rw [lxs, List.take_length] at hw6
      refine ⟨_, rfl, ?_⟩
      refine ⟨_, _, _, _, rfl, s4.trans s6, s6 _ _ hc4, ?_⟩
      rw [ewy]
      exact hw6
  obtain ⟨lw, o, o', o'', rfl, s4, hc4, a, xs, rfl, ha, pw⟩ := h
  rw [lpl, List.take_length] at pw
  have wok : ∀ w ∈ waysM F b [[]], WayOk (colsM b []) 800 w := fun w hw => by
    have e := waysM_ok of oa.ok (ws := [[]]) (b := 0) (fun w hw => by rw [List.mem_singleton.mp hw]; exact wayOk_nil) w hw
    exact e.more (by have := oa.len; omega)
  have few := oa.few b.length
  rw [List.take_length] at few
  have lxs := same_len pw
  have lcs : (colsM b []).length ≤ 100 := by
    have e1 := colsM_len oa.ok
    rw [List.length_nil] at e1
    have := oa.len
    omega
  have q : ∀ v H', Same H H' → IsAns H' v (colsM b []) (sortM ((waysM F b [[]]).map (rowM (colsM b [])))) → Q v H' := q
  generalize waysM F b [[]] = ways at pw wok few q lxs
  generalize hcs : colsM b [] = cs at wok lcs q hc4
  refine ⟨_, rfl, _, rfl, a, rfl, ⟨xs, sqL ha⟩, fun D hD => ?_⟩
  refine lc_list (xs := xs) (fun i H5 => Same H3 H5 ∧ ∃ acc, H5 D = some (.lst acc) ∧ Paired (IsRow H5) acc ((ways.take i).map (rowM cs))) ⟨Same.new hD, [], upd_same, .nil⟩ (fun i H5 _ h => sqL (h.1 _ _ ha)) (fun i v H5 hv h => ?_) fun H5 h => ?_
  · obtain ⟨s5, acc, h5, pa⟩ := h
    obtain ⟨wy, ew, dw, rfl, hdw⟩ := Paired.at pw hv
    have ok := wok wy (List.mem_of_getElem? ew)
    have hil := getElem?_range ew
    refine ⟨rfl, tyes (iteT ⟨_, rfl, pc, rfl, ⟨_, sqT (s5 _ _ hc4)⟩, fun D2 hD2 => ?_⟩)⟩
    refine lc_tup (xs := cs.map V.str) (fun j H6 => Same H5 H6 ∧ H6 D2 = some (.lst (rowM (cs.take j) wy))) ⟨Same.new hD2, upd_same⟩ (fun j H6 _ h => sqT (h.1 _ _ (s5 _ _ hc4))) (fun j z H6 hz h => ?_) fun H6 h => ?_
    · obtain ⟨s6, h6⟩ := h
      rw [List.getElem?_map] at hz
      obtain ⟨n, hn, rfl⟩ := Option.map_eq_some_iff.mp hz
      obtain ⟨u, hu⟩ := Option.isSome_iff_exists.mp (ok.has n (List.mem_of_getElem? hn))
      have e : rowM (cs.take (j + 1)) wy = rowM (cs.take j) wy ++ [u] := by
        rw [take_snoc hn]
        unfold rowM
        rw [List.map_append]
        show _ ++ [(valV wy (.inr n)).getD .non] = _
        rw [hu]
        rfl
      refine ⟨rfl, tyes (iteT ⟨_, rfl, _, rfl, dw, u, rfl, dgetS ((s5.trans s6) _ _ hdw) hu, _, h6, ?_, ?_⟩)⟩
      · unfold rowM
        rw [List.length_map]
        have : (cs.take j).length ≤ cs.length := List.length_take_le' _ _
        exact sz_ok' (by omega)
      · rw [e]
        exact lc_step s6 hD2
    · obtain ⟨s6, h6⟩ := h
      rw [List.length_map, List.take_length] at h6
      refine ⟨D2, _, rfl, sqL h6, fun pt hpt => ?_⟩
      have s7 := s6.trans (Same.new (o := .tup (rowM cs wy)) hpt)
      have h7 := s7 _ _ h5
      have tS := tupS_lst (ys := acc ++ [.ref pt]) h7
      have la := same_len pa
      have lt : (ways.take i).length ≤ ways.length := List.length_take_le' _ _
      rw [List.length_map] at la
      refine ⟨acc, h7, sz_ok' (by omega), (s5.trans s7).mut hD, _, upd_same, ?_⟩
      rw [take_snoc ew, List.map_append]
      exact Paired.app (Paired.mapP pa fun _ _ z => IsRow.mono (s7.tup.trans tS) z) (.cons ⟨pt, rfl, tS _ _ upd_same⟩ .nil)
  obtain ⟨s5, acc, h5, pa⟩ := h
  rw [lxs, List.take_length] at pa
  have hrv : ∀ r ∈ ways.map (rowM cs), RVal r ∧ r.length ≤ 1000 := fun r hr => by
    obtain ⟨w, hw, e⟩ := List.mem_map.mp hr
    rw [← e]
    refine ⟨rowM_val (wok w hw), ?_⟩
    unfold rowM
    rw [List.length_map]
    omega
  refine ⟨D, acc, _, rfl, h5, pa, hrv, by rw [List.length_map]; omega, fun pl' H6 s6 hpl' h6 => ⟨z2, fun pr hpr => ?_⟩⟩
  obtain ⟨pl2, ys, epl, hys, py⟩ := h6
  cases epl
  have s7 := s6.trans (Same.new (o := .tup [.ref pc, .ref pl']) hpr)
  have s8 : Same H6 (upd H6 pr (.tup [.ref pc, .ref pl'])) := Same.new hpr
  exact q _ _ ((s4.trans s5).trans s7) ⟨pr, pc, pl', ys, rfl, upd_same, (s5.trans s7) _ _ hc4, s8 _ _ hys, Paired.mapP py fun _ _ z => IsRow.mono s8.tup z⟩
end
end Tk

/-! ## TkL5 -/
set_option Elab.async false
set_option linter.all false
set_option maxRecDepth 100000
set_option maxHeartbeats 4000000
namespace Tk
open PySem PySem.Spec PyProof.Rows L2
/-- the script's own state at st: the list of numbers, the place, what is held, the seed -/
def IsSt (H : Hp) (st : Addr) : Prop := ∃ (sc : Addr) (ns : List Int) (p : Nat) (held seed : Int), H st = some (.lst [.ref sc, .int (p : Int), .int held, .int seed]) ∧ H sc = some (.lst (ns.map V.int)) ∧ sc ≠ st ∧ p ≤ ns.length ∧ ns.length ≤ 1000 ∧ 0 ≤ held ∧ 0 ≤ seed ∧ seed < 2147483647
/-- all but st stands, and st tells of the same script -/
def But (st : Addr) (H H' : Hp) : Prop := (∀ b o, b ≠ st → H b = some o → H' b = some o) ∧ ∀ xs, H st = some (.lst xs) → ∃ ys, H' st = some (.lst ys) ∧ ys.head? = xs.head?
theorem posM : (0 : Int) < 2147483647 := by decide
theorem But.refl (st : Addr) (H : Hp) : But st H H := ⟨fun _ _ _ e => e, fun xs e => ⟨xs, e, rfl⟩⟩
theorem But.trans {st : Addr} {H H1 H2 : Hp} (a : But st H H1) (b : But st H1 H2) : But st H H2 := ⟨fun c o n e => b.1 c o n (a.1 c o n e), fun xs e => by
  obtain ⟨ys, e1, e2⟩ := a.2 xs e
  obtain ⟨zs, e3, e4⟩ := b.2 ys e1
  exact ⟨zs, e3, e4.trans e2⟩⟩
theorem But.of {st : Addr} {H H' : Hp} (s : Same H H') : But st H H' := ⟨fun b o _ e => s b o e, fun xs e => ⟨xs, s _ _ e, rfl⟩⟩
theorem But.st {st : Addr} {H : Hp} {xs ys : List V} (h : H st = some (.lst xs)) (he : ys.head? = xs.head?) : But st H (upd H st (.lst ys)) := ⟨fun b u n e => by
  rw [upd_ne n]
  exact e, fun zs e => by
  rw [h] at e
  cases e
  exact ⟨ys, upd_same, he⟩⟩
theorem But.tup {st : Addr} {H H' : Hp} (h : But st H H') (hs : ∃ xs, H st = some (.lst xs)) : TupS H H' := fun b xs e => by
  obtain ⟨ys, hy⟩ := hs
  exact h.1 b _ (ne_of e hy fun z => nomatch z) e
theorem IsSt.lst {H : Hp} {st : Addr} (h : IsSt H st) : ∃ xs, H st = some (.lst xs) := by
  obtain ⟨sc, ns, p, held, seed, h, _⟩ := h
  exact ⟨_, h⟩
theorem IsSt.mono {H H' : Hp} {st : Addr} (s : Same H H') (h : IsSt H st) : IsSt H' st := by
  obtain ⟨sc, ns, p, held, seed, h1, h2, h3⟩ := h
  exact ⟨sc, ns, p, held, seed, s _ _ h1, s _ _ h2, h3⟩
section
variable {P : Program} {w : World} {K : PySem.W.Frag} {mg : Str → Option Value} {base : Heap} {C : Addr}
/-! ### what is drawn -/
def spNext : Sp := fun vs H Q _ => ∃ st lim, vs = [.ref st, .int lim] ∧ IsSt H st ∧ 0 < lim ∧ lim ≤ 100000 ∧ ∀ v H', 0 ≤ v → v < lim → IsSt H' st → But st H H' → Q (.int v) H'
theorem c_law_next (T : Tx K mg C) : C8.Cal P w K mg base 1 "_law_next" spNext [] := by
  refine cal T.d_law_next (N := ["_law_state_here", "_law_limit", "_law_cell", "_law_value_here"]) (by decide +kernel) (fun vs H Q E h => ?_) (fun f cdv A outer s H vs Q E nd hr h => ?_)
  · obtain ⟨st, lim, rfl, _⟩ := h
    rfl
  obtain ⟨st, lim, rfl, hst, l0, l1, q⟩ := h
  refine ⟨_, (C8.pss_cut (ps_if (PW.pt (pw_and (pt_cmpR op_eq (pe_ix (ixL K) (pv 0) pe_int (fun _ _ => rfl)) pe_int (nomark _)) (pw_and1 (pt_cmpR op_lt (pe_ix (ixL K) (pv 0) pe_int (fun _ _ => rfl)) (pe_callB (lenK K) (by rfl) T.n_len (by decide +kernel) (pa_cons (pe_ix (ixL K) (pv 0) pe_int (fun _ _ => rfl)) pa_nil)) (nomark _)))))
      (pss_cons (ps_set (i := 2) nd rfl (Or.inl rfl) (pe_ix (ixL K) (pe_ix (ixL K) (pv 0) pe_int (fun _ _ => rfl)) (pe_ix (ixL K) (pv 0) pe_int (fun _ _ => rfl)) (fun _ _ => rfl)))
      (pss_cons (ps_augS (pv 0) pe_int (getL K) pe_int ip_add set_list)
      (pss_one (ps_if (pt_cmpR op_ge (pv 2) (pe_op op_pow pe_int pe_int) (nomark _))
        (pss_one (ps_asg (pv 2) (pg_sub (pv 0) pe_int set_list)))
        (pss_one (ps_asg (pe_op op_mod (pe_callTy call_int1 (by rfl) T.n_int (by decide +kernel) (pa_cons (pe_op op_add (pe_op op_add (pe_op op_mul (pe_ix (ixL K) (pv 0) pe_int (fun _ _ => rfl)) pe_int) (pe_op op_mod (pe_callTy call_int1 (by rfl) T.n_int (by decide +kernel) (pa_cons (pv 2) pa_nil)) pe_int)) pe_int) pa_nil)) pe_int) (pg_sub (pv 0) pe_int set_list)))))))
      pss_nil)
    (pss_cons (ps_if (pt_cmpR op_gt (pe_ix (ixL K) (pv 0) pe_int (fun _ _ => rfl)) pe_int (nomark _))
      (pss_cons (ps_set (i := 3) nd rfl (Or.inl rfl) (pe_op op_mod (pe_callTy call_int1 (by rfl) T.n_int (by decide +kernel) (pa_cons (pe_ix (ixL K) (pv 0) pe_int (fun _ _ => rfl)) pa_nil)) (pv 1)))
      (pss_cons (ps_asg (pe_op op_fdiv (pe_ix (ixL K) (pv 0) pe_int (fun _ _ => rfl)) (pv 1)) (pg_sub (pv 0) pe_int set_list))
      (pss_one (ps_ret (pv 3)))))
      pss_nil)
    (pss_cons (ps_asg (pe_op op_mod (pe_callTy call_int1 (by rfl) T.n_int (by decide +kernel) (pa_cons (pe_op op_add (pe_op op_mul (pe_ix (ixL K) (pv 0) pe_int (fun _ _ => rfl)) pe_int) pe_int) pa_nil)) pe_int) (pg_sub (pv 0) pe_int set_list))
    (pss_one (ps_ret (pe_op op_mod (pe_callTy call_int1 (by rfl) T.n_int (by decide +kernel) (pa_cons (pe_op op_fdiv (pe_ix (ixL K) (pv 0) pe_int (fun _ _ => rfl)) pe_int) pa_nil)) (pv 1))))))), ?_⟩
  refine ⟨fun σ' H' => ∃ o, σ' = [some (.ref st), some (.int lim), o, none] ∧ IsSt H' st ∧ But st H H', ?_, fun σ' H' h => ?_⟩
  · obtain ⟨sc, ns, p, held, seed, h1, h2, nsc, hp, hl, hh, s0, s1⟩ := id hst
    refine ⟨_, rfl, _, _, _, _, rfl, rfl, sqL h1, rfl, rfl, _, rfl, ?_⟩
    by_cases e : held = 0
    · subst e
      refine ifEq rfl ⟨_, rfl, _, _, _, _, rfl, rfl, sqL h1, rfl, _, rfl, _, _, _, _, rfl, rfl, sqL h1, rfl, _, _, rfl, .inl (sqL h2), _, _, rfl, rfl, _, rfl, ?_⟩
      by_cases c : p < ns.length
      · rw [decide_eq_true (show ((p : Nat) : Int) < (((ns.map V.int).length : Nat) : Int) by rw [List.length_map]; omega)]
        refine iteT ?_
        have ec : (ns.map V.int)[p]? = some (.int ns[p]) := by
          rw [List.getElem?_map, List.getElem?_eq_getElem c]
          rfl
        generalize ns[p] = cell at ec
        refine sqS ⟨_, rfl, _, _, _, _, rfl, rfl, sqL h1, rfl, _, rfl, _, _, _, _, rfl, rfl, sqL h1, rfl, _, _, _, _, rfl, rfl, sqL h2, atI_nat ec, ?_⟩
        refine sq ⟨_, rfl, st, _, _, _, rfl, rfl, sqL h1, rfl, _, _, rfl, rfl, st, _, _, 1, rfl, rfl, h1, rfl, ?_⟩
        have h1' : upd H st (.lst [.ref sc, .int ((p : Int) + 1), .int 0, .int seed]) st = some (.lst [.ref sc, .int ((p : Int) + 1), .int 0, .int seed]) := upd_same
        have h2' : upd H st (.lst [.ref sc, .int ((p : Int) + 1), .int 0, .int seed]) sc = some (.lst (ns.map V.int)) := by rw [upd_ne nsc]; exact h2
        have b1 : But st H (upd H st (.lst [.ref sc, .int ((p : Int) + 1), .int 0, .int seed])) := But.st h1 rfl
        dsimp only [List.set]
        generalize upd H st (.lst [.ref sc, .int ((p : Int) + 1), .int 0, .int seed]) = H1 at h1' h2' b1 ⊢
        have fin : ∀ hd sd : Int, 0 ≤ hd → 0 ≤ sd → sd < 2147483647 → IsSt (upd H1 st (.lst [.ref sc, .int ((p : Int) + 1), .int hd, .int sd])) st ∧ But st H (upd H1 st (.lst [.ref sc, .int ((p : Int) + 1), .int hd, .int sd])) := fun hd sd a1 a2 a3 =>
          ⟨⟨sc, ns, p + 1, hd, sd, by rw [upd_same]; push_cast; rfl, by rw [upd_ne nsc]; exact h2', nsc, c, hl, a1, a2, a3⟩, b1.trans (But.st h1' rfl)⟩
        refine ⟨_, rfl, _, _, rfl, rfl, ⟨by decide, by decide, by decide⟩, _, _, rfl, rfl, _, rfl, ?_⟩
        by_cases big : (10 : Int) ^ (18 : Int).toNat ≤ cell
        · rw [decide_eq_true big]
          refine iteT ⟨_, rfl, _, rfl, st, _, _, 2, rfl, rfl, h1', rfl, ?_⟩
          have pc : 0 ≤ cell := Int.le_trans (by decide) big
          exact ⟨_, rfl, fin cell seed pc s0 s1⟩
        · rw [decide_eq_false big]
          refine iteF ⟨_, rfl, _, _, _, _, rfl, rfl, sqL h1', rfl, _, _, rfl, rfl, .inl ⟨by omega, by omega⟩, _, rfl, .inl ⟨_, rfl, _, _, rfl, rfl, posM, _, _, rfl, rfl, _, _, rfl, rfl, .inl ⟨_, rfl, _, _, rfl, rfl, posM, _, rfl, st, _, _, 3, rfl, rfl, h1', rfl, ?_⟩⟩⟩
          exact ⟨_, rfl, fin 0 _ (Int.le_refl _) (Int.emod_nonneg _ (by decide)) (Int.emod_lt_of_pos _ (by decide))⟩
      · rw [decide_eq_false (show ¬ ((p : Nat) : Int) < (((ns.map V.int).length : Nat) : Int) by rw [List.length_map]; omega)]
        exact iteF ⟨_, rfl, hst, But.refl _ _⟩
    · refine ifNe (fun z => e (by injection z)) (iteF ⟨_, rfl, hst, But.refl _ _⟩)
  obtain ⟨o, rfl, hst', b0⟩ := h
  obtain ⟨sc, ns, p, held, seed, h1, h2, nsc, hp, hl, hh, s0, s1⟩ := id hst'
  refine sqI ⟨_, rfl, _, _, _, _, rfl, rfl, sqL h1, rfl, _, _, rfl, rfl, _, rfl, ?_⟩
  have fin : ∀ hd sd : Int, 0 ≤ hd → 0 ≤ sd → sd < 2147483647 → IsSt (upd H' st (.lst [.ref sc, .int (p : Int), .int hd, .int sd])) st ∧ But st H (upd H' st (.lst [.ref sc, .int (p : Int), .int hd, .int sd])) := fun hd sd a1 a2 a3 =>
    ⟨⟨sc, ns, p, hd, sd, upd_same, by rw [upd_ne nsc]; exact h2, nsc, hp, hl, a1, a2, a3⟩, b0.trans (But.st h1 rfl)⟩
  by_cases c : 0 < held
  · rw [decide_eq_true c]
    refine iteT ?_
    refine sqS ⟨_, rfl, _, _, _, _, rfl, rfl, sqL h1, rfl, .inl ⟨_, rfl, _, rfl, _, _, rfl, rfl, l0, ?_⟩⟩
    refine sq ⟨_, rfl, _, _, _, _, rfl, rfl, sqL h1, rfl, _, rfl, _, _, rfl, rfl, ⟨l0, by omega⟩, _, rfl, st, _, _, 2, rfl, rfl, h1, rfl, ?_⟩
    obtain ⟨f1, f2⟩ := fin (held / lim) seed (Int.ediv_nonneg hh (Int.le_of_lt l0)) s0 s1
    exact ⟨_, rfl, q _ _ (Int.emod_nonneg _ (by omega)) (Int.emod_lt_of_pos _ l0) f1 f2⟩
  · rw [decide_eq_false c]
    refine iteF ?_
    refine sq ⟨_, rfl, _, _, _, _, rfl, rfl, sqL h1, rfl, _, _, rfl, rfl, .inl ⟨by omega, by omega⟩, _, _, rfl, rfl, .inl ⟨_, rfl, _, _, rfl, rfl, posM, _, rfl, st, _, _, 3, rfl, rfl, h1, rfl, ?_⟩⟩
    obtain ⟨f1, f2⟩ := fin held ((seed * 69621 + 12345) % 2147483647) hh (Int.emod_nonneg _ (by decide)) (Int.emod_lt_of_pos _ (by decide))
    refine ⟨_, rfl, _, _, _, _, rfl, rfl, sqL upd_same, rfl, _, _, rfl, rfl, ⟨by decide, by decide⟩, .inl ⟨_, rfl, _, rfl, _, _, rfl, rfl, l0, q _ _ (Int.emod_nonneg _ (by omega)) (Int.emod_lt_of_pos _ l0) f1 f2⟩⟩
end
end Tk

/-! ## TkL6 -/
set_option Elab.async false
set_option linter.all false
set_option maxRecDepth 100000
set_option maxHeartbeats 4000000
namespace Tk
open PySem PySem.Spec PyProof.Rows L2
theorem strOk_list (x : Str) : PyData.strOk x = x.cps.toList.all fun c => decide (c < 0x110000) := by
  unfold PyData.strOk
  rw [Array.all_toList]
theorem app_list (a b : Str) : (a ++ b).cps.toList = a.cps.toList ++ b.cps.toList := by
  show (a.cps ++ b.cps).toList = _
  exact Array.toList_append
theorem strOk_app {a b : Str} (ha : PyData.strOk a = true) (hb : PyData.strOk b = true) : PyData.strOk (a ++ b) = true := by
  rw [strOk_list] at ha hb ⊢
  rw [app_list, List.all_append, ha, hb]
  rfl
theorem zs_ok (n : Int) : PyData.strOk (Txt.mul "z" n) = true := by
  have e : ("z" : Str) = ⟨#[122]⟩ := by decide +kernel
  rw [e, strOk_list, PyProof.Rows.mul_one_list, List.all_eq_true]
  intro c hc
  rw [(List.mem_replicate.mp hc).2]
  decide
theorem at_in {α : Type} {xs : List α} {i : Int} (h0 : 0 ≤ i) (h1 : i < xs.length) : ∃ v, atI xs i = some v ∧ v ∈ xs := by
  obtain ⟨j, rfl⟩ := Int.eq_ofNat_of_zero_le h0
  have hj : j < xs.length := by omega
  exact ⟨xs[j], atI_nat (List.getElem?_eq_getElem hj), List.getElem_mem hj⟩
def knownM (ks : List Str) (t : Tm) : Tm := match t with
  | .var n => if n ∈ ks then .var n else .any
  | t => t
def settledM (ks : List Str) (t : Tm) : Tm := match t with
  | .var n => if n ∈ ks then .var n else .val (.int 1)
  | .any => .val (.int 1)
  | t => t
section
variable {P : Program} {w : World} {K : PySem.W.Frag} {mg : Str → Option Value} {base : Heap} {C : Addr}
def spVal : Sp := fun vs H Q _ => ∃ st, vs = [.ref st] ∧ IsSt H st ∧ ∀ v H', IsVal v → IsSt H' st → But st H H' → Q v H'
theorem c_law_value (T : Tx K mg C) (C__law_next : C8.Cal P w K mg base 1 "_law_next" spNext []) : C8.Cal P w K mg base 2 "_law_value" spVal [] := by
  refine cal T.d_law_value (N := ["_law_state_here", "_law_pick"]) (by decide +kernel) (fun vs H Q E h => ?_) (fun f cdv A outer s H vs Q E nd hr h => ?_)
  · obtain ⟨st, rfl, _⟩ := h
    rfl
  obtain ⟨st, rfl, hst, q⟩ := h
  refine ⟨_, (pss_cons (ps_set (i := 1) nd rfl (Or.inl rfl) (C8.pe_c C__law_next hr (by decide) rfl (pa_cons (pv 0) (pa_cons pe_int pa_nil))))
    (pss_cons (ps_if (pt_cmpR op_lt (pv 1) pe_int (nomark _))
      (pss_one (ps_ret (pe_ix (ixL K) (pe_lst (pa_cons pe_int (pa_cons pe_int (pa_cons pe_int (pa_cons pe_int (pa_cons (pe_un un_neg pe_int) (pa_cons pe_int (pa_cons pe_int pa_nil)))))))) (pv 1) (fun _ _ => rfl))))
      pss_nil)
    (pss_cons (ps_if (pt_cmpR op_eq (pv 1) pe_int (nomark _))
      (pss_one (ps_ret (pe_op op_mul (pe_op op_sub pe_int (pe_op op_mul pe_int (C8.pe_c C__law_next hr (by decide) rfl (pa_cons (pv 0) (pa_cons pe_int pa_nil))))) (pe_op op_sub (pe_op op_sub (pe_op op_pow pe_int pe_int) pe_int) (C8.pe_c C__law_next hr (by decide) rfl (pa_cons (pv 0) (pa_cons pe_int pa_nil)))))))
      pss_nil)
    (pss_one (ps_ret (pe_ix (ixL K) (pe_lst (pa_cons pe_str (pa_cons pe_str (pa_cons pe_str (pa_cons pe_str (pa_cons (pe_op op_add_str pe_str (pe_op op_mulS pe_str (C8.pe_c C__law_next hr (by decide) rfl (pa_cons (pv 0) (pa_cons pe_int pa_nil))))) pa_nil)))))) (C8.pe_c C__law_next hr (by decide) rfl (pa_cons (pv 0) (pa_cons pe_int pa_nil))) (fun _ _ => rfl))))))), ?_⟩
  refine sqS ⟨_, rfl, st, _, rfl, hst, by decide, by decide, fun k H1 k0 k1 st1 b1 => ?_⟩
  refine sqI ⟨_, rfl, _, _, rfl, rfl, _, rfl, ?_⟩
  by_cases c : k < 7
  · rw [decide_eq_true c]
    refine iteT ⟨_, rfl, sz_ok (by show 7 ≤ _; decide), fun p hp => ?_⟩
    obtain ⟨v, hv, hm⟩ := at_in (xs := [V.int 0, .int 1, .int 2, .int 3, .int (-1), .int 7, .int 1]) k0 c
    refine ⟨_, rfl, _, _, _, _, rfl, rfl, sqL upd_same, hv, q v _ ?_ (st1.mono (Same.new hp)) (b1.trans (But.of (Same.new hp)))⟩
    simp only [List.mem_cons, List.not_mem_nil, or_false] at hm
    rcases hm with rfl | rfl | rfl | rfl | rfl | rfl | rfl <;> trivial
  rw [decide_eq_false c]
  refine iteF (sqI ⟨_, rfl, rfl, _, rfl, ?_⟩)
  by_cases e : k = 7
  · refine ifEq (by rw [e]) ⟨_, rfl, st, _, rfl, st1, by decide, by decide, fun n H2 n0 n1 st2 b2 => ⟨_, _, rfl, rfl, .inl ⟨by decide, by decide⟩, _, _, rfl, rfl, ?_⟩⟩
    refine ⟨_, _, rfl, rfl, ⟨by decide, by decide, by decide⟩, _, _, rfl, rfl, _, rfl, st, _, rfl, st2, by decide, by decide, fun m H3 m0 m1 st3 b3 => ⟨_, _, rfl, rfl, _, _, rfl, rfl, .inl ⟨by omega, by omega⟩, ?_⟩⟩
    exact q _ _ trivial st3 ((b1.trans b2).trans b3)
  refine ifNe (fun z => e (by injection z)) ?_
  refine ⟨_, rfl, st, _, rfl, st1, by decide, by decide, fun n H2 n0 n1 st2 b2 => ⟨_, _, rfl, rfl, ?_, n0, by omega, ?_⟩⟩
  · have : ("z" : Str).length = 1 := by decide +kernel
    omega
  have le : (Txt.mul "z" n).length ≤ 28 := len_mul_one (c := 122) (by decide +kernel) (by omega)
  refine ⟨_, _, rfl, rfl, ?_, sz_ok (by show 5 ≤ _; decide), fun p hp => ?_⟩
  · have : ("a'~" : Str).length = 3 := by decide +kernel
    exact sz_ok (by omega)
  have s3 : Same H2 (upd H2 p (.lst [.str "", .str "a", .str "b", .str "1", .str ("a'~" ++ Txt.mul "z" n)])) := Same.new hp
  refine ⟨_, rfl, st, _, rfl, st2.mono s3, by decide, by decide, fun m H3 m0 m1 st3 b3 => ?_⟩
  obtain ⟨v, hv, hm⟩ := at_in (xs := [V.str "", .str "a", .str "b", .str "1", .str ("a'~" ++ Txt.mul "z" n)]) m0 m1
  obtain ⟨xs2, hx2⟩ := st2.lst
  have np : p ≠ st := (ne_of_none hx2 hp).symm
  refine ⟨_, _, _, _, rfl, rfl, sqL (b3.1 p _ np upd_same), hv, q v _ ?_ st3 ((b1.trans b2).trans ((But.of s3).trans b3))⟩
  simp only [List.mem_cons, List.not_mem_nil, or_false] at hm
  rcases hm with rfl | rfl | rfl | rfl | rfl
  · show PyData.strOk "" = true
    decide +kernel
  · show PyData.strOk "a" = true
    decide +kernel
  · show PyData.strOk "b" = true
    decide +kernel
  · show PyData.strOk "1" = true
    decide +kernel
  · exact strOk_app (by decide +kernel) (zs_ok n)
/-- the names of variables are texts -/
def NmOk (t : Tm) : Prop := ∀ x, t = .var x → PyData.strOk x = true
def spTerm : Sp := fun vs H Q _ => ∃ (st bd : Addr) (ks : List Str), vs = [.ref st, .ref bd] ∧ IsSt H st ∧ bd ≠ st ∧ H bd = some (.lst (ks.map V.str)) ∧ ks.length ≤ 1000 ∧ (∀ n ∈ ks, PyData.strOk n = true) ∧ ∀ v H' t, IsTm H' v t → OkT t → NmOk t → IsSt H' st → But st H H' → Q v H'
theorem c_law_term (T : Tx K mg C) (C__law_next : C8.Cal P w K mg base 1 "_law_next" spNext []) (C__law_value : C8.Cal P w K mg base 2 "_law_value" spVal []) : C8.Cal P w K mg base 3 "_law_term" spTerm [] := by
  refine cal T.d_law_term (N := ["_law_state_here", "_law_bound", "_law_pick"]) (by decide +kernel) (fun vs H Q E h => ?_) (fun f cdv A outer s H vs Q E nd hr h => ?_)
  · obtain ⟨st, bd, ks, rfl, _⟩ := h
    rfl
  obtain ⟨st, bd, ks, rfl, hst, nb, hb, hk, hks, q⟩ := h
  refine ⟨_, (pss_cons (ps_set (i := 2) nd rfl (Or.inl rfl) (C8.pe_c C__law_next hr (by decide) rfl (pa_cons (pv 0) (pa_cons pe_int pa_nil))))
    (pss_cons (ps_if (PW.pt (pw_and (pt_cmpR op_lt (pv 2) pe_int (nomark _)) (pw_and1 (pt_cmpR op_gt (pe_callB (lenK K) (by rfl) T.n_len (by decide +kernel) (pa_cons (pv 1) pa_nil)) pe_int (nomark _)))))
      (pss_one (ps_ret (pe_tup (pa_cons pe_str (pa_cons (pe_ix (ixL K) (pv 1) (C8.pe_c C__law_next hr (by decide) rfl (pa_cons (pv 0) (pa_cons (pe_callB (lenK K) (by rfl) T.n_len (by decide +kernel) (pa_cons (pv 1) pa_nil)) pa_nil))) (fun _ _ => rfl)) pa_nil)))))
      pss_nil)
    (pss_cons (ps_if (pt_cmpR op_lt (pv 2) pe_int (nomark _))
      (pss_one (ps_ret (pe_tup (pa_cons pe_str (pa_cons (pe_ix (ixL K) (pe_lst (pa_cons pe_str (pa_cons pe_str (pa_cons pe_str (pa_cons pe_str pa_nil))))) (C8.pe_c C__law_next hr (by decide) rfl (pa_cons (pv 0) (pa_cons pe_int pa_nil))) (fun _ _ => rfl)) pa_nil)))))
      pss_nil)
    (pss_cons (ps_if (pt_cmpR op_lt (pv 2) pe_int (nomark _))
      (pss_one (ps_ret (pe_tup (pa_cons pe_str (pa_cons (C8.pe_c C__law_value hr (by decide) rfl (pa_cons (pv 0) pa_nil)) pa_nil)))))
      pss_nil)
    (pss_one (ps_ret (pe_tup (pa_cons pe_str pa_nil)))))))), ?_⟩
  refine sqS ⟨_, rfl, st, _, rfl, hst, by decide, by decide, fun k H1 k0 k1 st1 b1 => ?_⟩
  have hb1 := b1.1 bd _ nb hb
  have tail : ∀ D : Ends, D = { nx := fun _ H' => Q .non H', rt := Q } → True := fun _ _ => trivial
  clear tail
  refine sqI ⟨_, rfl, _, _, rfl, rfl, _, rfl, ?_⟩
  have rest : tSeq (tIfS (tTest (tOp (rI0 fun i j => V.bl (decide (i < j))) (tVar 2) (tC (V.int 7)))) (tRet (tTup (tCons (tC (V.str "variable")) (tCons (tOp (rIxL K) (tLst (tCons (tC (V.str "x")) (tCons (tC (V.str "y")) (tCons (tC (V.str "z")) (tCons (tC (V.str "w_1")) tNil))))) (tCall spNext [] C8.E0 (tCons (tVar 0) (tCons (tC (V.int 4)) tNil)))) tNil)))) tNext)
      (tSeq (tIfS (tTest (tOp (rI0 fun i j => V.bl (decide (i < j))) (tVar 2) (tC (V.int 9)))) (tRet (tTup (tCons (tC (V.str "value")) (tCons (tCall spVal [] C8.E0 (tCons (tVar 0) tNil)) tNil)))) tNext) (tRet (tTup (tCons (tC (V.str "any")) tNil)))) { nx := fun _ H' => Q .non H', rt := Q } [some (.ref st), some (.ref bd), some (.int k)] H1 := by
    refine sqI ⟨_, rfl, _, _, rfl, rfl, _, rfl, ?_⟩
    by_cases c : k < 7
    · rw [decide_eq_true c]
      refine iteT ⟨sz_ok (by show 4 ≤ _; decide), fun p hp => ?_⟩
      have s2 : Same H1 (upd H1 p (.lst [.str "x", .str "y", .str "z", .str "w_1"])) := Same.new hp
      refine ⟨_, rfl, st, _, rfl, st1.mono s2, by decide, by decide, fun m H3 m0 m1 st3 b3 => ?_⟩
      obtain ⟨v, hv, hm⟩ := at_in (xs := [V.str "x", .str "y", .str "z", .str "w_1"]) m0 m1
      obtain ⟨xs2, hx2⟩ := st1.lst
      have np : p ≠ st := (ne_of_none hx2 hp).symm
      obtain ⟨n, rfl, on⟩ : ∃ n, v = .str n ∧ PyData.strOk n = true := by
        simp only [List.mem_cons, List.not_mem_nil, or_false] at hm
        rcases hm with rfl | rfl | rfl | rfl <;> exact ⟨_, rfl, by decide +kernel⟩
      exact ⟨_, _, _, _, rfl, rfl, sqL (b3.1 p _ np upd_same), hv, z2, fun p2 hp2 => q _ _ (.var n) ⟨p2, rfl, upd_same⟩ trivial (fun x e => by cases e; exact on) (st3.mono (Same.new hp2)) ((b1.trans ((But.of s2).trans b3)).trans (But.of (Same.new hp2)))⟩
    rw [decide_eq_false c]
    refine iteF (sqI ⟨_, rfl, _, _, rfl, rfl, _, rfl, ?_⟩)
    by_cases c2 : k < 9
    · rw [decide_eq_true c2]
      exact iteT ⟨_, rfl, st, rfl, st1, fun v H2 iv st2 b2 => ⟨z2, fun p2 hp2 => q _ _ (.val v) ⟨p2, rfl, upd_same⟩ iv (fun _ z => nomatch z) (st2.mono (Same.new hp2)) ((b1.trans b2).trans (But.of (Same.new hp2)))⟩⟩
    · rw [decide_eq_false c2]
      exact iteF ⟨z1, fun p2 hp2 => q _ _ .any ⟨p2, rfl, upd_same⟩ trivial (fun _ z => nomatch z) (st1.mono (Same.new hp2)) (b1.trans (But.of (Same.new hp2)))⟩
  by_cases c : k < 4
  · rw [decide_eq_true c]
    refine iteT ⟨_, rfl, _, _, rfl, .inl (sqL hb1), _, _, rfl, rfl, _, rfl, ?_⟩
    by_cases c2 : 0 < ((ks.map V.str).length : Int)
    · rw [decide_eq_true c2]
      refine iteT ⟨_, rfl, _, rfl, _, rfl, _, _, rfl, .inl (sqL hb1), st, _, rfl, st1, c2, by rw [List.length_map]; omega, fun m H2 m0 m1 st2 b2 => ?_⟩
      obtain ⟨v, hv, hm⟩ := at_in m0 m1
      obtain ⟨n, mn, rfl⟩ := List.mem_map.mp hm
      exact ⟨_, _, _, _, rfl, rfl, sqL (b2.1 bd _ nb hb1), hv, z2, fun p2 hp2 => q _ _ (.var n) ⟨p2, rfl, upd_same⟩ trivial (fun x e => by cases e; exact hks n mn) (st2.mono (Same.new hp2)) ((b1.trans b2).trans (But.of (Same.new hp2)))⟩
    · rw [decide_eq_false c2]
      exact iteF rest
  · rw [decide_eq_false c]
    exact iteF (iteF rest)
def spKn (g : List Str → Tm → Tm) : Sp := fun vs H Q _ => ∃ (x : V) (bd : Addr) (t : Tm) (ks : List Str), vs = [x, .ref bd] ∧ IsTm H x t ∧ H bd = some (.lst (ks.map V.str)) ∧ ∀ v H', Same H H' → IsTm H' v (g ks t) → Q v H'
theorem c_law_known (T : Tx K mg C) : C8.Cal P w K mg base 1 "_law_known" (spKn knownM) [] := by
  refine cal T.d_law_known (N := ["_law_term_here", "_law_bound"]) (by decide +kernel) (fun vs H Q E h => ?_) (fun f cdv A outer s H vs Q E nd hr h => ?_)
  · obtain ⟨x, bd, t, ks, rfl, _⟩ := h
    rfl
  obtain ⟨x, bd, t, ks, rfl, ht, hb, q⟩ := h
  refine ⟨_, (pss_cons (ps_if (PW.pt (pw_and (pt_cmpR op_eq (pe_ix (ixT K) (pv 0) pe_int (fun _ _ => rfl)) pe_str (nomark _)) (pw_and1 (pt_cmpR (ninS K) (pe_ix (ixT K) (pv 0) pe_int (fun _ _ => rfl)) (pv 1) (by rfl)))))
      (pss_one (ps_ret (pe_tup (pa_cons pe_str pa_nil))))
      pss_nil)
    (pss_one (ps_ret (pv 0)))), ?_⟩
  obtain ⟨c, rfl, hc⟩ := id ht
  cases t with
  | val v =>
    refine sqI ⟨_, rfl, _, _, _, _, rfl, rfl, sqT hc, rfl, rfl, _, rfl, ifNe nVV (iteF ⟨_, rfl, q _ _ (Same.refl _) ht⟩)⟩
  | any =>
    refine sqI ⟨_, rfl, _, _, _, _, rfl, rfl, sqT hc, rfl, rfl, _, rfl, ifNe nAW (iteF ⟨_, rfl, q _ _ (Same.refl _) ht⟩)⟩
  | var n =>
    refine sqI ⟨_, rfl, _, _, _, _, rfl, rfl, sqT hc, rfl, rfl, _, rfl, ifEq rfl ⟨_, rfl, _, _, _, _, rfl, rfl, sqT hc, rfl, _, rfl, _, _, rfl, .inl (sqL hb), rfl, flat_strs ks, _, rfl, ?_⟩⟩
    rw [if_pos rfl, inV_str]
    by_cases m : n ∈ ks
    · rw [decide_eq_true m]
      refine iteF ⟨_, rfl, q _ _ (Same.refl _) ?_⟩
      show IsTm H _ (if n ∈ ks then .var n else .any)
      rw [if_pos m]
      exact ht
    · rw [decide_eq_false m]
      refine iteT ⟨z1, fun p hp => q _ _ (Same.new hp) ?_⟩
      show IsTm _ _ (if n ∈ ks then .var n else .any)
      rw [if_neg m]
      exact ⟨p, rfl, upd_same⟩
theorem c_law_settled (T : Tx K mg C) : C8.Cal P w K mg base 1 "_law_settled" (spKn settledM) [] := by
  refine cal T.d_law_settled (N := ["_law_term_here", "_law_bound"]) (by decide +kernel) (fun vs H Q E h => ?_) (fun f cdv A outer s H vs Q E nd hr h => ?_)
  · obtain ⟨x, bd, t, ks, rfl, _⟩ := h
    rfl
  obtain ⟨x, bd, t, ks, rfl, ht, hb, q⟩ := h
  refine ⟨_, (pss_cons (ps_if (PW.pt (pw_or (pt_cmpR op_eq (pe_ix (ixT K) (pv 0) pe_int (fun _ _ => rfl)) pe_str (nomark _)) (pw_or1 (PW.pt (pw_and (pt_cmpR op_eq (pe_ix (ixT K) (pv 0) pe_int (fun _ _ => rfl)) pe_str (nomark _)) (pw_and1 (pt_cmpR (ninS K) (pe_ix (ixT K) (pv 0) pe_int (fun _ _ => rfl)) (pv 1) (by rfl))))))))
      (pss_one (ps_ret (pe_tup (pa_cons pe_str (pa_cons pe_int pa_nil)))))
      pss_nil)
    (pss_one (ps_ret (pv 0)))), ?_⟩
  obtain ⟨c, rfl, hc⟩ := id ht
  cases t with
  | val v =>
    refine sqI ⟨_, rfl, _, _, _, _, rfl, rfl, sqT hc, rfl, rfl, _, rfl, ifNe nVA ⟨_, rfl, _, _, _, _, rfl, rfl, sqT hc, rfl, rfl, _, rfl, ifNe nVV (iteF ⟨_, rfl, q _ _ (Same.refl _) ht⟩)⟩⟩
  | any =>
    exact sqI ⟨_, rfl, _, _, _, _, rfl, rfl, sqT hc, rfl, rfl, _, rfl, ifEq rfl (iteT ⟨z2, fun p hp => q _ _ (Same.new hp) ⟨p, rfl, upd_same⟩⟩)⟩
  | var n =>
    refine sqI ⟨_, rfl, _, _, _, _, rfl, rfl, sqT hc, rfl, rfl, _, rfl, ifNe nWA ⟨_, rfl, _, _, _, _, rfl, rfl, sqT hc, rfl, rfl, _, rfl, ifEq rfl ⟨_, rfl, _, _, _, _, rfl, rfl, sqT hc, rfl, _, rfl, _, _, rfl, .inl (sqL hb), rfl, flat_strs ks, _, rfl, ?_⟩⟩⟩
    rw [if_pos rfl, inV_str]
    by_cases m : n ∈ ks
    · rw [decide_eq_true m]
      refine iteF ⟨_, rfl, q _ _ (Same.refl _) ?_⟩
      show IsTm H _ (if n ∈ ks then .var n else .val (.int 1))
      rw [if_pos m]
      exact ht
    · rw [decide_eq_false m]
      refine iteT ⟨z2, fun p hp => q _ _ (Same.new hp) ?_⟩
      show IsTm _ _ (if n ∈ ks then .var n else .val (.int 1))
      rw [if_neg m]
      exact ⟨p, rfl, upd_same⟩
end
end Tk

/-! ## TkL7 -/
set_option Elab.async false
set_option linter.all false
set_option maxRecDepth 100000
set_option maxHeartbeats 4000000
namespace Tk
open PySem PySem.Spec PyProof.Rows L2
theorem names_atR {H : Hp} {kr : Way} {R : Rels} (h : Paired (IsRel H) kr R) (nd : (R.map (·.1)).Nodup) : ∀ {i : Nat} {k : Key} {v : V}, kr[i]? = some (k, v) → ∃ n cs, R[i]? = some (n, cs) ∧ k = .inr n ∧ IsRel H (k, v) (n, cs) ∧ valV kr (.inr n) = some v := by
  induction h with
  | nil => intro i k v e; simp at e
  | @cons p q ps qs h t ih =>
    intro i k v e
    rw [List.map_cons, List.nodup_cons] at nd
    cases i with
    | zero =>
      have e' : p = (k, v) := by simpa using e
      subst e'
      exact ⟨q.1, q.2, rfl, h.1, h, valV_pos h.1⟩
    | succ i =>
      obtain ⟨n, cs, e1, e2, e3, e4⟩ := ih nd.2 (by simpa using e)
      refine ⟨n, cs, by simpa using e1, e2, e3, ?_⟩
      rw [valV_neg (fun z => nd.1 ?_)]
      · exact e4
      · rw [h.1] at z
        rw [Sum.inr.inj z]
        exact List.mem_map.mpr ⟨(n, cs), List.mem_of_getElem? e1, rfl⟩
theorem flat_len {α β : Type} (f : α → List β) {m : Nat} : ∀ {xs : List α}, (∀ x ∈ xs, (f x).length ≤ m) → (xs.flatMap f).length ≤ xs.length * m
  | [], _ => Nat.zero_le _
  | x :: xs, h => by
    have h1 := h x (by simp)
    have h2 := flat_len f (xs := xs) fun y hy => h y (by simp [hy])
    rw [List.flatMap_cons, List.length_append, List.length_cons, Nat.succ_mul]
    omega
section
variable {P : Program} {w : World} {K : PySem.W.Frag} {mg : Str → Option Value} {base : Heap} {C : Addr}
def spLS (C : Addr) : Sp := fun vs H Q _ => ∃ x y R F, vs = [x, y] ∧ IsRels H x R ∧ IsFacts H y F ∧ OkFacts R F ∧ ∀ v H', Same H H' → IsState C H' v R F → Q v H'
theorem c_law_state (T : Tx K mg C) (C_State : C8.Mak P w K mg base 6 "State" C (spInit C) []) : C8.Cal P w K mg base 8 "_law_state" (spLS C) [] := by
  refine cal T.d_law_state (N := ["_law_relations_here", "_law_facts", "_law_listed", "_law_name", "_law_row"]) (by decide +kernel) (fun vs H Q E h => ?_) (fun f cdv A outer s H vs Q E nd hr h => ?_)
  · obtain ⟨x, y, R, F, rfl, _⟩ := h
    rfl
  obtain ⟨x, y, R, F, rfl, hx, hy, of, q⟩ := h
  refine ⟨_, (pss_cons (ps_lock (ps_setLc (i := 2) (own := [("_law_name", 3)]) rfl nd rfl rfl (sw_true rfl rfl rfl (by decide +kernel)) (pi_keys (pv 0)) (blkOk_by (own := [("_law_name", 3)]) (N := ["_law_relations_here", "_law_facts", "_law_listed", "_law_name", "_law_row"]) (sc := (C8.fnScope s_law_state)) (by decide +kernel)) (fun _ _ _ _ _ => (pg_name (i := 3) nd rfl (Or.inl rfl))) (fun _ _ _ _ _ => pts_nil) (fun _ _ _ _ _ => (pe_op (catT K) (pe_tup (pa_cons pe_str (pa_cons (pv 3) pa_nil))) (pe_dget (hu_of hr) (pv 0) (pv 3) (fun _ _ => rfl))))))
    (pss_cons (ps_lock (ps_for PassesOwn.never rfl (pi_keys (pv 1)) (pg_name (i := 3) nd rfl (Or.inr rfl))
      (pss_one (ps_set (i := 2) nd rfl (Or.inl rfl) (pe_op op_cat (pv 2) (pe_lc (own := [("_law_row", 4)]) rfl nd (piL K (pe_dget (hu_of hr) (pv 1) (pv 3) (fun _ _ => rfl))) (blkOk_by (own := [("_law_row", 4)]) (N := ["_law_relations_here", "_law_facts", "_law_listed", "_law_name", "_law_row"]) (sc := (C8.fnScope s_law_state)) (by decide +kernel)) (fun _ _ _ _ _ => (pg_name (i := 4) nd rfl (Or.inl rfl))) (fun _ _ _ _ _ => pts_nil) (fun _ _ _ _ _ => (pe_tup (pa_cons pe_str (pa_cons (pv 3) (pa_cons (pv 4) pa_nil)))))))))))
    (pss_one (ps_ret (C8.pe_mk C_State hr (by decide) rfl (pa_cons (pv 2) pa_nil)))))), ?_⟩
  obtain ⟨dr, kr, rfl, hdr, pr⟩ := hx
  obtain ⟨df, kf, rfl, hdf, pf⟩ := hy
  have ndR : (R.map (·.1)).Nodup := by
    rw [← of.names]
    exact of.nd
  have lkr := same_len pr
  have lkf := same_len pf
  have lR := of.less
  have lF : F.length ≤ 10 := by
    have e1 := congrArg List.length of.names
    rw [List.length_map, List.length_map] at e1
    omega
  have wT : ∀ {d : Addr} {u : HO}, H d = some u → (∀ xs, u ≠ .tup xs) → ∀ b xs, H b = some (.tup xs) → wo H d b = some (.tup xs) := fun hd hu b xs e => by
    rw [wo_ne (ne_of e hd fun z => hu _ z.symm)]
    exact e
  -- the relations' items
  refine ⟨dr, .dK kr, hdr, trivial, fun od => ?_⟩
  have w1 : Same (wo H dr) (upd H dr (.frz od (.dK kr))) := wo_upd
  have hf1 : upd H dr (.frz od (.dK kr)) dr = some (.frz od (.dK kr)) := upd_same
  generalize upd H dr (.frz od (.dK kr)) = H1 at w1 hf1 ⊢
  refine ⟨_, rfl, dr, od, rfl, .inl ⟨kr, hf1, fun D hD => ?_⟩⟩
  have nDr : D ≠ dr := fun e => by rw [e, hf1] at hD; cases hD
  have hDw : wo H dr D = none := by
    cases e : wo H dr D with
    | none => rfl
    | some o =>
      rw [w1 _ _ e] at hD
      cases hD
  refine lc_keysK (fun i H2 => Same (wo H dr) H2 ∧ H2 dr = some (.frz od (.dK kr)) ∧ ∃ acc, H2 D = some (.lst acc) ∧ Paired (IsItem H2) acc ((R.take i).map fun p => .rel p.1 p.2)) ⟨w1.mut hDw, by rw [upd_ne nDr.symm]; exact hf1, [], upd_same, .nil⟩ (fun i H2 _ h => h.2.1) (fun i k v H2 hk h => ?_) fun H2 h => ?_
  · obtain ⟨w2, hf2, acc, h2, pa⟩ := h
    obtain ⟨n, cs, eR, rfl, ⟨_, a, c, rfl, ha, hc⟩, hv⟩ := names_atR pr ndR hk
    have ha2 := w2 _ _ (wT hdr (fun _ z => nomatch z) _ _ ha)
    have hc2 := w2 _ _ (wT hdr (fun _ z => nomatch z) _ _ hc)
    refine ⟨rfl, tyes (iteT ⟨_, rfl, z2, fun p1 hp1 => ?_⟩)⟩
    have s3 : Same H2 (upd H2 p1 (.tup [.str "relation", .str n])) := Same.new hp1
    have hp1' : upd H2 p1 (.tup [.str "relation", .str n]) p1 = some (.tup [.str "relation", .str n]) := upd_same
    refine ⟨_, rfl, _, rfl, dr, .ref a, rfl, dgetZ (s3 _ _ hf2) hv, p1, a, _, _, rfl, rfl, sqT hp1', sqT (s3 _ _ ha2), sz_ok (by show 4 ≤ _; decide), (fun z => nomatch z), (fun _ z => nomatch z), fun _ _ p2 hp2 => ?_⟩
    have s4 : Same H2 (upd (upd H2 p1 (.tup [.str "relation", .str n])) p2 (.tup ([.str "relation", .str n] ++ [.ref c, .int 40]))) := s3.trans (Same.new hp2)
    have hp2' : upd (upd H2 p1 (.tup [.str "relation", .str n])) p2 (.tup ([.str "relation", .str n] ++ [.ref c, .int 40])) p2 = some (.tup [.str "relation", .str n, .ref c, .int 40]) := upd_same
    generalize hH4 : upd (upd H2 p1 (.tup [.str "relation", .str n])) p2 (.tup ([.str "relation", .str n] ++ [.ref c, .int 40])) = H4 at s4 hp2'
    show ∃ acc, upd (upd H2 p1 (.tup [.str "relation", .str n])) p2 (.tup ([.str "relation", .str n] ++ [.ref c, .int 40])) D = some (.lst acc) ∧ acc.length < sizeLine ∧ Same (wo H dr) (upd (upd (upd H2 p1 (.tup [.str "relation", .str n])) p2 (.tup ([.str "relation", .str n] ++ [.ref c, .int 40]))) D (.lst (acc ++ [.ref p2]))) ∧ upd (upd (upd H2 p1 (.tup [.str "relation", .str n])) p2 (.tup ([.str "relation", .str n] ++ [.ref c, .int 40]))) D (.lst (acc ++ [.ref p2])) dr = some (.frz od (.dK kr)) ∧
      ∃ acc_1, upd (upd (upd H2 p1 (.tup [.str "relation", .str n])) p2 (.tup ([.str "relation", .str n] ++ [.ref c, .int 40]))) D (.lst (acc ++ [.ref p2])) D = some (.lst acc_1) ∧ Paired (IsItem (upd (upd (upd H2 p1 (.tup [.str "relation", .str n])) p2 (.tup ([.str "relation", .str n] ++ [.ref c, .int 40]))) D (.lst (acc ++ [.ref p2])))) acc_1 ((R.take (i + 1)).map fun p => Item.rel p.1 p.2)
    rw [hH4]
    have la := same_len pa
    have lt : (R.take i).length ≤ R.length := List.length_take_le' _ _
    rw [List.length_map] at la
    have h4 := s4 _ _ h2
    have tS := tupS_lst (ys := acc ++ [.ref p2]) h4
    refine ⟨acc, h4, sz_ok' (by omega), (w2.trans s4).mut hDw, by rw [upd_ne nDr.symm]; exact s4 _ _ hf2, _, upd_same, ?_⟩
    rw [take_snoc eR, List.map_append]
    exact Paired.app (Paired.mapP pa fun _ _ z => IsItem.mono (s4.tup.trans tS) z) (.cons ⟨p2, c, rfl, tS _ _ hp2', tS _ _ (s4 _ _ hc2)⟩ .nil)
  obtain ⟨w2, hf2, acc, h2, pa⟩ := h
  rw [lkr, List.take_length] at pa
  refine ⟨hf2, ?_⟩
  have w3 : Same H (upd H2 dr (.dK kr)) := fun b o e => by
    by_cases n : b = dr
    · subst n
      rw [hdr] at e
      rw [upd_same, ← Option.some.inj e]
    · rw [upd_ne n]
      exact w2 _ _ (by rw [wo_ne n]; exact e)
  have h3 : upd H2 dr (.dK kr) D = some (.lst acc) := by rw [upd_ne nDr]; exact h2
  have tS3 : TupS H2 (upd H2 dr (.dK kr)) := fun b xs e => by
    rw [upd_ne (ne_of e hf2 fun z => nomatch z)]
    exact e
  have pa3 : Paired (IsItem (upd H2 dr (.dK kr))) acc (R.map fun p => .rel p.1 p.2) := Paired.mapP pa fun _ _ z => IsItem.mono tS3 z
  generalize upd H2 dr (.dK kr) = H3 at w3 h3 pa3 ⊢
  dsimp only
  -- the facts' items
  refine sq ⟨df, .dK kf, w3 _ _ hdf, trivial, fun od2 => ?_⟩
  have w4 : Same (wo H df) (upd H3 df (.frz od2 (.dK kf))) := fun b o e => by
    obtain ⟨n, e⟩ := wo_of e
    rw [upd_ne n]
    exact w3 _ _ e
  have hf4 : upd H3 df (.frz od2 (.dK kf)) df = some (.frz od2 (.dK kf)) := upd_same
  have tS4 : TupS H3 (upd H3 df (.frz od2 (.dK kf))) := fun b xs e => by
    rw [upd_ne (ne_of e (w3 _ _ hdf) fun z => nomatch z)]
    exact e
  have hD4 : upd H3 df (.frz od2 (.dK kf)) D = some (.lst acc) := by
    rw [upd_ne (ne_of h3 (w3 _ _ hdf) fun z => nomatch z)]
    exact h3
  have pa4 : Paired (IsItem (upd H3 df (.frz od2 (.dK kf)))) acc (R.map fun p => .rel p.1 p.2) := Paired.mapP pa3 fun _ _ z => IsItem.mono tS4 z
  generalize upd H3 df (.frz od2 (.dK kf)) = H4 at w4 hf4 hD4 pa4 ⊢
  refine ⟨_, rfl, df, od2, rfl, .inl ⟨kf, hf4, ?_⟩⟩
  refine for_keysK (fun i σ H5 => ∃ pl o, σ = [some (.ref dr), some (.ref df), some (.ref pl), o, none] ∧ Same (wo H df) H5 ∧ H5 df = some (.frz od2 (.dK kf)) ∧ ∃ acc, H5 pl = some (.lst acc) ∧ Paired (IsItem H5) acc ((R.map fun p => .rel p.1 p.2) ++ (F.take i).flatMap fun p => p.2.map (.fact p.1))) ⟨D, none, rfl, w4, hf4, acc, hD4, by simpa using pa4⟩ (fun i σ H5 _ h => ?_) (fun i k v σ H5 hk h => ?_) fun σ H5 h => ?_
  · obtain ⟨_, _, _, _, h, _⟩ := h
    exact h
  · obtain ⟨pl, o, rfl, w5, hf5, acc5, h5, pa5⟩ := h
    obtain ⟨n, rs, eF, rfl, ⟨l, xs, rfl, hl, px⟩, hv, _⟩ := names_at pf of.nd hk
    have memF := List.mem_of_getElem? eF
    have lrs : rs.length ≤ 1000 := of.few _ memF
    have lxs := same_len px
    have hl5 := w5 l _ (by rw [wo_ne (ne_of hl hdf fun z => nomatch z)]; exact hl)
    have px5 : Paired (IsRow H5) xs rs := Paired.mapP px fun x r z => by
      obtain ⟨c, ec, hc⟩ := z
      exact ⟨c, ec, w5 c _ (by rw [wo_ne (ne_of hc hdf fun z => nomatch z)]; exact hc)⟩
    refine ⟨_, rfl, _, rfl, _, rfl, df, .ref l, rfl, dgetZ hf5 hv, l, rfl, ⟨xs, sqL hl5⟩, fun D2 hD2 => ?_⟩
    refine lc_list (xs := xs) (fun j H6 => Same H5 H6 ∧ ∃ acc6, H6 D2 = some (.lst acc6) ∧ Paired (IsItem H6) acc6 ((rs.take j).map (.fact n))) ⟨Same.new hD2, [], upd_same, .nil⟩ (fun j H6 _ h => sqL (h.1 _ _ hl5)) (fun j z H6 hz h => ?_) fun H6 h => ?_
    · obtain ⟨s6, acc6, h6, pa6⟩ := h
      obtain ⟨r, er, c, rfl, hc⟩ := Paired.at px5 hz
      refine ⟨rfl, tyes (iteT ⟨_, rfl, _, rfl, z3, fun p2 hp2 => ?_⟩)⟩
      have s7 : Same H6 (upd H6 p2 (.tup [.str "fact", .str n, .ref c])) := Same.new hp2
      have hp2' : upd H6 p2 (.tup [.str "fact", .str n, .ref c]) p2 = some (.tup [.str "fact", .str n, .ref c]) := upd_same
      have h7 := s7 _ _ h6
      have tS := tupS_lst (ys := acc6 ++ [.ref p2]) h7
      have la := same_len pa6
      have lt : (rs.take j).length ≤ rs.length := List.length_take_le' _ _
      rw [List.length_map] at la
      refine ⟨acc6, h7, sz_ok' (by omega), (s6.trans s7).mut hD2, _, upd_same, ?_⟩
      rw [take_snoc er, List.map_append]
      exact Paired.app (Paired.mapP pa6 fun _ _ z => IsItem.mono (s7.tup.trans tS) z) (.cons ⟨p2, c, rfl, tS _ _ hp2', tS _ _ ((s6.trans s7) _ _ hc)⟩ .nil)
    · obtain ⟨s6, acc6, h6, pa6⟩ := h
      rw [lxs, List.take_length] at pa6
      have l5 := same_len pa5
      have l6 := same_len pa6
      rw [List.length_append, List.length_map] at l5
      rw [List.length_map] at l6
      have l7 : ((F.take i).flatMap fun p => p.2.map (Item.fact p.1)).length ≤ (F.take i).length * 1000 := flat_len _ fun p hp => by rw [List.length_map]; exact of.few p (List.mem_of_mem_take hp)
      have l8 : (F.take i).length ≤ F.length := List.length_take_le' _ _
      refine ⟨pl, D2, acc5, acc6, rfl, rfl, s6 _ _ h5, h6, sz_ok (by omega), fun p3 hp3 => ?_⟩
      have s7 := s6.trans (Same.new (o := .lst (acc5 ++ acc6)) hp3)
      have s8 : Same H6 (upd H6 p3 (.lst (acc5 ++ acc6))) := Same.new hp3
      refine ⟨p3, _, rfl, w5.trans s7, s7 _ _ hf5, _, upd_same, ?_⟩
      rw [flat_snoc _ eF, ← List.append_assoc]
      exact Paired.app (Paired.mapP pa5 fun _ _ z => IsItem.mono s7.tup z) (Paired.mapP pa6 fun _ _ z => IsItem.mono s8.tup z)
  · obtain ⟨pl, o, rfl, w5, hf5, acc5, h5, pa5⟩ := h
    rw [lkf, List.take_length] at pa5
    refine ⟨hf5, ?_⟩
    have w6 : Same H (upd H5 df (.dK kf)) := fun b o e => by
      by_cases n : b = df
      · subst n
        rw [hdf] at e
        rw [upd_same, ← Option.some.inj e]
      · rw [upd_ne n]
        exact w5 _ _ (by rw [wo_ne n]; exact e)
    have nl : pl ≠ df := ne_of h5 hf5 fun z => nomatch z
    have h6 : upd H5 df (.dK kf) pl = some (.lst acc5) := by rw [upd_ne nl]; exact h5
    have tS6 : TupS H5 (upd H5 df (.dK kf)) := fun b xs e => by
      rw [upd_ne (ne_of e hf5 fun z => nomatch z)]
      exact e
    have pa6 := Paired.mapP pa5 fun _ _ z => IsItem.mono tS6 z
    generalize upd H5 df (.dK kf) = H6 at w6 h6 pa6 ⊢
    refine ⟨_, rfl, fun x dx hx hdx ndx => ⟨H6, x, dx, pl, acc5, R, F, rfl, ?_, hx, upd_same, h6, pa6, of, fun H7 is s7 => ⟨rfl, q _ _ (w6.trans s7) is⟩⟩⟩
    refine (Same.new hdx).trans (Same.new ?_)
    rw [upd_ne ndx.symm]
    exact hx
end
end Tk

/-! ## TkL8 -/
set_option Elab.async false
set_option linter.all false
set_option maxRecDepth 100000
set_option maxHeartbeats 4000000
namespace Tk
open PySem PySem.Spec PyProof.Rows L2
theorem ixN_nat {n j : Nat} (hj : j < n) : ixN n (j : Int) = some j := by
  unfold ixN
  rw [if_pos (by omega), if_pos (by omega)]
  simp
theorem But.mut {st : Addr} {H H' : Hp} {p : Addr} {o : HO} (b : But st H H') (h : H p = none) (hs : IsSt H st) : But st H (upd H' p o) := by
  obtain ⟨xs, hx⟩ := hs.lst
  have n : st ≠ p := ne_of_none hx h
  refine ⟨fun a u na e => ?_, fun zs e => ?_⟩
  · rw [upd_ne (ne_of_none e h)]
    exact b.1 a u na e
  · rw [upd_ne n]
    exact b.2 zs e
theorem But.same {st : Addr} {H H1 H2 : Hp} (b : But st H H1) (s : Same H1 H2) : But st H H2 := b.trans (But.of s)
theorem But.free {st : Addr} {H H' : Hp} {p : Addr} (b : But st H H') (s : IsSt H' st) (h : H' p = none) : H p = none := by
  obtain ⟨xs, hx⟩ := s.lst
  cases e : H p with
  | none => rfl
  | some o =>
    rw [b.1 p o (ne_of_none hx h).symm e] at h
    cases h
theorem But.wo {st : Addr} {H H' : Hp} (b : But st H H') : Same (wo H st) (wo H' st) := fun a o e => by
  obtain ⟨n, e⟩ := wo_of e
  rw [wo_ne n]
  exact b.1 a o n e
theorem IsSt.ne {H : Hp} {st p : Addr} (s : IsSt H st) (h : H p = none) : p ≠ st := by
  obtain ⟨xs, hx⟩ := s.lst
  exact (ne_of_none hx h).symm
/-- an object that H0 does not know may change -/
theorem IsSt.mut {H0 H : Hp} {st p : Addr} {o : HO} (s0 : IsSt H0 st) (b : But st H0 H) (s : IsSt H st) (h : H0 p = none) : IsSt (upd H p o) st := by
  have n := s0.ne h
  obtain ⟨sc, ns, q, held, seed, h1, h2, n2, r⟩ := s
  obtain ⟨sc0, ns0, _, _, _, k1, k2, _⟩ := s0
  obtain ⟨ys, e1, e2⟩ := b.2 _ k1
  rw [h1] at e1
  cases e1
  have e : sc = sc0 := by
    have e3 : some (V.ref sc) = some (V.ref sc0) := e2
    injection e3 with e3
    injection e3
  refine ⟨sc, ns, q, held, seed, by rw [upd_ne n.symm]; exact h1, ?_, n2, r⟩
  have n3 : sc ≠ p := by
    rw [e]
    exact ne_of_none k2 h
  rw [upd_ne n3]
  exact h2
def RelAt (H : Hp) (st dr : Addr) (R : Rels) : Prop := ∃ kr, H dr = some (.dK kr) ∧ Paired (IsRel (wo H st)) kr R
def FacAt (H : Hp) (st df : Addr) (F : Facts) : Prop := ∃ kf, H df = some (.dK kf) ∧ Paired (IsFact (wo H st)) kf F
theorem RelAt.mono {H H' : Hp} {st dr : Addr} {R : Rels} (h : RelAt H st dr R) (b : But st H H') (n : dr ≠ st) : RelAt H' st dr R := by
  obtain ⟨kr, h1, h2⟩ := h
  exact ⟨kr, b.1 _ _ n h1, Paired.mapP h2 fun _ _ z => z.mono b.wo.tup⟩
theorem FacAt.mono {H H' : Hp} {st df : Addr} {F : Facts} (h : FacAt H st df F) (b : But st H H') (n : df ≠ st) : FacAt H' st df F := by
  obtain ⟨kf, h1, h2⟩ := h
  exact ⟨kf, b.1 _ _ n h1, Paired.mapP h2 fun _ _ z => z.mono b.wo⟩
theorem wo_upd_ne {H : Hp} {st p : Addr} {o : HO} (n : p ≠ st) : wo (upd H p o) st = upd (wo H st) p o := by
  funext b
  by_cases e : b = st
  · subst e
    rw [wo_self, upd_ne n.symm, wo_self]
  · rw [wo_ne e]
    by_cases c : b = p
    · subst c
      rw [upd_same, upd_same]
    · rw [upd_ne c, upd_ne c, wo_ne e]
theorem RelAt.put {H : Hp} {st dr pv pu : Addr} {kr : Way} {R : Rels} {n : Str} {cs : List V} (hkr : H dr = some (.dK kr)) (pk : Paired (IsRel (wo H st)) kr R) (nd : dr ≠ st) (hv : H pv = some (.tup [.ref pu, .int 40])) (hu : H pu = some (.tup cs)) (nv : pv ≠ st) (nu : pu ≠ st) :
    RelAt (upd H dr (.dK (kr ++ [(.inr n, .ref pv)]))) st dr (R ++ [(n, cs)]) := by
  have hw : wo H st dr = some (.dK kr) := by rw [wo_ne nd]; exact hkr
  refine ⟨_, upd_same, ?_⟩
  rw [wo_upd_ne nd]
  refine Paired.app (Paired.mapP pk fun _ _ z => z.other hw (fun _ z => nomatch z)) (.cons ⟨rfl, pv, pu, rfl, ?_, ?_⟩ .nil)
  · rw [upd_ne (ne_of hv hkr fun z => nomatch z), wo_ne nv]
    exact hv
  · rw [upd_ne (ne_of hu hkr fun z => nomatch z), wo_ne nu]
    exact hu
theorem FacAt.put {H : Hp} {st df p : Addr} {kf : Way} {F : Facts} {n : Str} {rows : List Row} (hkf : H df = some (.dK kf)) (pk : Paired (IsFact (wo H st)) kf F) (nd : df ≠ st) (hp : IsRows (wo H st) (.ref p) rows) :
    FacAt (upd H df (.dK (kf ++ [(.inr n, .ref p)]))) st df (F ++ [(n, rows)]) := by
  have hw : wo H st df = some (.dK kf) := by rw [wo_ne nd]; exact hkf
  refine ⟨_, upd_same, ?_⟩
  rw [wo_upd_ne nd]
  exact Paired.app (Paired.mapP pk fun _ _ z => z.other hw (fun _ z => nomatch z) (fun _ z => nomatch z)) (.cons ⟨rfl, hp.other hw (fun _ z => nomatch z) (fun _ z => nomatch z)⟩ .nil)
theorem RelAt.other {H : Hp} {st dr d : Addr} {R : Rels} {u u' : Way} (h : RelAt H st dr R) (hd : H d = some (.dK u)) (n : dr ≠ d) (ns : d ≠ st) : RelAt (upd H d (.dK u')) st dr R := by
  obtain ⟨kr, h1, h2⟩ := h
  have hw : wo H st d = some (.dK u) := by rw [wo_ne ns]; exact hd
  refine ⟨kr, by rw [upd_ne n]; exact h1, ?_⟩
  rw [wo_upd_ne ns]
  exact Paired.mapP h2 fun _ _ z => z.other hw (fun _ z => nomatch z)
theorem FacAt.other {H : Hp} {st df d : Addr} {F : Facts} {u u' : Way} (h : FacAt H st df F) (hd : H d = some (.dK u)) (n : df ≠ d) (ns : d ≠ st) : FacAt (upd H d (.dK u')) st df F := by
  obtain ⟨kf, h1, h2⟩ := h
  have hw : wo H st d = some (.dK u) := by rw [wo_ne ns]; exact hd
  refine ⟨kf, by rw [upd_ne n]; exact h1, ?_⟩
  rw [wo_upd_ne ns]
  exact Paired.mapP h2 fun _ _ z => z.other hw (fun _ z => nomatch z) (fun _ z => nomatch z)
def nm3 : List Str := ["r", "s_1", "t9"]
theorem nm3_nd : nm3.Nodup := by decide +kernel
theorem cut_to (xs : List V) (m : Nat) : cutV xs none (some (m : Int)) = xs.take m := by
  unfold cutV
  have e1 : HT.sIx xs.length 0 none = 0 := rfl
  have e2 : HT.sIx xs.length xs.length (some (m : Int)) = min m xs.length := HT.sIx_nat _ _ m
  rw [e1, e2, List.drop_zero, Nat.sub_zero]
  rw [List.take_eq_take_iff]
  omega
theorem width_snoc {R : Rels} {n : Str} {cs : List V} (h : n ∉ R.map (·.1)) {r : Str} {m : Nat} : widthOf (R ++ [(n, cs)]) r = some m ↔ (widthOf R r = some m ∨ (r = n ∧ m = cs.length)) := by
  unfold widthOf
  rw [List.find?_append]
  cases e : R.find? fun p => decide (p.1 = r) with
  | some p =>
    have e2 := of_decide_eq_true (List.find?_some (p := fun q : Str × List V => decide (q.1 = r)) e)
    have nr : r ≠ n := fun z => h (by rw [← z, ← e2]; exact List.mem_map.mpr ⟨p, List.mem_of_find?_eq_some e, rfl⟩)
    simp [nr]
  | none =>
    by_cases c : n = r
    · subst c
      simp [List.find?_cons, eq_comm]
    · have c' : ¬ r = n := fun z => c z.symm
      simp [List.find?_cons, c, c']
theorem okFacts_snoc {R : Rels} {F : Facts} {n : Str} {cs : List V} {rows : List Row} (of : OkFacts R F) (h : n ∉ R.map (·.1)) (hc : cs.length ≤ 10 ∧ 0 < cs.length) (hl : R.length < 10) (hv : ∀ r ∈ rows, RVal r) (hw : ∀ r ∈ rows, r.length = cs.length) (hs : rows.Pairwise fun x y => ltRow x y = true) (hf : rows.length ≤ 1000) :
    OkFacts (R ++ [(n, cs)]) (F ++ [(n, rows)]) where
  names := by
    rw [List.map_append, List.map_append, of.names]
    rfl
  nd := by
    rw [List.map_append, List.nodup_append]
    refine ⟨of.nd, by simp, fun a ha b hb e => ?_⟩
    have eb : b = n := by simpa using hb
    rw [of.names] at ha
    exact h (by rw [← eb, ← e]; exact ha)
  vals := fun p hp => by
    rcases List.mem_append.mp hp with z | z
    · exact of.vals p z
    · rw [List.mem_singleton.mp z]
      exact hv
  width := fun p hp r hr => by
    rw [width_snoc h]
    rcases List.mem_append.mp hp with z | z
    · exact .inl (of.width p z r hr)
    · have e := List.mem_singleton.mp z
      rw [e] at hr ⊢
      exact .inr ⟨rfl, hw r hr⟩
  sorted := fun p hp => by
    rcases List.mem_append.mp hp with z | z
    · exact of.sorted p z
    · rw [List.mem_singleton.mp z]
      exact hs
  few := fun p hp => by
    rcases List.mem_append.mp hp with z | z
    · exact of.few p z
    · rw [List.mem_singleton.mp z]
      exact hf
  short := fun p hp => by
    rcases List.mem_append.mp hp with z | z
    · exact of.short p z
    · rw [List.mem_singleton.mp z]
      exact hc
  less := by
    rw [List.length_append, List.length_singleton]
    omega
theorem okFacts_nil : OkFacts [] [] := ⟨rfl, .nil, by simp, by simp, by simp, by simp, by simp, Nat.zero_le _⟩
section
variable {P : Program} {w : World} {K : PySem.W.Frag} {mg : Str → Option Value} {base : Heap} {C : Addr}
def spRel : Sp := fun vs H Q _ => ∃ st, vs = [.ref st, .int 5] ∧ IsSt H st ∧ ∀ a dr df H' R F, H' a = some (.tup [.ref dr, .ref df]) → RelAt H' st dr R → FacAt H' st df F → dr ≠ st → df ≠ st → OkFacts R F → 1 ≤ R.length → (∀ p ∈ F, p.2.length ≤ 5) → IsSt H' st → But st H H' → Q (.ref a) H'
theorem c_law_relations (T : Tx K mg C) (C__law_next : C8.Cal P w K mg base 1 "_law_next" spNext []) (C__law_value : C8.Cal P w K mg base 2 "_law_value" spVal []) (C__law_sorted : C8.Cal P w K mg base 3 "_law_sorted" spSorted []) : C8.Cal P w K mg base 4 "_law_relations" spRel [] := by
  refine cal T.d_law_relations (N := ["_law_state_here", "_law_most", "_law_relations_here", "_law_facts", "_law_name", "_law_columns_here", "_law_rows", "_law_k", "_law_row", "_law_column"]) (by decide +kernel) (fun vs H Q E h => ?_) (fun f cdv A outer s H vs Q E nd hr h => ?_)
  · obtain ⟨st, rfl, _⟩ := h
    rfl
  obtain ⟨st, rfl, hst, q⟩ := h
  refine ⟨_, (pss_cons (ps_set (i := 2) nd rfl (Or.inl rfl) pe_dnewK)
    (pss_cons (ps_set (i := 3) nd rfl (Or.inl rfl) pe_dnewK)
    (pss_cons (ps_for PassesOwn.never rfl (piL K (pe_slice (slL K) (pe_lst (pa_cons pe_str (pa_cons pe_str (pa_cons pe_str pa_nil)))) po_none (po_some (pe_op op_add pe_int (C8.pe_c C__law_next hr (by decide) rfl (pa_cons (pv 0) (pa_cons pe_int pa_nil))))))) (pg_name (i := 4) nd rfl (Or.inl rfl))
      (pss_cons (ps_set (i := 5) nd rfl (Or.inl rfl) (pe_ix (ixT K) (pe_tup (pa_cons (pe_lst (pa_cons pe_str (pa_cons pe_str (pa_cons pe_str pa_nil)))) (pa_cons (pe_lst (pa_cons pe_str pa_nil)) (pa_cons (pe_lst (pa_cons pe_str (pa_cons pe_str pa_nil))) (pa_cons (pe_lst (pa_cons pe_str (pa_cons pe_str (pa_cons pe_str pa_nil)))) pa_nil))))) (C8.pe_c C__law_next hr (by decide) rfl (pa_cons (pv 0) (pa_cons pe_int pa_nil))) (fun _ _ => rfl)))
      (pss_cons (ps_dput (hu_of hr) (pv 2) (pv 4) (pe_tup (pa_cons (pe_callTy (tupK K) (by rfl) T.n_tuple (by decide +kernel) (pa_cons (pv 5) pa_nil)) (pa_cons pe_int pa_nil))) rfl)
      (pss_cons (ps_set (i := 6) nd rfl (Or.inl rfl) (pe_lst pa_nil))
      (pss_cons (ps_for PassesOwn.never rfl (pi_range1 rfl T.n_range (pa_cons (C8.pe_c C__law_next hr (by decide) rfl (pa_cons (pv 0) (pa_cons (pe_op op_add (pv 1) pe_int) pa_nil))) pa_nil)) (pg_name (i := 7) nd rfl (Or.inl rfl))
        (pss_cons (ps_setLc (i := 8) (own := [("_law_column", 9)]) rfl nd rfl rfl (sw_true rfl rfl rfl (by decide +kernel)) (piL K (pv 5)) (blkOk_by (own := [("_law_column", 9)]) (N := ["_law_state_here", "_law_most", "_law_relations_here", "_law_facts", "_law_name", "_law_columns_here", "_law_rows", "_law_k", "_law_row", "_law_column"]) (sc := (C8.fnScope s_law_relations)) (by decide +kernel)) (fun _ _ _ _ _ => (pg_name (i := 9) nd rfl (Or.inl rfl))) (fun _ _ _ _ _ => pts_nil) (fun _ _ _ _ _ => (C8.pe_c C__law_value hr (by decide) rfl (pa_cons (pv 0) pa_nil))))
        (C8.pss_cut (ps_if (PW.pt (pw_and (pt_cmpR op_gt (pe_callB (lenK K) (by rfl) T.n_len (by decide +kernel) (pa_cons (pv 6) pa_nil)) pe_int (nomark _)) (pw_and1 (pt_cmpR op_eq (C8.pe_c C__law_next hr (by decide) rfl (pa_cons (pv 0) (pa_cons pe_int pa_nil))) pe_int (nomark _)))))
          (pss_one (ps_asg (pe_ix (ixT K) (pe_ix (ixL K) (pv 6) (C8.pe_c C__law_next hr (by decide) rfl (pa_cons (pv 0) (pa_cons (pe_callB (lenK K) (by rfl) T.n_len (by decide +kernel) (pa_cons (pv 6) pa_nil)) pa_nil))) (fun _ _ => rfl)) (C8.pe_c C__law_next hr (by decide) rfl (pa_cons (pv 0) (pa_cons (pe_callB (lenK K) (by rfl) T.n_len (by decide +kernel) (pa_cons (pv 8) pa_nil)) pa_nil))) (fun _ _ => rfl)) (pg_sub (pv 8) (C8.pe_c C__law_next hr (by decide) rfl (pa_cons (pv 0) (pa_cons (pe_callB (lenK K) (by rfl) T.n_len (by decide +kernel) (pa_cons (pv 8) pa_nil)) pa_nil))) set_list)))
          pss_nil)
        (pss_one (ps_expr (pe_bm PySem.F.plainAttrs_list PySem.F.slot_list_append PySem.F.type_list_append mt_append (pv 6) (pa_cons (pe_callTy (tupK K) (by rfl) T.n_tuple (by decide +kernel) (pa_cons (pv 8) pa_nil)) pa_nil)))))))
      (pss_one (ps_dput (hu_of hr) (pv 3) (pv 4) (C8.pe_c C__law_sorted hr (by decide) rfl (pa_cons (pv 6) pa_nil)) rfl)))))))
    (pss_one (ps_ret (pe_tup (pa_cons (pv 2) (pa_cons (pv 3) pa_nil)))))))), ?_⟩
  refine sqS fun dr hdr => ?_
  refine sqS fun df hdf => ?_
  have ndr := hst.ne hdr
  have s1 : Same H (upd H dr (.dK [])) := Same.new hdr
  have hdf0 : H df = none := s1.free hdf
  have ndf := hst.ne hdf0
  have nrf : dr ≠ df := fun e => by rw [e, upd_same] at hdf; cases hdf
  have s2 : Same H (upd (upd H dr (.dK [])) df (.dK [])) := s1.trans (Same.new hdf)
  have rA : RelAt (upd (upd H dr (.dK [])) df (.dK [])) st dr [] := ⟨[], by rw [upd_ne nrf]; exact upd_same, .nil⟩
  have fA : FacAt (upd (upd H dr (.dK [])) df (.dK [])) st df [] := ⟨[], upd_same, .nil⟩
  generalize upd (upd H dr (.dK [])) df (.dK []) = H1 at s2 rA fA
  have st1 := hst.mono s2
  refine sqF ⟨sz_ok (by show 3 ≤ _; decide), fun pn hpn => ⟨_, rfl, st, _, rfl, st1.mono (Same.new hpn), by decide, by decide, fun n H2 n0 n1 st2 b2 => ⟨_, _, rfl, rfl, _, rfl, ?_⟩⟩⟩
  obtain ⟨m, rfl⟩ := Int.eq_ofNat_of_zero_le n0
  have npn := st1.ne hpn
  have hpn2 := b2.1 pn _ npn upd_same
  have b12 : But st H1 H2 := (But.of (Same.new hpn)).trans b2
  refine ⟨pn, _, rfl, sqL hpn2, fun ps hps => ?_⟩
  have em : ((1 : Int) + (m : Int)) = ((1 + m : Nat) : Int) := by push_cast; rfl
  rw [em, cut_to, show [V.str "r", V.str "s_1", V.str "t9"] = nm3.map V.str from rfl, ← List.map_take]
  have b13 : But st H1 (upd H2 ps (.lst ((nm3.take (1 + m)).map V.str))) := b12.same (Same.new hps)
  have st3 := st2.mono (Same.new (o := .lst ((nm3.take (1 + m)).map V.str)) hps)
  have hps3 : upd H2 ps (.lst ((nm3.take (1 + m)).map V.str)) ps = some (.lst ((nm3.take (1 + m)).map V.str)) := upd_same
  have nps : ps ≠ st := st2.ne hps
  generalize upd H2 ps (.lst ((nm3.take (1 + m)).map V.str)) = H3 at b13 st3 hps3
  have ln : (nm3.take (1 + m)).length = 1 + m := by
    rw [List.length_take]
    have : nm3.length = 3 := rfl
    omega
  have hnd : (nm3.take (1 + m)).Nodup := List.Nodup.sublist (List.take_sublist _ _) nm3_nd
  generalize nm3.take (1 + m) = nms at ln hnd hps3
  refine ⟨ps, rfl, ⟨_, sqL hps3⟩, ?_⟩
  have hps0 : H ps = none := by
    have := b12.free st2 hps
    exact s2.free this
  refine for_list (xs := nms.map V.str) (fun i σ H4 => ∃ o4 o5 o6 o7 o8, σ = [some (.ref st), some (.int 5), some (.ref dr), some (.ref df), o4, o5, o6, o7, o8, none] ∧ IsSt H4 st ∧ But st H H4 ∧ H4 ps = some (.lst (nms.map V.str)) ∧ ∃ R F, RelAt H4 st dr R ∧ FacAt H4 st df F ∧ OkFacts R F ∧ R.map (·.1) = nms.take i ∧ ∀ p ∈ F, p.2.length ≤ 5)
    ⟨none, none, none, none, none, rfl, st3, (But.of s2).trans b13, hps3, [], [], rA.mono b13 ndr, fA.mono b13 ndf, okFacts_nil, rfl, by simp⟩ (fun i σ H4 _ h => ?_) (fun i x σ H4 hx h => ?_) fun σ H4 h => ?_
  · obtain ⟨_, _, _, _, _, _, _, _, h, _⟩ := h
    exact sqL h
  · obtain ⟨o4, o5, o6, o7, o8, rfl, st4, b4, hps4, R, F, rA, fA, of, hnm, h5⟩ := h
    rw [List.getElem?_map] at hx
    obtain ⟨nm, hnm2, rfl⟩ := Option.map_eq_some_iff.mp hx
    have hil := getElem?_range hnm2
    have lR : R.length = i := by
      have := congrArg List.length hnm
      rw [List.length_map, List.length_take] at this
      omega
    have nR : nm ∉ R.map (·.1) := by
      rw [hnm]
      intro hm
      have e2 : nms = nms.take i ++ nm :: nms.drop (i + 1) := by rw [← drop_at hnm2, List.take_append_drop]
      rw [e2, List.nodup_append] at hnd
      exact hnd.2.2 nm hm nm (by simp) rfl
    -- the columns
    refine sqS ⟨sz_ok (by show 3 ≤ _; decide), fun p1 hp1 => ⟨sz_ok (by show 1 ≤ _; decide), fun p2 hp2 => ⟨sz_ok (by show 2 ≤ _; decide), fun p3 hp3 => ⟨sz_ok (by show 3 ≤ _; decide), fun p4 hp4 => ⟨z4, fun pt hpt => ?_⟩⟩⟩⟩⟩
    have t1 : Same H4 (upd H4 p1 (.lst [.str "a", .str "b", .str "c"])) := Same.new hp1
    have c1 : upd H4 p1 (.lst [.str "a", .str "b", .str "c"]) p1 = some (.lst [.str "a", .str "b", .str "c"]) := upd_same
    generalize upd H4 p1 (.lst [.str "a", .str "b", .str "c"]) = G1 at t1 c1 hp2 hp3 hp4 hpt
    have t2 : Same G1 (upd G1 p2 (.lst [.str "k"])) := Same.new hp2
    have c2 : upd G1 p2 (.lst [.str "k"]) p2 = some (.lst [.str "k"]) := upd_same
    generalize upd G1 p2 (.lst [.str "k"]) = G2 at t2 c2 hp3 hp4 hpt
    have t3 : Same G2 (upd G2 p3 (.lst [.str "b", .str "a"])) := Same.new hp3
    have c3 : upd G2 p3 (.lst [.str "b", .str "a"]) p3 = some (.lst [.str "b", .str "a"]) := upd_same
    generalize upd G2 p3 (.lst [.str "b", .str "a"]) = G3 at t3 c3 hp4 hpt
    have t4 : Same G3 (upd G3 p4 (.lst [.str "x_", .str "a", .str "y"])) := Same.new hp4
    have c4 : upd G3 p4 (.lst [.str "x_", .str "a", .str "y"]) p4 = some (.lst [.str "x_", .str "a", .str "y"]) := upd_same
    generalize upd G3 p4 (.lst [.str "x_", .str "a", .str "y"]) = G4 at t4 c4 hpt
    have t5 : Same G4 (upd G4 pt (.tup [.ref p1, .ref p2, .ref p3, .ref p4])) := Same.new hpt
    have c5 : upd G4 pt (.tup [.ref p1, .ref p2, .ref p3, .ref p4]) pt = some (.tup [.ref p1, .ref p2, .ref p3, .ref p4]) := upd_same
    generalize upd G4 pt (.tup [.ref p1, .ref p2, .ref p3, .ref p4]) = G5 at t5 c5
    have t15 : Same H4 G5 := (((t1.trans t2).trans t3).trans t4).trans t5
    have st5 := st4.mono t15
    refine ⟨_, rfl, st, _, rfl, st5, by decide, by decide, fun k H5 k0 k1 st6 b5 => ?_⟩
    obtain ⟨v, hv, hm⟩ := at_in (xs := [V.ref p1, .ref p2, .ref p3, .ref p4]) k0 k1
    have nl : ∀ {p : Addr} {xs : List V}, G5 p = some (.lst xs) → p ≠ st → H5 p = some (.lst xs) := fun h n => b5.1 _ _ n h
    have key : ∃ (pc : Addr) (cs : List V), v = .ref pc ∧ H5 pc = some (.lst cs) ∧ pc ≠ st ∧ cs.length ≤ 10 ∧ 0 < cs.length := by
      simp only [List.mem_cons, List.not_mem_nil, or_false] at hm
      rcases hm with rfl | rfl | rfl | rfl
      · exact ⟨p1, _, rfl, nl ((((t2.trans t3).trans t4).trans t5) _ _ c1) (st4.ne hp1), st4.ne hp1, by decide, by decide⟩
      · exact ⟨p2, _, rfl, nl (((t3.trans t4).trans t5) _ _ c2) ((st4.mono t1).ne hp2), (st4.mono t1).ne hp2, by decide, by decide⟩
      · exact ⟨p3, _, rfl, nl ((t4.trans t5) _ _ c3) ((st4.mono (t1.trans t2)).ne hp3), (st4.mono (t1.trans t2)).ne hp3, by decide, by decide⟩
      · exact ⟨p4, _, rfl, nl (t5 _ _ c4) ((st4.mono ((t1.trans t2).trans t3)).ne hp4), (st4.mono ((t1.trans t2).trans t3)).ne hp4, by decide, by decide⟩
    obtain ⟨pc, cs, rfl, hpc, npc, hcl⟩ := key
    have b45 : But st H4 H5 := (But.of t15).trans b5
    have hpt5 : G5 pt = some (.tup [.ref p1, .ref p2, .ref p3, .ref p4]) := c5
    have npt : pt ≠ st := by
      obtain ⟨ys, hy⟩ := st5.lst
      exact ne_of hpt5 hy fun z => nomatch z
    refine ⟨pt, _, k, .ref pc, rfl, rfl, sqT (b5.1 _ _ npt hpt5), hv, ?_⟩
    -- the relation
    obtain ⟨kr, hkr, pkr⟩ := rA.mono b45 ndr
    have vn := valV_rel_none pkr nR
    have lkr := same_len pkr
    have hps5 := b45.1 _ _ nps hps4
    refine sq ⟨_, rfl, pc, cs, rfl, sqL hpc, fun pu hpu => ⟨z2, fun pv hpv => ?_⟩⟩
    have u1 : Same H5 (upd H5 pu (.tup cs)) := Same.new hpu
    have cu : upd H5 pu (.tup cs) pu = some (.tup cs) := upd_same
    have npu := st6.ne hpu
    have st61 := st6.mono u1
    generalize upd H5 pu (.tup cs) = U1 at u1 cu hpv st61
    have u2 : Same U1 (upd U1 pv (.tup [.ref pu, .int 40])) := Same.new hpv
    have cv : upd U1 pv (.tup [.ref pu, .int 40]) pv = some (.tup [.ref pu, .int 40]) := upd_same
    have npv := st61.ne hpv
    have st62 := st61.mono u2
    generalize upd U1 pv (.tup [.ref pu, .int 40]) = U2 at u2 cv st62
    have u12 := u1.trans u2
    have bU : But st H U2 := (b4.trans b45).same u12
    refine ⟨_, rfl, _, rfl, dr, _, rfl, DPut.k (k := .inr nm) (u12 _ _ hkr) (sz_ok' (by omega)), ?_⟩
    rw [putK_new _ vn]
    have pkr2 : Paired (IsRel (wo U2 st)) kr R := Paired.mapP pkr fun _ _ z => z.mono (But.of (st := st) u12).wo.tup
    have rG := RelAt.put (n := nm) (u12 _ _ hkr) pkr2 ndr cv (u2 _ _ cu) npv npu
    have fG : FacAt (upd U2 dr (.dK (kr ++ [(.inr nm, .ref pv)]))) st df F := (fA.mono (b45.same u12) ndf).other (u12 _ _ hkr) nrf.symm ndr
    have stG := hst.mut bU st62 hdr (o := .dK (kr ++ [(.inr nm, .ref pv)]))
    have bG := bU.mut hdr hst (o := .dK (kr ++ [(.inr nm, .ref pv)]))
    have npsdr : ps ≠ dr := ne_of hps5 hkr fun z => nomatch z
    have npcdr : pc ≠ dr := ne_of hpc hkr fun z => nomatch z
    have hpsG : upd U2 dr (.dK (kr ++ [(.inr nm, .ref pv)])) ps = some (.lst (nms.map V.str)) := by rw [upd_ne npsdr]; exact u12 _ _ hps5
    have hpcG : upd U2 dr (.dK (kr ++ [(.inr nm, .ref pv)])) pc = some (.lst cs) := by rw [upd_ne npcdr]; exact u12 _ _ hpc
    generalize upd U2 dr (.dK (kr ++ [(.inr nm, .ref pv)])) = G at rG fG stG bG hpsG hpcG
    dsimp only
    -- the rows
    refine sqS ⟨z0, fun p6 hp6 => ?_⟩
    have stG' := stG.mono (Same.new (o := .lst []) hp6)
    have np6 := stG.ne hp6
    refine sqF ⟨_, rfl, _, rfl, _, _, rfl, rfl, st, _, rfl, stG', by decide, by decide, fun kk H7 k0' k1' st7 b7 => ⟨kk, rfl, by omega, by omega, ?_⟩⟩
    have b7' : But st G H7 := (But.of (Same.new hp6)).trans b7
    refine for_range (n := kk.toNat) (fun k σ H8 => ∃ o7 o8, σ = [some (.ref st), some (.int 5), some (.ref dr), some (.ref df), some (.str nm), some (.ref pc), some (.ref p6), o7, o8, none] ∧ IsSt H8 st ∧ But st G H8 ∧ ∃ acc rws, H8 p6 = some (.lst acc) ∧ Paired (IsRow H8) acc rws ∧ (∀ r ∈ rws, RVal r ∧ r.length = cs.length) ∧ rws.length ≤ k)
      ⟨_, _, rfl, st7, b7', [], [], b7.1 _ _ np6 upd_same, .nil, by simp, Nat.le_refl _⟩ (fun k σ H8 hk h => ?_) fun σ H8 h => ?_
    · obtain ⟨o7, o8, rfl, st8, b8, acc, rws, h6, pw, hr5, lw⟩ := h
      have lacc := same_len pw
      have hpc8 := b8.1 _ _ npc hpcG
      refine sqS ⟨_, rfl, pc, rfl, ⟨cs, sqL hpc8⟩, fun D hD => ?_⟩
      have nD := st8.ne hD
      have hDG : G D = none := b8.free st8 hD
      have n6D : p6 ≠ D := ne_of_none h6 hD
      refine lc_list (xs := cs) (fun j H9 => IsSt H9 st ∧ But st H8 H9 ∧ ∃ vs, H9 D = some (.lst vs) ∧ vs.length = j ∧ ∀ v ∈ vs, IsVal v) ⟨st8.mono (Same.new hD), But.of (Same.new hD), [], upd_same, rfl, by simp⟩ (fun j H9 _ h => sqL (h.2.1.1 _ _ npc hpc8)) (fun j z H9 hz h => ?_) fun H9 h => ?_
      · obtain ⟨st9, b9, vs, h9, lv, iv⟩ := h
        have hj := getElem?_range hz
        refine ⟨rfl, tyes (iteT ⟨_, rfl, st, rfl, st9, fun v H10 ivv st10 b10 => ⟨vs, b10.1 D _ nD h9, sz_ok' (by omega), st8.mut (b9.trans b10) st10 hD, (b9.trans b10).mut hD st8, _, upd_same, by rw [List.length_append, lv]; rfl, fun x hx => ?_⟩⟩)⟩
        rcases List.mem_append.mp hx with m | m
        · exact iv x m
        · rw [List.mem_singleton.mp m]
          exact ivv
      obtain ⟨st9, b9, vs, h9, lv, iv⟩ := h
      have h69 := b9.1 _ _ np6 h6
      have pw9 : Paired (IsRow H9) acc rws := Paired.mapP pw fun _ _ z => z.mono (b9.tup st8.lst)
      dsimp only
      refine ⟨fun σ' H' => σ' = [some (.ref st), some (.int 5), some (.ref dr), some (.ref df), some (.str nm), some (.ref pc), some (.ref p6), some (.int (0 + (k : Int))), some (.ref D), none] ∧ IsSt H' st ∧ But st H8 H' ∧ ∃ vs, H' D = some (.lst vs) ∧ vs.length = cs.length ∧ ∀ v ∈ vs, IsVal v, ?_, fun σ' H' h => ?_⟩
      · have no : ∀ H', But st H9 H' → IsSt H' st → IsSt H' st ∧ But st H8 H' ∧ ∃ vs, H' D = some (.lst vs) ∧ vs.length = cs.length ∧ ∀ v ∈ vs, IsVal v := fun H' b s => ⟨s, b9.trans b, vs, b.1 _ _ nD h9, lv, iv⟩
        refine ⟨_, rfl, _, _, rfl, .inl (sqL h69), _, _, rfl, rfl, _, rfl, ?_⟩
        by_cases c : (0 : Int) < (acc.length : Int)
        · rw [decide_eq_true c]
          refine iteT ⟨_, rfl, st, _, rfl, st9, by decide, by decide, fun z Hz z0 z1 stz bz => ⟨rfl, _, rfl, ?_⟩⟩
          by_cases e : z = 0
          · refine ifEq (by rw [e]) ?_
            have h6z := bz.1 _ _ np6 h69
            have hDz := bz.1 _ _ nD h9
            have pwz : Paired (IsRow Hz) acc rws := Paired.mapP pw9 fun _ _ z => z.mono (bz.tup st9.lst)
            have l1 : (acc.length : Int) ≤ 100000 := by omega
            have l2 : (vs.length : Int) ≤ 100000 := by omega
            have l3 : 0 < (vs.length : Int) := by omega
            refine ⟨_, rfl, _, rfl, _, rfl, _, _, rfl, .inl (sqL h6z), st, _, rfl, stz, c, l1, fun i1 Ha a0 a1 sta ba => ?_⟩
            obtain ⟨x1, hx1, mx1⟩ := at_in a0 a1
            have h6a := ba.1 _ _ np6 h6z
            have hDa := ba.1 _ _ nD hDz
            have pwa : Paired (IsRow Ha) acc rws := Paired.mapP pwz fun _ _ z => z.mono (ba.tup stz.lst)
            obtain ⟨j1, hj1, e1⟩ := List.getElem_of_mem mx1
            obtain ⟨r1, hr1, c1, ec1, hc1⟩ := Paired.at pwa (j := j1) (x := x1) (by rw [← e1]; exact List.getElem?_eq_getElem hj1)
            obtain ⟨rv1, rl1⟩ := hr5 r1 (List.mem_of_getElem? hr1)
            subst ec1
            refine ⟨p6, acc, i1, _, rfl, rfl, sqL h6a, hx1, ?_⟩
            refine ⟨_, rfl, _, rfl, _, _, rfl, .inl (sqL hDa), st, _, rfl, sta, l3, l2, fun i2 Hb b0 b1 stb bb => ?_⟩
            have hDb := bb.1 _ _ nD hDa
            have hc1b := bb.tup sta.lst _ _ hc1
            obtain ⟨v1, hv1, mv1⟩ := at_in (xs := r1) b0 (by omega)
            refine ⟨c1, r1, i2, v1, rfl, rfl, sqT hc1b, hv1, ?_⟩
            refine ⟨_, rfl, _, rfl, _, rfl, _, _, rfl, .inl (sqL hDb), st, _, rfl, stb, l3, l2, fun i3 Hc c0 c1' stc bc => ?_⟩
            have hDc := bc.1 _ _ nD hDb
            obtain ⟨j3, rfl⟩ := Int.eq_ofNat_of_zero_le c0
            refine ⟨D, vs, _, j3, rfl, rfl, hDc, ixN_nat (by omega), ?_⟩
            have b8c := (((b9.trans bz).trans ba).trans bb).trans bc
            refine ⟨rfl, st8.mut b8c stc hD, b8c.mut hD st8, _, upd_same, by rw [List.length_set]; exact lv, fun x hx => ?_⟩
            rcases List.mem_or_eq_of_mem_set hx with m | m
            · exact iv x m
            · rw [m]
              exact rv1 v1 mv1
          · exact ifNe (fun z => e (by injection z)) ⟨rfl, no _ bz stz⟩
        · rw [decide_eq_false c]
          exact iteF (iteF ⟨rfl, no _ (But.refl _ _) st9⟩)
      · obtain ⟨rfl, stq, bq, vs2, hD2, lv2, iv2⟩ := h
        have h6q := bq.1 _ _ np6 h6
        have pwq : Paired (IsRow H') acc rws := Paired.mapP pw fun _ _ z => z.mono (bq.tup st8.lst)
        refine ⟨_, rfl, .inl ⟨rfl, _, sqL h6q⟩, _, rfl, D, vs2, rfl, sqL hD2, fun pt2 hpt2 => ?_⟩
        have s9 : Same H' (upd H' pt2 (.tup vs2)) := Same.new hpt2
        have cpt : upd H' pt2 (.tup vs2) pt2 = some (.tup vs2) := upd_same
        have stq9 := stq.mono s9
        generalize upd H' pt2 (.tup vs2) = H11 at s9 cpt stq9
        have h611 := s9 _ _ h6q
        have tS := tupS_lst (ys := acc ++ [.ref pt2]) h611
        refine ⟨p6, acc, .ref pt2, rfl, rfl, h611, sz_ok' (by omega), ?_⟩
        have bG11 := (b8.trans bq).same s9
        refine ⟨_, _, rfl, stG.mut bG11 stq9 hp6, bG11.mut hp6 stG, acc ++ [.ref pt2], rws ++ [vs2], upd_same, Paired.app (Paired.mapP pwq fun _ _ z => z.mono (s9.tup.trans tS)) (.cons ⟨pt2, rfl, tS _ _ cpt⟩ .nil), fun r hr => ?_, by rw [List.length_append]; exact Nat.succ_le_succ lw⟩
        rcases List.mem_append.mp hr with m | m
        · exact hr5 r m
        · rw [List.mem_singleton.mp m]
          exact ⟨iv2, lv2⟩
    · obtain ⟨o7, o8, rfl, st8, b8, acc, rws, h6, pw, hr5, lw⟩ := h
      have lk : kk.toNat ≤ 5 := by omega
      refine ⟨_, rfl, p6, acc, rws, rfl, h6, pw, fun r hr => ⟨(hr5 r hr).1, by have := (hr5 r hr).2; omega⟩, by omega, fun pz Hs ss hpz rows => ?_⟩
      have b8s := b8.same ss
      have sts := st8.mono ss
      obtain ⟨kf, hkf, pkf⟩ := fG.mono b8s ndf
      have nF : nm ∉ F.map (·.1) := by
        rw [of.names]
        exact nR
      have vn2 := valV_key_none pkf nF
      have lkf := same_len pkf
      have lF := congrArg List.length of.names
      rw [List.length_map, List.length_map] at lF
      have npz := st8.ne hpz
      have rows' : IsRows (wo Hs st) (.ref pz) (sortM rws) := by
        obtain ⟨a2, zs2, ea2, ha2, pz2⟩ := rows
        cases ea2
        obtain ⟨ys, hy⟩ := sts.lst
        refine ⟨pz, zs2, rfl, by rw [wo_ne npz]; exact ha2, Paired.mapP pz2 fun x r z => ?_⟩
        obtain ⟨c, ec, hc⟩ := z
        exact ⟨c, ec, by rw [wo_ne (ne_of hc hy fun z => nomatch z)]; exact hc⟩
      refine ⟨_, rfl, _, rfl, df, _, rfl, DPut.k (k := .inr nm) hkf (sz_ok' (by omega)), ?_⟩
      rw [putK_new _ vn2]
      have bHs := bG.trans b8s
      have fF := FacAt.put (n := nm) hkf pkf ndf rows'
      have rF := (rG.mono b8s ndr).other (u' := kf ++ [(.inr nm, .ref pz)]) hkf nrf ndf
      have npsdf : ps ≠ df := ne_of (b8s.1 _ _ nps hpsG) hkf fun z => nomatch z
      have hv : ∀ r ∈ rws, RVal r := fun r hr => (hr5 r hr).1
      have hms := mem_sortM hv
      have ls := sortM_len rws
      refine ⟨_, _, _, _, _, rfl, hst.mut bHs sts hdf0, bHs.mut hdf0 hst, by rw [upd_ne npsdf]; exact b8s.1 _ _ nps hpsG, R ++ [(nm, cs)], F ++ [(nm, sortM rws)], rF, fF,
        okFacts_snoc of nR hcl (by omega) (fun r hr => hv r ((hms r).mp hr)) (fun r hr => (hr5 r ((hms r).mp hr)).2) (sortM_sorted hv) (by omega), ?_, fun p hp => ?_⟩
      · rw [List.map_append, hnm, take_snoc hnm2]
        rfl
      · rcases List.mem_append.mp hp with m | m
        · exact h5 p m
        · rw [List.mem_singleton.mp m]
          show (sortM rws).length ≤ 5
          omega
  · obtain ⟨o4, o5, o6, o7, o8, rfl, st4, b4, hps4, R, F, rA, fA, of, hnm, h5⟩ := h
    rw [List.length_map, List.take_length] at hnm
    have lR : R.length = 1 + m := by
      have := congrArg List.length hnm
      rw [List.length_map] at this
      omega
    refine ⟨_, rfl, _, rfl, z2, fun pz hpz => ?_⟩
    have s9 : Same H4 (upd H4 pz (.tup [.ref dr, .ref df])) := Same.new hpz
    exact q pz dr df _ R F upd_same (rA.mono (But.of s9) ndr) (fA.mono (But.of s9) ndf) ndr ndf of (by omega) h5 (st4.mono s9) (b4.same s9)
end
end Tk

/-! ## TkL9 -/
set_option Elab.async false
set_option linter.all false
set_option maxRecDepth 100000
set_option maxHeartbeats 4000000
namespace Tk
open PySem PySem.Spec PyProof.Rows L2
theorem relKeys {H : Hp} {kr : Way} {R : Rels} (h : Paired (IsRel H) kr R) : (kr.map fun kv => kV kv.1) = (R.map (·.1)).map V.str := by
  induction h with
  | nil => rfl
  | @cons p q ps qs h t ih =>
    rw [List.map_cons, List.map_cons, List.map_cons, ih, h.1]
    rfl
theorem z6 {a b c d e f : V} : [a, b, c, d, e, f].length ≤ sizeLine := sz_ok (by show 6 ≤ 100000; decide)
theorem z9 {a b c d e f g h i : V} : [a, b, c, d, e, f, g, h, i].length ≤ sizeLine := sz_ok (by show 9 ≤ 100000; decide)
/-! terms as data -/
def tmD : Tm → PyData
  | .val v => .tuple [.str "value", vD v]
  | .var x => .tuple [.str "variable", .str x]
  | .any => .tuple [.str "any"]
theorem tm_dp {K : PySem.W.Frag} {H : Hp} {x : V} {t : Tm} (h : IsTm H x t) (ok : OkT t) : Dp K H x (tmD t) := by
  obtain ⟨a, rfl, ha⟩ := h
  cases t with
  | val v => exact .tup (sqT ha) (.cons (.str _) (.cons (vD_dp ok) .nil))
  | var x => exact .tup (sqT ha) (.cons (.str _) (.cons (.str _) .nil))
  | any => exact .tup (sqT ha) (.cons (.str _) .nil)
theorem tm_shaped {t : Tm} (ok : OkT t) (nm : NmOk t) : SeqAt.shaped (tmD t) = true := by
  show ((tmD t).canLay0 && decide ((tmD t).depth ≤ 64)) = true
  cases t with
  | val v =>
    have e1 := vD_kind.lay v ok
    have e2 := vD_kind.dep v ok
    have e3 : PyData.strOk "value" = true := by decide +kernel
    simp only [tmD, PyData.canLay0, PyData.canLayAll0, PyData.depth, PyData.depthAll, e1, e3]
    simp
    omega
  | var x =>
    have e1 := nm x rfl
    have e3 : PyData.strOk "variable" = true := by decide +kernel
    simp only [tmD, PyData.canLay0, PyData.canLayAll0, PyData.depth, PyData.depthAll, e1, e3]
    simp
  | any =>
    have e3 : PyData.strOk "any" = true := by decide +kernel
    simp only [tmD, PyData.canLay0, PyData.canLayAll0, PyData.depth, PyData.depthAll, e3]
    simp
theorem tm_eq {t : Tm} {n : Str} : PyData.eqv (tmD t) (tmD (.var n)) = decide (t = .var n) := by
  cases t with
  | val v =>
    have e : ¬ ("value" : Str) = "variable" := by decide +kernel
    simp only [tmD, PyData.eqv, PyData.eqvAll]
    simp [e]
  | var x =>
    simp only [tmD, PyData.eqv, PyData.eqvAll]
    by_cases e : x = n <;> simp [e]
  | any =>
    simp only [tmD, PyData.eqv, PyData.eqvAll]
    simp
def replM (v : Str) (t : Tm) : Tm := if t = .var v then .any else t
/-- a list of terms at p, that is not st -/
def TmL (H : Hp) (st p : Addr) (ts : List Tm) : Prop := p ≠ st ∧ ∃ xs, H p = some (.lst xs) ∧ Paired (IsTm H) xs ts
theorem TmL.mono {H H' : Hp} {st p : Addr} {ts : List Tm} (h : TmL H st p ts) (b : But st H H') (s : IsSt H st) : TmL H' st p ts := by
  obtain ⟨n, xs, h1, h2⟩ := h
  exact ⟨n, xs, b.1 _ _ n h1, Paired.mapP h2 fun _ _ z => z.mono (b.tup s.lst)⟩
theorem tms_new {H : Hp} {xs : List V} {ts : List Tm} {pt : Addr} (h : Paired (IsTm H) xs ts) (hp : H pt = none) : IsTms (upd H pt (.tup xs)) (.ref pt) ts :=
  ⟨pt, xs, rfl, upd_same, Paired.mapP h fun _ _ z => z.mono (Same.new hp).tup⟩
theorem known_ok {ks : List Str} {t : Tm} (h : OkT t) : OkT (knownM ks t) := by
  cases t with
  | val v => exact h
  | any => trivial
  | var n =>
    show OkT (if n ∈ ks then .var n else .any)
    split <;> trivial
theorem known_names {ks : List Str} : ∀ ts : List Tm, ∀ n ∈ namesM (ts.map (knownM ks)), n ∈ ks := by
  intro ts n h
  rw [mem_names] at h
  obtain ⟨t, _, e⟩ := List.mem_map.mp h
  cases t with
  | val v => cases e
  | any => cases e
  | var m =>
    have e' : (if m ∈ ks then Tm.var m else .any) = .var n := e
    split at e'
    · rename_i hm
      cases e'
      exact hm
    · cases e'
theorem settled_ok {ks : List Str} {t : Tm} (h : OkT t) : OkTm ks (settledM ks t) := by
  cases t with
  | val v => exact h
  | any => trivial
  | var n =>
    show OkTm ks (if n ∈ ks then .var n else .val (.int 1))
    split
    · rename_i hm
      exact hm
    · trivial
theorem repl_ok {v : Str} {t : Tm} (h : OkT t) : OkT (replM v t) := by
  unfold replM
  split
  · trivial
  · exact h
theorem repl_names {v : Str} (ts : List Tm) : v ∉ namesM (ts.map (replM v)) := by
  intro h
  rw [mem_names] at h
  obtain ⟨t, _, e⟩ := List.mem_map.mp h
  unfold replM at e
  split at e
  · cases e
  · rename_i n
    exact n e
theorem repl_nm {v : Str} {t : Tm} (h : NmOk t) : NmOk (replM v t) := by
  unfold replM
  split
  · exact fun _ z => nomatch z
  · exact h
theorem names_nm {ts : List Tm} (h : ∀ t ∈ ts, NmOk t) : ∀ n ∈ namesM ts, PyData.strOk n = true := fun n hn => h _ (mem_names.mp hn) n rfl
theorem okTm_perm {as bs : List Str} {t : Tm} (h : OkTm (as ++ bs) t) : OkTm (bs ++ as) t := by
  cases t with
  | val v => exact h
  | any => exact h
  | var n => exact List.mem_append.mpr (List.mem_append.mp h).symm
/-- relations to choose from -/
structure OkRs (R : Rels) : Prop where
  one : 1 ≤ R.length
  ten : R.length ≤ 10
  nd : (R.map (·.1)).Nodup
  short : ∀ p ∈ R, p.2.length ≤ 10 ∧ 0 < p.2.length
theorem width_some {R : Rels} {r : Str} (h : r ∈ R.map (·.1)) : ∃ n, widthOf R r = some n := by
  unfold widthOf
  cases e : R.find? fun p => decide (p.1 = r) with
  | none =>
    obtain ⟨p, hp, e2⟩ := List.mem_map.mp h
    have := List.find?_eq_none.mp e p hp
    exact absurd (decide_eq_true e2) this
  | some p => exact ⟨_, rfl⟩
theorem sA {te : TE} {i : Nat} {D : Ends} {σ : L2.St} {H : Hp} (h : te σ H fun x H1 => D.nx (σ.set i (some x)) H1) : tAsg te (gName i) D σ H := h
/-- the slots, told anew -/
theorem reS {t : TS} {D : Ends} {σ : L2.St} {H : Hp} (σ' : L2.St) (e : σ = σ') (h : t D σ' H) : t D σ H := by
  rw [e]
  exact h
section
variable {P : Program} {w : World} {K : PySem.W.Frag} {mg : Str → Option Value} {base : Heap} {C : Addr}
def spLit : Sp := fun vs H Q _ => ∃ (st dr bd : Addr) (ks : List Str) (R : Rels), vs = [.ref st, .ref dr, .ref bd, .bl false] ∧ IsSt H st ∧ RelAt H st dr R ∧ dr ≠ st ∧ H bd = some (.lst (ks.map V.str)) ∧ bd ≠ st ∧ ks.length ≤ 900 ∧ (∀ n ∈ ks, PyData.strOk n = true) ∧ OkRs R ∧
  ∀ v H' l, IsLit H' v l → OkLit R ks l → (∀ n ∈ newM l, PyData.strOk n = true) → IsSt H' st → But st H H' → Q v H'
theorem c_law_literal (T : Tx K mg C) (C__law_next : C8.Cal P w K mg base 1 "_law_next" spNext []) (C__law_term : C8.Cal P w K mg base 3 "_law_term" spTerm []) (C__law_known : C8.Cal P w K mg base 1 "_law_known" (spKn knownM) []) (C__law_settled : C8.Cal P w K mg base 1 "_law_settled" (spKn settledM) []) :
    C8.Cal P w K mg base 4 "_law_literal" spLit [] := by
  refine cal T.d_law_literal (N := ["_law_state_here", "_law_relations_here", "_law_bound", "_law_faults", "_law_names", "_law_relation", "_law_width", "_law_terms", "_law_k", "_law_form", "_law_careful", "_law_term_here", "_law_pair", "_law_operator", "_law_variable", "_law_seen"]) (by decide +kernel) (fun vs H Q E h => ?_) (fun f cdv A outer s H vs Q E nd hr h => ?_)
  · obtain ⟨st, dr, bd, ks, R, rfl, _⟩ := h
    rfl
  obtain ⟨st, dr, bd, ks, R, rfl, hst, hR, nR, hbd, nbd, hk, hks, oR, q⟩ := h
  refine ⟨_, (pss_cons (ps_set (i := 4) nd rfl (Or.inl rfl) (pe_callTy (call_listD rfl) (by rfl) T.n_list (by decide +kernel) (pa_cons (pv 1) pa_nil)))
    (pss_cons (ps_set (i := 5) nd rfl (Or.inl rfl) (pe_ix (ixL K) (pv 4) (C8.pe_c C__law_next hr (by decide) rfl (pa_cons (pv 0) (pa_cons (pe_callB (lenK K) (by rfl) T.n_len (by decide +kernel) (pa_cons (pv 4) pa_nil)) pa_nil))) (fun _ _ => rfl)))
    (pss_cons (ps_set (i := 6) nd rfl (Or.inl rfl) (pe_callB (lenK K) (by rfl) T.n_len (by decide +kernel) (pa_cons (pe_ix (ixT K) (pe_dget (hu_of hr) (pv 1) (pv 5) (fun _ _ => rfl)) pe_int (fun _ _ => rfl)) pa_nil)))
    (pss_cons (ps_if (PW.pt (pw_and (pt_val (pv 3)) (pw_and1 (pt_cmpR op_eq (C8.pe_c C__law_next hr (by decide) rfl (pa_cons (pv 0) (pa_cons pe_int pa_nil))) pe_int (nomark _)))))
      (pss_one (ps_set (i := 6) nd rfl (Or.inl rfl) (pe_op op_sub (pe_op op_add (pv 6) pe_int) (pe_op op_mul pe_int (C8.pe_c C__law_next hr (by decide) rfl (pa_cons (pv 0) (pa_cons pe_int pa_nil)))))))
      pss_nil)
    (pss_cons (ps_if (PW.pt (pw_and (pt_val (pv 3)) (pw_and1 (pt_cmpR op_eq (C8.pe_c C__law_next hr (by decide) rfl (pa_cons (pv 0) (pa_cons pe_int pa_nil))) pe_int (nomark _)))))
      (pss_one (ps_set (i := 5) nd rfl (Or.inl rfl) pe_str))
      pss_nil)
    (pss_cons (ps_setLc (i := 7) (own := [("_law_k", 8)]) rfl nd rfl rfl (sw_true rfl rfl rfl (by decide +kernel)) (pi_range1 rfl T.n_range (pa_cons (pv 6) pa_nil)) (blkOk_by (own := [("_law_k", 8)]) (N := ["_law_state_here", "_law_relations_here", "_law_bound", "_law_faults", "_law_names", "_law_relation", "_law_width", "_law_terms", "_law_k", "_law_form", "_law_careful", "_law_term_here", "_law_pair", "_law_operator", "_law_variable", "_law_seen"]) (sc := (C8.fnScope s_law_literal)) (by decide +kernel)) (fun _ _ _ _ _ => (pg_name (i := 8) nd rfl (Or.inl rfl))) (fun _ _ _ _ _ => pts_nil) (fun _ _ _ _ _ => (C8.pe_c C__law_term hr (by decide) rfl (pa_cons (pv 0) (pa_cons (pv 2) pa_nil)))))
    (pss_cons (ps_set (i := 9) nd rfl (Or.inl rfl) (pe_ix (ixL K) (pe_lst (pa_cons pe_str (pa_cons pe_str (pa_cons pe_str (pa_cons pe_str (pa_cons pe_str (pa_cons pe_str (pa_cons pe_str (pa_cons pe_str (pa_cons pe_str pa_nil)))))))))) (C8.pe_c C__law_next hr (by decide) rfl (pa_cons (pv 0) (pa_cons pe_int pa_nil))) (fun _ _ => rfl)))
    (pss_cons (ps_set (i := 10) nd rfl (Or.inl rfl) (pe_or (pe_not (pv 3)) (pe_one (pe_cmpR op_gt (C8.pe_c C__law_next hr (by decide) rfl (pa_cons (pv 0) (pa_cons pe_int pa_nil))) pe_int (nomark _)))))
    (pss_cons (ps_if (pt_cmpR op_eq (pv 9) pe_str (nomark _))
      (pss_one (ps_ret (pe_tup (pa_cons pe_str (pa_cons (pv 5) (pa_cons (pe_callTy (tupK K) (by rfl) T.n_tuple (by decide +kernel) (pa_cons (pv 7) pa_nil)) pa_nil))))))
      pss_nil)
    (pss_cons (ps_if (pt_cmpR op_eq (pv 9) pe_str (nomark _))
      (pss_cons (ps_if (pt_val (pv 10))
        (pss_one (ps_setLc (i := 7) (own := [("_law_term_here", 11)]) rfl nd rfl rfl (sw_true rfl rfl rfl (by decide +kernel)) (piL K (pv 7)) (blkOk_by (own := [("_law_term_here", 11)]) (N := ["_law_state_here", "_law_relations_here", "_law_bound", "_law_faults", "_law_names", "_law_relation", "_law_width", "_law_terms", "_law_k", "_law_form", "_law_careful", "_law_term_here", "_law_pair", "_law_operator", "_law_variable", "_law_seen"]) (sc := (C8.fnScope s_law_literal)) (by decide +kernel)) (fun _ _ _ _ _ => (pg_name (i := 11) nd rfl (Or.inl rfl))) (fun _ _ _ _ _ => pts_nil) (fun _ _ _ _ _ => (C8.pe_c C__law_known hr (by decide) rfl (pa_cons (pv 11) (pa_cons (pv 2) pa_nil))))))
        pss_nil)
      (pss_one (ps_ret (pe_tup (pa_cons pe_str (pa_cons (pv 5) (pa_cons (pe_callTy (tupK K) (by rfl) T.n_tuple (by decide +kernel) (pa_cons (pv 7) pa_nil)) pa_nil)))))))
      pss_nil)
    (pss_cons (ps_if (pt_cmpR op_eq (pv 9) pe_str (nomark _))
      (pss_cons (ps_set (i := 12) nd rfl (Or.inl rfl) (pe_lst (pa_cons (C8.pe_c C__law_term hr (by decide) rfl (pa_cons (pv 0) (pa_cons (pv 2) pa_nil))) (pa_cons (C8.pe_c C__law_term hr (by decide) rfl (pa_cons (pv 0) (pa_cons (pv 2) pa_nil))) pa_nil))))
      (pss_cons (ps_if (pt_val (pv 10))
        (pss_one (ps_setLc (i := 12) (own := [("_law_term_here", 11)]) rfl nd rfl rfl (sw_true rfl rfl rfl (by decide +kernel)) (piL K (pv 12)) (blkOk_by (own := [("_law_term_here", 11)]) (N := ["_law_state_here", "_law_relations_here", "_law_bound", "_law_faults", "_law_names", "_law_relation", "_law_width", "_law_terms", "_law_k", "_law_form", "_law_careful", "_law_term_here", "_law_pair", "_law_operator", "_law_variable", "_law_seen"]) (sc := (C8.fnScope s_law_literal)) (by decide +kernel)) (fun _ _ _ _ _ => (pg_name (i := 11) nd rfl (Or.inl rfl))) (fun _ _ _ _ _ => pts_nil) (fun _ _ _ _ _ => (C8.pe_c C__law_settled hr (by decide) rfl (pa_cons (pv 11) (pa_cons (pv 2) pa_nil))))))
        pss_nil)
      (pss_cons (ps_set (i := 13) nd rfl (Or.inl rfl) (pe_ix (ixL K) (pe_lst (pa_cons pe_str (pa_cons pe_str (pa_cons pe_str (pa_cons pe_str (pa_cons pe_str (pa_cons pe_str pa_nil))))))) (C8.pe_c C__law_next hr (by decide) rfl (pa_cons (pv 0) (pa_cons pe_int pa_nil))) (fun _ _ => rfl)))
      (pss_one (ps_ret (pe_tup (pa_cons pe_str (pa_cons (pv 13) (pa_cons (pe_ix (ixL K) (pv 12) pe_int (fun _ _ => rfl)) (pa_cons (pe_ix (ixL K) (pv 12) pe_int (fun _ _ => rfl)) pa_nil))))))))))
      pss_nil)
    (pss_cons (ps_set (i := 14) nd rfl (Or.inr rfl) (pe_ix (ixL K) (pe_lst (pa_cons pe_str (pa_cons pe_str (pa_cons pe_str (pa_cons pe_str (pa_cons pe_str (pa_cons pe_str pa_nil))))))) (C8.pe_c C__law_next hr (by decide) rfl (pa_cons (pv 0) (pa_cons pe_int pa_nil))) (fun _ _ => rfl)))
    (pss_cons (ps_if (pt_val (pv 10))
      (pss_one (ps_setLc (i := 7) (own := [("_law_term_here", 11)]) rfl nd rfl rfl (sw_true rfl rfl rfl (by decide +kernel)) (piL K (pv 7)) (blkOk_by (own := [("_law_term_here", 11)]) (N := ["_law_state_here", "_law_relations_here", "_law_bound", "_law_faults", "_law_names", "_law_relation", "_law_width", "_law_terms", "_law_k", "_law_form", "_law_careful", "_law_term_here", "_law_pair", "_law_operator", "_law_variable", "_law_seen"]) (sc := (C8.fnScope s_law_literal)) (by decide +kernel)) (fun _ _ _ _ _ => (pg_name (i := 11) nd rfl (Or.inl rfl))) (fun _ _ _ _ _ => pts_nil) (fun _ _ _ _ _ => (pe_ix (ixL K) (pe_lst (pa_cons (pv 11) (pa_cons (pe_tup (pa_cons pe_str pa_nil)) pa_nil))) (pe_callTy call_int1 (by rfl) T.n_int (by decide +kernel) (pa_cons (pe_cmpR (eqD K (hu64 hr)) (pv 11) (pe_tup (pa_cons pe_str (pa_cons (pv 14) pa_nil))) (nomark _)) pa_nil)) (fun _ _ => rfl)))))
      pss_nil)
    (pss_cons (ps_if (pt_cmpR op_eq (pv 9) pe_str (nomark _))
      (pss_one (ps_ret (pe_tup (pa_cons pe_str (pa_cons (pv 14) (pa_cons (pv 5) (pa_cons (pe_callTy (tupK K) (by rfl) T.n_tuple (by decide +kernel) (pa_cons (pv 7) pa_nil)) pa_nil)))))))
      pss_nil)
    (pss_cons (ps_setLc (i := 15) (own := [("_law_term_here", 11)]) rfl nd rfl rfl (sw_true rfl rfl rfl (by decide +kernel)) (piL K (pv 7)) (blkOk_by (own := [("_law_term_here", 11)]) (N := ["_law_state_here", "_law_relations_here", "_law_bound", "_law_faults", "_law_names", "_law_relation", "_law_width", "_law_terms", "_law_k", "_law_form", "_law_careful", "_law_term_here", "_law_pair", "_law_operator", "_law_variable", "_law_seen"]) (sc := (C8.fnScope s_law_literal)) (by decide +kernel)) (fun _ _ _ _ _ => (pg_name (i := 11) nd rfl (Or.inl rfl))) (fun _ _ _ _ _ => pts_one (pt_cmpR op_eq (pe_ix (ixT K) (pv 11) pe_int (fun _ _ => rfl)) pe_str (nomark _))) (fun _ _ _ _ _ => (pe_ix (ixT K) (pv 11) pe_int (fun _ _ => rfl))))
    (pss_cons (ps_set (i := 11) nd rfl (Or.inl rfl) (C8.pe_c C__law_term hr (by decide) rfl (pa_cons (pv 0) (pa_cons (pe_op op_cat (pv 15) (pv 2)) pa_nil))))
    (pss_cons (ps_if (pt_val (pv 10))
      (pss_one (ps_set (i := 11) nd rfl (Or.inl rfl) (C8.pe_c C__law_settled hr (by decide) rfl (pa_cons (pv 11) (pa_cons (pe_op op_cat (pv 15) (pv 2)) pa_nil)))))
      pss_nil)
    (pss_one (ps_ret (pe_tup (pa_cons (pv 9) (pa_cons (pv 14) (pa_cons (pv 11) (pa_cons (pv 5) (pa_cons (pe_callTy (tupK K) (by rfl) T.n_tuple (by decide +kernel) (pa_cons (pv 7) pa_nil)) pa_nil))))))))))))))))))))))))), ?_⟩
  obtain ⟨kr, hkr, pkr⟩ := id hR
  have eK := relKeys pkr
  have r1 := oR.one
  have r10 := oR.ten
  -- the names
  refine sqS ⟨_, rfl, dr, kr, rfl, .inl hkr, fun pn hpn => ?_⟩
  have s1 : Same H (upd H pn (.lst (kr.map fun kv => kV kv.1))) := Same.new hpn
  have hpn1 : upd H pn (.lst (kr.map fun kv => kV kv.1)) pn = some (.lst ((R.map (·.1)).map V.str)) := by rw [upd_same, eK]
  have npn := hst.ne hpn
  have st1 := hst.mono s1
  generalize upd H pn (.lst (kr.map fun kv => kV kv.1)) = H1 at s1 hpn1 st1 ⊢
  have b1 : But st H H1 := But.of s1
  have lR : ((R.map (·.1)).map V.str).length = R.length := by rw [List.length_map, List.length_map]
  refine sqS ⟨_, rfl, _, rfl, _, rfl, _, _, rfl, .inl (sqL hpn1), st, _, rfl, st1, by omega, by omega, fun k H2 k0 k1 st2 b2 => ?_⟩
  obtain ⟨v, hv, hm⟩ := at_in k0 k1
  obtain ⟨r, hr', rfl⟩ := List.mem_map.mp hm
  have b12 := b1.trans b2
  refine ⟨_, _, _, _, rfl, rfl, sqL (b2.1 pn _ npn hpn1), hv, ?_⟩
  -- the width
  obtain ⟨n, hn⟩ := width_some hr'
  obtain ⟨p0, hp0, _, ep0⟩ := width_mem hn
  have n10 : n ≤ 10 := by
    rw [← ep0]
    exact (oR.short p0 hp0).1
  obtain ⟨kr2, hkr2, pkr2⟩ := hR.mono b12 nR
  obtain ⟨a, c, cs, ev, ha, hc, lc⟩ := rel_get pkr2 hn
  have ha := (wo_of ha).2
  have hc := (wo_of hc).2
  refine sqS ⟨_, rfl, _, rfl, dr, _, rfl, dgetS hkr2 ev, a, _, _, _, rfl, rfl, sqT ha, rfl, c, cs, rfl, .inr (sqT hc), ?_⟩
  refine sqI ⟨_, rfl, _, rfl, iteF (iteF ?_)⟩
  refine sqI ⟨_, rfl, _, rfl, iteF (iteF ?_)⟩
  -- the terms
  refine sqS ⟨_, rfl, _, rfl, by omega, by omega, fun D hD => ?_⟩
  have nD := st2.ne hD
  refine lc_range (fun j H3 => IsSt H3 st ∧ But st H2 H3 ∧ ∃ ts, TmL H3 st D ts ∧ ts.length = j ∧ ∀ t ∈ ts, OkT t ∧ NmOk t) ⟨st2.mono (Same.new hD), But.of (Same.new hD), [], ⟨nD, [], upd_same, .nil⟩, rfl, by simp⟩ (fun j H3 hj h => ?_) fun H3 h => ?_
  · obtain ⟨st3, b3, ts, ⟨_, xs, hx, px⟩, lt, ot⟩ := h
    have hb3 := (b12.trans b3).1 bd _ nbd hbd
    refine ⟨rfl, tyes (iteT ⟨_, rfl, _, rfl, st, bd, ks, rfl, st3, nbd, hb3, by omega, hks, fun v H4 t ht okt nm st4 b4 => ?_⟩)⟩
    have h4 := b4.1 D _ nD hx
    have tS := tupS_lst (ys := xs ++ [v]) h4
    have lx := same_len px
    refine ⟨xs, h4, sz_ok' (by omega), st2.mut (b3.trans b4) st4 hD, (b3.trans b4).mut hD st2, ts ++ [t], ⟨nD, _, upd_same, Paired.app (Paired.mapP px fun _ _ z => z.mono ((b4.tup st3.lst).trans tS)) (.cons (ht.mono tS) .nil)⟩, by rw [List.length_append, lt]; rfl, fun u hu => ?_⟩
    rcases List.mem_append.mp hu with m | m
    · exact ot u m
    · rw [List.mem_singleton.mp m]
      exact ⟨okt, nm⟩
  obtain ⟨st3, b3, ts, hT, lt, ot⟩ := h
  have b03 := b12.trans b3
  have ltn : ts.length = n := by omega
  have okr : OkRel R r ts := ⟨by rw [hn, ltn], by omega, fun t ht => (ot t ht).1⟩
  try dsimp only
  -- the form
  refine reS [some (.ref st), some (.ref dr), some (.ref bd), some (.bl false), some (.ref pn), some (.str r), some (.int cs.length), some (.ref D), none, none, none, none, none, none, none, none] rfl ?_
  refine sqS ⟨z9, fun p9 hp9 => ?_⟩
  have s9 : Same H3 (upd H3 p9 (.lst [.str "fact", .str "fact", .str "fact", .str "not", .str "compare", .str "count", .str "sum", .str "least", .str "greatest"])) := Same.new hp9
  refine ⟨_, rfl, st, _, rfl, st3.mono s9, by decide, by decide, fun k4 H4 k40 k41 st4 b4 => ?_⟩
  obtain ⟨fv, hfv, mfv⟩ := at_in (xs := [V.str "fact", .str "fact", .str "fact", .str "not", .str "compare", .str "count", .str "sum", .str "least", .str "greatest"]) k40 k41
  have np9 := st3.ne hp9
  obtain ⟨fw, rfl, hf⟩ : ∃ fw : Str, fv = .str fw ∧ (fw = "fact" ∨ fw = "not" ∨ fw = "compare" ∨ fw = "count" ∨ isTotF fw) := by
    simp only [List.mem_cons, List.not_mem_nil, or_false] at mfv
    rcases mfv with rfl | rfl | rfl | rfl | rfl | rfl | rfl | rfl | rfl
    · exact ⟨_, rfl, .inl rfl⟩
    · exact ⟨_, rfl, .inl rfl⟩
    · exact ⟨_, rfl, .inl rfl⟩
    · exact ⟨_, rfl, .inr (.inl rfl)⟩
    · exact ⟨_, rfl, .inr (.inr (.inl rfl))⟩
    · exact ⟨_, rfl, .inr (.inr (.inr (.inl rfl)))⟩
    · exact ⟨_, rfl, .inr (.inr (.inr (.inr (.inl rfl))))⟩
    · exact ⟨_, rfl, .inr (.inr (.inr (.inr (.inr (.inl rfl)))))⟩
    · exact ⟨_, rfl, .inr (.inr (.inr (.inr (.inr (.inr rfl)))))⟩
  refine ⟨_, _, _, _, rfl, rfl, sqL (b4.1 p9 _ np9 upd_same), hfv, ?_⟩
  have b34 : But st H3 H4 := (But.of s9).trans b4
  have hT4 := hT.mono b34 st3
  have B := b03.trans b34
  have hb4 := B.1 bd _ nbd hbd
  clear hT b34 b4 s9 mfv hfv hp9 np9 k40 k41 st3 b3 b03 hkr2 pkr2 ev ha hc hD b12 b1 b2 hv hm hpn1 s1 st1 st2 lR
  refine sqS ⟨_, rfl, _, rfl, _, rfl, iteT ?_⟩
  try dsimp only
  -- a fact
  refine reS [some (.ref st), some (.ref dr), some (.ref bd), some (.bl false), some (.ref pn), some (.str r), some (.int cs.length), some (.ref D), none, some (.str fw), some (.bl true), none, none, none, none, none] rfl ?_
  refine sqI ⟨_, rfl, rfl, _, rfl, ?_⟩
  by_cases e1 : fw = "fact"
  · refine ifEq (by rw [e1]) ?_
    obtain ⟨nD4, xs, hx, px⟩ := hT4
    refine ⟨_, rfl, _, rfl, D, xs, rfl, sqL hx, fun pt hpt => ⟨z3, fun pr hpr => ?_⟩⟩
    have t1 := tms_new px hpt
    have s5 := (Same.new (o := .tup xs) hpt).trans (Same.new (o := .tup [.str "fact", .str r, .ref pt]) hpr)
    exact q _ _ (.fact r ts) ⟨pr, _, rfl, upd_same, _, rfl, t1.mono (Same.new hpr).tup⟩ okr (names_nm fun t ht => (ot t ht).2) (st4.mono s5) (B.same s5)
  refine ifNe (fun z => e1 (by injection z)) ?_
  -- not
  refine sqI ⟨_, rfl, rfl, _, rfl, ?_⟩
  by_cases e2 : fw = "not"
  · refine ifEq (by rw [e2]) ?_
    refine sqI ⟨_, rfl, _, rfl, iteT ?_⟩
    obtain ⟨nD4, xs, hx, px⟩ := hT4
    have lxs := same_len px
    refine sA ⟨_, rfl, D, rfl, ⟨xs, sqL hx⟩, fun D2 hD2 => ?_⟩
    refine lc_list (xs := xs) (fun j H5 => Same H4 H5 ∧ ∃ acc, H5 D2 = some (.lst acc) ∧ Paired (IsTm H5) acc ((ts.take j).map (knownM ks))) ⟨Same.new hD2, [], upd_same, .nil⟩ (fun j H5 _ h => sqL (h.1 _ _ hx)) (fun j y H5 hy h => ?_) fun H5 h => ?_
    · obtain ⟨s5, acc, h5, pa⟩ := h
      obtain ⟨t, et, ht⟩ := Paired.at px hy
      refine ⟨rfl, tyes (iteT ⟨_, rfl, _, rfl, y, bd, t, ks, rfl, ht.mono s5.tup, s5 _ _ hb4, fun v6 H6 s6 ht6 => ?_⟩)⟩
      have h6 := s6 _ _ h5
      have tS := tupS_lst (ys := acc ++ [v6]) h6
      have la := same_len pa
      have ltk : (ts.take j).length ≤ ts.length := List.length_take_le' _ _
      rw [List.length_map] at la
      refine ⟨acc, h6, sz_ok' (by omega), (s5.trans s6).mut hD2, _, upd_same, ?_⟩
      rw [take_snoc et, List.map_append]
      exact Paired.app (Paired.mapP pa fun _ _ z => z.mono (s6.tup.trans tS)) (.cons (ht6.mono tS) .nil)
    · obtain ⟨s5, acc, h5, pa⟩ := h
      rw [lxs, List.take_length] at pa
      refine ⟨_, rfl, _, rfl, D2, acc, rfl, sqL h5, fun pt hpt => ⟨z3, fun pr hpr => ?_⟩⟩
      have t1 := tms_new pa hpt
      have s6 := (s5.trans (Same.new (o := .tup acc) hpt)).trans (Same.new (o := .tup [.str "not", .str r, .ref pt]) hpr)
      refine q _ _ (.neg r _) ⟨pr, _, rfl, upd_same, _, rfl, t1.mono (Same.new hpr).tup⟩ ⟨⟨?_, ?_, fun t ht => ?_⟩, known_names ts⟩ (fun n hn => nomatch hn) (st4.mono s6) (B.same s6)
      · rw [List.length_map]
        exact okr.1
      · rw [List.length_map]
        exact okr.2.1
      · obtain ⟨t', ht', rfl⟩ := List.mem_map.mp ht
        exact known_ok (ot t' ht').1
  refine ifNe (fun z => e2 (by injection z)) ?_
  -- compare
  refine sqI ⟨_, rfl, rfl, _, rfl, ?_⟩
  by_cases e3 : fw = "compare"
  · refine ifEq (by rw [e3]) ?_
    refine sqS ⟨_, rfl, _, rfl, st, bd, ks, rfl, st4, nbd, hb4, by omega, hks, fun v5 H5 t5 ht5 ok5 nm5 st5 b5 => ?_⟩
    have hb5 := b5.1 bd _ nbd hb4
    refine ⟨_, rfl, _, rfl, st, bd, ks, rfl, st5, nbd, hb5, by omega, hks, fun v6 H6 t6 ht6 ok6 nm6 st6 b6 => ⟨z2, fun pp hpp => ?_⟩⟩
    have s7 : Same H6 (upd H6 pp (.lst [v5, v6])) := Same.new hpp
    have hpp7 : upd H6 pp (.lst [v5, v6]) pp = some (.lst [v5, v6]) := upd_same
    have ht5' := (ht5.mono (b6.tup st5.lst)).mono s7.tup
    have ht6' := ht6.mono s7.tup
    have st7 := st6.mono s7
    have hb7 := s7 _ _ (b6.1 bd _ nbd hb5)
    have B7 := ((B.trans b5).trans b6).same s7
    generalize upd H6 pp (.lst [v5, v6]) = H7 at s7 hpp7 ht5' ht6' st7 hb7 B7 ⊢
    have px : Paired (IsTm H7) [v5, v6] [t5, t6] := .cons ht5' (.cons ht6' .nil)
    refine sqI ⟨_, rfl, _, rfl, iteT ?_⟩
    refine sA ⟨_, rfl, pp, rfl, ⟨[v5, v6], sqL hpp7⟩, fun D2 hD2 => ?_⟩
    have nD2 := st7.ne hD2
    refine lc_list (xs := [v5, v6]) (fun j H8 => Same H7 H8 ∧ ∃ acc, H8 D2 = some (.lst acc) ∧ Paired (IsTm H8) acc (([t5, t6].take j).map (settledM ks))) ⟨Same.new hD2, [], upd_same, .nil⟩ (fun j H8 _ h => sqL (h.1 _ _ hpp7)) (fun j y H8 hy h => ?_) fun H8 h => ?_
    · obtain ⟨s8, acc, h8, pa⟩ := h
      obtain ⟨t, et, ht⟩ := Paired.at px hy
      refine ⟨rfl, tyes (iteT ⟨_, rfl, _, rfl, y, bd, t, ks, rfl, ht.mono s8.tup, s8 _ _ hb7, fun v9 H9 s9 ht9 => ?_⟩)⟩
      have h9 := s9 _ _ h8
      have tS := tupS_lst (ys := acc ++ [v9]) h9
      have la := same_len pa
      have ltk : ([t5, t6].take j).length ≤ [t5, t6].length := List.length_take_le' _ _
      have l2 : [t5, t6].length = 2 := rfl
      rw [List.length_map] at la
      refine ⟨acc, h9, sz_ok' (by omega), (s8.trans s9).mut hD2, _, upd_same, ?_⟩
      rw [take_snoc et, List.map_append]
      exact Paired.app (Paired.mapP pa fun _ _ z => z.mono (s9.tup.trans tS)) (.cons (ht9.mono tS) .nil)
    · obtain ⟨s8, acc, h8, pa⟩ := h
      have pa' : Paired (IsTm H8) acc [settledM ks t5, settledM ks t6] := pa
      obtain ⟨u5, u6, rfl, hu5, hu6⟩ : ∃ u5 u6, acc = [u5, u6] ∧ IsTm H8 u5 (settledM ks t5) ∧ IsTm H8 u6 (settledM ks t6) := by
        cases pa' with
        | cons h1 h2 =>
          cases h2 with
          | cons h2 h3 =>
            cases h3
            exact ⟨_, _, rfl, h1, h2⟩
      have st8 := st7.mono s8
      dsimp only
      refine sqS ⟨z6, fun p6 hp6 => ?_⟩
      have s9 : Same H8 (upd H8 p6 (.lst [.str "=", .str "<>", .str "<", .str "<=", .str ">", .str ">="])) := Same.new hp6
      refine ⟨_, rfl, st, _, rfl, st8.mono s9, by decide, by decide, fun k9 H9 k90 k91 st9 b9 => ?_⟩
      obtain ⟨ov, hov, mov⟩ := at_in (xs := [V.str "=", .str "<>", .str "<", .str "<=", .str ">", .str ">="]) k90 k91
      have np6 := st8.ne hp6
      obtain ⟨op, rfl, hop⟩ : ∃ op : Str, ov = .str op ∧ isCmpF op := by
        simp only [List.mem_cons, List.not_mem_nil, or_false] at mov
        rcases mov with rfl | rfl | rfl | rfl | rfl | rfl
        · exact ⟨_, rfl, .inl rfl⟩
        · exact ⟨_, rfl, .inr (.inl rfl)⟩
        · exact ⟨_, rfl, .inr (.inr (.inl rfl))⟩
        · exact ⟨_, rfl, .inr (.inr (.inr (.inl rfl)))⟩
        · exact ⟨_, rfl, .inr (.inr (.inr (.inr (.inl rfl))))⟩
        · exact ⟨_, rfl, .inr (.inr (.inr (.inr (.inr rfl))))⟩
      refine ⟨_, _, _, _, rfl, rfl, sqL (b9.1 p6 _ np6 upd_same), hov, ?_⟩
      have hD9 := b9.1 D2 _ nD2 (s9 _ _ h8)
      have b89 := (But.of (st := st) s9).trans b9
      refine ⟨_, rfl, _, rfl, _, _, _, _, rfl, rfl, sqL hD9, rfl, _, rfl, _, _, _, _, rfl, rfl, sqL hD9, rfl, z4, fun pr hpr => ?_⟩
      have s10 := Same.new (o := .tup [.str "compare", .str op, u5, u6]) hpr
      have tS := (b89.tup st8.lst).trans s10.tup
      exact q _ _ (.cmp op _ _) ⟨pr, _, rfl, upd_same, _, _, rfl, hu5.mono tS, hu6.mono tS⟩ ⟨hop, settled_ok ok5, settled_ok ok6⟩ (fun n hn => nomatch hn) (st9.mono s10) (((B7.same s8).trans b89).same s10)
  refine ifNe (fun z => e3 (by injection z)) ?_
  -- the totals: their variable
  refine sqS ⟨z6, fun p6 hp6 => ?_⟩
  have s5 : Same H4 (upd H4 p6 (.lst [.str "x", .str "y", .str "z", .str "w_1", .str "n", .str "m"])) := Same.new hp6
  refine ⟨_, rfl, st, _, rfl, st4.mono s5, by decide, by decide, fun k5 H5 k50 k51 st5 b5 => ?_⟩
  obtain ⟨nv, hnv, mnv⟩ := at_in (xs := [V.str "x", .str "y", .str "z", .str "w_1", .str "n", .str "m"]) k50 k51
  have np6 := st4.ne hp6
  obtain ⟨vn, rfl, ovn⟩ : ∃ vn : Str, nv = .str vn ∧ PyData.strOk vn = true := by
    simp only [List.mem_cons, List.not_mem_nil, or_false] at mnv
    rcases mnv with rfl | rfl | rfl | rfl | rfl | rfl <;> exact ⟨_, rfl, by decide +kernel⟩
  refine ⟨_, _, _, _, rfl, rfl, sqL (b5.1 p6 _ np6 upd_same), hnv, ?_⟩
  have b45 := (But.of (st := st) s5).trans b5
  have hT5 := hT4.mono b45 st4
  have B5 := B.trans b45
  have hb5 := B5.1 bd _ nbd hbd
  clear hT4 b45 b5 s5 mnv hnv hp6 np6 k50 k51 st4 B hb4
  try dsimp only
  -- the variable is taken out of the terms
  refine reS [some (.ref st), some (.ref dr), some (.ref bd), some (.bl false), some (.ref pn), some (.str r), some (.int cs.length), some (.ref D), none, some (.str fw), some (.bl true), none, none, none, some (.str vn), none] rfl ?_
  refine sqI ⟨_, rfl, _, rfl, iteT ?_⟩
  obtain ⟨nD5, xs, hx, px⟩ := hT5
  have lxs := same_len px
  refine sA ⟨_, rfl, D, rfl, ⟨xs, sqL hx⟩, fun D2 hD2 => ?_⟩
  have nD2 := st5.ne hD2
  refine lc_list (xs := xs) (fun j H6 => Same H5 H6 ∧ ∃ acc, H6 D2 = some (.lst acc) ∧ Paired (IsTm H6) acc ((ts.take j).map (replM vn))) ⟨Same.new hD2, [], upd_same, .nil⟩ (fun j H6 _ h => sqL (h.1 _ _ hx)) (fun j y H6 hy h => ?_) fun H6 h => ?_
  · obtain ⟨s6, acc, h6, pa⟩ := h
    obtain ⟨t, et, ht⟩ := Paired.at px hy
    obtain ⟨okt, nmt⟩ := ot t (List.mem_of_getElem? et)
    refine ⟨rfl, tyes (iteT ⟨_, rfl, z1, fun pa1 hpa1 => ⟨z2, fun pl hpl => ⟨_, rfl, _, rfl, z2, fun pv1 hpv1 => ?_⟩⟩⟩)⟩
    have u1 : Same H6 (upd H6 pa1 (.tup [.str "any"])) := Same.new hpa1
    have c1 : upd H6 pa1 (.tup [.str "any"]) pa1 = some (.tup [.str "any"]) := upd_same
    generalize upd H6 pa1 (.tup [.str "any"]) = U1 at u1 c1 hpl hpv1 ⊢
    have u2 : Same U1 (upd U1 pl (.lst [y, .ref pa1])) := Same.new hpl
    have c2 : upd U1 pl (.lst [y, .ref pa1]) pl = some (.lst [y, .ref pa1]) := upd_same
    generalize upd U1 pl (.lst [y, .ref pa1]) = U2 at u2 c2 hpv1 ⊢
    have u3 : Same U2 (upd U2 pv1 (.tup [.str "variable", .str vn])) := Same.new hpv1
    have c3 : upd U2 pv1 (.tup [.str "variable", .str vn]) pv1 = some (.tup [.str "variable", .str vn]) := upd_same
    generalize upd U2 pv1 (.tup [.str "variable", .str vn]) = U3 at u3 c3 ⊢
    have u13 := (u1.trans u2).trans u3
    have ht3 : IsTm U3 y t := ht.mono ((s6.trans u13).tup)
    have hv3 : IsTm U3 (.ref pv1) (.var vn) := ⟨pv1, rfl, c3⟩
    have ha3 : IsTm U3 (.ref pa1) .any := ⟨pa1, rfl, (u2.trans u3) _ _ c1⟩
    refine ⟨tmD t, tmD (.var vn), tm_dp ht3 okt, tm_dp hv3 trivial, tm_shaped okt nmt, tm_shaped trivial (fun x e => by cases e; exact ovn), ?_⟩
    rw [tm_eq]
    have h3 := u13 _ _ h6
    have la := same_len pa
    have ltk : (ts.take j).length ≤ ts.length := List.length_take_le' _ _
    rw [List.length_map] at la
    have fin : ∀ y' : V, IsTm U3 y' (replM vn t) → ∃ acc, U3 D2 = some (.lst acc) ∧ acc.length < sizeLine ∧ Same H5 (upd U3 D2 (.lst (acc ++ [y']))) ∧ ∃ acc_1, upd U3 D2 (.lst (acc ++ [y'])) D2 = some (.lst acc_1) ∧ Paired (IsTm (upd U3 D2 (.lst (acc ++ [y'])))) acc_1 ((ts.take (j + 1)).map (replM vn)) := fun y' hy' => by
      have tS := tupS_lst (ys := acc ++ [y']) h3
      refine ⟨acc, h3, sz_ok' (by omega), (s6.trans u13).mut hD2, _, upd_same, ?_⟩
      rw [take_snoc et, List.map_append]
      exact Paired.app (Paired.mapP pa fun _ _ z => z.mono (u13.tup.trans tS)) (.cons (hy'.mono tS) .nil)
    by_cases e : t = .var vn
    · rw [decide_eq_true e]
      refine .inr ⟨_, rfl, pl, [y, .ref pa1], _, _, rfl, rfl, sqL (u3 _ _ c2), rfl, fin _ ?_⟩
      unfold replM
      rw [if_pos e]
      exact ha3
    · rw [decide_eq_false e]
      refine .inr ⟨_, rfl, pl, [y, .ref pa1], _, _, rfl, rfl, sqL (u3 _ _ c2), rfl, fin _ ?_⟩
      unfold replM
      rw [if_neg e]
      exact ht3
  obtain ⟨s6, acc, h6, pa⟩ := h
  rw [lxs, List.take_length] at pa
  have okr2 : OkRel R r (ts.map (replM vn)) := ⟨by rw [List.length_map]; exact okr.1, by rw [List.length_map]; exact okr.2.1, fun t ht => by
    obtain ⟨t', ht', rfl⟩ := List.mem_map.mp ht
    exact repl_ok (ot t' ht').1⟩
  have onm2 : ∀ n ∈ namesM (ts.map (replM vn)), PyData.strOk n = true := names_nm fun t ht => by
    obtain ⟨t', ht', rfl⟩ := List.mem_map.mp ht
    exact repl_nm (ot t' ht').2
  have own := repl_names (v := vn) ts
  generalize ts.map (replM vn) = us at pa okr2 onm2 own
  have st6 := st5.mono s6
  have B6 := B5.same s6
  have hb6 := s6 _ _ hb5
  have lus := okr2.2.1
  try dsimp only
  -- count
  refine reS [some (.ref st), some (.ref dr), some (.ref bd), some (.bl false), some (.ref pn), some (.str r), some (.int cs.length), some (.ref D2), none, some (.str fw), some (.bl true), none, none, none, some (.str vn), none] rfl ?_
  refine sqI ⟨_, rfl, rfl, _, rfl, ?_⟩
  by_cases e4 : fw = "count"
  · refine ifEq (by rw [e4]) ?_
    refine ⟨_, rfl, _, rfl, _, rfl, D2, acc, rfl, sqL h6, fun pt hpt => ⟨z4, fun pr hpr => ?_⟩⟩
    have t1 := tms_new pa hpt
    have s7 := (Same.new (o := .tup acc) hpt).trans (Same.new (o := .tup [.str "count", .str vn, .str r, .ref pt]) hpr)
    exact q _ _ (.cnt vn r us) ⟨pr, _, rfl, upd_same, _, rfl, t1.mono (Same.new hpr).tup⟩ ⟨okr2, own⟩ (fun n hn => by rw [List.mem_singleton.mp hn]; exact ovn) (st6.mono s7) (B6.same s7)
  refine ifNe (fun z => e4 (by injection z)) ?_
  have htot : isTotF fw := by
    rcases hf with h | h | h | h | h
    · exact absurd h e1
    · exact absurd h e2
    · exact absurd h e3
    · exact absurd h e4
    · exact h
  -- the names seen
  refine sqS ⟨_, rfl, D2, rfl, ⟨acc, sqL h6⟩, fun D3 hD3 => ?_⟩
  have nD3 := st6.ne hD3
  have lacc := same_len pa
  refine lc_list (xs := acc) (fun j H7 => Same H6 H7 ∧ H7 D3 = some (.lst ((namesM (us.take j)).map V.str))) ⟨Same.new hD3, upd_same⟩ (fun j H7 _ h => sqL (h.1 _ _ h6)) (fun j y H7 hy h => ?_) fun H7 h => ?_
  · obtain ⟨s7, h7⟩ := h
    obtain ⟨t, et, c2, rfl, hc2⟩ := Paired.at pa hy
    have hc3 := s7 _ _ hc2
    refine ⟨rfl, ?_⟩
    have es : namesM (us.take (j + 1)) = namesM (us.take j) ++ namesM [t] := by rw [take_snoc et, namesM_app]
    have zl : ((namesM (us.take j)).map V.str).length < sizeLine := by
      have e1 := namesM_len (us.take j)
      have e2 : (us.take j).length ≤ us.length := List.length_take_le' _ _
      rw [List.length_map]
      exact sz_ok' (by omega)
    cases t with
    | var n =>
      refine ⟨_, rfl, _, _, _, _, rfl, rfl, sqT hc3, rfl, rfl, _, rfl, ?_⟩
      refine ifEq rfl ⟨_, rfl, _, _, _, _, rfl, rfl, sqT hc3, rfl, _, h7, zl, ?_⟩
      rw [es, List.map_append]
      exact lc_step s7 hD3
    | val v =>
      refine ⟨_, rfl, _, _, _, _, rfl, rfl, sqT hc3, rfl, rfl, _, rfl, ?_⟩
      refine ifNe nVV ?_
      rw [es, show namesM [Tm.val v] = [] from rfl, List.append_nil]
      exact ⟨s7, h7⟩
    | any =>
      refine ⟨_, rfl, _, _, _, _, rfl, rfl, sqT hc3, rfl, rfl, _, rfl, ?_⟩
      refine ifNe nAW ?_
      rw [es, show namesM [Tm.any] = [] from rfl, List.append_nil]
      exact ⟨s7, h7⟩
  obtain ⟨s7, h7⟩ := h
  rw [lacc, List.take_length] at h7
  have st7 := st6.mono s7
  have B7 := B6.same s7
  have hb7 := s7 _ _ hb6
  have pa7 : Paired (IsTm H7) acc us := Paired.mapP pa fun _ _ z => z.mono s7.tup
  have h67 := s7 _ _ h6
  have lnm := namesM_len us
  have sok : ∀ n ∈ namesM us ++ ks, PyData.strOk n = true := fun n hn => by
    rcases List.mem_append.mp hn with m | m
    · exact onm2 n m
    · exact hks n m
  have ecat : (namesM us).map V.str ++ ks.map V.str = (namesM us ++ ks).map V.str := (List.map_append).symm
  try dsimp only
  -- the term
  refine reS [some (.ref st), some (.ref dr), some (.ref bd), some (.bl false), some (.ref pn), some (.str r), some (.int cs.length), some (.ref D2), none, some (.str fw), some (.bl true), none, none, none, some (.str vn), some (.ref D3)] rfl ?_
  refine sqS ⟨_, rfl, _, rfl, _, rfl, D3, bd, _, _, rfl, rfl, h7, hb7, sz_ok (by rw [List.length_map, List.length_map]; omega), fun pc hpc => ?_⟩
  rw [ecat]
  have s8 : Same H7 (upd H7 pc (.lst ((namesM us ++ ks).map V.str))) := Same.new hpc
  refine ⟨st, pc, namesM us ++ ks, rfl, st7.mono s8, st7.ne hpc, upd_same, by rw [List.length_append]; omega, sok, fun v9 H9 t9 ht9 ok9 nm9 st9 b9 => ?_⟩
  have b79 := (But.of (st := st) s8).trans b9
  have h79 := b79.1 D3 _ nD3 h7
  have hb9 := b79.1 bd _ nbd hb7
  have h69 := b79.1 D2 _ nD2 h67
  have pa9 : Paired (IsTm H9) acc us := Paired.mapP pa7 fun _ _ z => z.mono (b79.tup st7.lst)
  have B9 := B7.trans b79
  -- settled
  try dsimp only
  refine reS [some (.ref st), some (.ref dr), some (.ref bd), some (.bl false), some (.ref pn), some (.str r), some (.int cs.length), some (.ref D2), none, some (.str fw), some (.bl true), some v9, none, none, some (.str vn), some (.ref D3)] rfl ?_
  refine sqI ⟨_, rfl, _, rfl, iteT ?_⟩
  refine ⟨_, rfl, _, rfl, _, rfl, D3, bd, _, _, rfl, rfl, h79, hb9, sz_ok (by rw [List.length_map, List.length_map]; omega), fun pe hpe => ?_⟩
  rw [ecat]
  have s10 : Same H9 (upd H9 pe (.lst ((namesM us ++ ks).map V.str))) := Same.new hpe
  refine ⟨v9, pe, t9, namesM us ++ ks, rfl, ht9.mono s10.tup, upd_same, fun v11 H11 s11 ht11 => ?_⟩
  have s911 := s10.trans s11
  have h611 := s911 _ _ h69
  have pa11 : Paired (IsTm H11) acc us := Paired.mapP pa9 fun _ _ z => z.mono s911.tup
  refine ⟨_, rfl, _, rfl, _, rfl, _, rfl, _, rfl, D2, acc, rfl, sqL h611, fun pt hpt => ⟨z5, fun pr hpr => ?_⟩⟩
  have t1 := tms_new pa11 hpt
  have s12 := (Same.new (o := .tup acc) hpt).trans (Same.new (o := .tup [.str fw, .str vn, v11, .str r, .ref pt]) hpr)
  exact q _ _ (.tot fw vn _ r us) ⟨pr, _, rfl, upd_same, _, _, rfl, ht11.mono s12.tup, t1.mono (Same.new hpr).tup⟩ ⟨htot, okr2, own, okTm_perm (settled_ok ok9)⟩ (fun n hn => by rw [List.mem_singleton.mp hn]; exact ovn) ((st9.mono s911).mono s12) ((B9.same s911).same s12)
end
end Tk

/-! ## TkL10 -/
set_option Elab.async false
set_option linter.all false
set_option maxRecDepth 100000
set_option maxHeartbeats 4000000
namespace Tk
open PySem PySem.Spec PyProof.Rows L2
def isF : Lit → Bool
  | .fact _ _ => true
  | _ => false
def nF (b : List Lit) : Nat := b.countP isF
theorem nF_snoc (b : List Lit) (l : Lit) : nF (b ++ [l]) = nF b + (if isF l then 1 else 0) := by
  unfold nF
  rw [List.countP_append, List.countP_singleton]
theorem okTm_mono {bs ks : List Str} {t : Tm} (s : ∀ n ∈ bs, n ∈ ks) (h : OkTm bs t) : OkTm ks t := by
  cases t with
  | val v => exact h
  | any => exact h
  | var n => exact s n h
theorem okLit_mono {R : Rels} {bs ks : List Str} {l : Lit} (s : ∀ n ∈ bs, n ∈ ks) (h : OkLit R bs l) : OkLit R ks l := by
  cases l with
  | fact r ts => exact h
  | neg r ts => exact ⟨h.1, fun n hn => s n (h.2 n hn)⟩
  | cmp op t u => exact ⟨h.1, okTm_mono s h.2.1, okTm_mono s h.2.2⟩
  | cnt v r ts => exact h
  | tot f v t r ts =>
    refine ⟨h.1, h.2.1, h.2.2.1, okTm_mono (fun n hn => ?_) h.2.2.2⟩
    rcases List.mem_append.mp hn with m | m
    · exact List.mem_append.mpr (.inl (s n m))
    · exact List.mem_append.mpr (.inr m)
theorem okBody_snoc {R : Rels} {l : Lit} : ∀ {b : List Lit} {ks : List Str}, OkBody R b ks → OkLit R (colsM b ks) l → OkBody R (b ++ [l]) ks
  | [], _, _, h => ⟨h, trivial⟩
  | _ :: _, _, h, h2 => ⟨h.1, okBody_snoc h.2 h2⟩
theorem cols_snoc (b : List Lit) (l : Lit) : colsM (b ++ [l]) [] = (newM l).foldl addN (colsM b []) := by
  rw [colsM_app]
  rfl
theorem mem_cols_snoc {b : List Lit} {l : Lit} {n : Str} : n ∈ colsM (b ++ [l]) [] ↔ n ∈ colsM b [] ∨ n ∈ newM l := by
  rw [cols_snoc, mem_addN]
theorem isF_word {l : Lit} (ok : OkWord l) : decide (V.str (wordOf l) = V.str "fact") = isF l := by
  cases l with
  | fact r ts =>
    show decide (V.str "fact" = V.str "fact") = true
    decide +kernel
  | neg r ts =>
    show decide (V.str "not" = V.str "fact") = false
    decide +kernel
  | cmp op t u =>
    show decide (V.str "compare" = V.str "fact") = false
    decide +kernel
  | cnt v r ts =>
    show decide (V.str "count" = V.str "fact") = false
    decide +kernel
  | tot f v t r ts =>
    rw [dec_strV]
    exact decide_eq_false (tot_words (ok _ _ _ _ _ rfl)).2.1
theorem s_or {c1 c2 : TT} {tu tv : TS} {D : Ends} {σ : L2.St} {H : Hp} (b1 b2 : Bool) (h1 : ∀ Q : Bool → Hp → Prop, Q b1 H → c1 σ H Q) (h2 : ∀ Q : Bool → Hp → Prop, Q b2 H → c2 σ H Q) (ht : (b1 || b2) = true → tu D σ H) (hf : (b1 || b2) = false → tv D σ H) : tIfS (tOr c1 c2) tu tv D σ H := by
  refine h1 _ ?_
  cases b1 with
  | true => exact iteT (iteT (ht rfl))
  | false =>
    refine iteF (h2 _ ?_)
    cases b2 with
    | true => exact iteT (ht rfl)
    | false => exact iteF (hf rfl)
/-- a body at pb, the bound names at pn -/
structure BdAt (st : Addr) (R : Rels) (H : Hp) (pb pn : Addr) (b : List Lit) (bs : List Str) : Prop where
  nb : pb ≠ st
  nn : pn ≠ st
  ne : pb ≠ pn
  body : ∃ acc, H pb = some (.lst acc) ∧ Paired (IsLit H) acc b
  names : H pn = some (.lst (bs.map V.str))
  ok : OkBody R b []
  sub : ∀ n ∈ bs, n ∈ colsM b []
  text : ∀ n ∈ colsM b [], PyData.strOk n = true
section
variable {P : Program} {w : World} {K : PySem.W.Frag} {mg : Str → Option Value} {base : Heap} {C : Addr}
def spBody : Sp := fun vs H Q _ => ∃ (st dr : Addr) (R : Rels), vs = [.ref st, .ref dr, .bl false] ∧ IsSt H st ∧ RelAt H st dr R ∧ dr ≠ st ∧ OkRs R ∧
  ∀ v H' b, IsBody H' v b → OkBody R b [] → b.length ≤ 6 → nF b ≤ 4 → (∀ n ∈ colsM b [], PyData.strOk n = true) → IsSt H' st → But st H H' → Q v H'
theorem c_law_body (T : Tx K mg C) (C__law_next : C8.Cal P w K mg base 1 "_law_next" spNext []) (C__law_literal : C8.Cal P w K mg base 4 "_law_literal" spLit []) : C8.Cal P w K mg base 5 "_law_body" spBody [] := by
  refine cal T.d_law_body (N := ["_law_state_here", "_law_relations_here", "_law_faults", "_law_body_here", "_law_bound", "_law_facts", "_law_k", "_law_literal_here", "_law_term_here"]) (by decide +kernel) (fun vs H Q E h => ?_) (fun f cdv A outer s H vs Q E nd hr h => ?_)
  · obtain ⟨st, dr, R, rfl, _⟩ := h
    rfl
  obtain ⟨st, dr, R, rfl, hst, hR, nR, oR, q⟩ := h
  refine ⟨_, (pss_cons (ps_set (i := 3) nd rfl (Or.inl rfl) (pe_lst pa_nil))
    (pss_cons (ps_set (i := 4) nd rfl (Or.inr rfl) (pe_lst pa_nil))
    (pss_cons (ps_set (i := 5) nd rfl (Or.inl rfl) pe_int)
    (pss_cons (ps_for PassesOwn.never rfl (pi_range1 rfl T.n_range (pa_cons (C8.pe_c C__law_next hr (by decide) rfl (pa_cons (pv 0) (pa_cons pe_int pa_nil))) pa_nil)) (pg_name (i := 6) nd rfl (Or.inl rfl))
      (pss_cons (ps_set (i := 7) nd rfl (Or.inl rfl) (C8.pe_c C__law_literal hr (by decide) rfl (pa_cons (pv 0) (pa_cons (pv 1) (pa_cons (pv 4) (pa_cons (pv 2) pa_nil))))))
      (pss_one (ps_if (PW.pt (pw_or (pt_cmpR op_ne (pe_ix (ixT K) (pv 7) pe_int (fun _ _ => rfl)) pe_str (nomark _)) (pw_or1 (pt_cmpR op_lt (pv 5) pe_int (nomark _)))))
        (pss_cons (ps_expr (pe_bm PySem.F.plainAttrs_list PySem.F.slot_list_append PySem.F.type_list_append mt_append (pv 3) (pa_cons (pv 7) pa_nil)))
        (pss_cons (ps_set (i := 5) nd rfl (Or.inl rfl) (pe_op op_add (pv 5) (pe_callTy call_int1 (by rfl) T.n_int (by decide +kernel) (pa_cons (pe_cmpR op_eq (pe_ix (ixT K) (pv 7) pe_int (fun _ _ => rfl)) pe_str (nomark _)) pa_nil))))
        (pss_one (ps_if (pt_cmpR op_eq (pe_ix (ixT K) (pv 7) pe_int (fun _ _ => rfl)) pe_str (nomark _))
          (pss_one (ps_set (i := 4) nd rfl (Or.inr rfl) (pe_op op_cat (pv 4) (pe_lc (own := [("_law_term_here", 8)]) rfl nd (piT K (pe_ix (ixT K) (pv 7) pe_int (fun _ _ => rfl))) (blkOk_by (own := [("_law_term_here", 8)]) (N := ["_law_state_here", "_law_relations_here", "_law_faults", "_law_body_here", "_law_bound", "_law_facts", "_law_k", "_law_literal_here", "_law_term_here"]) (sc := (C8.fnScope s_law_body)) (by decide +kernel)) (fun _ _ _ _ _ => (pg_name (i := 8) nd rfl (Or.inl rfl))) (fun _ _ _ _ _ => pts_one (PW.pt (pw_and (pt_cmpR op_eq (pe_ix (ixT K) (pv 8) pe_int (fun _ _ => rfl)) pe_str (nomark _)) (pw_and1 (pt_cmpR (ninS K) (pe_ix (ixT K) (pv 8) pe_int (fun _ _ => rfl)) (pv 4) (by rfl)))))) (fun _ _ _ _ _ => (pe_ix (ixT K) (pv 8) pe_int (fun _ _ => rfl)))))))
          (pss_one (ps_if (PW.pt (pw_and (pt_cmpR (ninS K) (pe_ix (ixT K) (pv 7) pe_int (fun _ _ => rfl)) (pe_lst (pa_cons pe_str (pa_cons pe_str pa_nil))) (by rfl)) (pw_and1 (pt_cmpR (ninS K) (pe_ix (ixT K) (pv 7) pe_int (fun _ _ => rfl)) (pv 4) (by rfl)))))
            (pss_one (ps_set (i := 4) nd rfl (Or.inr rfl) (pe_op op_cat (pv 4) (pe_lst (pa_cons (pe_ix (ixT K) (pv 7) pe_int (fun _ _ => rfl)) pa_nil)))))
            pss_nil))))))
        pss_nil))))
    (pss_one (ps_ret (pe_callTy (tupK K) (by rfl) T.n_tuple (by decide +kernel) (pa_cons (pv 3) pa_nil)))))))), ?_⟩
  refine sqS ⟨z0, fun pb0 hpb0 => sqS ⟨z0, fun pn0 hpn0 => ?_⟩⟩
  have s1 : Same H (upd H pb0 (.lst [])) := Same.new hpb0
  have c1 : upd H pb0 (.lst []) pb0 = some (.lst []) := upd_same
  have nb0 := hst.ne hpb0
  have st1 := hst.mono s1
  generalize upd H pb0 (.lst []) = H1 at s1 c1 st1 hpn0 ⊢
  have s2 : Same H1 (upd H1 pn0 (.lst [])) := Same.new hpn0
  have c2 : upd H1 pn0 (.lst []) pn0 = some (.lst []) := upd_same
  have nn0 := st1.ne hpn0
  have st2 := st1.mono s2
  have c12 := s2 _ _ c1
  have s12 := s1.trans s2
  have hpb00 : H pb0 = none := hpb0
  generalize upd H1 pn0 (.lst []) = H2 at s2 c2 st2 c12 s12 ⊢
  have ne0 : pb0 ≠ pn0 := ne_of_none c1 hpn0
  refine sqS ?_
  refine sqF ⟨_, rfl, st, _, rfl, st2, by decide, by decide, fun kk H3 k0 k1 st3 b3 => ⟨kk, rfl, by omega, by omega, ?_⟩⟩
  have b03 : But st H H3 := (But.of s12).trans b3
  have h3b := b3.1 _ _ nb0 c12
  have h3n := b3.1 _ _ nn0 c2
  have hkk : kk.toNat ≤ 6 := by omega
  refine for_range (n := kk.toNat) (fun i σ H4 => ∃ pn o6 o7 b bs, σ = [some (.ref st), some (.ref dr), some (.bl false), some (.ref pb0), some (.ref pn), some (.int (nF b : Nat)), o6, o7, none] ∧ IsSt H4 st ∧ But st H H4 ∧ BdAt st R H4 pb0 pn b bs ∧ b.length ≤ i ∧ nF b ≤ 4 ∧ bs.length ≤ 10 * i)
    ⟨pn0, none, none, [], [], rfl, st3, b03, ⟨nb0, nn0, ne0, ⟨[], h3b, .nil⟩, h3n, trivial, by simp, fun n hn => nomatch hn⟩, Nat.le_refl _, by decide, Nat.le_refl _⟩ (fun i σ H4 hi h => ?_) fun σ H4 h => ?_
  · obtain ⟨pn, o6, o7, b, bs, rfl, st4, b4, A4, lb, nf, lbs⟩ := h
    refine sqS ⟨_, rfl, _, rfl, _, rfl, _, rfl, st, dr, pn, bs, R, rfl, st4, hR.mono b4 nR, nR, A4.names, A4.nn, by omega, fun n hn => A4.text n (A4.sub n hn), oR, fun v H5 l hl okl nml st5 b5 => ?_⟩
    have okw := okLit_word okl
    obtain ⟨c, zs, rfl, hc, hx⟩ := id hl
    have B5 := b4.trans b5
    have hpn5 := b5.1 _ _ A4.nn A4.names
    obtain ⟨acc, hacc, pacc⟩ := A4.body
    have hacc5 := b5.1 _ _ A4.nb hacc
    have pacc5 : Paired (IsLit H5) acc b := Paired.mapP pacc fun _ _ z => z.mono (b5.tup st4.lst)
    have lacc := same_len pacc
    have eF := isF_word okw
    refine s_or (!decide (V.str (wordOf l) = V.str "fact")) (decide ((nF b : Nat) < (4 : Int))) (fun Q h => ⟨_, rfl, _, _, _, _, rfl, rfl, sqT hc, lit_word hx, rfl, _, rfl, h⟩) (fun Q h => ⟨_, rfl, _, _, rfl, rfl, _, rfl, h⟩) (fun t => ?_) (fun t => ?_)
    · -- the literal is taken
      refine sqE ⟨_, rfl, .inl ⟨rfl, _, sqL hacc5⟩, _, rfl, pb0, acc, .ref c, rfl, rfl, hacc5, sz_ok' (by omega), ?_⟩
      have tS := tupS_lst (ys := acc ++ [.ref c]) hacc5
      have st6 := hst.mut B5 st5 hpb00 (o := .lst (acc ++ [.ref c]))
      have B6 := B5.mut hpb00 hst (o := .lst (acc ++ [.ref c]))
      have hb6 : upd H5 pb0 (.lst (acc ++ [.ref c])) pb0 = some (.lst (acc ++ [.ref c])) := upd_same
      have npn : pn ≠ pb0 := A4.ne.symm
      have hn6 : upd H5 pb0 (.lst (acc ++ [.ref c])) pn = some (.lst (bs.map V.str)) := by
        rw [upd_ne npn]
        exact hpn5
      have hl6 := hl.mono tS
      have pa6 : Paired (IsLit (upd H5 pb0 (.lst (acc ++ [.ref c])))) (acc ++ [.ref c]) (b ++ [l]) := Paired.app (Paired.mapP pacc5 fun _ _ z => z.mono tS) (.cons hl6 .nil)
      have hc6 := tS _ _ hc
      generalize upd H5 pb0 (.lst (acc ++ [.ref c])) = H6 at st6 B6 hb6 hn6 hl6 pa6 hc6 ⊢
      have hx6 : LitXs H6 l zs := by
        obtain ⟨c', zs', ec, hc', hx'⟩ := hl6
        cases ec
        rw [hc6] at hc'
        cases hc'
        exact hx'
      refine sqS ⟨_, rfl, _, rfl, _, _, _, _, rfl, rfl, sqT hc6, lit_word hx6, rfl, .inr ⟨_, rfl, _, _, rfl, rfl, ?_⟩⟩
      rw [eF]
      have okb := okBody_snoc A4.ok (okLit_mono A4.sub okl)
      have enF : ((nF b : Nat) : Int) + (if isF l = true then 1 else 0) = ((nF (b ++ [l]) : Nat) : Int) := by
        rw [nF_snoc]
        cases isF l <;> simp
      dsimp only
      rw [enF]
      have nf4 : nF (b ++ [l]) ≤ 4 := by
        rw [nF_snoc]
        rw [eF] at t
        cases e : isF l with
        | false => simpa using nf
        | true =>
          rw [e] at t
          have t' := of_decide_eq_true (p := ((nF b : Nat) : Int) < 4) t
          simp
          omega
      have lb1 : (b ++ [l]).length ≤ i + 1 := by
        rw [List.length_append]
        exact Nat.succ_le_succ lb
      have text1 : ∀ n ∈ colsM (b ++ [l]) [], PyData.strOk n = true := fun n hn => by
        rcases mem_cols_snoc.mp hn with m | m
        · exact A4.text n m
        · exact nml n m
      have sub1 : ∀ n ∈ bs, n ∈ colsM (b ++ [l]) [] := fun n hn => mem_cols_snoc.mpr (.inl (A4.sub n hn))
      refine s_lit rfl hl6 (fun e => ?_) fun e => ?_
      · obtain ⟨r, ts, rfl⟩ := word_fact okw e
        obtain ⟨zt, rfl, d, us, rfl, hd, pt⟩ := hx6
        have tl : ts.length ≤ 10 := okl.2.1
        refine ⟨_, rfl, _, rfl, _, _, _, _, rfl, rfl, sqT hc6, rfl, d, rfl, ⟨us, sqT hd⟩, fun D hD => ?_⟩
        refine lc_tup (xs := us) (fun k H7 => Same H6 H7 ∧ H7 D = some (.lst (((namesM (ts.take k)).filter fun n => decide (n ∉ bs)).map V.str))) ⟨Same.new hD, upd_same⟩ (fun k H7 _ h => sqT (h.1 _ _ hd)) (fun k y H7 hy h => ?_) fun H7 h => ?_
        · obtain ⟨s7, h7⟩ := h
          obtain ⟨t, et, c2, rfl, hc2⟩ := Paired.at pt hy
          have hc3 := s7 _ _ hc2
          refine ⟨rfl, ?_⟩
          have es : namesM (ts.take (k + 1)) = namesM (ts.take k) ++ namesM [t] := by rw [take_snoc et, namesM_app]
          have zl : (((namesM (ts.take k)).filter fun n => decide (n ∉ bs)).map V.str).length < sizeLine := by
            have e1 := namesM_len (ts.take k)
            have e2 : (ts.take k).length ≤ ts.length := List.length_take_le' _ _
            have e3 := List.length_filter_le (fun n => decide (n ∉ bs)) (namesM (ts.take k))
            rw [List.length_map]
            exact sz_ok' (by omega)
          cases t with
          | var n =>
            refine ⟨_, rfl, _, _, _, _, rfl, rfl, sqT hc3, rfl, rfl, _, rfl, ?_⟩
            refine ifEq rfl ⟨_, rfl, _, _, _, _, rfl, rfl, sqT hc3, rfl, _, rfl, _, _, rfl, .inl (sqL (s7 _ _ hn6)), rfl, flat_strs bs, _, rfl, ?_⟩
            rw [if_pos rfl, inV_str]
            by_cases m : n ∈ bs
            · rw [decide_eq_true m]
              refine iteF ?_
              rw [es, List.filter_append, show ((namesM [Tm.var n]).filter fun n => decide (n ∉ bs)) = [] by simp [namesM, m], List.append_nil]
              exact ⟨s7, h7⟩
            · rw [decide_eq_false m]
              refine iteT ⟨_, rfl, _, _, _, _, rfl, rfl, sqT hc3, rfl, _, h7, zl, ?_⟩
              rw [es, List.filter_append, show ((namesM [Tm.var n]).filter fun n => decide (n ∉ bs)) = [n] by simp [namesM, m], List.map_append]
              exact lc_step s7 hD
          | val v =>
            refine ⟨_, rfl, _, _, _, _, rfl, rfl, sqT hc3, rfl, rfl, _, rfl, ?_⟩
            refine ifNe nVV (iteF ?_)
            rw [es, show namesM [Tm.val v] = [] from rfl, List.append_nil]
            exact ⟨s7, h7⟩
          | any =>
            refine ⟨_, rfl, _, _, _, _, rfl, rfl, sqT hc3, rfl, rfl, _, rfl, ?_⟩
            refine ifNe nAW (iteF ?_)
            rw [es, show namesM [Tm.any] = [] from rfl, List.append_nil]
            exact ⟨s7, h7⟩
        · obtain ⟨s7, h7⟩ := h
          rw [same_len pt, List.take_length] at h7
          have lf := List.length_filter_le (fun n => decide (n ∉ bs)) (namesM ts)
          have ln := namesM_len ts
          refine ⟨pn, D, _, _, rfl, rfl, s7 _ _ hn6, h7, sz_ok (by rw [List.length_map, List.length_map]; omega), fun pn2 hpn2 => ?_⟩
          rw [← List.map_append]
          have s8 := s7.trans (Same.new (o := .lst ((bs ++ (namesM ts).filter fun n => decide (n ∉ bs)).map V.str)) hpn2)
          refine ⟨pn2, _, _, _, _, rfl, st6.mono s8, B6.same s8, ⟨A4.nb, (st6.mono s7).ne hpn2, ne_of_none (s7 _ _ hb6) hpn2, ⟨_, s8 _ _ hb6, Paired.mapP pa6 fun _ _ z => z.mono s8.tup⟩, upd_same, okb, fun n hn => ?_, text1⟩, lb1, nf4, by rw [List.length_append]; omega⟩
          rcases List.mem_append.mp hn with m | m
          · exact sub1 n m
          · exact mem_cols_snoc.mpr (.inr (List.mem_filter.mp m).1)
      · -- a total binds its variable
        have stay : ∀ (H7 : Hp), Same H6 H7 → ∃ pn' o6 o7 b' bs', [some (V.ref st), some (.ref dr), some (.bl false), some (.ref pb0), some (.ref pn), some (.int (nF (b ++ [l]) : Nat)), some (.int (0 + (i : Nat))), some (.ref c), none] = [some (V.ref st), some (.ref dr), some (.bl false), some (.ref pb0), some (.ref pn'), some (.int (nF b' : Nat)), o6, o7, none] ∧ IsSt H7 st ∧ But st H H7 ∧ BdAt st R H7 pb0 pn' b' bs' ∧ b'.length ≤ i + 1 ∧ nF b' ≤ 4 ∧ bs'.length ≤ 10 * (i + 1) := fun H7 s7 =>
          ⟨pn, _, _, b ++ [l], bs, rfl, st6.mono s7, B6.same s7, ⟨A4.nb, A4.nn, A4.ne, ⟨_, s7 _ _ hb6, Paired.mapP pa6 fun _ _ z => z.mono s7.tup⟩, s7 _ _ hn6, okb, sub1, text1⟩, lb1, nf4, by omega⟩
        refine ⟨_, rfl, _, _, _, _, rfl, rfl, sqT hc6, lit_word hx6, z2, fun pt hpt => ?_⟩
        have s7 : Same H6 (upd H6 pt (.lst [.str "not", .str "compare"])) := Same.new hpt
        refine ⟨pt, [.str "not", .str "compare"], rfl, .inl (sqL upd_same), rfl, rfl, _, rfl, ?_⟩
        rw [if_pos rfl, show [V.str "not", V.str "compare"] = (["not", "compare"] : List Str).map V.str from rfl, inV_str]
        by_cases hm : wordOf l ∈ (["not", "compare"] : List Str)
        · rw [decide_eq_true hm]
          exact iteF (iteF (stay _ s7))
        · rw [decide_eq_false hm]
          have hw2 : wordOf l ≠ "compare" := fun z => hm (by rw [z]; decide)
          have hw3 : wordOf l ≠ "not" := fun z => hm (by rw [z]; decide)
          have key : ∃ vn, atI zs 1 = some (.str vn) ∧ newM l = [vn] := by
            rcases word_tot hw2 e hw3 with ⟨v, r, ts, rfl⟩ | ⟨f, v, t, r, ts, rfl⟩
            · obtain ⟨z, rfl, _⟩ := hx6
              exact ⟨v, rfl, rfl⟩
            · obtain ⟨y, z, rfl, _⟩ := hx6
              exact ⟨v, rfl, rfl⟩
          obtain ⟨vn, hvn, enew⟩ := key
          refine iteT ⟨_, rfl, _, _, _, _, rfl, rfl, sqT (s7 _ _ hc6), hvn, _, rfl, _, _, rfl, .inl (sqL (s7 _ _ hn6)), rfl, flat_strs bs, _, rfl, ?_⟩
          rw [if_pos rfl, inV_str]
          by_cases m : vn ∈ bs
          · rw [decide_eq_true m]
            exact iteF (stay _ s7)
          · rw [decide_eq_false m]
            refine iteT ⟨_, rfl, _, rfl, _, _, _, _, rfl, rfl, sqT (s7 _ _ hc6), hvn, z1, fun p1 hp1 => ?_⟩
            have s8 := s7.trans (Same.new (o := .lst [.str vn]) hp1)
            refine ⟨pn, p1, _, _, rfl, rfl, s8 _ _ hn6, upd_same, sz_ok (by rw [List.length_map]; show _ + 1 ≤ _; omega), fun pn2 hpn2 => ?_⟩
            have s9 := s8.trans (Same.new (o := .lst (bs.map V.str ++ [.str vn])) hpn2)
            refine ⟨pn2, _, _, b ++ [l], bs ++ [vn], rfl, st6.mono s9, B6.same s9, ⟨A4.nb, (st6.mono s8).ne hpn2, ne_of_none (s8 _ _ hb6) hpn2, ⟨_, s9 _ _ hb6, Paired.mapP pa6 fun _ _ z => z.mono s9.tup⟩, by rw [upd_same, List.map_append]; rfl, okb, fun n hn => ?_, text1⟩, lb1, nf4, by rw [List.length_append]; show _ + 1 ≤ _; omega⟩
            rcases List.mem_append.mp hn with m | m
            · exact sub1 n m
            · exact mem_cols_snoc.mpr (.inr (by rw [enew]; exact m))
    · -- the literal is left
      exact ⟨pn, _, _, b, bs, rfl, st5, B5, ⟨A4.nb, A4.nn, A4.ne, ⟨acc, hacc5, pacc5⟩, hpn5, A4.ok, A4.sub, A4.text⟩, by omega, nf, by omega⟩
  · obtain ⟨pn, o6, o7, b, bs, rfl, st4, b4, A4, lb, nf, lbs⟩ := h
    obtain ⟨acc, hacc, pacc⟩ := A4.body
    refine ⟨_, rfl, pb0, acc, rfl, sqL hacc, fun pr hpr => ?_⟩
    have s5 := Same.new (o := .tup acc) hpr
    exact q _ _ b ⟨pr, acc, rfl, upd_same, Paired.mapP pacc fun _ _ z => z.mono s5.tup⟩ A4.ok (by omega) nf A4.text (st4.mono s5) (b4.same s5)
end
end Tk

/-! ## TkLM -/
set_option Elab.async false
set_option linter.all false
set_option maxRecDepth 100000
set_option maxHeartbeats 1000000
/-! how many ways there are; two answers of one shape -/
namespace Tk
open PySem PySem.Spec PyProof.Rows L2
theorem rowsOf_few {F : Facts} {m : Nat} (h : ∀ p ∈ F, p.2.length ≤ m) (r : Str) : (rowsOf F r).length ≤ m := by
  unfold rowsOf
  cases e : F.find? fun p => decide (p.1 = r) with
  | none => exact Nat.zero_le _
  | some p => exact h p (List.mem_of_find?_eq_some e)
theorem behindM_few {F : Facts} {m : Nat} (h : ∀ p ∈ F, p.2.length ≤ m) (l : Lit) (w : Way) : (behindM F l w).length ≤ (if isF l then m else 1) := by
  have mt : ∀ r ts, (meetM (rowsOf F r) ts w).length ≤ m := fun r ts => Nat.le_trans (List.length_filterMap_le _ _) (rowsOf_few h r)
  cases l with
  | fact r ts => exact mt r ts
  | neg r ts =>
    show (if (meetM (rowsOf F r) ts w).isEmpty then [w] else []).length ≤ 1
    split <;> simp
  | cmp op t u =>
    show (if cmpM op (worth t w) (worth u w) then [w] else []).length ≤ 1
    split <;> simp
  | cnt v r ts =>
    show ([V.int (meetM (rowsOf F r) ts w).length].flatMap (putM v w)).length ≤ 1
    rw [List.flatMap_singleton]
    exact putM_len
  | tot f v t r ts =>
    show ((totM f ((meetM (rowsOf F r) ts w).map (worth t))).flatMap (putM v w)).length ≤ 1
    have e : ∀ vs : List V, (totM f vs).length ≤ 1 := fun vs => by
      unfold totM
      split
      · split
        · exact Nat.zero_le _
        · exact Nat.le_refl _
      · split <;> exact bestM_len
    have e1 := flat_len (putM v w) (m := 1) (xs := totM f ((meetM (rowsOf F r) ts w).map (worth t))) fun _ _ => putM_len
    have e2 := e ((meetM (rowsOf F r) ts w).map (worth t))
    omega
theorem nF_cons (l : Lit) (ls : List Lit) : nF (l :: ls) = nF ls + (if isF l then 1 else 0) := by
  unfold nF
  rw [List.countP_cons]
theorem waysM_few {F : Facts} {m : Nat} (h : ∀ p ∈ F, p.2.length ≤ m) : ∀ (b : List Lit) (ws : List Way), (waysM F b ws).length ≤ ws.length * m ^ nF b
  | [], ws => by
    show ws.length ≤ ws.length * m ^ 0
    rw [Nat.pow_zero, Nat.mul_one]
    exact Nat.le_refl _
  | l :: ls, ws => by
    have h1 := waysM_few h ls (ws.flatMap (behindM F l))
    have h2 := flat_len (behindM F l) (xs := ws) fun w _ => behindM_few h l w
    show (waysM F ls (ws.flatMap (behindM F l))).length ≤ _
    refine Nat.le_trans h1 ?_
    refine Nat.le_trans (Nat.mul_le_mul_right _ h2) ?_
    rw [nF_cons]
    cases isF l with
    | true =>
      rw [if_pos rfl, if_pos rfl, Nat.pow_succ, Nat.mul_assoc, Nat.mul_comm m]
      exact Nat.le_refl _
    | false =>
      rw [if_neg (by decide), if_neg (by decide), Nat.mul_one]
      exact Nat.le_refl _
theorem nF_take (b : List Lit) (i : Nat) : nF (b.take i) ≤ nF b := (List.take_sublist i b).countP_le
theorem okAsk {R : Rels} {F : Facts} {b : List Lit} {m : Nat} (of : OkFacts R F) (ok : OkBody R b []) (hl : b.length ≤ 10) (h : ∀ p ∈ F, p.2.length ≤ m) (h1 : 1 ≤ m) (he : m ^ nF b ≤ 1000) : OkAsk R F b :=
  ⟨of, ok, hl, fun i => by
    have e := waysM_few h (b.take i) [[]]
    rw [List.length_singleton, Nat.one_mul] at e
    exact Nat.le_trans (Nat.le_trans e (Nat.pow_le_pow_right h1 (nF_take b i))) he⟩
theorem ans_ok {R : Rels} {F : Facts} {b : List Lit} (oa : OkAsk R F b) : (∀ r ∈ ansM F b, RVal r ∧ r.length ≤ 1000) ∧ (ansM F b).length ≤ 1000 ∧ (colsM b []).length ≤ 1000 := by
  have wok : ∀ w ∈ waysM F b [[]], WayOk (colsM b []) 800 w := fun w hw => by
    have e := waysM_ok oa.of oa.ok (ws := [[]]) (b := 0) (fun w hw => by rw [List.mem_singleton.mp hw]; exact wayOk_nil) w hw
    exact e.more (by have := oa.len; omega)
  have few := oa.few b.length
  rw [List.take_length] at few
  have lcs : (colsM b []).length ≤ 100 := by
    have e1 := colsM_len oa.ok
    rw [List.length_nil] at e1
    have := oa.len
    omega
  have hrv : ∀ r ∈ (waysM F b [[]]).map (rowM (colsM b [])), RVal r := fun r hr => by
    obtain ⟨w, hw, e⟩ := List.mem_map.mp hr
    rw [← e]
    exact rowM_val (wok w hw)
  refine ⟨fun r hr => ?_, ?_, by omega⟩
  · have hr' := (mem_sortM hrv r).mp hr
    refine ⟨hrv r hr', ?_⟩
    obtain ⟨w, hw, e⟩ := List.mem_map.mp hr'
    rw [← e]
    unfold rowM
    rw [List.length_map]
    omega
  · have e := sortM_len ((waysM F b [[]]).map (rowM (colsM b [])))
    rw [List.length_map] at e
    exact Nat.le_trans e few
/-! trees -/
theorem tree_leaf {n : Nat} {H : Hp} {v : V} (h : IsVal v) : Tree (n + 1) H v v := .inl ⟨rfl, h⟩
theorem tree_tup {n : Nat} {H : Hp} {a b : Addr} {xs ys : List V} (ha : H a = some (.tup xs)) (hb : H b = some (.tup ys)) (hl : xs.length ≤ 1000) (p : Paired (Tree n H) xs ys) : Tree (n + 1) H (.ref a) (.ref b) := .inr ⟨a, b, xs, ys, rfl, rfl, .inl ⟨ha, hb⟩, hl, p⟩
theorem tree_lst {n : Nat} {H : Hp} {a b : Addr} {xs ys : List V} (ha : H a = some (.lst xs)) (hb : H b = some (.lst ys)) (hl : xs.length ≤ 1000) (p : Paired (Tree n H) xs ys) : Tree (n + 1) H (.ref a) (.ref b) := .inr ⟨a, b, xs, ys, rfl, rfl, .inr ⟨ha, hb⟩, hl, p⟩
theorem paired_self {α : Type} {F : α → α → Prop} : ∀ {xs : List α}, (∀ x ∈ xs, F x x) → Paired F xs xs
  | [], _ => .nil
  | x :: xs, h => .cons (h x (by simp)) (paired_self fun y hy => h y (by simp [hy]))
theorem Paired.join {α β γ : Type} {F : α → γ → Prop} {G : β → γ → Prop} {J : α → β → Prop} {xs : List α} {rs : List γ} (h1 : Paired F xs rs) : ∀ {ys : List β}, Paired G ys rs → (∀ x y r, r ∈ rs → F x r → G y r → J x y) → Paired J xs ys := by
  induction h1 with
  | nil => intro ys h2 _; cases h2; exact .nil
  | cons p q ih =>
    intro ys h2 k
    cases h2 with
    | cons p2 q2 => exact .cons (k _ _ _ (by simp) p p2) (ih q2 fun x y r hr => k x y r (by simp [hr]))
theorem tree_row {n : Nat} {H : Hp} {x y : V} {r : Row} (hx : IsRow H x r) (hy : IsRow H y r) (ok : RVal r ∧ r.length ≤ 1000) : Tree (n + 2) H x y := by
  obtain ⟨a, rfl, ha⟩ := hx
  obtain ⟨b, rfl, hb⟩ := hy
  exact tree_tup ha hb ok.2 (paired_self fun v hv => tree_leaf (ok.1 v hv))
theorem tree_rows {n : Nat} {H : Hp} {x y : V} {rs : List Row} (hx : IsRows H x rs) (hy : IsRows H y rs) (ok : ∀ r ∈ rs, RVal r ∧ r.length ≤ 1000) (hl : rs.length ≤ 1000) : Tree (n + 3) H x y := by
  obtain ⟨a, xs, rfl, ha, px⟩ := hx
  obtain ⟨b, ys, rfl, hb, py⟩ := hy
  exact tree_lst ha hb (by rw [same_len px]; exact hl) (Paired.join px py fun x y r hr h1 h2 => tree_row h1 h2 (ok r hr))
theorem tree_ans {H : Hp} {v u : V} {cs : List Str} {rs : List Row} (hv : IsAns H v cs rs) (hu : IsAns H u cs rs) (oc : ∀ c ∈ cs, PyData.strOk c = true) (lc : cs.length ≤ 1000) (ok : ∀ r ∈ rs, RVal r ∧ r.length ≤ 1000) (hl : rs.length ≤ 1000) : TreeS (Tree 3) H v u := by
  obtain ⟨a, c, l, xs, rfl, ha, hc, hxs, px⟩ := hv
  obtain ⟨a2, c2, l2, ys, rfl, ha2, hc2, hys, py⟩ := hu
  refine tree_tup (n := 3) ha ha2 (by show 2 ≤ 1000; decide) (.cons (tree_tup (n := 2) hc hc2 (by rw [List.length_map]; exact lc) (paired_self fun v hv => ?_)) (.cons (tree_rows ⟨l, xs, rfl, hxs, px⟩ ⟨l2, ys, rfl, hys, py⟩ ok hl) .nil))
  obtain ⟨n, hn, rfl⟩ := List.mem_map.mp hv
  exact tree_leaf (n := 1) (oc n hn)
theorem IsAns.mono {H H' : Hp} {v : V} {cs : List Str} {rs : List Row} (s : Same H H') (h : IsAns H v cs rs) : IsAns H' v cs rs := by
  obtain ⟨a, c, l, xs, rfl, ha, hc, hxs, px⟩ := h
  exact ⟨a, c, l, xs, rfl, s _ _ ha, s _ _ hc, s _ _ hxs, Paired.mapP px fun _ _ z => IsRow.mono s.tup z⟩
end Tk

/-! ## TkL11 -/
set_option Elab.async false
set_option linter.all false
set_option maxRecDepth 100000
set_option maxHeartbeats 4000000
namespace Tk
open PySem PySem.Spec PyProof.Rows L2
def relM : Rels := [("r", [.str "a", .str "b"])]
def bodyM (c u : V) : List Lit := [.cnt "n" "r" [.any, .val c], .tot "sum" "s" (.var "x") "r" [.var "x", .val c], .tot "greatest" "g" (.var "x") "r" [.var "x", .any], .tot "least" "l" (.var "x") "r" [.var "x", .any], .fact "r" [.var "x", .val c], .cmp "<" (.var "x") (.val u)]
theorem relM_width : widthOf relM "r" = some 2 := by decide +kernel
theorem okRelM {ts : List Tm} (hl : ts.length = 2) (h : ∀ t ∈ ts, OkT t) : OkRel relM "r" ts := ⟨by rw [relM_width, hl], by omega, h⟩
theorem bodyM_ok {c u : V} (hc : IsVal c) (hu : IsVal u) : OkBody relM (bodyM c u) [] := by
  have xc : ∀ t ∈ [Tm.var "x", .val c], OkT t := fun t ht => by
    simp only [List.mem_cons, List.not_mem_nil, or_false] at ht
    rcases ht with rfl | rfl
    · trivial
    · exact hc
  have xa : ∀ t ∈ [Tm.var "x", .any], OkT t := fun t ht => by
    simp only [List.mem_cons, List.not_mem_nil, or_false] at ht
    rcases ht with rfl | rfl <;> trivial
  have ac : ∀ t ∈ [Tm.any, .val c], OkT t := fun t ht => by
    simp only [List.mem_cons, List.not_mem_nil, or_false] at ht
    rcases ht with rfl | rfl
    · trivial
    · exact hc
  have nx : ("x" : Str) ∈ (["x"] : List Str) := by simp
  refine ⟨⟨okRelM rfl ac, fun h => nomatch h⟩, ⟨.inl rfl, okRelM rfl xc, ?_, ?_⟩, ⟨.inr (.inr rfl), okRelM rfl xa, ?_, ?_⟩, ⟨.inr (.inl rfl), okRelM rfl xa, ?_, ?_⟩, okRelM rfl xc, ⟨.inr (.inr (.inl rfl)), mem_addN.mpr (.inr nx), hu⟩, trivial⟩
  · show ("s" : Str) ∉ (["x"] : List Str)
    decide +kernel
  · exact List.mem_append.mpr (.inr nx)
  · show ("g" : Str) ∉ (["x"] : List Str)
    decide +kernel
  · exact List.mem_append.mpr (.inr nx)
  · show ("l" : Str) ∉ (["x"] : List Str)
    decide +kernel
  · exact List.mem_append.mpr (.inr nx)
theorem mem_cols {b : List Lit} : ∀ {ks : List Str} {n : Str}, n ∈ colsM b ks → n ∈ ks ∨ ∃ l ∈ b, n ∈ newM l := by
  induction b with
  | nil => exact fun h => .inl h
  | cons l ls ih =>
    intro ks n h
    rcases ih (ks := (newM l).foldl addN ks) h with m | ⟨l', m, e⟩
    · rcases mem_addN.mp m with m | m
      · exact .inl m
      · exact .inr ⟨l, by simp, m⟩
    · exact .inr ⟨l', by simp [m], e⟩
theorem bodyM_text {c u : V} : ∀ n ∈ colsM (bodyM c u) [], PyData.strOk n = true := by
  intro n h
  rcases mem_cols h with m | ⟨l, m, e⟩
  · exact nomatch m
  · simp only [bodyM, List.mem_cons, List.not_mem_nil, or_false] at m
    rcases m with rfl | rfl | rfl | rfl | rfl | rfl
    · rw [List.mem_singleton.mp (show n ∈ (["n"] : List Str) from e)]
      decide +kernel
    · rw [List.mem_singleton.mp (show n ∈ (["s"] : List Str) from e)]
      decide +kernel
    · rw [List.mem_singleton.mp (show n ∈ (["g"] : List Str) from e)]
      decide +kernel
    · rw [List.mem_singleton.mp (show n ∈ (["l"] : List Str) from e)]
      decide +kernel
    · rw [List.mem_singleton.mp (show n ∈ (["x"] : List Str) from e)]
      decide +kernel
    · exact nomatch (show n ∈ ([] : List Str) from e)
theorem factsM_ok {rows : List Row} (h : ∀ r ∈ rows, RVal r ∧ r.length = 2) (so : rows.Pairwise fun x y => ltRow x y = true) (hl : rows.length ≤ 1000) : OkFacts relM [("r", rows)] where
  names := rfl
  nd := by simp
  vals := fun p hp r hr => by
    rw [List.mem_singleton.mp hp] at hr
    exact (h r hr).1
  width := fun p hp r hr => by
    rw [List.mem_singleton.mp hp] at hr ⊢
    rw [(h r hr).2]
    exact relM_width
  sorted := fun p hp => by
    rw [List.mem_singleton.mp hp]
    exact so
  few := fun p hp => by
    rw [List.mem_singleton.mp hp]
    exact hl
  short := fun p hp => by
    rw [List.mem_singleton.mp hp]
    exact ⟨by decide, by decide⟩
  less := by decide
theorem lt_int {i j : Int} {v u : V} (h : i < j) : ltRow [.int i, v] [.int j, u] = true := by
  have n : ¬ V.int i = V.int j := fun e => by
    injection e with e
    omega
  show (if V.int i = V.int j then ltRow [v] [u] else ltV (.int i) (.int j)) = true
  rw [if_neg n]
  exact decide_eq_true h
section
variable {P : Program} {w : World} {K : PySem.W.Frag} {mg : Str → Option Value} {base : Heap} {C : Addr}
def spMany : Sp := fun vs H Q _ => ∃ st, vs = [.ref st] ∧ IsSt H st ∧ ∀ H', Q (.bl true) H'
theorem c_law_many (T : Tx K mg C) (C__law_next : C8.Cal P w K mg base 1 "_law_next" spNext []) (C__law_state : C8.Cal P w K mg base 8 "_law_state" (spLS C) []) (C_answer : C8.Cal P w K mg base 6 "answer" (spAns C) []) (C__law_answer : C8.Cal P w K mg base 5 "_law_answer" spLA [])
    (C__law_same : C8.Cal P w K mg base 5 "_law_same" (spSame (Tree 3)) []) : C8.Cal P w K mg base 9 "_law_many" spMany [] := by
  refine cal T.d_law_many (N := ["_law_state_here", "_law_step", "_law_rows", "_law_k", "_law_relations_here", "_law_facts", "_law_x", "_law_chosen", "_law_first", "_law_body_here", "_law_world"]) (by decide +kernel) (fun vs H Q E h => ?_) (fun f cdv A outer s H vs Q E nd hr h => ?_)
  · obtain ⟨st, rfl, _⟩ := h
    rfl
  obtain ⟨st, rfl, hst, q⟩ := h
  refine ⟨_, (pss_cons (ps_set (i := 1) nd rfl (Or.inl rfl) (pe_op op_add pe_int (C8.pe_c C__law_next hr (by decide) rfl (pa_cons (pv 0) (pa_cons pe_int pa_nil)))))
    (pss_cons (ps_set (i := 2) nd rfl (Or.inl rfl) (pe_lst pa_nil))
    (pss_cons (ps_for PassesOwn.never rfl (pi_range1 rfl T.n_range (pa_cons (pe_op op_add pe_int (C8.pe_c C__law_next hr (by decide) rfl (pa_cons (pv 0) (pa_cons pe_int pa_nil)))) pa_nil)) (pg_name (i := 3) nd rfl (Or.inl rfl))
      (pss_one (ps_expr (pe_bm PySem.F.plainAttrs_list PySem.F.slot_list_append PySem.F.type_list_append mt_append (pv 2) (pa_cons (pe_tup (pa_cons (pe_op op_sub (pe_op op_mul (pv 3) (pv 1)) pe_int) (pa_cons (pe_ix (ixL K) (pe_lst (pa_cons pe_str (pa_cons pe_str (pa_cons pe_int pa_nil)))) (pe_op op_mod (pe_callTy call_int1 (by rfl) T.n_int (by decide +kernel) (pa_cons (pv 3) pa_nil)) pe_int) (fun _ _ => rfl)) pa_nil))) pa_nil)))))
    (pss_cons (ps_set (i := 4) nd rfl (Or.inl rfl) (pe_disp (pps_cons pe_str (pe_tup (pa_cons (pe_tup (pa_cons pe_str (pa_cons pe_str pa_nil))) (pa_cons pe_int pa_nil))) pps_nil) (by rfl) (by rfl) (fun z => by cases z) (by decide)))
    (pss_cons (ps_set (i := 5) nd rfl (Or.inl rfl) (pe_disp (pps_cons pe_str (pv 2) pps_nil) (by rfl) (by rfl) (fun z => by cases z) (by decide)))
    (pss_cons (ps_set (i := 6) nd rfl (Or.inl rfl) (pe_tup (pa_cons pe_str (pa_cons pe_str pa_nil))))
    (pss_cons (ps_set (i := 7) nd rfl (Or.inl rfl) (pe_tup (pa_cons pe_str (pa_cons (pe_ix (ixL K) (pe_lst (pa_cons pe_str (pa_cons pe_int pa_nil))) (C8.pe_c C__law_next hr (by decide) rfl (pa_cons (pv 0) (pa_cons pe_int pa_nil))) (fun _ _ => rfl)) pa_nil))))
    (pss_cons (ps_set (i := 8) nd rfl (Or.inl rfl) (pe_tup (pa_cons pe_str (pa_cons (C8.pe_c C__law_next hr (by decide) rfl (pa_cons (pv 0) (pa_cons pe_int pa_nil))) pa_nil))))
    (pss_cons (ps_set (i := 9) nd rfl (Or.inl rfl) (pe_tup (pa_cons (pe_tup (pa_cons pe_str (pa_cons pe_str (pa_cons pe_str (pa_cons (pe_tup (pa_cons (pe_tup (pa_cons pe_str pa_nil)) (pa_cons (pv 7) pa_nil))) pa_nil))))) (pa_cons (pe_tup (pa_cons pe_str (pa_cons pe_str (pa_cons (pv 6) (pa_cons pe_str (pa_cons (pe_tup (pa_cons (pv 6) (pa_cons (pv 7) pa_nil))) pa_nil)))))) (pa_cons (pe_tup (pa_cons pe_str (pa_cons pe_str (pa_cons (pv 6) (pa_cons pe_str (pa_cons (pe_tup (pa_cons (pv 6) (pa_cons (pe_tup (pa_cons pe_str pa_nil)) pa_nil))) pa_nil)))))) pa_nil)))))
    (pss_cons (ps_set (i := 9) nd rfl (Or.inl rfl) (pe_op (catT K) (pv 9) (pe_tup (pa_cons (pe_tup (pa_cons pe_str (pa_cons pe_str (pa_cons (pv 6) (pa_cons pe_str (pa_cons (pe_tup (pa_cons (pv 6) (pa_cons (pe_tup (pa_cons pe_str pa_nil)) pa_nil))) pa_nil)))))) (pa_cons (pe_tup (pa_cons pe_str (pa_cons pe_str (pa_cons (pe_tup (pa_cons (pv 6) (pa_cons (pv 7) pa_nil))) pa_nil)))) (pa_cons (pe_tup (pa_cons pe_str (pa_cons pe_str (pa_cons (pv 6) (pa_cons (pv 8) pa_nil))))) pa_nil))))))
    (pss_cons (ps_set (i := 10) nd rfl (Or.inl rfl) (C8.pe_c C__law_state hr (by decide) rfl (pa_cons (pv 4) (pa_cons (pv 5) pa_nil))))
    (pss_one (ps_ret (C8.pe_c C__law_same hr (by decide) rfl (pa_cons (C8.pe_c C_answer hr (by decide) rfl (pa_cons (pv 10) (pa_cons (pv 9) pa_nil))) (pa_cons (C8.pe_c C__law_answer hr (by decide) rfl (pa_cons (pv 5) (pa_cons (pv 9) pa_nil))) pa_nil)))))))))))))))), ?_⟩
  refine sqS ⟨_, rfl, st, _, rfl, hst, by decide, by decide, fun j H1 j0 j1 st1 b1 => ⟨_, _, rfl, rfl, ?_⟩⟩
  refine sqS ⟨z0, fun pr hpr => ?_⟩
  have npr := st1.ne hpr
  have s1 : Same H1 (upd H1 pr (.lst [])) := Same.new hpr
  have hpr1 : H1 pr = none := hpr
  have c1 : upd H1 pr (.lst []) pr = some (.lst []) := upd_same
  have st2 := st1.mono s1
  generalize upd H1 pr (.lst []) = H2 at s1 c1 st2 ⊢
  refine sqF ⟨_, rfl, st, _, rfl, st2, by decide, by decide, fun kk H3 k0 k1 st3 b3 => ⟨_, _, rfl, rfl, _, rfl, by omega, by omega, ?_⟩⟩
  have h3 := b3.1 _ _ npr c1
  have hn : (100 + kk).toNat ≤ 499 := by omega
  refine for_range (n := (100 + kk).toNat) (fun k σ H4 => ∃ o3, σ = [some (.ref st), some (.int (1 + j)), some (.ref pr), o3, none, none, none, none, none, none, none] ∧ IsSt H4 st ∧ But st H1 H4 ∧ ∃ acc rws, H4 pr = some (.lst acc) ∧ Paired (IsRow H4) acc rws ∧ rws.length = k ∧ (∀ r ∈ rws, RVal r ∧ r.length = 2) ∧ rws.Pairwise (fun x y => ltRow x y = true) ∧ ∀ r ∈ rws, ∃ i v, r = [.int i, v] ∧ i < (k : Int) * (1 + j) - 50)
    ⟨none, rfl, st3, (But.of s1).trans b3, [], [], h3, .nil, rfl, by simp, .nil, by simp⟩ (fun k σ H4 hk h => ?_) fun σ H4 h => ?_
  · obtain ⟨o3, rfl, st4, b4, acc, rws, h4, pw, lw, ok, so, lo⟩ := h
    have lacc := same_len pw
    refine ⟨_, rfl, .inl ⟨rfl, _, sqL h4⟩, _, rfl, _, rfl, _, _, rfl, rfl, .inl ⟨by omega, by omega⟩, _, _, rfl, rfl, z3, fun pl hpl => ⟨_, rfl, .inl ⟨_, rfl, _, _, rfl, rfl, (by show (0 : Int) < 3; decide), ?_⟩⟩⟩
    obtain ⟨v, hv, hm⟩ := at_in (xs := [V.str "s", .str "t", .int 7]) (i := (0 + (k : Int)) % 3) (Int.emod_nonneg _ (by decide)) (Int.emod_lt_of_pos _ (by decide))
    have iv : IsVal v := by
      simp only [List.mem_cons, List.not_mem_nil, or_false] at hm
      rcases hm with rfl | rfl | rfl
      · show PyData.strOk "s" = true
        decide +kernel
      · show PyData.strOk "t" = true
        decide +kernel
      · trivial
    refine ⟨pl, _, _, v, rfl, rfl, sqL upd_same, hv, z2, fun pt hpt => ?_⟩
    have s5 := (Same.new (o := .lst [.str "s", .str "t", .int 7]) hpl).trans (Same.new (o := .tup [.int ((0 + (k : Int)) * (1 + j) - 50), v]) hpt)
    have h5 := s5 _ _ h4
    refine ⟨pr, acc, .ref pt, rfl, rfl, h5, sz_ok' (by omega), ?_⟩
    have tS := tupS_lst (ys := acc ++ [.ref pt]) h5
    have st5 := st4.mono s5
    have hpt' : upd (upd H4 pl (.lst [.str "s", .str "t", .int 7])) pt (.tup [.int ((0 + (k : Int)) * (1 + j) - 50), v]) pt = some (.tup [.int ((0 + (k : Int)) * (1 + j) - 50), v]) := upd_same
    have st6 : IsSt (upd (upd (upd H4 pl (.lst [.str "s", .str "t", .int 7])) pt (.tup [.int ((0 + (k : Int)) * (1 + j) - 50), v])) pr (.lst (acc ++ [.ref pt]))) st := st1.mut (b4.same s5) st5 hpr1
    refine ⟨_, rfl, st6, (b4.same s5).mut hpr1 st1, acc ++ [.ref pt], rws ++ [[.int ((0 + (k : Int)) * (1 + j) - 50), v]], upd_same, Paired.app (Paired.mapP pw fun _ _ z => z.mono (s5.tup.trans tS)) (.cons ⟨pt, rfl, tS _ _ hpt'⟩ .nil), by rw [List.length_append, lw]; rfl, fun r hr => ?_, ?_, fun r hr => ?_⟩
    · rcases List.mem_append.mp hr with m | m
      · exact ok r m
      · rw [List.mem_singleton.mp m]
        refine ⟨fun x hx => ?_, rfl⟩
        simp only [List.mem_cons, List.not_mem_nil, or_false] at hx
        rcases hx with rfl | rfl
        · trivial
        · exact iv
    · rw [List.pairwise_append]
      refine ⟨so, List.pairwise_singleton _ _, fun x hx y hy => ?_⟩
      rw [List.mem_singleton.mp hy]
      obtain ⟨i, u, rfl, hi⟩ := lo x hx
      refine lt_int ?_
      rw [Int.zero_add]
      exact hi
    · have e1 : ((k + 1 : Nat) : Int) * (1 + j) = (k : Int) * (1 + j) + (1 + j) := by
        push_cast
        rw [Int.add_mul, Int.one_mul]
      rw [e1]
      rcases List.mem_append.mp hr with m | m
      · obtain ⟨i, u, er, hi⟩ := lo r m
        exact ⟨i, u, er, by omega⟩
      · rw [List.mem_singleton.mp m, Int.zero_add]
        exact ⟨_, _, rfl, by omega⟩
  obtain ⟨o3, rfl, st4, b4, acc, rws, h4, pw, lw, ok, so, _⟩ := h
  have lw5 : rws.length ≤ 1000 := by omega
  have of := factsM_ok ok so lw5
  clear so ok b3 b1 b4 s1 c1 h3 st1 st2 st3 hpr1
  dsimp only
  -- the relations
  refine sqS ?_
  refine fun pd hpd => ⟨z2, fun pc hpc => ⟨z2, fun pv hpv => ?_⟩⟩
  have npd := st4.ne hpd
  have t1 : Same H4 (upd H4 pd (.dK [])) := Same.new hpd
  have c_pd : upd H4 pd (.dK []) pd = some (.dK []) := upd_same
  generalize upd H4 pd (.dK []) = D0 at t1 c_pd hpc hpv ⊢
  have t2 : Same D0 (upd D0 pc (.tup [.str "a", .str "b"])) := Same.new hpc
  have c_pc : upd D0 pc (.tup [.str "a", .str "b"]) pc = some (.tup [.str "a", .str "b"]) := upd_same
  generalize upd D0 pc (.tup [.str "a", .str "b"]) = D1 at t2 c_pc hpv ⊢
  have t3 : Same D1 (upd D1 pv (.tup [.ref pc, .int 40])) := Same.new hpv
  have c_pv : upd D1 pv (.tup [.ref pc, .int 40]) pv = some (.tup [.ref pc, .int 40]) := upd_same
  generalize upd D1 pv (.tup [.ref pc, .int 40]) = D2 at t3 c_pv ⊢
  refine ⟨(t2.trans t3) _ _ c_pd, [(.inr "r", .ref pv)], rfl, (by decide : 1 ≤ 15), ?_⟩
  have s5 : Same H4 (upd D2 pd (.dK (mergeK [] [(.inr "r", .ref pv)]))) := ((t1.trans t2).trans t3).mut hpd
  have dd : upd D2 pd (.dK (mergeK [] [(.inr "r", .ref pv)])) pd = some (.dK [(.inr "r", .ref pv)]) := upd_same
  have dc : upd D2 pd (.dK (mergeK [] [(.inr "r", .ref pv)])) pc = some (.tup [.str "a", .str "b"]) := by
    rw [upd_ne (ne_of c_pc ((t2 _ _ c_pd)) fun z => nomatch z)]
    exact t3 _ _ c_pc
  have dv : upd D2 pd (.dK (mergeK [] [(.inr "r", .ref pv)])) pv = some (.tup [.ref pc, .int 40]) := by
    rw [upd_ne (ne_of c_pv ((t2.trans t3) _ _ c_pd) fun z => nomatch z)]
    exact c_pv
  have st5 := st4.mono s5
  have npc : pc ≠ st := by
    obtain ⟨ys, hy⟩ := st5.lst
    exact ne_of dc hy fun z => nomatch z
  have npv : pv ≠ st := by
    obtain ⟨ys, hy⟩ := st5.lst
    exact ne_of dv hy fun z => nomatch z
  generalize upd D2 pd (.dK (mergeK [] [(.inr "r", .ref pv)])) = H5 at s5 dd dc dv st5 ⊢
  clear t1 t2 t3 c_pd c_pc c_pv hpd hpc hpv
  -- the facts
  refine sqS ?_
  refine fun pf hpf => ⟨_, rfl, upd_same, [(.inr "r", .ref pr)], rfl, (by decide : 1 ≤ 15), ?_⟩
  rw [upd_upd]
  have npf := st5.ne hpf
  have s6 : Same H5 (upd H5 pf (.dK (mergeK [] [(.inr "r", .ref pr)]))) := Same.new hpf
  have df : upd H5 pf (.dK (mergeK [] [(.inr "r", .ref pr)])) pf = some (.dK [(.inr "r", .ref pr)]) := upd_same
  have st6 := st5.mono s6
  generalize upd H5 pf (.dK (mergeK [] [(.inr "r", .ref pr)])) = H6 at s6 df st6 ⊢
  -- x
  refine sqS ⟨z2, fun px hpx => ?_⟩
  have npx := st6.ne hpx
  have t7 : Same H6 (upd H6 px (.tup [.str "variable", .str "x"])) := Same.new hpx
  have c_px : upd H6 px (.tup [.str "variable", .str "x"]) px = some (.tup [.str "variable", .str "x"]) := upd_same
  generalize upd H6 px (.tup [.str "variable", .str "x"]) = H7 at t7 c_px ⊢
  have st7 := st6.mono t7
  -- chosen
  refine sqS ⟨z2, fun pl hpl => ?_⟩
  have npl := st7.ne hpl
  have t8 : Same H7 (upd H7 pl (.lst [.str "s", .int 7])) := Same.new hpl
  have c_pl : upd H7 pl (.lst [.str "s", .int 7]) pl = some (.lst [.str "s", .int 7]) := upd_same
  generalize upd H7 pl (.lst [.str "s", .int 7]) = H8 at t8 c_pl ⊢
  have st8 := st7.mono t8
  refine ⟨_, rfl, st, _, rfl, st8, by decide, by decide, fun k9 H9 k90 k91 st9 b9 => ?_⟩
  obtain ⟨cv, hcv, mcv⟩ := at_in (xs := [V.str "s", .int 7]) k90 k91
  have icv : IsVal cv := by
    simp only [List.mem_cons, List.not_mem_nil, or_false] at mcv
    rcases mcv with rfl | rfl
    · show PyData.strOk "s" = true
      decide +kernel
    · trivial
  refine ⟨pl, _, _, cv, rfl, rfl, sqL (b9.1 _ _ npl c_pl), hcv, z2, fun pq hpq => ?_⟩
  have npq := st9.ne hpq
  have t10 : Same H9 (upd H9 pq (.tup [.str "value", cv])) := Same.new hpq
  have c_pq : upd H9 pq (.tup [.str "value", cv]) pq = some (.tup [.str "value", cv]) := upd_same
  generalize upd H9 pq (.tup [.str "value", cv]) = H10 at t10 c_pq ⊢
  have st10 := st9.mono t10
  -- first
  refine sqS ⟨_, rfl, st, _, rfl, st10, by decide, by decide, fun k11 H11 k110 k111 st11 b11 => ⟨z2, fun pu hpu => ?_⟩⟩
  have npu := st11.ne hpu
  have t12 : Same H11 (upd H11 pu (.tup [.str "value", .int k11])) := Same.new hpu
  have c_pu : upd H11 pu (.tup [.str "value", .int k11]) pu = some (.tup [.str "value", .int k11]) := upd_same
  generalize upd H11 pu (.tup [.str "value", .int k11]) = H12 at t12 c_pu ⊢
  have st12 := st11.mono t12
  have B : But st H4 H12 := ((((((But.of (s5.trans s6)).same t7).same t8).trans b9).same t10).trans b11).same t12
  have B5 : But st H5 H12 := (((((But.of (s6.trans t7)).same t8).trans b9).same t10).trans b11).same t12
  have B6 : But st H6 H12 := ((((But.of (t7.trans t8)).trans b9).same t10).trans b11).same t12
  have B7 : But st H7 H12 := ((((But.of t8).trans b9).same t10).trans b11).same t12
  have B10 : But st H10 H12 := b11.same t12
  have e_pr := B.1 _ _ npr h4
  have e_rows : Paired (IsRow H12) acc rws := Paired.mapP pw fun _ _ z => z.mono (B.tup st4.lst)
  have e_pd := B5.1 _ _ npd dd
  have e_pc := B5.1 _ _ npc dc
  have e_pv := B5.1 _ _ npv dv
  have e_pf := B6.1 _ _ npf df
  have e_px := B7.1 _ _ npx c_px
  have e_pq := B10.1 _ _ npq c_pq
  have e_pu := c_pu
  clear B B5 B6 B7 B10 b9 b11 t7 t8 t10 t12 s5 s6 dd dc dv df c_px c_pq c_pu c_pl hpf hpx hpl hpq hpu h4 pw st4 st5 st6 st7 st8 st9 st10 st11 st12 hcv mcv
  -- the body
  refine sqS ⟨z1, fun q1 hq1 => ?_⟩
  have t21 : Same H12 (upd H12 q1 (.tup [.str "any"])) := Same.new hq1
  have c_q1 : upd H12 q1 (.tup [.str "any"]) q1 = some (.tup [.str "any"]) := upd_same
  generalize upd H12 q1 (.tup [.str "any"]) = G1 at t21 c_q1 ⊢
  refine ⟨_, rfl, z2, fun q2 hq2 => ?_⟩
  have t22 : Same G1 (upd G1 q2 (.tup [.ref q1, .ref pq])) := Same.new hq2
  have c_q2 : upd G1 q2 (.tup [.ref q1, .ref pq]) q2 = some (.tup [.ref q1, .ref pq]) := upd_same
  generalize upd G1 q2 (.tup [.ref q1, .ref pq]) = G2 at t22 c_q2 ⊢
  refine ⟨z4, fun q3 hq3 => ?_⟩
  have t23 : Same G2 (upd G2 q3 (.tup [.str "count", .str "n", .str "r", .ref q2])) := Same.new hq3
  have c_q3 : upd G2 q3 (.tup [.str "count", .str "n", .str "r", .ref q2]) q3 = some (.tup [.str "count", .str "n", .str "r", .ref q2]) := upd_same
  generalize upd G2 q3 (.tup [.str "count", .str "n", .str "r", .ref q2]) = G3 at t23 c_q3 ⊢
  refine ⟨_, rfl, _, rfl, _, rfl, z2, fun q4 hq4 => ?_⟩
  have t24 : Same G3 (upd G3 q4 (.tup [.ref px, .ref pq])) := Same.new hq4
  have c_q4 : upd G3 q4 (.tup [.ref px, .ref pq]) q4 = some (.tup [.ref px, .ref pq]) := upd_same
  generalize upd G3 q4 (.tup [.ref px, .ref pq]) = G4 at t24 c_q4 ⊢
  refine ⟨z5, fun q5 hq5 => ?_⟩
  have t25 : Same G4 (upd G4 q5 (.tup [.str "sum", .str "s", .ref px, .str "r", .ref q4])) := Same.new hq5
  have c_q5 : upd G4 q5 (.tup [.str "sum", .str "s", .ref px, .str "r", .ref q4]) q5 = some (.tup [.str "sum", .str "s", .ref px, .str "r", .ref q4]) := upd_same
  generalize upd G4 q5 (.tup [.str "sum", .str "s", .ref px, .str "r", .ref q4]) = G5 at t25 c_q5 ⊢
  refine ⟨_, rfl, _, rfl, z1, fun q6 hq6 => ?_⟩
  have t26 : Same G5 (upd G5 q6 (.tup [.str "any"])) := Same.new hq6
  have c_q6 : upd G5 q6 (.tup [.str "any"]) q6 = some (.tup [.str "any"]) := upd_same
  generalize upd G5 q6 (.tup [.str "any"]) = G6 at t26 c_q6 ⊢
  refine ⟨z2, fun q7 hq7 => ?_⟩
  have t27 : Same G6 (upd G6 q7 (.tup [.ref px, .ref q6])) := Same.new hq7
  have c_q7 : upd G6 q7 (.tup [.ref px, .ref q6]) q7 = some (.tup [.ref px, .ref q6]) := upd_same
  generalize upd G6 q7 (.tup [.ref px, .ref q6]) = G7 at t27 c_q7 ⊢
  refine ⟨z5, fun q8 hq8 => ?_⟩
  have t28 : Same G7 (upd G7 q8 (.tup [.str "greatest", .str "g", .ref px, .str "r", .ref q7])) := Same.new hq8
  have c_q8 : upd G7 q8 (.tup [.str "greatest", .str "g", .ref px, .str "r", .ref q7]) q8 = some (.tup [.str "greatest", .str "g", .ref px, .str "r", .ref q7]) := upd_same
  generalize upd G7 q8 (.tup [.str "greatest", .str "g", .ref px, .str "r", .ref q7]) = G8 at t28 c_q8 ⊢
  refine ⟨z3, fun q9 hq9 => ?_⟩
  have t29 : Same G8 (upd G8 q9 (.tup [.ref q3, .ref q5, .ref q8])) := Same.new hq9
  have c_q9 : upd G8 q9 (.tup [.ref q3, .ref q5, .ref q8]) q9 = some (.tup [.ref q3, .ref q5, .ref q8]) := upd_same
  generalize upd G8 q9 (.tup [.ref q3, .ref q5, .ref q8]) = G9 at t29 c_q9 ⊢
  refine sqS ⟨_, rfl, _, rfl, _, rfl, z1, fun q10 hq10 => ?_⟩
  have t30 : Same G9 (upd G9 q10 (.tup [.str "any"])) := Same.new hq10
  have c_q10 : upd G9 q10 (.tup [.str "any"]) q10 = some (.tup [.str "any"]) := upd_same
  generalize upd G9 q10 (.tup [.str "any"]) = G10 at t30 c_q10 ⊢
  refine ⟨z2, fun q11 hq11 => ?_⟩
  have t31 : Same G10 (upd G10 q11 (.tup [.ref px, .ref q10])) := Same.new hq11
  have c_q11 : upd G10 q11 (.tup [.ref px, .ref q10]) q11 = some (.tup [.ref px, .ref q10]) := upd_same
  generalize upd G10 q11 (.tup [.ref px, .ref q10]) = G11 at t31 c_q11 ⊢
  refine ⟨z5, fun q12 hq12 => ?_⟩
  have t32 : Same G11 (upd G11 q12 (.tup [.str "least", .str "l", .ref px, .str "r", .ref q11])) := Same.new hq12
  have c_q12 : upd G11 q12 (.tup [.str "least", .str "l", .ref px, .str "r", .ref q11]) q12 = some (.tup [.str "least", .str "l", .ref px, .str "r", .ref q11]) := upd_same
  generalize upd G11 q12 (.tup [.str "least", .str "l", .ref px, .str "r", .ref q11]) = G12 at t32 c_q12 ⊢
  refine ⟨_, rfl, _, rfl, z2, fun q13 hq13 => ?_⟩
  have t33 : Same G12 (upd G12 q13 (.tup [.ref px, .ref pq])) := Same.new hq13
  have c_q13 : upd G12 q13 (.tup [.ref px, .ref pq]) q13 = some (.tup [.ref px, .ref pq]) := upd_same
  generalize upd G12 q13 (.tup [.ref px, .ref pq]) = G13 at t33 c_q13 ⊢
  refine ⟨z3, fun q14 hq14 => ?_⟩
  have t34 : Same G13 (upd G13 q14 (.tup [.str "fact", .str "r", .ref q13])) := Same.new hq14
  have c_q14 : upd G13 q14 (.tup [.str "fact", .str "r", .ref q13]) q14 = some (.tup [.str "fact", .str "r", .ref q13]) := upd_same
  generalize upd G13 q14 (.tup [.str "fact", .str "r", .ref q13]) = G14 at t34 c_q14 ⊢
  refine ⟨_, rfl, _, rfl, z4, fun q15 hq15 => ?_⟩
  have t35 : Same G14 (upd G14 q15 (.tup [.str "compare", .str "<", .ref px, .ref pu])) := Same.new hq15
  have c_q15 : upd G14 q15 (.tup [.str "compare", .str "<", .ref px, .ref pu]) q15 = some (.tup [.str "compare", .str "<", .ref px, .ref pu]) := upd_same
  generalize upd G14 q15 (.tup [.str "compare", .str "<", .ref px, .ref pu]) = G15 at t35 c_q15 ⊢
  refine ⟨z3, fun q16 hq16 => ?_⟩
  have t36 : Same G15 (upd G15 q16 (.tup [.ref q12, .ref q14, .ref q15])) := Same.new hq16
  have c_q16 : upd G15 q16 (.tup [.ref q12, .ref q14, .ref q15]) q16 = some (.tup [.ref q12, .ref q14, .ref q15]) := upd_same
  generalize upd G15 q16 (.tup [.ref q12, .ref q14, .ref q15]) = G16 at t36 c_q16 ⊢
  have u36 := t36
  have u35 := t35.trans u36
  have u34 := t34.trans u35
  have u33 := t33.trans u34
  have u32 := t32.trans u33
  have u31 := t31.trans u32
  have u30 := t30.trans u31
  have u29 := t29.trans u30
  have u28 := t28.trans u29
  have u27 := t27.trans u28
  have u26 := t26.trans u27
  have u25 := t25.trans u26
  have u24 := t24.trans u25
  have u23 := t23.trans u24
  have u22 := t22.trans u23
  have u21 := t21.trans u22
  refine ⟨q9, q16, _, _, rfl, rfl, sqT (u30 _ _ c_q9), sqT c_q16, sz_ok (by show 6 ≤ _; decide), (fun z => nomatch z), (fun _ z => nomatch z), fun _ _ qb hqb => ?_⟩
  have sf : Same G16 (upd G16 qb (.tup ([V.ref q3, .ref q5, .ref q8] ++ [V.ref q12, .ref q14, .ref q15]))) := Same.new hqb
  have cb : upd G16 qb (.tup ([V.ref q3, .ref q5, .ref q8] ++ [V.ref q12, .ref q14, .ref q15])) qb = some (.tup [.ref q3, .ref q5, .ref q8, .ref q12, .ref q14, .ref q15]) := upd_same
  generalize upd G16 qb (.tup ([V.ref q3, .ref q5, .ref q8] ++ [V.ref q12, .ref q14, .ref q15])) = G at sf cb ⊢
  have S := u21.trans sf
  have fx : IsTm G (.ref px) (.var "x") := ⟨px, rfl, S _ _ e_px⟩
  have fq : IsTm G (.ref pq) (.val cv) := ⟨pq, rfl, S _ _ e_pq⟩
  have fu : IsTm G (.ref pu) (.val (.int k11)) := ⟨pu, rfl, S _ _ e_pu⟩
  have fa1 : IsTm G (.ref q1) .any := ⟨q1, rfl, (u22.trans sf) _ _ c_q1⟩
  have fa6 : IsTm G (.ref q6) .any := ⟨q6, rfl, (u27.trans sf) _ _ c_q6⟩
  have fa10 : IsTm G (.ref q10) .any := ⟨q10, rfl, (u31.trans sf) _ _ c_q10⟩
  have m2 : IsTms G (.ref q2) [.any, .val cv] := ⟨q2, _, rfl, (u23.trans sf) _ _ c_q2, .cons fa1 (.cons fq .nil)⟩
  have m4 : IsTms G (.ref q4) [.var "x", .val cv] := ⟨q4, _, rfl, (u25.trans sf) _ _ c_q4, .cons fx (.cons fq .nil)⟩
  have m7 : IsTms G (.ref q7) [.var "x", .any] := ⟨q7, _, rfl, (u28.trans sf) _ _ c_q7, .cons fx (.cons fa6 .nil)⟩
  have m11 : IsTms G (.ref q11) [.var "x", .any] := ⟨q11, _, rfl, (u32.trans sf) _ _ c_q11, .cons fx (.cons fa10 .nil)⟩
  have m13 : IsTms G (.ref q13) [.var "x", .val cv] := ⟨q13, _, rfl, (u34.trans sf) _ _ c_q13, .cons fx (.cons fq .nil)⟩
  have l3 : IsLit G (.ref q3) (.cnt "n" "r" [.any, .val cv]) := ⟨q3, _, rfl, (u24.trans sf) _ _ c_q3, _, rfl, m2⟩
  have l5 : IsLit G (.ref q5) (.tot "sum" "s" (.var "x") "r" [.var "x", .val cv]) := ⟨q5, _, rfl, (u26.trans sf) _ _ c_q5, _, _, rfl, fx, m4⟩
  have l8 : IsLit G (.ref q8) (.tot "greatest" "g" (.var "x") "r" [.var "x", .any]) := ⟨q8, _, rfl, (u29.trans sf) _ _ c_q8, _, _, rfl, fx, m7⟩
  have l12 : IsLit G (.ref q12) (.tot "least" "l" (.var "x") "r" [.var "x", .any]) := ⟨q12, _, rfl, (u33.trans sf) _ _ c_q12, _, _, rfl, fx, m11⟩
  have l14 : IsLit G (.ref q14) (.fact "r" [.var "x", .val cv]) := ⟨q14, _, rfl, (u35.trans sf) _ _ c_q14, _, rfl, m13⟩
  have l15 : IsLit G (.ref q15) (.cmp "<" (.var "x") (.val (.int k11))) := ⟨q15, _, rfl, (u36.trans sf) _ _ c_q15, _, _, rfl, fx, fu⟩
  have bb : IsBody G (.ref qb) (bodyM cv (.int k11)) := ⟨qb, _, rfl, cb, .cons l3 (.cons l5 (.cons l8 (.cons l12 (.cons l14 (.cons l15 .nil)))))⟩
  have rr : IsRels G (.ref pd) relM := ⟨pd, _, rfl, S _ _ e_pd, .cons ⟨rfl, pv, pc, rfl, S _ _ e_pv, S _ _ e_pc⟩ .nil⟩
  have ff : IsFacts G (.ref pf) [("r", rws)] := ⟨pf, _, rfl, S _ _ e_pf, .cons ⟨rfl, pr, acc, rfl, S _ _ e_pr, Paired.mapP e_rows fun _ _ z => z.mono S.tup⟩ .nil⟩
  clear S fx fq fu fa1 fa6 fa10 m2 m4 m7 m11 m13 l3 l5 l8 l12 l14 l15
  have oa : OkAsk relM [("r", rws)] (bodyM cv (.int k11)) := okAsk (m := 1000) of (bodyM_ok icv trivial) (by show 6 ≤ 10; decide) (fun p hp => by rw [List.mem_singleton.mp hp]; exact lw5) (by decide) (by show 1000 ^ 1 ≤ 1000; decide)
  obtain ⟨a1, a2, a3⟩ := ans_ok oa
  -- the world, the two answers
  refine sqS ⟨_, rfl, _, rfl, .ref pd, .ref pf, relM, _, rfl, rr, ff, of, fun vw J1 s1 hw => ?_⟩
  refine ⟨_, rfl, _, rfl, vw, .ref qb, relM, _, _, rfl, hw, bb.mono s1.tup, oa, fun v1 J2 s2 h1 _ => ?_⟩
  refine ⟨_, rfl, _, rfl, .ref pf, .ref qb, relM, _, _, rfl, ff.mono (s1.trans s2), bb.mono (s1.trans s2).tup, oa, fun v2 J3 s3 h2 => ?_⟩
  exact .inr ⟨v1, v2, rfl, tree_ans (h1.mono s3) h2 bodyM_text a3 a1 a2, q J3⟩
end
end Tk

/-! ## TkL12 -/
set_option Elab.async false
set_option linter.all false
set_option maxRecDepth 100000
set_option maxHeartbeats 4000000
namespace Tk
open PySem PySem.Spec PyProof.Rows L2
theorem rowsOf_at : ∀ {F : Facts}, (F.map (·.1)).Nodup → ∀ {i : Nat} {n : Str} {rs : List Row}, F[i]? = some (n, rs) → rowsOf F n = rs
  | [], _, i, n, rs, e => by simp at e
  | p :: ps, nd, i, n, rs, e => by
    rw [List.map_cons, List.nodup_cons] at nd
    unfold rowsOf
    cases i with
    | zero =>
      have e' : p = (n, rs) := by simpa using e
      subst e'
      rw [List.find?_cons, decide_eq_true rfl]
    | succ i =>
      have e' : ps[i]? = some (n, rs) := by simpa using e
      have ne : ¬ p.1 = n := fun z => nd.1 (by rw [z]; exact List.mem_map.mpr ⟨(n, rs), List.mem_of_getElem? e', rfl⟩)
      rw [List.find?_cons, decide_eq_false ne]
      exact rowsOf_at nd.2 e'
/-! what a State and the facts are made of is never the script's own state -/
theorem wo_tup {H : Hp} {st b : Addr} {xs : List V} (s : IsSt H st) (h : H b = some (.tup xs)) : wo H st b = some (.tup xs) := by
  obtain ⟨ys, hy⟩ := s.lst
  rw [wo_ne (ne_of h hy fun z => nomatch z)]
  exact h
theorem wo_dK {H : Hp} {st b : Addr} {w : Way} (s : IsSt H st) (h : H b = some (.dK w)) : wo H st b = some (.dK w) := by
  obtain ⟨ys, hy⟩ := s.lst
  rw [wo_ne (ne_of h hy fun z => nomatch z)]
  exact h
theorem rows_wo {H : Hp} {st : Addr} {x : V} {rs : List Row} (s : IsSt H st) (h : IsRows H x rs) : IsRows (wo H st) x rs := by
  obtain ⟨l, xs, rfl, hl, px⟩ := h
  have n : l ≠ st := by
    rintro rfl
    obtain ⟨sc, ns, p, held, seed, h1, _⟩ := s
    rw [hl] at h1
    cases h1
    cases px with
    | cons _ q =>
      cases q with
      | cons q _ =>
        obtain ⟨a, e, _⟩ := q
        cases e
  refine ⟨l, xs, rfl, by rw [wo_ne n]; exact hl, Paired.mapP px fun x r z => ?_⟩
  obtain ⟨a, e, ha⟩ := z
  exact ⟨a, e, wo_tup s ha⟩
theorem rels_wo {H : Hp} {st : Addr} {x : V} {R : Rels} (s : IsSt H st) (h : IsRels H x R) : IsRels (wo H st) x R := by
  obtain ⟨a, kvs, rfl, ha, p⟩ := h
  refine ⟨a, kvs, rfl, wo_dK s ha, Paired.mapP p fun x r z => ?_⟩
  obtain ⟨e, b, c, e1, e2, e3⟩ := z
  exact ⟨e, b, c, e1, wo_tup s e2, wo_tup s e3⟩
theorem facts_wo {H : Hp} {st : Addr} {x : V} {F : Facts} (s : IsSt H st) (h : IsFacts H x F) : IsFacts (wo H st) x F := by
  obtain ⟨a, kvs, rfl, ha, p⟩ := h
  exact ⟨a, kvs, rfl, wo_dK s ha, Paired.mapP p fun x r z => ⟨z.1, rows_wo s z.2⟩⟩
theorem state_wo {C : Addr} {H : Hp} {st : Addr} {x : V} {R : Rels} {F : Facts} (s : IsSt H st) (h : IsState C H x R F) : IsState C (wo H st) x R F := by
  obtain ⟨sa, dx, fs, y1, y2, e, h1, h2, h3, h4, h5⟩ := h
  obtain ⟨ys, hy⟩ := s.lst
  exact ⟨sa, dx, fs, y1, y2, e, by rw [wo_ne (ne_of h1 hy fun z => nomatch z)]; exact h1, h2, rels_wo s h3, h4, facts_wo s h5⟩
theorem wo_sub {H : Hp} {st : Addr} : Same (wo H st) H := fun b o h => (wo_of h).2
theorem RelAt.rels {H : Hp} {st dr : Addr} {R : Rels} (h : RelAt H st dr R) : IsRels H (.ref dr) R := by
  obtain ⟨kr, h1, h2⟩ := h
  exact ⟨dr, kr, rfl, h1, Paired.mapP h2 fun _ _ z => z.mono wo_sub.tup⟩
theorem FacAt.facts {H : Hp} {st df : Addr} {F : Facts} (h : FacAt H st df F) : IsFacts H (.ref df) F := by
  obtain ⟨kf, h1, h2⟩ := h
  exact ⟨df, kf, rfl, h1, Paired.mapP h2 fun _ _ z => z.mono wo_sub⟩
theorem okFacts_rows {R : Rels} {F : Facts} (of : OkFacts R F) : ∀ p ∈ F, (∀ r ∈ p.2, RVal r ∧ r.length ≤ 1000) ∧ p.2.length ≤ 1000 := fun p hp => by
  refine ⟨fun r hr => ⟨of.vals p hp r hr, ?_⟩, of.few p hp⟩
  obtain ⟨q, hq, _, e⟩ := width_mem (of.width p hp r hr)
  have := (of.short q hq).1
  omega
section
variable {P : Program} {w : World} {K : PySem.W.Frag} {mg : Str → Option Value} {base : Heap} {C : Addr}
def spLaw (K : PySem.W.Frag) : Sp := fun vs H Q _ => ∃ (a : Addr) (ns : List Int), vs = [.ref a] ∧ SqL K H a (ns.map V.int) ∧ ns.length ≤ 63 ∧ ∀ H', Q (.bl true) H'
theorem f_law {f : Addr} {fd : FuncData} (D : C8.Def K mg "law" s_law f fd) (T : Tx K mg C) (C__law_next : C8.Cal P w K mg base 1 "_law_next" spNext []) (C__law_many : C8.Cal P w K mg base 9 "_law_many" spMany []) (C__law_relations : C8.Cal P w K mg base 4 "_law_relations" spRel []) (C__law_state : C8.Cal P w K mg base 8 "_law_state" (spLS C) [])
    (C__law_body : C8.Cal P w K mg base 5 "_law_body" spBody []) (C_answer : C8.Cal P w K mg base 6 "answer" (spAns C) []) (C__law_answer : C8.Cal P w K mg base 5 "_law_answer" spLA []) (C__law_same : C8.Cal P w K mg base 5 "_law_same" (spSame (Tree 3)) []) :
    FnOk P w K mg base C8.CX0 10 f fd ["_law_script"] (spLaw K) := by
  have nd : (["_law_script", "_law_state_here", "_law_relations_here", "_law_facts", "_law_world", "_law_k", "_law_body_here", "_law_due", "_law_told", "_law_name"] : List Str).Nodup := by decide +kernel
  refine C8.fn0 (N := ["_law_script", "_law_state_here", "_law_relations_here", "_law_facts", "_law_world", "_law_k", "_law_body_here", "_law_due", "_law_told", "_law_name"]) D.fn (C8.fnScope_by (by decide +kernel)) (fun vs H Q E h => ?_) (fun cdv A outer s H vs Q E hr h => ?_)
  · obtain ⟨a, ns, rfl, _⟩ := h
    rfl
  obtain ⟨a0, ns, rfl, hS, hns, q⟩ := h
  refine ⟨_, (pss_cons (ps_set (i := 1) nd rfl (Or.inl rfl) (pe_lst (pa_cons (pe_callTy (lstK K) (by rfl) T.n_list (by decide +kernel) (pa_cons (pv 0) pa_nil)) (pa_cons pe_int (pa_cons pe_int (pa_cons pe_int pa_nil))))))
    (pss_cons (ps_if (pt_cmpR op_eq (C8.pe_c C__law_next hr (by decide) rfl (pa_cons (pv 1) (pa_cons pe_int pa_nil))) pe_int (nomark _))
      (pss_one (ps_ret (C8.pe_c C__law_many hr (by decide) rfl (pa_cons (pv 1) pa_nil))))
      pss_nil)
    (pss_cons (ps_asg (C8.pe_c C__law_relations hr (by decide) rfl (pa_cons (pv 1) (pa_cons pe_int pa_nil))) (pgT K rfl (pgs_cons (pg_name (i := 2) nd rfl (Or.inl rfl)) (pgs_cons (pg_name (i := 3) nd rfl (Or.inr rfl)) pgs_nil))))
    (pss_cons (ps_set (i := 4) nd rfl (Or.inr rfl) (C8.pe_c C__law_state hr (by decide) rfl (pa_cons (pv 2) (pa_cons (pv 3) pa_nil))))
    (pss_cons (ps_for PassesOwn.never rfl (pi_range1 rfl T.n_range (pa_cons pe_int pa_nil)) (pg_name (i := 5) nd rfl (Or.inl rfl))
      (pss_cons (ps_set (i := 6) nd rfl (Or.inl rfl) (C8.pe_c C__law_body hr (by decide) rfl (pa_cons (pv 1) (pa_cons (pv 2) (pa_cons pe_bl pa_nil)))))
      (pss_cons (ps_set (i := 7) nd rfl (Or.inl rfl) (C8.pe_c C__law_answer hr (by decide) rfl (pa_cons (pv 3) (pa_cons (pv 6) pa_nil))))
      (pss_cons (ps_set (i := 8) nd rfl (Or.inl rfl) (C8.pe_c C_answer hr (by decide) rfl (pa_cons (pv 4) (pa_cons (pv 6) pa_nil))))
      (pss_cons (ps_if (pt_not (pt_val (C8.pe_c C__law_same hr (by decide) rfl (pa_cons (pv 8) (pa_cons (pv 7) pa_nil)))))
        (pss_one (ps_ret pe_bl))
        pss_nil)
      (pss_cons (ps_expr (pe_bm PySem.F.plainAttrs_list PySem.F.slot_list_append PySem.F.type_list_append mt_append (pe_ix (ixT K) (pv 8) pe_int (fun _ _ => rfl)) (pa_cons (pe_tup pa_nil) pa_nil)))
      (pss_one (ps_if (pt_not (pt_val (C8.pe_c C__law_same hr (by decide) rfl (pa_cons (C8.pe_c C_answer hr (by decide) rfl (pa_cons (pv 4) (pa_cons (pv 6) pa_nil))) (pa_cons (pv 7) pa_nil)))))
        (pss_one (ps_ret pe_bl))
        pss_nil))))))))
    (pss_one (ps_ret (C8.pe_c C__law_same hr (by decide) rfl (pa_cons (pe_lock (pe_lc (own := [("_law_name", 9)]) rfl nd (pi_keys (pv 3)) (blkOk_by (own := [("_law_name", 9)]) (N := ["_law_script", "_law_state_here", "_law_relations_here", "_law_facts", "_law_world", "_law_k", "_law_body_here", "_law_due", "_law_told", "_law_name"]) (sc := (C8.fnScope s_law)) (by decide +kernel)) (fun _ _ _ _ _ => (pg_name (i := 9) nd rfl (Or.inl rfl))) (fun _ _ _ _ _ => pts_nil) (fun _ _ _ _ _ => (pe_dget (hu_of hr) (fldK K (pv 4) rfl) (pv 9) (fun _ _ => rfl))))) (pa_cons (pe_lock (pe_lc (own := [("_law_name", 9)]) rfl nd (pi_keys (pv 3)) (blkOk_by (own := [("_law_name", 9)]) (N := ["_law_script", "_law_state_here", "_law_relations_here", "_law_facts", "_law_world", "_law_k", "_law_body_here", "_law_due", "_law_told", "_law_name"]) (sc := (C8.fnScope s_law)) (by decide +kernel)) (fun _ _ _ _ _ => (pg_name (i := 9) nd rfl (Or.inl rfl))) (fun _ _ _ _ _ => pts_nil) (fun _ _ _ _ _ => (pe_dget (hu_of hr) (pv 3) (pv 9) (fun _ _ => rfl))))) pa_nil)))))))))), ?_⟩
  -- the script's own state
  refine sqS ⟨_, rfl, a0, _, rfl, hS, fun sc hsc => ⟨z4, fun st hst => ?_⟩⟩
  have nsc : sc ≠ st := fun e => by rw [e, upd_same] at hst; cases hst
  have st1 : IsSt (upd (upd H sc (.lst (ns.map V.int))) st (.lst [.ref sc, .int 0, .int 0, .int 1])) st :=
    ⟨sc, ns, 0, 0, 1, by rw [upd_same]; rfl, by rw [upd_ne nsc, upd_same], nsc, Nat.zero_le _, by omega, by decide, by decide, by decide⟩
  generalize upd (upd H sc (.lst (ns.map V.int))) st (.lst [.ref sc, .int 0, .int 0, .int 1]) = H1 at st1 ⊢
  refine sqI ⟨_, rfl, st, _, rfl, st1, by decide, by decide, fun k H2 k0 k1 st2 b2 => ⟨rfl, _, rfl, ?_⟩⟩
  by_cases e7 : k = 7
  · exact ifEq (by rw [e7]) ⟨_, rfl, st, rfl, st2, fun H' => q H'⟩
  refine ifNe (fun z => e7 (by injection z)) ?_
  -- the relations and the facts
  refine sqG ⟨_, rfl, st, rfl, st2, fun a dr df H3 R F ha rA fA nr nf of r1 h5 st3 b3 => ?_⟩
  refine ⟨a, _, rfl, sqT ha, rfl, _, _, rfl, _, _, rfl, rfl, ?_⟩
  have oRs : OkRs R := ⟨r1, of.less, by rw [← of.names]; exact of.nd, of.short⟩
  -- the world
  refine sqS ⟨_, rfl, _, rfl, .ref dr, .ref df, R, F, rfl, rA.rels, fA.facts, of, fun vw H4 s4 hw => ?_⟩
  have st4 := st3.mono s4
  have rA4 := rA.mono (But.of s4) nr
  have fA4 := fA.mono (But.of s4) nf
  have hw4 := state_wo st4 hw
  clear hw rA fA ha b2 b3 st1 st2 st3 s4 hsc hst
  try dsimp only
  refine sqF ⟨2, rfl, by decide, by decide, ?_⟩
  refine for_range (n := 2) (fun i σ H5 => ∃ o5 o6 o7 o8, σ = [some (.ref a0), some (.ref st), some (.ref dr), some (.ref df), some vw, o5, o6, o7, o8, none] ∧ IsSt H5 st ∧ RelAt H5 st dr R ∧ FacAt H5 st df F ∧ IsState C (wo H5 st) vw R F)
    ⟨none, none, none, none, rfl, st4, rA4, fA4, hw4⟩ (fun i σ H5 hi h => ?_) fun σ H5 h => ?_
  · obtain ⟨o5, o6, o7, o8, rfl, st5, rA5, fA5, hw5⟩ := h
    refine sqS ⟨_, rfl, _, rfl, st, dr, R, rfl, st5, rA5, nr, oRs, fun vb H6 b hb okb lb nfb tx st6 b6 => ?_⟩
    have rA6 := rA5.mono b6 nr
    have fA6 := fA5.mono b6 nf
    have hw6 := hw5.mono b6.wo
    have oa : OkAsk R F b := okAsk (m := 5) of okb (by omega) h5 (by decide) (Nat.le_trans (Nat.pow_le_pow_right (by decide) nfb) (by decide))
    obtain ⟨a1, a2, a3⟩ := ans_ok oa
    have hwp := hw6.mono (wo_sub (H := H6) (st := st))
    have ff := fA6.facts
    refine sqS ⟨_, rfl, _, rfl, .ref df, vb, R, F, b, rfl, ff, hb, oa, fun vd H7 s7 hd => ?_⟩
    refine sqS ⟨_, rfl, _, rfl, vw, vb, R, F, b, rfl, hwp.mono s7, hb.mono s7.tup, oa, fun vt H8 s8 ht fresh => ?_⟩
    refine sqI ⟨_, rfl, _, rfl, .inr ⟨vt, vd, rfl, tree_ans ht (hd.mono s8) tx a3 a1 a2, _, rfl, iteF ?_⟩⟩
    -- what was told is changed
    obtain ⟨ta, tc, tl, xs, rfl, hta, htc, htl, px⟩ := id ht
    have ftl := fresh ta tc tl rfl hta
    have lxs := same_len px
    refine sqE ⟨_, rfl, _, _, _, _, rfl, rfl, sqT hta, rfl, .inl ⟨rfl, _, sqL htl⟩, z0, fun pe hpe => ?_⟩
    have s9 : Same H8 (upd H8 pe (.tup [])) := Same.new hpe
    refine ⟨tl, xs, .ref pe, rfl, rfl, s9 _ _ htl, sz_ok' (by omega), ?_⟩
    have s10 : Same H7 (upd (upd H8 pe (.tup [])) tl (.lst (xs ++ [.ref pe]))) := (s8.trans s9).mut ftl
    generalize upd (upd H8 pe (.tup [])) tl (.lst (xs ++ [.ref pe])) = H9 at s10 ⊢
    have s11 := s7.trans s10
    refine ⟨_, rfl, _, rfl, vw, vb, R, F, b, rfl, hwp.mono s11, hb.mono s11.tup, oa, fun vt2 H10 s12 ht2 _ => ?_⟩
    have s13 := s11.trans s12
    refine ⟨_, rfl, .inr ⟨vt2, vd, rfl, tree_ans ht2 (hd.mono (s10.trans s12)) tx a3 a1 a2, _, rfl, iteF ?_⟩⟩
    exact ⟨_, _, _, _, rfl, st6.mono s13, rA6.mono (But.of s13) nr, fA6.mono (But.of s13) nf, hw6.mono (But.of (st := st) s13).wo⟩
  -- the state stays
  obtain ⟨o5, o6, o7, o8, rfl, st5, rA5, fA5, hw5⟩ := h
  have hwp := hw5.mono (wo_sub (H := H5) (st := st))
  obtain ⟨kf, hdf, pfw⟩ := fA5
  have pf : Paired (IsFact H5) kf F := Paired.mapP pfw fun _ _ z => z.mono wo_sub
  obtain ⟨sa, dx, fs, y1, y2, rfl, hsa, f1, _, f2, ⟨d2, k2, rfl, hd2, p2⟩⟩ := hwp
  have lkf := same_len pf
  have lF : F.length ≤ 10 := by
    have e1 := congrArg List.length of.names
    rw [List.length_map, List.length_map] at e1
    have := of.less
    omega
  have okr := okFacts_rows of
  clear pfw rA5 hw5 st5 rA4 fA4 hw4 st4 oRs e7 h5
  refine ⟨df, .dK kf, hdf, trivial, fun od => ?_⟩
  have w6 : Same (wo H5 df) (upd H5 df (.frz od (.dK kf))) := wo_upd
  have hf6 : upd H5 df (.frz od (.dK kf)) df = some (.frz od (.dK kf)) := upd_same
  generalize upd H5 df (.frz od (.dK kf)) = H6 at w6 hf6 ⊢
  refine ⟨_, rfl, df, od, rfl, .inl ⟨kf, hf6, fun D hD => ?_⟩⟩
  have nD : D ≠ df := fun e => by rw [e, hf6] at hD; cases hD
  have hDw : wo H5 df D = none := w6.free hD
  refine lc_keysK (fun i H7 => Same (wo H5 df) H7 ∧ H7 df = some (.frz od (.dK kf)) ∧ ∃ acc, H7 D = some (.lst acc) ∧ Paired (fun x q => IsRows H5 x q.2) acc (F.take i)) ⟨w6.mut hDw, by rw [upd_ne nD.symm]; exact hf6, [], upd_same, .nil⟩ (fun i H7 _ h => h.2.1) (fun i k v H7 hk h => ?_) fun H7 h => ?_
  · obtain ⟨w7, hf7, acc, h7, pa⟩ := h
    obtain ⟨n, rs, eF, rfl, _, hv, _⟩ := names_at pf of.nd hk
    have mem : n ∈ F.map (·.1) := List.mem_map.mpr ⟨(n, rs), List.mem_of_getElem? eF, rfl⟩
    obtain ⟨x, hx, rx⟩ := fact_get p2 mem
    rw [rowsOf_at of.nd eF] at rx
    have hsa7 := w7 _ _ (show wo H5 df sa = some (.ins C dx fs) by rw [wo_ne (ne_of hsa hdf fun z => nomatch z)]; exact hsa)
    have get : DGet H7 d2 (.str n) (some x) := by
      by_cases c : d2 = df
      · subst c
        rw [hdf] at hd2
        cases hd2
        exact dgetZ hf7 hx
      · exact dgetS (w7 _ _ (by rw [wo_ne c]; exact hd2)) hx
    have la := same_len pa
    have lt : (F.take i).length ≤ F.length := List.length_take_le' _ _
    refine ⟨rfl, tyes (iteT ⟨_, rfl, sa, C, dx, fs, _, rfl, hsa7, T.cl, T.no_facts, f2, _, rfl, d2, x, rfl, get, acc, h7, sz_ok' (by omega), w7.mut hDw, by rw [upd_ne nD.symm]; exact hf7, _, upd_same, ?_⟩)⟩
    rw [take_snoc eF]
    exact Paired.app pa (.cons rx .nil)
  obtain ⟨w7, hf7, acc, h7, pa⟩ := h
  rw [lkf, List.take_length] at pa
  refine ⟨hf7, ?_⟩
  have w8 : Same H5 (upd H7 df (.dK kf)) := fun b o e => by
    by_cases n : b = df
    · subst n
      rw [hdf] at e
      rw [upd_same, ← Option.some.inj e]
    · rw [upd_ne n]
      exact w7 _ _ (by rw [wo_ne n]; exact e)
  have h8 : upd H7 df (.dK kf) D = some (.lst acc) := by rw [upd_ne nD]; exact h7
  generalize upd H7 df (.dK kf) = H8 at w8 h8 ⊢
  -- the second list
  have hdf8 := w8 _ _ hdf
  refine ⟨df, .dK kf, hdf8, trivial, fun od2 => ?_⟩
  have w9 : Same (wo H8 df) (upd H8 df (.frz od2 (.dK kf))) := wo_upd
  have hf9 : upd H8 df (.frz od2 (.dK kf)) df = some (.frz od2 (.dK kf)) := upd_same
  generalize upd H8 df (.frz od2 (.dK kf)) = H9 at w9 hf9 ⊢
  refine ⟨_, rfl, df, od2, rfl, .inl ⟨kf, hf9, fun D2 hD2 => ?_⟩⟩
  have nD2 : D2 ≠ df := fun e => by rw [e, hf9] at hD2; cases hD2
  have hDw2 : wo H8 df D2 = none := w9.free hD2
  refine lc_keysK (fun i H7 => Same (wo H8 df) H7 ∧ H7 df = some (.frz od2 (.dK kf)) ∧ ∃ acc, H7 D2 = some (.lst acc) ∧ Paired (fun x q => IsRows H5 x q.2) acc (F.take i)) ⟨w9.mut hDw2, by rw [upd_ne nD2.symm]; exact hf9, [], upd_same, .nil⟩ (fun i H7 _ h => h.2.1) (fun i k v H7 hk h => ?_) fun H10 h => ?_
  · obtain ⟨w7, hf7, acc, h7, pa⟩ := h
    obtain ⟨n, rs, eF, rfl, rx, hv, _⟩ := names_at pf of.nd hk
    have la := same_len pa
    have lt : (F.take i).length ≤ F.length := List.length_take_le' _ _
    refine ⟨rfl, tyes (iteT ⟨_, rfl, _, rfl, df, v, rfl, dgetZ hf7 hv, acc, h7, sz_ok' (by omega), w7.mut hDw2, by rw [upd_ne nD2.symm]; exact hf7, _, upd_same, ?_⟩)⟩
    rw [take_snoc eF]
    exact Paired.app pa (.cons rx .nil)
  obtain ⟨w10, hf10, acc2, h10, pa2⟩ := h
  rw [lkf, List.take_length] at pa2
  refine ⟨hf10, ?_⟩
  have w11 : Same H8 (upd H10 df (.dK kf)) := fun b o e => by
    by_cases n : b = df
    · subst n
      rw [hdf8] at e
      rw [upd_same, ← Option.some.inj e]
    · rw [upd_ne n]
      exact w10 _ _ (by rw [wo_ne n]; exact e)
  have h11 : upd H10 df (.dK kf) D2 = some (.lst acc2) := by rw [upd_ne nD2]; exact h10
  generalize upd H10 df (.dK kf) = H11 at w11 h11 ⊢
  have S := w8.trans w11
  have lacc := same_len pa
  refine .inr ⟨.ref D, .ref D2, rfl, tree_lst (n := 3) (w11 _ _ h8) h11 (by omega) (Paired.join pa pa2 fun x y p hp h1 h2 => ?_), q H11⟩
  exact tree_rows (n := 0) (h1.mono S) (h2.mono S) (okr p hp).1 (okr p hp).2
end
end Tk

/-! ## TkEnd -/
set_option Elab.async false
set_option linter.all false
set_option maxRecDepth 100000
set_option maxHeartbeats 0
/-! What the top has left; the law's end. -/
namespace Tk
open PySem PySem.Spec PyProof.Rows L2
theorem fun_of {K : PySem.W.Frag} {x qual : Str} {st : Stmt} {dvs : List V} {kws : List (Str × V)} {f : Addr} {fd : FuncData} (F : FunD K x qual (C8.fnArgs st) (C8.fnBody st) (C8.fnScope st) dvs kws f fd) : C8.Fun K x qual st f fd := by
  obtain ⟨oc, od, dV, kV, doc, pm, an, cdv, ct, osl, e, lk, hcd, _, _⟩ := F.ex
  exact ⟨oc, od, dV, kV, doc, pm, an, cdv, ct, osl, e, lk, hcd⟩
section
variable {K : PySem.W.Frag} {h : Heap} {mg : Str → Option Value} {x : Str} {st : Stmt} {fd : FuncData}
theorem def_of (X : K.In h) (G : h.Ns mainGlobals mg) (g : (He.Fa.glo x).ok K = true) (F : FunD K x x (C8.fnArgs st) (C8.fnBody st) (C8.fnScope st) [] [] (He.fAd K (x, none)) fd) : C8.Def K mg x st (He.ga K x) fd := ⟨fun_of F, He.glo_ok X G g, F.kp⟩
end
def dOf (x : Str) (st : Stmt) : He.DefD := ⟨(x, none), x, x, C8.fnArgs st, C8.fnBody st, C8.fnScope st, [], []⟩
def mOf (x q : Str) (st : Stmt) : He.DefD := ⟨("State", some x), x, q, C8.fnArgs st, C8.fnBody st, C8.fnScope st, [], []⟩
def dInit : He.DefD := ⟨("State", some "__init__"), "__init__", "State.__init__", C8.fnArgs s_minit, C8.fnBody s_minit, C8.fnScope s_minit, [.adr (He.dflAt ("State", some "__init__") 0)], []⟩
def fnL : List He.DefD := [dOf "value_key" s_value_key,
  dOf "row_key" s_row_key,
  dOf "has_relation" s_has_relation,
  dOf "names_in" s_names_in,
  dOf "check_relation" s_check_relation,
  dOf "check_term" s_check_term,
  dOf "newly_bound" s_newly_bound,
  dOf "check" s_check,
  dOf "value_of" s_value_of,
  dOf "met" s_met,
  dOf "meetings" s_meetings,
  dOf "compared" s_compared,
  dOf "total_of" s_total_of,
  dOf "ways_behind" s_ways_behind,
  dOf "answer" s_answer,
  dOf "_law_next" s_law_next,
  dOf "_law_same" s_law_same,
  dOf "_law_value" s_law_value,
  dOf "_law_order" s_law_order,
  dOf "_law_row_order" s_law_row_order,
  dOf "_law_sorted" s_law_sorted,
  dOf "_law_relations" s_law_relations,
  dOf "_law_state" s_law_state,
  dOf "_law_term" s_law_term,
  dOf "_law_literal" s_law_literal,
  dOf "_law_known" s_law_known,
  dOf "_law_settled" s_law_settled,
  dOf "_law_body" s_law_body,
  dOf "_law_meeting" s_law_meeting,
  dOf "_law_worth" s_law_worth,
  dOf "_law_compared" s_law_compared,
  dOf "_law_totals" s_law_totals,
  dOf "_law_behind" s_law_behind,
  dOf "_law_columns" s_law_columns,
  dOf "_law_answer" s_law_answer,
  dOf "_law_many" s_law_many,
  dOf "law" s_law,
  mOf "_put" "State._put" s_mput,
  mOf "_order_facts" "State._order_facts" s_morder_facts,
  mOf "has" "State.has" s_mhas,
  dInit]
def fa0 : List He.Fa := [.free "isinstance", .free "int", .free "str", .free "bool", .free "tuple", .free "list", .free "dict", .free "len", .free "range", .free "zip", .free "sorted", .free "sum", .free "any", .glo "value_key", .glo "row_key", .glo "has_relation", .glo "names_in", .glo "check_relation", .glo "check_term", .glo "newly_bound", .glo "check", .glo "value_of", .glo "met", .glo "meetings", .glo "compared", .glo "total_of", .glo "ways_behind", .glo "answer", .glo "_law_next", .glo "_law_same"]
def fa1 : List He.Fa := [.glo "_law_value", .glo "_law_order", .glo "_law_row_order", .glo "_law_sorted", .glo "_law_relations", .glo "_law_state", .glo "_law_term", .glo "_law_literal", .glo "_law_known", .glo "_law_settled", .glo "_law_body", .glo "_law_meeting", .glo "_law_worth", .glo "_law_compared", .glo "_law_totals", .glo "_law_behind", .glo "_law_columns", .glo "_law_answer", .glo "_law_many", .glo "law", .cls "State", .noat "State" "relations", .noat "State" "facts", .noat "State" "structures", .noat "State" "layouts", .meth "State" "_put", .meth "State" "_order_facts", .meth "State" "has", .mkr "State", .glo "State"]
def faL : List He.Fa := fa0 ++ fa1
def loose0 : List Str := ["_wall", "ShelfError", "Refused", "value_key", "row_key", "has_relation", "names_in", "check_relation", "check_term", "newly_bound", "check", "value_of", "met", "meetings", "compared", "total_of", "ways_behind", "answer", "State", "_law_next", "_law_same", "_law_value", "_law_order", "_law_row_order", "_law_sorted", "_law_relations", "_law_state", "_law_term", "_law_literal", "_law_known"]
def loose1 : List Str := ["_law_settled", "_law_body", "_law_meeting", "_law_worth", "_law_compared", "_law_totals", "_law_behind", "_law_columns", "_law_answer", "_law_calls", "_law_many"]
def looseL : List Str := loose0 ++ loose1
theorem tx_of {K : PySem.W.Frag} {h : Heap} {mg : Str → Option Value} (X : K.In h) (G : h.Ns mainGlobals mg) (c : He.SaysD faL fnL K) : Tx K mg (He.ga K "State") where
  n_isinstance := He.free_ok X G (c.fact 0 (f := .free "isinstance") rfl)
  n_int := He.free_ok X G (c.fact 1 (f := .free "int") rfl)
  n_str := He.free_ok X G (c.fact 2 (f := .free "str") rfl)
  n_bool := He.free_ok X G (c.fact 3 (f := .free "bool") rfl)
  n_tuple := He.free_ok X G (c.fact 4 (f := .free "tuple") rfl)
  n_list := He.free_ok X G (c.fact 5 (f := .free "list") rfl)
  n_dict := He.free_ok X G (c.fact 6 (f := .free "dict") rfl)
  n_len := He.free_ok X G (c.fact 7 (f := .free "len") rfl)
  n_range := He.free_ok X G (c.fact 8 (f := .free "range") rfl)
  n_zip := He.free_ok X G (c.fact 9 (f := .free "zip") rfl)
  n_sorted := He.free_ok X G (c.fact 10 (f := .free "sorted") rfl)
  n_sum := He.free_ok X G (c.fact 11 (f := .free "sum") rfl)
  n_any := He.free_ok X G (c.fact 12 (f := .free "any") rfl)
  d_value_key := by
    obtain ⟨fd, F⟩ := c.def_ 0 (d := dOf "value_key" s_value_key) rfl
    exact ⟨_, fd, def_of X G (c.fact 13 (f := .glo "value_key") rfl) F, FunD.bindsN (ps := ["value"]) F fun _ _ _ _ _ _ us hl => match us, hl with | [_], _ => rfl⟩
  d_row_key := by
    obtain ⟨fd, F⟩ := c.def_ 1 (d := dOf "row_key" s_row_key) rfl
    exact ⟨_, fd, def_of X G (c.fact 14 (f := .glo "row_key") rfl) F, FunD.bindsN (ps := ["row"]) F fun _ _ _ _ _ _ us hl => match us, hl with | [_], _ => rfl⟩
  d_has_relation := by
    obtain ⟨fd, F⟩ := c.def_ 2 (d := dOf "has_relation" s_has_relation) rfl
    exact ⟨_, fd, def_of X G (c.fact 15 (f := .glo "has_relation") rfl) F, FunD.bindsN (ps := ["literal"]) F fun _ _ _ _ _ _ us hl => match us, hl with | [_], _ => rfl⟩
  d_names_in := by
    obtain ⟨fd, F⟩ := c.def_ 3 (d := dOf "names_in" s_names_in) rfl
    exact ⟨_, fd, def_of X G (c.fact 16 (f := .glo "names_in") rfl) F, FunD.bindsN (ps := ["terms"]) F fun _ _ _ _ _ _ us hl => match us, hl with | [_], _ => rfl⟩
  d_check_relation := by
    obtain ⟨fd, F⟩ := c.def_ 4 (d := dOf "check_relation" s_check_relation) rfl
    exact ⟨_, fd, def_of X G (c.fact 17 (f := .glo "check_relation") rfl) F, FunD.bindsN (ps := ["state", "literal"]) F fun _ _ _ _ _ _ us hl => match us, hl with | [_, _], _ => rfl⟩
  d_check_term := by
    obtain ⟨fd, F⟩ := c.def_ 5 (d := dOf "check_term" s_check_term) rfl
    exact ⟨_, fd, def_of X G (c.fact 18 (f := .glo "check_term") rfl) F, FunD.bindsN (ps := ["term", "known"]) F fun _ _ _ _ _ _ us hl => match us, hl with | [_, _], _ => rfl⟩
  d_newly_bound := by
    obtain ⟨fd, F⟩ := c.def_ 6 (d := dOf "newly_bound" s_newly_bound) rfl
    exact ⟨_, fd, def_of X G (c.fact 19 (f := .glo "newly_bound") rfl) F, FunD.bindsN (ps := ["literal", "bound"]) F fun _ _ _ _ _ _ us hl => match us, hl with | [_, _], _ => rfl⟩
  d_check := by
    obtain ⟨fd, F⟩ := c.def_ 7 (d := dOf "check" s_check) rfl
    exact ⟨_, fd, def_of X G (c.fact 20 (f := .glo "check") rfl) F, FunD.bindsN (ps := ["state", "body"]) F fun _ _ _ _ _ _ us hl => match us, hl with | [_, _], _ => rfl⟩
  d_value_of := by
    obtain ⟨fd, F⟩ := c.def_ 8 (d := dOf "value_of" s_value_of) rfl
    exact ⟨_, fd, def_of X G (c.fact 21 (f := .glo "value_of") rfl) F, FunD.bindsN (ps := ["term", "way"]) F fun _ _ _ _ _ _ us hl => match us, hl with | [_, _], _ => rfl⟩
  d_met := by
    obtain ⟨fd, F⟩ := c.def_ 9 (d := dOf "met" s_met) rfl
    exact ⟨_, fd, def_of X G (c.fact 22 (f := .glo "met") rfl) F, FunD.bindsN (ps := ["terms", "row", "way"]) F fun _ _ _ _ _ _ us hl => match us, hl with | [_, _, _], _ => rfl⟩
  d_meetings := by
    obtain ⟨fd, F⟩ := c.def_ 10 (d := dOf "meetings" s_meetings) rfl
    exact ⟨_, fd, def_of X G (c.fact 23 (f := .glo "meetings") rfl) F, FunD.bindsN (ps := ["state", "literal", "way"]) F fun _ _ _ _ _ _ us hl => match us, hl with | [_, _, _], _ => rfl⟩
  d_compared := by
    obtain ⟨fd, F⟩ := c.def_ 11 (d := dOf "compared" s_compared) rfl
    exact ⟨_, fd, def_of X G (c.fact 24 (f := .glo "compared") rfl) F, FunD.bindsN (ps := ["operator", "first", "second"]) F fun _ _ _ _ _ _ us hl => match us, hl with | [_, _, _], _ => rfl⟩
  d_total_of := by
    obtain ⟨fd, F⟩ := c.def_ 12 (d := dOf "total_of" s_total_of) rfl
    exact ⟨_, fd, def_of X G (c.fact 25 (f := .glo "total_of") rfl) F, FunD.bindsN (ps := ["literal", "found"]) F fun _ _ _ _ _ _ us hl => match us, hl with | [_, _], _ => rfl⟩
  d_ways_behind := by
    obtain ⟨fd, F⟩ := c.def_ 13 (d := dOf "ways_behind" s_ways_behind) rfl
    exact ⟨_, fd, def_of X G (c.fact 26 (f := .glo "ways_behind") rfl) F, FunD.bindsN (ps := ["state", "literal", "way"]) F fun _ _ _ _ _ _ us hl => match us, hl with | [_, _, _], _ => rfl⟩
  d_answer := by
    obtain ⟨fd, F⟩ := c.def_ 14 (d := dOf "answer" s_answer) rfl
    exact ⟨_, fd, def_of X G (c.fact 27 (f := .glo "answer") rfl) F, FunD.bindsN (ps := ["state", "body"]) F fun _ _ _ _ _ _ us hl => match us, hl with | [_, _], _ => rfl⟩
  d_law_next := by
    obtain ⟨fd, F⟩ := c.def_ 15 (d := dOf "_law_next" s_law_next) rfl
    exact ⟨_, fd, def_of X G (c.fact 28 (f := .glo "_law_next") rfl) F, FunD.bindsN (ps := ["_law_state_here", "_law_limit"]) F fun _ _ _ _ _ _ us hl => match us, hl with | [_, _], _ => rfl⟩
  d_law_same := by
    obtain ⟨fd, F⟩ := c.def_ 16 (d := dOf "_law_same" s_law_same) rfl
    exact ⟨_, fd, def_of X G (c.fact 29 (f := .glo "_law_same") rfl) F, FunD.bindsN (ps := ["_law_actual", "_law_expected"]) F fun _ _ _ _ _ _ us hl => match us, hl with | [_, _], _ => rfl⟩
  d_law_value := by
    obtain ⟨fd, F⟩ := c.def_ 17 (d := dOf "_law_value" s_law_value) rfl
    exact ⟨_, fd, def_of X G (c.fact 30 (f := .glo "_law_value") rfl) F, FunD.bindsN (ps := ["_law_state_here"]) F fun _ _ _ _ _ _ us hl => match us, hl with | [_], _ => rfl⟩
  d_law_order := by
    obtain ⟨fd, F⟩ := c.def_ 18 (d := dOf "_law_order" s_law_order) rfl
    exact ⟨_, fd, def_of X G (c.fact 31 (f := .glo "_law_order") rfl) F, FunD.bindsN (ps := ["_law_value_here"]) F fun _ _ _ _ _ _ us hl => match us, hl with | [_], _ => rfl⟩
  d_law_row_order := by
    obtain ⟨fd, F⟩ := c.def_ 19 (d := dOf "_law_row_order" s_law_row_order) rfl
    exact ⟨_, fd, def_of X G (c.fact 32 (f := .glo "_law_row_order") rfl) F, FunD.bindsN (ps := ["_law_row"]) F fun _ _ _ _ _ _ us hl => match us, hl with | [_], _ => rfl⟩
  d_law_sorted := by
    obtain ⟨fd, F⟩ := c.def_ 20 (d := dOf "_law_sorted" s_law_sorted) rfl
    exact ⟨_, fd, def_of X G (c.fact 33 (f := .glo "_law_sorted") rfl) F, FunD.bindsN (ps := ["_law_rows"]) F fun _ _ _ _ _ _ us hl => match us, hl with | [_], _ => rfl⟩
  d_law_relations := by
    obtain ⟨fd, F⟩ := c.def_ 21 (d := dOf "_law_relations" s_law_relations) rfl
    exact ⟨_, fd, def_of X G (c.fact 34 (f := .glo "_law_relations") rfl) F, FunD.bindsN (ps := ["_law_state_here", "_law_most"]) F fun _ _ _ _ _ _ us hl => match us, hl with | [_, _], _ => rfl⟩
  d_law_state := by
    obtain ⟨fd, F⟩ := c.def_ 22 (d := dOf "_law_state" s_law_state) rfl
    exact ⟨_, fd, def_of X G (c.fact 35 (f := .glo "_law_state") rfl) F, FunD.bindsN (ps := ["_law_relations_here", "_law_facts"]) F fun _ _ _ _ _ _ us hl => match us, hl with | [_, _], _ => rfl⟩
  d_law_term := by
    obtain ⟨fd, F⟩ := c.def_ 23 (d := dOf "_law_term" s_law_term) rfl
    exact ⟨_, fd, def_of X G (c.fact 36 (f := .glo "_law_term") rfl) F, FunD.bindsN (ps := ["_law_state_here", "_law_bound"]) F fun _ _ _ _ _ _ us hl => match us, hl with | [_, _], _ => rfl⟩
  d_law_literal := by
    obtain ⟨fd, F⟩ := c.def_ 24 (d := dOf "_law_literal" s_law_literal) rfl
    exact ⟨_, fd, def_of X G (c.fact 37 (f := .glo "_law_literal") rfl) F, FunD.bindsN (ps := ["_law_state_here", "_law_relations_here", "_law_bound", "_law_faults"]) F fun _ _ _ _ _ _ us hl => match us, hl with | [_, _, _, _], _ => rfl⟩
  d_law_known := by
    obtain ⟨fd, F⟩ := c.def_ 25 (d := dOf "_law_known" s_law_known) rfl
    exact ⟨_, fd, def_of X G (c.fact 38 (f := .glo "_law_known") rfl) F, FunD.bindsN (ps := ["_law_term_here", "_law_bound"]) F fun _ _ _ _ _ _ us hl => match us, hl with | [_, _], _ => rfl⟩
  d_law_settled := by
    obtain ⟨fd, F⟩ := c.def_ 26 (d := dOf "_law_settled" s_law_settled) rfl
    exact ⟨_, fd, def_of X G (c.fact 39 (f := .glo "_law_settled") rfl) F, FunD.bindsN (ps := ["_law_term_here", "_law_bound"]) F fun _ _ _ _ _ _ us hl => match us, hl with | [_, _], _ => rfl⟩
  d_law_body := by
    obtain ⟨fd, F⟩ := c.def_ 27 (d := dOf "_law_body" s_law_body) rfl
    exact ⟨_, fd, def_of X G (c.fact 40 (f := .glo "_law_body") rfl) F, FunD.bindsN (ps := ["_law_state_here", "_law_relations_here", "_law_faults"]) F fun _ _ _ _ _ _ us hl => match us, hl with | [_, _, _], _ => rfl⟩
  d_law_meeting := by
    obtain ⟨fd, F⟩ := c.def_ 28 (d := dOf "_law_meeting" s_law_meeting) rfl
    exact ⟨_, fd, def_of X G (c.fact 41 (f := .glo "_law_meeting") rfl) F, FunD.bindsN (ps := ["_law_terms", "_law_row", "_law_way"]) F fun _ _ _ _ _ _ us hl => match us, hl with | [_, _, _], _ => rfl⟩
  d_law_worth := by
    obtain ⟨fd, F⟩ := c.def_ 29 (d := dOf "_law_worth" s_law_worth) rfl
    exact ⟨_, fd, def_of X G (c.fact 42 (f := .glo "_law_worth") rfl) F, FunD.bindsN (ps := ["_law_term_here", "_law_way"]) F fun _ _ _ _ _ _ us hl => match us, hl with | [_, _], _ => rfl⟩
  d_law_compared := by
    obtain ⟨fd, F⟩ := c.def_ 30 (d := dOf "_law_compared" s_law_compared) rfl
    exact ⟨_, fd, def_of X G (c.fact 43 (f := .glo "_law_compared") rfl) F, FunD.bindsN (ps := ["_law_operator", "_law_first", "_law_second"]) F fun _ _ _ _ _ _ us hl => match us, hl with | [_, _, _], _ => rfl⟩
  d_law_totals := by
    obtain ⟨fd, F⟩ := c.def_ 31 (d := dOf "_law_totals" s_law_totals) rfl
    exact ⟨_, fd, def_of X G (c.fact 44 (f := .glo "_law_totals") rfl) F, FunD.bindsN (ps := ["_law_literal_here", "_law_ways"]) F fun _ _ _ _ _ _ us hl => match us, hl with | [_, _], _ => rfl⟩
  d_law_behind := by
    obtain ⟨fd, F⟩ := c.def_ 32 (d := dOf "_law_behind" s_law_behind) rfl
    exact ⟨_, fd, def_of X G (c.fact 45 (f := .glo "_law_behind") rfl) F, FunD.bindsN (ps := ["_law_facts", "_law_literal_here", "_law_way"]) F fun _ _ _ _ _ _ us hl => match us, hl with | [_, _, _], _ => rfl⟩
  d_law_columns := by
    obtain ⟨fd, F⟩ := c.def_ 33 (d := dOf "_law_columns" s_law_columns) rfl
    exact ⟨_, fd, def_of X G (c.fact 46 (f := .glo "_law_columns") rfl) F, FunD.bindsN (ps := ["_law_body_here"]) F fun _ _ _ _ _ _ us hl => match us, hl with | [_], _ => rfl⟩
  d_law_answer := by
    obtain ⟨fd, F⟩ := c.def_ 34 (d := dOf "_law_answer" s_law_answer) rfl
    exact ⟨_, fd, def_of X G (c.fact 47 (f := .glo "_law_answer") rfl) F, FunD.bindsN (ps := ["_law_facts", "_law_body_here"]) F fun _ _ _ _ _ _ us hl => match us, hl with | [_, _], _ => rfl⟩
  d_law_many := by
    obtain ⟨fd, F⟩ := c.def_ 35 (d := dOf "_law_many" s_law_many) rfl
    exact ⟨_, fd, def_of X G (c.fact 48 (f := .glo "_law_many") rfl) F, FunD.bindsN (ps := ["_law_state_here"]) F fun _ _ _ _ _ _ us hl => match us, hl with | [_], _ => rfl⟩
  d_law := by
    obtain ⟨fd, F⟩ := c.def_ 36 (d := dOf "law" s_law) rfl
    exact ⟨_, fd, def_of X G (c.fact 49 (f := .glo "law") rfl) F, FunD.bindsN (ps := ["_law_script"]) F fun _ _ _ _ _ _ us hl => match us, hl with | [_], _ => rfl⟩
  cl := He.cls_ok (c.fact 50 (f := .cls "State") rfl)
  no_relations := He.noat_ok (c.fact 51 (f := .noat "State" "relations") rfl)
  no_facts := He.noat_ok (c.fact 52 (f := .noat "State" "facts") rfl)
  no_structures := He.noat_ok (c.fact 53 (f := .noat "State" "structures") rfl)
  no_layouts := He.noat_ok (c.fact 54 (f := .noat "State" "layouts") rfl)
  m_put := by
    obtain ⟨fd, F⟩ := c.def_ 37 (d := mOf "_put" "State._put" s_mput) rfl
    exact ⟨_, fd, He.meth_ok (c.fact 55 (f := .meth "State" "_put") rfl), fun_of F, FunD.bindsN (ps := ["self", "item"]) F fun _ _ _ _ _ _ us hl => match us, hl with | [_, _], _ => rfl⟩
  m_order_facts := by
    obtain ⟨fd, F⟩ := c.def_ 38 (d := mOf "_order_facts" "State._order_facts" s_morder_facts) rfl
    exact ⟨_, fd, He.meth_ok (c.fact 56 (f := .meth "State" "_order_facts") rfl), fun_of F, FunD.bindsN (ps := ["self"]) F fun _ _ _ _ _ _ us hl => match us, hl with | [_], _ => rfl⟩
  m_has := by
    obtain ⟨fd, F⟩ := c.def_ 39 (d := mOf "has" "State.has" s_mhas) rfl
    exact ⟨_, fd, He.meth_ok (c.fact 57 (f := .meth "State" "has") rfl), fun_of F, FunD.bindsN (ps := ["self", "relation", "row"]) F fun _ _ _ _ _ _ us hl => match us, hl with | [_, _, _], _ => rfl⟩
  init := by
    obtain ⟨fd, F⟩ := c.def_ 40 (d := dInit) rfl
    obtain ⟨ds, r, b⟩ := FunD.binds1 (ps := ["self", "items"]) F 2 1 (fun z => nomatch z) rfl fun _ _ _ _ _ _ _ us its hl hi => match us, hl, its, hi with | [_, _], _, [_], _ => ⟨_, rfl, rfl⟩
    cases r
    exact ⟨_, fd, He.mkr_ok (c.fact 58 (f := .mkr "State") rfl), fun_of F, b⟩
  gC := He.glo_ok X G (c.fact 59 (f := .glo "State") rfl)
section
variable {P : Program} {w : World} {K : PySem.W.Frag} {mg : Str → Option Value} {base : Heap} {C : Addr}
theorem law_ok {f : Addr} {fd : FuncData} (D : C8.Def K mg "law" s_law f fd) (T : Tx K mg C) : FnOk P w K mg base C8.CX0 10 f fd ["_law_script"] (spLaw K) := by
  have vk := c_value_key (P := P) (w := w) (base := base) T
  have rk := c_row_key T vk
  have hr := c_has_relation (P := P) (w := w) (base := base) T
  have ni := c_names_in (P := P) (w := w) (base := base) T
  have cr := c_check_relation (P := P) (w := w) (base := base) T
  have ct := c_check_term (P := P) (w := w) (base := base) T
  have nb : ∀ R, C8.Cal P w K mg base 2 "newly_bound" (spNB R) [] := fun R => c_newly_bound T ni ct
  have ck := c_check T hr cr nb
  have vo := c_value_of (P := P) (w := w) (base := base) T
  have mt := c_met (P := P) (w := w) (base := base) T
  have ms := c_meetings T mt
  have cp := c_compared T vk
  have tt := c_total_of T vo vk
  have wb := c_ways_behind T vo cp ms tt
  have an := c_answer T ck wb rk
  have mh := m_has (P := P) (w := w) (base := base) T
  have mp := m_put T mh
  have mo := m_order_facts T rk
  have mi := m_init T mp mo
  have s0 := c_same (P := P) (w := w) (base := base) T 0
  have s3 := c_same (P := P) (w := w) (base := base) T 3
  have lo := c_law_order (P := P) (w := w) (base := base) T
  have lr := c_law_row_order T lo
  have ls := c_law_sorted T lr
  have lw := c_law_worth (P := P) (w := w) (base := base) T
  have lc := c_law_compared T lo
  have lm := c_law_meeting T s0
  have lt := c_law_totals T lo lw
  have lb := c_law_behind T s0 lc lw lm lt
  have lco := c_law_columns (P := P) (w := w) (base := base) T
  have la := c_law_answer T lco lb ls
  have nx := c_law_next (P := P) (w := w) (base := base) T
  have vl := c_law_value T nx
  have te := c_law_term T nx vl
  have kn := c_law_known (P := P) (w := w) (base := base) T
  have se := c_law_settled (P := P) (w := w) (base := base) T
  have lst := c_law_state T mi
  have re := c_law_relations T nx vl ls
  have li := c_law_literal T nx te kn se
  have bo := c_law_body T nx li
  have ma := c_law_many T nx lst an la s3
  exact f_law D T nx ma re lst bo an la s3
end
abbrev R : PySem.W.OpenRow := PySem.W.OpenLaw.row PySem.Challenge.rw_turnshelves_k21_whole_answers
abbrev hk : PySem.W.Hook := He.hookD 5 faL fnL
def ob (s : PySem.W.SharedT) : He.AlD := He.obsDG 5 faL fnL (HandSHeadRun.getT s)
theorem ob_eq (s : PySem.W.SharedT) : ob s = hk.obs s.abs := He.obsDG_eq (HandSHeadRun.getT_eq s)
theorem run (w : World) : HandSHeadRun.RunEq R (PySem.W.view R.prog [46]) hk ob 4000 looseL w := by
  intro os
  kernel_rfl
theorem facts {P : Program} {w : World} {K : PySem.W.Frag} {h : Heap} {mg : Str → Option Value} {f : Addr} (X : K.In h) (G : h.Ns mainGlobals mg) (hfa : mg ("law" : Str) = some (.ref f)) (c : He.SaysD faL fnL K) :
    ∃ fd : FuncData, (∀ (s : Shared) (v : Value), BindsTo s fd ⟨[v], []⟩ [("_law_script", v)]) ∧ ∀ base : Heap, FnOk P w K mg base C8.CX0 10 f fd ["_law_script"] (spLaw K) := by
  obtain ⟨fd, F⟩ := c.def_ 36 (d := dOf "law" s_law) rfl
  have g := c.fact 49 (f := .glo "law") rfl
  have e := hfa.symm.trans (He.glo_ok X G g)
  cases e
  have b := FunD.bindsA (ps := ["_law_script"]) F fun _ _ _ _ _ _ us hl => match us, hl with | [_], _ => rfl
  exact ⟨fd, fun s v => b s [v] rfl, fun base => law_ok (def_of X G g F) (tx_of X G c)⟩
end Tk
open PySem PySem.W PySem.Calls PyProof.Rows
theorem PySem.Challenge.cw_turnshelves_k21_whole_answers_holds : PySem.Challenge.rw_turnshelves_k21_whole_answers.Holds := by
  w_on; o_law
  refine HandSHeadRun.head_any (r := OpenLaw.row PySem.Challenge.rw_turnshelves_k21_whole_answers) (q := view (OpenLaw.row PySem.Challenge.rw_turnshelves_k21_whole_answers).prog [46]) (H := Tk.hk) (ob := Tk.ob) (M := 4000) (loose := Tk.looseL) (d := HandSHeadRun.topDef (OpenLaw.row PySem.Challenge.rw_turnshelves_k21_whole_answers).prog 46) (kwd := []) Tk.ob_eq
    (by kernel_rfl) (fun s => by kernel_rfl) Tk.run (by kernel_rfl) (by kernel_rfl) (by kernel_rfl) (by rfl) (by first | assumption | decide +kernel) (by decide +kernel) ⟨rfl, rfl, rfl, rfl, rfl, by decide +kernel⟩ ?hw ?hc
  case hw => w_witness2
  case hc =>
    refine L2.walk_ofE (l := PySem.Challenge.rw_turnshelves_k21_whole_answers) (n := 63) (k := 10) (x := "_law_script") (CX := C8.CX0) rfl (by decide) (by kernel_rfl) ⟨rfl, by decide, by decide⟩ ?F (fun _ _ _ _ z => z)
    intro w mg fa h Y G hmg0
    obtain ⟨K, KX, c⟩ := Y
    have hmg : mg ("law" : PySem.Str) = some (.ref fa) := by
      have e : (HandSHeadRun.topDef (OpenLaw.row PySem.Challenge.rw_turnshelves_k21_whole_answers).prog 46).name = ("law" : PySem.Str) := by kernel_rfl
      rw [← e]
      exact hmg0
    obtain ⟨fd, hb, hF⟩ := Tk.facts (P := (PySem.Challenge.rw_turnshelves_k21_whole_answers).prog) (w := w) KX G hmg c
    exact ⟨K, fd, Tk.spLaw K, KX, hb, fun H a ns hl _ hS => ⟨a, ns, rfl, hS, hl, fun _ => rfl⟩, fun base _ _ => hF base⟩


